import PyProof.Rows.All
import Wide.All
import OpenK.AllK
import Wide.FinOn
import HandS.ForMost
import HandS.ForExc
import HandS.Flow
import HandS.TupAny
import HandS.Defaults
import HandS.HeadHook1
import HandS.HeadHook2
import HandS.ExcIs
import HandS.ExcValue
import HandS.IsInst
import HandS.Deep
import HandS.Conv
import HandS.TupMul
import HandS.More
import HandS.NoneIn
import HandS.HeadHook3
import HandS.Exc
import HandS.Strs
import KE.DataFind
import HandS.Style
import HandS.TryOnly
import HandS.SetFor
import KE.SortData
import KE.DataMinMax
import HandS.ListItems
import KE.KDictSum
import HandS.Iter
import HandS.Text
import HandS.Replace
import HandS.Steps
import HandS.DictComp
import PyProof.AttrMissHeap
import HandS.Codes
import KE.KEqNest
import HandS.Head0
import HandS.Head1
import HandS.Head2
import HandS.HeadEnd
import HandS.HeadHook4
import KE.KStateDown
import PySem.Challenge.RW_signlearn_k91_whole_again_more
set_option Elab.async false
set_option linter.all false
set_option maxRecDepth 100000
set_option maxHeartbeats 4000000
set_option autoImplicit false
/-! Gat0: data in an abstract heap, hidden places, slots, frames; benches and books. -/
namespace Dt
open PySem L2

/-! ### data -/
def kd : Key → PyData
  | .inl i => .int i
  | .inr x => .str x
/-- an exception of the own class c, held as a value; as data: a dict of the one key None -/
def ExK (K : PySem.W.Frag) (c : Str) (a : Addr) : HO := .ext fun h => ∃ (oe : Obj) (vs : Array Value), h.get? a = some oe ∧ Zc (.ref (He.ga K c)) none oe ∧ oe.data = .fields vs
def excD (c : Str) : PyData := .dict [(.none, .str c)]
structure XcK (K : PySem.W.Frag) (c : Str) : Prop where
  ex : ExcC K (He.ga K c)
  kit : ∀ T : String, T ∈ ["int", "bool", "tuple", "list", "str", "dict"] → PySem.W.kitOne K (.ref (He.ga K c)) (.type T) = some false
mutual
inductive Da (K : PySem.W.Frag) (H : Hp) : V → PyData → Prop
  | non : Da K H .non .none
  | bl (b : Bool) : Da K H (.bl b) (.bool b)
  | int (i : Int) : Da K H (.int i) (.int i)
  | str (x : Str) : Da K H (.str x) (.str x)
  | lst {a : Addr} {xs : List V} {ds : List PyData} : H a = some (.lst xs) → DaL K H xs ds → Da K H (.ref a) (.list ds)
  | tup {a : Addr} {xs : List V} {ds : List PyData} : SqT K H a xs → DaL K H xs ds → Da K H (.ref a) (.tuple ds)
  | dic {a : Addr} {kvs : List (Key × V)} {ps : List (PyData × PyData)} : H a = some (.dK kvs) → DaD K H kvs ps → Da K H (.ref a) (.dict ps)
  | exc {a : Addr} {c : Str} : H a = some (ExK K c a) → XcK K c → Da K H (.ref a) (excD c)
inductive DaL (K : PySem.W.Frag) (H : Hp) : List V → List PyData → Prop
  | nil : DaL K H [] []
  | cons {v : V} {vs : List V} {d : PyData} {ds : List PyData} : Da K H v d → DaL K H vs ds → DaL K H (v :: vs) (d :: ds)
inductive DaD (K : PySem.W.Frag) (H : Hp) : List (Key × V) → List (PyData × PyData) → Prop
  | nil : DaD K H [] []
  | cons {k : Key} {v : V} {kvs : List (Key × V)} {d : PyData} {ps : List (PyData × PyData)} : Da K H v d → DaD K H kvs ps → DaD K H ((k, v) :: kvs) ((kd k, d) :: ps)
end
theorem seqT {K : PySem.W.Frag} {H H' : Hp} {a : Addr} {xs : List V} (e : Same H H') (h : SqT K H a xs) : SqT K H' a xs := by
  rcases h with (h | ⟨o, h⟩) | h
  · exact .inl (.inl (e _ _ h))
  · exact .inl (.inr ⟨o, e _ _ h⟩)
  · exact .inr h
mutual
theorem Da.mono {K : PySem.W.Frag} {H H' : Hp} (e : Same H H') : ∀ {v : V} {d : PyData}, Da K H v d → Da K H' v d
  | _, _, .non => .non
  | _, _, .bl b => .bl b
  | _, _, .int i => .int i
  | _, _, .str x => .str x
  | _, _, .lst h r => .lst (e _ _ h) (DaL.mono e r)
  | _, _, .tup h r => .tup (seqT e h) (DaL.mono e r)
  | _, _, .dic h r => .dic (e _ _ h) (DaD.mono e r)
  | _, _, .exc h r => .exc (e _ _ h) r
theorem DaL.mono {K : PySem.W.Frag} {H H' : Hp} (e : Same H H') : ∀ {vs : List V} {ds : List PyData}, DaL K H vs ds → DaL K H' vs ds
  | _, _, .nil => .nil
  | _, _, .cons h t => .cons (Da.mono e h) (DaL.mono e t)
theorem DaD.mono {K : PySem.W.Frag} {H H' : Hp} (e : Same H H') : ∀ {vs : List (Key × V)} {ds : List (PyData × PyData)}, DaD K H vs ds → DaD K H' vs ds
  | _, _, .nil => .nil
  | _, _, .cons h t => .cons (Da.mono e h) (DaD.mono e t)
end
section
variable {K : PySem.W.Frag} {H : Hp}
theorem DaL.length : ∀ {vs : List V} {ds : List PyData}, DaL K H vs ds → vs.length = ds.length
  | _, _, .nil => rfl
  | _, _, .cons _ t => by simp [DaL.length t]
theorem DaL.get : ∀ {vs : List V} {ds : List PyData} {i : Nat} {d : PyData}, DaL K H vs ds → ds[i]? = some d → ∃ v, vs[i]? = some v ∧ Da K H v d
  | _, _, _, _, .nil, e => by simp at e
  | _, _, 0, _, .cons h _, e => by simp at e; subst e; exact ⟨_, rfl, h⟩
  | _, _, i + 1, d, .cons _ t, e => by
    obtain ⟨v, h1, h2⟩ := DaL.get (i := i) (d := d) t (by simpa using e)
    exact ⟨v, by simpa using h1, h2⟩
theorem DaL.getV : ∀ {vs : List V} {ds : List PyData} {i : Nat} {v : V}, DaL K H vs ds → vs[i]? = some v → ∃ d, ds[i]? = some d ∧ Da K H v d
  | _, _, _, _, .nil, e => by simp at e
  | _, _, 0, _, .cons h _, e => by simp at e; subst e; exact ⟨_, rfl, h⟩
  | _, _, i + 1, v, .cons _ t, e => by
    obtain ⟨d, h1, h2⟩ := DaL.getV (i := i) (v := v) t (by simpa using e)
    exact ⟨d, by simpa using h1, h2⟩
theorem DaL.append : ∀ {vs ws : List V} {ds es : List PyData}, DaL K H vs ds → DaL K H ws es → DaL K H (vs ++ ws) (ds ++ es)
  | _, _, _, _, .nil, s => s
  | _, _, _, _, .cons h t, s => .cons h (DaL.append t s)
theorem DaL.take : ∀ {vs : List V} {ds : List PyData} (n : Nat), DaL K H vs ds → DaL K H (vs.take n) (ds.take n)
  | _, _, 0, _ => .nil
  | _, _, _ + 1, .nil => .nil
  | _, _, n + 1, .cons h t => .cons h (DaL.take n t)
theorem DaL.drop : ∀ {vs : List V} {ds : List PyData} (n : Nat), DaL K H vs ds → DaL K H (vs.drop n) (ds.drop n)
  | _, _, 0, r => r
  | _, _, _ + 1, .nil => .nil
  | _, _, n + 1, .cons _ t => DaL.drop n t
theorem DaL.one {vs : List V} {d : PyData} (h : DaL K H vs [d]) : ∃ v, vs = [v] ∧ Da K H v d := by
  cases h with
  | cons h t => cases t; exact ⟨_, rfl, h⟩
theorem DaL.two {vs : List V} {d e : PyData} (h : DaL K H vs [d, e]) : ∃ v w, vs = [v, w] ∧ Da K H v d ∧ Da K H w e := by
  cases h with
  | cons h t =>
    obtain ⟨w, rfl, hw⟩ := t.one
    exact ⟨_, w, rfl, h, hw⟩
theorem DaL.ints : ∀ {vs : List V} {ns : List Int}, DaL K H vs (ns.map PyData.int) → vs = ns.map V.int
  | _, [], .nil => rfl
  | _, n :: ns, .cons h t => by cases h; simp [DaL.ints t]
theorem DaL.bools : ∀ {vs : List V} {ns : List Bool}, DaL K H vs (ns.map PyData.bool) → vs = ns.map V.bl
  | _, [], .nil => rfl
  | _, n :: ns, .cons h t => by cases h; simp [DaL.bools t]
theorem DaL.of_ints : ∀ (ns : List Int), DaL K H (ns.map V.int) (ns.map PyData.int)
  | [] => .nil
  | n :: ns => .cons (.int n) (DaL.of_ints ns)
theorem DaL.of_bools : ∀ (ns : List Bool), DaL K H (ns.map V.bl) (ns.map PyData.bool)
  | [] => .nil
  | n :: ns => .cons (.bl n) (DaL.of_bools ns)
end
mutual
theorem Da.dp {K : PySem.W.Frag} {H : Hp} : ∀ {v : V} {d : PyData}, Da K H v d → d.canLay0 = true → Dp K H v d
  | _, _, .non, _ => .non
  | _, _, .bl b, _ => .bl b
  | _, _, .int i, _ => .int i
  | _, _, .str x, _ => .str x
  | _, _, .lst h r, e => .lst (.of h) (DaL.dp r (by unfold PyData.canLay0 at e; exact e))
  | _, _, .tup h r, e => .tup h (DaL.dp r (by unfold PyData.canLay0 at e; exact e))
  | _, _, .dic h r, e => by unfold PyData.canLay0 at e; cases e
theorem DaL.dp {K : PySem.W.Frag} {H : Hp} : ∀ {vs : List V} {ds : List PyData}, DaL K H vs ds → PyData.canLayAll0 ds = true → DpAll K H vs ds
  | _, _, .nil, _ => .nil
  | _, _, .cons h t, e => by
    unfold PyData.canLayAll0 at e
    rw [Bool.and_eq_true] at e
    exact .cons (Da.dp h e.1) (DaL.dp t e.2)
end

/-! ### hidden places -/
abbrev Hd := Addr → Prop
open Classical in
noncomputable def off (S : Hd) (H : Hp) : Hp := fun b => if S b then none else H b
theorem off_in {S : Hd} {H : Hp} {b : Addr} (h : ¬ S b) : off S H b = H b := by unfold off; rw [if_neg h]
theorem off_out {S : Hd} {H : Hp} {b : Addr} (h : S b) : off S H b = none := by unfold off; rw [if_pos h]
theorem off_get {S : Hd} {H : Hp} {b : Addr} {o : HO} (h : off S H b = some o) : ¬ S b ∧ H b = some o := by
  by_cases q : S b
  · rw [off_out q] at h; cases h
  · rw [off_in q] at h; exact ⟨q, h⟩
def Le (S : Hd) (H H' : Hp) : Prop := ∀ b o, ¬ S b → H b = some o → H' b = some o
theorem Le.refl {S : Hd} {H : Hp} : Le S H H := fun _ _ _ h => h
theorem Le.trans {S : Hd} {H H1 H2 : Hp} (a : Le S H H1) (b : Le S H1 H2) : Le S H H2 := fun c o n h => b c o n (a c o n h)
theorem Le.of {S : Hd} {H H' : Hp} (e : Same H H') : Le S H H' := fun b o _ h => e b o h
theorem Le.off {S : Hd} {H H' : Hp} (e : Le S H H') : Same (off S H) (off S H') := fun b o h => by
  obtain ⟨n, h⟩ := off_get h
  rw [off_in n]
  exact e b o n h
theorem off_same {S : Hd} {H : Hp} : Same (off S H) H := fun b o h => (off_get h).2
theorem off_sub {S S' : Hd} {H : Hp} (h : ∀ b, S' b → S b) : Same (off S H) (off S' H) := fun b o e => by
  obtain ⟨n, q⟩ := off_get e
  rw [off_in (fun z => n (h b z))]
  exact q
theorem same_new {H : Hp} {p : Addr} {o : HO} (h : H p = none) : Same H (upd H p o) := fun b x e => by
  rw [upd_ne (ne_of_none e h)]
  exact e
def Hid (S : Hd) (H : Hp) : Prop := ∀ b, S b → H b ≠ none
theorem Hid.free {S : Hd} {H : Hp} {p : Addr} (h : Hid S H) (n : H p = none) : ¬ S p := fun z => h p z n
theorem Hid.same {S : Hd} {H H' : Hp} (h : Hid S H) (e : Same H H') : Hid S H' := fun b z n => h b z (e.free n)
/-- a new list, a new tuple of data is data -/
theorem Da.newL {K : PySem.W.Frag} {S : Hd} {H : Hp} {p : Addr} {vs : List V} {ds : List PyData} (hS : Hid S H) (n : H p = none) (h : DaL K (off S H) vs ds) : Da K (off S (upd H p (.lst vs))) (.ref p) (.list ds) :=
  .lst (by rw [off_in (hS.free n), upd_same]) (h.mono (Le.off (Le.of (same_new n))))
theorem Da.newT {K : PySem.W.Frag} {S : Hd} {H : Hp} {p : Addr} {vs : List V} {ds : List PyData} (hS : Hid S H) (n : H p = none) (h : DaL K (off S H) vs ds) : Da K (off S (upd H p (.tup vs))) (.ref p) (.tuple ds) :=
  .tup (.of (by rw [off_in (hS.free n), upd_same])) (h.mono (Le.off (Le.of (same_new n))))

/-- a tuple known as it was made -/
def ExT (h : Hp) (v : V) (xs : List V) : Prop := ∃ (p : Addr) (ob : Obj), v = .ref p ∧ h p = some (.frz ob (.tup xs)) ∧ ob.dict = none
theorem ExT.mono {h h' : Hp} {v : V} {xs : List V} (e : Same h h') (q : ExT h v xs) : ExT h' v xs := let ⟨p, ob, e1, e2, e3⟩ := q; ⟨p, ob, e1, e _ _ e2, e3⟩
theorem ExT.sq {K : PySem.W.Frag} {h : Hp} {v : V} {xs : List V} (q : ExT h v xs) : ∃ p, v = .ref p ∧ SqT K h p xs := let ⟨p, ob, e1, e2, _⟩ := q; ⟨p, e1, .inl (.inr ⟨ob, e2⟩)⟩
/-- .. with its data -/
def ExD (K : PySem.W.Frag) (h : Hp) (v : V) (d : PyData) : Prop := ∃ (p : Addr) (ob : Obj) (xs : List V) (ds : List PyData), v = .ref p ∧ h p = some (.frz ob (.tup xs)) ∧ ob.dict = none ∧ d = .tuple ds ∧ DaL K h xs ds
theorem ExD.mono {K : PySem.W.Frag} {h h' : Hp} {v : V} {d : PyData} (e : Same h h') (q : ExD K h v d) : ExD K h' v d := let ⟨p, ob, xs, ds, e1, e2, e3, e4, e5⟩ := q; ⟨p, ob, xs, ds, e1, e _ _ e2, e3, e4, e5.mono e⟩
theorem ExD.da {K : PySem.W.Frag} {h : Hp} {v : V} {d : PyData} (q : ExD K h v d) : Da K h v d := by
  obtain ⟨p, ob, xs, ds, rfl, e2, e3, rfl, e5⟩ := q
  exact .tup (.inl (.inr ⟨ob, e2⟩)) e5
/-- what a bench shows now: a pair, the second known as it was made -/
def NowX (K : PySem.W.Frag) (h : Hp) (v : V) (d : PyData) : Prop := ∃ t v0 v1 d0 d1, v = .ref t ∧ SqT K h t [v0, v1] ∧ d = .tuple [d0, d1] ∧ Da K h v0 d0 ∧ ExD K h v1 d1
theorem NowX.mono {K : PySem.W.Frag} {h h' : Hp} {v : V} {d : PyData} (e : Same h h') (q : NowX K h v d) : NowX K h' v d := let ⟨t, v0, v1, d0, d1, e1, e2, e3, e4, e5⟩ := q; ⟨t, v0, v1, d0, d1, e1, seqT e e2, e3, e4.mono e, e5.mono e⟩
inductive NowL (K : PySem.W.Frag) (h : Hp) : List V → List PyData → Prop
  | nil : NowL K h [] []
  | cons {v : V} {d : PyData} {vs : List V} {ds : List PyData} : NowX K h v d → NowL K h vs ds → NowL K h (v :: vs) (d :: ds)
theorem NowL.mono {K : PySem.W.Frag} {h h' : Hp} (e : Same h h') : ∀ {vs : List V} {ds : List PyData}, NowL K h vs ds → NowL K h' vs ds
  | _, _, .nil => .nil
  | _, _, .cons a b => .cons (a.mono e) (b.mono e)
theorem NowL.snoc {K : PySem.W.Frag} {h : Hp} {v : V} {d : PyData} (q : NowX K h v d) : ∀ {vs : List V} {ds : List PyData}, NowL K h vs ds → NowL K h (vs ++ [v]) (ds ++ [d])
  | _, _, .nil => .cons q .nil
  | _, _, .cons a b => .cons a (b.snoc q)
theorem NowL.lastS {K : PySem.W.Frag} {h : Hp} {us : List V} {v : V} {ds : List PyData} {x : PyData} (q : NowL K h (us ++ [v]) (ds ++ [x])) (hl : us.length = ds.length) : NowL K h us ds ∧ NowX K h v x := by
  induction us generalizing ds with
  | nil =>
    cases ds with
    | nil => cases q with | cons a b => exact ⟨.nil, a⟩
    | cons _ _ => cases hl
  | cons u us ih =>
    cases ds with
    | nil => cases hl
    | cons y ys =>
      cases q with
      | cons a b =>
        obtain ⟨c, e⟩ := ih b (Nat.succ.inj hl)
        exact ⟨.cons a c, e⟩
/-! ### a bench, or the law's own book: what is now, what was, what is undone -/
structure Rs where
  ben : Bool
  many : Int
  signs : List PyData
  now : PyData
  before : List PyData
  later : List PyData
/-- the places of it -/
def RsF (H : Hp) (a : Addr) (fp : List Addr) : Prop :=
  (∃ C dx fs bl ll, H a = some (.ins C dx fs) ∧ fs.lookup ("before" : Str) = some (.ref bl) ∧ fs.lookup ("later" : Str) = some (.ref ll) ∧ fp = [a, dx, bl, ll]) ∨ (∃ vn bl ll, H a = some (.dK [(.inr "now", vn), (.inr "before", .ref bl), (.inr "later", .ref ll)]) ∧ fp = [a, bl, ll])
theorem RsF.det {H : Hp} {a : Addr} {fp fp' : List Addr} (h : RsF H a fp) (h' : RsF H a fp') : fp = fp' := by
  rcases h with ⟨C, dx, fs, bl, ll, h1, h2, h3, rfl⟩ | ⟨vn, bl, ll, h1, rfl⟩
  · rcases h' with ⟨C', dx', fs', bl', ll', g1, g2, g3, rfl⟩ | ⟨vn, bl', ll', g1, rfl⟩
    · rw [h1] at g1; cases g1; rw [h2] at g2; rw [h3] at g3; cases g2; cases g3; rfl
    · rw [h1] at g1; cases g1
  · rcases h' with ⟨C', dx', fs', bl', ll', g1, g2, g3, rfl⟩ | ⟨vn, bl', ll', g1, rfl⟩
    · rw [h1] at g1; cases g1
    · rw [h1] at g1; cases g1; rfl
theorem RsF.root {H : Hp} {a : Addr} {fp : List Addr} (h : RsF H a fp) : a ∈ fp := by
  rcases h with ⟨C, dx, fs, bl, ll, h1, h2, h3, rfl⟩ | ⟨vn, bl, ll, h1, rfl⟩ <;> exact List.mem_cons_self
theorem RsF.at {H H' : Hp} {a : Addr} {fp : List Addr} (h : RsF H a fp) (e : H' a = H a) : RsF H' a fp := by
  unfold RsF at h ⊢
  rw [e]
  exact h
def benF (many : Int) (vs vn : V) (bl ll : Addr) : List (Str × V) := [("many", .int many), ("signs", vs), ("now", vn), ("before", .ref bl), ("later", .ref ll)]
def RsOk (K : PySem.W.Frag) (h H : Hp) (a : Addr) (r : Rs) (fp : List Addr) : Prop := ∃ (bl ll : Addr) (vn : V) (vb vl : List V), H bl = some (.lst vb) ∧ H ll = some (.lst vl) ∧ DaL K h vb r.before ∧ DaL K h vl r.later ∧ Da K h vn r.now ∧ fp.Nodup ∧
  ((r.ben = true ∧ ∃ dx vs, fp = [a, dx, bl, ll] ∧ H a = some (.ins (He.ga K "Bench") dx (benF r.many vs vn bl ll)) ∧ H dx = some (.own a) ∧ Da K h vs (.list r.signs) ∧ NowX K h vn r.now ∧ NowL K h vb r.before ∧ NowL K h vl r.later) ∨ (r.ben = false ∧ fp = [a, bl, ll] ∧ H a = some (.dK [(.inr "now", vn), (.inr "before", .ref bl), (.inr "later", .ref ll)])))
theorem RsOk.rsF {K : PySem.W.Frag} {h H : Hp} {a : Addr} {r : Rs} {fp : List Addr} (q : RsOk K h H a r fp) : RsF H a fp := by
  obtain ⟨bl, ll, vn, vb, vl, h1, h2, h3, h4, h5, h6, ⟨_, dx, vs, rfl, h7, h8, h9⟩ | ⟨_, rfl, h7⟩⟩ := q
  · exact Or.inl ⟨_, dx, _, bl, ll, h7, by rfl, by rfl, rfl⟩
  · exact Or.inr ⟨vn, bl, ll, h7, rfl⟩
theorem RsOk.stay {K : PySem.W.Frag} {h h' H H' : Hp} {a : Addr} {r : Rs} {fp : List Addr} (q : RsOk K h H a r fp) (e : Same h h') (c : ∀ b ∈ fp, H' b = H b) : RsOk K h' H' a r fp := by
  obtain ⟨bl, ll, vn, vb, vl, h1, h2, h3, h4, h5, h6, ⟨hb, dx, vs, rfl, h7, h8, h9⟩ | ⟨hb, rfl, h7⟩⟩ := q
  · exact ⟨bl, ll, vn, vb, vl, by rw [c bl (by simp)]; exact h1, by rw [c ll (by simp)]; exact h2, h3.mono e, h4.mono e, h5.mono e, h6, .inl ⟨hb, dx, vs, rfl, by rw [c a (by simp)]; exact h7, by rw [c dx (by simp)]; exact h8, h9.1.mono e, h9.2.1.mono e, h9.2.2.1.mono e, h9.2.2.2.mono e⟩⟩
  · exact ⟨bl, ll, vn, vb, vl, by rw [c bl (by simp)]; exact h1, by rw [c ll (by simp)]; exact h2, h3.mono e, h4.mono e, h5.mono e, h6, .inr ⟨hb, rfl, by rw [c a (by simp)]; exact h7⟩⟩
theorem RsOk.here {K : PySem.W.Frag} {h H : Hp} {a : Addr} {r : Rs} {fp : List Addr} (q : RsOk K h H a r fp) : ∀ b ∈ fp, H b ≠ none := by
  obtain ⟨bl, ll, vn, vb, vl, h1, h2, h3, h4, h5, h6, ⟨hb, dx, vs, rfl, h7, h8, h9⟩ | ⟨hb, rfl, h7⟩⟩ := q
  · intro b hb z
    simp only [List.mem_cons, List.not_mem_nil, or_false] at hb
    rcases hb with rfl | rfl | rfl | rfl
    · rw [h7] at z; cases z
    · rw [h8] at z; cases z
    · rw [h1] at z; cases z
    · rw [h2] at z; cases z
  · intro b hb z
    simp only [List.mem_cons, List.not_mem_nil, or_false] at hb
    rcases hb with rfl | rfl | rfl
    · rw [h7] at z; cases z
    · rw [h1] at z; cases z
    · rw [h2] at z; cases z
/-! ### slots -/
inductive Sl where
  | no
  | dat (d : PyData)
  | own0 (d : PyData)
  | twn (n : Nat)
  | scr
  | rs (a : Addr) (r : Rs)
  | vw (a : Addr) (r : Rs)
abbrev Sl.own (ds : List PyData) : Sl := .own0 (.list ds)
abbrev Gm := List Sl
/-- what an object of one's own holds -/
def Cont (K : PySem.W.Frag) (h : Hp) (o : HO) : PyData → Prop
  | .list ds => ∃ vs, o = .lst vs ∧ DaL K h vs ds
  | .dict ps => ∃ kvs, o = .dK kvs ∧ DaD K h kvs ps
  | _ => False
theorem Cont.mono {K : PySem.W.Frag} {h h' : Hp} {o : HO} (e : Same h h') : ∀ {d : PyData}, Cont K h o d → Cont K h' o d
  | .list _, ⟨vs, e1, e2⟩ => ⟨vs, e1, e2.mono e⟩
  | .dict _, ⟨vs, e1, e2⟩ => ⟨vs, e1, e2.mono e⟩
structure Fm where
  H0 : Hp
  S0 : Hd
  T : Hd
  tn : Option Addr
/-- the script -/
def Scr (K : PySem.W.Frag) (H : Hp) (v : V) : Prop := ∃ (a : Addr) (ns : List Int), v = .ref a ∧ SqL K H a (ns.map V.int)
theorem Scr.mono {K : PySem.W.Frag} {H H' : Hp} {v : V} (e : Same H H') (h : Scr K H v) : Scr K H' v := let ⟨a, ns, e1, e2⟩ := h; ⟨a, ns, e1, e.seq e2⟩
def SlOk (K : PySem.W.Frag) (F : Fm) (S : Hd) (H : Hp) : Sl → Option V → Prop
  | .no, _ => True
  | .dat d, o => ∃ v, o = some v ∧ Da K (off S H) v d
  | .own0 d, o => ∃ a u, o = some (.ref a) ∧ S a ∧ F.H0 a = none ∧ ¬ F.T a ∧ H a = some u ∧ Cont K (off S H) u d
  | .twn n, o => ∃ a vs, o = some (.ref a) ∧ S a ∧ ((F.tn = some a ∧ F.T a) ∨ (F.H0 a = none ∧ F.tn = none)) ∧ H a = some (.lst vs) ∧ vs.length ≤ n
  | .scr, o => ∃ v, o = some v ∧ Scr K (off S H) v
  | .rs a r, o => o = some (.ref a) ∧ ∃ fp, RsOk K (off S H) H a r fp ∧ ∀ b ∈ fp, S b ∧ (F.T b ∨ F.H0 b = none)
  | .vw a r, o => o = some (.ref a) ∧ ∃ fp, RsOk K (off S H) H a r fp ∧ ∀ b ∈ fp, S b ∧ ¬ F.T b ∧ F.H0 b ≠ none ∧ F.S0 b
def Sl.mut : Sl → Bool
  | .own0 _ => true
  | .twn _ => true
  | .rs _ _ => true
  | _ => false
/-- what may change where defs are called -/
def Sl.chg : Sl → Bool
  | .twn _ => true
  | .rs _ _ => true
  | _ => false
theorem Sl.chg_mut {s : Sl} (h : s.chg = true) : s.mut = true := by cases s <;> first | rfl | cases h
/-- a slot's own places -/
def Fp (H : Hp) : Sl → Option V → Addr → Prop
  | .own0 _, o, b => o = some (.ref b)
  | .twn _, o, b => o = some (.ref b)
  | .rs a _, _, b => ∃ fp, RsF H a fp ∧ b ∈ fp
  | .vw a _, _, b => ∃ fp, RsF H a fp ∧ b ∈ fp
  | _, _, _ => False
theorem SlOk.fp {K : PySem.W.Frag} {F : Fm} {S : Hd} {H : Hp} {s : Sl} {o : Option V} {b : Addr} (h : SlOk K F S H s o) (q : Fp H s o b) : S b ∧ H b ≠ none := by
  cases s with
  | no => cases q
  | dat d => cases q
  | scr => cases q
  | own0 d =>
    obtain ⟨a, u, h1, h2, h3, h4, h5, h6⟩ := h
    have q : o = some (.ref b) := q
    rw [h1] at q; cases q
    exact ⟨h2, by rw [h5]; intro z; cases z⟩
  | twn n =>
    obtain ⟨a, u, h1, h2, h3, h4, h5⟩ := h
    have q : o = some (.ref b) := q
    rw [h1] at q; cases q
    exact ⟨h2, by rw [h4]; intro z; cases z⟩
  | rs a r =>
    obtain ⟨h1, fp, h2, h3⟩ := h
    obtain ⟨fp', q1, q2⟩ := q
    rw [q1.det h2.rsF] at q2
    exact ⟨(h3 b q2).1, h2.here b q2⟩
  | vw a r =>
    obtain ⟨h1, fp, h2, h3⟩ := h
    obtain ⟨fp', q1, q2⟩ := q
    rw [q1.det h2.rsF] at q2
    exact ⟨(h3 b q2).1, h2.here b q2⟩
/-- .. stand: the slot's description stays -/
theorem SlOk.keep {K : PySem.W.Frag} {F : Fm} {S S' : Hd} {H H' : Hp} {s : Sl} {o : Option V} (h : SlOk K F S H s o) (e : Same (off S H) (off S' H')) (c : ∀ b, Fp H s o b → S' b ∧ H' b = H b) : SlOk K F S' H' s o := by
  cases s with
  | no => trivial
  | dat d => obtain ⟨v, h1, h2⟩ := h; exact ⟨v, h1, h2.mono e⟩
  | scr => obtain ⟨v, h1, h2⟩ := h; exact ⟨v, h1, h2.mono e⟩
  | own0 d =>
    obtain ⟨a, u, h1, h2, h3, h4, h5, h6⟩ := h
    obtain ⟨c1, c2⟩ := c a h1
    exact ⟨a, u, h1, c1, h3, h4, by rw [c2]; exact h5, h6.mono e⟩
  | twn n =>
    obtain ⟨a, u, h1, h2, h3, h4, h5⟩ := h
    obtain ⟨c1, c2⟩ := c a h1
    exact ⟨a, u, h1, c1, h3, by rw [c2]; exact h4, h5⟩
  | rs a r =>
    obtain ⟨h1, fp, h2, h3⟩ := h
    exact ⟨h1, fp, h2.stay e fun b hb => (c b ⟨fp, h2.rsF, hb⟩).2, fun b hb => ⟨(c b ⟨fp, h2.rsF, hb⟩).1, (h3 b hb).2⟩⟩
  | vw a r =>
    obtain ⟨h1, fp, h2, h3⟩ := h
    exact ⟨h1, fp, h2.stay e fun b hb => (c b ⟨fp, h2.rsF, hb⟩).2, fun b hb => ⟨(c b ⟨fp, h2.rsF, hb⟩).1, (h3 b hb).2⟩⟩
/-- .. and its places stay -/
theorem Fp.back {K : PySem.W.Frag} {F : Fm} {S : Hd} {H H' : Hp} {s : Sl} {o : Option V} {b : Addr} (h : SlOk K F S H s o) (c : ∀ b, Fp H s o b → H' b = H b) (q : Fp H' s o b) : Fp H s o b := by
  cases s with
  | no => cases q
  | dat d => cases q
  | scr => cases q
  | own0 d => exact q
  | twn n => exact q
  | rs a r =>
    obtain ⟨h1, fp, h2, h3⟩ := h
    obtain ⟨fp', q1, q2⟩ := q
    have z := h2.rsF
    rw [q1.det (z.at (c a ⟨fp, z, z.root⟩))] at q2
    exact ⟨fp, z, q2⟩
  | vw a r =>
    obtain ⟨h1, fp, h2, h3⟩ := h
    obtain ⟨fp', q1, q2⟩ := q
    have z := h2.rsF
    rw [q1.det (z.at (c a ⟨fp, z, z.root⟩))] at q2
    exact ⟨fp, z, q2⟩
structure En (K : PySem.W.Frag) (F : Fm) (S : Hd) (Γ : Gm) (σ : St) (H : Hp) : Prop where
  sub : ∀ b, F.S0 b → S b ∧ F.H0 b ≠ none
  tin : ∀ b, F.T b → S b
  fr : ∀ b, S b → F.S0 b ∨ F.T b ∨ F.H0 b = none
  hid : Hid S H
  base : ∀ b o, ¬ F.T b → F.H0 b = some o → H b = some o
  len : Γ.length = σ.length
  slot : ∀ (i : Nat) (s : Sl), Γ[i]? = some s → ∃ o, σ[i]? = some o ∧ SlOk K F S H s o
  inj : ∀ (i j : Nat) (s t : Sl) (o o' : Option V) (b : Addr), i ≠ j → Γ[i]? = some s → Γ[j]? = some t → s.mut = true → t.mut = true → σ[i]? = some o → σ[j]? = some o' → Fp H s o b → ¬ Fp H t o' b
structure Mv (S : Hd) (σ : St) (Γ Γ' : Gm) (H H' : Hp) : Prop where
  le : Le S H H'
  al : ∀ (b : Addr) (o : HO), H b = some o → H' b = some o ∨ ∃ (i : Nat) (s : Sl) (v : Option V), Γ[i]? = some s ∧ s.chg = true ∧ σ[i]? = some v ∧ Fp H s v b
  ow : ∀ (i : Nat) (d : PyData), Γ[i]? = some (Sl.own0 d) → Γ'[i]? = some (Sl.own0 d)
  wo : ∀ (i : Nat) (d : PyData), Γ'[i]? = some (Sl.own0 d) → Γ[i]? = some (Sl.own0 d)
  tw : ∀ (i : Nat) (s : Sl), Γ'[i]? = some s → s.chg = true → ∃ s', Γ[i]? = some s' ∧ s'.chg = true ∧ ∀ v b, σ[i]? = some v → Fp H' s v b → Fp H s' v b
theorem Mv.refl {S : Hd} {σ : St} {Γ : Gm} {H : Hp} : Mv S σ Γ Γ H H := ⟨.refl, fun _ _ h => .inl h, fun _ _ h => h, fun _ _ h => h, fun _ s h c => ⟨s, h, c, fun _ _ _ q => q⟩⟩
theorem Mv.trans {S : Hd} {σ : St} {Γ Γ1 Γ2 : Gm} {H H1 H2 : Hp} (a : Mv S σ Γ Γ1 H H1) (b : Mv S σ Γ1 Γ2 H1 H2) : Mv S σ Γ Γ2 H H2 :=
  ⟨a.le.trans b.le, fun c o h => by
    rcases a.al c o h with h1 | h1
    · rcases b.al c o h1 with h2 | ⟨i, s, v, g, e, e2, e3⟩
      · exact .inl h2
      · obtain ⟨s', g', c', k⟩ := a.tw i s g e
        exact .inr ⟨i, s', v, g', c', e2, k v c e2 e3⟩
    · exact .inr h1, fun i ds h => b.ow i ds (a.ow i ds h), fun i ds h => a.wo i ds (b.wo i ds h), fun i s h c => by
    obtain ⟨s1, g1, c1, k1⟩ := b.tw i s h c
    obtain ⟨s2, g2, c2, k2⟩ := a.tw i s1 g1 c1
    exact ⟨s2, g2, c2, fun v b e q => k2 v b e (k1 v b e q)⟩⟩
theorem Mv.mu {S : Hd} {σ : St} {Γ Γ' : Gm} {H H' : Hp} (a : Mv S σ Γ Γ' H H') {i : Nat} {s : Sl} (h : Γ'[i]? = some s) (m : s.mut = true) : ∃ s', Γ[i]? = some s' ∧ s'.mut = true ∧ ∀ v b, σ[i]? = some v → Fp H' s v b → Fp H s' v b := by
  cases s with
  | own0 ds => exact ⟨_, a.wo i ds h, rfl, fun _ _ _ q => q⟩
  | twn n => obtain ⟨k, q, c, z⟩ := a.tw i _ h rfl; exact ⟨_, q, Sl.chg_mut c, z⟩
  | rs x r => obtain ⟨k, q, c, z⟩ := a.tw i _ h rfl; exact ⟨_, q, Sl.chg_mut c, z⟩
  | _ => cases m
/-- readable: data, or a list that a slot owns -/
def Rb (K : PySem.W.Frag) (S : Hd) (Γ : Gm) (σ : St) (H : Hp) (v : V) (d : PyData) : Prop :=
  Da K (off S H) v d ∨ ∃ (i : Nat), Γ[i]? = some (Sl.own0 d) ∧ σ[i]? = some (some v)
/-- .. by the heap -/
def Dr (K : PySem.W.Frag) (S : Hd) (H : Hp) (v : V) (d : PyData) : Prop :=
  Da K (off S H) v d ∨ ∃ a u, v = .ref a ∧ H a = some u ∧ Cont K (off S H) u d
section
variable {K : PySem.W.Frag} {F : Fm} {S : Hd} {Γ Γ' : Gm} {σ : St} {H H' : Hp} {v : V} {d : PyData}
theorem same_at (e : Same H H') {b : Addr} (h : H b ≠ none) : H' b = H b := by
  cases q : H b with
  | none => exact absurd q h
  | some o => exact e b o q
theorem SlOk.same (e : Same H H') {s : Sl} {o : Option V} (h : SlOk K F S H s o) : SlOk K F S H' s o := h.keep (Le.off (Le.of e)) fun b q => ⟨(h.fp q).1, same_at e (h.fp q).2⟩
theorem En.same (h : En K F S Γ σ H) (e : Same H H') : En K F S Γ σ H' :=
  ⟨h.sub, h.tin, h.fr, h.hid.same e, fun b o n q => e _ _ (h.base b o n q), h.len, fun i s q => let ⟨o, a, b⟩ := h.slot i s q; ⟨o, a, b.same e⟩, fun i j s t o o' b hij g1 g2 m1 m2 e1 e2 q1 q2 => by
    have back : ∀ (i : Nat) (s : Sl) (o : Option V), Γ[i]? = some s → σ[i]? = some o → Fp H' s o b → Fp H s o b := fun i s o g e1 q => by
      obtain ⟨o', a, k⟩ := h.slot i s g
      rw [e1] at a
      cases a
      exact Fp.back k (fun b z => same_at e (k.fp z).2) q
    exact h.inj i j s t o o' b hij g1 g2 m1 m2 e1 e2 (back i s o g1 e1 q1) (back j t o' g2 e2 q2)⟩
/-- a new thing alone -/
theorem Mv.of (h : En K F S Γ σ H) (e : Same H H') : Mv S σ Γ Γ H H' := ⟨.of e, fun b o h => .inl (e b o h), fun _ _ h => h, fun _ _ h => h, fun i s g c => ⟨s, g, c, fun v b e1 q => by
    obtain ⟨o', a, k⟩ := h.slot i s g
    rw [e1] at a
    cases a
    exact Fp.back k (fun b z => same_at e (k.fp z).2) q⟩⟩
theorem En.fresh0 {p : Addr} (h : En K F S Γ σ H) (n : H p = none) : F.H0 p = none := by
  cases q : F.H0 p with
  | none => rfl
  | some o =>
    by_cases t : F.T p
    · exact absurd n (h.hid p (h.tin p t))
    · rw [h.base p o t q] at n; cases n
theorem Rb.of (h : Da K (off S H) v d) : Rb K S Γ σ H v d := .inl h
theorem Rb.mv (h : Rb K S Γ σ H v d) (m : Mv S σ Γ Γ' H H') : Rb K S Γ' σ H' v d := by
  rcases h with h | ⟨i, h1, h2⟩
  · exact .inl (h.mono m.le.off)
  · exact .inr ⟨i, m.ow _ _ h1, h2⟩
theorem Rb.dr (h : Rb K S Γ σ H v d) (e : En K F S Γ σ H) : Dr K S H v d := by
  rcases h with h | ⟨i, h1, h2⟩
  · exact .inl h
  · obtain ⟨o, q1, a, u, q2, _, _, _, q3, q4⟩ := e.slot i _ h1
    rw [h2] at q1
    cases q1
    cases q2
    exact .inr ⟨a, u, rfl, q3, q4⟩
theorem Dr.list {ds : List PyData} (h : Dr K S H v (.list ds)) : ∃ a vs, v = .ref a ∧ H a = some (.lst vs) ∧ DaL K (off S H) vs ds := by
  rcases h with h | ⟨a, u, rfl, h1, vs, e, h2⟩
  · cases h with
    | lst h r => exact ⟨_, _, rfl, (off_get h).2, r⟩
  · subst e
    exact ⟨a, vs, rfl, h1, h2⟩
theorem Dr.tuple {ds : List PyData} (h : Dr K S H v (.tuple ds)) : ∃ a vs, v = .ref a ∧ SqT K H a vs ∧ DaL K (off S H) vs ds := by
  rcases h with h | ⟨a, u, rfl, h1, h2⟩
  · cases h with
    | tup h r => exact ⟨_, _, rfl, seqT off_same h, r⟩
  · exact h2.elim
theorem Dr.int {i : Int} (h : Dr K S H v (.int i)) : v = .int i := by
  rcases h with h | ⟨a, u, rfl, h1, h2⟩
  · cases h; rfl
  · exact h2.elim
theorem Dr.bool {i : Bool} (h : Dr K S H v (.bool i)) : v = .bl i := by
  rcases h with h | ⟨a, u, rfl, h1, h2⟩
  · cases h; rfl
  · exact h2.elim
theorem Dr.str {i : Str} (h : Dr K S H v (.str i)) : v = .str i := by
  rcases h with h | ⟨a, u, rfl, h1, h2⟩
  · cases h; rfl
  · exact h2.elim
theorem Dr.none (h : Dr K S H v .none) : v = .non := by
  rcases h with h | ⟨a, u, rfl, h1, h2⟩
  · cases h; rfl
  · exact h2.elim
theorem Dr.dp (h : Dr K S H v d) (c : d.canLay0 = true) : Dp K H v d := by
  rcases h with h | ⟨a, u, rfl, h1, h2⟩
  · exact (h.mono off_same).dp c
  · cases d with
    | list ds =>
      obtain ⟨vs, rfl, h2⟩ := h2
      exact .lst (.of h1) ((h2.mono off_same).dp (by unfold PyData.canLay0 at c; exact c))
    | dict ps => unfold PyData.canLay0 at c; cases c
    | _ => exact h2.elim
end
end Dt

/-! Gat1: readings over data: expressions. -/
namespace Dt
open PySem L2

abbrev Kq := PyData → Gm → Prop
abbrev Ke := Str → Gm → Prop
abbrev DE := Gm → Kq → Ke → Prop
abbrev DB := Gm → (Bool → Gm → Prop) → Ke → Prop
abbrev DL := Gm → (List PyData → Gm → Prop) → Ke → Prop
abbrev F0 : Ke := fun _ _ => False
abbrev W0 : WX := fun _ _ _ _ => False

def tD (K : PySem.W.Frag) (W : WX) (w : DE) : TE := fun σ H Q => ∃ (F : Fm) (S : Hd) (Γ : Gm) (Qd : Kq) (Ed : Ke), En K F S Γ σ H ∧ w Γ Qd Ed ∧
  (∀ d Γ' v H', Qd d Γ' → Mv S σ Γ Γ' H H' → En K F S Γ' σ H' → Da K (off S H') v d → Q v H') ∧ (∀ c Γ' H', Ed c Γ' → En K F S Γ' σ H' → W (.ref (He.ga K c)) none σ H')
def tR (K : PySem.W.Frag) (W : WX) (w : DE) : TE := fun σ H Q => ∃ (F : Fm) (S : Hd) (Γ : Gm) (Qd : Kq) (Ed : Ke), En K F S Γ σ H ∧ w Γ Qd Ed ∧
  (∀ d Γ' v H', Qd d Γ' → Mv S σ Γ Γ' H H' → En K F S Γ' σ H' → Rb K S Γ' σ H' v d → Q v H') ∧ (∀ c Γ' H', Ed c Γ' → En K F S Γ' σ H' → W (.ref (He.ga K c)) none σ H')
def tB (K : PySem.W.Frag) (W : WX) (w : DB) : TT := fun σ H Q => ∃ (F : Fm) (S : Hd) (Γ : Gm) (Qd : Bool → Gm → Prop) (Ed : Ke), En K F S Γ σ H ∧ w Γ Qd Ed ∧
  (∀ b Γ' H', Qd b Γ' → Mv S σ Γ Γ' H H' → En K F S Γ' σ H' → Q b H') ∧ (∀ c Γ' H', Ed c Γ' → En K F S Γ' σ H' → W (.ref (He.ga K c)) none σ H')
/-- arguments: data; readable -/
def tL (K : PySem.W.Frag) (W : WX) (w : DL) : TA := fun σ H Q => ∃ (F : Fm) (S : Hd) (Γ : Gm) (Qd : List PyData → Gm → Prop) (Ed : Ke), En K F S Γ σ H ∧ w Γ Qd Ed ∧
  (∀ ds Γ' vs H', Qd ds Γ' → Mv S σ Γ Γ' H H' → En K F S Γ' σ H' → DaL K (off S H') vs ds → Q vs H') ∧ (∀ c Γ' H', Ed c Γ' → En K F S Γ' σ H' → W (.ref (He.ga K c)) none σ H')
inductive DrL (K : PySem.W.Frag) (S : Hd) (H : Hp) : List V → List PyData → Prop
  | nil : DrL K S H [] []
  | cons {v : V} {vs : List V} {d : PyData} {ds : List PyData} : Dr K S H v d → DrL K S H vs ds → DrL K S H (v :: vs) (d :: ds)
inductive RbL (K : PySem.W.Frag) (S : Hd) (Γ : Gm) (σ : St) (H : Hp) : List V → List PyData → Prop
  | nil : RbL K S Γ σ H [] []
  | cons {v : V} {vs : List V} {d : PyData} {ds : List PyData} : Rb K S Γ σ H v d → RbL K S Γ σ H vs ds → RbL K S Γ σ H (v :: vs) (d :: ds)
def tLR (K : PySem.W.Frag) (W : WX) (w : DL) : TA := fun σ H Q => ∃ (F : Fm) (S : Hd) (Γ : Gm) (Qd : List PyData → Gm → Prop) (Ed : Ke), En K F S Γ σ H ∧ w Γ Qd Ed ∧
  (∀ ds Γ' vs H', Qd ds Γ' → Mv S σ Γ Γ' H H' → En K F S Γ' σ H' → RbL K S Γ' σ H' vs ds → Q vs H') ∧ (∀ c Γ' H', Ed c Γ' → En K F S Γ' σ H' → W (.ref (He.ga K c)) none σ H')
section
variable {K : PySem.W.Frag} {F : Fm} {S : Hd} {Γ Γ' : Gm} {σ : St} {H H' : Hp} {v : V} {d : PyData}
theorem RbL.mv (m : Mv S σ Γ Γ' H H') : ∀ {vs : List V} {ds : List PyData}, RbL K S Γ σ H vs ds → RbL K S Γ' σ H' vs ds
  | _, _, .nil => .nil
  | _, _, .cons h t => .cons (h.mv m) (RbL.mv m t)
theorem RbL.dr (e : En K F S Γ σ H) : ∀ {vs : List V} {ds : List PyData}, RbL K S Γ σ H vs ds → DrL K S H vs ds
  | _, _, .nil => .nil
  | _, _, .cons h t => .cons (h.dr e) (RbL.dr e t)
theorem DrL.one {vs : List V} {d : PyData} (h : DrL K S H vs [d]) : ∃ v, vs = [v] ∧ Dr K S H v d := by
  cases h with
  | cons h t => cases t; exact ⟨_, rfl, h⟩
theorem DrL.two {vs : List V} {d e : PyData} (h : DrL K S H vs [d, e]) : ∃ v w, vs = [v, w] ∧ Dr K S H v d ∧ Dr K S H w e := by
  cases h with
  | cons h t =>
    obtain ⟨w, rfl, hw⟩ := t.one
    exact ⟨_, w, rfl, h, hw⟩
end

section
variable {X : Cx} {W : WX} {e a b c : Expr} {es : List Expr}
theorem peImp {t t' : TE} (h : PE X e t) (i : ∀ σ H Q, t' σ H Q → t σ H Q) : PE X e t' := ⟨fun pins s σ H Q I q => h.run pins s σ H Q I (i σ H Q q)⟩
theorem ptImp {t t' : TT} (h : PT X e t) (i : ∀ σ H Q, t' σ H Q → t σ H Q) : PT X e t' := ⟨fun pins s σ H Q I q => h.run pins s σ H Q I (i σ H Q q)⟩
theorem pwImp {t t' : TT} (h : PW X e t) (i : ∀ σ H Q, t' σ H Q → t σ H Q) : PW X e t' := ⟨fun wh pins s σ H Q I q => h.run wh pins s σ H Q I (i σ H Q q)⟩
theorem paImp {t t' : TA} (h : PA X es t) (i : ∀ σ H Q, t' σ H Q → t σ H Q) : PA X es t' := ⟨fun pos pins s σ H Q I q => h.run pos pins s σ H Q I (i σ H Q q)⟩
theorem psImp {st : Stmt} {t t' : TS} (h : PS X st t) (i : ∀ D σ H, t' D σ H → t D σ H) : PS X st t' := ⟨fun pins s σ H D I q => h.run pins s σ H D I (i D σ H q)⟩
theorem pssImp {st : List Stmt} {t t' : TS} (h : PSs X st t) (i : ∀ D σ H, t' D σ H → t D σ H) : PSs X st t' := ⟨fun pins s σ H D I q => h.run pins s σ H D I (i D σ H q)⟩
theorem piImp {tg : Expr} {t t' : TI} (h : PI X tg e t) (i : ∀ σ H R, t' σ H R → t σ H R) : PI X tg e t' := ⟨fun pins s σ H R I q => h.run pins s σ H R I (i σ H R q)⟩

/-- data is readable -/
theorem toR {w : DE} (h : PE X e (tD X.K W w)) : PE X e (tR X.K W w) := peImp h fun σ H Q ⟨F, S, Γ, Qd, Ed, en, hw, k, ke⟩ => ⟨F, S, Γ, Qd, Ed, en, hw, fun d Γ' v H' q m en' hv => k d Γ' v H' q m en' (.of hv), ke⟩

/-! ### names, constants -/
def wVar (i : Nat) : DE := fun Γ Q _ => ∃ d, Γ[i]? = some (Sl.dat d) ∧ Q d Γ
def rdS : Sl → Option PyData
  | .dat d => some d
  | .own0 d => some d
  | _ => none
def wPk (i : Nat) : DE := fun Γ Q _ => ∃ d, (Γ[i]?.bind rdS) = some d ∧ Q d Γ
def wC (d : PyData) : DE := fun Γ Q _ => Q d Γ
theorem de_var (i : Nat) {x : Str} {pos : Pos} (h : PE X (.Name x pos) (tVar i)) : PE X (.Name x pos) (tD X.K W (wVar i)) := peImp h fun σ H Q ⟨F, S, Γ, Qd, Ed, en, ⟨d, hd, q⟩, k, ke⟩ => by
  obtain ⟨o, h1, v, rfl, hv⟩ := en.slot i _ hd
  exact ⟨v, h1, k d Γ v H q .refl en hv⟩
theorem de_pk (i : Nat) {x : Str} {pos : Pos} (h : PE X (.Name x pos) (tVar i)) : PE X (.Name x pos) (tR X.K W (wPk i)) := peImp h fun σ H Q ⟨F, S, Γ, Qd, Ed, en, ⟨d, hd, q⟩, k, ke⟩ => by
  cases hi : Γ[i]? with
  | none => rw [hi] at hd; cases hd
  | some s =>
    rw [hi] at hd
    obtain ⟨o, h1, h2⟩ := en.slot i _ hi
    cases s with
    | no => cases hd
    | dat d' =>
      cases hd
      obtain ⟨v, rfl, hv⟩ := h2
      exact ⟨v, h1, k _ Γ v H q .refl en (.of hv)⟩
    | own0 ds =>
      cases hd
      obtain ⟨a, vs, rfl, h3⟩ := h2
      exact ⟨_, h1, k _ Γ _ H q .refl en (.inr ⟨i, hi, h1⟩)⟩
    | twn n => cases hd
    | scr => cases hd
    | rs a r => cases hd
    | vw a r => cases hd
theorem de_c {v : V} {d : PyData} (h : PE X e (tC v)) (hv : ∀ H, Da X.K H v d) : PE X e (tD X.K W (wC d)) := peImp h fun σ H Q ⟨F, S, Γ, Qd, Ed, en, q, k, ke⟩ => k d Γ v H q .refl en (hv _)
theorem de_int {i : Int} {j : Nat} {pos : Pos} : PE X (.Constant (.int i) j pos) (tD X.K W (wC (.int i))) := de_c pe_int fun _ => .int i
theorem de_bl {i : Bool} {j : Nat} {pos : Pos} : PE X (.Constant (.bool i) j pos) (tD X.K W (wC (.bool i))) := de_c pe_bl fun _ => .bl i
theorem de_non {j : Nat} {pos : Pos} : PE X (.Constant .none j pos) (tD X.K W (wC .none)) := de_c pe_non fun _ => .non
theorem de_str {i : Str} {j : Nat} {pos : Pos} : PE X (.Constant (.str i) j pos) (tD X.K W (wC (.str i))) := de_c pe_str fun _ => .str i

/-! ### two operands -/
def OkR (K : PySem.W.Frag) (r : R2) (op : PyData → PyData → PyData → Prop) : Prop := ∀ (S : Hd) (H : Hp) (x y : V) (dx dy d : PyData) (Q : VK), Hid S H → op dx dy d → Dr K S H x dx → Dr K S H y dy → (∀ v H', Same H H' → Da K (off S H') v d → Q v H') → r x y H Q
def wBin (op : PyData → PyData → PyData → Prop) (wa wb : DE) : DE := fun Γ Q E => wa Γ (fun x Γ1 => wb Γ1 (fun y Γ2 => ∃ d, op x y d ∧ Q d Γ2) E) E
theorem op_rd {K : PySem.W.Frag} {r : R2} {op : PyData → PyData → PyData → Prop} (hr : OkR K r op) {wa wb : DE} {σ : St} {H : Hp} {Q : VK} (h : tD K W (wBin op wa wb) σ H Q) : tOp r (tR K W wa) (tR K W wb) σ H Q := by
  obtain ⟨F, S, Γ, Qd, Ed, e, hw, k, ke⟩ := h
  exact ⟨F, S, Γ, _, Ed, e, hw, fun x Γ1 v1 H1 hb m1 e1 r1 => ⟨F, S, Γ1, _, Ed, e1, hb, fun y Γ2 v2 H2 ⟨d, ho, q⟩ m2 e2 r2 =>
    hr S H2 v1 v2 x y d Q e2.hid ho ((r1.mv m2).dr e2) (r2.dr e2) (fun v H' s hv => k d Γ2 v H' q ((m1.trans m2).trans (.of e2 s)) (e2.same s) hv), ke⟩, ke⟩
theorem de_bin {o : Operator} {pos : Pos} {r : R2} {op : PyData → PyData → PyData → Prop} {wa wb : DE} (ho : OpR X (binaryOp o) r) (hr : OkR X.K r op) (ha : PE X a (tR X.K W wa)) (hb : PE X b (tR X.K W wb)) : PE X (.BinOp a o b pos) (tD X.K W (wBin op wa wb)) :=
  peImp (pe_op ho ha hb) fun _ _ _ h => op_rd hr h
theorem de_cmp {o : CmpOp} {pos : Pos} {r : R2} {op : PyData → PyData → PyData → Prop} {wa wb : DE} (ho : OpR X (compareOp o) r) (hr : OkR X.K r op) (ha : PE X a (tR X.K W wa)) (hb : PE X b (tR X.K W wb)) (hm : behindInMarks o b = false) : PE X (.Compare a [o] [b] pos) (tD X.K W (wBin op wa wb)) :=
  peImp (pe_cmpR ho ha hb hm) fun _ _ _ h => op_rd hr h
theorem de_ix {pos : Pos} {r : R2} {op : PyData → PyData → PyData → Prop} {wa wb : DE} (ho : IxR X r) (hr : OkR X.K r op) (ha : PE X a (tR X.K W wa)) (hb : PE X b (tR X.K W wb)) (hs : PlainIx b) : PE X (.Subscript a b pos) (tD X.K W (wBin op wa wb)) :=
  peImp (pe_ix ho ha hb hs) fun _ _ _ h => op_rd hr h
/-! ### one operand -/
def OkU (K : PySem.W.Frag) (r : V → Hp → VK → Prop) (op : PyData → PyData → Prop) : Prop := ∀ (S : Hd) (H : Hp) (x : V) (dx d : PyData) (Q : VK), Hid S H → op dx d → Dr K S H x dx → (∀ v H', Same H H' → Da K (off S H') v d → Q v H') → r x H Q
def wUn (op : PyData → PyData → Prop) (wa : DE) : DE := fun Γ Q E => wa Γ (fun x Γ1 => ∃ d, op x d ∧ Q d Γ1) E
theorem de_un {o : UnaryOp} {pos : Pos} {r : V → Hp → VK → Prop} {op : PyData → PyData → Prop} {wa : DE} (ho : UnR X (unaryOp o) r) (hr : OkU X.K r op) (ha : PE X a (tR X.K W wa)) : PE X (.UnaryOp o a pos) (tD X.K W (wUn op wa)) :=
  peImp (pe_un ho ha) fun σ H Q ⟨F, S, Γ, Qd, Ed, e, hw, k, ke⟩ => ⟨F, S, Γ, _, Ed, e, hw, fun x Γ1 v1 H1 ⟨d, ho, q⟩ m1 e1 r1 => hr S H1 v1 x d Q e1.hid ho (r1.dr e1) (fun v H' s hv => k d Γ1 v H' q (m1.trans (.of e1 s)) (e1.same s) hv), ke⟩
/-! ### truth -/
def TruD : PyData → Bool → Prop
  | .none, b => b = false
  | .bool c, b => b = c
  | .int i, b => b = (i != 0)
  | .str x, b => x.length ≤ sizeLine ∧ b = ((x.length : Int) != 0)
  | .list ds, b => b = !ds.isEmpty
  | .tuple ds, b => b = !ds.isEmpty
  | .dict ((.none, _) :: _), _ => False
  | .dict ps, b => b = !ps.isEmpty
theorem DaL.empty {K : PySem.W.Frag} {H : Hp} {vs : List V} {ds : List PyData} (h : DaL K H vs ds) : vs.isEmpty = ds.isEmpty := by
  cases h <;> rfl
theorem DaD.empty {K : PySem.W.Frag} {H : Hp} {vs : List (Key × V)} {ds : List (PyData × PyData)} (h : DaD K H vs ds) : vs.isEmpty = ds.isEmpty := by
  cases h <;> rfl
theorem tru_of {K : PySem.W.Frag} {S : Hd} {H : Hp} {v : V} {d : PyData} {b : Bool} (h : Dr K S H v d) (t : TruD d b) : TruV K v H b := by
  cases d with
  | none => rw [h.none]; exact t
  | bool c => rw [h.bool]; exact t
  | int i => rw [h.int]; exact t
  | str x => rw [h.str]; exact t
  | list ds =>
    obtain ⟨a, vs, rfl, h1, h2⟩ := h.list
    exact .inl ⟨vs, .of h1, by rw [h2.empty]; exact t⟩
  | tuple ds =>
    obtain ⟨a, vs, rfl, h1, h2⟩ := h.tuple
    exact .inr (.inl ⟨vs, h1, by rw [h2.empty]; exact t⟩)
  | dict ps =>
    have key : ∀ {a : Addr} {kvs : List (Key × V)}, H a = some (.dK kvs) → DaD K (off S H) kvs ps → TruV K (.ref a) H b := fun h1 h2 => by
      have e : b = !ps.isEmpty := by
        cases h2 with
        | nil => exact t
        | @cons k _ _ _ _ _ _ => cases k <;> exact t
      exact .inr (.inr ⟨_, h1, by rw [h2.empty]; exact e⟩)
    rcases h with h | ⟨a, u, rfl, h1, kvs, rfl, h2⟩
    · cases h with
      | dic h1 h2 => exact key (off_get h1).2 h2
      | exc _ _ => exact t.elim
    · exact key h1 h2
def wTru (w : DE) : DB := fun Γ Q E => w Γ (fun d Γ1 => ∃ b, TruD d b ∧ Q b Γ1) E
theorem dt_tru {wa : DE} (ha : PE X a (tR X.K W wa)) (he : ∀ whole, isTrue a X.env whole = (do let v ← whole; standAt a.pos; holding [v] (truthy v))) : PT X a (tB X.K W (wTru wa)) :=
  ptImp (pt_truth ha he) fun σ H Q ⟨F, S, Γ, Qd, Ed, e, hw, k, ke⟩ => ⟨F, S, Γ, _, Ed, e, hw, fun x Γ1 v1 H1 ⟨b, ht, q⟩ m1 e1 r1 => ⟨b, tru_of (r1.dr e1) ht, k b Γ1 H1 q m1 e1⟩, ke⟩
def wTst (w : DE) : DB := fun Γ Q E => w Γ (fun d Γ1 => ∃ b, d = .bool b ∧ Q b Γ1) E
theorem tst_rd {K : PySem.W.Frag} {w : DE} {t : TE} (i : ∀ σ H Q, tD K W w σ H Q → t σ H Q) {σ : St} {H : Hp} {Q : Bool → Hp → Prop} (h : tB K W (wTst w) σ H Q) : tTest t σ H Q := by
  obtain ⟨F, S, Γ, Qd, Ed, e, hw, k, ke⟩ := h
  refine i σ H _ ⟨F, S, Γ, _, Ed, e, hw, fun d Γ1 v H1 ⟨b, ed, q⟩ m1 e1 hv => ?_, ke⟩
  subst ed
  cases hv
  exact ⟨b, rfl, k b Γ1 H1 q m1 e1⟩
theorem dt_cmp {o : CmpOp} {pos : Pos} {r : R2} {op : PyData → PyData → PyData → Prop} {wa wb : DE} (ho : OpR X (compareOp o) r) (hr : OkR X.K r op) (ha : PE X a (tR X.K W wa)) (hb : PE X b (tR X.K W wb)) (hm : behindInMarks o b = false) : PT X (.Compare a [o] [b] pos) (tB X.K W (wTst (wBin op wa wb))) :=
  ptImp (pt_cmpR ho ha hb hm) fun _ _ _ h => tst_rd (fun _ _ _ => op_rd hr) h
/-! ### a < b < c -/
def wChain (op op' : PyData → PyData → PyData → Prop) (wa wb wc : DE) : DE := fun Γ Q E => wa Γ (fun x Γ1 => wb Γ1 (fun y Γ2 => ∃ b, op x y (.bool b) ∧ if b = true then wc Γ2 (fun z Γ3 => ∃ d, op' y z d ∧ Q d Γ3) E else Q (.bool false) Γ2) E) E
theorem chain_rd {K : PySem.W.Frag} {r r' : R2} {op op' : PyData → PyData → PyData → Prop} (hr : OkR K r op) (hr' : OkR K r' op') {wa wb wc : DE} {σ : St} {H : Hp} {Q : VK} (h : tD K W (wChain op op' wa wb wc) σ H Q) : tChain r r' (tR K W wa) (tR K W wb) (tR K W wc) σ H Q := by
  obtain ⟨F, S, Γ, Qd, Ed, e, hw, k, ke⟩ := h
  refine ⟨F, S, Γ, _, Ed, e, hw, fun x Γ1 v1 H1 hb m1 e1 r1 => ⟨F, S, Γ1, _, Ed, e1, hb, fun y Γ2 v2 H2 ⟨b, ho, q⟩ m2 e2 r2 => ?_, ke⟩, ke⟩
  refine hr S H2 v1 v2 x y _ _ e2.hid ho ((r1.mv m2).dr e2) (r2.dr e2) fun v H3 s hv => ?_
  cases hv
  refine ⟨b, rfl, ?_⟩
  cases b with
  | false =>
    exact k _ Γ2 _ H3 q ((m1.trans m2).trans (.of e2 s)) (e2.same s) (.bl false)
  | true =>
    refine ⟨F, S, Γ2, _, Ed, e2.same s, q, fun z Γ3 v3 H4 ⟨d, ho', q'⟩ m3 e3 r3 => ?_, ke⟩
    exact hr' S H4 v2 v3 y z d Q e3.hid ho' ((r2.mv ((Mv.of e2 s).trans m3)).dr e3) (r3.dr e3) fun v' H5 s' hv' => k d Γ3 v' H5 q' (((m1.trans m2).trans (.of e2 s)).trans (m3.trans (.of e3 s'))) (e3.same s') hv'
theorem de_chain {o o' : CmpOp} {pos : Pos} {r r' : R2} {op op' : PyData → PyData → PyData → Prop} {wa wb wc : DE} (ho : OpR X (compareOp o) r) (ho' : OpR X (compareOp o') r') (hr : OkR X.K r op) (hr' : OkR X.K r' op') (ha : PE X a (tR X.K W wa)) (hb : PE X b (tR X.K W wb)) (hc : PE X c (tR X.K W wc))
    (hm : lastMarks [o, o'] [b, c] = false := by with_unfolding_all rfl) : PE X (.Compare a [o, o'] [b, c] pos) (tD X.K W (wChain op op' wa wb wc)) := peImp (pe_chain ho ho' ha hb hc hm) fun _ _ _ h => chain_rd hr hr' h
theorem dt_chain {o o' : CmpOp} {pos : Pos} {r r' : R2} {op op' : PyData → PyData → PyData → Prop} {wa wb wc : DE} (ho : OpR X (compareOp o) r) (ho' : OpR X (compareOp o') r') (hr : OkR X.K r op) (hr' : OkR X.K r' op') (ha : PE X a (tR X.K W wa)) (hb : PE X b (tR X.K W wb)) (hc : PE X c (tR X.K W wc))
    (hm : lastMarks [o, o'] [b, c] = false := by with_unfolding_all rfl) : PT X (.Compare a [o, o'] [b, c] pos) (tB X.K W (wTst (wChain op op' wa wb wc))) := ptImp (pt_chain ho ho' ha hb hc hm) fun _ _ _ h => tst_rd (fun _ _ _ => chain_rd hr hr') h
/-! ### and, or, not, if -/
def wtAnd (t u : DB) : DB := fun Γ Q E => t Γ (fun b Γ1 => if b = true then u Γ1 Q E else Q false Γ1) E
def wtOr (t u : DB) : DB := fun Γ Q E => t Γ (fun b Γ1 => if b = true then Q true Γ1 else u Γ1 Q E) E
def wtNot (t : DB) : DB := fun Γ Q E => t Γ (fun b Γ1 => Q (!b) Γ1) E
variable {rest : List Expr} {pos : Pos}
theorem dt_and1 {t : DB} (h : PT X a (tB X.K W t)) : PW X (.BoolOp .And [a] pos) (tB X.K W t) := pw_and1 h
theorem dt_or1 {t : DB} (h : PT X a (tB X.K W t)) : PW X (.BoolOp .Or [a] pos) (tB X.K W t) := pw_or1 h
theorem dt_and {t u : DB} (h : PT X a (tB X.K W t)) (hb : PW X (.BoolOp .And (b :: rest) pos) (tB X.K W u)) : PW X (.BoolOp .And (a :: b :: rest) pos) (tB X.K W (wtAnd t u)) :=
  pwImp (pw_and h hb) fun σ H Q ⟨F, S, Γ, Qd, Ed, e, hw, k, ke⟩ => ⟨F, S, Γ, _, Ed, e, hw, fun b Γ1 H1 q m1 e1 => by
    cases b with
    | true => exact ⟨F, S, Γ1, _, Ed, e1, q, fun c Γ2 H2 q2 m2 e2 => k c Γ2 H2 q2 (m1.trans m2) e2, ke⟩
    | false => exact k false Γ1 H1 q m1 e1, ke⟩
theorem dt_or {t u : DB} (h : PT X a (tB X.K W t)) (hb : PW X (.BoolOp .Or (b :: rest) pos) (tB X.K W u)) : PW X (.BoolOp .Or (a :: b :: rest) pos) (tB X.K W (wtOr t u)) :=
  pwImp (pw_or h hb) fun σ H Q ⟨F, S, Γ, Qd, Ed, e, hw, k, ke⟩ => ⟨F, S, Γ, _, Ed, e, hw, fun b Γ1 H1 q m1 e1 => by
    cases b with
    | false => exact ⟨F, S, Γ1, _, Ed, e1, q, fun c Γ2 H2 q2 m2 e2 => k c Γ2 H2 q2 (m1.trans m2) e2, ke⟩
    | true => exact k true Γ1 H1 q m1 e1, ke⟩
theorem dt_not {t : DB} (h : PT X a (tB X.K W t)) : PT X (.UnaryOp .Not a pos) (tB X.K W (wtNot t)) :=
  ptImp (pt_not h) fun σ H Q ⟨F, S, Γ, Qd, Ed, e, hw, k, ke⟩ => ⟨F, S, Γ, _, Ed, e, hw, fun b Γ1 H1 q m1 e1 => k (!b) Γ1 H1 q m1 e1, ke⟩
def wAnd (wa wb : DE) : DE := fun Γ Q E => wa Γ (fun x Γ1 => ∃ b, TruD x b ∧ if b = true then wb Γ1 Q E else Q x Γ1) E
def wOr (wa wb : DE) : DE := fun Γ Q E => wa Γ (fun x Γ1 => ∃ b, TruD x b ∧ if b = true then Q x Γ1 else wb Γ1 Q E) E
def wNot (wa : DE) : DE := fun Γ Q E => wa Γ (fun x Γ1 => ∃ b, TruD x b ∧ Q (.bool !b) Γ1) E
theorem de_one {o : BoolOp} {w : DE} (h : PE X a (tD X.K W w)) : PE X (.BoolOp o [a] pos) (tD X.K W w) := pe_one h
theorem de_and {wa wb : DE} (h : PE X a (tD X.K W wa)) (hb : PE X (.BoolOp .And (b :: rest) pos) (tD X.K W wb)) : PE X (.BoolOp .And (a :: b :: rest) pos) (tD X.K W (wAnd wa wb)) :=
  peImp (pe_andT h hb) fun σ H Q ⟨F, S, Γ, Qd, Ed, e, hw, k, ke⟩ => ⟨F, S, Γ, _, Ed, e, hw, fun x Γ1 v1 H1 ⟨b, ht, q⟩ m1 e1 r1 => ⟨b, tru_of (.inl r1) ht, by
    cases b with
    | true => exact ⟨F, S, Γ1, _, Ed, e1, q, fun d Γ2 v H2 q2 m2 e2 hv => k d Γ2 v H2 q2 (m1.trans m2) e2 hv, ke⟩
    | false => exact k x Γ1 v1 H1 q m1 e1 r1⟩, ke⟩
theorem de_or {wa wb : DE} (h : PE X a (tD X.K W wa)) (hb : PE X (.BoolOp .Or (b :: rest) pos) (tD X.K W wb)) : PE X (.BoolOp .Or (a :: b :: rest) pos) (tD X.K W (wOr wa wb)) :=
  peImp (pe_orT h hb) fun σ H Q ⟨F, S, Γ, Qd, Ed, e, hw, k, ke⟩ => ⟨F, S, Γ, _, Ed, e, hw, fun x Γ1 v1 H1 ⟨b, ht, q⟩ m1 e1 r1 => ⟨b, tru_of (.inl r1) ht, by
    cases b with
    | false => exact ⟨F, S, Γ1, _, Ed, e1, q, fun d Γ2 v H2 q2 m2 e2 hv => k d Γ2 v H2 q2 (m1.trans m2) e2 hv, ke⟩
    | true => exact k x Γ1 v1 H1 q m1 e1 r1⟩, ke⟩
theorem de_not {wa : DE} (h : PE X a (tR X.K W wa)) : PE X (.UnaryOp .Not a pos) (tD X.K W (wNot wa)) :=
  peImp (pe_notT h) fun σ H Q ⟨F, S, Γ, Qd, Ed, e, hw, k, ke⟩ => ⟨F, S, Γ, _, Ed, e, hw, fun x Γ1 v1 H1 ⟨b, ht, q⟩ m1 e1 r1 => ⟨b, tru_of (r1.dr e1) ht, k (.bool !b) Γ1 _ H1 q m1 e1 (.bl _)⟩, ke⟩
def wIf (t : DB) (wa wb : DE) : DE := fun Γ Q E => t Γ (fun c Γ1 => if c = true then wa Γ1 Q E else wb Γ1 Q E) E
theorem de_if {t : DB} {wa wb : DE} (hc : PT X c (tB X.K W t)) (ha : PE X a (tD X.K W wa)) (hb : PE X b (tD X.K W wb)) : PE X (.IfExp c a b pos) (tD X.K W (wIf t wa wb)) :=
  peImp (pe_ifExp hc ha hb) fun σ H Q ⟨F, S, Γ, Qd, Ed, e, hw, k, ke⟩ => ⟨F, S, Γ, _, Ed, e, hw, fun c Γ1 H1 q m1 e1 => by
    cases c with
    | true => exact ⟨F, S, Γ1, _, Ed, e1, q, fun d Γ2 v H2 q2 m2 e2 hv => k d Γ2 v H2 q2 (m1.trans m2) e2 hv, ke⟩
    | false => exact ⟨F, S, Γ1, _, Ed, e1, q, fun d Γ2 v H2 q2 m2 e2 hv => k d Γ2 v H2 q2 (m1.trans m2) e2 hv, ke⟩, ke⟩
/-! ### arguments, displays -/
def wNil : DL := fun Γ Q _ => Q [] Γ
def wCons (w : DE) (ws : DL) : DL := fun Γ Q E => w Γ (fun d Γ1 => ws Γ1 (fun ds Γ2 => Q (d :: ds) Γ2) E) E
theorem da_nil : PA X [] (tL X.K W wNil) := paImp pa_nil fun σ H Q ⟨F, S, Γ, Qd, Ed, e, hw, k, ke⟩ => k [] Γ [] H hw .refl e .nil
theorem da_cons {w : DE} {ws : DL} (h : PE X e (tD X.K W w)) (hr : PA X es (tL X.K W ws)) (hs : starEach (e :: es) X.env = (false, eval e X.env) :: starEach es X.env := by rfl) : PA X (e :: es) (tL X.K W (wCons w ws)) :=
  paImp (pa_cons h hr hs) fun σ H Q ⟨F, S, Γ, Qd, Ed, e, hw, k, ke⟩ => ⟨F, S, Γ, _, Ed, e, hw, fun d Γ1 v1 H1 q m1 e1 r1 => ⟨F, S, Γ1, _, Ed, e1, q, fun ds Γ2 vs H2 q2 m2 e2 hv => k (d :: ds) Γ2 _ H2 q2 (m1.trans m2) e2 (.cons (r1.mono m2.le.off) hv), ke⟩, ke⟩
theorem dr_nil : PA X [] (tLR X.K W wNil) := paImp pa_nil fun σ H Q ⟨F, S, Γ, Qd, Ed, e, hw, k, ke⟩ => k [] Γ [] H hw .refl e .nil
theorem dr_cons {w : DE} {ws : DL} (h : PE X e (tR X.K W w)) (hr : PA X es (tLR X.K W ws)) (hs : starEach (e :: es) X.env = (false, eval e X.env) :: starEach es X.env := by rfl) : PA X (e :: es) (tLR X.K W (wCons w ws)) :=
  paImp (pa_cons h hr hs) fun σ H Q ⟨F, S, Γ, Qd, Ed, e, hw, k, ke⟩ => ⟨F, S, Γ, _, Ed, e, hw, fun d Γ1 v1 H1 q m1 e1 r1 => ⟨F, S, Γ1, _, Ed, e1, q, fun ds Γ2 vs H2 q2 m2 e2 hv => k (d :: ds) Γ2 _ H2 q2 (m1.trans m2) e2 (.cons (r1.mv m2) hv), ke⟩, ke⟩
def wTup (ws : DL) : DE := fun Γ Q E => ws Γ (fun ds Γ1 => ds.length ≤ sizeLine ∧ Q (.tuple ds) Γ1) E
def wLst (ws : DL) : DE := fun Γ Q E => ws Γ (fun ds Γ1 => ds.length ≤ sizeLine ∧ Q (.list ds) Γ1) E
theorem de_tup {ws : DL} {x1 : Nat} (h : PA X es (tL X.K W ws)) : PE X (.Tuple es x1 pos) (tD X.K W (wTup ws)) :=
  peImp (pe_tup h) fun σ H Q ⟨F, S, Γ, Qd, Ed, e, hw, k, ke⟩ => ⟨F, S, Γ, _, Ed, e, hw, fun ds Γ1 vs H1 ⟨hz, q⟩ m1 e1 hv => ⟨by rw [hv.length]; exact hz, fun p hp => k _ Γ1 _ _ q (m1.trans (.of e1 (same_new hp))) (e1.same (same_new hp)) (.newT e1.hid hp hv)⟩, ke⟩
theorem de_lst {ws : DL} (h : PA X es (tL X.K W ws)) : PE X (.List es pos) (tD X.K W (wLst ws)) :=
  peImp (pe_lst h) fun σ H Q ⟨F, S, Γ, Qd, Ed, e, hw, k, ke⟩ => ⟨F, S, Γ, _, Ed, e, hw, fun ds Γ1 vs H1 ⟨hz, q⟩ m1 e1 hv => ⟨by rw [hv.length]; exact hz, fun p hp => k _ Γ1 _ _ q (m1.trans (.of e1 (same_new hp))) (e1.same (same_new hp)) (.newL e1.hid hp hv)⟩, ke⟩
/-! ### built-ins called by name -/
def OkC (K : PySem.W.Frag) (r : List V → Hp → VK → Prop) (op : List PyData → PyData → Prop) : Prop := ∀ (S : Hd) (H : Hp) (xs : List V) (dx : List PyData) (d : PyData) (Q : VK), Hid S H → op dx d → DrL K S H xs dx → (∀ v H', Same H H' → Da K (off S H') v d → Q v H') → r xs H Q
def wCall (op : List PyData → PyData → Prop) (ws : DL) : DE := fun Γ Q E => ws Γ (fun ds Γ1 => ∃ d, op ds d ∧ Q d Γ1) E
theorem cb_rd {K : PySem.W.Frag} {r : List V → Hp → VK → Prop} {op : List PyData → PyData → Prop} (hr : OkC K r op) {ws : DL} {σ : St} {H : Hp} {Q : VK} (h : tD K W (wCall op ws) σ H Q) : tCB r (tLR K W ws) σ H Q := by
  obtain ⟨F, S, Γ, Qd, Ed, e, hw, k, ke⟩ := h
  exact ⟨F, S, Γ, _, Ed, e, hw, fun ds Γ1 vs H1 ⟨d, ho, q⟩ m1 e1 hv => hr S H1 vs ds d Q e1.hid ho (hv.dr e1) fun v H' s h' => k d Γ1 v H' q (m1.trans (.of e1 s)) (e1.same s) h', ke⟩
theorem de_cb {id : String} {x : Str} {p : Pos} {r : List V → Hp → VK → Prop} {op : List PyData → PyData → Prop} {ws : DL} (hc : CallR X (.builtin id) r) (hr : OkC X.K r op) (hg : Gl X x) (hm : X.mg x = none) (hv : bootBuiltins x = some (.builtin id)) (ha : PA X (e :: es) (tLR X.K W ws))
    (hn : x ≠ "__name__" := by decide) (hdb : (x == ("__debug__" : Str)) = false := by decide) (he : starEach (e :: es) X.env = (false, eval e X.env) :: starEach es X.env := by rfl) (hpl : (backTo pos (starEach es X.env)).any (·.1) = false := by rfl) :
    PE X (.Call (.Name x p) (e :: es) [] pos) (tD X.K W (wCall op ws)) := peImp (pe_callB hc hg hm hv ha hn hdb he hpl) fun _ _ _ h => cb_rd hr h
theorem de_ct {id : String} {x : Str} {p : Pos} {r : List V → Hp → VK → Prop} {op : List PyData → PyData → Prop} {ws : DL} (hc : CallR X (.type id) r) (hr : OkC X.K r op) (hg : Gl X x) (hm : X.mg x = none) (hv : bootBuiltins x = some (.type id)) (ha : PA X (e :: es) (tLR X.K W ws))
    (hn : x ≠ "__name__" := by decide) (hdb : (x == ("__debug__" : Str)) = false := by decide) (he : starEach (e :: es) X.env = (false, eval e X.env) :: starEach es X.env := by rfl) (hpl : (backTo pos (starEach es X.env)).any (·.1) = false := by rfl) :
    PE X (.Call (.Name x p) (e :: es) [] pos) (tD X.K W (wCall op ws)) := peImp (pe_callTy hc hg hm hv ha hn hdb he hpl) fun _ _ _ h => cb_rd hr h
end
end Dt

/-! Gat2: calls of defs, what is walked, comprehensions. -/
namespace Dt
open PySem L2

section
variable {K : PySem.W.Frag} {F : Fm} {S S' : Hd} {Γ Γ' : Gm} {σ : St} {H H' : Hp} {v : V} {d : PyData} {i : Nat}
theorem getset {α : Type} (l : List α) (i j : Nat) (x : α) : (l.set i x)[j]? = if i = j then (if i < l.length then some x else none) else l[j]? := by
  rw [List.getElem?_set]
theorem set_at {α : Type} {l : List α} {i j : Nat} {x y : α} (h : (l.set i x)[j]? = some y) : (i = j ∧ i < l.length ∧ y = x) ∨ (i ≠ j ∧ l[j]? = some y) := by
  rw [getset] at h
  by_cases e : i = j
  · rw [if_pos e] at h
    by_cases q : i < l.length
    · rw [if_pos q] at h
      exact .inl ⟨e, q, (Option.some.inj h).symm⟩
    · rw [if_neg q] at h; cases h
  · rw [if_neg e] at h
    exact .inr ⟨e, h⟩
/-- slots looked at by their values -/
theorem En.at (h : En K F S Γ σ H) {s : Sl} {o : Option V} (g : Γ[i]? = some s) (e : σ[i]? = some o) : SlOk K F S H s o := by
  obtain ⟨o', a, k⟩ := h.slot i s g
  rw [e] at a
  cases a
  exact k
/-- a slot that is set to what is no list of its own -/
theorem En.setP (h : En K F S Γ σ H) (i : Nat) (s : Sl) (o : Option V) (hm : s.mut = false) (hs : SlOk K F S H s o) : En K F S (Γ.set i s) (σ.set i o) H := by
  refine ⟨h.sub, h.tin, h.fr, h.hid, h.base, by rw [List.length_set, List.length_set]; exact h.len, fun j t q => ?_, fun j k s1 s2 o1 o2 a hjk q1 q2 m1 m2 r1 r2 p1 => ?_⟩
  · rcases set_at q with ⟨rfl, hi, rfl⟩ | ⟨hne, q⟩
    · exact ⟨o, by rw [getset, if_pos rfl, if_pos (by rw [← h.len]; exact hi)], hs⟩
    · obtain ⟨o', a, b⟩ := h.slot j t q
      exact ⟨o', by rw [getset, if_neg hne]; exact a, b⟩
  · rcases set_at q1 with ⟨rfl, hi, rfl⟩ | ⟨hne, q1⟩
    · rw [hm] at m1; cases m1
    · rcases set_at q2 with ⟨rfl, hi, rfl⟩ | ⟨hne2, q2⟩
      · rw [hm] at m2; cases m2
      · rw [getset, if_neg hne] at r1
        rw [getset, if_neg hne2] at r2
        exact h.inj j k s1 s2 o1 o2 a hjk q1 q2 m1 m2 r1 r2 p1
theorem En.set (h : En K F S Γ σ H) (i : Nat) (hv : Da K (off S H) v d) : En K F S (Γ.set i (.dat d)) (σ.set i (some v)) H := h.setP i _ _ rfl ⟨v, rfl, hv⟩
theorem En.drop (h : En K F S Γ σ H) (i : Nat) : En K F S (Γ.set i .no) (σ.set i none) H := h.setP i _ _ rfl trivial
/-- a slot is forgotten -/
theorem En.forget (h : En K F S Γ σ H) (i : Nat) : En K F S (Γ.set i .no) σ H := by
  refine ⟨h.sub, h.tin, h.fr, h.hid, h.base, by rw [List.length_set]; exact h.len, fun j t q => ?_, fun j k s1 s2 o1 o2 a hjk q1 q2 m1 m2 r1 r2 p1 => ?_⟩
  · rcases set_at q with ⟨rfl, hi, rfl⟩ | ⟨hne, q⟩
    · exact ⟨σ[i]'(by rw [← h.len]; exact hi), List.getElem?_eq_getElem _, trivial⟩
    · exact h.slot j t q
  · rcases set_at q1 with ⟨rfl, hi, rfl⟩ | ⟨hne, q1⟩
    · cases m1
    · rcases set_at q2 with ⟨rfl, hi, rfl⟩ | ⟨hne2, q2⟩
      · cases m2
      · exact h.inj j k s1 s2 o1 o2 a hjk q1 q2 m1 m2 r1 r2 p1
/-- the heap changes, and what is hidden; all that the slots lean on stays -/
theorem En.move (h : En K F S Γ σ H) (sub : ∀ b, F.S0 b → S' b ∧ F.H0 b ≠ none) (tin : ∀ b, F.T b → S' b) (fr : ∀ b, S' b → F.S0 b ∨ F.T b ∨ F.H0 b = none) (hid : Hid S' H') (base : ∀ b o, ¬ F.T b → F.H0 b = some o → H' b = some o)
    (e : Same (off S H) (off S' H')) (c : ∀ (j : Nat) (s : Sl) (o : Option V) (b : Addr), Γ[j]? = some s → σ[j]? = some o → Fp H s o b → S' b ∧ H' b = H b) : En K F S' Γ σ H' := by
  refine ⟨sub, tin, fr, hid, base, h.len, fun j t q => ?_, fun j k s1 s2 o1 o2 a hjk q1 q2 m1 m2 r1 r2 p1 p2 => ?_⟩
  · obtain ⟨o, g, k⟩ := h.slot j t q
    exact ⟨o, g, k.keep e fun b z => c j t o b q g z⟩
  · exact h.inj j k s1 s2 o1 o2 a hjk q1 q2 m1 m2 r1 r2 (Fp.back (h.at q1 r1) (fun b z => (c j s1 o1 b q1 r1 z).2) p1) (Fp.back (h.at q2 r2) (fun b z => (c k s2 o2 b q2 r2 z).2) p2)
/-- more is hidden: a new place -/
theorem En.hide {p : Addr} {o : HO} (h : En K F S Γ σ H) (n : H p = none) : En K F (fun b => S b ∨ b = p) Γ σ (upd H p o) := by
  have e : Same (off S H) (off (fun b => S b ∨ b = p) (upd H p o)) := fun b u q => by
    obtain ⟨n1, q⟩ := off_get q
    have nb : b ≠ p := ne_of_none q n
    rw [off_in (fun z => z.elim n1 nb), upd_ne nb]
    exact q
  refine h.move (fun b z => ⟨.inl (h.sub b z).1, (h.sub b z).2⟩) (fun b z => .inl (h.tin b z)) (fun b z => z.elim (h.fr b) (fun q => by rw [q]; exact .inr (.inr (h.fresh0 n)))) (fun b z q => ?_) (fun b u nt q => ?_) e fun j s o b g r q => ?_
  · rcases z with z | z
    · by_cases e : b = p
      · rw [e, upd_same] at q; cases q
      · rw [upd_ne e] at q; exact h.hid b z q
    · rw [z, upd_same] at q; cases q
  · have q2 := h.base b u nt q
    rw [upd_ne (ne_of_none q2 n)]
    exact q2
  · obtain ⟨z1, z2⟩ := (h.at g r).fp q
    refine ⟨.inl z1, ?_⟩
    rw [upd_ne]
    exact fun y => z2 (y ▸ n)
/-- no slot's place -/
def NoFp (Γ : Gm) (σ : St) (H : Hp) (p : Addr) : Prop := ∀ (j : Nat) (s : Sl) (o : Option V), Γ[j]? = some s → σ[j]? = some o → ¬ Fp H s o p
/-- what is hidden but no slot's may change -/
theorem En.free {p : Addr} {o : HO} (h : En K F S Γ σ H) (hp : S p) (h0 : F.H0 p = none) (hn : NoFp Γ σ H p) : En K F S Γ σ (upd H p o) := by
  have e : Same (off S H) (off S (upd H p o)) := fun b u q => by
    obtain ⟨n1, q⟩ := off_get q
    have nb : b ≠ p := fun z => n1 (z ▸ hp)
    rw [off_in n1, upd_ne nb]
    exact q
  refine h.move h.sub h.tin h.fr (fun b z q => ?_) (fun b u nt q => ?_) e fun j s o b g r q => ?_
  · by_cases e : b = p
    · rw [e, upd_same] at q; cases q
    · rw [upd_ne e] at q; exact h.hid b z q
  · have q2 := h.base b u nt q
    rw [upd_ne (fun z => by rw [z, h0] at q; cases q)]
    exact q2
  · refine ⟨((h.at g r).fp q).1, ?_⟩
    rw [upd_ne]
    intro z
    exact hn j s o g r (z ▸ q)
/-- a slot's own places change: the slot is described anew -/
theorem En.renew {s0 s : Sl} {o : Option V} (h : En K F S Γ σ H) (hi : Γ[i]? = some s0) (hm : s0.mut = true) (ht : σ[i]? = some o) (hid : Hid S H') (base : ∀ b u, ¬ F.T b → F.H0 b = some u → H' b = some u) (k : ∀ b u, ¬ Fp H s0 o b → H b = some u → H' b = some u) (hs : SlOk K F S H' s o) (hf : ∀ b, Fp H' s o b → Fp H s0 o b) :
    En K F S (Γ.set i s) σ H' := by
  have hil : i < Γ.length := (List.getElem?_eq_some_iff.mp hi).1
  have e : Same (off S H) (off S H') := fun b u q => by
    obtain ⟨n1, q⟩ := off_get q
    rw [off_in n1]
    exact k b u (fun z => n1 ((h.at hi ht).fp z).1) q
  have other : ∀ (j : Nat) (t : Sl) (o' : Option V) (b : Addr), i ≠ j → Γ[j]? = some t → σ[j]? = some o' → Fp H t o' b → H' b = H b := fun j t o' b hne g r q => by
    have ne : ¬ Fp H s0 o b := fun z => by
      by_cases tm : t.mut = true
      · exact h.inj i j s0 t o o' b hne hi g hm tm ht r z q
      · cases t with
        | vw a rr =>
          obtain ⟨_, fp, w1, w2⟩ := h.at g r
          obtain ⟨fp', q1, q2⟩ := q
          rw [q1.det w1.rsF] at q2
          have w3 := w2 b q2
          cases s0 with
          | own0 d =>
            obtain ⟨x, u, y1, y2, y3, y4, _⟩ := h.at hi ht
            have z : o = some (.ref b) := z
            rw [y1] at z; cases z
            exact w3.2.2.1 y3
          | twn n =>
            obtain ⟨x, u, y1, y2, y3, y4⟩ := h.at hi ht
            have z : o = some (.ref b) := z
            rw [y1] at z; cases z
            rcases y3 with y3 | y3
            · exact w3.2.1 y3.2
            · exact w3.2.2.1 y3.1
          | rs a2 r2 =>
            obtain ⟨_, fp2, y1, y2⟩ := h.at hi ht
            obtain ⟨fp3, z1, z2⟩ := z
            rw [z1.det y1.rsF] at z2
            rcases (y2 b z2).2 with y | y
            · exact w3.2.1 y
            · exact w3.2.2.1 y
          | _ => cases hm
        | own0 d => exact tm rfl
        | twn n => exact tm rfl
        | rs a r => exact tm rfl
        | _ => cases q
    cases w : H b with
    | none => exact absurd w ((h.at g r).fp q).2
    | some u => exact k b u ne w
  refine ⟨h.sub, h.tin, h.fr, hid, base, by rw [List.length_set]; exact h.len, fun j t q => ?_, fun j k' s1 s2 o1 o2 a hjk q1 q2 m1 m2 r1 r2 p1 p2 => ?_⟩
  · rcases set_at q with ⟨rfl, hi', rfl⟩ | ⟨hne, q⟩
    · exact ⟨_, ht, hs⟩
    · obtain ⟨o', a, b⟩ := h.slot j t q
      exact ⟨o', a, b.keep e fun c z => ⟨(b.fp z).1, other j t o' c hne q a z⟩⟩
  · have g : ∀ (m : Nat) (t : Sl) (o' : Option V), (Γ.set i s)[m]? = some t → t.mut = true → σ[m]? = some o' → Fp H' t o' a → ∃ t', Γ[m]? = some t' ∧ t'.mut = true ∧ Fp H t' o' a := fun m t o' q ms r p => by
      rcases set_at q with ⟨rfl, _, rfl⟩ | ⟨hne, q⟩
      · rw [ht] at r
        cases r
        exact ⟨_, hi, hm, hf a p⟩
      · exact ⟨t, q, ms, Fp.back (h.at q r) (fun b z => other m t o' b hne q r z) p⟩
    obtain ⟨t1, g1, n1, f1⟩ := g j s1 o1 q1 m1 r1 p1
    obtain ⟨t2, g2, n2, f2⟩ := g k' s2 o2 q2 m2 r2 p2
    exact h.inj j k' t1 t2 o1 o2 a hjk g1 g2 n1 n2 r1 r2 f1 f2
/-- the town grows -/
theorem En.town {t : Addr} {us : List V} {n n' : Nat} (h : En K F S Γ σ H) (hi : Γ[i]? = some (.twn n)) (ht : σ[i]? = some (some (.ref t))) (k : ∀ b o, b ≠ t → H b = some o → H' b = some o) (hu : H' t = some (.lst us)) (hl : us.length ≤ n') :
    En K F S (Γ.set i (.twn n')) σ H' := by
  obtain ⟨a0, vs0, e0, s0, h0, hh0, _⟩ := h.at hi ht
  cases e0
  refine h.renew hi rfl ht (fun b z q => ?_) (fun b u nt q => ?_) (fun b u nb hb => k b u (fun z => nb (by rw [z]; exact rfl)) hb) ⟨t, us, rfl, s0, h0, hu, hl⟩ fun b z => z
  · by_cases e : b = t
    · rw [e, hu] at q; cases q
    · cases r : H b with
      | none => exact h.hid b z r
      | some o => rw [k b o e r] at q; cases q
  · have q2 := h.base b u nt q
    refine k b u (fun z => ?_) q2
    subst z
    rcases h0 with h0 | h0
    · exact nt h0.2
    · rw [h0.1] at q; cases q
end

/-! ### a def over data -/
abbrev DSp := List PyData → (PyData → Prop) → (Str → Prop) → Prop
def spD (K : PySem.W.Frag) (sp : DSp) : Sp := fun vs H Q E => ∃ (S : Hd) (ds : List PyData) (Qd : PyData → Prop) (Ed : Str → Prop), Hid S H ∧ DaL K (off S H) vs ds ∧ sp ds Qd Ed ∧
  (∀ d v H', Qd d → Same H H' → Da K (off S H') v d → Q v H') ∧ (∀ c H', Ed c → Same H H' → E (.ref (He.ga K c)) none H')
def wFn (sp : DSp) (ws : DL) : DE := fun Γ Q E => ws Γ (fun ds Γ1 => sp ds (fun d => Q d Γ1) (fun c => E c Γ1)) E
/-- a def that draws -/
abbrev TSp := Nat → List PyData → (PyData → Nat → Prop) → Prop
def spT (K : PySem.W.Frag) (sp : TSp) : Sp := fun vs H Q E => ∃ (S : Hd) (t : Addr) (us : List V) (n : Nat) (v0 : V) (vs' : List V) (ds : List PyData) (Qd : PyData → Nat → Prop), Hid S H ∧ S t ∧ H t = some (.lst us) ∧ us.length ≤ n ∧
  vs = v0 :: .ref t :: vs' ∧ Scr K (off S H) v0 ∧ DaL K (off S H) vs' ds ∧ sp n ds Qd ∧
  ∀ d n' v H' us', Qd d n' → (∀ b o, b ≠ t → H b = some o → H' b = some o) → H' t = some (.lst us') → us'.length ≤ n' → Da K (off S H') v d → Q v H'
def wFnT (is it : Nat) (sp : TSp) (ws : DL) : DE := fun Γ Q E => Γ[is]? = some Sl.scr ∧ (∃ n0, Γ[it]? = some (Sl.twn n0)) ∧ ws Γ (fun ds Γ1 => ∃ n, Γ1[is]? = some Sl.scr ∧ Γ1[it]? = some (.twn n) ∧ sp n ds (fun d n' => Q d (Γ1.set it (.twn n')))) E
section
variable {X : Cx} {W : WX} {e a b c : Expr} {es : List Expr} {pos p : Pos} {CX : CXT} {k : Nat} {f : Addr} {fd : FuncData} {ps : List Str} {x : Str}
theorem de_fn {sp : DSp} {ws : DL} (Fk : FnOk X.prog X.w X.K X.mg X.base (L2.CX X.prog X.w) k f fd ps (spD X.K sp)) (hr : Room k X.A) (hg : Gl X x) (hm : X.mg x = some (.ref f)) (hk : PySem.W.keepIn X.K (.ref f) = true) (hb : Binds X.K fd ps []) (tk : Takes X W)
    (ha : PA X (e :: es) (tL X.K W ws)) (hdb : (x == ("__debug__" : Str)) = false := by decide) (he : starEach (e :: es) X.env = (false, eval e X.env) :: starEach es X.env := by rfl) (hpl : (backTo pos (starEach es X.env)).any (·.1) = false := by rfl) :
    PE X (.Call (.Name x p) (e :: es) [] pos) (tD X.K W (wFn sp ws)) :=
  peImp (pe_callS (E := WE W) Fk hr hg hm hk hb (fun σ => passAt tk σ) ha hdb he hpl) fun σ H Q ⟨F, S, Γ, Qd, Ed, en, hw, kq, ke⟩ =>
    ⟨F, S, Γ, _, Ed, en, hw, fun ds Γ1 vs H1 q m1 e1 hv => ⟨S, ds, _, _, e1.hid, hv, q, fun d v H' qd s hv' => kq d Γ1 v H' qd (m1.trans (.of e1 s)) (e1.same s) hv', fun c H' qc s => ke c Γ1 H' qc (e1.same s)⟩, ke⟩
theorem de_fnT {sp : TSp} {ws : DL} {is it : Nat} {xs xt : Str} {p1 p2 : Pos} (Fk : FnOk X.prog X.w X.K X.mg X.base (L2.CX X.prog X.w) k f fd ps (spT X.K sp)) (hr : Room k X.A) (hg : Gl X x) (hm : X.mg x = some (.ref f)) (hk : PySem.W.keepIn X.K (.ref f) = true) (hb : Binds X.K fd ps []) (tk : Takes X W)
    (hs : PE X (.Name xs p1) (tVar is)) (ht : PE X (.Name xt p2) (tVar it)) (ha : PA X es (tL X.K W ws)) (hdb : (x == ("__debug__" : Str)) = false := by decide)
    (h1 : starEach (Expr.Name xs p1 :: Expr.Name xt p2 :: es) X.env = (false, eval (Expr.Name xs p1) X.env) :: starEach (Expr.Name xt p2 :: es) X.env := by rfl)
    (h2 : starEach (Expr.Name xt p2 :: es) X.env = (false, eval (Expr.Name xt p2) X.env) :: starEach es X.env := by rfl)
    (hpl : (backTo pos (starEach (Expr.Name xt p2 :: es) X.env)).any (·.1) = false := by rfl) :
    PE X (.Call (.Name x p) (.Name xs p1 :: .Name xt p2 :: es) [] pos) (tD X.K W (wFnT is it sp ws)) := by
  refine peImp (pe_callS (E := WE W) Fk hr hg hm hk hb (fun σ => passAt tk σ) (pa_cons hs (pa_cons ht ha h2) h1) hdb h1 hpl) fun σ H Q ⟨F, S, Γ, Qd, Ed, en, ⟨hs0, ⟨n0, ht0⟩, hw⟩, kq, ke⟩ => ?_
  -- the two names are read ahead of the others; they stand
  have key : ∀ (v0 v1 : V), σ[is]? = some (some v0) → σ[it]? = some (some v1) → tL X.K W ws σ H fun vs H1 => spT X.K sp (v0 :: v1 :: vs) H1 Q (WE W σ) := fun v0 v1 g0 g1 => by
    refine ⟨F, S, Γ, _, Ed, en, hw, fun ds Γ1 vs H1 ⟨n, hi, hj, q⟩ m1 e1 hv => ?_, ke⟩
    obtain ⟨o0, q0, v0', r0, s0⟩ := e1.slot is _ hi
    obtain ⟨o1, q1, t, us, r1, st, _, hu, hl⟩ := e1.slot it _ hj
    rw [g0] at q0
    rw [g1] at q1
    cases q0; cases q1; cases r0; cases r1
    refine ⟨S, t, us, n, v0, vs, ds, _, e1.hid, st, hu, hl, rfl, s0, hv, q, fun d n' v H' us' qd ks hu' hl' hv' => ?_⟩
    refine kq d _ v H' qd (m1.trans ⟨fun b o nb hb => ks b o (fun z => nb (z ▸ st)) hb, fun b o hb => ?_, fun i ds' hi' => ?_, fun i ds' hi' => ?_, fun i n2 hi' cc => ?_⟩) (e1.town hj g1 ks hu' hl') hv'
    · by_cases hbt : b = t
      · subst hbt; exact .inr ⟨it, _, _, hj, rfl, g1, rfl⟩
      · exact .inl (ks b o hbt hb)
    · rw [getset]
      by_cases hc : it = i
      · subst hc
        have z : Γ1[it]? = some (Sl.own0 ds') := hi'
        rw [hj] at z
        cases z
      · rw [if_neg hc]
        exact hi'
    · rcases set_at hi' with ⟨rfl, _, z⟩ | ⟨_, q'⟩
      · cases z
      · exact q'
    · rcases set_at hi' with ⟨rfl, _, rfl⟩ | ⟨hne, q'⟩
      · exact ⟨_, hj, rfl, fun v b e q => q⟩
      · refine ⟨_, q', cc, fun v b e q => Fp.back (e1.at q' e) (fun b z => ?_) q⟩
        have nb : b ≠ t := fun y => e1.inj it i _ _ _ _ t hne hj q' rfl (Sl.chg_mut cc) g1 e rfl (y ▸ z)
        cases w : H1 b with
        | none => exact absurd w ((e1.at q' e).fp z).2
        | some u => exact ks b u nb w
  obtain ⟨o0, q0, v0, r0, _⟩ := en.slot is _ hs0
  obtain ⟨o1, q1, t, us, r1, _⟩ := en.slot it _ ht0
  subst r0
  subst r1
  exact ⟨v0, q0, _, q1, key _ _ q0 q1⟩
end

/-! ### what is walked -/
/-- J walks ds, whatever comes, as long as what was data stays (cl: even if lists of one's own change) -/
def Wk (cl : Bool) (K : PySem.W.Frag) (S : Hd) (Γ : Gm) (σ : St) (H : Hp) (J : It) (ds : List PyData) : Prop :=
  ∀ (F' : Fm) (S' : Hd) (Γ' : Gm) (σ' : St) (H' : Hp), Same (off S H) (off S' H') → (cl = false → ∀ (i : Nat) (l : PyData), Γ[i]? = some (Sl.own0 l) → Γ'[i]? = some (Sl.own0 l) ∧ σ'[i]? = σ[i]?) → En K F' S' Γ' σ' H' →
    (∀ (i : Nat) (d : PyData), ds[i]? = some d → J.go i H' ∧ ∀ x H3, J.yld i H' x H3 → H3 = H' ∧ Da K (off S' H') x d) ∧ J.stop ds.length H'
def tI (cl : Bool) (K : PySem.W.Frag) (W : WX) (w : DL) : TI := fun σ H R => ∃ (F : Fm) (S : Hd) (Γ : Gm) (Qd : List PyData → Gm → Prop) (Ed : Ke), En K F S Γ σ H ∧ w Γ Qd Ed ∧
  (∀ ds Γ' H' J, Qd ds Γ' → Mv S σ Γ Γ' H H' → En K F S Γ' σ H' → Wk cl K S Γ' σ H' J ds → R J H') ∧ (∀ c Γ' H', Ed c Γ' → En K F S Γ' σ H' → W (.ref (He.ga K c)) none σ H')
section
variable {X : Cx} {W : WX} {e a b tg : Expr} {es : List Expr} {pos p : Pos}
/-- a list or a tuple -/
def iSeq (K : PySem.W.Frag) (tl : TE) : TI := fun σ H R => tl σ H fun x H1 => ∃ a, x = .ref a ∧ (((∃ xs, SqL K H1 a xs) ∧ R (Itl K a) H1) ∨ ((∃ xs, SqT K H1 a xs) ∧ R (Itt K a) H1))
theorem pi_seq {l : Expr} {tl : TE} (hl : PE X l tl) : PI X tg l (iSeq X.K tl) := by
  refine ⟨fun pins s σ H R I h => ?_⟩
  refine thn (hl.run pins s σ H _ I h) fun v s1 ⟨x, H1, I1, r1, q1⟩ => ?_
  obtain ⟨a, e, q1⟩ := q1
  subst e
  cases r1
  rcases q1 with ⟨⟨xs, hq⟩, q⟩ | ⟨⟨xs, hq⟩, q⟩
  · obtain ⟨its, rv, p, hz⟩ := I1.list hq
    refine wpAny_pyIter_list p.isList ?_
    refine ⟨s1.heap.objs.size, [s1.heap.objs.size], _, _, H1, rfl, I1.kept (t' := s1.toks) fun b o e => Heap.get?_push_of_some _ e, turn_list a _, ⟨_, Heap.get?_push_size _ rfl, rfl, rfl⟩, fun b hb => ?_, q⟩
    have e : b = s1.heap.objs.size := by simpa using hb
    subst e
    exact I1.fpOk (Nat.le_refl _) (I1.hok.fresh (Nat.le_refl _))
  · obtain ⟨its, rv, p, hz⟩ := I1.tuple hq
    refine wpAny_pyIter_tuple (show s1.heap.IsTuple a its.toArray from p) ?_
    refine ⟨s1.heap.objs.size, [s1.heap.objs.size], _, _, H1, rfl, I1.kept (t' := s1.toks) fun b o e => Heap.get?_push_of_some _ e, turn_tuple a _, ⟨_, Heap.get?_push_size _ rfl, rfl, rfl⟩, fun b hb => ?_, q⟩
    have e : b = s1.heap.objs.size := by simpa using hb
    subst e
    exact I1.fpOk (Nat.le_refl _) (I1.hok.fresh (Nat.le_refl _))
def SeqD : PyData → List PyData → Prop
  | .list xs, ds => ds = xs
  | .tuple xs, ds => ds = xs
  | _, _ => False
def wSeq (w : DE) : DL := fun Γ Q E => w Γ (fun d Γ1 => ∃ ds, SeqD d ds ∧ Q ds Γ1) E
theorem wk_lst {cl : Bool} {K : PySem.W.Frag} {S : Hd} {Γ : Gm} {σ : St} {H : Hp} {a : Addr} {xs : List V} {ds : List PyData} (h : off S H a = some (.lst xs)) (hd : DaL K (off S H) xs ds) : Wk cl K S Γ σ H (Itl K a) ds := by
  intro F' S' Γ' σ' H' e _ en
  have h1 : SqL K H' a xs := .of (off_same _ _ (e _ _ h))
  refine ⟨fun i d hi => ?_, ⟨xs, h1, by rw [hd.length]; exact Nat.le_refl _⟩⟩
  obtain ⟨v, hv, hvd⟩ := hd.get hi
  refine ⟨⟨xs, v, h1, hv⟩, fun x H3 y => ?_⟩
  obtain ⟨rfl, y⟩ := y
  have ex : x = v := Option.some.inj ((y xs h1).symm.trans hv)
  subst ex
  exact ⟨rfl, hvd.mono e⟩
theorem wk_tup {cl : Bool} {K : PySem.W.Frag} {S : Hd} {Γ : Gm} {σ : St} {H : Hp} {a : Addr} {xs : List V} {ds : List PyData} (h : SqT K (off S H) a xs) (hd : DaL K (off S H) xs ds) : Wk cl K S Γ σ H (Itt K a) ds := by
  intro F' S' Γ' σ' H' e _ en
  have h1 : SqT K H' a xs := seqT off_same (seqT e h)
  refine ⟨fun i d hi => ?_, ⟨xs, h1, by rw [hd.length]; exact Nat.le_refl _⟩⟩
  obtain ⟨v, hv, hvd⟩ := hd.get hi
  refine ⟨⟨xs, v, h1, hv⟩, fun x H3 y => ?_⟩
  obtain ⟨rfl, y⟩ := y
  have ex : x = v := Option.some.inj ((y xs h1).symm.trans hv)
  subst ex
  exact ⟨rfl, hvd.mono e⟩
theorem wk_own {K : PySem.W.Frag} {S : Hd} {Γ : Gm} {σ : St} {H : Hp} {a : Addr} {i : Nat} {ds : List PyData} (h : Γ[i]? = some (Sl.own ds)) (hs : σ[i]? = some (some (.ref a))) : Wk false K S Γ σ H (Itl K a) ds := by
  intro F' S' Γ' σ' H' e ho en
  obtain ⟨g, gs⟩ := ho rfl i _ h
  obtain ⟨o, q1, a', u, q2, _, _, _, h1, xs, rfl, hd⟩ := en.slot i _ g
  rw [gs, hs] at q1
  cases q1
  cases q2
  have h1 : SqL K H' a xs := .of h1
  refine ⟨fun i d hi => ?_, ⟨xs, h1, by rw [hd.length]; exact Nat.le_refl _⟩⟩
  obtain ⟨v, hv, hvd⟩ := hd.get hi
  refine ⟨⟨xs, v, h1, hv⟩, fun x H3 y => ?_⟩
  obtain ⟨rfl, y⟩ := y
  have ex : x = v := Option.some.inj ((y xs h1).symm.trans hv)
  subst ex
  exact ⟨rfl, hvd⟩
/-- over data -/
theorem di_seq {cl : Bool} {w : DE} (h : PE X e (tD X.K W w)) : PI X tg e (tI cl X.K W (wSeq w)) := piImp (pi_seq h) fun σ H R ⟨F, S, Γ, Qd, Ed, en, hw, k, ke⟩ => ⟨F, S, Γ, _, Ed, en, hw, fun d Γ1 v H1 ⟨ds, sd, q⟩ m1 e1 hv => by
    cases hv with
    | lst h1 h2 => cases sd; exact ⟨_, rfl, .inl ⟨⟨_, .of (off_same _ _ h1)⟩, k _ Γ1 H1 _ q m1 e1 (wk_lst h1 h2)⟩⟩
    | tup h1 h2 => cases sd; exact ⟨_, rfl, .inr ⟨⟨_, seqT off_same h1⟩, k _ Γ1 H1 _ q m1 e1 (wk_tup h1 h2)⟩⟩
    | _ => exact sd.elim, ke⟩
/-- over a list that a slot owns, in a comprehension -/
theorem di_own {w : DE} (h : PE X e (tR X.K W w)) : PI X tg e (tI false X.K W (wSeq w)) := piImp (pi_seq h) fun σ H R ⟨F, S, Γ, Qd, Ed, en, hw, k, ke⟩ => ⟨F, S, Γ, _, Ed, en, hw, fun d Γ1 v H1 ⟨ds, sd, q⟩ m1 e1 hv => by
    rcases hv with hv | ⟨i, g1, g2⟩
    · cases hv with
      | lst h1 h2 => cases sd; exact ⟨_, rfl, .inl ⟨⟨_, .of (off_same _ _ h1)⟩, k _ Γ1 H1 _ q m1 e1 (wk_lst h1 h2)⟩⟩
      | tup h1 h2 => cases sd; exact ⟨_, rfl, .inr ⟨⟨_, seqT off_same h1⟩, k _ Γ1 H1 _ q m1 e1 (wk_tup h1 h2)⟩⟩
      | _ => exact sd.elim
    · obtain ⟨o, q1, a, u, rfl, _, _, _, h1, hd⟩ := e1.slot i _ g1
      cases d with
      | list l =>
        cases sd
        obtain ⟨xs, rfl, hd⟩ := hd
        rw [g2] at q1
        cases q1
        exact ⟨_, rfl, .inl ⟨⟨_, .of h1⟩, k _ Γ1 H1 _ q m1 e1 (wk_own g1 g2)⟩⟩
      | tuple l => exact hd.elim
      | _ => exact sd.elim, ke⟩
theorem wk_rng {cl : Bool} {K : PySem.W.Frag} {S : Hd} {Γ : Gm} {σ : St} {H : Hp} {lo : Int} {n : Nat} : Wk cl K S Γ σ H (Itr lo n) ((List.range n).map fun (i : Nat) => PyData.int (lo + (i : Int))) := by
  intro F' S' Γ' σ' H' e _ en
  refine ⟨fun i d hi => ?_, by show n ≤ _; rw [List.length_map, List.length_range]; exact Nat.le_refl _⟩
  have hin : i < n := by
    have q := (List.getElem?_eq_some_iff.mp hi).1
    rw [List.length_map, List.length_range] at q
    exact q
  rw [List.getElem?_map, List.getElem?_range hin] at hi
  cases hi
  refine ⟨hin, fun x H3 y => ?_⟩
  obtain ⟨e1, e2⟩ := y
  subst e1 e2
  exact ⟨rfl, .int _⟩
def rngL (i j : Int) : List PyData := (List.range (j - i).toNat).map fun (k : Nat) => PyData.int (i + (k : Int))
def Rng1 (ds rs : List PyData) : Prop := ∃ j : Int, ds = [.int j] ∧ -(2 ^ 62) ≤ j ∧ j < 2 ^ 62 ∧ rs = rngL 0 j
def Rng2 (ds rs : List PyData) : Prop := ∃ i j : Int, ds = [.int i, .int j] ∧ (-(2 ^ 62) ≤ i ∧ i < 2 ^ 62 ∧ -(2 ^ 62) ≤ j ∧ j < 2 ^ 62) ∧ rs = rngL i j
def wRng (R : List PyData → List PyData → Prop) (ws : DL) : DL := fun Γ Q E => ws Γ (fun d Γ1 => ∃ ds, R d ds ∧ Q ds Γ1) E
theorem di_rng1 {cl : Bool} {ws : DL} (hg : Gl X "range") (hm : X.mg "range" = none) (ha : PA X [a] (tL X.K W ws)) (hs : starEach [a] X.env = [(false, eval a X.env)] := by rfl) : PI X tg (.Call (.Name "range" p) [a] [] pos) (tI cl X.K W (wRng Rng1 ws)) :=
  piImp (pi_range1 hg hm ha hs) fun σ H R ⟨F, S, Γ, Qd, Ed, en, hw, k, ke⟩ => ⟨F, S, Γ, _, Ed, en, hw, fun ds Γ1 vs H1 ⟨ds', rd, q⟩ m1 e1 hv => by
    obtain ⟨j, rfl, r1, r2, rfl⟩ := rd
    obtain ⟨v, rfl, hv1⟩ := hv.one
    cases hv1
    refine ⟨j, rfl, r1, r2, k _ Γ1 H1 _ q m1 e1 ?_⟩
    have e : j.toNat = (j - 0).toNat := by rw [Int.sub_zero]
    unfold rngL
    rw [e]
    exact wk_rng, ke⟩
theorem di_rng2 {cl : Bool} {ws : DL} (hg : Gl X "range") (hm : X.mg "range" = none) (ha : PA X [a, b] (tL X.K W ws)) (hs : starEach [a, b] X.env = [(false, eval a X.env), (false, eval b X.env)] := by rfl) (hs2 : starEach [b] X.env = [(false, eval b X.env)] := by rfl) : PI X tg (.Call (.Name "range" p) [a, b] [] pos) (tI cl X.K W (wRng Rng2 ws)) :=
  piImp (pi_range2 hg hm ha hs hs2) fun σ H R ⟨F, S, Γ, Qd, Ed, en, hw, k, ke⟩ => ⟨F, S, Γ, _, Ed, en, hw, fun ds Γ1 vs H1 ⟨ds', rd, q⟩ m1 e1 hv => by
    obtain ⟨i, j, rfl, r, rfl⟩ := rd
    obtain ⟨v, v', rfl, hv, hv'⟩ := hv.two
    cases hv
    cases hv'
    exact ⟨i, j, rfl, r, k _ Γ1 H1 _ q m1 e1 wk_rng⟩, ke⟩
end

/-! ### targets -/
abbrev DG := PyData → Gm → (Gm → Prop) → Prop
/-- g, a target's reading, does what gd says; it sets the slots vs alone -/
def OkG (K : PySem.W.Frag) (g : TG) (gd : DG) (vs : List Nat) : Prop := ∀ (F : Fm) (S : Hd) (Γ : Gm) (σ : St) (H : Hp) (v : V) (d : PyData) (Qd : Gm → Prop) (Q : St → Hp → Prop), En K F S Γ σ H → Da K (off S H) v d → gd d Γ Qd →
  (∀ Γ' σ', Qd Γ' → En K F S Γ' σ' H → (∀ j, j ∉ vs → σ'[j]? = σ[j]? ∧ Γ'[j]? = Γ[j]?) → (∀ (j : Nat) (s : Sl), Γ'[j]? = some s → s.chg = true → Γ[j]? = some s) → σ'.length = σ.length → Q σ' H) → g v σ H Q
def gdN (i : Nat) : DG := fun d Γ k => k (Γ.set i (.dat d))
theorem okg_name {K : PySem.W.Frag} (i : Nat) : OkG K (gName i) (gdN i) [i] := fun F S Γ σ H v d Qd Q en hv hd k =>
  k _ _ hd (en.set i hv) (fun j hj => by
    have ne : i ≠ j := fun e => hj (by rw [e]; exact List.mem_singleton_self j)
    exact ⟨by rw [getset, if_neg ne], by rw [getset, if_neg ne]⟩) (fun j n q c => by
    rcases set_at q with ⟨_, _, rfl⟩ | ⟨_, q⟩
    · cases c
    · exact q) (by rw [List.length_set])
abbrev DGs := List PyData → Gm → (Gm → Prop) → Prop
def OkGs (K : PySem.W.Frag) (g : TGs) (gd : DGs) (vs : List Nat) : Prop := ∀ (F : Fm) (S : Hd) (Γ : Gm) (σ : St) (H : Hp) (xs : List V) (ds : List PyData) (Qd : Gm → Prop) (Q : St → Hp → Prop), En K F S Γ σ H → DaL K (off S H) xs ds → gd ds Γ Qd →
  (∀ Γ' σ', Qd Γ' → En K F S Γ' σ' H → (∀ j, j ∉ vs → σ'[j]? = σ[j]? ∧ Γ'[j]? = Γ[j]?) → (∀ (j : Nat) (s : Sl), Γ'[j]? = some s → s.chg = true → Γ[j]? = some s) → σ'.length = σ.length → Q σ' H) → g xs σ H Q
def gdNil : DGs := fun ds Γ k => ds = [] ∧ k Γ
def gdCons (g : DG) (gs : DGs) : DGs := fun ds Γ k => ∃ d r, ds = d :: r ∧ g d Γ fun Γ1 => gs r Γ1 k
theorem okg_nil {K : PySem.W.Frag} : OkGs K gNil gdNil [] := fun F S Γ σ H xs ds Qd Q en hv hd k => by
  obtain ⟨rfl, hd⟩ := hd
  cases hv
  exact ⟨rfl, k Γ σ hd en (fun _ _ => ⟨rfl, rfl⟩) (fun _ _ q _ => q) rfl⟩
theorem okg_cons {K : PySem.W.Frag} {g : TG} {gs : TGs} {gd : DG} {gds : DGs} {v1 v2 : List Nat} (h1 : OkG K g gd v1) (h2 : OkGs K gs gds v2) : OkGs K (gCons g gs) (gdCons gd gds) (v1 ++ v2) := fun F S Γ σ H xs ds Qd Q en hv hd k => by
  obtain ⟨d, r, rfl, hd⟩ := hd
  cases hv with
  | cons hv hr =>
    refine ⟨_, _, rfl, h1 F S Γ σ H _ d _ _ en hv hd fun Γ1 σ1 q1 e1 f1 t1 l1 => h2 F S Γ1 σ1 H _ r _ _ e1 hr q1 fun Γ2 σ2 q2 e2 f2 t2 l2 => k Γ2 σ2 q2 e2 (fun j hj => ?_) (fun j n q c => t1 j n (t2 j n q c) c) (l2.trans l1)⟩
    rw [List.mem_append, not_or] at hj
    exact ⟨((f2 j hj.2).1).trans (f1 j hj.1).1, ((f2 j hj.2).2).trans (f1 j hj.1).2⟩
def gdT (n : Nat) (gs : DGs) : DG := fun d Γ k => ∃ ds, d = .tuple ds ∧ ds.length = n ∧ gs ds Γ k
def gdS (n : Nat) (gs : DGs) : DG := fun d Γ k => ∃ ds, d = .list ds ∧ ds.length = n ∧ gs ds Γ k
theorem okg_tup {K : PySem.W.Frag} {n : Nat} {gs : TGs} {gds : DGs} {vs : List Nat} (h : OkGs K gs gds vs) : OkG K (gTup K n gs) (gdT n gds) vs := fun F S Γ σ H v d Qd Q en hv hd k => by
  obtain ⟨ds, rfl, hl, hd⟩ := hd
  cases hv with
  | tup h1 h2 => exact ⟨_, _, rfl, seqT off_same h1, h2.length.trans hl, h F S Γ σ H _ ds Qd Q en h2 hd k⟩
theorem okg_lst {K : PySem.W.Frag} {n : Nat} {gs : TGs} {gds : DGs} {vs : List Nat} (h : OkGs K gs gds vs) : OkG K (gLst K n gs) (gdS n gds) vs := fun F S Γ σ H v d Qd Q en hv hd k => by
  obtain ⟨ds, rfl, hl, hd⟩ := hd
  cases hv with
  | lst h1 h2 => exact ⟨_, _, rfl, .of (off_same _ _ h1), h2.length.trans hl, h F S Γ σ H _ ds Qd Q en h2 hd k⟩

/-! ### comprehensions -/
def wipeG (Γ : Gm) : List Nat → Gm
  | [] => Γ
  | i :: r => (wipeG Γ r).set i .no
theorem wipe_get (σ : St) (j : Nat) : ∀ vs : List Nat, (j ∉ vs → (wipe σ vs)[j]? = σ[j]?) ∧ (j ∈ vs → j < σ.length → (wipe σ vs)[j]? = some none)
  | [] => ⟨fun _ => rfl, fun h => by cases h⟩
  | i :: r => by
    obtain ⟨h1, h2⟩ := wipe_get σ j r
    constructor
    · intro h
      rw [List.mem_cons, not_or] at h
      show ((wipe σ r).set i none)[j]? = _
      rw [getset, if_neg (Ne.symm h.1)]
      exact h1 h.2
    · intro h hl
      show ((wipe σ r).set i none)[j]? = _
      rw [getset]
      by_cases e : i = j
      · rw [if_pos e, if_pos (by rw [wipe_length, e]; exact hl)]
      · rw [if_neg e]
        rcases List.mem_cons.mp h with q | q
        · exact absurd q.symm e
        · exact h2 q hl
theorem wipeG_get (Γ : Gm) (j : Nat) : ∀ vs : List Nat, (wipeG Γ vs).length = Γ.length ∧ (j ∉ vs → (wipeG Γ vs)[j]? = Γ[j]?) ∧ (j ∈ vs → j < Γ.length → (wipeG Γ vs)[j]? = some Sl.no)
  | [] => ⟨rfl, fun _ => rfl, fun h => by cases h⟩
  | i :: r => by
    obtain ⟨h0, h1, h2⟩ := wipeG_get Γ j r
    refine ⟨by show ((wipeG Γ r).set i .no).length = _; rw [List.length_set]; exact h0, ?_, ?_⟩
    · intro h
      rw [List.mem_cons, not_or] at h
      show ((wipeG Γ r).set i .no)[j]? = _
      rw [getset, if_neg (Ne.symm h.1)]
      exact h1 h.2
    · intro h hl
      show ((wipeG Γ r).set i .no)[j]? = _
      rw [getset]
      by_cases e : i = j
      · rw [if_pos e, if_pos (by rw [h0, e]; exact hl)]
      · rw [if_neg e]
        rcases List.mem_cons.mp h with q | q
        · exact absurd q.symm e
        · exact h2 q hl
theorem wipe_ext {σ σ' : St} {vs : List Nat} (hl : σ'.length = σ.length) (h : ∀ j, j ∉ vs → σ'[j]? = σ[j]?) : wipe σ' vs = wipe σ vs := by
  apply List.ext_getElem?
  intro j
  by_cases hj : j ∈ vs
  · by_cases q : j < σ.length
    · rw [(wipe_get σ j vs).2 hj q, (wipe_get σ' j vs).2 hj (by rw [hl]; exact q)]
    · rw [List.getElem?_eq_none (by rw [wipe_length]; omega), List.getElem?_eq_none (by rw [wipe_length]; omega)]
  · rw [(wipe_get σ j vs).1 hj, (wipe_get σ' j vs).1 hj]
    exact h j hj
theorem En.ext {K : PySem.W.Frag} {F : Fm} {S : Hd} {Γ Γ' : Gm} {σ σ' : St} {H : Hp} (h : En K F S Γ σ H) (hl : Γ'.length = σ'.length) (vs : List Nat) (h1 : ∀ j, j ∉ vs → Γ'[j]? = Γ[j]?) (h2 : ∀ j, j ∉ vs → σ'[j]? = σ[j]?) (h3 : ∀ j, j ∈ vs → j < Γ'.length → Γ'[j]? = some Sl.no) : En K F S Γ' σ' H := by
  refine ⟨h.sub, h.tin, h.fr, h.hid, h.base, hl, fun j s q => ?_, fun j k s1 s2 o1 o2 a hjk q1 q2 m1 m2 r1 r2 => ?_⟩
  · by_cases hj : j ∈ vs
    · have hlt : j < Γ'.length := (List.getElem?_eq_some_iff.mp q).1
      rw [h3 j hj hlt] at q
      cases q
      exact ⟨_, List.getElem?_eq_getElem (by rw [← hl]; exact hlt), trivial⟩
    · rw [h1 j hj] at q
      rw [h2 j hj]
      exact h.slot j s q
  · have g : ∀ (m : Nat) (s : Sl), Γ'[m]? = some s → s.mut = true → m ∉ vs := fun m s q ms hm => by
      rw [h3 m hm (List.getElem?_eq_some_iff.mp q).1] at q
      cases q
      cases ms
    have n1 := g j s1 q1 m1
    have n2 := g k s2 q2 m2
    rw [h1 j n1] at q1
    rw [h1 k n2] at q2
    rw [h2 j n1] at r1
    rw [h2 k n2] at r2
    exact h.inj j k s1 s2 o1 o2 a hjk q1 q2 m1 m2 r1 r2
/-- one turn of a comprehension: what is taken (or nothing) -/
abbrev LStep := PyData → Gm → (Option PyData → Gm → Prop) → Prop
def lcW (st : LStep) : List PyData → List PyData → Gm → (List PyData → Gm → Prop) → Prop
  | [], acc, Γ, k => k acc Γ
  | d :: ds, acc, Γ, k => st d Γ fun o Γ' => lcW st ds (acc ++ o.toList) Γ' k
def stIf (gd : DG) (t : DB) (w : DE) (vs : List Nat) : LStep := fun d Γ k => gd d Γ fun Γa => t Γa (fun b Γb => if b = true then w Γb (fun e Γc => k (some e) (wipeG Γc vs)) F0 else k none (wipeG Γb vs)) F0
def stAll (gd : DG) (w : DE) (vs : List Nat) : LStep := fun d Γ k => gd d Γ fun Γa => w Γa (fun e Γc => k (some e) (wipeG Γc vs)) F0
def noOwn (Γ : Gm) (vs : List Nat) : Bool := vs.all fun i => match Γ[i]? with
  | some (.own0 _) => false
  | _ => true
theorem noOwn_ok {Γ : Gm} {vs : List Nat} (h : noOwn Γ vs = true) {i : Nat} {l : PyData} (e : Γ[i]? = some (Sl.own0 l)) : i ∉ vs := fun hi => by
  have q := List.all_eq_true.mp h i hi
  rw [e] at q
  cases q
def wLc (wi : DL) (st : LStep) (vs : List Nat) : DE := fun Γ Q E => wi Γ (fun ds Γ1 => ds.length ≤ sizeLine ∧ noOwn Γ1 vs = true ∧ lcW st ds [] (wipeG Γ1 vs) fun acc Γ2 => Q (.list acc) Γ2) E
theorem En.wiped {K : PySem.W.Frag} {F : Fm} {S : Hd} {Γ : Gm} {σ : St} {H : Hp} (h : En K F S Γ σ H) (vs : List Nat) : En K F S (wipeG Γ vs) (wipe σ vs) H :=
  h.ext (by rw [(wipeG_get Γ 0 vs).1, wipe_length]; exact h.len) vs (fun j hj => (wipeG_get Γ j vs).2.1 hj) (fun j hj => (wipe_get σ j vs).1 hj) fun j hj hl => (wipeG_get Γ j vs).2.2 hj (by rw [(wipeG_get Γ 0 vs).1] at hl; exact hl)
/-- out of the block: the block's slots are forgotten -/
theorem En.unwipe {K : PySem.W.Frag} {F : Fm} {S : Hd} {Γ : Gm} {σ σ2 : St} {H : Hp} {vs : List Nat} (h : En K F S Γ σ2 H) (hw : wipe σ2 vs = wipe σ vs) : En K F S (wipeG Γ vs) σ H := by
  have hl : σ2.length = σ.length := by rw [← wipe_length σ2 vs, hw, wipe_length]
  refine h.ext (by rw [(wipeG_get Γ 0 vs).1, h.len]; exact hl) vs (fun j hj => (wipeG_get Γ j vs).2.1 hj) (fun j hj => ?_) fun j hj hl => (wipeG_get Γ j vs).2.2 hj (by rw [(wipeG_get Γ 0 vs).1] at hl; exact hl)
  rw [← (wipe_get σ j vs).1 hj, ← hw, (wipe_get σ2 j vs).1 hj]
/-- the new list is no longer hidden -/
theorem En.unhide {K : PySem.W.Frag} {F : Fm} {S : Hd} {Γ : Gm} {σ : St} {H : Hp} {p : Addr} (h : En K F (fun b => S b ∨ b = p) Γ σ H) (h1 : ∀ b, F.S0 b → S b ∧ F.H0 b ≠ none) (h2 : ∀ b, F.T b → S b) (hn : NoFp Γ σ H p) : En K F S Γ σ H := by
  have e : Same (off (fun b => S b ∨ b = p) H) (off S H) := off_sub fun b z => .inl z
  refine h.move h1 h2 (fun b z => h.fr b (.inl z)) (fun b z => h.hid b (.inl z)) h.base e fun j s o b g r q => ⟨?_, rfl⟩
  refine ((h.at g r).fp q).1.resolve_right fun z => hn j s o g r (z ▸ q)
section
variable {X : Cx} {W : WX}
/-- the slots of the block hold nothing ahead -/
def Wiped (Γ : Gm) (vs : List Nat) : Prop := ∀ (i : Nat) (s : Sl), i ∈ vs → Γ[i]? = some s → s = Sl.no
theorem wiped_wipe (Γ : Gm) (vs : List Nat) : Wiped (wipeG Γ vs) vs := fun i s hi q => by
  have hl : i < Γ.length := by
    have z := (List.getElem?_eq_some_iff.mp q).1
    rw [(wipeG_get Γ 0 vs).1] at z
    exact z
  rw [(wipeG_get Γ i vs).2.2 hi hl] at q
  exact (Option.some.inj q).symm
/-- what is known of a thing besides -/
abbrev Zp := Fm → Hd → Hp → V → PyData → Prop
def Z0 : Zp := fun _ _ _ _ _ => True
def Zst (Z : Zp) : Prop := ∀ (F : Fm) (S S' : Hd) (H H' : Hp) (v : V) (d : PyData), Same (off S H) (off S' H') → Z F S H v d → Z F S' H' v d
theorem zst0 : Zst Z0 := fun _ _ _ _ _ _ _ _ h => h
inductive ZL (Z : Zp) (F : Fm) (S : Hd) (H : Hp) : List V → List PyData → Prop
  | nil : ZL Z F S H [] []
  | cons {v : V} {vs : List V} {d : PyData} {ds : List PyData} : Z F S H v d → ZL Z F S H vs ds → ZL Z F S H (v :: vs) (d :: ds)
theorem ZL.mono {Z : Zp} (z : Zst Z) {F : Fm} {S S' : Hd} {H H' : Hp} (e : Same (off S H) (off S' H')) : ∀ {vs : List V} {ds : List PyData}, ZL Z F S H vs ds → ZL Z F S' H' vs ds
  | _, _, .nil => .nil
  | _, _, .cons h t => .cons (z _ _ _ _ _ _ _ e h) (ZL.mono z e t)
theorem ZL.snoc {Z : Zp} {F : Fm} {S : Hd} {H : Hp} {v : V} {d : PyData} (h : Z F S H v d) : ∀ {vs : List V} {ds : List PyData}, ZL Z F S H vs ds → ZL Z F S H (vs ++ [v]) (ds ++ [d])
  | _, _, .nil => .cons h .nil
  | _, _, .cons a b => .cons a (ZL.snoc h b)
/-- what a turn of the block asks, at the level of readings -/
def OkSt (K : PySem.W.Frag) (Z : Zp) (g : TG) (tt : TT) (te : TE) (vs : List Nat) (st : LStep) : Prop := ∀ (F : Fm) (S : Hd) (Γ : Gm) (σ : St) (H : Hp) (x : V) (d : PyData) (k : Option PyData → Gm → Prop) (R : V → Hp → Prop) (R0 : Hp → Prop), En K F S Γ (wipe σ vs) H → Wiped Γ vs → Da K (off S H) x d → st d Γ k →
  (∀ e Γ' y H', k (some e) Γ' → Wiped Γ' vs → Mv S σ Γ Γ' H H' → En K F S Γ' σ H' → Da K (off S H') y e → Z F S H' y e → R y H') → (∀ Γ' H', k none Γ' → Wiped Γ' vs → Mv S σ Γ Γ' H H' → En K F S Γ' σ H' → R0 H') →
  g x (wipe σ vs) H fun σ2 H2 => wipe σ2 vs = wipe σ vs ∧ tt σ2 H2 fun b H3 => if b = true then te σ2 H3 R else R0 H3
theorem mv_blk {S : Hd} {σ σ2 : St} {Γ Γa Γc : Gm} {H H' : Hp} {vs : List Nat} (h : Mv S σ2 Γa Γc H H') (wd : Wiped Γ vs) (f : ∀ j, j ∉ vs → σ2[j]? = (wipe σ vs)[j]? ∧ Γa[j]? = Γ[j]?) (hd : ∀ (j : Nat), j ∈ vs → ∀ s, Γa[j]? = some s → s.chg = true → False) : Mv S σ Γ (wipeG Γc vs) H H' := by
  have no : ∀ (i : Nat) (s : Sl), (wipeG Γc vs)[i]? = some s → s ≠ Sl.no → i ∉ vs ∧ Γc[i]? = some s := fun i s q ns => by
    have hi : i ∉ vs := fun hi => ns (wiped_wipe Γc vs i s hi q)
    rw [(wipeG_get Γc i vs).2.1 hi] at q
    exact ⟨hi, q⟩
  refine ⟨h.le, fun b o q => ?_, fun i l q => ?_, fun i l q => ?_, fun i n q c => ?_⟩
  · rcases h.al b o q with z | ⟨i, s, v, g, cc, e, p⟩
    · exact .inl z
    · have hi : i ∉ vs := fun hi => hd i hi s g cc
      obtain ⟨f1, f2⟩ := f i hi
      rw [f2] at g
      rw [f1, (wipe_get σ i vs).1 hi] at e
      exact .inr ⟨i, s, v, g, cc, e, p⟩
  · have hi : i ∉ vs := fun hi => by
      have z := wd i _ hi q
      cases z
    rw [(wipeG_get Γc i vs).2.1 hi]
    exact h.ow i l (by rw [(f i hi).2]; exact q)
  · obtain ⟨hi, q⟩ := no i _ q (by intro z; cases z)
    have q2 := h.wo i l q
    rw [(f i hi).2] at q2
    exact q2
  · obtain ⟨hi, q⟩ := no i _ q (by intro z; rw [z] at c; cases c)
    obtain ⟨m, q2, c2, k2⟩ := h.tw i n q c
    rw [(f i hi).2] at q2
    exact ⟨m, q2, c2, fun v b e p => k2 v b (by rw [(f i hi).1, (wipe_get σ i vs).1 hi]; exact e) p⟩
theorem wipe_twice {σ σ2 : St} {vs : List Nat} (hl : σ2.length = (wipe σ vs).length) (f : ∀ j, j ∉ vs → σ2[j]? = (wipe σ vs)[j]?) : wipe σ2 vs = wipe σ vs :=
  wipe_ext (by rw [hl, wipe_length]) fun j hj => by rw [f j hj, (wipe_get σ j vs).1 hj]
theorem okst_if {K : PySem.W.Frag} {g : TG} {gd : DG} {t : DB} {w : DE} {vs : List Nat} (hg : OkG K g gd vs) : OkSt K Z0 g (tB K W0 t) (tD K W0 w) vs (stIf gd t w vs) := fun F S Γ σ H x d k R R0 en wd hv hs h1 h0 =>
  hg F S Γ (wipe σ vs) H x d _ _ en hv hs fun Γa σ2 q e2 f2 t2 l2 => by
    have ht : ∀ (j : Nat), j ∈ vs → ∀ s, Γa[j]? = some s → s.chg = true → False := fun j hj n z c => by
      have y := wd j _ hj (t2 j n z c)
      rw [y] at c
      cases c
    have ew := wipe_twice l2 fun j hj => (f2 j hj).1
    refine ⟨ew, F, S, Γa, _, F0, e2, q, fun b Γb H3 qb mb eb => ?_, fun _ _ _ z => z.elim⟩
    cases b with
    | true => exact ⟨F, S, Γb, _, F0, eb, qb, fun e Γc y H4 qc mc ec hy => h1 e _ y H4 qc (wiped_wipe _ _) (mv_blk (mb.trans mc) wd f2 ht) (ec.unwipe ew) hy trivial, fun _ _ _ z => z.elim⟩
    | false => exact h0 _ H3 qb (wiped_wipe _ _) (mv_blk mb wd f2 ht) (eb.unwipe ew)
theorem okst_all {K : PySem.W.Frag} {g : TG} {gd : DG} {w : DE} {vs : List Nat} (hg : OkG K g gd vs) : OkSt K Z0 g tYes (tD K W0 w) vs (stAll gd w vs) := fun F S Γ σ H x d k R R0 en wd hv hs h1 h0 =>
  hg F S Γ (wipe σ vs) H x d _ _ en hv hs fun Γa σ2 q e2 f2 t2 l2 => by
    have ht : ∀ (j : Nat), j ∈ vs → ∀ s, Γa[j]? = some s → s.chg = true → False := fun j hj n z c => by
      have y := wd j _ hj (t2 j n z c)
      rw [y] at c
      cases c
    have ew := wipe_twice l2 fun j hj => (f2 j hj).1
    refine ⟨ew, ?_⟩
    show if true = true then tD K W0 w σ2 H R else R0 H
    rw [if_pos rfl]
    exact ⟨F, S, Γa, _, F0, e2, q, fun e Γc y H4 qc mc ec hy => h1 e _ y H4 qc (wiped_wipe _ _) (mv_blk mc wd f2 ht) (ec.unwipe ew) hy trivial, fun _ _ _ z => z.elim⟩
theorem NoFp.mv {K : PySem.W.Frag} {F : Fm} {S S' : Hd} {σ : St} {Γ Γ' : Gm} {H H' : Hp} {D : Addr} (n : NoFp Γ σ H D) (m : Mv S σ Γ Γ' H H') (e : En K F S' Γ' σ H') (h0 : F.H0 D = none) : NoFp Γ' σ H' D := fun j s o g r q => by
  by_cases hm : s.mut = true
  · obtain ⟨s', g', m', k⟩ := m.mu g hm
    exact n j s' o g' r (k o D r q)
  · cases s with
    | vw a rr =>
      obtain ⟨_, fp, w1, w2⟩ := e.at g r
      obtain ⟨fp', q1, q2⟩ := q
      rw [q1.det w1.rsF] at q2
      exact (w2 D q2).2.2.1 h0
    | own0 d => exact hm rfl
    | twn k => exact hm rfl
    | rs a rr => exact hm rfl
    | _ => cases q
theorem En.noFp {K : PySem.W.Frag} {F : Fm} {S : Hd} {σ : St} {Γ : Gm} {H : Hp} {D : Addr} (e : En K F S Γ σ H) (n : H D = none) : NoFp Γ σ H D := fun j s o g r q => ((e.at g r).fp q).2 n
theorem Mv.updNew {K : PySem.W.Frag} {F : Fm} {S S2 : Hd} {σ : St} {Γ Γ' : Gm} {H H' : Hp} {D : Addr} {o : HO} (m : Mv S σ Γ Γ' H H') (h : H D = none) (e : En K F S2 Γ' σ H') (n : NoFp Γ' σ H' D) : Mv S σ Γ Γ' H (upd H' D o) :=
  ⟨fun b u n hb => by rw [upd_ne (ne_of_none hb h)]; exact m.le b u n hb, fun b u hb => by rw [upd_ne (ne_of_none hb h)]; exact m.al b u hb, m.ow, m.wo, fun i s g c => by
    obtain ⟨s', g', c', k⟩ := m.tw i s g c
    exact ⟨s', g', c', fun v b e1 q => k v b e1 (Fp.back (e.at g e1) (fun b z => by
      rw [upd_ne]
      rintro rfl
      exact n i s v g e1 z) q)⟩⟩
theorem off_in_upd {S : Hd} {H : Hp} {D : Addr} {o : HO} : Same (off (fun b => S b ∨ b = D) H) (off (fun b => S b ∨ b = D) (upd H D o)) := fun b u q => by
  obtain ⟨n, q⟩ := off_get q
  rw [off_in n, upd_ne (fun z => n (.inr z))]
  exact q
/-- a new list -/
def NewZ (K : PySem.W.Frag) (Z : Zp) (F : Fm) (S : Hd) (H : Hp) (v : V) (d : PyData) : Prop := ∃ (p : Addr) (vs : List V) (ds : List PyData), v = .ref p ∧ d = .list ds ∧ F.H0 p = none ∧ off S H p = some (.lst vs) ∧ DaL K (off S H) vs ds ∧ ZL Z F S H vs ds
def tDz (Z : Zp) (K : PySem.W.Frag) (W : WX) (w : DE) : TE := fun σ H Q => ∃ (F : Fm) (S : Hd) (Γ : Gm) (Qd : Kq) (Ed : Ke), En K F S Γ σ H ∧ w Γ Qd Ed ∧
  (∀ d Γ' v H', Qd d Γ' → Mv S σ Γ Γ' H H' → En K F S Γ' σ H' → NewZ K Z F S H' v d → Q v H') ∧ (∀ c Γ' H', Ed c Γ' → En K F S Γ' σ H' → W (.ref (He.ga K c)) none σ H')
theorem lc_rdz {K : PySem.W.Frag} {Z : Zp} (hz : Zst Z) {wi : DL} {g : TG} {tt : TT} {te : TE} {vs : List Nat} {st : LStep} (hst : OkSt K Z g tt te vs st) {σ : St} {H : Hp} {Q : VK} (h : tDz Z K W (wLc wi st vs) σ H Q) : tLc (tI false K W wi) g tt te vs σ H Q := by
  obtain ⟨F, S, Γ, Qd, Ed, en, hw, kq, ke⟩ := h
  refine ⟨F, S, Γ, _, Ed, en, hw, fun ds Γ1 H1 J ⟨hsz, hno, q⟩ m1 e1 wk D hD => ?_, ke⟩
  have h0 : F.H0 D = none := e1.fresh0 hD
  have nD : NoFp Γ1 σ H1 D := e1.noFp hD
  have m0 : Mv S σ Γ1 (wipeG Γ1 vs) H1 H1 := ⟨.refl, fun _ _ h => .inl h, fun i l q => by rw [(wipeG_get Γ1 i vs).2.1 (noOwn_ok hno q)]; exact q, fun i l q => by
    by_cases hi : i ∈ vs
    · have z := wiped_wipe Γ1 vs i _ hi q
      cases z
    · rw [(wipeG_get Γ1 i vs).2.1 hi] at q
      exact q, fun i n q c => by
    by_cases hi : i ∈ vs
    · have z := wiped_wipe Γ1 vs i _ hi q
      rw [z] at c
      cases c
    · rw [(wipeG_get Γ1 i vs).2.1 hi] at q
      exact ⟨n, q, c, fun _ _ _ p => p⟩⟩
  have sub1 : ∀ H' : Hp, Le S H1 H' → Same (off S H1) (off (fun b => S b ∨ b = D) H') := fun H' l b o q => by
    obtain ⟨n, q⟩ := off_get q
    rw [off_in (fun z => z.elim n (ne_of_none q hD))]
    exact l b o n q
  refine ⟨fun i m H' => m = ds.length - i ∧ i ≤ ds.length ∧ ∃ Γi acc va, En K F (fun b => S b ∨ b = D) Γi σ H' ∧ Wiped Γi vs ∧ Mv S σ Γ1 Γi H1 H' ∧ H' D = some (.lst va) ∧ DaL K (off (fun b => S b ∨ b = D) H') va acc ∧ ZL Z F (fun b => S b ∨ b = D) H' va acc ∧ acc.length ≤ i ∧ lcW st (ds.drop i) acc Γi (fun acc Γ2 => Qd (.list acc) Γ2),
    ⟨ds.length, rfl, Nat.zero_le _, wipeG Γ1 vs, [], [], ?_, wiped_wipe _ _, ?_, upd_same, .nil, .nil, Nat.le_refl _, q⟩, ?_⟩
  · exact (e1.hide hD).ext (by rw [(wipeG_get Γ1 0 vs).1]; exact e1.len) vs (fun j hj => (wipeG_get Γ1 j vs).2.1 hj) (fun _ _ => rfl) fun j hj hl => (wipeG_get Γ1 j vs).2.2 hj (by rw [(wipeG_get Γ1 0 vs).1] at hl; exact hl)
  · exact m0.trans (.of (e1.ext (by rw [(wipeG_get Γ1 0 vs).1]; exact e1.len) vs (fun j hj => (wipeG_get Γ1 j vs).2.1 hj) (fun _ _ => rfl) fun j hj hl => (wipeG_get Γ1 j vs).2.2 hj (by rw [(wipeG_get Γ1 0 vs).1] at hl; exact hl)) (same_new hD))
  · rintro i m H' ⟨rfl, hi, Γi, acc, va, ei, wd, mi, hDi, hva, hzl, hal, hk⟩
    have nDi : NoFp Γi σ H' D := nD.mv mi ei h0
    obtain ⟨wk1, wk2⟩ := wk F _ Γi σ H' (sub1 H' mi.le) (fun _ i l q => ⟨mi.ow i l q, rfl⟩) ei
    by_cases hlt : i < ds.length
    · right
      have hd : ds[i]? = some ds[i] := List.getElem?_eq_getElem hlt
      obtain ⟨go, yl⟩ := wk1 i _ hd
      refine ⟨go, fun H'' => ∃ Γi acc va, En K F (fun b => S b ∨ b = D) Γi σ H'' ∧ Wiped Γi vs ∧ Mv S σ Γ1 Γi H1 H'' ∧ H'' D = some (.lst va) ∧ DaL K (off (fun b => S b ∨ b = D) H'') va acc ∧ ZL Z F (fun b => S b ∨ b = D) H'' va acc ∧ acc.length ≤ i + 1 ∧ lcW st (ds.drop (i + 1)) acc Γi (fun acc Γ2 => Qd (.list acc) Γ2), ?_, ?_⟩
      · rintro H'' ⟨Γj, acc', va', r⟩
        exact ⟨ds.length - (i + 1), by omega, rfl, hlt, Γj, acc', va', r⟩
      · intro x H3 y
        obtain ⟨rfl, hx⟩ := yl x H3 y
        have hk' : st ds[i] Γi fun o Γ' => lcW st (ds.drop (i + 1)) (acc ++ o.toList) Γ' (fun acc Γ2 => Qd (.list acc) Γ2) := by
          rw [List.drop_eq_getElem_cons hlt] at hk
          exact hk
        have ew : En K F (fun b => S b ∨ b = D) Γi (wipe σ vs) H3 := by
          refine ei.ext (by rw [wipe_length]; exact ei.len) vs (fun _ _ => rfl) (fun j hj => (wipe_get σ j vs).1 hj) fun j hj hl => ?_
          have g := List.getElem?_eq_getElem hl
          rw [g, wd j _ hj g]
        have keepD : ∀ {Γ' : Gm} {H4 : Hp}, Mv (fun b => S b ∨ b = D) σ Γi Γ' H3 H4 → H4 D = some (.lst va) := fun m4 => by
          rcases m4.al D _ hDi with z | ⟨i, s, v, g, c, e, p⟩
          · exact z
          · exact absurd p (nDi i s v g e)
        have mvS : ∀ {Γ' : Gm} {H4 : Hp}, Mv (fun b => S b ∨ b = D) σ Γi Γ' H3 H4 → Mv S σ Γi Γ' H3 H4 := fun m4 => ⟨fun b o n hb => by
            by_cases z : b = D
            · subst z
              rw [hDi] at hb
              cases hb
              exact keepD m4
            · exact m4.le b o (fun y => y.elim n z) hb, m4.al, m4.ow, m4.wo, m4.tw⟩
        refine hst F _ Γi σ H3 x ds[i] _ _ _ ew wd hx hk' (fun e Γ' y H4 hk4 wd4 m4 e4 hy hzy => ?_) (fun Γ' H4 hk4 wd4 m4 e4 => ?_)
        · have hD4 := keepD m4
          refine ⟨va, hD4, ?_, ?_⟩
          · have q1 := hva.length
            omega
          · have nD4 : NoFp Γ' σ H4 D := nDi.mv m4 e4 h0
            refine ⟨Γ', acc ++ [e], va ++ [y], e4.free (.inr rfl) h0 nD4, wd4, (mi.trans (mvS m4)).updNew hD e4 nD4, upd_same, ?_, ?_, by rw [List.length_append]; show acc.length + 1 ≤ i + 1; omega, hk4⟩
            · exact ((hva.mono m4.le.off).append (.cons hy .nil)).mono off_in_upd
            · exact ((hzl.mono hz m4.le.off).snoc hzy).mono hz off_in_upd
        · exact ⟨Γ', acc, va, e4, wd4, mi.trans (mvS m4), keepD m4, hva.mono m4.le.off, hzl.mono hz m4.le.off, by omega, by simpa using hk4⟩
    · left
      have e : i = ds.length := by omega
      subst e
      rw [List.drop_length] at hk
      refine ⟨wk2, kq (.list acc) Γi (.ref D) H' hk (m1.trans mi) (ei.unhide e1.sub e1.tin nDi) ⟨D, va, acc, rfl, rfl, h0, ?_, hva.mono (off_sub fun b z => .inl z), hzl.mono hz (off_sub fun b z => .inl z)⟩⟩
      rw [off_in (e1.hid.free hD)]
      exact hDi
theorem NewZ.da {K : PySem.W.Frag} {Z : Zp} {F : Fm} {S : Hd} {H : Hp} {v : V} {d : PyData} (h : NewZ K Z F S H v d) : Da K (off S H) v d := by
  obtain ⟨p, vs, ds, rfl, rfl, _, h1, h2, _⟩ := h
  exact .lst h1 h2
theorem lc_rd {K : PySem.W.Frag} {wi : DL} {g : TG} {tt : TT} {te : TE} {vs : List Nat} {st : LStep} (hst : OkSt K Z0 g tt te vs st) {σ : St} {H : Hp} {Q : VK} (h : tD K W (wLc wi st vs) σ H Q) : tLc (tI false K W wi) g tt te vs σ H Q := by
  obtain ⟨F, S, Γ, Qd, Ed, en, hw, kq, ke⟩ := h
  exact lc_rdz zst0 hst ⟨F, S, Γ, Qd, Ed, en, hw, fun d Γ' v H' q m e hv => kq d Γ' v H' q m e hv.da, ke⟩
theorem de_lc {elt tg iter : Expr} {ifs : List Expr} {scope : Scope} {own : List (Str × Nat)} {pos : Pos} {wi : DL} {g : TG} {gd : DG} {t : DB} {w : DE} (hc : X.calm = true) (hN : X.N.Nodup) (hi : PI X tg iter (tI false X.K W wi)) (ok : BlkOk X.N X.env.scope scope own) (hgd : OkG X.K g gd (own.map (·.2)))
    (hg : ∀ (s : Shared) (H : Hp) (C : Addr) (cl : List (Str × Addr)) (fp : List Addr), PG (X.blk s H scope (compEnvC scope cl C X.env) fp) tg g) (ht : ∀ (s : Shared) (H : Hp) (C : Addr) (cl : List (Str × Addr)) (fp : List Addr), PTs (X.blk s H scope (compEnvC scope cl C X.env) fp) ifs (tB X.K W0 t))
    (he : ∀ (s : Shared) (H : Hp) (C : Addr) (cl : List (Str × Addr)) (fp : List Addr), PE (X.blk s H scope (compEnvC scope cl C X.env) fp) elt (tD X.K W0 w)) (hs : ∀ x, foldedSetIterable iter X.env x = pure x := by intro _; rfl) :
    PE X (.ListComp elt [⟨tg, iter, ifs, 0⟩] scope pos) (tD X.K W (wLc wi (stIf gd t w (own.map (·.2))) (own.map (·.2)))) := peImp (pe_lc hc hN hi ok hg ht he hs) fun _ _ _ h => lc_rd (okst_if hgd) h
theorem de_lc0 {elt tg iter : Expr} {scope : Scope} {own : List (Str × Nat)} {pos : Pos} {wi : DL} {g : TG} {gd : DG} {w : DE} (hc : X.calm = true) (hN : X.N.Nodup) (hi : PI X tg iter (tI false X.K W wi)) (ok : BlkOk X.N X.env.scope scope own) (hgd : OkG X.K g gd (own.map (·.2)))
    (hg : ∀ (s : Shared) (H : Hp) (C : Addr) (cl : List (Str × Addr)) (fp : List Addr), PG (X.blk s H scope (compEnvC scope cl C X.env) fp) tg g)
    (he : ∀ (s : Shared) (H : Hp) (C : Addr) (cl : List (Str × Addr)) (fp : List Addr), PE (X.blk s H scope (compEnvC scope cl C X.env) fp) elt (tD X.K W0 w)) (hs : ∀ x, foldedSetIterable iter X.env x = pure x := by intro _; rfl) :
    PE X (.ListComp elt [⟨tg, iter, [], 0⟩] scope pos) (tD X.K W (wLc wi (stAll gd w (own.map (·.2))) (own.map (·.2)))) := peImp (pe_lc hc hN hi ok hg (fun _ _ _ _ _ => pts_nil) he hs) fun _ _ _ h => lc_rd (okst_all hgd) h
end
end Dt

/-! Gat3: readings over data: statements, defs. -/
namespace Dt
open PySem L2

inductive Out where
  | nx | rt (d : PyData) | bk | ct | ex (c : Str)
abbrev DS := Gm → (Out → Gm → Prop) → Prop
open Classical in
noncomputable def Fm.over (F : Fm) (S : Hd) (H : Hp) : Fm := ⟨fun b => if F.H0 b = none then off S H b else F.H0 b, F.S0, F.T, F.tn⟩
theorem over_some {F : Fm} {S : Hd} {H : Hp} {b : Addr} {o : HO} (h : F.H0 b = some o) : (F.over S H).H0 b = some o := by
  show (if F.H0 b = none then off S H b else F.H0 b) = some o
  rw [if_neg (by rw [h]; intro z; cases z)]
  exact h
theorem over_none {F : Fm} {S : Hd} {H : Hp} {b : Addr} (h : F.H0 b = none) : (F.over S H).H0 b = off S H b := by
  show (if F.H0 b = none then off S H b else F.H0 b) = off S H b
  rw [if_pos h]
theorem over_null {F : Fm} {S : Hd} {H : Hp} {b : Addr} (h : (F.over S H).H0 b = none) : F.H0 b = none := by
  cases q : F.H0 b with
  | none => rfl
  | some o => rw [over_some q] at h; cases h
/-- what is known of a thing that is given back -/
structure Rm (K : PySem.W.Frag) where
  r : Zp
  over : ∀ (F : Fm) (S0 : Hd) (H0 : Hp) (S : Hd) (H : Hp) (v : V) (d : PyData), r (F.over S0 H0) S H v d → r F S H v d
def rmD (K : PySem.W.Frag) : Rm K := ⟨fun _ S H v d => Da K (off S H) v d, fun _ _ _ _ _ _ _ h => h⟩
def fin {K : PySem.W.Frag} (R : Rm K) (W : WX) (D : Ends) (F : Fm) (S : Hd) (σ : St) (H : Hp) : Out → Prop
  | .nx => D.nx σ H
  | .rt d => ∀ v, R.r F S H v d → D.rt v H
  | .bk => D.bk σ H
  | .ct => D.ct σ H
  | .ex c => W (.ref (He.ga K c)) none σ H
def tSR {K : PySem.W.Frag} (R : Rm K) (W : WX) (w : DS) : TS := fun D σ H => ∃ (F : Fm) (S : Hd) (Γ : Gm) (Qd : Out → Gm → Prop), En K F S Γ σ H ∧ w Γ Qd ∧ ∀ o Γ' S' σ' H', Qd o Γ' → En K F S' Γ' σ' H' → fin R W D F S' σ' H' o
abbrev tS (K : PySem.W.Frag) (W : WX) (w : DS) : TS := tSR (rmD K) W w

def onNx (b : DS) (k : Out → Gm → Prop) : Out → Gm → Prop
  | .nx => fun Γ => b Γ k
  | o => k o
def wNx : DS := fun Γ k => k .nx Γ
def wSq (a b : DS) : DS := fun Γ k => a Γ (onNx b k)
def wEx (w : DE) : DS := fun Γ k => w Γ (fun _ Γ1 => k .nx Γ1) (fun c Γ1 => k (.ex c) Γ1)
def wAsg (w : DE) (g : DG) : DS := fun Γ k => w Γ (fun d Γ1 => g d Γ1 (fun Γ2 => k .nx Γ2)) (fun c Γ1 => k (.ex c) Γ1)
def wSet (i : Nat) (w : DE) : DS := fun Γ k => w Γ (fun d Γ1 => k .nx (Γ1.set i (.dat d))) (fun c Γ1 => k (.ex c) Γ1)
def wRet (w : DE) : DS := fun Γ k => w Γ (fun d Γ1 => k (.rt d) Γ1) (fun c Γ1 => k (.ex c) Γ1)
def wIfS (t : DB) (a b : DS) : DS := fun Γ k => t Γ (fun c Γ1 => if c = true then a Γ1 k else b Γ1 k) (fun c Γ1 => k (.ex c) Γ1)
def wRaise (c : Str) : DS := fun Γ k => k (.ex c) Γ
section
variable {X : Cx} {W : WX} {R : Rm X.K} {e a b c : Expr} {es : List Expr} {pos : Pos} {st : Stmt} {sts ss tt : List Stmt}
theorem dss_nil : PSs X [] (tSR R W wNx) := pssImp pss_nil fun D σ H ⟨F, S, Γ, Qd, en, hw, k⟩ => k .nx Γ S σ H hw en
theorem ds_pass : PS X (.Pass pos) (tSR R W wNx) := psImp ps_pass fun D σ H ⟨F, S, Γ, Qd, en, hw, k⟩ => k .nx Γ S σ H hw en
theorem dss_cons {wa wb : DS} (h1 : PS X st (tSR R W wa)) (h2 : PSs X sts (tSR R W wb)) : PSs X (st :: sts) (tSR R W (wSq wa wb)) := pssImp (pss_cons h1 h2) fun D σ H ⟨F, S, Γ, Qd, en, hw, k⟩ => by
  refine ⟨F, S, Γ, _, en, hw, fun o Γ' S' σ' H' q en' => ?_⟩
  cases o with
  | nx => exact ⟨F, S', Γ', Qd, en', q, k⟩
  | rt d => exact k _ _ _ _ _ q en'
  | bk => exact k _ _ _ _ _ q en'
  | ct => exact k _ _ _ _ _ q en'
  | ex c => exact k _ _ _ _ _ q en'
theorem dss_one {wa : DS} (h1 : PS X st (tSR R W wa)) : PSs X [st] (tSR R W wa) := pss_one h1
theorem ds_expr {w : DE} (he : PE X e (tD X.K W w)) (hs : swapsWith e none pos.line X.env = pure false := by rfl) : PS X (.Expr e pos) (tSR R W (wEx w)) := psImp (ps_expr he hs) fun D σ H ⟨F, S, Γ, Qd, en, hw, k⟩ =>
  ⟨F, S, Γ, _, _, en, hw, fun d Γ' v H' q m en' hv => k .nx Γ' S σ H' q en', fun c Γ' H' q en' => k (.ex c) Γ' S σ H' q en'⟩
theorem ds_asg {tg : Expr} {w : DE} {g : TG} {gd : DG} {vs : List Nat} (he : PE X e (tD X.K W w)) (hg : PG X tg g) (ho : OkG X.K g gd vs) (hs : swapsWithSole [tg] e pos.line X.env = pure false := by rfl) (hw : swappedStores [tg] e X.env = pure none := by rfl) (h1 : (assignEach [tg] X.env).map (·.2) = [assign tg X.env] := by rfl) : PS X (.Assign [tg] e pos) (tSR R W (wAsg w gd)) :=
  psImp (ps_asg he hg hs hw h1) fun D σ H ⟨F, S, Γ, Qd, en, hw, k⟩ => ⟨F, S, Γ, _, _, en, hw, fun d Γ' v H' q m en' hv => ho F S Γ' σ H' v d _ _ en' hv q fun Γ2 σ2 q2 e2 _ _ _ => k .nx Γ2 S σ2 H' q2 e2, fun c Γ' H' q en' => k (.ex c) Γ' S σ H' q en'⟩
/-- x = e, by any rule of the form -/
theorem ds_setBy {i : Nat} {te : TE} {w : DE} (h : PS X st (tAsg te (gName i))) (hi : ∀ σ H Q, tD X.K W w σ H Q → te σ H Q) : PS X st (tSR R W (wSet i w)) :=
  psImp h fun D σ H ⟨F, S, Γ, Qd, en, hw, k⟩ => hi _ _ _ ⟨F, S, Γ, _, _, en, hw, fun d Γ' v H' q m en' hv => k .nx _ S _ H' q (en'.set i hv), fun c Γ' H' q en' => k (.ex c) Γ' S σ H' q en'⟩
theorem ds_set {i : Nat} {x : Str} {w : DE} {pos' : Pos} (hN : X.N.Nodup) (hi : X.N[i]? = some x) (hx : Loc X.env.scope x) (he : PE X e (tD X.K W w)) (hs : swapsWith e (some (.Name x pos')) pos.line X.env = pure false := by rfl) (hf : X.fn x = true ∨ X.env.scope.names.lookup x = some .local := by first | exact .inl rfl | exact .inr rfl | assumption) :
    PS X (.Assign [.Name x pos'] e pos) (tSR R W (wSet i w)) := ds_setBy (ps_set hN hi hx he hs hf) fun _ _ _ h => h
theorem ds_ret {w : DE} (he : PE X e (tD X.K W w)) : PS X (.Return (some e) pos) (tS X.K W (wRet w)) := psImp (ps_ret he) fun D σ H ⟨F, S, Γ, Qd, en, hw, k⟩ =>
  ⟨F, S, Γ, _, _, en, hw, fun d Γ' v H' q m en' hv => k (.rt d) Γ' S σ H' q en' v hv, fun c Γ' H' q en' => k (.ex c) Γ' S σ H' q en'⟩
theorem ds_if {t : DB} {wa wb : DS} (hc : PT X c (tB X.K W t)) (ha : PSs X ss (tSR R W wa)) (hb : PSs X tt (tSR R W wb)) : PS X (.If c ss tt pos) (tSR R W (wIfS t wa wb)) := psImp (ps_if hc ha hb) fun D σ H ⟨F, S, Γ, Qd, en, hw, k⟩ =>
  ⟨F, S, Γ, _, _, en, hw, fun b Γ' H' q m en' => by
    cases b with
    | true => exact ⟨F, S, Γ', Qd, en', q, k⟩
    | false => exact ⟨F, S, Γ', Qd, en', q, k⟩, fun c Γ' H' q en' => k (.ex c) Γ' S σ H' q en'⟩
theorem ds_raise {C : Str} (hc : X.calm = true) (tk : Takes X W) (hm : PMk X e (fun _ H Q => Q (.ref (He.ga X.K C)) none H)) : PS X (.Raise (some e) none pos) (tSR R W (wRaise C)) := psImp (ps_raise hc tk hm) fun D σ H ⟨F, S, Γ, Qd, en, hw, k⟩ => k (.ex C) Γ S σ H hw en
/-! ### lists of one's own -/
/-- a new list that nobody holds yet -/
def tF (K : PySem.W.Frag) (W : WX) (w : DL) : TE := fun σ H Q => ∃ (F : Fm) (S : Hd) (Γ : Gm) (Qd : List PyData → Gm → Prop) (Ed : Ke), En K F S Γ σ H ∧ w Γ Qd Ed ∧
  (∀ ds Γ' p vs H', Qd ds Γ' → En K F (fun b => S b ∨ b = p) Γ' σ H' → H' p = some (.lst vs) → DaL K (off (fun b => S b ∨ b = p) H') vs ds → F.H0 p = none → ¬ F.T p → NoFp Γ' σ H' p → Q (.ref p) H') ∧
  (∀ c Γ' H', Ed c Γ' → En K F S Γ' σ H' → W (.ref (He.ga K c)) none σ H')
theorem NoFp.hide {K : PySem.W.Frag} {F : Fm} {S : Hd} {Γ : Gm} {σ : St} {H : Hp} {p : Addr} {u : HO} (h : En K F S Γ σ H) (n : H p = none) : NoFp Γ σ (upd H p u) p := fun j s o g r q =>
  h.noFp n j s o g r (Fp.back (h.at g r) (fun b z => by
    rw [upd_ne]
    rintro rfl
    exact ((h.at g r).fp z).2 n) q)
theorem same_hide {S : Hd} {H : Hp} {p : Addr} {o : HO} (n : H p = none) : Same (off S H) (off (fun b => S b ∨ b = p) (upd H p o)) := fun b u q => by
  obtain ⟨n1, q⟩ := off_get q
  have nb : b ≠ p := ne_of_none q n
  rw [off_in (fun z => z.elim n1 nb), upd_ne nb]
  exact q
def wLstF (ws : DL) : DL := fun Γ Q E => ws Γ (fun ds Γ1 => ds.length ≤ sizeLine ∧ Q ds Γ1) E
theorem df_lst {ws : DL} (h : PA X es (tL X.K W ws)) : PE X (.List es pos) (tF X.K W (wLstF ws)) := peImp (pe_lst h) fun σ H Q ⟨F, S, Γ, Qd, Ed, e, hw, k, ke⟩ => ⟨F, S, Γ, _, Ed, e, hw, fun ds Γ1 vs H1 ⟨hz, q⟩ m1 e1 hv => ⟨by rw [hv.length]; exact hz, fun p hp =>
  k ds Γ1 p vs _ q (e1.hide hp) upd_same (hv.mono (same_hide hp)) (e1.fresh0 hp) (fun z => e1.hid p (e1.tin p z) hp) (NoFp.hide e1 hp)⟩, ke⟩
def wSetO (i : Nat) (w : DL) : DS := fun Γ k => w Γ (fun ds Γ1 => k .nx (Γ1.set i (.own ds))) (fun c Γ1 => k (.ex c) Γ1)
/-- but for one slot no slot's place -/
def NoFpB (i : Nat) (Γ : Gm) (σ : St) (H : Hp) (p : Addr) : Prop := ∀ (j : Nat) (s : Sl) (o : Option V), j ≠ i → Γ[j]? = some s → σ[j]? = some o → ¬ Fp H s o p
theorem En.setOwn0 {K : PySem.W.Frag} {F : Fm} {S : Hd} {Γ : Gm} {σ : St} {H : Hp} {p : Addr} {u : HO} {d : PyData} (h : En K F S Γ σ H) (i : Nat) (hp : S p) (h0 : F.H0 p = none) (ht : ¬ F.T p) (hv : H p = some u) (hd : Cont K (off S H) u d)
    (hn : NoFpB i Γ σ H p) : En K F S (Γ.set i (.own0 d)) (σ.set i (some (.ref p))) H := by
  refine ⟨h.sub, h.tin, h.fr, h.hid, h.base, by rw [List.length_set, List.length_set]; exact h.len, fun j t q => ?_, fun j k s1 s2 o1 o2 a hjk q1 q2 m1 m2 r1 r2 p1 p2 => ?_⟩
  · rcases set_at q with ⟨rfl, hi, rfl⟩ | ⟨hne, q⟩
    · exact ⟨_, by rw [getset, if_pos rfl, if_pos (by rw [← h.len]; exact hi)], p, _, rfl, hp, h0, ht, hv, hd⟩
    · obtain ⟨o', a, b⟩ := h.slot j t q
      exact ⟨o', by rw [getset, if_neg hne]; exact a, b⟩
  · rcases set_at q1 with ⟨rfl, hi, rfl⟩ | ⟨hne, q1⟩
    · rw [getset, if_pos rfl, if_pos (by rw [← h.len]; exact hi)] at r1
      cases r1
      cases p1
      rcases set_at q2 with ⟨e, _, _⟩ | ⟨hne2, q2⟩
      · exact absurd e hjk
      · rw [getset, if_neg hne2] at r2
        exact hn k s2 o2 (Ne.symm hne2) q2 r2 p2
    · rw [getset, if_neg hne] at r1
      rcases set_at q2 with ⟨rfl, hi, rfl⟩ | ⟨hne2, q2⟩
      · rw [getset, if_pos rfl, if_pos (by rw [← h.len]; exact hi)] at r2
        cases r2
        cases p2
        exact hn j s1 o1 (Ne.symm hne) q1 r1 p1
      · rw [getset, if_neg hne2] at r2
        exact h.inj j k s1 s2 o1 o2 a hjk q1 q2 m1 m2 r1 r2 p1 p2
theorem En.setOwn {K : PySem.W.Frag} {F : Fm} {S : Hd} {Γ : Gm} {σ : St} {H : Hp} {p : Addr} {vs : List V} {ds : List PyData} (h : En K F S Γ σ H) (i : Nat) (hp : S p) (h0 : F.H0 p = none) (ht : ¬ F.T p) (hv : H p = some (.lst vs)) (hd : DaL K (off S H) vs ds)
    (hn : NoFpB i Γ σ H p) : En K F S (Γ.set i (.own ds)) (σ.set i (some (.ref p))) H := h.setOwn0 i hp h0 ht hv ⟨vs, rfl, hd⟩ hn
theorem ds_setOBy {i : Nat} {te : TE} {w : DL} (h : PS X st (tAsg te (gName i))) (hi : ∀ σ H Q, tF X.K W w σ H Q → te σ H Q) : PS X st (tSR R W (wSetO i w)) :=
  psImp h fun D σ H ⟨F, S, Γ, Qd, en, hw, k⟩ => hi _ _ _ ⟨F, S, Γ, _, _, en, hw, fun ds Γ' p vs H' q en' hp hd h0 ht hn => k .nx _ _ _ H' q (en'.setOwn i (.inr rfl) h0 ht hp hd fun j s o _ => hn j s o), fun c Γ' H' q en' => k (.ex c) Γ' S σ H' q en'⟩
theorem ds_setO {i : Nat} {x : Str} {w : DL} {pos' : Pos} (hN : X.N.Nodup) (hi : X.N[i]? = some x) (hx : Loc X.env.scope x) (he : PE X e (tF X.K W w)) (hs : swapsWith e (some (.Name x pos')) pos.line X.env = pure false := by rfl) (hf : X.fn x = true ∨ X.env.scope.names.lookup x = some .local := by first | exact .inl rfl | exact .inr rfl | assumption) :
    PS X (.Assign [.Name x pos'] e pos) (tSR R W (wSetO i w)) := ds_setOBy (ps_set hN hi hx he hs hf) fun _ _ _ h => h
/-- the slot's list changes -/
theorem En.updOwn0 {K : PySem.W.Frag} {F : Fm} {S : Hd} {Γ : Gm} {σ : St} {H : Hp} {i : Nat} {p : Addr} {u : HO} {d0 d : PyData} (h : En K F S Γ σ H) (hi : Γ[i]? = some (.own0 d0)) (hs : σ[i]? = some (some (.ref p))) (hd : Cont K (off S H) u d) : En K F S (Γ.set i (.own0 d)) σ (upd H p u) := by
  obtain ⟨p', vs0, e0, sp, h0, ht, hp, _⟩ := h.at hi hs
  cases e0
  have e : Same (off S H) (off S (upd H p u)) := fun b u q => by
    obtain ⟨n1, q⟩ := off_get q
    have nb : b ≠ p := fun z => n1 (by rw [z]; exact sp)
    rw [off_in n1, upd_ne nb]
    exact q
  refine h.renew hi rfl hs (fun b z q => ?_) (fun b u nt q => ?_) (fun b u nb hb => ?_) ⟨p, u, rfl, sp, h0, ht, upd_same, hd.mono e⟩ fun b z => z
  · by_cases e : b = p
    · rw [e, upd_same] at q; cases q
    · rw [upd_ne e] at q; exact h.hid b z q
  · have q2 := h.base b u nt q
    rw [upd_ne (fun z => by rw [z, h0] at q; cases q)]
    exact q2
  · rw [upd_ne (fun z => nb (by rw [z]; exact rfl))]
    exact hb
theorem En.updOwn {K : PySem.W.Frag} {F : Fm} {S : Hd} {Γ : Gm} {σ : St} {H : Hp} {i : Nat} {p : Addr} {vs : List V} {ds ds' : List PyData} (h : En K F S Γ σ H) (hi : Γ[i]? = some (.own ds)) (hs : σ[i]? = some (some (.ref p))) (hd : DaL K (off S H) vs ds') : En K F S (Γ.set i (.own ds')) σ (upd H p (.lst vs)) := h.updOwn0 hi hs ⟨vs, rfl, hd⟩
def wApp (i : Nat) (w : DE) : DS := fun Γ k => (∃ ds, Γ[i]? = some (Sl.own ds)) ∧ w Γ (fun d Γ1 => ∃ ds, Γ1[i]? = some (Sl.own ds) ∧ ds.length < sizeLine ∧ k .nx (Γ1.set i (.own (ds ++ [d])))) (fun c Γ1 => k (.ex c) Γ1)
theorem ds_app {i : Nat} {x : Str} {w : DE} {p1 p2 p3 : Pos} (hx : PE X (.Name x p1) (tVar i)) (he : PE X e (tD X.K W w)) (h : PS X (.Expr (.Call (.Attribute (.Name x p1) "append" p2) [e] [] p3) pos) (tDrop (tBM X.K "list" rAppend (tVar i) (tCons (tD X.K W w) tNil)))) :
    PS X (.Expr (.Call (.Attribute (.Name x p1) "append" p2) [e] [] p3) pos) (tSR R W (wApp i w)) := psImp h fun D σ H ⟨F, S, Γ, Qd, en, ⟨⟨ds0, g0⟩, hw⟩, k⟩ => by
  obtain ⟨o, q1, p, _, rfl, sp, h0, ht, hp, vs0, rfl, hd0⟩ := en.slot i _ g0
  refine ⟨_, q1, .inl ⟨rfl, _, .of hp⟩, F, S, Γ, _, _, en, hw, fun d Γ1 v H1 ⟨ds, g1, hl, q⟩ m e1 hv => ?_, fun c Γ' H' q en' => k (.ex c) Γ' S σ H' q en'⟩
  obtain ⟨o, q2, p', _, e2, _, _, _, hp1, vs1, rfl, hd1⟩ := e1.slot i _ g1
  rw [q1] at q2
  cases q2
  cases e2
  refine ⟨p, vs1, v, rfl, rfl, hp1, by rw [hd1.length]; exact hl, ?_⟩
  exact k .nx _ S σ _ q (e1.updOwn g1 q1 (hd1.append (.cons hv .nil)))
def wExt (i : Nat) (w : DE) : DS := fun Γ k => (∃ ds, Γ[i]? = some (Sl.own ds)) ∧ w Γ (fun d Γ1 => ∃ ds es, d = .list es ∧ Γ1[i]? = some (Sl.own ds) ∧ ds.length + es.length ≤ sizeLine ∧ k .nx (Γ1.set i (.own (ds ++ es)))) (fun c Γ1 => k (.ex c) Γ1)
theorem ds_ext {i : Nat} {x : Str} {w : DE} {p1 p2 p3 : Pos} (hx : PE X (.Name x p1) (tVar i)) (he : PE X e (tD X.K W w)) (h : PS X (.Expr (.Call (.Attribute (.Name x p1) "extend" p2) [e] [] p3) pos) (tDrop (tBM X.K "list" rExtend (tVar i) (tCons (tD X.K W w) tNil)))) :
    PS X (.Expr (.Call (.Attribute (.Name x p1) "extend" p2) [e] [] p3) pos) (tSR R W (wExt i w)) := psImp h fun D σ H ⟨F, S, Γ, Qd, en, ⟨⟨ds0, g0⟩, hw⟩, k⟩ => by
  obtain ⟨o, q1, p, _, rfl, sp, h0, ht, hp, vs0, rfl, hd0⟩ := en.slot i _ g0
  refine ⟨_, q1, .inl ⟨rfl, _, .of hp⟩, F, S, Γ, _, _, en, hw, fun d Γ1 v H1 ⟨ds, es, ed, g1, hl, q⟩ m e1 hv => ?_, fun c Γ' H' q en' => k (.ex c) Γ' S σ H' q en'⟩
  obtain ⟨o, q2, p', _, e2, _, _, _, hp1, vs1, rfl, hd1⟩ := e1.slot i _ g1
  rw [q1] at q2
  cases q2
  cases e2
  subst ed
  cases hv with
  | lst hb hz =>
    refine ⟨p, _, vs1, _, rfl, rfl, hp1, off_same _ _ hb, by rw [hd1.length, hz.length]; exact hl, ?_⟩
    exact k .nx _ S σ _ q (e1.updOwn g1 q1 (hd1.append hz))
/-- a list of one's own is given out: data from now on -/
theorem En.release {K : PySem.W.Frag} {F : Fm} {S : Hd} {Γ : Gm} {σ : St} {H : Hp} {i : Nat} {d : PyData} (h : En K F S Γ σ H) (hi : Γ[i]? = some (.own0 d)) : ∃ S', En K F S' (Γ.set i (.dat d)) σ H := by
  obtain ⟨o, q1, p, vs, rfl, sp, h0, ht, hp, hd⟩ := h.slot i _ hi
  have hil : i < σ.length := (List.getElem?_eq_some_iff.mp q1).1
  have e : Same (off S H) (off (fun b => S b ∧ b ≠ p) H) := off_sub fun b z => z.1
  have hf := (h.forget i).move (S' := fun b => S b ∧ b ≠ p) (H' := H) (fun b z => ⟨⟨(h.sub b z).1, fun q => (h.sub b z).2 (by rw [q]; exact h0)⟩, (h.sub b z).2⟩) (fun b z => ⟨h.tin b z, fun q => ht (q ▸ z)⟩) (fun b z => h.fr b z.1) (fun b z => h.hid b z.1) h.base e fun j s o b g r q => by
    rcases set_at g with ⟨rfl, _, rfl⟩ | ⟨hne, g⟩
    · cases q
    · refine ⟨⟨((h.at g r).fp q).1, ?_⟩, rfl⟩
      rintro rfl
      by_cases hm : s.mut = true
      · exact h.inj i j _ _ _ _ b hne hi g rfl hm q1 r rfl q
      · cases s with
        | vw a rr =>
          obtain ⟨_, fp, w1, w2⟩ := h.at g r
          obtain ⟨fp', q3, q2⟩ := q
          rw [q3.det w1.rsF] at q2
          exact (w2 b q2).2.2.1 h0
        | own0 d => exact hm rfl
        | twn k => exact hm rfl
        | rs a rr => exact hm rfl
        | _ => cases q
  have hp' : off (fun b => S b ∧ b ≠ p) H p = some vs := by rw [off_in (fun z => z.2 rfl)]; exact hp
  have hda : Da K (off (fun b => S b ∧ b ≠ p) H) (.ref p) d := by
    cases d with
    | list ds => obtain ⟨vs, rfl, hd⟩ := hd; exact .lst hp' (hd.mono e)
    | dict ps => obtain ⟨vs, rfl, hd⟩ := hd; exact .dic hp' (hd.mono e)
    | _ => exact hd.elim
  have r := hf.set i hda
  have e1 : (Γ.set i Sl.no).set i (.dat d) = Γ.set i (.dat d) := by rw [List.set_set]
  have e2 : σ.set i (some (.ref p)) = σ := by
    apply List.ext_getElem?
    intro j
    rw [getset]
    by_cases e : i = j
    · subst e; rw [if_pos rfl, if_pos hil, q1]
    · rw [if_neg e]
  rw [e1, e2] at r
  exact ⟨_, r⟩
/-! ### given out -/
def wRel (i : Nat) (w : DS) : DS := fun Γ k => ∃ d, Γ[i]? = some (Sl.own0 d) ∧ w (Γ.set i (.dat d)) k
theorem ds_rel (i : Nat) {w : DS} (h : PS X st (tSR R W w)) : PS X st (tSR R W (wRel i w)) := psImp h fun D σ H ⟨F, S, Γ, Qd, en, ⟨ds, g, hw⟩, k⟩ => by
  obtain ⟨S', e'⟩ := en.release g
  exact ⟨F, S', _, Qd, e', hw, k⟩
theorem dss_rel (i : Nat) {w : DS} (h : PSs X sts (tSR R W w)) : PSs X sts (tSR R W (wRel i w)) := pssImp h fun D σ H ⟨F, S, Γ, Qd, en, ⟨ds, g, hw⟩, k⟩ => by
  obtain ⟨S', e'⟩ := en.release g
  exact ⟨F, S', _, Qd, e', hw, k⟩
/-! ### for -/
def forK (next : DS) (k : Out → Gm → Prop) : Out → Gm → Prop
  | .nx => fun Γ => next Γ k
  | .ct => fun Γ => next Γ k
  | .bk => fun Γ => k .nx Γ
  | .rt d => fun Γ => k (.rt d) Γ
  | .ex c => fun Γ => k (.ex c) Γ
def forW (gd : DG) (body : DS) : List PyData → DS
  | [] => fun Γ k => k .nx Γ
  | d :: ds => fun Γ k => gd d Γ fun Γa => body Γa (forK (forW gd body ds) k)
def wFor (wi : DL) (gd : DG) (body : DS) : DS := fun Γ k => wi Γ (fun ds Γ1 => forW gd body ds Γ1 k) (fun c Γ1 => k (.ex c) Γ1)
theorem En.over {K : PySem.W.Frag} {F : Fm} {S : Hd} {Γ : Gm} {σ : St} {H : Hp} (h : En K F S Γ σ H) : En K (F.over S H) S Γ σ H := by
  have g : ∀ a, S a → F.H0 a = none → (F.over S H).H0 a = none := fun a s z => by rw [over_none z, off_out s]
  refine ⟨fun b z => ⟨(h.sub b z).1, fun q => (h.sub b z).2 (over_null q)⟩, h.tin, fun b z => ?_, h.hid, fun b o nt q => ?_, h.len, fun j s q => ?_, h.inj⟩
  · rcases h.fr b z with q | q | q
    · exact .inl q
    · exact .inr (.inl q)
    · exact .inr (.inr (g b z q))
  · cases r : F.H0 b with
    | none => rw [over_none r] at q; exact off_same _ _ q
    | some u => rw [over_some r] at q; cases q; exact h.base b _ nt r
  · obtain ⟨o, a, b⟩ := h.slot j s q
    refine ⟨o, a, ?_⟩
    cases s with
    | no => trivial
    | dat d => exact b
    | own0 ds => obtain ⟨x, vs, z1, z2, z3, z4, z5⟩ := b; exact ⟨x, vs, z1, z2, g x z2 z3, z4, z5⟩
    | twn n => obtain ⟨x, vs, z1, z2, z3, z5⟩ := b; exact ⟨x, vs, z1, z2, z3.imp id (fun y => ⟨g x z2 y.1, y.2⟩), z5⟩
    | scr => exact b
    | rs x r => obtain ⟨z1, fp, z2, z3⟩ := b; exact ⟨z1, fp, z2, fun c hc => ⟨(z3 c hc).1, (z3 c hc).2.imp id fun y => g c (z3 c hc).1 y⟩⟩
    | vw x r => obtain ⟨z1, fp, z2, z3⟩ := b; exact ⟨z1, fp, z2, fun c hc => ⟨(z3 c hc).1, (z3 c hc).2.1, fun y => (z3 c hc).2.2.1 (over_null y), (z3 c hc).2.2.2⟩⟩
theorem En.unover {K : PySem.W.Frag} {F : Fm} {S S' : Hd} {Γ : Gm} {σ : St} {H H' : Hp} (h : En K (F.over S H) S' Γ σ H') (h0 : ∀ b, F.S0 b → F.H0 b ≠ none) : En K F S' Γ σ H' := by
  refine ⟨fun b z => ⟨(h.sub b z).1, h0 b z⟩, h.tin, fun b z => ?_, h.hid, fun b o nt q => h.base b o nt (over_some q), h.len, fun j s q => ?_, h.inj⟩
  · rcases h.fr b z with q | q | q
    · exact .inl q
    · exact .inr (.inl q)
    · exact .inr (.inr (over_null q))
  · obtain ⟨o, a, b⟩ := h.slot j s q
    refine ⟨o, a, ?_⟩
    cases s with
    | no => trivial
    | dat d => exact b
    | own0 ds => obtain ⟨x, vs, z1, z2, z3, z4, z5⟩ := b; exact ⟨x, vs, z1, z2, over_null z3, z4, z5⟩
    | twn n => obtain ⟨x, vs, z1, z2, z3, z5⟩ := b; exact ⟨x, vs, z1, z2, z3.imp id (fun y => ⟨over_null y.1, y.2⟩), z5⟩
    | scr => exact b
    | rs x r => obtain ⟨z1, fp, z2, z3⟩ := b; exact ⟨z1, fp, z2, fun c hc => ⟨(z3 c hc).1, (z3 c hc).2.imp id over_null⟩⟩
    | vw x r => obtain ⟨z1, fp, z2, z3⟩ := b; exact ⟨z1, fp, z2, fun c hc => ⟨(z3 c hc).1, (z3 c hc).2.1, h0 c (z3 c hc).2.2.2, (z3 c hc).2.2.2⟩⟩
/-- what was data ahead of a loop is data within -/
theorem over_stays {K : PySem.W.Frag} {F : Fm} {S S' : Hd} {Γ Γ' : Gm} {σ σ' : St} {H H' : Hp} (h : En K F S Γ σ H) (h' : En K (F.over S H) S' Γ' σ' H') : Same (off S H) (off S' H') := fun b o q => by
  obtain ⟨n, q⟩ := off_get q
  have nt : ¬ F.T b := fun z => n (h.tin b z)
  have e : (F.over S H).H0 b = some o := by
    cases r : F.H0 b with
    | none => rw [over_none r, off_in n]; exact q
    | some u =>
      have z := h.base b u nt r
      rw [q] at z
      cases z
      exact over_some r
  have n' : ¬ S' b := fun z => by
    rcases h'.fr b z with y | y | y
    · exact n (h.sub b y).1
    · exact nt y
    · rw [e] at y; cases y
  rw [off_in n']
  exact h'.base b o nt e
theorem ds_for {tg iter : Expr} {body : List Stmt} {wi : DL} {g : TG} {gd : DG} {vs : List Nat} {wb : DS} (hp : PassesOwn (model X.prog X.w) X.A X.env X.xe) (hc : X.calm = true) (hi : PI X tg iter (tI true X.K W wi)) (hg : PG X tg g) (ho : OkG X.K g gd vs) (hb : PSs X body (tSR R W wb))
    (hs : ∀ x, foldedSetIterable iter X.env x = pure x := by intro _; rfl) : PS X (.For tg iter body [] pos) (tSR R W (wFor wi gd wb)) := psImp (ps_for hp hc hi hg hb hs) fun D σ H ⟨F, S, Γ, Qd, en, hw, k⟩ => by
  refine ⟨F, S, Γ, _, _, en, hw, fun ds Γ1 H1 J q m1 e1 wk => ?_, fun c Γ' H' q en' => k (.ex c) Γ' S σ H' q en'⟩
  have h0 : ∀ b, F.S0 b → F.H0 b ≠ none := fun b z => (en.sub b z).2
  refine ⟨fun i m σ' H' => m = ds.length - i ∧ i ≤ ds.length ∧ ∃ S' Γi, En X.K (F.over S H1) S' Γi σ' H' ∧ forW gd wb (ds.drop i) Γi Qd, ⟨ds.length, rfl, Nat.zero_le _, S, Γ1, e1.over, q⟩, ?_⟩
  rintro i m σ' H' ⟨rfl, hi, S', Γi, ei, hk⟩
  obtain ⟨wk1, wk2⟩ := wk _ S' Γi σ' H' (over_stays e1 ei) (fun z => by cases z) ei
  by_cases hlt : i < ds.length
  · right
    have hd : ds[i]? = some ds[i] := List.getElem?_eq_getElem hlt
    obtain ⟨go, yl⟩ := wk1 i _ hd
    refine ⟨go, fun σ'' H'' => ∃ S'' Γj, En X.K (F.over S H1) S'' Γj σ'' H'' ∧ forW gd wb (ds.drop (i + 1)) Γj Qd, ?_, ?_⟩
    · rintro σ'' H'' ⟨S'', Γj, r⟩
      exact ⟨ds.length - (i + 1), by omega, rfl, hlt, S'', Γj, r⟩
    · intro x H3 y
      obtain ⟨rfl, hx⟩ := yl x H3 y
      rw [List.drop_eq_getElem_cons hlt] at hk
      refine ho _ S' Γi σ' H3 x ds[i] _ _ ei hx hk fun Γa σa qa ea _ _ _ => ⟨F.over S H1, S', Γa, _, ea, qa, fun o Γ' S'' σ'' H'' q' e' => ?_⟩
      cases o with
      | nx => exact ⟨S'', Γ', e', q'⟩
      | ct => exact ⟨S'', Γ', e', q'⟩
      | bk => exact k .nx Γ' S'' σ'' H'' q' (e'.unover h0)
      | rt d => exact fun v hv => k (.rt d) Γ' S'' σ'' H'' q' (e'.unover h0) v (R.over _ _ _ _ _ _ _ hv)
      | ex c => exact k (.ex c) Γ' S'' σ'' H'' q' (e'.unover h0)
  · left
    have e : i = ds.length := by omega
    subst e
    rw [List.drop_length] at hk
    exact ⟨wk2, k .nx Γi S' σ' H' hk (ei.unover h0)⟩
/-! ### while -/
def whK (I : Nat → Gm → Prop) (m : Nat) (k : Out → Gm → Prop) : Out → Gm → Prop
  | .nx => fun Γ => ∃ m', m' < m ∧ I m' Γ
  | .ct => fun Γ => ∃ m', m' < m ∧ I m' Γ
  | .bk => fun Γ => k .nx Γ
  | .rt d => fun Γ => k (.rt d) Γ
  | .ex c => fun Γ => k (.ex c) Γ
def wWhile (t : DB) (body : DS) : DS := fun Γ k => ∃ I : Nat → Gm → Prop, (∃ m, I m Γ) ∧ ∀ m Γ, I m Γ → t Γ (fun b Γ1 => if b = true then body Γ1 (whK I m k) else k .nx Γ1) (fun c Γ1 => k (.ex c) Γ1)
theorem ds_while {t : DB} {body : List Stmt} {wb : DS} (h : PS X (.While c body [] pos) (tWhile (tB X.K W t) (tSR R W wb))) : PS X (.While c body [] pos) (tSR R W (wWhile t wb)) := psImp h fun D σ H ⟨F, S, Γ, Qd, en, ⟨I, ⟨m0, i0⟩, hI⟩, k⟩ => by
  refine ⟨fun m σ' H' => ∃ S' Γ', En X.K F S' Γ' σ' H' ∧ I m Γ', ⟨m0, S, Γ, en, i0⟩, ?_⟩
  rintro m σ' H' ⟨S', Γ', e', hi⟩
  refine ⟨F, S', Γ', _, _, e', hI m Γ' hi, fun b Γ1 H1 q m1 e1 => ?_, fun c Γ1 H1 q e1 => k (.ex c) Γ1 S' σ' H1 q e1⟩
  cases b with
  | true =>
    refine ⟨fun σ'' H'' => ∃ m', m' < m ∧ ∃ S'' Γ'', En X.K F S'' Γ'' σ'' H'' ∧ I m' Γ'', fun σ'' H'' ⟨m', l, z⟩ => ⟨m', l, z⟩, F, S', Γ1, _, e1, q, fun o Γ2 S'' σ'' H'' q' e2 => ?_⟩
    cases o with
    | nx => obtain ⟨m', l, i'⟩ := q'; exact ⟨m', l, S'', Γ2, e2, i'⟩
    | ct => obtain ⟨m', l, i'⟩ := q'; exact ⟨m', l, S'', Γ2, e2, i'⟩
    | bk => exact k .nx Γ2 S'' σ'' H'' q' e2
    | rt d => exact k (.rt d) Γ2 S'' σ'' H'' q' e2
    | ex c => exact k (.ex c) Γ2 S'' σ'' H'' q' e2
  | false => exact k .nx Γ1 S' σ' H1 q e1
end
/-! ### a def -/
def startG (N : List Str) (ds : List PyData) : Gm := ds.map Sl.dat ++ List.replicate (N.length - ds.length) Sl.no
def endO (Q : PyData → Prop) (E : Str → Prop) : Out → Gm → Prop
  | .nx => fun _ => Q .none
  | .rt d => fun _ => Q d
  | .ex c => fun _ => E c
  | _ => fun _ => False
theorem DaL.slots {K : PySem.W.Frag} {F : Fm} {S : Hd} {H : Hp} {vs : List V} {ds : List PyData} (h : DaL K (off S H) vs ds) (N : List Str) {i : Nat} {s : Sl} (q : (startG N ds)[i]? = some s) : ∃ o, (L2.start N vs)[i]? = some o ∧ SlOk K F S H s o := by
  unfold startG at q
  unfold L2.start
  have hl := h.length
  by_cases hi : i < ds.length
  · rw [List.getElem?_append_left (by rw [List.length_map]; exact hi), List.getElem?_map, List.getElem?_eq_getElem hi] at q
    cases q
    obtain ⟨v, h1, h2⟩ := h.get (List.getElem?_eq_getElem hi)
    refine ⟨some v, ?_, v, rfl, h2⟩
    rw [List.getElem?_append_left (by rw [List.length_map]; omega), List.getElem?_map, h1]
    rfl
  · rw [List.getElem?_append_right (by rw [List.length_map]; omega), List.getElem?_replicate] at q
    split at q
    · rename_i hlt
      cases q
      refine ⟨none, ?_, trivial⟩
      rw [List.getElem?_append_right (by rw [List.length_map]; omega), List.getElem?_replicate, if_pos (by rw [List.length_map] at hlt ⊢; rw [hl]; exact hlt)]
    · cases q
theorem startG_mut (N : List Str) (ds : List PyData) {i : Nat} {s : Sl} (q : (startG N ds)[i]? = some s) : s.mut = false := by
  unfold startG at q
  by_cases hi : i < ds.length
  · rw [List.getElem?_append_left (by rw [List.length_map]; exact hi), List.getElem?_map, List.getElem?_eq_getElem hi] at q
    cases q
    rfl
  · rw [List.getElem?_append_right (by rw [List.length_map]; omega), List.getElem?_replicate] at q
    split at q
    · cases q; rfl
    · cases q
theorem en_start {K : PySem.W.Frag} {S : Hd} {H : Hp} {vs : List V} {ds : List PyData} (hS : Hid S H) (h : DaL K (off S H) vs ds) (N : List Str) : En K ⟨H, S, fun _ => False, none⟩ S (startG N ds) (L2.start N vs) H := by
  refine ⟨fun b z => ⟨z, hS b z⟩, fun b z => z.elim, fun b z => .inl z, hS, fun b o _ q => q, ?_, fun i s q => h.slots N q, fun i j s t o o' a _ q1 _ m1 => ?_⟩
  · unfold startG L2.start
    rw [List.length_append, List.length_append, List.length_map, List.length_map, List.length_replicate, List.length_replicate, h.length]
  · rw [startG_mut N ds q1] at m1
    cases m1
section
variable {P : Program} {w : World} {K : PySem.W.Frag} {mg : Str → Option Value} {base : Heap} {x qual : Str} {params : Arguments} {body : List Stmt} {scope : Scope} {f : Addr} {fd : FuncData}
abbrev Wd (E : XK) : WX := fun cls d _ H => E cls d H
/-- the context of a def's body -/
abbrev bX (P : Program) (w : World) (K : PySem.W.Frag) (mg : Str → Option Value) (base : Heap) (N : List Str) (qual : Str) (scope : Scope) (f : Addr) (cdv : Value) (A : Around) (outer : List Env) (s : Shared) (H : Hp) (E : XK) : Cx := cxOf (L2.CX P w) P w K mg base N qual scope f cdv A outer s H E
theorem bTakes {N : List Str} {cdv : Value} {A : Around} {outer : List Env} {s : Shared} {H : Hp} {E : XK} : Takes (bX P w K mg base N qual scope f cdv A outer s H E) (Wd E) := takes_of rfl rfl rfl rfl
theorem bPasses {N : List Str} {cdv : Value} {A : Around} {outer : List Env} {s : Shared} {H : Hp} {E : XK} : PassesOwn (model P w) (bX P w K mg base N qual scope f cdv A outer s H E).A (bX P w K mg base N qual scope f cdv A outer s H E).env (bX P w K mg base N qual scope f cdv A outer s H E).xe :=
  passes_of (X := bX P w K mg base N qual scope f cdv A outer s H E) rfl
theorem fn_ok {N ps : List Str} {k : Nat} {sp : DSp} (F : FunD K x qual params body scope [] [] f fd) (Sc : FnScope N ps scope) (len : ∀ ds Q E, sp ds Q E → ds.length = ps.length) (wb : DS)
    (hb : ∀ (cdv : Value) (A : Around) (outer : List Env) (s : Shared) (H : Hp) (E : XK), Room k (A.deeper (PyProof.Rows.envOfC qual scope s.heap.objs.size f cdv)) → PSs (bX P w K mg base N qual scope f cdv A outer s H E) body (tS K (Wd E) wb))
    (hd : ∀ ds Q E, sp ds Q E → wb (startG N ds) (endO Q E)) : FnOk P w K mg base (L2.CX P w) (k + 1) f fd ps (spD K sp) := by
  refine F.ok Sc (fun vs H Q E ⟨S, ds, Qd, Ed, hS, hv, h, _⟩ => by rw [hv.length]; exact len ds Qd Ed h) fun cdv A outer s H vs Q E hr h => ⟨_, hb cdv A outer s H E hr, ?_⟩
  obtain ⟨S, ds, Qd, Ed, hS, hv, h, kq, ke⟩ := h
  refine ⟨⟨H, S, fun _ => False, none⟩, S, startG N ds, _, en_start hS hv N, hd ds Qd Ed h, fun o Γ' S' σ' H' q e' => ?_⟩
  have sm : Same H H' := fun b u z => e'.base b u (fun y => y) z
  have so : ∀ {v : V} {d : PyData}, Da K (off S' H') v d → Da K (off S H') v d := fun z => z.mono (off_sub fun b y => (e'.sub b y).1)
  cases o with
  | nx => exact kq .none .non H' q sm .non
  | rt d => exact fun v hv' => kq d v H' q sm (so hv')
  | ex c => exact ke c H' q sm
  | bk => exact q.elim
  | ct => exact q.elim
end
end Dt

/-! Gat4: what operators and built-ins do with data. -/
namespace L2
open PySem PySem.Spec PyProof.Rows
/-! ### tuple * 1, tuple * 0 -/
theorem tuple_mul1 (l : Addr) (items : Array Value) (n : Nat) (sl : Array (Option Value)) (dd : Option Addr) (u : Tok) :
    Meets (Builtin.«tuple.__mul__» ⟨[.ref l, .int 1 u], []⟩) (fun _ R s => s.heap.get? l = some { cls := .type "tuple", dict := dd, data := .seq items n, slots := sl } ∧
      R (.ok (.ret (Value.ref l))) s) :=
  .of_wp fun prog w A R s h => by
    obtain ⟨hp, g, d, tk, os⟩ := s
    obtain ⟨hl, h⟩ := h
    have f1 := AutoSeq1.idx_int
    have c1 : (items.isEmpty || (1 : Int) == 1) = true := by simp
    wp_walk using wpAny_loadPart' hl
    repeat (first
      | (refine wpAny_ite_false (decide_eq_false (by decide)) ?_; wp_walk using wpAny_loadPart' hl)
      | (refine wpAny_ite_true (decide_eq_true c1) ?_; wp_walk using wpAny_loadPart' hl))
    all_goals first | exact ⟨_, rfl, h⟩ | skip
theorem tuple_mul0 (l : Addr) (items : Array Value) (n : Nat) (sl : Array (Option Value)) (dd : Option Addr) (u : Tok) (hi : items.isEmpty = false) :
    Meets (Builtin.«tuple.__mul__» ⟨[.ref l, .int 0 u], []⟩) (fun _ R s => s.heap.get? l = some { cls := .type "tuple", dict := dd, data := .seq items n, slots := sl } ∧
      R (.ok (.ret (Value.ref s.heap.objs.size))) { s with heap := s.heap.push { cls := Value.type "tuple", data := Data.seq #[] }, toks := s.toks }) :=
  .of_wp fun prog w A R s h => by
    obtain ⟨hp, g, d, tk, os⟩ := s
    obtain ⟨hl, h⟩ := h
    have f1 := AutoSeq1.idx_int
    have c1 : (items.isEmpty || (0 : Int) == 1) = false := by rw [hi]; rfl
    have c2 : (decide ((0 : Int) ≤ 0) || items.isEmpty) = true := by simp
    have c5 : ¬ ((#[] : Array Value).size > sizeLine) := by simp
    wp_walk using wpAny_loadPart' hl
    repeat (first
      | (refine wpAny_ite_false (decide_eq_false (by rw [c1]; exact Bool.false_ne_true)) ?_; wp_walk using wpAny_loadPart' hl)
      | (refine wpAny_ite_true (decide_eq_true c2) ?_; wp_walk using wpAny_loadPart' hl)
      | (refine wpAny_ite_false (decide_eq_false c5) ?_; wp_walk using wpAny_loadPart' hl)
      | (refine wpAny_ite_false (decide_eq_false (by decide)) ?_; wp_walk using wpAny_loadPart' hl))
    all_goals first | exact ⟨_, rfl, h⟩ | skip
/-- t * k, k from 0 on -/
def rRepA (K : PySem.W.Frag) : R2 := fun x y H Q => ∃ l k xs, x = .ref l ∧ y = .int k ∧ SqT K H l xs ∧ xs ≠ [] ∧ 0 ≤ k ∧ k ≤ 1000 ∧ xs.length ≤ 1000 ∧ (k = 1 → Q (.ref l) H) ∧ (k ≠ 1 → ∀ p, H p = none → Q (.ref p) (upd H p (.tup (List.replicate k.toNat xs).flatten)))
section
variable {X : Cx}
theorem op_repA : OpR X (binaryOp .Mult) (rRepA X.K) := by
  intro pins s σ H x y v u Q I rx ry h
  obtain ⟨l, k, xs, rfl, rfl, hT, hne, h1, h2, hz, q1, q2⟩ := h
  by_cases hk : 2 ≤ k
  · exact op_repT pins s σ H _ _ v u Q I rx ry ⟨l, k, xs, rfl, rfl, hT, hne, hk, h2, hz, q2 (by omega)⟩
  cases rx
  obtain ⟨t, rfl⟩ := ry
  obtain ⟨its, r, ⟨⟨cls, dd, data, sl⟩, ho, hc, n, hd⟩, hs⟩ := I.tuple hT
  simp only at hc hd
  subst hc hd
  have hle : its.length = xs.length := r.length.symm
  have hn : its ≠ [] := fun e => hne (by
    rw [e] at hle
    exact List.eq_nil_of_length_eq_zero hle.symm)
  have hi : its.toArray.isEmpty = false := by
    cases its with
    | nil => exact absurd rfl hn
    | cons a b => rfl
  by_cases hk1 : k = 1
  · subst hk1
    refine wpAny_binaryOp_repeat_ref (T := "tuple") (U := "int") (by decide) ⟨_, ho, rfl⟩ (fun s' => typeIs_int s' 1 t) noFill_tuple_mul F.fills_int_mul F.slot_int_rmul repeat_tuple F.slot_int_index.lookup
      (call_meets F.slot_int_rmul (typeIs_int s 1 t) F.entry_int_rmul (F.args_int_rmul_2 _ _) (int_rmul_tuple 1 t l its.toArray n dd sl)
        ⟨ho, rfl, ⟨_, ho, rfl⟩, call_meets F.slot_tuple_mul ⟨_, ho, rfl⟩ F.entry_tuple_mul (F.args_tuple_mul_2 _ _) (tuple_mul1 l its.toArray n sl dd t) ⟨ho, ?_⟩⟩)
    exact ⟨.ref l, H, I, rfl, q1 rfl⟩
  · have hk0 : k = 0 := by omega
    subst hk0
    refine wpAny_binaryOp_repeat_ref (T := "tuple") (U := "int") (by decide) ⟨_, ho, rfl⟩ (fun s' => typeIs_int s' 0 t) noFill_tuple_mul F.fills_int_mul F.slot_int_rmul repeat_tuple F.slot_int_index.lookup
      (call_meets F.slot_int_rmul (typeIs_int s 0 t) F.entry_int_rmul (F.args_int_rmul_2 _ _) (int_rmul_tuple 0 t l its.toArray n dd sl)
        ⟨ho, rfl, ⟨_, ho, rfl⟩, call_meets F.slot_tuple_mul ⟨_, ho, rfl⟩ F.entry_tuple_mul (F.args_tuple_mul_2 _ _) (tuple_mul0 l its.toArray n sl dd t hi) ⟨ho, ?_⟩⟩)
    refine ⟨.ref s.heap.objs.size, _, I.laid (t' := s.toks) (o := .tup []) (fun b ob q => Heap.get?_push_of_some _ q) (Nat.le_refl _) ?_, rfl, q2 (by decide) _ (I.hok.fresh (Nat.le_refl _))⟩
    exact ⟨Nat.zero_le _, [], .nil, IsTup.new _ _⟩
end
end L2
namespace Dt
open PySem L2
section
variable {X : Cx} {K : PySem.W.Frag}
/-! ### ints -/
def IntOp (g : Int → Int → PyData) (C : Int → Int → Prop) : PyData → PyData → PyData → Prop
  | .int i, .int j, d => C i j ∧ d = g i j
  | _, _, _ => False
def IntOp0 (g : Int → Int → PyData) : PyData → PyData → PyData → Prop
  | .int i, .int j, d => d = g i j
  | _, _, _ => False
def vI : PyData → V
  | .int i => .int i
  | .bool b => .bl b
  | _ => .non
theorem okr_i0 {g : Int → Int → PyData} {gv : Int → Int → V} (hg : ∀ i j H, Da K H (gv i j) (g i j)) : OkR K (rI0 gv) (IntOp0 g) := fun S H x y dx dy d Q hS ho hx hy k => by
  cases dx with
  | int i =>
    cases dy with
    | int j =>
      cases ho
      exact ⟨i, j, hx.int, hy.int, k _ H (.refl H) (hg _ _ _)⟩
    | _ => exact ho.elim
  | _ => exact ho.elim
theorem okr_i {g : Int → Int → PyData} {gv : Int → Int → V} {C C' : Int → Int → Prop} (hC : ∀ i j, C i j → C' i j) (hg : ∀ i j H, Da K H (gv i j) (g i j)) : OkR K (rI C' gv) (IntOp g C) := fun S H x y dx dy d Q hS ho hx hy k => by
  cases dx with
  | int i =>
    cases dy with
    | int j =>
      obtain ⟨hc, rfl⟩ := ho
      exact ⟨i, j, hx.int, hy.int, hC _ _ hc, k _ H (.refl H) (hg _ _ _)⟩
    | _ => exact ho.elim
  | _ => exact ho.elim
abbrev SubD := IntOp0 fun i j => .int (i - j)
abbrev LtD := IntOp0 fun i j => .bool (decide (i < j))
abbrev LeD := IntOp0 fun i j => .bool (decide (i ≤ j))
abbrev GtD := IntOp0 fun i j => .bool (decide (j < i))
abbrev GeD := IntOp0 fun i j => .bool (decide (j ≤ i))
abbrev ModD := IntOp (fun i j => .int (i % j)) fun _ j => 0 < j
abbrev FdivD := IntOp (fun i j => .int (i / j)) fun _ j => 0 < j ∧ j < 1073741824
abbrev PowD := IntOp (fun i j => .int (i ^ j.toNat)) CPow
theorem ok_sub : OkR K (rI0 fun i j => .int (i - j)) SubD := okr_i0 fun _ _ _ => .int _
theorem ok_lt : OkR K (rI0 fun i j => .bl (decide (i < j))) LtD := okr_i0 fun _ _ _ => .bl _
theorem ok_le : OkR K (rI0 fun i j => .bl (decide (i ≤ j))) LeD := okr_i0 fun _ _ _ => .bl _
theorem ok_gt : OkR K (rI0 fun i j => .bl (decide (j < i))) GtD := okr_i0 fun _ _ _ => .bl _
theorem ok_ge : OkR K (rI0 fun i j => .bl (decide (j ≤ i))) GeD := okr_i0 fun _ _ _ => .bl _
theorem ok_mod : OkR K (rI (fun _ j => 0 < j) fun i j => .int (i % j)) ModD := okr_i (fun _ _ h => h) fun _ _ _ => .int _
theorem ok_fdiv : OkR K (rI CDiv fun i j => .int (i / j)) FdivD := okr_i (fun _ _ h => h) fun _ _ _ => .int _
theorem ok_pow : OkR K (rI CPow fun i j => .int (i ^ j.toNat)) PowD := okr_i (fun _ _ h => h) fun _ _ _ => .int _
/-! ### + -/
def AddD : PyData → PyData → PyData → Prop
  | .int i, .int j, d => d = .int (i + j)
  | .list xs, .list ys, d => d = .list (xs ++ ys) ∧ xs.length + ys.length ≤ sizeLine
  | .tuple xs, .tuple ys, d => d = .tuple (xs ++ ys) ∧ xs.length + ys.length ≤ sizeLine
  | .str x, .str y, d => d = .str (x ++ y) ∧ x.length + y.length ≤ sizeLine
  | _, _, _ => False
def rAdd4 (K : PySem.W.Frag) : R2 := fun x y H Q => (rI0 fun i j => .int (i + j)) x y H Q ∨ (rCat x y H Q ∨ (rCatA K x y H Q ∨ ∃ i j, x = .str i ∧ y = .str j ∧ i.length + j.length ≤ sizeLine ∧ Q (.str (i ++ j)) H))
theorem op_add4 : OpR X (binaryOp .Add) (rAdd4 X.K) := op_add.or (op_cat.or (op_catA.or op_add_str))
theorem ok_add : OkR K (rAdd4 K) AddD := fun S H x y dx dy d Q hS ho hx hy k => by
  cases dx with
  | int i =>
    cases dy with
    | int j => cases ho; exact .inl ⟨i, j, hx.int, hy.int, k _ H (.refl H) (.int _)⟩
    | _ => exact ho.elim
  | list xs =>
    cases dy with
    | list ys =>
      obtain ⟨rfl, hz⟩ := ho
      obtain ⟨a, vs, rfl, h1, h2⟩ := hx.list
      obtain ⟨b, ws, rfl, h3, h4⟩ := hy.list
      exact .inr (.inl ⟨a, b, vs, ws, rfl, rfl, h1, h3, by rw [h2.length, h4.length]; exact hz, fun p hp => k _ _ (same_new hp) (.newL hS hp (h2.append h4))⟩)
    | _ => exact ho.elim
  | tuple xs =>
    cases dy with
    | tuple ys =>
      obtain ⟨rfl, hz⟩ := ho
      obtain ⟨a, vs, rfl, h1, h2⟩ := hx.tuple
      obtain ⟨b, ws, rfl, h3, h4⟩ := hy.tuple
      have cx : ∀ z, Dr K S H (.ref z) (.tuple xs) → Da K (off S H) (.ref z) (.tuple xs) := fun z q => by
        rcases q with q | ⟨_, _, _, _, e⟩
        · exact q
        · exact e.elim
      have cy : ∀ z, Dr K S H (.ref z) (.tuple ys) → Da K (off S H) (.ref z) (.tuple ys) := fun z q => by
        rcases q with q | ⟨_, _, _, _, e⟩
        · exact q
        · exact e.elim
      refine .inr (.inr (.inl ⟨a, b, vs, ws, rfl, rfl, h1, h3, by rw [h2.length, h4.length]; exact hz, fun e => ?_, fun _ e => ?_, fun _ _ p hp => k _ _ (same_new hp) (.newT hS hp (h2.append h4))⟩))
      · subst e
        cases h2
        exact k _ H (.refl H) (cy _ hy)
      · subst e
        cases h4
        rw [List.append_nil] at k
        exact k _ H (.refl H) (cx _ hx)
    | _ => exact ho.elim
  | str i =>
    cases dy with
    | str j =>
      obtain ⟨rfl, hz⟩ := ho
      exact .inr (.inr (.inr ⟨i, j, hx.str, hy.str, hz, k _ H (.refl H) (.str _)⟩))
    | _ => exact ho.elim
  | _ => cases dy <;> exact ho.elim
/-! ### * -/
def MulD : PyData → PyData → PyData → Prop
  | .int i, .int j, d => d = .int (i * j) ∧ CMul i j
  | .list xs, .int k, d => d = .list (List.replicate k.toNat xs).flatten ∧ -(2 ^ 63) ≤ k ∧ k < 2 ^ 63 ∧ xs.length * k.toNat ≤ sizeLine
  | .tuple xs, .int k, d => d = .tuple (List.replicate k.toNat xs).flatten ∧ xs ≠ [] ∧ 0 ≤ k ∧ k ≤ 1000 ∧ xs.length ≤ 1000
  | _, _, _ => False
def rMul3 (K : PySem.W.Frag) : R2 := fun x y H Q => (rI CMul fun i j => .int (i * j)) x y H Q ∨ (rRep x y H Q ∨ rRepA K x y H Q)
theorem op_mul3 : OpR X (binaryOp .Mult) (rMul3 X.K) := op_mul.or (op_rep.or op_repA)
theorem DaL.rep {H : Hp} {vs : List V} {ds : List PyData} (h : DaL K H vs ds) : ∀ k : Nat, DaL K H (List.replicate k vs).flatten (List.replicate k ds).flatten
  | 0 => .nil
  | k + 1 => by
    rw [List.replicate_succ, List.replicate_succ, List.flatten_cons, List.flatten_cons]
    exact h.append (DaL.rep h k)
theorem ok_mul : OkR K (rMul3 K) MulD := fun S H x y dx dy d Q hS ho hx hy k => by
  cases dx with
  | int i =>
    cases dy with
    | int j =>
      obtain ⟨rfl, hc⟩ := ho
      exact .inl ⟨i, j, hx.int, hy.int, hc, k _ H (.refl H) (.int _)⟩
    | _ => exact ho.elim
  | list xs =>
    cases dy with
    | int j =>
      obtain ⟨rfl, h1, h2, hz⟩ := ho
      obtain ⟨a, vs, rfl, h3, h4⟩ := hx.list
      exact .inr (.inl ⟨a, j, vs, rfl, hy.int, h3, h1, h2, by rw [h4.length]; exact hz, fun p hp => k _ _ (same_new hp) (.newL hS hp (h4.rep _))⟩)
    | _ => exact ho.elim
  | tuple xs =>
    cases dy with
    | int j =>
      obtain ⟨rfl, hne, h1, h2, hz⟩ := ho
      have cx : ∀ z, Dr K S H (.ref z) (.tuple xs) → Da K (off S H) (.ref z) (.tuple xs) := fun z q => by
        rcases q with q | ⟨_, _, _, _, e⟩
        · exact q
        · exact e.elim
      obtain ⟨a, vs, rfl, h3, h4⟩ := hx.tuple
      refine .inr (.inr ⟨a, j, vs, rfl, hy.int, h3, ?_, h1, h2, by rw [h4.length]; exact hz, fun e => ?_, fun _ p hp => k _ _ (same_new hp) (.newT hS hp (h4.rep _))⟩)
      · intro e
        subst e
        cases h4
        exact hne rfl
      · subst e
        have e1 : (List.replicate (1 : Int).toNat xs).flatten = xs := by simp
        rw [e1] at k
        exact k _ H (.refl H) (cx _ hx)
    | _ => exact ho.elim
  | _ => cases dy <;> exact ho.elim
/-! ### ==, != -/
def EqD (x y d : PyData) : Prop := d = .bool (PyData.eqv x y) ∧ SeqAt.shaped x = true ∧ SeqAt.shaped y = true
def NeD (x y d : PyData) : Prop := d = .bool (!PyData.eqv x y) ∧ SeqAt.shaped x = true ∧ SeqAt.shaped y = true
theorem ok_eq : OkR K (rEqD K) EqD := fun S H x y dx dy d Q hS ⟨e, hx1, hy1⟩ hx hy k => by
  subst e
  exact ⟨dx, dy, hx.dp (SeqAt.canLay_of_shaped hx1), hy.dp (SeqAt.canLay_of_shaped hy1), hx1, hy1, k _ H (.refl H) (.bl _)⟩
theorem ok_ne : OkR K (rNeD K) NeD := fun S H x y dx dy d Q hS ⟨e, hx1, hy1⟩ hx hy k => by
  subst e
  exact ⟨dx, dy, hx.dp (SeqAt.canLay_of_shaped hx1), hy.dp (SeqAt.canLay_of_shaped hy1), hx1, hy1, k _ H (.refl H) (.bl _)⟩
/-! ### is None -/
def isNone : PyData → Bool
  | .none => true
  | _ => false
def IsND (x y d : PyData) : Prop := y = .none ∧ d = .bool (isNone x)
def NotND (x y d : PyData) : Prop := y = .none ∧ d = .bool (!isNone x)
theorem none_iff {S : Hd} {H : Hp} {v : V} {d : PyData} (h : Dr K S H v d) : decide (v = .non) = isNone d := by
  rcases h with h | ⟨a, u, rfl, _, h2⟩
  · cases h <;> rfl
  · cases d <;> first | rfl | exact h2.elim
theorem ok_isN : OkR K (fun x y H Q => y = .non ∧ Q (.bl (decide (x = .non))) H) IsND := fun S H x y dx dy d Q hS ⟨e, e2⟩ hx hy k => by
  subst e e2
  exact ⟨hy.none, by rw [none_iff hx]; exact k _ H (.refl H) (.bl _)⟩
theorem ok_notN : OkR K (fun x y H Q => y = .non ∧ Q (.bl (!decide (x = .non))) H) NotND := fun S H x y dx dy d Q hS ⟨e, e2⟩ hx hy k => by
  subst e e2
  exact ⟨hy.none, by rw [none_iff hx]; exact k _ H (.refl H) (.bl _)⟩
/-! ### in -/
def flatD : PyData → Bool
  | .none => true
  | .bool _ => true
  | .int _ => true
  | .str _ => true
  | _ => false
def inD (x : PyData) (ds : List PyData) : Bool := ds.any fun z => PyData.eqv z x
def InD (neg : Bool) : PyData → PyData → PyData → Prop := fun x y d => match y with
  | .list ds => d = .bool (neg ^^ inD x ds) ∧ SeqAt.shaped x = true ∧ SeqAt.shaped (.list ds) = true
  | .tuple ds => d = .bool (neg ^^ inD x ds) ∧ flatD x = true ∧ ds.all flatD = true
  | _ => False
theorem flat_of {H : Hp} {v : V} {d : PyData} (h : Da K H v d) (f : flatD d = true) : flatV v = true := by
  cases h <;> first | rfl | cases f
theorem flats_of {H : Hp} : ∀ {vs : List V} {ds : List PyData}, DaL K H vs ds → ds.all flatD = true → vs.all flatV = true
  | _, _, .nil, _ => rfl
  | _, _, .cons h t, f => by
    rw [List.all_cons, Bool.and_eq_true] at f ⊢
    exact ⟨flat_of h f.1, flats_of t f.2⟩
theorem eqv_of {H : Hp} {v u : V} {d e : PyData} (h : Da K H v d) (h' : Da K H u e) (f : flatD d = true) (f' : flatD e = true) : eqV v u = PyData.eqv d e := by
  cases h <;> cases h' <;> first | (unfold PyData.eqv; rfl) | cases f | cases f'
theorem inV_of {H : Hp} {v : V} {d : PyData} (h : Da K H v d) (f : flatD d = true) : ∀ {vs : List V} {ds : List PyData}, DaL K H vs ds → ds.all flatD = true → inV v vs = inD d ds
  | _, _, .nil, _ => rfl
  | _, _, .cons h1 t, f1 => by
    rw [List.all_cons, Bool.and_eq_true] at f1
    unfold inV inD
    rw [List.any_cons, List.any_cons, eqv_of h1 h f1.1 f]
    exact congrArg _ (inV_of h f t f1.2)
def rIn2 (K : PySem.W.Frag) : R2 := fun x y H Q => rInD K x y H Q ∨ rIn K false x y H Q
def rNotIn2 (K : PySem.W.Frag) : R2 := fun x y H Q => rNotInD K x y H Q ∨ rIn K true x y H Q
theorem op_in2 (hu : X.A.units + 65 < cLine) : OpR X (compareOp .In) (rIn2 X.K) := (op_inD hu).or op_in_seq
theorem op_notIn2 (hu : X.A.units + 65 < cLine) : OpR X (compareOp .NotIn) (rNotIn2 X.K) := (op_notInD hu).or op_notIn_seq
theorem Dr.flat {S : Hd} {H : Hp} {v : V} {d : PyData} (h : Dr K S H v d) (f : flatD d = true) : Da K (off S H) v d := by
  rcases h with h | ⟨a, u, rfl, _, h2⟩
  · exact h
  · cases d <;> first | exact h2.elim | cases f
theorem ok_in : OkR K (rIn2 K) (InD false) := fun S H x y dx dy d Q hS ho hx hy k => by
  cases dy with
  | list ds =>
    obtain ⟨rfl, h1, h2⟩ := ho
    rw [Bool.false_xor] at k
    exact .inl ⟨dx, ds, hx.dp (SeqAt.canLay_of_shaped h1), hy.dp (SeqAt.canLay_of_shaped h2), h1, h2, k _ H (.refl H) (.bl _)⟩
  | tuple ds =>
    obtain ⟨rfl, h1, h2⟩ := ho
    obtain ⟨a, vs, rfl, h3, h4⟩ := hy.tuple
    have hx' := hx.flat h1
    rw [Bool.false_xor, ← inV_of hx' h1 h4 h2] at k
    exact .inr ⟨a, vs, rfl, .inr h3, flat_of hx' h1, flats_of h4 h2, k _ H (.refl H) (.bl _)⟩
  | _ => exact ho.elim
theorem ok_notIn : OkR K (rNotIn2 K) (InD true) := fun S H x y dx dy d Q hS ho hx hy k => by
  cases dy with
  | list ds =>
    obtain ⟨rfl, h1, h2⟩ := ho
    rw [Bool.true_xor] at k
    exact .inl ⟨dx, ds, hx.dp (SeqAt.canLay_of_shaped h1), hy.dp (SeqAt.canLay_of_shaped h2), h1, h2, k _ H (.refl H) (.bl _)⟩
  | tuple ds =>
    obtain ⟨rfl, h1, h2⟩ := ho
    obtain ⟨a, vs, rfl, h3, h4⟩ := hy.tuple
    have hx' := hx.flat h1
    rw [Bool.true_xor, ← inV_of hx' h1 h4 h2] at k
    exact .inr ⟨a, vs, rfl, .inr h3, flat_of hx' h1, flats_of h4 h2, k _ H (.refl H) (.bl _)⟩
  | _ => exact ho.elim
/-! ### x[i] -/
def IxD : PyData → PyData → PyData → Prop
  | .list ds, .int i, d => atI ds i = some d
  | .tuple ds, .int i, d => atI ds i = some d
  | .str z, .int i, d => z.length ≤ sizeLine ∧ ∃ c, atI z.cps.toList i = some c ∧ d = .str ⟨#[c]⟩
  | _, _, _ => False
theorem DaL.atI {H : Hp} {vs : List V} {ds : List PyData} {i : Int} {d : PyData} (h : DaL K H vs ds) (e : atI ds i = some d) : ∃ v, L2.atI vs i = some v ∧ Da K H v d := by
  unfold L2.atI at e ⊢
  rw [h.length]
  cases q : ixN ds.length i with
  | none => rw [q] at e; cases e
  | some j =>
    rw [q] at e
    exact h.get e
theorem ok_ix : OkR K (rIx K) IxD := fun S H x y dx dy d Q hS ho hx hy k => by
  cases dy with
  | int i =>
    cases dx with
    | list ds =>
      obtain ⟨a, vs, rfl, h1, h2⟩ := hx.list
      obtain ⟨v, h3, h4⟩ := h2.atI ho
      exact .inl ⟨a, vs, i, v, rfl, hy.int, .of h1, h3, k _ H (.refl H) h4⟩
    | tuple ds =>
      obtain ⟨a, vs, rfl, h1, h2⟩ := hx.tuple
      obtain ⟨v, h3, h4⟩ := h2.atI ho
      exact .inr (.inl ⟨a, vs, i, v, rfl, hy.int, h1, h3, k _ H (.refl H) h4⟩)
    | str z =>
      obtain ⟨hz, c, hc, rfl⟩ := ho
      exact .inr (.inr ⟨z, i, c, hx.str, hy.int, hz, hc, k _ H (.refl H) (.str _)⟩)
    | _ => exact ho.elim
  | _ => cases dx <;> exact ho.elim
/-! ### -x -/
def NegD : PyData → PyData → Prop
  | .int i, d => d = .int (-i)
  | _, _ => False
theorem ok_neg : OkU K (rU fun i => .int (-i)) NegD := fun S H x dx d Q hS ho hx k => by
  cases dx with
  | int i => cases ho; exact ⟨i, hx.int, k _ H (.refl H) (.int _)⟩
  | _ => exact ho.elim
/-! ### slices -/
def cutD (ds : List PyData) (lo hi : Option Int) : List PyData := (ds.drop (HT.sIx ds.length 0 lo)).take (HT.sIx ds.length ds.length hi - HT.sIx ds.length 0 lo)
theorem DaL.cut {H : Hp} {vs : List V} {ds : List PyData} (h : DaL K H vs ds) (lo hi : Option Int) : DaL K H (cutV vs lo hi) (cutD ds lo hi) := by
  unfold cutV cutD
  rw [h.length]
  exact (h.drop _).take _
end
end Dt

/-! Gat5: slices, built-ins. -/
namespace Dt
open PySem L2
section
variable {X : Cx} {K : PySem.W.Frag} {W : WX} {e a b : Expr} {es : List Expr} {pos p p2 : Pos}
theorem Dr.da {S : Hd} {H : Hp} {v : V} {d : PyData} (h : Dr K S H v d) (f : ∀ ds, d ≠ .list ds) (f' : ∀ ds, d ≠ .dict ds) : Da K (off S H) v d := by
  rcases h with h | ⟨a, u, rfl, _, h2⟩
  · exact h
  · cases d with
    | list ds => exact absurd rfl (f ds)
    | dict ds => exact absurd rfl (f' ds)
    | _ => exact h2.elim
/-! ### slices -/
abbrev DO := Gm → (Option Int → Gm → Prop) → Ke → Prop
def tO (K : PySem.W.Frag) (W : WX) (w : DO) : TO := fun σ H Q => ∃ (F : Fm) (S : Hd) (Γ : Gm) (Qd : Option Int → Gm → Prop) (Ed : Ke), En K F S Γ σ H ∧ w Γ Qd Ed ∧
  (∀ o Γ' H', Qd o Γ' → Mv S σ Γ Γ' H H' → En K F S Γ' σ H' → Q o H') ∧ (∀ c Γ' H', Ed c Γ' → En K F S Γ' σ H' → W (.ref (He.ga K c)) none σ H')
def wNone : DO := fun Γ Q _ => Q none Γ
def wPart (w : DE) : DO := fun Γ Q E => w Γ (fun d Γ1 => ∃ i, d = .int i ∧ Q (some i) Γ1) E
theorem poImp {o : Option Expr} {t t' : TO} (h : PO X o t) (i : ∀ σ H Q, t' σ H Q → t σ H Q) : PO X o t' := ⟨fun pins s σ H Q I q => h.run pins s σ H Q I (i σ H Q q)⟩
theorem do_none : PO X none (tO X.K W wNone) := poImp po_none fun σ H Q ⟨F, S, Γ, Qd, Ed, en, hw, k, ke⟩ => k none Γ H hw .refl en
theorem do_some {w : DE} (h : PE X e (tD X.K W w)) : PO X (some e) (tO X.K W (wPart w)) := poImp (po_some h) fun σ H Q ⟨F, S, Γ, Qd, Ed, en, hw, k, ke⟩ => ⟨F, S, Γ, _, Ed, en, hw, fun d Γ1 v H1 ⟨i, ed, q⟩ m1 e1 hv => by
  subst ed
  cases hv
  exact ⟨i, rfl, k (some i) Γ1 H1 q m1 e1⟩, ke⟩
def SlD : PyData → Option Int → Option Int → PyData → Prop
  | .list ds, lo, hi, d => d = .list (cutD ds lo hi)
  | .tuple ds, lo, hi, d => d = .tuple (cutD ds lo hi)
  | .str z, lo, hi, d => z.length ≤ sizeLine ∧ d = .str (cutS z lo hi)
  | _, _, _, _ => False
def rSl3 (K : PySem.W.Frag) : V → Option Int → Option Int → Hp → VK → Prop := fun x lo hi H Q => rSlL K x lo hi H Q ∨ (rSlA K x lo hi H Q ∨ rSlS x lo hi H Q)
theorem sl_3 : SlR X (rSl3 X.K) := sl_list.or (sl_tupA.or sl_str)
theorem cut_whole {ds : List PyData} {lo hi : Option Int} (h : HT.sIx ds.length 0 lo = 0 ∧ HT.sIx ds.length ds.length hi = ds.length) : cutD ds lo hi = ds := by
  unfold cutD
  rw [h.1, h.2, List.drop_zero, Nat.sub_zero, List.take_length]
def wSl (w : DE) (wl wh : DO) : DE := fun Γ Q E => w Γ (fun x Γ1 => wl Γ1 (fun lo Γ2 => wh Γ2 (fun hi Γ3 => ∃ d, SlD x lo hi d ∧ Q d Γ3) E) E) E
theorem de_sl {lo hi : Option Expr} {w : DE} {wl wh : DO} (he : PE X e (tR X.K W w)) (hl : PO X lo (tO X.K W wl)) (hh : PO X hi (tO X.K W wh)) : PE X (.Subscript e (.Slice lo hi none p2) pos) (tD X.K W (wSl w wl wh)) := by
  refine peImp (pe_slice sl_3 he hl hh) fun σ H Q ⟨F, S, Γ, Qd, Ed, en, hw, k, ke⟩ => ⟨F, S, Γ, _, Ed, en, hw, fun x Γ1 v H1 q1 m1 e1 r1 => ⟨F, S, Γ1, _, Ed, e1, q1, fun lo Γ2 H2 q2 m2 e2 => ⟨F, S, Γ2, _, Ed, e2, q2, fun hi Γ3 H3 ⟨d, sd, q⟩ m3 e3 => ?_, ke⟩, ke⟩, ke⟩
  have r3 := (r1.mv (m2.trans m3)).dr e3
  have mm := (m1.trans m2).trans m3
  cases x with
  | list ds =>
    cases sd
    obtain ⟨a, vs, rfl, h1, h2⟩ := r3.list
    exact .inl ⟨a, vs, rfl, .of h1, fun p hp => k _ Γ3 _ _ q (mm.trans (.of e3 (same_new hp))) (e3.same (same_new hp)) (.newL e3.hid hp (h2.cut lo hi))⟩
  | tuple ds =>
    cases sd
    have r4 := r3.da (fun _ z => by cases z) (fun _ z => by cases z)
    obtain ⟨a, vs, rfl, h1, h2⟩ := r3.tuple
    refine .inr (.inl ⟨a, vs, rfl, h1, fun hw => ?_, fun _ p hp => k _ Γ3 _ _ q (mm.trans (.of e3 (same_new hp))) (e3.same (same_new hp)) (.newT e3.hid hp (h2.cut lo hi))⟩)
    rw [h2.length] at hw
    refine k _ Γ3 _ H3 q mm e3 ?_
    rw [cut_whole hw]
    exact r4
  | str z =>
    obtain ⟨hz, rfl⟩ := sd
    exact .inr (.inr ⟨z, r3.str, hz, k _ Γ3 _ H3 q mm e3 (.str _)⟩)
  | _ => exact sd.elim
/-! ### len, all, any, tuple, list, int -/
def LenD : PyData → Nat → Prop
  | .list ds, n => n = ds.length
  | .tuple ds, n => n = ds.length
  | .str z, n => z.length ≤ sizeLine ∧ n = z.length
  | _, _ => False
def LenC (dx : List PyData) (d : PyData) : Prop := ∃ x n, dx = [x] ∧ LenD x n ∧ d = .int n
theorem ok_len : OkC K (fun xs H Q => ∃ x n, xs = [x] ∧ LenV K x H n ∧ Q (.int n) H) LenC := fun S H xs dx d Q hS ho hx k => by
  obtain ⟨x, n, rfl, hl, rfl⟩ := ho
  obtain ⟨v, rfl, hv⟩ := hx.one
  refine ⟨v, n, rfl, ?_, k _ H (.refl H) (.int _)⟩
  cases x with
  | list ds =>
    cases hl
    obtain ⟨a, vs, rfl, h1, h2⟩ := hv.list
    exact .inl ⟨vs, .of h1, h2.length.symm⟩
  | tuple ds =>
    cases hl
    obtain ⟨a, vs, rfl, h1, h2⟩ := hv.tuple
    exact .inr ⟨vs, h1, h2.length.symm⟩
  | str z =>
    rw [hv.str]
    exact hl
  | _ => exact hl.elim
def AllC (dx : List PyData) (d : PyData) : Prop := ∃ bs : List Bool, dx = [.list (bs.map .bool)] ∧ d = .bool (bs.all id)
def AnyC (dx : List PyData) (d : PyData) : Prop := ∃ bs : List Bool, dx = [.list (bs.map .bool)] ∧ d = .bool (bs.any id)
theorem ok_all : OkC K (rAll K) AllC := fun S H xs dx d Q hS ho hx k => by
  obtain ⟨bs, rfl, rfl⟩ := ho
  obtain ⟨v, rfl, hv⟩ := hx.one
  obtain ⟨a, vs, rfl, h1, h2⟩ := hv.list
  rw [h2.bools] at h1
  exact ⟨a, bs, rfl, .of h1, k _ H (.refl H) (.bl _)⟩
theorem ok_any : OkC K (rAny K) AnyC := fun S H xs dx d Q hS ho hx k => by
  obtain ⟨bs, rfl, rfl⟩ := ho
  obtain ⟨v, rfl, hv⟩ := hx.one
  obtain ⟨a, vs, rfl, h1, h2⟩ := hv.list
  rw [h2.bools] at h1
  exact ⟨a, bs, rfl, .of h1, k _ H (.refl H) (.bl _)⟩
def TupC (dx : List PyData) (d : PyData) : Prop := ∃ ds, (dx = [.list ds] ∨ dx = [.tuple ds]) ∧ d = .tuple ds
theorem ok_tuple : OkC K (fun xs H Q => ∃ p ys, xs = [.ref p] ∧ ((SqL K H p ys ∧ ∀ l, H l = none → Q (.ref l) (upd H l (.tup ys))) ∨ (SqT K H p ys ∧ Q (.ref p) H))) TupC := fun S H xs dx d Q hS ho hx k => by
  obtain ⟨ds, h | h, rfl⟩ := ho
  · subst h
    obtain ⟨v, rfl, hv⟩ := hx.one
    obtain ⟨a, vs, rfl, h1, h2⟩ := hv.list
    exact ⟨a, vs, rfl, .inl ⟨.of h1, fun l hl => k _ _ (same_new hl) (.newT hS hl h2)⟩⟩
  · subst h
    obtain ⟨v, rfl, hv⟩ := hx.one
    have hv' := hv.da (fun _ z => by cases z) (fun _ z => by cases z)
    obtain ⟨a, vs, rfl, h1, h2⟩ := hv.tuple
    exact ⟨a, vs, rfl, .inr ⟨h1, k _ H (.refl H) hv'⟩⟩
def LstC (dx : List PyData) (d : PyData) : Prop := ∃ ds, (dx = [.list ds] ∨ dx = [.tuple ds]) ∧ d = .list ds
theorem ok_list : OkC K (fun xs H Q => ∃ p ys, xs = [.ref p] ∧ (SqL K H p ys ∨ SqT K H p ys) ∧ ∀ l, H l = none → Q (.ref l) (upd H l (.lst ys))) LstC := fun S H xs dx d Q hS ho hx k => by
  obtain ⟨ds, h | h, rfl⟩ := ho
  · subst h
    obtain ⟨v, rfl, hv⟩ := hx.one
    obtain ⟨a, vs, rfl, h1, h2⟩ := hv.list
    exact ⟨a, vs, rfl, .inl (.of h1), fun l hl => k _ _ (same_new hl) (.newL hS hl h2)⟩
  · subst h
    obtain ⟨v, rfl, hv⟩ := hx.one
    obtain ⟨a, vs, rfl, h1, h2⟩ := hv.tuple
    exact ⟨a, vs, rfl, .inr h1, fun l hl => k _ _ (same_new hl) (.newL hS hl h2)⟩
def IntC (dx : List PyData) (d : PyData) : Prop := (∃ i, dx = [.int i] ∧ d = .int i) ∨ ∃ b, dx = [.bool b] ∧ d = .int (if b then 1 else 0)
theorem ok_int : OkC K (fun xs H Q => (∃ i, xs = [.int i] ∧ Q (.int i) H) ∨ ∃ k, xs = [.bl k] ∧ Q (.int (if k then 1 else 0)) H) IntC := fun S H xs dx d Q hS ho hx k => by
  rcases ho with ⟨i, rfl, rfl⟩ | ⟨b, rfl, rfl⟩
  · obtain ⟨v, rfl, hv⟩ := hx.one
    exact .inl ⟨i, by rw [hv.int], k _ H (.refl H) (.int _)⟩
  · obtain ⟨v, rfl, hv⟩ := hx.one
    exact .inr ⟨b, by rw [hv.bool], k _ H (.refl H) (.int _)⟩
/-! ### list(range(..)) -/
theorem rg_eq (i j : Int) (H : Hp) : DaL K H (rgV i j) (rngL i j) := by
  unfold rgV rngL
  generalize (j - i).toNat = n
  have h : ∀ l : List Nat, DaL K H (l.map fun (k : Nat) => V.int (i + (k : Int))) (l.map fun (k : Nat) => PyData.int (i + (k : Int))) := fun l => by
    induction l with
    | nil => exact .nil
    | cons x r ih => exact .cons (.int _) ih
  exact h _
def wLrg1 (w : DE) : DE := fun Γ Q E => w Γ (fun d Γ1 => ∃ j, d = .int j ∧ 0 ≤ j ∧ j ≤ 16777216 ∧ Q (.list (rngL 0 j)) Γ1) E
theorem de_lrg1 {w : DE} {p' pos' : Pos} (hc : X.calm = true) (hg : Gl X "list") (hm : X.mg "list" = none) (hg' : Gl X "range") (hm' : X.mg "range" = none) (ha : PE X a (tD X.K W w)) (na : starEach [a] X.env = (false, eval a X.env) :: starEach [] X.env := by rfl)
    (nb : starEach [Expr.Call (.Name "range" p') [a] [] pos'] X.env = (false, eval (Expr.Call (.Name "range" p') [a] [] pos') X.env) :: starEach [] X.env := by rfl) :
    PE X (.Call (.Name "list" p) [.Call (.Name "range" p') [a] [] pos'] [] pos) (tD X.K W (wLrg1 w)) := peImp (pe_listRg hc hg hm (prg_1 hg' hm' ha na) nb) fun σ H Q ⟨F, S, Γ, Qd, Ed, en, hw, k, ke⟩ => ⟨F, S, Γ, _, Ed, en, hw, fun d Γ1 v H1 ⟨j, ed, h1, h2, q⟩ m1 e1 hv => by
  subst ed
  cases hv
  refine ⟨j, rfl, .of_le (by decide) h2 (by decide) h1, fun q' hq => k _ Γ1 _ _ q (m1.trans (.of e1 (same_new hq))) (e1.same (same_new hq)) (.newL e1.hid hq (rg_eq 0 j _))⟩, ke⟩
/-! ### isinstance -/
def tyD : PyData → String
  | .none => "NoneType"
  | .bool _ => "bool"
  | .int _ => "int"
  | .str _ => "str"
  | .list _ => "list"
  | .tuple _ => "tuple"
  | .dict _ => "dict"
/-- an exception as data -/
def isX : PyData → Bool
  | .dict ((.none, _) :: _) => true
  | _ => false
theorem tyx_of {S : Hd} {H : Hp} {v : V} {d : PyData} (h : Dr K S H v d) (hx : isX d = false) : TyX K H v (.type (tyD d)) := by
  rcases h with h | ⟨a, u, rfl, h1, h2⟩
  · cases h with
    | non => exact .base .non
    | bl b => exact .base (.bl b)
    | int i => exact .base (.int i)
    | str x => exact .base (.str x)
    | lst h _ => exact .base (.lst (off_same _ _ h))
    | tup h _ =>
      rcases h with (h | ⟨o, h⟩) | ⟨o, its, n, h1, h2, _⟩
      · exact .base (.tup (off_same _ _ h))
      · exact .fTuple (off_same _ _ h)
      · exact .kTuple h1 h2
    | dic h _ => exact .base (.dK (off_same _ _ h))
    | exc _ _ => cases hx
  · cases d with
    | list ds => obtain ⟨vs, rfl, _⟩ := h2; exact .base (.lst h1)
    | dict ps => obtain ⟨vs, rfl, _⟩ := h2; exact .base (.dK h1)
    | _ => exact h2.elim
theorem exc_of {S : Hd} {H : Hp} {v : V} {d : PyData} (h : Dr K S H v d) (hx : isX d = true) : ∃ a c, v = .ref a ∧ d = excD c ∧ H a = some (ExK K c a) ∧ XcK K c := by
  rcases h with h | ⟨a, u, rfl, h1, h2⟩
  · cases h with
    | exc h1 h2 => exact ⟨_, _, rfl, rfl, off_same _ _ h1, h2⟩
    | dic h1 h2 =>
      cases h2 with
      | nil => cases hx
      | @cons k _ _ _ _ _ _ => cases k <;> cases hx
    | _ => cases hx
  · cases d with
    | dict ps =>
      obtain ⟨vs, rfl, h2⟩ := h2
      cases h2 with
      | nil => cases hx
      | @cons k _ _ _ _ _ _ => cases k <;> cases hx
    | _ => cases hx
/-- isinstance of an exception that is held -/
def rIsK (K : PySem.W.Frag) : List V → Hp → VK → Prop := fun xs H Q => ∃ (a : Addr) (cl : Str) (c : V) (cv : Value) (b : Bool), xs = [.ref a, c] ∧ H a = some (ExK K cl a) ∧ ExcC K (He.ga K cl) ∧ (∀ u, RelV c u → u = cv) ∧ PySem.W.kitOne K (.ref (He.ga K cl)) cv = some b ∧ Q (.bl b) H
theorem call_isK : CallR X (.builtin "isinstance") (rIsK X.K) := by
  intro pins s σ H xs us Q I r h
  obtain ⟨a, cl, c, cv, b, rfl, ha, C, hcv, e, q⟩ := h
  cases r with
  | cons rx rr =>
    cases rr with
    | cons rt rr =>
      cases rr
      cases rx
      have ec := hcv _ rt
      subst ec
      obtain ⟨⟨oe, vs, hget, hz, hv⟩, _, _⟩ := I.hok a _ ha
      have J : PySem.W.InstAt s.heap a oe (He.ga X.K cl) none := by
        obtain ⟨oc, od, oda, osl⟩ := oe
        obtain ⟨h1, h2⟩ := hz
        dsimp only at h1 h2 hv
        subst h1 h2 hv
        exact ⟨hget, rfl, rfl, trivial⟩
      exact PySem.W.kia_one (PySem.W.handS_kitx_exc C.hg C.hk C.hs C.hd C.ha C.hn C.ht C.hm) I.kIn J e (fun z => nomatch z) fun tk => ⟨.bl b, H, I.kept (t' := tk) fun _ _ z => z, rfl, q⟩
def wIsi (f : PyData → Bool) (w : DE) : DE := fun Γ Q E => w Γ (fun d Γ1 => Q (.bool (f d)) Γ1) E
theorem de_isi {T : String} {f : PyData → Bool} {w : DE} {x : Str} {pt : Pos} (hf : ∀ d, isX d = false → kitB (tyD d) T = some (f d)) (hfx : ∀ c, f (excD c) = false) (hTm : T ∈ ["int", "bool", "tuple", "list", "str", "dict"]) (hg : Gl X "isinstance") (hm : X.mg "isinstance" = none) (ha : PE X a (tR X.K W w)) (hT : PE X (.Name x pt) (tC (.ty T)))
    (h1 : starEach [a, Expr.Name x pt] X.env = (false, eval a X.env) :: starEach [Expr.Name x pt] X.env := by rfl) (h2 : starEach [Expr.Name x pt] X.env = (false, eval (Expr.Name x pt) X.env) :: starEach [] X.env := by rfl)
    (hpl : (backTo pos (starEach [Expr.Name x pt] X.env)).any (·.1) = false := by rfl) :
    PE X (.Call (.Name "isinstance" p) [a, .Name x pt] [] pos) (tD X.K W (wIsi f w)) :=
  peImp (pe_callB (call_isi.or call_isK) hg hm (by decide +kernel) (pa_cons ha (pa_cons hT pa_nil h2) h1) (by decide) (by decide) h1 hpl) fun σ H Q ⟨F, S, Γ, Qd, Ed, en, hw, k, ke⟩ => ⟨F, S, Γ, _, Ed, en, hw, fun d Γ1 v H1 q m1 e1 hv => by
    cases hx : isX d with
    | false => exact .inl ⟨v, .ty T, _, _, f d, rfl, .ty T, tyx_of (hv.dr e1) hx, kit_ty (hf d hx), k _ Γ1 _ H1 q m1 e1 (.bl _)⟩
    | true =>
      obtain ⟨a, c, rfl, rfl, h1, h2⟩ := exc_of (hv.dr e1) hx
      have q := k _ Γ1 _ H1 q m1 e1 (.bl _)
      rw [hfx c] at q
      exact .inr ⟨a, c, .ty T, .type T, false, rfl, h1, h2.ex, fun u hu => hu, h2.kit T hTm, q⟩, ke⟩
def isInt : PyData → Bool
  | .int _ => true
  | .bool _ => true
  | _ => false
def isBool : PyData → Bool
  | .bool _ => true
  | _ => false
def isTup : PyData → Bool
  | .tuple _ => true
  | _ => false
def isLst : PyData → Bool
  | .list _ => true
  | _ => false
def isStr : PyData → Bool
  | .str _ => true
  | _ => false
def isDct : PyData → Bool
  | .dict ((.none, _) :: _) => false
  | .dict _ => true
  | _ => false
theorem kit_int (d : PyData) (_ : isX d = false) : kitB (tyD d) "int" = some (isInt d) := by
  cases d with
  | none => exact (by decide +kernel : kitB "NoneType" "int" = some false)
  | bool _ => exact (by decide +kernel : kitB "bool" "int" = some true)
  | int _ => exact (by decide +kernel : kitB "int" "int" = some true)
  | str _ => exact (by decide +kernel : kitB "str" "int" = some false)
  | list _ => exact (by decide +kernel : kitB "list" "int" = some false)
  | tuple _ => exact (by decide +kernel : kitB "tuple" "int" = some false)
  | dict _ => exact (by decide +kernel : kitB "dict" "int" = some false)
theorem kit_bool (d : PyData) (_ : isX d = false) : kitB (tyD d) "bool" = some (isBool d) := by
  cases d with
  | none => exact (by decide +kernel : kitB "NoneType" "bool" = some false)
  | bool _ => exact (by decide +kernel : kitB "bool" "bool" = some true)
  | int _ => exact (by decide +kernel : kitB "int" "bool" = some false)
  | str _ => exact (by decide +kernel : kitB "str" "bool" = some false)
  | list _ => exact (by decide +kernel : kitB "list" "bool" = some false)
  | tuple _ => exact (by decide +kernel : kitB "tuple" "bool" = some false)
  | dict _ => exact (by decide +kernel : kitB "dict" "bool" = some false)
theorem kit_tup (d : PyData) (_ : isX d = false) : kitB (tyD d) "tuple" = some (isTup d) := by
  cases d with
  | none => exact (by decide +kernel : kitB "NoneType" "tuple" = some false)
  | bool _ => exact (by decide +kernel : kitB "bool" "tuple" = some false)
  | int _ => exact (by decide +kernel : kitB "int" "tuple" = some false)
  | str _ => exact (by decide +kernel : kitB "str" "tuple" = some false)
  | list _ => exact (by decide +kernel : kitB "list" "tuple" = some false)
  | tuple _ => exact (by decide +kernel : kitB "tuple" "tuple" = some true)
  | dict _ => exact (by decide +kernel : kitB "dict" "tuple" = some false)
theorem kit_lst (d : PyData) (_ : isX d = false) : kitB (tyD d) "list" = some (isLst d) := by
  cases d with
  | none => exact (by decide +kernel : kitB "NoneType" "list" = some false)
  | bool _ => exact (by decide +kernel : kitB "bool" "list" = some false)
  | int _ => exact (by decide +kernel : kitB "int" "list" = some false)
  | str _ => exact (by decide +kernel : kitB "str" "list" = some false)
  | list _ => exact (by decide +kernel : kitB "list" "list" = some true)
  | tuple _ => exact (by decide +kernel : kitB "tuple" "list" = some false)
  | dict _ => exact (by decide +kernel : kitB "dict" "list" = some false)
theorem kit_str (d : PyData) (_ : isX d = false) : kitB (tyD d) "str" = some (isStr d) := by
  cases d with
  | none => exact (by decide +kernel : kitB "NoneType" "str" = some false)
  | bool _ => exact (by decide +kernel : kitB "bool" "str" = some false)
  | int _ => exact (by decide +kernel : kitB "int" "str" = some false)
  | str _ => exact (by decide +kernel : kitB "str" "str" = some true)
  | list _ => exact (by decide +kernel : kitB "list" "str" = some false)
  | tuple _ => exact (by decide +kernel : kitB "tuple" "str" = some false)
  | dict _ => exact (by decide +kernel : kitB "dict" "str" = some false)
theorem kit_dct (d : PyData) (hx : isX d = false) : kitB (tyD d) "dict" = some (isDct d) := by
  cases d with
  | none => exact (by decide +kernel : kitB "NoneType" "dict" = some false)
  | bool _ => exact (by decide +kernel : kitB "bool" "dict" = some false)
  | int _ => exact (by decide +kernel : kitB "int" "dict" = some false)
  | str _ => exact (by decide +kernel : kitB "str" "dict" = some false)
  | list _ => exact (by decide +kernel : kitB "list" "dict" = some false)
  | tuple _ => exact (by decide +kernel : kitB "tuple" "dict" = some false)
  | dict ps =>
    have e : isDct (.dict ps) = true := by
      cases ps with
      | nil => rfl
      | cons p r =>
        obtain ⟨k, v⟩ := p
        cases k <;> first | rfl | cases hx
    rw [e]
    exact (by decide +kernel : kitB "dict" "dict" = some true)
end
end Dt

/-! Gat6: defs by name; loops and comprehensions, used. -/
namespace Dt
open PySem L2
/-- the module's def x keeps sp -/
def Fok (P : Program) (w : World) (K : PySem.W.Frag) (mg : Str → Option Value) (base : Heap) (x : Str) (k : Nat) (ps : List Str) (sp : Sp) : Prop :=
  ∃ fd, FnOk P w K mg base (L2.CX P w) k (He.ga K x) fd ps sp ∧ Binds K fd ps [] ∧ PySem.W.keepIn K (.ref (He.ga K x)) = true ∧ mg x = some (.ref (He.ga K x))
theorem hu65 {A : Around} {k : Nat} (hr : Room k A) : A.units + 65 < cLine := by have := hr.un; omega
section
variable {X : Cx} {W : WX} {e a b c : Expr} {es : List Expr} {pos p : Pos} {k : Nat} {ps : List Str} {x : Str}
theorem de_fok {j : Nat} {sp : DSp} {ws : DL} (h : Fok X.prog X.w X.K X.mg X.base x k ps (spD X.K sp)) (hr : Room j X.A) (hj : k ≤ j) (hg : Gl X x) (tk : Takes X W)
    (ha : PA X (e :: es) (tL X.K W ws)) (hdb : (x == ("__debug__" : Str)) = false := by decide) (he : starEach (e :: es) X.env = (false, eval e X.env) :: starEach es X.env := by rfl) (hpl : (backTo pos (starEach es X.env)).any (·.1) = false := by rfl) :
    PE X (.Call (.Name x p) (e :: es) [] pos) (tD X.K W (wFn sp ws)) := by
  obtain ⟨fd, F, hb, hk, hm⟩ := h
  exact de_fn F (hr.mono hj) hg hm hk hb tk ha hdb he hpl
theorem de_fokT {j : Nat} {sp : TSp} {ws : DL} {is it : Nat} {xs xt : Str} {p1 p2 : Pos} (h : Fok X.prog X.w X.K X.mg X.base x k ps (spT X.K sp)) (hr : Room j X.A) (hj : k ≤ j) (hg : Gl X x) (tk : Takes X W)
    (hs : PE X (.Name xs p1) (tVar is)) (ht : PE X (.Name xt p2) (tVar it)) (ha : PA X es (tL X.K W ws)) (hdb : (x == ("__debug__" : Str)) = false := by decide)
    (h1 : starEach (Expr.Name xs p1 :: Expr.Name xt p2 :: es) X.env = (false, eval (Expr.Name xs p1) X.env) :: starEach (Expr.Name xt p2 :: es) X.env := by rfl)
    (h2 : starEach (Expr.Name xt p2 :: es) X.env = (false, eval (Expr.Name xt p2) X.env) :: starEach es X.env := by rfl)
    (hpl : (backTo pos (starEach (Expr.Name xt p2 :: es) X.env)).any (·.1) = false := by rfl) :
    PE X (.Call (.Name x p) (.Name xs p1 :: .Name xt p2 :: es) [] pos) (tD X.K W (wFnT is it sp ws)) := by
  obtain ⟨fd, F, hb, hk, hm⟩ := h
  exact de_fnT F (hr.mono hj) hg hm hk hb tk hs ht ha hdb h1 h2 hpl
/-! ### the module's constants -/
theorem de_gi {i : Int} (h : ∃ t, X.mg x = some (.int i t)) (hg : Gl X x := by rfl) (hd : (x == ("__debug__" : Str)) = false := by decide) : PE X (.Name x pos) (tD X.K W (wC (.int i))) := by
  obtain ⟨t, h⟩ := h
  exact de_c (pe_glob (v := .int i) hg h ⟨t, rfl⟩ hd) fun _ => .int i
theorem de_gr {a : Addr} {d : PyData} (h : X.mg x = some (.ref a) ∧ ∀ H, Da X.K H (.ref a) d) (hg : Gl X x := by rfl) (hd : (x == ("__debug__" : Str)) = false := by decide) : PE X (.Name x pos) (tD X.K W (wC d)) :=
  de_c (pe_glob (v := .ref a) hg h.1 rfl hd) h.2
/-! ### raise -/
theorem ds_raiseX {R : Rm X.K} {m : Str} {j : Nat} {p' p2 pos2 : Pos} (hc : X.calm = true) (tk : Takes X W) (hx : PySem.W.excIn X.K (He.ga X.K x) He.veBase "ValueError.__new__" = true ∧ PySem.W.keepIn X.K (.ref (He.ga X.K x)) = true ∧ PySem.W.subIn X.K (.ref (He.ga X.K x)) (.type "BaseException") = some true ∧
    PySem.W.typeIn X.K (.ref (He.ga X.K x)) = some (.type "type")) (hm : X.mg x = some (.ref (He.ga X.K x))) (hg : Gl X x) (hdb : (x == ("__debug__" : Str)) = false := by decide) :
    PS X (.Raise (some (.Call (.Name x p') [.Constant (.str m) j p2] [] pos2)) none pos) (tSR R W (wRaise x)) :=
  ds_raise hc tk (pmk_own PySem.F.excBase_ValueError hx.1 hm hx.2.1 (raises_own hx.2.2.1 hx.2.2.2) hg hdb)
end
theorem bt_len : bootBuiltins "len" = some (.builtin "len") := by decide +kernel
theorem bt_all : bootBuiltins "all" = some (.builtin "all") := by decide +kernel
theorem bt_any : bootBuiltins "any" = some (.builtin "any") := by decide +kernel
theorem bt_tuple : bootBuiltins "tuple" = some (.type "tuple") := by decide +kernel
theorem bt_list : bootBuiltins "list" = some (.type "list") := by decide +kernel
theorem bt_int : bootBuiltins "int" = some (.type "int") := by decide +kernel
theorem bt_bool : bootBuiltins "bool" = some (.type "bool") := by decide +kernel
theorem bt_str : bootBuiltins "str" = some (.type "str") := by decide +kernel
theorem bt_dict : bootBuiltins "dict" = some (.type "dict") := by decide +kernel
/-! ### comprehensions and loops over plain lists -/
section
variable {α : Type} {Γ : Gm}
theorem lc_all {st : LStep} (enc : α → PyData) (f : α → PyData) {k : List PyData → Gm → Prop} : ∀ (l : List α) (acc : List PyData), (∀ x ∈ l, ∀ k' : Option PyData → Gm → Prop, k' (some (f x)) Γ → st (enc x) Γ k') → k (acc ++ l.map f) Γ → lcW st (l.map enc) acc Γ k
  | [], acc, _, h => by rw [List.map_nil, List.append_nil] at h; exact h
  | x :: l, acc, hs, h => hs x List.mem_cons_self _ (lc_all enc f l (acc ++ [f x]) (fun y hy => hs y (List.mem_cons_of_mem _ hy)) (by rw [List.append_assoc]; exact h))
theorem lc_if {st : LStep} (enc : α → PyData) (q : α → Bool) (f : α → PyData) {k : List PyData → Gm → Prop} : ∀ (l : List α) (acc : List PyData), (∀ x ∈ l, ∀ k' : Option PyData → Gm → Prop, k' (if q x = true then some (f x) else none) Γ → st (enc x) Γ k') → k (acc ++ (l.filter q).map f) Γ → lcW st (l.map enc) acc Γ k
  | [], acc, _, h => by rw [List.filter_nil, List.map_nil, List.append_nil] at h; exact h
  | x :: l, acc, hs, h => by
    refine hs x List.mem_cons_self _ ?_
    by_cases e : q x = true
    · rw [if_pos e]
      refine lc_if enc q f l (acc ++ [f x]) (fun y hy => hs y (List.mem_cons_of_mem _ hy)) ?_
      rw [List.filter_cons_of_pos e, List.map_cons] at h
      rw [List.append_assoc]
      exact h
    · rw [if_neg e]
      show lcW st (l.map enc) (acc ++ []) Γ k
      rw [List.append_nil]
      refine lc_if enc q f l acc (fun y hy => hs y (List.mem_cons_of_mem _ hy)) ?_
      rw [List.filter_cons_of_neg e] at h
      exact h
theorem for_inv {gd : DG} {body : DS} (enc : α → PyData) {k : Out → Gm → Prop} (l : List α) (I : List α → Gm → Prop)
    (hs : ∀ pre x post Γ, l = pre ++ x :: post → I pre Γ → ∀ next : DS, (∀ Γ', I (pre ++ [x]) Γ' → next Γ' k) → gd (enc x) Γ (fun Γa => body Γa (forK next k))) (hd : ∀ Γ, I l Γ → k .nx Γ) (h0 : I [] Γ) : forW gd body (l.map enc) Γ k := by
  have key : ∀ (post pre : List α) (Γ : Gm), l = pre ++ post → I pre Γ → forW gd body (post.map enc) Γ k := by
    intro post
    induction post with
    | nil =>
      intro pre Γ e i
      rw [List.append_nil] at e
      subst e
      exact hd Γ i
    | cons x r ih =>
      intro pre Γ e i
      exact hs pre x r Γ e i _ fun Γ' i' => ih (pre ++ [x]) Γ' (by rw [List.append_assoc]; exact e) i'
  exact key l [] Γ rfl h0
end
theorem rngL_nat (n : Nat) : rngL 0 (n : Int) = (List.range n).map fun (i : Nat) => PyData.int (i : Int) := by
  unfold rngL
  rw [Int.sub_zero, Int.toNat_natCast]
  exact List.map_congr_left fun i _ => by rw [Int.zero_add]
end Dt
namespace Dt
open PySem L2
section
variable {P : Program} {w : World} {K : PySem.W.Frag} {mg : Str → Option Value} {base : Heap} {x : Str} {params : Arguments} {body : List Stmt} {scope : Scope}
abbrev DefAt (K : PySem.W.Frag) (x : Str) (st : Stmt) : Prop := ∃ fd, FunD K x x (defArgs st) (defBody st) (defScope st) [] [] (He.ga K x) fd
/-- how n plain parameters bind -/
abbrev BindsOk (x : Str) (st : Stmt) (ps : List Str) : Prop := ∀ (kV doc pm : Value) (an : Option Addr) (cdv ct : Value) (us : List Value), us.length = ps.length → bindArgs (PySem.W.fnOf x x (defArgs st) (defBody st) (defScope st) .none kV doc pm an cdv ct) ⟨us, []⟩ = pure (ps.zip us)
theorem fok_of {st : Stmt} {N ps : List Str} {k : Nat} {sp : DSp} (hD : DefAt K x st) (hm : mg x = some (.ref (He.ga K x))) (bd : BindsOk x st ps) (Sc : FnScope N ps (defScope st)) (len : ∀ ds Q E, sp ds Q E → ds.length = ps.length) (wb : DS)
    (hb : ∀ (cdv : Value) (A : Around) (outer : List Env) (s : Shared) (H : Hp) (E : XK), Room k (A.deeper (PyProof.Rows.envOfC x (defScope st) s.heap.objs.size (He.ga K x) cdv)) → PSs (bX P w K mg base N x (defScope st) (He.ga K x) cdv A outer s H E) (defBody st) (tS K (Wd E) wb))
    (hd : ∀ ds Q E, sp ds Q E → wb (startG N ds) (endO Q E)) : Fok P w K mg base x (k + 1) ps (spD K sp) := by
  obtain ⟨fd, F⟩ := hD
  exact ⟨fd, fn_ok F Sc len wb hb hd, F.bindsN bd, F.kp, hm⟩
end
end Dt

/-! Gat7: defs that draw; the law itself. -/
namespace Dt
open PySem L2
def startT (N : List Str) (n : Nat) (ds : List PyData) : Gm := Sl.scr :: Sl.twn n :: (ds.map Sl.dat ++ List.replicate (N.length - (ds.length + 2)) Sl.no)
def endT (Q : PyData → Nat → Prop) : Out → Gm → Prop
  | .nx => fun Γ => ∃ n, Γ[1]? = some (Sl.twn n) ∧ Q .none n
  | .rt d => fun Γ => ∃ n, Γ[1]? = some (Sl.twn n) ∧ Q d n
  | _ => fun _ => False
theorem startT_eq {N : List Str} {n : Nat} {ds : List PyData} {i : Nat} {s : Sl} (q : (startT N n ds)[i + 2]? = some s) : (ds.map Sl.dat ++ List.replicate (N.length - (ds.length + 2)) Sl.no)[i]? = some s := q
theorem en_startT {K : PySem.W.Frag} {S : Hd} {H : Hp} {vs : List V} {ds : List PyData} {v0 : V} {t : Addr} {us : List V} {n : Nat} (hS : Hid S H) (ht : S t) (hu : H t = some (.lst us)) (hl : us.length ≤ n) (h0 : Scr K (off S H) v0) (h : DaL K (off S H) vs ds) (N : List Str) :
    En K ⟨H, S, fun b => b = t, some t⟩ S (startT N n ds) (L2.start N (v0 :: .ref t :: vs)) H := by
  have hlen := h.length
  have e2 : L2.start N (v0 :: .ref t :: vs) = some v0 :: some (.ref t) :: (vs.map some ++ List.replicate (N.length - (vs.length + 2)) none) := rfl
  refine ⟨fun b z => ⟨z, hS b z⟩, fun b z => by rw [show b = t from z]; exact ht, fun b z => .inl z, hS, fun b o _ q => q, ?_, fun i s q => ?_, fun i j s s' o o' a hij q1 q2 m1 m2 r1 => ?_⟩
  · rw [e2]
    unfold startT
    simp only [List.length_cons, List.length_append, List.length_map, List.length_replicate]
    omega
  · rw [e2]
    match i, q with
    | 0, q => cases q; exact ⟨_, rfl, v0, rfl, h0⟩
    | 1, q => cases q; exact ⟨_, rfl, t, us, rfl, ht, .inl ⟨rfl, rfl⟩, hu, hl⟩
    | i + 2, q =>
      have q := startT_eq q
      show ∃ o, (vs.map some ++ List.replicate (N.length - (vs.length + 2)) none)[i]? = some o ∧ _
      by_cases hi : i < ds.length
      · rw [List.getElem?_append_left (by rw [List.length_map]; exact hi), List.getElem?_map, List.getElem?_eq_getElem hi] at q
        cases q
        obtain ⟨v, h1, h2⟩ := h.get (List.getElem?_eq_getElem hi)
        refine ⟨some v, ?_, v, rfl, h2⟩
        rw [List.getElem?_append_left (by rw [List.length_map]; omega), List.getElem?_map, h1]
        rfl
      · rw [List.getElem?_append_right (by rw [List.length_map]; omega), List.getElem?_replicate] at q
        split at q
        · rename_i hlt
          cases q
          refine ⟨none, ?_, trivial⟩
          rw [List.getElem?_append_right (by rw [List.length_map]; omega), List.getElem?_replicate, if_pos (by rw [List.length_map] at hlt ⊢; omega)]
        · cases q
  · have g : ∀ (m : Nat) (s : Sl), (startT N n ds)[m]? = some s → s.mut = true → m = 1 := fun m s q ms => by
      match m, q with
      | 0, q => cases q; cases ms
      | 1, q => rfl
      | i + 2, q =>
        have q := startT_eq q
        by_cases hi : i < ds.length
        · rw [List.getElem?_append_left (by rw [List.length_map]; exact hi), List.getElem?_map, List.getElem?_eq_getElem hi] at q
          cases q
          cases ms
        · rw [List.getElem?_append_right (by rw [List.length_map]; omega), List.getElem?_replicate] at q
          split at q
          · cases q; cases ms
          · cases q
    exact absurd ((g i s q1 m1).trans (g j s' q2 m2).symm) hij
section
variable {P : Program} {w : World} {K : PySem.W.Frag} {mg : Str → Option Value} {base : Heap} {x : Str}
theorem fokT_of {st : Stmt} {N ps : List Str} {k : Nat} {sp : TSp} (hD : DefAt K x st) (hm : mg x = some (.ref (He.ga K x))) (bd : BindsOk x st ps) (Sc : FnScope N ps (defScope st)) (len : ∀ n ds Q, sp n ds Q → ds.length + 2 = ps.length) (wb : DS)
    (hb : ∀ (cdv : Value) (A : Around) (outer : List Env) (s : Shared) (H : Hp) (E : XK), Room k (A.deeper (PyProof.Rows.envOfC x (defScope st) s.heap.objs.size (He.ga K x) cdv)) → PSs (bX P w K mg base N x (defScope st) (He.ga K x) cdv A outer s H E) (defBody st) (tS K (Wd E) wb))
    (hd : ∀ n ds Q, sp n ds Q → wb (startT N n ds) (endT Q)) : Fok P w K mg base x (k + 1) ps (spT K sp) := by
  obtain ⟨fd, F⟩ := hD
  refine ⟨fd, F.ok Sc (fun vs H Q E ⟨S, t, us, n, v0, vs', ds, Qd, _, _, _, _, e, _, hv, h, _⟩ => ?_) fun cdv A outer s H vs Q E hr h => ⟨_, hb cdv A outer s H E hr, ?_⟩, F.bindsN bd, F.kp, hm⟩
  · rw [e]
    have := hv.length
    have := len n ds Qd h
    simp only [List.length_cons]
    omega
  · obtain ⟨S, t, us, n, v0, vs', ds, Qd, hS, ht, hu, hl, rfl, h0, hv, h, kq⟩ := h
    refine ⟨⟨H, S, fun b => b = t, some t⟩, S, startT N n ds, _, en_startT hS ht hu hl h0 hv N, hd n ds Qd h, fun o Γ' S' σ' H' q e' => ?_⟩
    have fi : ∀ {d : PyData} {v : V}, (∃ n, Γ'[1]? = some (Sl.twn n) ∧ Qd d n) → Da K (off S' H') v d → Q v H' := fun {d v} z hv' => by
      obtain ⟨n', g, q⟩ := z
      obtain ⟨o, _, a, us', _, _, c, hu', hl'⟩ := e'.slot 1 _ g
      have ea : a = t := by
        rcases c with c | ⟨_, c⟩
        · exact c.2
        · cases c
      subst ea
      exact kq d n' v H' us' q (fun b u nb hb => e'.base b u nb hb) hu' hl' (hv'.mono (off_sub fun b y => (e'.sub b y).1))
    cases o with
    | nx => exact fi q .non
    | rt d => exact fun v hv' => fi q hv'
    | ex c => exact q.elim
    | bk => exact q.elim
    | ct => exact q.elim
end
/-! ### x, y = a, b -/
section
variable {X : Cx} {W : WX} {e : Expr} {pos : Pos} {st : Stmt}
def wPar (i j : Nat) (ws : DL) : DS := fun Γ k => ws Γ (fun ds Γ1 => ∃ d e, ds = [d, e] ∧ k .nx ((Γ1.set i (.dat d)).set j (.dat e))) (fun c Γ1 => k (.ex c) Γ1)
theorem ds_par {i j : Nat} {ws : DL} (h : PS X st (tPar i j (tL X.K W ws))) : PS X st (tS X.K W (wPar i j ws)) := psImp h fun D σ H ⟨F, S, Γ, Qd, en, hw, k⟩ => ⟨F, S, Γ, _, _, en, hw, fun ds Γ' vs H' ⟨d, e, ed, q⟩ m en' hv => by
  subst ed
  obtain ⟨v, u, rfl, h1, h2⟩ := hv.two
  exact ⟨v, u, rfl, k .nx _ S _ H' q ((en'.set i h1).set j h2)⟩, fun c Γ' H' q en' => k (.ex c) Γ' S σ H' q en'⟩
end
/-! ### the law -/
def spLaw (K : PySem.W.Frag) : Sp := fun vs H Q _ => ∃ (a : Addr) (ns : List Int), vs = [.ref a] ∧ SqL K H a (ns.map V.int) ∧ ∀ H', Q (.bl true) H'
def endL : Out → Gm → Prop
  | .rt d => fun _ => d = .bool true
  | _ => fun _ => False
section
variable {P : Program} {w : World} {K : PySem.W.Frag} {mg : Str → Option Value} {base : Heap}
abbrev lX (P : Program) (w : World) (K : PySem.W.Frag) (mg : Str → Option Value) (base : Heap) (N : List Str) (scope : Scope) (f : Addr) (cdv : Value) (A : Around) (outer : List Env) (s : Shared) (H : Hp) (E : XK) : Cx := (cxOf CX0 P w K mg base N "law" scope f cdv A outer s H E).nox
theorem fn_law {st st0 : Stmt} {rest : List Stmt} {N : List Str} {k : Nat} {f : Addr} {fd : FuncData} (F : FunD K "law" "law" (defArgs st) (defBody st) (defScope st) [] [] f fd) (Sc : FnScope N ["script"] (defScope st)) (wb : DS) (eb : defBody st = st0 :: rest)
    (hσ : ∀ u v : V, (L2.start N [u]).set 1 (some v) = L2.start N [u, v])
    (h0 : ∀ (cdv : Value) (A : Around) (outer : List Env) (s : Shared) (H : Hp) (E : XK), PS (lX P w K mg base N (defScope st) f cdv A outer s H E) st0 (tAsg (tLst tNil) (gName 1)))
    (hb : ∀ (cdv : Value) (A : Around) (outer : List Env) (s : Shared) (H : Hp) (E : XK), Room k (A.deeper (PyProof.Rows.envOfC "law" (defScope st) s.heap.objs.size f cdv)) → PSs (lX P w K mg base N (defScope st) f cdv A outer s H E) rest (tS K W0 wb))
    (hd : wb (startT N 0 []) endL) : FnOk P w K mg base CX0 (k + 1) f fd ["script"] (spLaw K) := by
  refine F.ok Sc (fun vs H Q E ⟨a, ns, e, _⟩ => by rw [e]; rfl) fun cdv A outer s H vs Q E hr h => ⟨tSeq (tAsg (tLst tNil) (gName 1)) (tS K W0 wb), ?_, ?_⟩
  · rw [eb]
    exact PSs.nox (pss_cons (h0 cdv A outer s H E) (hb cdv A outer s H E hr))
  · obtain ⟨a, ns, rfl, hS, kq⟩ := h
    refine ⟨Nat.zero_le _, fun p hp => ?_⟩
    show tS K W0 wb _ ((L2.start N [.ref a]).set 1 (some (.ref p))) (upd H p (.lst []))
    rw [hσ]
    have hid : Hid (fun b => b = p) (upd H p (.lst [])) := fun b z q => by
      rw [show b = p from z, upd_same] at q
      cases q
    have sq : Scr K (off (fun b => b = p) (upd H p (.lst []))) (.ref a) := by
      refine ⟨a, ns, rfl, ?_⟩
      have mv : ∀ o, H a = some o → off (fun b => b = p) (upd H p (.lst [])) a = some o := fun o q => by
        have ne := ne_of_none q hp
        rw [off_in (S := fun b => b = p) ne, upd_ne ne]
        exact q
      rcases hS with (h | ⟨o, h⟩) | h
      · exact .inl (.inl (mv _ h))
      · exact .inl (.inr ⟨o, mv _ h⟩)
      · exact .inr h
    refine ⟨_, _, startT N 0 [], _, en_startT (us := []) hid rfl upd_same (Nat.le_refl _) sq .nil N, hd, fun o Γ' S' σ' H' q e' => ?_⟩
    cases o with
    | rt d =>
      intro v hv
      rw [show d = .bool true from q] at hv
      cases hv
      exact kq H'
    | nx => exact q.elim
    | ex c => exact q.elim
    | bk => exact q.elim
    | ct => exact q.elim
end
end Dt

/-! Gat8: dicts over data. -/
namespace Dt
open PySem L2
def keyEq : PyData → Key → Bool
  | .int i, .inl j => decide (i = j)
  | .str x, .inr y => decide (x = y)
  | _, _ => false
def dget : List (PyData × PyData) → Key → Option PyData
  | [], _ => none
  | (p, d) :: r, k => if keyEq p k = true then some d else dget r k
theorem keyEq_kd (a b : Key) : keyEq (kd a) b = decide (a = b) := by
  cases a with
  | inl i => cases b with
    | inl j => show decide (i = j) = _; by_cases h : i = j <;> simp [h]
    | inr y => rfl
  | inr x => cases b with
    | inl j => rfl
    | inr y => show decide (x = y) = _; by_cases h : x = y <;> simp [h]
theorem DaD.val {K : PySem.W.Frag} {H : Hp} (k : Key) : ∀ {kvs : List (Key × V)} {ps : List (PyData × PyData)}, DaD K H kvs ps → (∀ d, dget ps k = some d → ∃ v, valV kvs k = some v ∧ Da K H v d) ∧ (dget ps k = none → valV kvs k = none)
  | _, _, .nil => ⟨fun d h => (by cases h), fun _ => rfl⟩
  | _, _, .cons (k := k0) (v := v0) h t => by
    obtain ⟨i1, i2⟩ := DaD.val k t
    by_cases e : k0 = k
    · constructor
      · intro d hd
        unfold dget at hd
        rw [keyEq_kd, decide_eq_true e, if_pos rfl] at hd
        cases hd
        exact ⟨v0, valV_pos e, h⟩
      · intro hd
        unfold dget at hd
        rw [keyEq_kd, decide_eq_true e, if_pos rfl] at hd
        cases hd
    · constructor
      · intro d hd
        unfold dget at hd
        rw [keyEq_kd, decide_eq_false e, if_neg Bool.false_ne_true] at hd
        rw [valV_neg (p := (k0, v0)) e]
        exact i1 d hd
      · intro hd
        unfold dget at hd
        rw [keyEq_kd, decide_eq_false e, if_neg Bool.false_ne_true] at hd
        rw [valV_neg (p := (k0, v0)) e]
        exact i2 hd
theorem Dr.dict {K : PySem.W.Frag} {S : Hd} {H : Hp} {v : V} {ps : List (PyData × PyData)} (h : Dr K S H v (.dict ps)) (hx : isX (.dict ps) = false) : ∃ a kvs, v = .ref a ∧ H a = some (.dK kvs) ∧ DaD K (off S H) kvs ps := by
  rcases h with h | ⟨a, u, rfl, h1, kvs, rfl, h2⟩
  · cases h with
    | dic h1 h2 => exact ⟨_, _, rfl, off_same _ _ h1, h2⟩
    | exc _ _ => cases hx
  · exact ⟨a, kvs, rfl, h1, h2⟩
theorem key_v {K : PySem.W.Frag} {S : Hd} {H : Hp} {v : V} {k : Key} (h : Dr K S H v (kd k)) : v = kV k := by
  cases k with
  | inl i => exact h.int
  | inr x => exact h.str
section
variable {X : Cx} {W : WX} {e a b : Expr} {pos : Pos}
/-! ### d[k] -/
def wDGet (wd wk : DE) : DE := fun Γ Q E => wd Γ (fun x Γ1 => wk Γ1 (fun y Γ2 => ∃ ps k d, x = .dict ps ∧ y = kd k ∧ dget ps k = some d ∧ Q d Γ2) E) E
theorem de_dget {wd wk : DE} {j : Nat} (hr : Room j X.A) (ha : PE X a (tR X.K W wd)) (hb : PE X b (tR X.K W wk)) (hs : NoSl b) : PE X (.Subscript a b pos) (tD X.K W (wDGet wd wk)) :=
  peImp (pe_dget (hu_of hr) ha hb hs) fun σ H Q ⟨F, S, Γ, Qd, Ed, en, hw, k, ke⟩ => ⟨F, S, Γ, _, Ed, en, hw, fun x Γ1 v1 H1 hb m1 e1 r1 => ⟨F, S, Γ1, _, Ed, e1, hb, fun y Γ2 v2 H2 ⟨ps, kk, d, ex, ey, hd, q⟩ m2 e2 r2 => by
    subst ex ey
    have hx : isX (.dict ps) = false := by
      cases hx : isX (.dict ps) with
      | false => rfl
      | true =>
        obtain ⟨_, c, _, e, _⟩ := exc_of ((r1.mv m2).dr e2) hx
        cases e
        cases kk <;> cases hd
    obtain ⟨a, kvs, rfl, h1, h2⟩ := ((r1.mv m2).dr e2).dict hx
    rw [key_v (r2.dr e2)]
    obtain ⟨v, hv, hvd⟩ := (h2.val kk).1 d hd
    exact ⟨a, v, rfl, by rw [← hv]; exact .k h1, k d Γ2 v H2 q (m1.trans m2) e2 hvd⟩, ke⟩, ke⟩
/-! ### displays -/
abbrev DP := Gm → (List (PyData × PyData) → Gm → Prop) → Ke → Prop
def wPs : List (DE × DE) → DP
  | [] => fun Γ Q _ => Q [] Γ
  | (wk, wv) :: r => fun Γ Q E => wk Γ (fun x Γ1 => wv Γ1 (fun y Γ2 => wPs r Γ2 (fun ps Γ3 => Q ((x, y) :: ps) Γ3) E) E) E
def trsOf (K : PySem.W.Frag) (W : WX) : List (DE × DE) → List (TE × TE)
  | [] => []
  | (wk, wv) :: r => (tD K W wk, tD K W wv) :: trsOf K W r
inductive DaP (K : PySem.W.Frag) (H : Hp) : List (V × V) → List (PyData × PyData) → Prop
  | nil : DaP K H [] []
  | cons {v u : V} {vs : List (V × V)} {d e : PyData} {ds : List (PyData × PyData)} : Da K H v d → Da K H u e → DaP K H vs ds → DaP K H ((v, u) :: vs) ((d, e) :: ds)
theorem pairs_rd {K : PySem.W.Frag} {F : Fm} {S : Hd} {Ed : Ke} {σ : St} (ke : ∀ c Γ' H', Ed c Γ' → En K F S Γ' σ H' → W (.ref (He.ga K c)) none σ H') : ∀ (l : List (DE × DE)) {Γ : Gm} {H : Hp} {Qd : List (PyData × PyData) → Gm → Prop} {Q : List (V × V) → Hp → Prop}, En K F S Γ σ H → wPs l Γ Qd Ed →
    (∀ ps Γ' vs H', Qd ps Γ' → Mv S σ Γ Γ' H H' → En K F S Γ' σ H' → DaP K (off S H') vs ps → Q vs H') → tPairs (trsOf K W l) σ H Q
  | [], Γ, H, Qd, Q, en, hw, k => k [] Γ [] H hw .refl en .nil
  | (wk, wv) :: r, Γ, H, Qd, Q, en, hw, k => ⟨F, S, Γ, _, Ed, en, hw, fun x Γ1 v1 H1 hb m1 e1 r1 => ⟨F, S, Γ1, _, Ed, e1, hb, fun y Γ2 v2 H2 q m2 e2 r2 =>
      pairs_rd ke r e2 q fun ps Γ3 vs H3 q3 m3 e3 r3 => k _ Γ3 _ H3 q3 ((m1.trans m2).trans m3) e3 (.cons (r1.mono (m2.trans m3).le.off) (r2.mono m3.le.off) r3), ke⟩, ke⟩
theorem merge_nodup : ∀ (more kvs : List (Key × V)), (∀ p ∈ more, valV kvs p.1 = none) → (more.map (·.1)).Nodup → mergeK kvs more = kvs ++ more
  | [], kvs, _, _ => by show kvs = kvs ++ []; rw [List.append_nil]
  | p :: r, kvs, h, hn => by
    show mergeK (putK kvs p.1 p.2) r = kvs ++ p :: r
    rw [List.map_cons, List.nodup_cons] at hn
    rw [putK_new p.2 (h p List.mem_cons_self), merge_nodup r _ (fun q hq => ?_) hn.2, List.append_assoc]
    · rfl
    · rw [valV_snoc _ _ _ _ (h p List.mem_cons_self), if_neg (fun e => hn.1 (by rw [← e]; exact List.mem_map.mpr ⟨q, hq, rfl⟩))]
      exact h q (List.mem_cons_of_mem _ hq)
theorem daP_keys {K : PySem.W.Frag} {H : Hp} : ∀ {vs : List (V × V)} {ps : List (PyData × PyData)} {ks : List Key}, DaP K H vs ps → ps.map (·.1) = ks.map kd → ∃ kvs : List (Key × V), vs = kvs.map (fun kv => (kV kv.1, kv.2)) ∧ kvs.map (·.1) = ks ∧ DaD K H kvs ps
  | _, _, [], .nil, _ => ⟨[], rfl, rfl, .nil⟩
  | _, _, k :: ks, .cons hk hv t, e => by
    rw [List.map_cons, List.map_cons] at e
    obtain ⟨e1, e2⟩ := List.cons.inj e
    have e1 : _ = kd k := e1
    subst e1
    obtain ⟨kvs, q1, q2, q3⟩ := daP_keys t e2
    have hvk : _ = kV k := key_v (S := fun _ => False) (H := H) (K := K) (.inl (by
      have : off (fun _ => False) H = H := by funext b; exact off_in (fun z => z)
      rw [this]; exact hk))
    refine ⟨(k, _) :: kvs, ?_, by rw [List.map_cons, q2], .cons hv q3⟩
    rw [List.map_cons, q1, hvk]
def wDisp (l : List (DE × DE)) (ks : List Key) : DE := fun Γ Q _ => wPs l Γ (fun ps Γ1 => ps.map (·.1) = ks.map kd ∧ Q (.dict ps) Γ1) F0
theorem de_disp {keys : List (Option Expr)} {values : List Expr} {l : List (DE × DE)} {ks : List Key} (h : PE X (.Dict keys values pos) (tDisp (trsOf X.K W l))) (hn : ks.Nodup) (hl : ks.length ≤ 15) : PE X (.Dict keys values pos) (tD X.K W (wDisp l ks)) :=
  peImp h fun σ H Q ⟨F, S, Γ, Qd, Ed, en, hw, k, ke⟩ p hp => by
    have h0 := en.fresh0 hp
    have nD : NoFp Γ σ (upd H p (.dK [])) p := NoFp.hide en hp
    refine pairs_rd (S := fun b => S b ∨ b = p) (F := F) (Ed := F0) (fun _ _ _ z => z.elim) l (Qd := fun ps Γ1 => ps.map (·.1) = ks.map kd ∧ Qd (.dict ps) Γ1) (en.hide hp) hw fun ps Γ1 vs H2 ⟨hk, q⟩ m1 e1 hv => ?_
    have hp2 : H2 p = some (.dK []) := by
      rcases m1.al p _ upd_same with z | ⟨i, s, v, g, c, e, pp⟩
      · exact z
      · exact absurd pp (nD i s v g e)
    obtain ⟨kvs, q1, q2, q3⟩ := daP_keys hv hk
    have hlen : kvs.length = ks.length := by rw [← q2, List.length_map]
    refine ⟨hp2, kvs, q1, by omega, ?_⟩
    have hmg : mergeK [] kvs = kvs := by
      rw [merge_nodup kvs [] (fun _ _ => rfl) (by rw [q2]; exact hn)]
      rfl
    rw [hmg]
    have nD1 : NoFp Γ1 σ H2 p := nD.mv m1 e1 h0
    have nD2 : NoFp Γ1 σ (upd H2 p (.dK kvs)) p := fun j s o g r z => nD1 j s o g r (Fp.back (e1.at g r) (fun b y => by
      rw [upd_ne]
      rintro rfl
      exact nD1 j s o g r y) z)
    have e2 : En X.K F S Γ1 σ (upd H2 p (.dK kvs)) := (e1.free (.inr rfl) h0 nD1).unhide en.sub en.tin nD2
    have m2 : Mv S σ Γ Γ1 H H2 := (Mv.of en (same_new hp)).trans ⟨fun b u n hb => by
      by_cases z : b = p
      · rw [z, upd_same] at hb
        cases hb
        rw [z]
        exact hp2
      · exact m1.le b u (fun y => y.elim n z) hb, m1.al, m1.ow, m1.wo, m1.tw⟩
    exact k (.dict ps) Γ1 (.ref p) _ q (m2.updNew hp e1 nD1) e2 (.dic (by rw [off_in (en.hid.free hp)]; exact upd_same) (q3.mono ((off_in_upd (D := p)).trans (off_sub fun b z => .inl z))))
end
end Dt

/-! Gat9: written dicts of the module. -/
namespace Dt
open PySem L2
structure GTab (K : PySem.W.Frag) (w : World) (mg : Str → Option Value) (x : Str) (T : List (Str × PyData)) : Prop where
  glo : mg x = some (.ref (He.ga K x))
  dict : ∃ es n, KDict K w (He.ga K x) es n
  val : ∀ q ∈ T, ∃ v u, PySem.W.nsIn K (He.ga K x) q.1 = some (some u) ∧ RelV v u ∧ ∀ H, Da K H v q.2
def strsAt (K : PySem.W.Frag) (p : Addr) (zs : List Str) : Bool := match K.lookup p with
  | some ⟨.type c, _, .seq its _, _⟩ => decide (c = "tuple") && (decide (its.size ≤ sizeLine) && He.relAll (zs.map V.str) its.toList)
  | _ => false
theorem strsAt_ok {K : PySem.W.Frag} {p : Addr} {zs : List Str} (h : strsAt K p zs = true) (H : Hp) : SqT K H p (zs.map V.str) := by
  unfold strsAt at h
  cases q : K.lookup p with
  | none =>
    rw [q] at h
    cases h
  | some o =>
    obtain ⟨oc, od, dt, osl⟩ := o
    rw [q] at h
    cases oc with
    | type c =>
      cases dt with
      | seq its n =>
        obtain ⟨h1, h2⟩ := He.ba (show (decide (c = "tuple") && (decide (its.size ≤ sizeLine) && He.relAll (zs.map V.str) its.toList)) = true from h)
        obtain ⟨h3, h4⟩ := He.ba h2
        exact .inr ⟨_, its, n, q, congrArg Value.type (of_decide_eq_true h1), rfl, of_decide_eq_true h3, He.relAll_ok h4⟩
      | _ => cases h
    | _ => cases dt <;> cases h
/-- the table's values: tuples of texts | texts -/
def tabTB (K : PySem.W.Frag) (a : Addr) (T : List (Str × List Str)) : Bool := T.all fun q => match PySem.W.nsIn K a q.1 with
  | some (some (.ref p)) => strsAt K p q.2
  | _ => false
def tabSB (K : PySem.W.Frag) (a : Addr) (T : List (Str × Str)) : Bool := T.all fun q => match PySem.W.nsIn K a q.1 with
  | some (some u) => He.relB (.str q.2) u
  | _ => false
theorem da_strs {K : PySem.W.Frag} {H : Hp} : ∀ zs : List Str, DaL K H (zs.map V.str) (zs.map PyData.str)
  | [] => .nil
  | z :: r => .cons (.str z) (da_strs r)
theorem tabTB_ok {K : PySem.W.Frag} {a : Addr} {T : List (Str × List Str)} (h : tabTB K a T = true) : ∀ q ∈ T.map fun q => (q.1, PyData.tuple (q.2.map PyData.str)), ∃ v u, PySem.W.nsIn K a q.1 = some (some u) ∧ RelV v u ∧ ∀ H, Da K H v q.2 := fun q hq => by
  obtain ⟨q0, h0, rfl⟩ := List.mem_map.mp hq
  have h2 := List.all_eq_true.mp h q0 h0
  show ∃ v u, PySem.W.nsIn K a q0.1 = some (some u) ∧ RelV v u ∧ ∀ H, Da K H v (.tuple (q0.2.map PyData.str))
  cases e : PySem.W.nsIn K a q0.1 with
  | none => rw [e] at h2; cases h2
  | some r =>
    rw [e] at h2
    cases r with
    | none => cases h2
    | some u =>
      cases u with
      | ref p => exact ⟨.ref p, _, rfl, rfl, fun H => .tup (strsAt_ok h2 H) (da_strs _)⟩
      | _ => cases h2
theorem tabSB_ok {K : PySem.W.Frag} {a : Addr} {T : List (Str × Str)} (h : tabSB K a T = true) : ∀ q ∈ T.map fun q => (q.1, PyData.str q.2), ∃ v u, PySem.W.nsIn K a q.1 = some (some u) ∧ RelV v u ∧ ∀ H, Da K H v q.2 := fun q hq => by
  obtain ⟨q0, h0, rfl⟩ := List.mem_map.mp hq
  have h2 := List.all_eq_true.mp h q0 h0
  show ∃ v u, PySem.W.nsIn K a q0.1 = some (some u) ∧ RelV v u ∧ ∀ H, Da K H v (.str q0.2)
  cases e : PySem.W.nsIn K a q0.1 with
  | none => rw [e] at h2; cases h2
  | some r =>
    rw [e] at h2
    cases r with
    | none => cases h2
    | some u => exact ⟨.str q0.2, u, rfl, He.relB_ok h2, fun H => .str _⟩
section
variable {X : Cx} {W : WX} {e f b : Expr} {pos p apos : Pos} {x : Str}
/-! ### T[k] -/
def wTab (T : List (Str × PyData)) (wb : DE) : DE := fun Γ Q E => wb Γ (fun y Γ1 => ∃ z d, y = .str z ∧ (z, d) ∈ T ∧ Q d Γ1) E
theorem GTab.kd {K : PySem.W.Frag} {w : World} {mg : Str → Option Value} {T : List (Str × PyData)} (h : GTab K w mg x T) {z : Str} {d : PyData} (hm : (z, d) ∈ T) : ∃ v, KDct K w (He.ga K x) z v ∧ ∀ H, Da K H v d := by
  obtain ⟨es, n, D⟩ := h.dict
  obtain ⟨v, u, h1, h2, h3⟩ := h.val _ hm
  exact ⟨v, ⟨es, n, u, D.at_, D.lit, h1, h2⟩, h3⟩
theorem de_tab {T : List (Str × PyData)} {wb : DE} (h : GTab X.K X.w X.mg x T) (hb : PE X b (tR X.K W wb)) (hs : PlainIx b) (hg : Gl X x := by rfl) (hd : (x == ("__debug__" : Str)) = false := by decide) : PE X (.Subscript (.Name x p) b pos) (tD X.K W (wTab T wb)) :=
  peImp (pe_ix ix_kdict (pe_glob (v := .ref (He.ga X.K x)) hg h.glo rfl hd) hb hs) fun σ H Q ⟨F, S, Γ, Qd, Ed, en, hw, k, ke⟩ =>
    ⟨F, S, Γ, _, Ed, en, hw, fun y Γ1 v1 H1 ⟨z, d, ey, hm, q⟩ m1 e1 r1 => by
      subst ey
      rw [(r1.dr e1).str]
      obtain ⟨v, hk, hv⟩ := h.kd hm
      exact ⟨_, z, v, rfl, rfl, hk, k d Γ1 v H1 q m1 e1 (hv _)⟩, ke⟩
/-! ### T.get(k, d) -/
theorem none_mapK {P : Program} {w : World} {K : PySem.W.Frag} {h : Heap} {a : Addr} {es : Array DictEntry} {n : Nat} (hK : K.In h) (D : KDict K w a es n) : ∃ g, h.MapOf (noneKind P w) a g ∧ g none = none := by
  refine ⟨fun k => findBy (noneKind P w).is es k, ⟨_, es, n, hK _ _ D.at_, ⟨rfl, rfl, rfl⟩, rfl, fun e he => ?_, fun k => rfl⟩, ?_⟩
  · obtain ⟨x, t, e1, e2⟩ := D.lit.all e (Array.mem_toList_iff.mpr he)
    refine ⟨some (.inr x), ?_, e2⟩
    rw [e1]
    exact PySem.strKind_is P w x t
  · have q : (es.find? fun e => nkIs none e.key) = none := by
      rw [Array.find?_eq_none]
      intro e he hq
      obtain ⟨x, t, e1, e2⟩ := D.lit.all e (Array.mem_toList_iff.mpr he)
      rw [e1] at hq
      exact nomatch (show false = true from hq)
    show (es.find? fun e => nkIs none e.key).map (·.val) = none
    rw [q] <;> rfl
def tKGet2 (K : PySem.W.Frag) (w : World) (a : Addr) (te tf : TE) : TE := fun σ H Q => te σ H fun y H1 => tf σ H1 fun z H2 => (∃ s v, y = .str s ∧ KDct K w a s v ∧ Q v H2) ∨ (y = .non ∧ Q z H2)
theorem pe_kget2 {o : Expr} {a : Addr} {es : Array DictEntry} {n : Nat} {te tf : TE} (D : KDict X.K X.w a es n) (ho : PE X o (tC (.ref a))) (he : PE X e te) (hf : PE X f tf) (m : M2 X o "get" apos e f pos) : PE X (.Call (.Attribute o "get" apos) [e, f] [] pos) (tKGet2 X.K X.w a te tf) := by
  refine ⟨fun pins s σ H Q I h => ?_⟩
  refine wpAny_Call_method m.base m.few m.line PySem.F.plainAttrs_dict PySem.F.slot_dict_get PySem.F.type_dict_get (thn (ho.run pins s σ H (fun v H' => v = .ref a ∧ H' = H) I ⟨rfl, rfl⟩) fun u s1 ⟨x, H1, I1, rx, ex, eH⟩ => ?_)
  subst ex eH
  obtain rfl : u = Value.ref a := rx
  refine ⟨kd_type D I1, fun b q => ?_, ?_⟩
  · cases q
    exact ⟨_, I1.kIn _ _ D.at_, rfl⟩
  rw [m.trees]
  refine Calls.callWith_builtin rfl (Calls.evalArgs_plain (Calls.spliced_cons (thn (he.run pins s1 σ H1 _ I1 h) fun iv s2 ⟨y, H2, I2, ry, q2⟩ =>
    Calls.spliced_cons (thn (hf.run pins s2 σ H2 _ I2 q2) fun fv s3 ⟨z, H3, I3, rz, q3⟩ => Calls.spliced_nil ?_))))
  rcases q3 with ⟨k, v, ey, ⟨es2, n2, u0, hl, hk, e0, ru⟩, q3⟩ | ⟨ey, q3⟩
  · subst ey
    obtain ⟨t, rfl⟩ := (show ∃ t, iv = Value.str k t from ry)
    refine call_meetsIn PySem.F.slot_dict_get (kd_type D I3) PySem.F.entry_dict_get (PySem.F.args_dict_get_3 _ _ _) (meets_dict_get_default (strKind X.prog X.w) a (strKind_is X.prog X.w k t) D.low fv) ⟨_, PySem.W.mapOf_K I3.kIn hl hk, v, H3, I3.tok _, ?_, q3⟩
    rw [PySem.W.find_K hl e0]
    exact ru
  · subst ey
    obtain rfl : iv = Value.none := ry
    obtain ⟨g, hm, hg⟩ := none_mapK (P := X.prog) I3.kIn D
    refine call_meetsIn PySem.F.slot_dict_get (kd_type D I3) PySem.F.entry_dict_get (PySem.F.args_dict_get_3 _ _ _) (meets_dict_get_default (noneKind X.prog X.w) a (k := none) rfl D.low fv) ⟨_, hm, z, H3, I3.tok _, ?_, q3⟩
    rw [hg]
    exact rz
def wTGet (T : List (Str × PyData)) (we wf : DE) : DE := fun Γ Q E => we Γ (fun y Γ1 => wf Γ1 (fun z Γ2 => (∃ s d, y = .str s ∧ (s, d) ∈ T ∧ Q d Γ2) ∨ (y = .none ∧ Q z Γ2)) E) E
theorem de_tget {T : List (Str × PyData)} {we wf : DE} (h : GTab X.K X.w X.mg x T) (he : PE X e (tD X.K W we)) (hf : PE X f (tD X.K W wf)) (m : M2 X (.Name x p) "get" apos e f pos) (hg : Gl X x := by rfl) (hd : (x == ("__debug__" : Str)) = false := by decide) :
    PE X (.Call (.Attribute (.Name x p) "get" apos) [e, f] [] pos) (tD X.K W (wTGet T we wf)) := by
  obtain ⟨es, n, D⟩ := h.dict
  refine peImp (pe_kget2 D (pe_glob (v := .ref (He.ga X.K x)) hg h.glo rfl hd) he hf m) fun σ H Q ⟨F, S, Γ, Qd, Ed, en, hw, k, ke⟩ =>
    ⟨F, S, Γ, _, Ed, en, hw, fun y Γ1 v1 H1 hb m1 e1 r1 => ⟨F, S, Γ1, _, Ed, e1, hb, fun z Γ2 v2 H2 q m2 e2 r2 => ?_, ke⟩, ke⟩
  rcases q with ⟨s, d, ey, hm, q⟩ | ⟨ey, q⟩
  · subst ey
    cases r1
    obtain ⟨v, hk, hv⟩ := h.kd hm
    exact .inl ⟨s, v, rfl, hk, k d Γ2 v H2 q (m1.trans m2) e2 (hv _)⟩
  · subst ey
    cases r1
    exact .inr ⟨rfl, k z Γ2 v2 H2 q (m1.trans m2) e2 r2⟩
/-! ### x = [.. for .. if ..] -/
theorem ds_lcIf {i : Nat} {y : Str} {py : Pos} {elt tg iter : Expr} {ifs : List Expr} {scope : Scope} {own : List (Str × Nat)} {spos : Pos} {wi : DL} {g : TG} {gd : DG} {t : DB} {w : DE} (hc : X.calm = true) (hN : X.N.Nodup) (hy : X.N[i]? = some y) (hyl : X.env.scope.names.lookup y = some .local)
    (hsw : swapsWith (.ListComp elt [⟨tg, iter, ifs, 0⟩] scope pos) (some (.Name y py)) spos.line X.env = pure true) (hi : PI X tg iter (tI false X.K W wi)) (ok : BlkOk X.N X.env.scope scope own) (hgd : OkG X.K g gd (own.map (·.2)))
    (hg : ∀ (s : Shared) (H : Hp) (C : Addr) (cl : List (Str × Addr)) (fp : List Addr), PG (X.blk s H scope (compEnvC scope cl C X.env) fp) tg g) (ht : ∀ (s : Shared) (H : Hp) (C : Addr) (cl : List (Str × Addr)) (fp : List Addr), PTs (X.blk s H scope (compEnvC scope cl C X.env) fp) ifs (tB X.K W0 t))
    (he : ∀ (s : Shared) (H : Hp) (C : Addr) (cl : List (Str × Addr)) (fp : List Addr), PE (X.blk s H scope (compEnvC scope cl C X.env) fp) elt (tD X.K W0 w)) (hs : ∀ x, foldedSetIterable iter X.env x = pure x := by intro _; rfl) :
    PS X (.Assign [.Name y py] (.ListComp elt [⟨tg, iter, ifs, 0⟩] scope pos) spos) (tS X.K W (wSet i (wLc wi (stIf gd t w (own.map (·.2))) (own.map (·.2))))) :=
  ds_setBy (ps_setLc hc hN hy hyl hsw hi ok hg ht he hs) fun _ _ _ h => lc_rd (okst_if hgd) h
theorem ds_lcAll {i : Nat} {y : Str} {py : Pos} {elt tg iter : Expr} {scope : Scope} {own : List (Str × Nat)} {spos : Pos} {wi : DL} {g : TG} {gd : DG} {w : DE} (hc : X.calm = true) (hN : X.N.Nodup) (hy : X.N[i]? = some y) (hyl : X.env.scope.names.lookup y = some .local)
    (hsw : swapsWith (.ListComp elt [⟨tg, iter, [], 0⟩] scope pos) (some (.Name y py)) spos.line X.env = pure true) (hi : PI X tg iter (tI false X.K W wi)) (ok : BlkOk X.N X.env.scope scope own) (hgd : OkG X.K g gd (own.map (·.2)))
    (hg : ∀ (s : Shared) (H : Hp) (C : Addr) (cl : List (Str × Addr)) (fp : List Addr), PG (X.blk s H scope (compEnvC scope cl C X.env) fp) tg g)
    (he : ∀ (s : Shared) (H : Hp) (C : Addr) (cl : List (Str × Addr)) (fp : List Addr), PE (X.blk s H scope (compEnvC scope cl C X.env) fp) elt (tD X.K W0 w)) (hs : ∀ x, foldedSetIterable iter X.env x = pure x := by intro _; rfl) :
    PS X (.Assign [.Name y py] (.ListComp elt [⟨tg, iter, [], 0⟩] scope pos) spos) (tS X.K W (wSet i (wLc wi (stAll gd w (own.map (·.2))) (own.map (·.2))))) :=
  ds_setBy (ps_setLc hc hN hy hyl hsw hi ok hg (fun _ _ _ _ _ => pts_nil) he hs) fun _ _ _ h => lc_rd (okst_all hgd) h
end
end Dt

/-! Gat10: try .. except C as e: x = e, the exception kept. -/
namespace L2
open PySem PySem.Spec PyProof.Rows
def ExC (cls : Value) (d : Option Addr) (a : Addr) : HO := .ext fun h => ∃ (oe : Obj) (vs : Array Value), h.get? a = some oe ∧ Zc cls d oe ∧ oe.data = .fields vs
section
variable {X : Cx} {pins : List (Addr × Obj)} {σ : St} {H : Hp} {s : Shared}
theorem Inv.track {a : Addr} {oe : Obj} {vs : Array Value} {cls : Value} {d : Option Addr} (I : Inv X pins σ H s) (ha : s.heap.get? a = some oe) (na : H a = none) (hz : Zc cls d oe) (hd : oe.data = .fields vs) (n0 : X.s_0.heap.get? a = none) (nL : a ≠ X.env.locals)
    (np : ∀ p ∈ X.pn ++ pins, p.1 ≠ a) : Inv X pins σ (upd H a (ExC cls d a)) s := by
  have nb : ∀ b o, X.s_0.heap.get? b = some o → b ≠ a := fun b o q z => by rw [z, n0] at q; cases q
  refine ⟨I.ok, I.os, I.bare, ⟨I.base.keep, I.base.slot, fun b o q n hx => ?_, I.base.there, fun b xs q => ?_, fun b o xs q => ?_, fun b ps q => ?_⟩, I.loc, I.cell, ?_, fun x c q => ?_, fun p hp => ?_, I.hok.laidN (fun _ _ q => q) na ⟨⟨oe, vs, ha, hz, hd⟩, ⟨oe, ha⟩, fun _ _ ⟨o, v, q, r⟩ k => ⟨o, v, k o q, r⟩⟩, I.len⟩
  · rw [upd_ne (nb b o q)]
    exact I.base.free b o q n hx
  · have z := I.base.tups b xs q
    rw [upd_ne (ne_of_none z na)]
    exact z
  · have z := I.base.frzs b o xs q
    rw [upd_ne (ne_of_none z na)]
    exact z
  · obtain ⟨m, z⟩ := I.base.tbls b ps q
    exact ⟨m, by rw [upd_ne (ne_of_none z na)]; exact z⟩
  · rw [upd_ne nL.symm]
    exact I.free
  · obtain ⟨v, o, ho, hv⟩ := I.cell x c q
    have nc : c ≠ a := fun z => by
      rw [z, ha] at ho
      cases ho
      rw [hd] at hv
      cases hv
    rw [upd_ne nc]
    exact I.freeC x c q
  · obtain ⟨h1, h2, h3⟩ := I.pin p hp
    exact ⟨h1, by rw [upd_ne (np p hp)]; exact h2, h3⟩
end
/-- the clause 'except c as (slot i)', whose suite ends next; the exception is kept -/
def wKeep (K : PySem.W.Frag) (c : Value) (i : Nat) (ts : Addr → TS) (D : Ends) : WX := fun cls d σ H => PySem.W.exmOne K cls c = some true ∧
  ∀ a, H a = none → ts a { nx := fun σ' H' => D.nx (σ'.set i none) (upd H' a (ExC cls d a)), rt := fun _ _ => False, bk := fun _ _ => False, ct := fun _ _ => False } (σ.set i (some (.ref a))) H
section
variable {X : Cx} {x n : Str} {c : Value} {i : Nat} {body suite : List Stmt} {b₀ : Stmt} {np pos pos' : Pos} {tb : WX → TS} {ts : Addr → TS}
theorem ps_try_keep (hs : X.stack = X.env :: X.outer) (hf : X.env.frame = some X.env.locals) (hx : X.ex = []) (hN : X.N.Nodup) (hi : X.N[i]? = some n) (hln : X.env.kindOf n = some .local) (hc : Names X x c)
    (hb : ∀ (W : WX) (pn : List (Addr × Obj)) (xe : Value → Shared → Prop), Takes (X.tr pn xe) W → PassesOwn (model X.prog X.w) X.A X.env xe → PSs (X.tr pn xe) body (tb W))
    (hsu : ∀ (a : Addr) (pn : List (Addr × Obj)), PSs (X.suite a pn) (b₀ :: suite) (ts a)) :
    PS X (.Try body [.ExceptHandler (some (.Name x np)) (some n) (b₀ :: suite) pos'] [] [] pos) (fun D σ H => tb (wKeep X.K c i ts D) D σ H) := by
  refine ⟨fun pins s σ H D I h => ?_⟩
  have ok := I.ok
  refine wpAny_Try_except (wpAny_mono ((hb (wKeep X.K c i ts D) (X.pn ++ pins) (fun e s₁ => wpAny (model X.prog X.w) X.A (noteFrame e X.env) (fun _ s₂ => wpAny (model X.prog X.w) X.A (setFlight e none) (fun _ s₃ =>
    wpAny (model X.prog X.w) X.A (handleBy e X.env [.ExceptHandler (some (.Name x np)) (some n) (b₀ :: suite) pos']) (SP X pins D) X.xe s₃) X.xe s₂) X.xe s₁) (fun u s' xx => ?_) PassesOwn.looking).run [] s σ H D (I.toTry _) h) (fun f s1 hsp => ?_) (fun e s1 he => he))
  · -- caught
    obtain ⟨a, B, sI, pins', σ', H', cls, d, rfl, J', nb, up, sky, na, os, ag, hm, hyes⟩ := xx
    have J : Inv X pins σ' H' sI := J'.ofTry ok
    rw [show (X.tr (X.pn ++ pins) _).stack = X.env :: X.outer from hs] at sky
    rw [show frs (X.tr (X.pn ++ pins) _).stack = frs (X.env :: X.outer) by rw [← hs]] at nb
    refine Sky.land Zc.steady (by rw [ok.frames, hs]) hf sky fun h3 fl3 up3 => ?_
    have J3 : Inv X pins σ' H' { s' with heap := h3 } := J.landed (by rw [hs]; exact nb) fl3.1 (up.trans up3) os ag
    obtain ⟨oe3, vs3, he3, hz3, hd3⟩ := fl3.there
    have nfr : a ∉ frs (X.env :: X.outer) := fun hm => by
      obtain ⟨_, o', e', hnf⟩ := Heap.FunFrames.mem fl3.2.2.1 hm
      rw [he3] at e'
      cases e'
      exact hnf _ hd3
    have nI : sI.heap.get? a = none := by
      cases q : sI.heap.get? a with
      | none => rfl
      | some o =>
        have z := nb a o q nfr
        rw [fl3.2.1] at z
        cases z
    have n0 : X.s_0.heap.get? a = none := by
      cases q : X.s_0.heap.get? a with
      | none => rfl
      | some o =>
        obtain ⟨o', z⟩ := J.base.there a o q (by rw [hx]; exact fun z => nomatch z)
        rw [nI] at z
        cases z
    have nL : a ≠ X.env.locals := fun z => nfr (List.mem_filterMap.mpr ⟨X.env, List.mem_cons_self, by rw [hf, z]⟩)
    have nF : a ∉ X.fs := fun hm => by
      obtain ⟨e, he, q⟩ := List.mem_filterMap.mp hm
      exact nfr (List.mem_filterMap.mpr ⟨e, List.mem_cons_of_mem _ he, q⟩)
    have npin : ∀ p ∈ X.pn ++ pins, p.1 ≠ a := fun p hp z => by
      have q := (J.pin p hp).1
      rw [z, nI] at q
      cases q
    have S3 := J3.suite he3 hd3 na nL nF
    refine wpAny_handleBy_cons (codeAny_handlers_test ?_) (by intro q; cases q)
    have LT : PySem.W.Looks (model X.prog X.w) h3 (typeOf (.ref a)) cls := fun A Q E s k q => wpAny_typeOf_ref (k _ _ he3) (by rw [hz3.1]; exact q)
    have LM := PySem.W.exm_one (M := model X.prog X.w) J3.kIn LT hm
    have test : ∀ {Q : Value → Shared → Prop} {E : Value → Shared → Prop}, Q c { s' with heap := h3 } → wpAny (model X.prog X.w) (X.A.mark (some (.ref a))) (eval (.Name x np) X.env) Q E { s' with heap := h3 } := fun {Q E} q => by
      obtain ⟨hg, hdbg, hm | ⟨hm, hv, hnn⟩⟩ := hc
      · exact ld_glob (X := X.suite a ((a, oe3) :: (X.pn ++ pins))) S3 hg hm q hdbg
      · exact ld_blt (X := X.suite a ((a, oe3) :: (X.pn ++ pins))) S3 hg hm hv q hnn hdbg
    refine test (LM.here (codeAny_handlers_suite_as ?_))
    refine HandSPX.lands_againZ fl3 fun h4 fl4 up4 => ?_
    have J4 : Inv X pins σ' H' { s' with heap := h4 } := J.landed (by rw [hs]; exact nb) fl4.1 ((up.trans up3).trans up4) os ag
    obtain ⟨oe4, vs4, he4, hz4, hd4⟩ := fl4.there
    refine store_ok (X := X.suite a ((a, oe4) :: (X.pn ++ pins))) (v := .ref a) (J4.suite he4 hd4 na nL nF) hN hi (.inl hln) rfl (fun s5 S5 => ?_) (.inr hln)
    refine wpAny_mono ((hsu a ((a, oe4) :: (X.pn ++ pins))).run [] s5 _ H' _ S5 (hyes a na)) (fun f s6 hsp => ?_) (fun _ _ z => False.elim z)
    cases f with
    | next =>
      obtain ⟨σ6, H6, S6, q6⟩ := hsp
      refine gone_ok (X := X.suite a ((a, oe4) :: (X.pn ++ pins))) S6 hN hi hln fun s7 S7 => ⟨_, _, ?_, q6⟩
      obtain ⟨g7, n7, _⟩ := S7.pin (a, oe4) (List.mem_append_left _ List.mem_cons_self)
      exact (S7.unsuite ok).track g7 n7 hz4 hd4 n0 nL npin
    | brk =>
      obtain ⟨σ6, H6, S6, q6⟩ := hsp
      exact q6.elim
    | cont =>
      obtain ⟨σ6, H6, S6, q6⟩ := hsp
      exact q6.elim
    | ret u =>
      obtain ⟨v6, σ6, H6, S6, r6, q6⟩ := hsp
      exact q6.elim
  · cases f with
    | next =>
      obtain ⟨σ', H', J', q⟩ := hsp
      exact wpAny_execs_nil ⟨σ', H', J'.ofTry ok, q⟩
    | brk =>
      obtain ⟨σ', H', J', q⟩ := hsp
      exact ⟨σ', H', J'.ofTry ok, q⟩
    | cont =>
      obtain ⟨σ', H', J', q⟩ := hsp
      exact ⟨σ', H', J'.ofTry ok, q⟩
    | ret u =>
      obtain ⟨v, σ', H', J', r, q⟩ := hsp
      exact ⟨v, σ', H', J'.ofTry ok, r, q⟩
end
end L2

/-! Gat11: try over data; isinstance of own exceptions; .index, .count. -/
namespace Dt
open PySem L2
/-! ### the own exception classes -/
structure XF (K : PySem.W.Frag) (cs : List Str) : Prop where
  xc : ∀ c ∈ cs, XcK K c
  sg : ∀ c ∈ cs, PySem.W.exmOne K (.ref (He.ga K c)) (.ref (He.ga K "SignError")) = some true
  kit : ∀ c ∈ cs, ∀ d ∈ cs, PySem.W.kitOne K (.ref (He.ga K c)) (.ref (He.ga K d)) = some (decide (c = d))
  ve : ∀ c ∈ cs, PySem.W.kitOne K (.ref (He.ga K c)) (.type "ValueError") = some true
def xcB (K : PySem.W.Frag) (c : Str) : Bool :=
  He.eqO (PySem.W.findIn K (.ref (He.ga K c)) "__getattribute__") (some (some (.builtin "BaseException.__getattribute__"))) &&
  (He.eqO (PySem.W.findIn K (.ref (He.ga K c)) "__getattr__") (some none) &&
  (decide (PySem.W.subIn K (.ref (He.ga K c)) (.type "BaseException") = some true) &&
  (PySem.W.hasDictIn K (He.ga K c) &&
  (He.eqO (PySem.W.findIn K (.ref (He.ga K c)) "__class__") (some (some (.builtin "object.__class__"))) &&
  (He.eqO (PySem.W.specialIn K (.builtin "object.__class__") "__get__") (some (some (.builtin "getset_descriptor.__get__"))) &&
  (decide (PySem.W.takesIn K (.builtin "object.__class__") = some true) &&
  (decide (PySem.W.mroIn K (He.ga K c) (.type "object") = some true) &&
  ["int", "bool", "tuple", "list", "str", "dict"].all fun T => decide (PySem.W.kitOne K (.ref (He.ga K c)) (.type T) = some false))))))))
theorem xcB_ok {K : PySem.W.Frag} {c : Str} (h : xcB K c = true) : XcK K c := by
  obtain ⟨h1, h⟩ := He.ba h
  obtain ⟨h2, h⟩ := He.ba h
  obtain ⟨h3, h⟩ := He.ba h
  obtain ⟨h4, h⟩ := He.ba h
  obtain ⟨h5, h⟩ := He.ba h
  obtain ⟨h6, h⟩ := He.ba h
  obtain ⟨h7, h⟩ := He.ba h
  obtain ⟨h8, h9⟩ := He.ba h
  exact ⟨⟨He.eqO_ok h1, He.eqO_ok h2, of_decide_eq_true h3, h4, He.eqO_ok h5, He.eqO_ok h6, of_decide_eq_true h7, of_decide_eq_true h8⟩, fun T hT => of_decide_eq_true (List.all_eq_true.mp h9 T hT)⟩
def xfB (K : PySem.W.Frag) (cs : List Str) : Bool := cs.all fun c => xcB K c && (decide (PySem.W.exmOne K (.ref (He.ga K c)) (.ref (He.ga K "SignError")) = some true) && (decide (PySem.W.kitOne K (.ref (He.ga K c)) (.type "ValueError") = some true) &&
  cs.all fun d => decide (PySem.W.kitOne K (.ref (He.ga K c)) (.ref (He.ga K d)) = some (decide (c = d)))))
theorem xfB_ok {K : PySem.W.Frag} {cs : List Str} (h : xfB K cs = true) : XF K cs := by
  have g := fun c hc => He.ba (List.all_eq_true.mp h c hc)
  exact ⟨fun c hc => xcB_ok (g c hc).1, fun c hc => of_decide_eq_true (He.ba (g c hc).2).1, fun c hc d hd => of_decide_eq_true (List.all_eq_true.mp (He.ba (He.ba (g c hc).2).2).2 d hd), fun c hc => of_decide_eq_true (He.ba (He.ba (g c hc).2).2).1⟩
section
variable {X : Cx} {W : WX} {e a b : Expr} {pos p apos : Pos} {x : Str}
/-! ### try -/
def wTry (cs : List Str) (i j : Nat) (wb : DS) : DS := fun Γ k => wb Γ fun o Γ1 => match o with
  | .ex c => c ∈ cs ∧ i < Γ1.length ∧ k .nx (((Γ1.set i (.dat (excD c))).set j (.dat (excD c))).set i .no)
  | o => k o Γ1
theorem ds_try {n y : Str} {i j : Nat} {body : List Stmt} {np p1 p2 p3 pos' : Pos} {cs : List Str} {wb : DS} (hx : XF X.K cs) (hs : X.stack = X.env :: X.outer) (hf : X.env.frame = some X.env.locals) (hex : X.ex = []) (hN : X.N.Nodup) (hi : X.N[i]? = some n) (hln : X.env.kindOf n = some .local)
    (hm : X.mg "SignError" = some (.ref (He.ga X.K "SignError"))) (hg : Gl X "SignError")
    (hb : ∀ (W : WX) (pn : List (Addr × Obj)) (xe : Value → Shared → Prop), Takes (X.tr pn xe) W → PassesOwn (model X.prog X.w) X.A X.env xe → PSs (X.tr pn xe) body (tS X.K W wb))
    (hsu : ∀ (a : Addr) (pn : List (Addr × Obj)), PS (X.suite a pn) (.Assign [.Name y p1] (.Name n p2) p3) (tAsg (tVar i) (gName j))) :
    PS X (.Try body [.ExceptHandler (some (.Name "SignError" np)) (some n) [.Assign [.Name y p1] (.Name n p2) p3] pos'] [] [] pos) (tS X.K W (wTry cs i j wb)) :=
  psImp (ps_try_keep (c := .ref (He.ga X.K "SignError")) (tb := fun W => tS X.K W wb) (ts := fun _ => tAsg (tVar i) (gName j)) hs hf hex hN hi hln ⟨hg, by decide +kernel, .inl hm⟩ hb (fun a pn => pss_one (hsu a pn))) fun D σ H ⟨F, S, Γ, Qd, en, hw, k⟩ =>
    ⟨F, S, Γ, _, en, hw, fun o Γ1 S1 σ1 H1 q e1 => by
      cases o with
      | ex c =>
        obtain ⟨hc, hi1, q⟩ := q
        refine ⟨hx.sg c hc, fun a na => ?_⟩
        have hl : σ1.length = Γ1.length := e1.len.symm
        have e2 : En X.K F S1 Γ1 σ1 (upd H1 a (ExC (.ref (He.ga X.K c)) none a)) := e1.same (same_new na)
        have hv : Da X.K (off S1 (upd H1 a (ExC (.ref (He.ga X.K c)) none a))) (.ref a) (excD c) := .exc (by rw [off_in (e1.hid.free na)]; exact upd_same) (hx.xc c hc)
        have e3 := ((e2.set i hv).set j hv).drop i
        exact ⟨.ref a, by rw [List.getElem?_set_self (by rw [hl]; exact hi1)], k .nx _ S1 _ _ q e3⟩
      | nx => exact k _ _ _ _ _ q e1
      | rt d => exact k (.rt d) _ _ _ _ q e1
      | bk => exact k _ _ _ _ _ q e1
      | ct => exact k _ _ _ _ _ q e1⟩
/-! ### isinstance of what was caught -/
def wIsx (cs : List Str) (f : Str → Bool) (w : DE) : DE := fun Γ Q E => w Γ (fun d Γ1 => ∃ c, d = excD c ∧ c ∈ cs ∧ Q (.bool (f c)) Γ1) E
theorem de_isx {cs : List Str} {w : DE} {pt : Pos} {C : Str} (hx : XF X.K cs) (hC : C ∈ cs) (hg : Gl X "isinstance") (hm : X.mg "isinstance" = none) (ha : PE X a (tR X.K W w)) (hgC : Gl X C) (hmC : X.mg C = some (.ref (He.ga X.K C))) (hd : (C == ("__debug__" : Str)) = false := by decide)
    (h1 : starEach [a, Expr.Name C pt] X.env = (false, eval a X.env) :: starEach [Expr.Name C pt] X.env := by rfl) (h2 : starEach [Expr.Name C pt] X.env = (false, eval (Expr.Name C pt) X.env) :: starEach [] X.env := by rfl)
    (hpl : (backTo pos (starEach [Expr.Name C pt] X.env)).any (·.1) = false := by rfl) :
    PE X (.Call (.Name "isinstance" p) [a, .Name C pt] [] pos) (tD X.K W (wIsx cs (fun c => decide (c = C)) w)) :=
  peImp (pe_callB call_isK hg hm (by decide +kernel) (pa_cons ha (pa_cons (pe_glob (v := .ref (He.ga X.K C)) hgC hmC rfl hd) pa_nil h2) h1) (by decide) (by decide) h1 hpl) fun σ H Q ⟨F, S, Γ, Qd, Ed, en, hw, k, ke⟩ => ⟨F, S, Γ, _, Ed, en, hw, fun d Γ1 v H1 ⟨c, ed, hc, q⟩ m1 e1 hv => by
    subst ed
    obtain ⟨a, c', rfl, e, h1, h2⟩ := exc_of (hv.dr e1) rfl
    cases e
    exact ⟨a, c, .ref (He.ga X.K C), .ref (He.ga X.K C), _, rfl, h1, h2.ex, fun u hu => hu, hx.kit c hc C hC, k _ Γ1 _ H1 q m1 e1 (.bl _)⟩, ke⟩
theorem de_isv {cs : List Str} {w : DE} {pt : Pos} (hx : XF X.K cs) (hg : Gl X "isinstance") (hm : X.mg "isinstance" = none) (ha : PE X a (tR X.K W w)) (hT : PE X (.Name "ValueError" pt) (tC (.ty "ValueError")))
    (h1 : starEach [a, Expr.Name "ValueError" pt] X.env = (false, eval a X.env) :: starEach [Expr.Name "ValueError" pt] X.env := by rfl) (h2 : starEach [Expr.Name "ValueError" pt] X.env = (false, eval (Expr.Name "ValueError" pt) X.env) :: starEach [] X.env := by rfl)
    (hpl : (backTo pos (starEach [Expr.Name "ValueError" pt] X.env)).any (·.1) = false := by rfl) :
    PE X (.Call (.Name "isinstance" p) [a, .Name "ValueError" pt] [] pos) (tD X.K W (wIsx cs (fun _ => true) w)) :=
  peImp (pe_callB call_isK hg hm (by decide +kernel) (pa_cons ha (pa_cons hT pa_nil h2) h1) (by decide) (by decide) h1 hpl) fun σ H Q ⟨F, S, Γ, Qd, Ed, en, hw, k, ke⟩ => ⟨F, S, Γ, _, Ed, en, hw, fun d Γ1 v H1 ⟨c, ed, hc, q⟩ m1 e1 hv => by
    subst ed
    obtain ⟨a, c', rfl, e, h1, h2⟩ := exc_of (hv.dr e1) rfl
    cases e
    exact ⟨a, c, .ty "ValueError", .type "ValueError", _, rfl, h1, h2.ex, fun u hu => hu, hx.ve c hc, k _ Γ1 _ H1 q m1 e1 (.bl _)⟩, ke⟩
/-! ### l.index(x), l.count(x) -/
def wLm (op : List PyData → PyData → PyData → Prop) (wo we : DE) : DE := fun Γ Q E => wo Γ (fun x Γ1 => ∃ ds, x = .list ds ∧ we Γ1 (fun y Γ2 => ∃ d, op ds y d ∧ Q d Γ2) E) E
def IdxL (ds : List PyData) (y d : PyData) : Prop := ∃ (j : Nat) (z : PyData), d = .int (j : Nat) ∧ SeqAt.shaped (.list ds) = true ∧ SeqAt.shaped y = true ∧ ds[j]? = some z ∧ PyData.eqv z y = true ∧ ∀ (m : Nat) (z' : PyData), m < j → ds[m]? = some z' → PyData.eqv z' y = false
def CntL (ds : List PyData) (y d : PyData) : Prop := d = .int ((ds.countP fun z => PyData.eqv z y : Nat) : Int) ∧ SeqAt.shaped (.list ds) = true ∧ SeqAt.shaped y = true
theorem mt_countD (hu : X.A.units + 65 < cLine) : MtR X "list.count" (fun x xs H Q => ∃ (a : Addr) (y : V) (d : PyData) (ds : List PyData), x = V.ref a ∧ xs = [y] ∧ Dp X.K H (V.ref a) (.list ds) ∧ Dp X.K H y d ∧ SeqAt.shaped (.list ds) = true ∧ SeqAt.shaped d = true ∧ Q (.int ((ds.countP fun z => PyData.eqv z d : Nat) : Int)) H) := by
  intro pins s σ H x xs v us Q I rx rxs h
  obtain ⟨a, y, d, ds, rfl, rfl, hl, hy, sl, sd, q⟩ := h
  cases rx
  cases rxs with
  | cons ry rt =>
    rename_i uy ut
    cases rt
    obtain ⟨bs, r1⟩ := Dp.reads I d y uy hy ry
    have hxs : PyData.canLayAll0 ds = true := SeqAt.canLay_of_shaped sl
    have hroom : X.A.units + 1 + min (PyData.depthAll ds) d.depth < cLine := PyProof.Rows.room_in_shaped sd hu
    cases hl with
    | lst hs ha =>
      obtain ⟨its, rv, ⟨⟨cls, dd, data, sls⟩, n, ho, hc, hdn, hdt⟩, hlen⟩ := I.list hs
      simp only at hc hdt
      subst hc hdt
      obtain ⟨as, h4⟩ := Dp.readsAll I ds _ its ha rv
      have hmap : its.map (SeqAt.readOf s.heap) = ds := SeqAt.readsAll_map ds its as hxs h4
      refine call_meets PySem.F.slot_list_count ⟨_, ho, rfl⟩ PySem.F.entry_list_count (PySem.F.args_list_count_2 _ _)
        (SeqAt.list_countAt a its.toArray n dd sls uy (fun u => PyData.eqv (SeqAt.readOf s.heap u) d)) ⟨ho, SeqAt.items_eqAt (vs := its.toArray) (show ReadsAll s.heap its.toArray.toList ds as from h4) r1 hxs (SeqAt.canLay_of_shaped sd) hroom, ?_⟩
      refine ⟨.int _, H, I.tok _, ⟨_, rfl⟩, ?_⟩
      have ec : its.toArray.toList.countP (fun u => PyData.eqv (SeqAt.readOf s.heap u) d) = ds.countP fun z => PyData.eqv z d := by
        rw [← hmap, List.countP_map]
        rfl
      rw [ec]
      exact q
theorem de_lidx {j : Nat} {wo we : DE} {o : Expr} (hr : Room j X.A) (ho : PE X o (tR X.K W wo)) (he : PE X e (tR X.K W we)) (h : PE X (.Call (.Attribute o "index" apos) [e] [] pos) (tBM X.K "list" (rIndexD X.K) (tR X.K W wo) (tCons (tR X.K W we) tNil))) :
    PE X (.Call (.Attribute o "index" apos) [e] [] pos) (tD X.K W (wLm IdxL wo we)) := peImp h fun σ H Q ⟨F, S, Γ, Qd, Ed, en, hw, k, ke⟩ => ⟨F, S, Γ, _, Ed, en, hw, fun x Γ1 v1 H1 ⟨ds, ex, hb⟩ m1 e1 r1 => by
    subst ex
    obtain ⟨a, vs, rfl, h1, h2⟩ := (r1.dr e1).list
    refine ⟨.inl ⟨rfl, vs, .of h1⟩, F, S, Γ1, _, Ed, e1, hb, fun y Γ2 v2 H2 ⟨d, ⟨jj, z, ed, s1, s2, hz, hq, hn⟩, q⟩ m2 e2 r2 => ?_, ke⟩
    subst ed
    exact ⟨a, v2, y, ds, jj, z, rfl, rfl, ((r1.mv m2).dr e2).dp (SeqAt.canLay_of_shaped s1), (r2.dr e2).dp (SeqAt.canLay_of_shaped s2), s1, s2, hz, hq, hn, k _ Γ2 _ H2 q (m1.trans m2) e2 (.int _)⟩, ke⟩
theorem de_lcnt {j : Nat} {wo we : DE} {o : Expr} (hr : Room j X.A) (ho : PE X o (tR X.K W wo)) (he : PE X e (tR X.K W we)) (h : PE X (.Call (.Attribute o "count" apos) [e] [] pos) (tBM X.K "list" (fun x xs H Q => ∃ (a : Addr) (y : V) (d : PyData) (ds : List PyData), x = V.ref a ∧ xs = [y] ∧ Dp X.K H (V.ref a) (.list ds) ∧ Dp X.K H y d ∧ SeqAt.shaped (.list ds) = true ∧ SeqAt.shaped d = true ∧ Q (.int ((ds.countP fun z => PyData.eqv z d : Nat) : Int)) H) (tR X.K W wo) (tCons (tR X.K W we) tNil))) :
    PE X (.Call (.Attribute o "count" apos) [e] [] pos) (tD X.K W (wLm CntL wo we)) := peImp h fun σ H Q ⟨F, S, Γ, Qd, Ed, en, hw, k, ke⟩ => ⟨F, S, Γ, _, Ed, en, hw, fun x Γ1 v1 H1 ⟨ds, ex, hb⟩ m1 e1 r1 => by
    subst ex
    obtain ⟨a, vs, rfl, h1, h2⟩ := (r1.dr e1).list
    refine ⟨.inl ⟨rfl, vs, .of h1⟩, F, S, Γ1, _, Ed, e1, hb, fun y Γ2 v2 H2 ⟨d, ⟨ed, s1, s2⟩, q⟩ m2 e2 r2 => ?_, ke⟩
    subst ed
    exact ⟨a, v2, y, ds, rfl, rfl, ((r1.mv m2).dr e2).dp (SeqAt.canLay_of_shaped s1), (r2.dr e2).dp (SeqAt.canLay_of_shaped s2), s1, s2, k _ Γ2 _ H2 q (m1.trans m2) e2 (.int _)⟩, ke⟩
/-! ### T.index(x), T a tuple of texts of the module -/
structure GTup (K : PySem.W.Frag) (mg : Str → Option Value) (x : Str) (ys : List Str) : Prop where
  glo : mg x = some (.ref (He.ga K x))
  obj : ∃ o, K.lookup (He.ga K x) = some o ∧ o.cls = .type "tuple" ∧ o.dict = none
  sq : ∀ H, SqT K H (He.ga K x) (ys.map V.str)
def tupN (K : PySem.W.Frag) (x : Str) (ys : List Str) : Bool := strsAt K (He.ga K x) ys && (match K.lookup (He.ga K x) with
  | some ⟨.type c, none, _, _⟩ => decide (c = "tuple")
  | _ => false)
theorem tupN_ok {K : PySem.W.Frag} {mg : Str → Option Value} {x : Str} {ys : List Str} (hm : mg x = some (.ref (He.ga K x))) (h : tupN K x ys = true) : GTup K mg x ys := by
  obtain ⟨h1, h2⟩ := He.ba h
  refine ⟨hm, ?_, strsAt_ok h1⟩
  cases q : K.lookup (He.ga K x) with
  | none => rw [q] at h2; cases h2
  | some o =>
    obtain ⟨oc, od, dt, osl⟩ := o
    rw [q] at h2
    cases oc with
    | type c =>
      cases od with
      | none => exact ⟨_, rfl, congrArg Value.type (of_decide_eq_true h2), rfl⟩
      | some _ => cases h2
    | _ => cases od <;> cases h2
def wGIdx (ys : List Str) (w : DE) : DE := fun Γ Q E => w Γ (fun y Γ1 => ∃ z j, y = .str z ∧ ys[j]? = some z ∧ (∀ m, m < j → ys[m]? ≠ some z) ∧ Q (.int (j : Nat)) Γ1) E
theorem de_gidx {ys : List Str} {w : DE} (hT : GTup X.K X.mg x ys) (he : PE X e (tR X.K W w)) (h : PE X (.Call (.Attribute (.Name x p) "index" apos) [e] [] pos) (tBM X.K "tuple" (fun x xs H Q => ∃ p, ∃ ys : List Str, ∃ z j, x = .ref p ∧ xs = [.str z] ∧ SqT X.K H p (ys.map V.str) ∧ ys[j]? = some z ∧ (∀ m, m < j → ys[m]? ≠ some z) ∧ Q (.int (j : Nat)) H) (tC (.ref (He.ga X.K x))) (tCons (tR X.K W w) tNil))) :
    PE X (.Call (.Attribute (.Name x p) "index" apos) [e] [] pos) (tD X.K W (wGIdx ys w)) := peImp h fun σ H Q ⟨F, S, Γ, Qd, Ed, en, hw, k, ke⟩ => ⟨.inr (.inl ⟨rfl, hT.obj⟩), F, S, Γ, _, Ed, en, hw, fun y Γ1 v H1 ⟨z, j, ey, hz, hn, q⟩ m1 e1 r1 => by
    subst ey
    rw [(r1.dr e1).str]
    exact ⟨_, ys, z, j, rfl, rfl, hT.sq H1, hz, hn, k _ Γ1 _ H1 q m1 e1 (.int _)⟩, ke⟩
end
end Dt

/-! Gat12: l[::-1]; a new list of one's own by +. -/
namespace Dt
open PySem L2
section
variable {X : Cx} {W : WX} {e a b : Expr} {pos p p1 p2 p3 : Pos}
def wRev (w : DE) : DE := fun Γ Q E => w Γ (fun x Γ1 => ∃ ds, x = .list ds ∧ Q (.list ds.reverse) Γ1) E
theorem DaL.rev {K : PySem.W.Frag} {H : Hp} : ∀ {vs : List V} {ds : List PyData}, DaL K H vs ds → DaL K H vs.reverse ds.reverse
  | _, _, .nil => .nil
  | _, _, .cons h t => by
    rw [List.reverse_cons, List.reverse_cons]
    exact (DaL.rev t).append (.cons h .nil)
theorem de_rev {k : Nat} {w : DE} (he : PE X e (tR X.K W w)) : PE X (.Subscript e (.Slice none none (some (.UnaryOp .USub (.Constant (.int 1) k p1) p2)) p3) pos) (tD X.K W (wRev w)) :=
  peImp (pe_revL he) fun σ H Q ⟨F, S, Γ, Qd, Ed, en, hw, k, ke⟩ => ⟨F, S, Γ, _, Ed, en, hw, fun x Γ1 v1 H1 ⟨ds, ex, q⟩ m1 e1 r1 => by
    subst ex
    obtain ⟨a, vs, rfl, h1, h2⟩ := (r1.dr e1).list
    exact ⟨a, vs, rfl, .of h1, fun p hp => k _ Γ1 _ _ q (m1.trans (.of e1 (same_new hp))) (e1.same (same_new hp)) (.newL e1.hid hp (h2.rev))⟩, ke⟩
/-- a new list: a + b -/
def wCatF (wa wb : DE) : DL := fun Γ Q E => wa Γ (fun x Γ1 => wb Γ1 (fun y Γ2 => ∃ xs ys, x = .list xs ∧ y = .list ys ∧ xs.length + ys.length ≤ sizeLine ∧ Q (xs ++ ys) Γ2) E) E
theorem df_cat {wa wb : DE} (ha : PE X a (tR X.K W wa)) (hb : PE X b (tR X.K W wb)) : PE X (.BinOp a .Add b pos) (tF X.K W (wCatF wa wb)) :=
  peImp (pe_op op_cat ha hb) fun σ H Q ⟨F, S, Γ, Qd, Ed, en, hw, k, ke⟩ => ⟨F, S, Γ, _, Ed, en, hw, fun x Γ1 v1 H1 hb m1 e1 r1 => ⟨F, S, Γ1, _, Ed, e1, hb, fun y Γ2 v2 H2 ⟨xs, ys, ex, ey, hz, q⟩ m2 e2 r2 => by
    subst ex ey
    obtain ⟨a1, u1, rfl, h1, g1⟩ := ((r1.mv m2).dr e2).list
    obtain ⟨a2, u2, rfl, h2, g2⟩ := (r2.dr e2).list
    refine ⟨a1, a2, u1, u2, rfl, rfl, h1, h2, by rw [g1.length, g2.length]; exact hz, fun p hp => ?_⟩
    exact k _ Γ2 p _ _ q (e2.hide hp) upd_same ((g1.append g2).mono (same_hide hp)) (e2.fresh0 hp) (fun z => e2.hid p (e2.tin p z) hp) (NoFp.hide e2 hp), ke⟩, ke⟩
end
theorem bt_ValueError : bootBuiltins "ValueError" = some (.type "ValueError") := by decide +kernel
end Dt

/-! Gat13: sorted(set(l)) of a list of ints. -/
namespace Dt
open PySem L2 PyProof.Rows
section
variable {P : Program} {w : World} {A : Around} {E : Value → Shared → Prop} {s : Shared}
/-- the empty set, as it is made -/
abbrev set0 (w : World) : Obj := { cls := .type "set", dict := none, data := .set #[] 0 (.fresh 0 0 (!w.params.followText "set-order")) }
abbrev heap0 (w : World) (s : Shared) : Heap := s.heap.push (set0 w)
/-- what set.__init__ leaves -/
def Filled (w : World) (s : Shared) (ns : List Int) (r : Value) (s2 : Shared) : Prop := r = .none ∧ ∃ h' tk c, s2 = { s with heap := h', toks := tk } ∧ SetR w h' s.heap.objs.size (fun j => decide (j ∈ ns)) c ∧ c ≤ ns.length ∧ ∀ b o, s.heap.get? b = some o → h'.get? b = some o
theorem ints_at {items : Array Value} {ns : List Int} (hit : IntsAre items.toList ns) (hn : items.size = ns.length) (i : Nat) (v : Value) (hv : items[i]? = some v) : ∃ k t, ns[i]? = some k ∧ v = .int k t := by
  have hi : i < ns.length := hn ▸ (Array.getElem?_eq_some_iff.mp hv).1
  obtain ⟨t, e⟩ := IntsAre.int_at hit i v ((Array.getElem?_toList).trans hv)
  exact ⟨ns[i], t, List.getElem?_eq_getElem hi, by rw [e, List.getD_eq_getElem?_getD, List.getElem?_eq_getElem hi]; rfl⟩
theorem set_of_list {l : Addr} {items : Array Value} (ns : List Int) {Q : Value → Shared → Prop} (hh : A.handled = none) (hl : s.heap.IsList l items) (hit : IntsAre items.toList ns) (hb : ns.length + 1 < scanBound)
    (h : ∀ r s2, Filled w s ns r s2 → Q (.ref s.heap.objs.size) s2) : wpAny (model P w) A (call (.type "set") [.ref l]) Q E s := by
  have hn : items.size = ns.length := by have q := IntsAre.length hit; rwa [Array.length_toList] at q
  obtain ⟨_, _, g1⟩ := F.called_set.mro
  have g2 := F.called_set.made; have g3 := F.called_set.sub; have g4 := F.called_set.notType; have g5 := F.called_set.canCreate; have g6 := F.typeCall_set_1 (.ref l)
  refine wpAny_call (codeAny_of_tree (show wpAny _ _ (callAny (.type "set") _) _ _ _ from wpAny_pure ⟨Code.quiet_builtin _ (by decide +kernel), codeAny_builtin F.entry_type_call ?_⟩))
  rw [Around.under_plain (weight_type_call_type "set" [.ref l] []) rfl]
  repeat (any_goals (first | assumption | wp_step))
  refine codeAny_mono (code_set_led1 (.ref l) (E := E) (Q₁ := fun v t => v = .ref s.heap.objs.size ∧ t = { s with heap := heap0 w s }) ⟨rfl, rfl⟩) fun r t hr => ?_
  match r, hr with
  | .error _, z => exact z
  | .ok (.ret _), ⟨e1, e2⟩ =>
    subst e1 e2
    have o0 : (heap0 w s).get? s.heap.objs.size = some (set0 w) := Heap.get?_push_size _ rfl
    have ty : Shared.TypeIs { s with heap := heap0 w s } (.ref s.heap.objs.size) "set" := ⟨_, o0, rfl⟩
    have g7 := F.called_set.init.lookup; have g8 := F.called_set.init.bind (.ref s.heap.objs.size)
    repeat (any_goals (first | assumption | wp_step))
    refine codeAny_mono (codeAny_call_builtin (R := wants (Filled w s ns) E) F.called_set.init.plain F.entry_set_init (check_set_init_1 ty ?_)) fun r2 t2 hr2 => ?_
    · obtain ⟨ol, ho, hcl, nl, hdl⟩ := hl
      obtain ⟨oc, od, oda, osl⟩ := ol
      cases hcl; cases hdl
      have lt : l < s.heap.objs.size := Heap.lt_size ho
      have sz : (heap0 w s).objs.size = s.heap.objs.size + 1 := Heap.size_push ..
      have ho1 : (heap0 w s).get? l = some { cls := .type "list", dict := od, data := .seq items nl, slots := osl } := Heap.get?_push_of_some _ ho
      have hl1 : (heap0 w s).IsList l items := ⟨_, ho1, rfl, nl, rfl⟩
      have k1 := F.sub_list_set; have k2 := F.sub_list_frozenset; have k3 : (Value.type "list" == Value.type "dict") = false := by decide
      have ne1 : l ≠ (heap0 w s).objs.size := fun e => absurd (e.trans sz) (Nat.ne_of_lt (Nat.lt_succ_of_lt lt))
      have nin : s.heap.objs.size ∉ [(heap0 w s).objs.size, l] := by
        simp only [List.mem_cons, List.not_mem_nil, or_false, not_or]
        exact ⟨fun e => absurd (e.trans sz) (Nat.ne_of_lt (Nat.lt_succ_self _)), Nat.ne_of_gt lt⟩
      unfold Builtin.«set.__init__» noKeywords Builtin.Frozenset.updateFrom
      generalize hp : pyIter = pit
      wp_walk
      subst hp
      refine wpAny_pyIter_list hl1 (wpAny_bind (wpAny_runValue ?_))
      refine set_update_ints ((Walks.list (by simp [hh]) _ l ne1 items).toS) s.heap.objs.size nin ns hn hb (ints_at hit hn) (items.size - 0) 0 _ (by omega) (Nat.zero_le _)
        ⟨⟨_, Heap.get?_push_size _ rfl, rfl, rfl⟩, hl1.push _⟩ ⟨0, Nat.le_refl 0, setR_new_at (Heap.get?_push_of_some _ o0)⟩ fun t3 c hm hc hS => ?_
      obtain ⟨h3, x1, x2, tk3, x3⟩ := t3
      have e1 : x1 = s.gens := hm.gens
      have e2 : x2 = s.drawn := hm.drawn
      have e3 : x3 = s.os := hm.os
      subst e1 e2 e3
      refine wpAny_pure (show wpAny _ _ (ret Value.none) _ _ _ from wpAny_pure ⟨rfl, h3, tk3, c, rfl, hS, hn ▸ hc, fun b o e => ?_⟩)
      have lb : b < s.heap.objs.size := Heap.lt_size e
      refine hm.heap b o ?_ (Heap.get?_push_of_some _ (Heap.get?_push_of_some _ e))
      simp only [List.mem_cons, List.not_mem_nil, or_false, not_or]
      exact ⟨Nat.ne_of_lt lb, fun e => absurd (e.trans sz) (Nat.ne_of_lt (Nat.lt_succ_of_lt lb))⟩
    · match r2, hr2 with
      | .error _, z => exact z
      | .ok (.ret v), z =>
        have z1 := z.1
        subst z1
        repeat (any_goals (first | assumption | wp_step))
        exact h _ _ z
      | .ok .next, z => exact z.elim
      | .ok .brk, z => exact z.elim
      | .ok .cont, z => exact z.elim
  | .ok .next, z => exact z.elim
  | .ok .brk, z => exact z.elim
  | .ok .cont, z => exact z.elim
end
/-- set(l) of a list of ints -/
def rSetL (K : PySem.W.Frag) (w : World) : List V → Hp → VK → Prop := fun xs H Q => ∃ (l : Addr) (ns : List Int), xs = [.ref l] ∧ SqL K H l (ns.map V.int) ∧ ns.length ≤ 1000 ∧ ∀ p c, H p = none → c ≤ ns.length → Q (.ref p) (upd H p (SetO w p (fun j => decide (j ∈ ns)) c))
section
variable {X : Cx} {W : WX} {e : Expr} {p p2 pos pos2 : Pos}
theorem cr_setL (hc : X.calm = true) : CallR X (.type "set") (rSetL X.K X.w) := by
  intro pins s σ H xs us Q I r h
  obtain ⟨l, ns, rfl, hl, hn, q⟩ := h
  rw [Vals.ref1 r]
  obtain ⟨its, rv, pl, hz⟩ := I.list hl
  refine set_of_list ns (I.ok.hd hc) pl.isList (by simpa using ints_of_vals rv) (by unfold scanBound; omega) fun r2 s2 hF => ?_
  obtain ⟨_, h', tk, c, rfl, R, hcn, k⟩ := hF
  exact ⟨.ref _, _, I.laid (t' := tk) k (Nat.le_refl _) (setO_new R), rfl, q _ c (I.hok.fresh (Nat.le_refl _)) hcn⟩
/-! ### rising -/
def insU (x : Int) : List Int → List Int
  | [] => [x]
  | y :: r => if x < y then x :: y :: r else if x = y then y :: r else y :: insU x r
def usort (ns : List Int) : List Int := ns.foldr insU []
theorem mem_insU {x z : Int} : ∀ {l : List Int}, z ∈ insU x l ↔ z = x ∨ z ∈ l
  | [] => by simp [insU]
  | y :: r => by
    unfold insU
    by_cases a : x < y
    · simp [a]
    · by_cases b : x = y
      · subst b; simp [a]
      · simp only [a, b, if_false, List.mem_cons, mem_insU (l := r)]
        constructor
        · rintro (h | h | h) <;> simp [h]
        · rintro (h | h | h) <;> simp [h]
theorem insU_up {x : Int} : ∀ {l : List Int}, l.Pairwise (· < ·) → (insU x l).Pairwise (· < ·)
  | [], _ => List.pairwise_singleton _ _
  | y :: r, h => by
    obtain ⟨h1, h2⟩ := List.pairwise_cons.mp h
    unfold insU
    by_cases a : x < y
    · rw [if_pos a]
      refine List.pairwise_cons.mpr ⟨fun z hz => ?_, h⟩
      rcases List.mem_cons.mp hz with rfl | hz
      · exact a
      · exact Int.lt_trans a (h1 z hz)
    · rw [if_neg a]
      by_cases b : x = y
      · rw [if_pos b]; exact h
      · rw [if_neg b]
        refine List.pairwise_cons.mpr ⟨fun z hz => ?_, insU_up h2⟩
        rcases mem_insU.mp hz with rfl | hz
        · omega
        · exact h1 z hz
theorem usort_up (ns : List Int) : (usort ns).Pairwise (· < ·) := by
  induction ns with
  | nil => exact List.Pairwise.nil
  | cons x r ih => exact insU_up ih
theorem mem_usort {z : Int} (ns : List Int) : z ∈ usort ns ↔ z ∈ ns := by
  induction ns with
  | nil => exact Iff.rfl
  | cons x r ih =>
    show z ∈ insU x (usort r) ↔ _
    rw [mem_insU, ih, List.mem_cons]
theorem up_eq : ∀ {a b : List Int}, a.Pairwise (· < ·) → b.Pairwise (· < ·) → (∀ z, z ∈ a ↔ z ∈ b) → a = b
  | [], [], _, _, _ => rfl
  | [], y :: b, _, _, h => absurd ((h y).mpr List.mem_cons_self) List.not_mem_nil
  | x :: a, [], _, _, h => absurd ((h x).mp List.mem_cons_self) List.not_mem_nil
  | x :: a, y :: b, h1, h2, h => by
    obtain ⟨p1, q1⟩ := List.pairwise_cons.mp h1
    obtain ⟨p2, q2⟩ := List.pairwise_cons.mp h2
    have e : x = y := by
      have a1 := (h x).mp List.mem_cons_self
      have a2 := (h y).mpr List.mem_cons_self
      rcases List.mem_cons.mp a1 with a1 | a1
      · exact a1
      · rcases List.mem_cons.mp a2 with a2 | a2
        · exact a2.symm
        · have := p2 x a1
          have := p1 y a2
          omega
    subst e
    refine congrArg (x :: ·) (up_eq q1 q2 fun z => ?_)
    have hz := h z
    constructor
    · intro hz1
      rcases List.mem_cons.mp (hz.mp (List.mem_cons_of_mem _ hz1)) with e | e
      · have := p1 z hz1; omega
      · exact e
    · intro hz1
      rcases List.mem_cons.mp (hz.mpr (List.mem_cons_of_mem _ hz1)) with e | e
      · have := p2 z hz1; omega
      · exact e
/-- sorted(set(e)) -/
def wSrtSet (w : DE) : DE := fun Γ Q E => w Γ (fun d Γ1 => ∃ ns : List Int, d = .list (ns.map .int) ∧ ns.length < 64 ∧ Q (.list ((usort ns).map .int)) Γ1) E
theorem de_srtset {w : DE} (hc : X.calm = true) (hg : Gl X "sorted") (hm : X.mg "sorted" = none) (hg2 : Gl X "set") (hm2 : X.mg "set" = none) (he : PE X e (tR X.K W w))
    (he1 : starEach [e] X.env = (false, eval e X.env) :: starEach [] X.env := by rfl) (he2 : starEach [.Call (.Name "set" p2) [e] [] pos2] X.env = (false, eval (.Call (.Name "set" p2) [e] [] pos2) X.env) :: starEach [] X.env := by rfl) :
    PE X (.Call (.Name "sorted" p) [.Call (.Name "set" p2) [e] [] pos2] [] pos) (tD X.K W (wSrtSet w)) :=
  peImp (pe_callB (cr_sortedSet hc) hg hm (by decide +kernel) (pa_cons (pe_callTy (cr_setL hc) hg2 hm2 boot_set (pa_cons he pa_nil he1) (by decide) (by decide) he1 rfl) pa_nil he2) (by decide) (by decide) he2 rfl) fun σ H Q ⟨F, S, Γ, Qd, Ed, en, hw, k, ke⟩ => by
    refine ⟨F, S, Γ, _, Ed, en, hw, fun d Γ1 v1 H1 ⟨ns, ed, hn, q⟩ m1 e1 r1 => ?_, ke⟩
    subst ed
    obtain ⟨a, vs, rfl, h1, h2⟩ := (r1.dr e1).list
    have e0 := h2.ints
    subst e0
    refine ⟨a, ns, rfl, .of h1, by omega, fun p1 c hp1 hc1 => ?_⟩
    refine ⟨p1, _, c, rfl, upd_same, by omega, fun ms q1 hs hm hl hq => ?_⟩
    have em : ms = usort ns := up_eq hs (usort_up ns) fun z => by rw [hm, mem_usort, decide_eq_true_eq]
    subst em
    have s1 := same_new (o := SetO X.w p1 (fun j => decide (j ∈ ns)) c) hp1
    have e2 := e1.same s1
    have s2 := same_new (o := .lst ((usort ns).map V.int)) hq
    exact k _ Γ1 _ _ q ((m1.trans (.of e1 s1)).trans (.of (e1.same s1) s2)) (e2.same s2) (.newL e2.hid hq (.of_ints _))
end
end Dt

/-! Gat14: sorted, min, max of lists of data that are alike. -/
namespace Dt
open PySem L2
/-! ### a list that stands beside its data -/
def Pd (K : PySem.W.Frag) (h : Hp) (p : V × PyData) : Prop := Da K h p.1 p.2
theorem DaL.zip {K : PySem.W.Frag} {h : Hp} : ∀ {vs : List V} {ds : List PyData}, DaL K h vs ds → ∀ p ∈ vs.zip ds, Pd K h p
  | _, _, .nil, p, hp => by cases hp
  | _, _, .cons a t, p, hp => by
    rcases List.mem_cons.mp hp with rfl | hp
    · exact a
    · exact t.zip p hp
theorem DaL.unzip {K : PySem.W.Frag} {h : Hp} : ∀ {l : List (V × PyData)}, (∀ p ∈ l, Pd K h p) → DaL K h (l.map (·.1)) (l.map (·.2))
  | [], _ => .nil
  | p :: l, q => .cons (q p List.mem_cons_self) (DaL.unzip fun x hx => q x (List.mem_cons_of_mem _ hx))
theorem zip_snd {K : PySem.W.Frag} {h : Hp} : ∀ {vs : List V} {ds : List PyData}, DaL K h vs ds → (vs.zip ds).map (·.2) = ds ∧ (vs.zip ds).map (·.1) = vs
  | _, _, .nil => ⟨rfl, rfl⟩
  | _, _, .cons _ t => by
    obtain ⟨a, b⟩ := zip_snd t
    exact ⟨by rw [List.zip_cons_cons, List.map_cons, a], by rw [List.zip_cons_cons, List.map_cons, b]⟩
theorem each_zip {R : Value → V × PyData → Prop} : ∀ {vs : List V} {ds : List PyData} {us : List Value}, Vals vs us → vs.length = ds.length → (∀ (i : Nat) (v : V) (d : PyData) (u : Value), vs[i]? = some v → ds[i]? = some d → us[i]? = some u → RelV v u → R u (v, d)) → PySem.W.EachIs R us (vs.zip ds)
  | _, [], _, .nil, _, _ => .nil
  | _, [], _, .cons _ _, hl, _ => by cases hl
  | _, _ :: _, _, .nil, hl, _ => by cases hl
  | _, d :: ds, _, .cons r t, hl, h => .cons (h 0 _ d _ rfl rfl rfl r) (each_zip t (Nat.succ.inj hl) fun i v d u a b c e => h (i + 1) v d u (by simpa using a) (by simpa using b) (by simpa using c) e)
theorem readsAll_ix {h : Heap} : ∀ {us : List Value} {ds : List PyData} {as : List Addr}, ReadsAll h us ds as → ∀ (i : Nat) (u : Value) (d : PyData), us[i]? = some u → ds[i]? = some d → ∃ bs, Reads h u d bs
  | _, _, _, .nil, i, u, d, a, _ => by cases a
  | _, _, _, .cons r t, 0, u, d, a, b => by cases a; cases b; exact ⟨_, r⟩
  | _, _, _, .cons r t, i + 1, u, d, a, b => readsAll_ix t i u d (by simpa using a) (by simpa using b)
theorem each_vals : ∀ {out : List Value} {bs : List (V × PyData)}, PySem.W.EachIs (fun u p => RelV p.1 u) out bs → Vals (bs.map (·.1)) out
  | _, _, .nil => .nil
  | _, _, .cons r t => .cons r (each_vals t)
section
variable {X : Cx} {K : PySem.W.Frag} {W : WX}
/-- sorted(l) -/
structure SrtOk (ds : List PyData) : Prop where
  al : PySem.W.AllAlike ds
  so : PySem.W.Sortable ds
  ln : ds.length ≤ sizeLine
  dp : ∀ d ∈ ds, d.depth ≤ 60
  lay : PyData.canLayAll0 ds = true
def rSortD (K : PySem.W.Frag) : List V → Hp → VK → Prop := fun xs H Q => ∃ (a : Addr) (vs : List V) (ds : List PyData), xs = [.ref a] ∧ SqL K H a vs ∧ DpAll K H vs ds ∧ vs.length = ds.length ∧ SrtOk ds ∧
  ∀ p, H p = none → Q (.ref p) (upd H p (.lst (((vs.zip ds).mergeSort (PySem.W.dataLe false (·.2))).map (·.1))))
theorem cr_sortD (hu : X.A.units + 65 < cLine) : CallR X (.builtin "sorted") (rSortD X.K) := by
  intro pins s σ H xs us Q I r h
  obtain ⟨a, vs, ds, rfl, ha, hd, hl, ok, q⟩ := h
  rw [Vals.ref1 r]
  obtain ⟨its, rv, pl, hz⟩ := I.list ha
  obtain ⟨as, hr⟩ := Dp.readsAll I ds vs its hd rv
  have em : (vs.zip ds).map (·.2) = ds := List.map_snd_zip (by omega)
  have hlz : (vs.zip ds).length = ds.length := by rw [List.length_zip]; omega
  have e1 : PySem.W.EachIs (fun u p => RelV p.1 u) its (vs.zip ds) := each_zip rv hl fun _ _ _ _ _ _ _ e => e
  have e2 : PySem.W.EachIs (fun u p => ∃ as, Reads s.heap u p.2 as) its (vs.zip ds) := each_zip rv hl fun i v d u _ b c _ => readsAll_ix hr i u d c b
  refine PySem.W.sorted_data (enc := fun p : V × PyData => p.2) (by simpa using pl.isList) e1 e2 (by rw [em]; exact ok.al) (by rw [em]; exact ok.so) (by rw [hlz]; exact ok.ln) (fun b hb => ?_) fun out ho eo => ?_
  · have : b.2 ∈ ds := by rw [← em]; exact List.mem_map_of_mem hb
    have := ok.dp _ this
    omega
  · obtain ⟨ep, he⟩ := PyProof.Rows.sortedAll_at s.heap its (List.toArray out)
    have hlen : (((vs.zip ds).mergeSort (PySem.W.dataLe false (·.2))).map (·.1)).length ≤ sizeLine := by rw [List.length_map, List.length_mergeSort, hlz]; exact ok.ln
    exact ⟨.ref _, upd H (s.heap.objs.size + 1) (.lst (((vs.zip ds).mergeSort (PySem.W.dataLe false (·.2))).map (·.1))), I.laid (t' := s.toks) (fun _ _ => PyProof.Rows.sortedAll_old) (Nat.le_succ _) ⟨hlen, out, ep, each_vals eo, he⟩, rfl, q _ (I.hok.fresh (Nat.le_succ _))⟩
def SrtC (dx : List PyData) (d : PyData) : Prop := ∃ ds, dx = [.list ds] ∧ SrtOk ds ∧ d = .list (ds.mergeSort (PySem.W.dataLe false id))
theorem ok_sort : OkC K (rSortD K) SrtC := fun S H xs dx d Q hS ho hx k => by
  obtain ⟨ds, rfl, ok, rfl⟩ := ho
  obtain ⟨v, rfl, hv⟩ := hx.one
  obtain ⟨a, vs, rfl, h1, h2⟩ := hv.list
  refine ⟨a, vs, ds, rfl, .of h1, (h2.mono off_same).dp ok.lay, h2.length, ok, fun p hp => k _ _ (same_new hp) (.newL hS hp ?_)⟩
  have e : ds.mergeSort (PySem.W.dataLe false id) = ((vs.zip ds).mergeSort (PySem.W.dataLe false (·.2))).map (·.2) := by
    conv => lhs; rw [← (zip_snd h2).1]
    exact (List.map_mergeSort (f := fun x : V × PyData => x.2) (r := PySem.W.dataLe false fun x : V × PyData => x.2) (s := PySem.W.dataLe false id) fun _ _ _ _ => rfl).symm
  rw [e]
  exact DaL.unzip fun p hp => h2.zip p (List.mem_mergeSort.mp hp)
/-! ### min, max -/
def rBest (K : PySem.W.Frag) (best : PyData → List PyData → PyData) : List V → Hp → VK → Prop := fun xs H Q => ∃ (a : Addr) (vs : List V) (d : PyData) (ds : List PyData), xs = [.ref a] ∧ SqL K H a vs ∧ DpAll K H vs (d :: ds) ∧ vs.length = (d :: ds).length ∧ PySem.W.AlikeAll (d :: ds) ∧ PyData.depthAll (d :: ds) ≤ 60 ∧
  ∀ (i : Nat) (v : V), vs[i]? = some v → (d :: ds)[i]? = some (best d ds) → Q v H
theorem best_mem (f : PyData → PyData → Bool) : ∀ (ds : List PyData) (d : PyData), ds.foldl (fun a y => if f y a then y else a) d ∈ d :: ds
  | [], d => List.mem_cons_self
  | x :: ds, d => by
    rw [List.foldl_cons]
    have ih := best_mem f ds (if f x d then x else d)
    rcases List.mem_cons.mp ih with e | e
    · rw [e]
      cases f x d
      · exact List.mem_cons_self
      · exact List.mem_cons_of_mem _ List.mem_cons_self
    · exact List.mem_cons_of_mem _ (List.mem_cons_of_mem _ e)
theorem best_rd {pins : List (Addr × Obj)} {s : Shared} {σ : St} {H : Hp} {vs : List V} {its : List Value} {d b : PyData} {ds : List PyData} {as : List Addr} (I : Inv X pins σ H s) (rv : Vals vs its) (hl : vs.length = (d :: ds).length) (hr : ReadsAll s.heap its (d :: ds) as) (al : PySem.W.AlikeAll (d :: ds)) (hb : b ∈ d :: ds)
    {i : Nat} {u : Value} {h' : Heap} {tk : Nat} {bs : List Addr} (hu : its.toArray[i]? = some u) (hrd : Reads h' u b bs) (hk : ∀ c o, s.heap.get? c = some o → h'.get? c = some o) :
    ∃ v, vs[i]? = some v ∧ RelV v u ∧ (d :: ds)[i]? = some b ∧ Inv X pins σ H { s with heap := h', toks := tk } := by
  have hu' : its[i]? = some u := by simpa using hu
  have hi : i < its.length := (List.getElem?_eq_some_iff.mp hu').1
  have hvl : vs.length = its.length := rv.length
  have hdi : (d :: ds)[i]? = some ((d :: ds)[i]'(by omega)) := List.getElem?_eq_getElem (by omega)
  obtain ⟨cs, r1⟩ := readsAll_ix hr i u _ hu' hdi
  have e : (d :: ds)[i]'(by omega) = b := PySem.W.alike_unique _ _ u cs bs (al.1 _ (List.getElem_mem _) _ hb) (PySem.W.reads_keeps hk r1) hrd
  have hvi : vs[i]? = some (vs[i]'(by omega)) := List.getElem?_eq_getElem (by omega)
  obtain ⟨u', h1, h2⟩ := rv.get hvi
  rw [hu'] at h1
  cases h1
  exact ⟨_, hvi, h2, by rw [hdi, e], I.kept hk⟩
theorem cr_minD (hc : X.calm = true) (hu : X.A.units + 65 < cLine) : CallR X (.builtin "min") (rBest X.K PySem.W.minD) := by
  intro pins s σ H xs us Q I r h
  obtain ⟨a, vs, d, ds, rfl, ha, hd, hl, al, dp, q⟩ := h
  rw [Vals.ref1 r]
  obtain ⟨its, rv, pl, hz⟩ := I.list ha
  obtain ⟨as, hr⟩ := Dp.readsAll I (d :: ds) vs its hd rv
  refine PySem.W.min_list_data (I.ok.hd hc) (by simpa using pl.isList) (by simpa using hr) al (by omega) fun i u h' tk bs hv hrd hk => ?_
  obtain ⟨v, e1, e2, e3, J⟩ := best_rd (tk := tk) I rv hl hr al (best_mem PySem.W.dataLt ds d) hv hrd hk
  exact ⟨v, H, J, e2, q i v e1 e3⟩
theorem cr_maxD (hc : X.calm = true) (hu : X.A.units + 65 < cLine) : CallR X (.builtin "max") (rBest X.K PySem.W.maxD) := by
  intro pins s σ H xs us Q I r h
  obtain ⟨a, vs, d, ds, rfl, ha, hd, hl, al, dp, q⟩ := h
  rw [Vals.ref1 r]
  obtain ⟨its, rv, pl, hz⟩ := I.list ha
  obtain ⟨as, hr⟩ := Dp.readsAll I (d :: ds) vs its hd rv
  refine PySem.W.max_list_data (I.ok.hd hc) (by simpa using pl.isList) (by simpa using hr) al (by omega) fun i u h' tk bs hv hrd hk => ?_
  obtain ⟨v, e1, e2, e3, J⟩ := best_rd (tk := tk) I rv hl hr al (best_mem (fun y a => PySem.W.dataLt a y) ds d) hv hrd hk
  exact ⟨v, H, J, e2, q i v e1 e3⟩
def BestC (best : PyData → List PyData → PyData) (dx : List PyData) (d : PyData) : Prop := ∃ x xs, dx = [.list (x :: xs)] ∧ PySem.W.AlikeAll (x :: xs) ∧ PyData.depthAll (x :: xs) ≤ 60 ∧ PyData.canLayAll0 (x :: xs) = true ∧ d = best x xs
theorem ok_best {best : PyData → List PyData → PyData} : OkC K (rBest K best) (BestC best) := fun S H xs dx d Q hS ho hx k => by
  obtain ⟨y, ys, rfl, al, dp, lay, rfl⟩ := ho
  obtain ⟨v, rfl, hv⟩ := hx.one
  obtain ⟨a, vs, rfl, h1, h2⟩ := hv.list
  refine ⟨a, vs, y, ys, rfl, .of h1, (h2.mono off_same).dp lay, h2.length, al, dp, fun i v e1 e2 => ?_⟩
  obtain ⟨d, e3, e4⟩ := h2.getV e1
  rw [e2] at e3
  cases e3
  exact k _ H (.refl H) e4
/-- max(a, b), min(a, b) of ints -/
def Max2C (dx : List PyData) (d : PyData) : Prop := ∃ i j : Int, dx = [.int i, .int j] ∧ d = .int (if j > i then j else i)
theorem ok_max2 : OkC K (fun xs H Q => ∃ i j, xs = [.int i, .int j] ∧ Q (.int (if j > i then j else i)) H) Max2C := fun S H xs dx d Q hS ho hx k => by
  obtain ⟨i, j, rfl, rfl⟩ := ho
  obtain ⟨v, w, rfl, h1, h2⟩ := hx.two
  rw [h1.int, h2.int]
  exact ⟨i, j, rfl, k _ H (.refl H) (.int _)⟩
theorem bt_sorted : bootBuiltins "sorted" = some (.builtin "sorted") := by decide +kernel
theorem bt_min : bootBuiltins "min" = some (.builtin "min") := by decide +kernel
theorem bt_max : bootBuiltins "max" = some (.builtin "max") := by decide +kernel
end
end Dt

/-! Gat15: d.keys(), list(d.keys()), sorted(d.keys()). -/
namespace Dt
open PySem L2 PyProof.Rows
/-- a view of the keys of d -/
def KvO (d p : Addr) : HO := .ext fun h => PySem.W.KdlKeysView h p d
theorem kvO_new {P : Program} {w : World} {H : Hp} {h : Heap} {d p : Addr} (R : PySem.W.KdlKeysView h p d) : ObjOk P w H h p (KvO d p) := by
  have ⟨o, ho, _⟩ := R
  exact ⟨R, ⟨o, ho⟩, fun h1 h2 q k => let ⟨o, ho, x⟩ := q; ⟨o, k o ho, x⟩⟩
section
variable {X : Cx} {W : WX} {e : Expr} {te : TE} {p apos cpos pos : Pos}
def tKeys (te : TE) : TE := fun σ H Q => te σ H fun x H1 => ∃ (d : Addr) (kvs : List (Key × V)), x = .ref d ∧ H1 d = some (.dK kvs) ∧ ∀ p, H1 p = none → Q (.ref p) (upd H1 p (KvO d p))
theorem pe_keys (he : PE X e te) (hb : attributeBase e "keys" X.env (eval e X.env) = eval e X.env := by rfl) (hn : (apos.endLine == cpos.line) = true := by rfl) : PE X (.Call (.Attribute e "keys" apos) [] [] cpos) (tKeys te) := by
  refine ⟨fun pins s σ H Q I h => ?_⟩
  refine wpAny_Call_method (T := "dict") (id := "dict.keys") hb rfl hn F.plainAttrs_dict F.slot_dict_keys F.type_dict_keys (thn (he.run pins s σ H _ I h) fun u s1 ⟨x, H1, I1, rx, d, kvs, ex, hd, q⟩ => ?_)
  subst ex
  obtain rfl : u = Value.ref d := rx
  obtain ⟨hz, hs0, vs, kv, hdo⟩ := I1.hok d _ hd
  refine ⟨hdo.typeIs, hdo.mapOf.noDict, (show wpAny _ _ (callWith cpos (.builtin "dict.keys") [.ref d] [] []) _ X.xe s1 from ?_)⟩
  refine method_meetsIn F.slot_dict_keys F.entry_dict_keys rfl (PySem.evalArgs_none ⟨rfl, hdo.typeIs, F.args_dict_keys_1 _, _, PySem.W.kdl_meets_keys (mixKind X.prog X.w) d hs0, ⟨vs, hdo⟩, ?_⟩)
  exact ⟨.ref _, _, I1.laid (t' := s1.toks) (fun b u e => Heap.get?_push_of_some _ e) (Nat.le_refl _) (kvO_new ⟨_, Heap.get?_push_size _ rfl, rfl, rfl⟩), rfl, q _ (I1.hok.fresh (Nat.le_refl _))⟩
/-- what a view and its dict are -/
theorem view_at {pins : List (Addr × Obj)} {s : Shared} {σ : L2.St} {H : Hp} {a d : Addr} {kvs : List (Key × V)} (I : Inv X pins σ H s) (ha : H a = some (KvO d a)) (hd : H d = some (.dK kvs)) :
    ∃ (vs : List (Key × Value)) (ep : Nat), KV kvs vs ∧ vs.length ≤ sizeLine ∧ PySem.W.KdlKeysView s.heap a d ∧ s.heap.DictAt (mixKind X.prog X.w) d vs ep := by
  obtain ⟨hz, hs0, vs, kv, hdo⟩ := I.hok d _ hd
  obtain ⟨ep, hat⟩ := hdo.dictAt
  exact ⟨vs, ep, kv, by rw [← Paired.length kv]; exact hz, (I.hok a _ ha).1, hat⟩
theorem keys_vals : ∀ {kvs : List (Key × V)} {vs : List (Key × Value)} {acc : List Value}, KV kvs vs → acc.length = vs.length → (∀ (j : Nat) (u : Value), acc[j]? = some u → ∃ k x, vs[j]? = some (k, x) ∧ keyIs k u = true) → Vals (kvs.map fun kv => kV kv.1) acc
  | [], [], [], _, _, _ => .nil
  | p :: kvs, q :: vs, u :: acc, .cons h t, hl, ha => by
    obtain ⟨k, x, e1, e2⟩ := ha 0 u rfl
    cases e1
    have hk : p.1 = k := h.1
    exact .cons (show RelV (kV p.1) u by rw [hk]; exact relV_key e2) (keys_vals t (Nat.succ.inj hl) fun j u hu => by simpa using ha (j + 1) u (by simpa using hu))
  | [], [], _ :: _, _, hl, _ => by cases hl
  | _ :: _, _ :: _, [], _, hl, _ => by cases hl
def rListKv : List V → Hp → VK → Prop := fun xs H Q => ∃ (a d : Addr) (kvs : List (Key × V)), xs = [.ref a] ∧ H a = some (KvO d a) ∧ H d = some (.dK kvs) ∧ ∀ p, H p = none → Q (.ref p) (upd H p (.lst (kvs.map fun kv => kV kv.1)))
theorem cr_listKv (hc : X.calm = true) : CallR X (.type "list") rListKv := by
  intro pins s σ H xs us Q I r h
  obtain ⟨a, d, kvs, rfl, ha, hd, q⟩ := h
  rw [Vals.ref1 r]
  obtain ⟨vs, ep, kv, hz, hv, hat⟩ := view_at I ha hd
  refine PySem.W.kdl_call (PySem.W.kdl_keys (knd := mixKind X.prog X.w) (kvs := vs) (ep := ep)) (I.ok.hd hc) ⟨hv, hat⟩ hz fun h' tk acc c hk hS hi => ?_
  have hl : (kvs.map fun kv => kV kv.1).length ≤ sizeLine := by rw [List.length_map, Paired.length kv]; exact hz
  refine ⟨.ref _, _, I.laid (t' := tk) hk (Nat.le_refl _) (o := .lst (kvs.map fun kv => kV kv.1)) ⟨hl, acc.toList, c, keys_vals kv (by rw [Array.length_toList]; exact hi.1) fun j u hu => ?_, ?_⟩, rfl, q _ (I.hok.fresh (Nat.le_refl _))⟩
  · obtain ⟨k, x, e1, e2⟩ := hi.2 j u (by rw [← Array.getElem?_toList]; exact hu)
    exact ⟨k, x, e1, e2⟩
  · rw [Array.toArray_toList]
    exact hS
theorem ints_of_keys {ks : List Int} {us : List Value} (h : Vals (ks.map V.int) us) : IntsAre us ks := by
  induction ks generalizing us with
  | nil => cases h; exact .nil
  | cons k ks ih =>
    cases h with
    | cons r t =>
      obtain ⟨tk, rfl⟩ := r
      exact .cons _ _ (ih t)
def rSortKv : List V → Hp → VK → Prop := fun xs H Q => ∃ (a d : Addr) (kvs : List (Key × V)) (ks : List Int), xs = [.ref a] ∧ H a = some (KvO d a) ∧ H d = some (.dK kvs) ∧ kvs.map (·.1) = ks.map Sum.inl ∧ ks.length < 64 ∧
  ∀ (ys : List Int) (p : Addr), ys.Perm ks → ys.Pairwise (· ≤ ·) → H p = none → Q (.ref p) (upd H p (.lst (ys.map V.int)))
theorem cr_sortKv (hc : X.calm = true) : CallR X (.builtin "sorted") rSortKv := by
  intro pins s σ H xs us Q I r h
  obtain ⟨a, d, kvs, ks, rfl, ha, hd, hks, h64, q⟩ := h
  rw [Vals.ref1 r]
  obtain ⟨vs, ep, kv, hz, hv, hat⟩ := view_at I ha hd
  refine Calls.call_function_entry kind_sorted plain_sorted entry_sorted (args_sorted1 _) ?_
  unfold Builtin.«sorted»
  refine wpAny_bind (m := checkCount "sorted" 1 1 _) (wpAny_pure (wpAny_bind (PySem.W.kdu_collect (A := X.A.in1) (PySem.W.kdl_keys (knd := mixKind X.prog X.w) (kvs := vs) (ep := ep)) (I.ok.hd hc) ⟨hv, hat⟩ hz fun h' tk acc hk hi => ?_)))
  have ev : Vals (ks.map V.int) acc.toList := by
    have z := keys_vals kv (acc := acc.toList) (by rw [Array.length_toList]; exact hi.1) fun j u hu => by
      obtain ⟨k, x, e1, e2⟩ := hi.2 j u (by rw [← Array.getElem?_toList]; exact hu)
      exact ⟨k, x, e1, e2⟩
    have e : kvs.map (fun kv => kV kv.1) = ks.map V.int := by
      have e1 : kvs.map (fun kv => kV kv.1) = (kvs.map (·.1)).map kV := by rw [List.map_map]; rfl
      rw [e1, hks, List.map_map]
      rfl
    rw [e] at z
    exact z
  have hal : acc.toList.length = ks.length := by rw [← ev.length, List.length_map]
  have I1 : Inv X pins σ H { s with heap := h', toks := tk } := I.kept hk
  refine wpAny_bind (wpAny_newList ?_ (by rw [hal, sizeLine_eq]; omega))
  have oL : (h'.push (seqObj "list" acc.toList.toArray 0)).get? h'.objs.size = some (seqObj "list" acc.toList.toArray 0) := Heap.get?_push_size _ rfl
  refine wpAny_bind (wpAny_holding (wpAny_call_entry slot_list_sort ⟨_, oL, rfl⟩ entry_list_sort
    (list_sort_tree (s := { s with heap := h'.push (seqObj "list" acc.toList.toArray 0), toks := tk }) oL (ints_of_keys ev) (by rw [hal]; exact h64) fun out ys g1 g2 g3 => ⟨_, rfl, ?_⟩) (args_list_sort _)))
  obtain ⟨e', he'⟩ := sortedHeap_at (vs := acc.toList) (out := out) oL
  have hlen : (ys.map V.int).length ≤ sizeLine := by rw [List.length_map, g2.length_eq, sizeLine_eq]; omega
  refine wpAny_pure ⟨_, rfl, .ref h'.objs.size, upd H h'.objs.size (.lst (ys.map V.int)), I1.laid (t' := tk) (fun b u e => ?_) (Nat.le_refl _) ⟨hlen, out.toList, e', vals_of_ints g1, he'⟩, rfl, q ys _ g2 g3 (I1.hok.fresh (Nat.le_refl _))⟩
  exact (sortedHeap_old (Nat.ne_of_lt (Heap.lt_size e)) (by rw [size_push']; exact Nat.lt_succ_of_lt (Heap.lt_size e))).trans (Heap.get?_push_of_some _ e)
end
end Dt

/-! Gat16: dicts as data, dicts of one's own. -/
namespace Dt
open PySem L2
abbrev Kps := List (Key × PyData)
def encK (p : Key × PyData) : PyData × PyData := (kd p.1, p.2)
def eD (kps : Kps) : PyData := .dict (kps.map encK)
def lk : Kps → Key → Option PyData
  | [], _ => none
  | p :: r, k => if p.1 = k then some p.2 else lk r k
def pk (kps : Kps) (k : Key) (d : PyData) : Kps := if (kps.any fun p => decide (p.1 = k)) = true then kps.map (fun p => if p.1 = k then (p.1, d) else p) else kps ++ [(k, d)]
theorem kd_inj {a b : Key} (h : kd a = kd b) : a = b := by
  cases a <;> cases b <;> first | (cases h; rfl) | cases h
theorem isX_eD (kps : Kps) : isX (eD kps) = false := by
  cases kps with
  | nil => rfl
  | cons p r => obtain ⟨k, d⟩ := p; cases k <;> rfl
section
variable {K : PySem.W.Frag} {h : Hp}
theorem DaD.pairs : ∀ {kvs : List (Key × V)} {kps : Kps}, DaD K h kvs (kps.map encK) → Paired (fun (a : Key × V) (b : Key × PyData) => a.1 = b.1 ∧ Da K h a.2 b.2) kvs kps
  | [], [], _ => .nil
  | [], _ :: _, r => by cases r
  | _ :: _, [], r => by cases r
  | a :: kvs, p :: kps, r => by
    have r' : DaD K h (a :: kvs) ((kd p.1, p.2) :: kps.map encK) := r
    generalize e : ((kd p.1, p.2) :: kps.map encK) = l at r'
    cases r' with
    | @cons k v _ d ps q t =>
      obtain ⟨e1, e2⟩ := List.cons.inj e
      obtain ⟨e3, e4⟩ := Prod.mk.inj e1
      have ek := kd_inj e3
      subst e2 e4
      exact .cons ⟨ek.symm, q⟩ (DaD.pairs t)
theorem DaD.ofPairs : ∀ {kvs : List (Key × V)} {kps : Kps}, Paired (fun (a : Key × V) (b : Key × PyData) => a.1 = b.1 ∧ Da K h a.2 b.2) kvs kps → DaD K h kvs (kps.map encK)
  | _, _, .nil => .nil
  | (k, v) :: _, (k', d) :: _, .cons ⟨e, q⟩ t => by
    cases e
    exact .cons q (DaD.ofPairs t)
theorem DaD.keysE {kvs : List (Key × V)} {kps : Kps} (r : DaD K h kvs (kps.map encK)) : kvs.map (·.1) = kps.map (·.1) := by
  have q := r.pairs
  clear r
  induction q with
  | nil => rfl
  | cons a _ ih => rw [List.map_cons, List.map_cons, ih, a.1]
theorem DaD.lk {kvs : List (Key × V)} {kps : Kps} (r : DaD K h kvs (kps.map encK)) (k : Key) : (∀ d, Dt.lk kps k = some d → ∃ v, valV kvs k = some v ∧ Da K h v d) ∧ (Dt.lk kps k = none → valV kvs k = none) := by
  have q := r.pairs
  clear r
  induction q with
  | nil => exact ⟨fun d e => (by cases e), fun _ => rfl⟩
  | @cons a b as bs hab t ih =>
    obtain ⟨e, hv⟩ := hab
    by_cases c : b.1 = k
    · have ea : a.1 = k := e.trans c
      refine ⟨fun d z => ?_, fun z => ?_⟩
      · have z : (if b.1 = k then some b.2 else Dt.lk bs k) = some d := z
        rw [if_pos c] at z
        cases z
        exact ⟨a.2, valV_pos ea, hv⟩
      · have z : (if b.1 = k then some b.2 else Dt.lk bs k) = none := z
        rw [if_pos c] at z
        cases z
    · have ea : ¬ a.1 = k := fun z => c (e.symm.trans z)
      have ez : Dt.lk (b :: bs) k = Dt.lk bs k := if_neg c
      rw [valV_neg ea, ez]
      exact ih
theorem DaD.put {kvs : List (Key × V)} {kps : Kps} {v : V} {d : PyData} (r : DaD K h kvs (kps.map encK)) (k : Key) (hv : Da K h v d) : DaD K h (putK kvs k v) ((pk kps k d).map encK) := by
  have q := r.pairs
  have ea : (kvs.any fun kv => decide (kv.1 = k)) = kps.any fun p => decide (p.1 = k) := by
    clear r
    induction q with
    | nil => rfl
    | cons a _ ih => rw [List.any_cons, List.any_cons, ih, a.1]
  unfold putK pk
  rw [ea]
  cases kps.any fun p => decide (p.1 = k) with
  | true =>
    rw [if_pos rfl, if_pos rfl]
    refine DaD.ofPairs ?_
    clear r ea
    induction q with
    | nil => exact .nil
    | @cons a b as bs hab t ih =>
      rw [List.map_cons, List.map_cons]
      refine .cons ?_ ih
      by_cases c : b.1 = k
      · rw [if_pos c, if_pos (hab.1.trans c)]
        exact ⟨hab.1, hv⟩
      · rw [if_neg c, if_neg (fun z => c (hab.1.symm.trans z))]
        exact hab
  | false =>
    rw [if_neg Bool.false_ne_true, if_neg Bool.false_ne_true, List.map_append]
    refine DaD.ofPairs (kps := kps ++ [(k, d)]) ?_ |> fun z => by rw [List.map_append] at z; exact z
    clear r ea
    induction q with
    | nil => exact .cons ⟨rfl, hv⟩ .nil
    | cons hab t ih => exact .cons hab ih
theorem Dr.eD {S : Hd} {H : Hp} {v : V} {kps : Kps} (r : Dr K S H v (eD kps)) : ∃ a kvs, v = .ref a ∧ H a = some (.dK kvs) ∧ DaD K (off S H) kvs (kps.map encK) := r.dict (isX_eD kps)
theorem da_key {H : Hp} : ∀ k : Key, Da K H (kV k) (kd k)
  | .inl i => .int i
  | .inr x => .str x
theorem da_keys {H : Hp} {kvs : List (Key × V)} {kps : Kps} (e : kvs.map (·.1) = kps.map (·.1)) : DaL K H (kvs.map fun kv => kV kv.1) (kps.map fun p => kd p.1) := by
  have e1 : kvs.map (fun kv => kV kv.1) = (kvs.map (·.1)).map kV := by rw [List.map_map]; rfl
  have e2 : kps.map (fun p => kd p.1) = (kps.map (·.1)).map kd := by rw [List.map_map]; rfl
  rw [e1, e2, e]
  generalize kps.map (·.1) = ks
  induction ks with
  | nil => exact .nil
  | cons k r ih => exact .cons (da_key k) ih
end
section
variable {X : Cx} {W : WX} {e a b c : Expr} {p p2 pos pos2 apos cpos : Pos}
/-! ### list(d.keys()), sorted(d.keys()) -/
def wLKeys (w : DE) : DE := fun Γ Q E => w Γ (fun x Γ1 => ∃ kps, x = eD kps ∧ Q (.list (kps.map fun p => kd p.1)) Γ1) E
theorem de_lkeys {w : DE} (hc : X.calm = true) (hg : Gl X "list") (hm : X.mg "list" = none) (he : PE X e (tR X.K W w)) (hb : attributeBase e "keys" X.env (eval e X.env) = eval e X.env := by rfl) (hn : (apos.endLine == cpos.line) = true := by rfl)
    (he2 : starEach [.Call (.Attribute e "keys" apos) [] [] cpos] X.env = (false, eval (.Call (.Attribute e "keys" apos) [] [] cpos) X.env) :: starEach [] X.env := by rfl) :
    PE X (.Call (.Name "list" p) [.Call (.Attribute e "keys" apos) [] [] cpos] [] pos) (tD X.K W (wLKeys w)) :=
  peImp (pe_callTy (cr_listKv hc) hg hm bt_list (pa_cons (pe_keys he hb hn) pa_nil he2) (by decide) (by decide) he2 rfl) fun σ H Q ⟨F, S, Γ, Qd, Ed, en, hw, k, ke⟩ => by
    refine ⟨F, S, Γ, _, Ed, en, hw, fun x Γ1 v1 H1 ⟨kps, ed, q⟩ m1 e1 r1 => ?_, ke⟩
    subst ed
    obtain ⟨a, kvs, rfl, h1, h2⟩ := (r1.dr e1).eD
    refine ⟨a, kvs, rfl, h1, fun p1 hp1 => ?_⟩
    have s1 := same_new (o := KvO a p1) hp1
    have e2 := e1.same s1
    refine ⟨p1, a, kvs, rfl, upd_same, s1 _ _ h1, fun q1 hq1 => ?_⟩
    have s2 := same_new (o := .lst (kvs.map fun kv => kV kv.1)) hq1
    exact k _ Γ1 _ _ q ((m1.trans (.of e1 s1)).trans (.of (e1.same s1) s2)) (e2.same s2) (.newL e2.hid hq1 (da_keys h2.keysE))
def wSKeys (w : DE) : DE := fun Γ Q E => w Γ (fun x Γ1 => ∃ (kps : Kps) (ks : List Int), x = eD kps ∧ kps.map (·.1) = ks.map Sum.inl ∧ ks.Nodup ∧ ks.length < 64 ∧ Q (.list ((usort ks).map .int)) Γ1) E
theorem up_of_perm {ys ks : List Int} (h1 : ys.Perm ks) (h2 : ys.Pairwise (· ≤ ·)) (h3 : ks.Nodup) : ys = usort ks := by
  refine up_eq ?_ (usort_up ks) fun z => by rw [h1.mem_iff, mem_usort]
  have nd : ys.Nodup := h1.nodup_iff.mpr h3
  exact (h2.and nd).imp fun h => by omega
theorem de_skeys {w : DE} (hc : X.calm = true) (hg : Gl X "sorted") (hm : X.mg "sorted" = none) (he : PE X e (tR X.K W w)) (hb : attributeBase e "keys" X.env (eval e X.env) = eval e X.env := by rfl) (hn : (apos.endLine == cpos.line) = true := by rfl)
    (he2 : starEach [.Call (.Attribute e "keys" apos) [] [] cpos] X.env = (false, eval (.Call (.Attribute e "keys" apos) [] [] cpos) X.env) :: starEach [] X.env := by rfl) :
    PE X (.Call (.Name "sorted" p) [.Call (.Attribute e "keys" apos) [] [] cpos] [] pos) (tD X.K W (wSKeys w)) :=
  peImp (pe_callB (cr_sortKv hc) hg hm bt_sorted (pa_cons (pe_keys he hb hn) pa_nil he2) (by decide) (by decide) he2 rfl) fun σ H Q ⟨F, S, Γ, Qd, Ed, en, hw, k, ke⟩ => by
    refine ⟨F, S, Γ, _, Ed, en, hw, fun x Γ1 v1 H1 ⟨kps, ks, ed, ek, nd, h64, q⟩ m1 e1 r1 => ?_, ke⟩
    subst ed
    obtain ⟨a, kvs, rfl, h1, h2⟩ := (r1.dr e1).eD
    refine ⟨a, kvs, rfl, h1, fun p1 hp1 => ?_⟩
    have s1 := same_new (o := KvO a p1) hp1
    have e2 := e1.same s1
    refine ⟨p1, a, kvs, ks, rfl, upd_same, s1 _ _ h1, h2.keysE.trans ek, h64, fun ys q1 hp hs hq1 => ?_⟩
    have ey := up_of_perm hp hs nd
    subst ey
    have s2 := same_new (o := .lst ((usort ks).map V.int)) hq1
    exact k _ Γ1 _ _ q ((m1.trans (.of e1 s1)).trans (.of (e1.same s1) s2)) (e2.same s2) (.newL e2.hid hq1 (.of_ints _))
/-! ### dict(pairs) -/
def PairC (dx : List PyData) (d : PyData) : Prop := ∃ kps : Kps, dx = [.list (kps.map fun p => .tuple [kd p.1, p.2])] ∧ (kps.map (·.1)).Nodup ∧ d = eD kps
theorem pairs_of {K : PySem.W.Frag} {h : Hp} : ∀ {vs : List V} {kps : Kps}, DaL K h vs (kps.map fun p => .tuple [kd p.1, p.2]) → ∃ (ps : List Addr) (kvs : List (Key × V)), vs = ps.map V.ref ∧ Paired (fun p kv => SqT K h p [kV kv.1, kv.2]) ps kvs ∧ DaD K h kvs (kps.map encK)
  | _, [], .nil => ⟨[], [], rfl, .nil, .nil⟩
  | _, p :: kps, .cons hv t => by
    obtain ⟨ps, kvs, rfl, h1, h2⟩ := pairs_of t
    cases hv with
    | tup hs hl =>
      obtain ⟨u, w, rfl, a, b⟩ := hl.two
      have e : u = kV p.1 := key_v (S := fun _ => False) (H := h) (K := K) (.inl (by
        have : off (fun _ => False) h = h := by funext b; exact off_in (fun z => z)
        rw [this]; exact a))
      subst e
      exact ⟨_ :: ps, (p.1, w) :: kvs, rfl, .cons hs h1, .cons b h2⟩
theorem ok_dictP {K : PySem.W.Frag} : OkC K (fun xs H Q => ∃ (a : Addr) (ps : List Addr) (kvs : List (Key × V)), xs = [.ref a] ∧ SqL K H a (ps.map V.ref) ∧ Paired (fun p kv => SqT K H p [kV kv.1, kv.2]) ps kvs ∧ ∀ p, H p = none → Q (.ref p) (upd H p (.dK (mergeK [] kvs)))) PairC := fun S H xs dx d Q hS ho hx k => by
  obtain ⟨kps, rfl, nd, rfl⟩ := ho
  obtain ⟨v, rfl, hv⟩ := hx.one
  obtain ⟨a, vs, rfl, h1, h2⟩ := hv.list
  obtain ⟨ps, kvs, rfl, h3, h4⟩ := pairs_of h2
  have em : mergeK [] kvs = kvs := merge_nodup kvs [] (fun _ _ => rfl) (by rw [h4.keysE]; exact nd)
  refine ⟨a, ps, kvs, rfl, .of h1, ?_, fun p hp => k _ _ (same_new hp) ?_⟩
  · clear h4 h2 em
    clear h1
    induction h3 with
    | nil => exact .nil
    | cons q _ ih => exact .cons (seqT off_same q) ih
  · rw [em]
    exact .dic (by rw [off_in (hS.free hp), upd_same]) (h4.mono (Le.off (Le.of (same_new hp))))
/-- dict(d): a copy -/
def rDcp : List V → Hp → VK → Prop := fun xs H Q => ∃ (a : Addr) (kvs : List (Key × V)), xs = [.ref a] ∧ Rd H a (.dK kvs) ∧ ∀ p, H p = none → Q (.ref p) (upd H p (.dK kvs))
def DcpC (dx : List PyData) (d : PyData) : Prop := ∃ kps : Kps, dx = [eD kps] ∧ d = eD kps
theorem ok_dcp {K : PySem.W.Frag} : OkC K rDcp DcpC := fun S H xs dx d Q hS ho hx k => by
  obtain ⟨kps, rfl, rfl⟩ := ho
  obtain ⟨v, rfl, hv⟩ := hx.one
  obtain ⟨a, kvs, rfl, h1, h2⟩ := hv.eD
  exact ⟨a, kvs, rfl, .inl h1, fun p hp => k _ _ (same_new hp) (.dic (by rw [off_in (hS.free hp), upd_same]) (h2.mono (Le.off (Le.of (same_new hp)))))⟩
/-! ### d.get(k, z) -/
def wDGet2 (wd wk wz : DE) : DE := fun Γ Q E => wd Γ (fun x Γ1 => (∃ kps, x = eD kps) ∧ wk Γ1 (fun y Γ2 => wz Γ2 (fun z Γ3 => ∃ kps k, x = eD kps ∧ y = kd k ∧ Q ((lk kps k).getD z) Γ3) E) E) E
theorem de_dget2 {wd wk wz : DE} {j : Nat} (hr : Room j X.A) (ha : PE X a (tR X.K W wd)) (hb : PE X b (tR X.K W wk)) (hz : PE X c (tD X.K W wz)) (m : M2 X a "get" apos b c cpos) : PE X (.Call (.Attribute a "get" apos) [b, c] [] cpos) (tD X.K W (wDGet2 wd wk wz)) :=
  peImp (pe_dget2 (hu_of hr) ha hb hz m) fun σ H Q ⟨F, S, Γ, Qd, Ed, en, hw, k, ke⟩ => ⟨F, S, Γ, _, Ed, en, hw, fun x Γ1 v1 H1 ⟨⟨kps, ex⟩, hb⟩ m1 e1 r1 => by
    subst ex
    obtain ⟨a, kvs, rfl, h1, h2⟩ := (r1.dr e1).eD
    refine ⟨a, rfl, .inl ⟨kvs, .inl h1⟩, F, S, Γ1, _, Ed, e1, hb, fun y Γ2 v2 H2 hz m2 e2 r2 => ⟨F, S, Γ2, _, Ed, e2, hz, fun z Γ3 v3 H3 ⟨kps', kk, ex, ey, q⟩ m3 e3 r3 => ?_, ke⟩, ke⟩
    subst ey
    have ex2 : eD kps = eD kps' := ex
    have h3 := ((r1.mv (m2.trans m3)).dr e3)
    rw [ex2] at h3
    obtain ⟨a', kvs', ea, h4, h5⟩ := h3.eD
    cases ea
    have eq : v2 = kV kk := key_v ((r2.mv m3).dr e3)
    subst eq
    refine ⟨valV kvs' kk, .k h4, ?_⟩
    cases hl : lk kps' kk with
    | none =>
      rw [hl] at q
      rw [(h5.lk kk).2 hl]
      exact k _ Γ3 _ H3 q ((m1.trans m2).trans m3) e3 r3
    | some d =>
      rw [hl] at q
      obtain ⟨v, hv, hd⟩ := (h5.lk kk).1 d hl
      rw [hv]
      exact k _ Γ3 _ H3 q ((m1.trans m2).trans m3) e3 hd, ke⟩
/-! ### k in d -/
def wDIn (neg : Bool) (wk wd : DE) : DE := fun Γ Q E => wk Γ (fun y Γ1 => wd Γ1 (fun x Γ2 => ∃ kps k, x = eD kps ∧ y = kd k ∧ Q (.bool (neg ^^ (lk kps k).isSome)) Γ2) E) E
theorem din_rd {K : PySem.W.Frag} {neg : Bool} {wk wd : DE} {σ : St} {H : Hp} {Q : VK} (h : tD K W (wDIn neg wk wd) σ H Q) : tR K W wk σ H fun y H1 => tR K W wd σ H1 fun x H2 => ∃ a o, x = .ref a ∧ DGet H2 a y o ∧ Q (.bl (neg ^^ o.isSome)) H2 := by
  obtain ⟨F, S, Γ, Qd, Ed, en, hw, k, ke⟩ := h
  refine ⟨F, S, Γ, _, Ed, en, hw, fun y Γ1 v1 H1 hb m1 e1 r1 => ⟨F, S, Γ1, _, Ed, e1, hb, fun x Γ2 v2 H2 ⟨kps, kk, ex, ey, q⟩ m2 e2 r2 => ?_, ke⟩, ke⟩
  subst ex ey
  obtain ⟨a, kvs, rfl, h1, h2⟩ := (r2.dr e2).eD
  have eq : v1 = kV kk := key_v ((r1.mv m2).dr e2)
  subst eq
  refine ⟨a, valV kvs kk, rfl, .k h1, ?_⟩
  have es : (valV kvs kk).isSome = (lk kps kk).isSome := by
    cases hl : lk kps kk with
    | none => rw [(h2.lk kk).2 hl]; rfl
    | some d => obtain ⟨v, hv, _⟩ := (h2.lk kk).1 d hl; rw [hv]; rfl
  rw [es]
  exact k _ Γ2 _ H2 q (m1.trans m2) e2 (.bl _)
theorem de_din {wk wd : DE} {j : Nat} (hr : Room j X.A) (hk : PE X a (tR X.K W wk)) (hd : PE X b (tR X.K W wd)) (hm : behindInMarks .In b = false := by rfl) : PE X (.Compare a [.In] [b] pos) (tD X.K W (wDIn false wk wd)) :=
  peImp (pe_cmp (pc_din (hu_of hr) hk hd) hm) fun _ _ _ h => by
    have z := din_rd h
    simp only [Bool.false_xor] at z
    exact z
theorem de_dnin {wk wd : DE} {j : Nat} (hr : Room j X.A) (hk : PE X a (tR X.K W wk)) (hd : PE X b (tR X.K W wd)) (hm : behindInMarks .NotIn b = false := by rfl) : PE X (.Compare a [.NotIn] [b] pos) (tD X.K W (wDIn true wk wd)) :=
  peImp (pe_cmp (pc_dnotin (hu_of hr) hk hd) hm) fun _ _ _ h => by
    have z := din_rd h
    simp only [Bool.true_xor] at z
    exact z
theorem dt_din {wk wd : DE} {j : Nat} (hr : Room j X.A) (hk : PE X a (tR X.K W wk)) (hd : PE X b (tR X.K W wd)) (hm : behindInMarks .In b = false := by rfl) : PT X (.Compare a [.In] [b] pos) (tB X.K W (wTst (wDIn false wk wd))) :=
  ptImp (pt_cmp (pc_din (hu_of hr) hk hd) hm) fun _ _ _ h => tst_rd (fun _ _ _ h => by
    have z := din_rd h
    simp only [Bool.false_xor] at z
    exact z) h
theorem dt_dnin {wk wd : DE} {j : Nat} (hr : Room j X.A) (hk : PE X a (tR X.K W wk)) (hd : PE X b (tR X.K W wd)) (hm : behindInMarks .NotIn b = false := by rfl) : PT X (.Compare a [.NotIn] [b] pos) (tB X.K W (wTst (wDIn true wk wd))) :=
  ptImp (pt_cmp (pc_dnotin (hu_of hr) hk hd) hm) fun _ _ _ h => tst_rd (fun _ _ _ h => by
    have z := din_rd h
    simp only [Bool.true_xor] at z
    exact z) h
/-! ### a dict of one's own -/
variable {st : Stmt} {value : Expr} {pos' : Pos}
/-- a new dict that nobody holds yet -/
def tFD (K : PySem.W.Frag) (W : WX) (w : DE) : TE := fun σ H Q => ∃ (F : Fm) (S : Hd) (Γ : Gm) (Qd : Kq) (Ed : Ke), En K F S Γ σ H ∧ w Γ Qd Ed ∧
  (∀ kps Γ' p kvs H', Qd (eD kps) Γ' → En K F (fun b => S b ∨ b = p) Γ' σ H' → H' p = some (.dK kvs) → DaD K (off (fun b => S b ∨ b = p) H') kvs (kps.map encK) → F.H0 p = none → ¬ F.T p → NoFp Γ' σ H' p → Q (.ref p) H') ∧
  (∀ c Γ' H', Ed c Γ' → En K F S Γ' σ H' → W (.ref (He.ga K c)) none σ H')
def wSetD (i : Nat) (w : DE) : DS := fun Γ k => w Γ (fun d Γ1 => k .nx (Γ1.set i (.own0 d))) (fun c Γ1 => k (.ex c) Γ1)
theorem ds_setDBy {i : Nat} {te : TE} {w : DE} (h : PS X st (tAsg te (gName i))) (hi : ∀ σ H Q, tFD X.K W w σ H Q → te σ H Q) : PS X st (tS X.K W (wSetD i w)) :=
  psImp h fun D σ H ⟨F, S, Γ, Qd, en, hw, k⟩ => hi _ _ _ ⟨F, S, Γ, _, _, en, hw, fun kps Γ' p kvs H' q en' hp hd h0 ht hn => k .nx _ _ _ H' q (en'.setOwn0 (d := eD kps) i (.inr rfl) h0 ht hp ⟨kvs, rfl, hd⟩ fun j s o _ => hn j s o), fun c Γ' H' q en' => k (.ex c) Γ' S σ H' q en'⟩
theorem df_dnew : PE X (.Dict [] [] pos) (tFD X.K W (wC (eD []))) := peImp pe_dnewK fun σ H Q ⟨F, S, Γ, Qd, Ed, e, hw, k, ke⟩ p hp =>
  k [] Γ p [] _ hw (e.hide hp) upd_same .nil (e.fresh0 hp) (fun z => e.hid p (e.tin p z) hp) (NoFp.hide e hp)
def wCpD (w : DE) : DE := fun Γ Q E => w Γ (fun x Γ1 => (∃ kps, x = eD kps) ∧ Q x Γ1) E
theorem df_dcp {w : DE} (hg : Gl X "dict") (hm : X.mg "dict" = none) (he : PE X e (tR X.K W w)) (he2 : starEach [e] X.env = (false, eval e X.env) :: starEach [] X.env := by rfl) : PE X (.Call (.Name "dict" p) [e] [] pos) (tFD X.K W (wCpD w)) :=
  peImp (pe_callTy call_dictD hg hm bt_dict (pa_cons he pa_nil he2) (by decide) (by decide) he2 rfl) fun σ H Q ⟨F, S, Γ, Qd, Ed, en, hw, k, ke⟩ => ⟨F, S, Γ, _, Ed, en, hw, fun x Γ1 v1 H1 ⟨⟨kps, ex⟩, q⟩ m1 e1 r1 => by
    subst ex
    obtain ⟨a, kvs, rfl, h1, h2⟩ := (r1.dr e1).eD
    exact ⟨a, kvs, rfl, .inl h1, fun p hp => k kps Γ1 p kvs _ q (e1.hide hp) upd_same (h2.mono (same_hide hp)) (e1.fresh0 hp) (fun z => e1.hid p (e1.tin p z) hp) (NoFp.hide e1 hp)⟩, ke⟩
theorem ds_setD {i : Nat} {x : Str} {w : DE} (hN : X.N.Nodup) (hi : X.N[i]? = some x) (hx : Loc X.env.scope x) (he : PE X e (tFD X.K W w)) (hs : swapsWith e (some (.Name x pos')) pos.line X.env = pure false := by rfl) (hf : X.fn x = true ∨ X.env.scope.names.lookup x = some .local := by first | exact .inl rfl | exact .inr rfl | assumption) :
    PS X (.Assign [.Name x pos'] e pos) (tS X.K W (wSetD i w)) := ds_setDBy (ps_set hN hi hx he hs hf) fun _ _ _ h => h
/-- x[k] = e -/
def wDput (i : Nat) (wk we : DE) : DS := fun Γ k => we Γ (fun d Γ1 => (∃ d0, Γ1[i]? = some (Sl.own0 d0)) ∧ wk Γ1 (fun y Γ2 => ∃ kps kk, Γ2[i]? = some (Sl.own0 (eD kps)) ∧ y = kd kk ∧ kps.length < sizeLine ∧ k .nx (Γ2.set i (.own0 (eD (pk kps kk d))))) (fun c Γ1 => k (.ex c) Γ1)) (fun c Γ1 => k (.ex c) Γ1)
theorem ds_dput {i : Nat} {x : Str} {wk we : DE} {j : Nat} (hr : Room j X.A) (hx : PE X (.Name x p) (tVar i)) (hk : PE X a (tR X.K W wk)) (hv : PE X value (tD X.K W we)) (hs : swapsWith value (some (.Subscript (.Name x p) a pos')) pos.line X.env = pure false := by rfl) :
    PS X (.Assign [.Subscript (.Name x p) a pos'] value pos) (tS X.K W (wDput i wk we)) :=
  psImp (ps_dput (hu_of hr) hx hk hv hs) fun D σ H ⟨F, S, Γ, Qd, en, hw, k⟩ => ⟨F, S, Γ, _, _, en, hw, fun d Γ1 v H1 ⟨⟨d0, g0⟩, hk⟩ m1 e1 hv => by
    obtain ⟨o, q1, ad, u0, rfl, sp, h0, ht, hp, hd0⟩ := e1.slot i _ g0
    refine ⟨_, q1, F, S, Γ1, _, _, e1, hk, fun y Γ2 v2 H2 ⟨kps, kk, g2, ey, hl, q⟩ m2 e2 r2 => ?_, fun c Γ' H' q en' => k (.ex c) Γ' S σ H' q en'⟩
    subst ey
    obtain ⟨o, q2, ad', u2, e3, _, _, _, hp2, kvs, rfl, hd2⟩ := e2.slot i _ g2
    rw [q1] at q2
    cases q2
    cases e3
    have eq : v2 = kV kk := key_v (r2.dr e2)
    subst eq
    have hlen : kvs.length < sizeLine := by
      have z := congrArg List.length hd2.keysE
      rw [List.length_map, List.length_map] at z
      omega
    refine ⟨ad, _, rfl, .k hp2 hlen, ?_⟩
    exact k .nx _ S σ _ q (e2.updOwn0 g2 q1 (d := eD (pk kps kk d)) ⟨_, rfl, hd2.put kk (hv.mono m2.le.off)⟩), fun c Γ' H' q en' => k (.ex c) Γ' S σ H' q en'⟩
end
end Dt

/-! Gat17: tuples of whole numbers, one before the other. -/
namespace Dt
open PySem L2
section
variable {K : PySem.W.Frag}
def LtTD : PyData → PyData → PyData → Prop := fun x y d => ∃ ns ms : List Int, x = .tuple (ns.map .int) ∧ y = .tuple (ms.map .int) ∧ d = .bool (HT.lexLt ns ms)
theorem ok_ltT : OkR K (rLtT K) LtTD := fun S H x y dx dy d Q hS ho hx hy k => by
  obtain ⟨ns, ms, rfl, rfl, rfl⟩ := ho
  obtain ⟨a, vs, rfl, h1, h2⟩ := hx.tuple
  obtain ⟨b, us, rfl, g1, g2⟩ := hy.tuple
  have e0 := h2.ints
  have e1 := g2.ints
  subst e0
  subst e1
  exact ⟨a, b, ns, ms, rfl, rfl, h1, g1, k _ H (.refl H) (.bl _)⟩
end
end Dt

/-! Gat18: texts: their signs, join, index; the keys of a written dict. -/
namespace Dt
open PySem L2
def chD (z : Str) : List PyData := z.cps.toList.map fun c => .str ⟨#[c]⟩
section
variable {X : Cx} {W : WX} {e o a b tg : Expr} {es : List Expr} {pos p apos : Pos} {K : PySem.W.Frag}
def wStr (w : DE) : DL := fun Γ Q E => w Γ (fun d Γ1 => ∃ z, d = .str z ∧ Q (chD z) Γ1) E
theorem wk_str {cl : Bool} {S : Hd} {Γ : Gm} {σ : St} {H : Hp} {z : Str} : Wk cl K S Γ σ H (Its z) (chD z) := by
  intro F' S' Γ' σ' H' e _ en
  refine ⟨fun i d hi => ?_, ?_⟩
  · unfold chD at hi
    rw [List.getElem?_map] at hi
    cases q : z.cps.toList[i]? with
    | none => rw [q] at hi; cases hi
    | some c =>
      rw [q] at hi
      cases hi
      have q2 : z.cps[i]? = some c := by rw [← Array.getElem?_toList]; exact q
      refine ⟨?_, fun x H3 y => ?_⟩
      · show i < z.cps.size
        have := (List.getElem?_eq_some_iff.mp q).1
        rw [Array.length_toList] at this
        exact this
      · obtain ⟨rfl, c', h1, rfl⟩ := y
        rw [q2] at h1
        cases h1
        exact ⟨rfl, .str _⟩
  · show z.cps.size ≤ (chD z).length
    unfold chD
    rw [List.length_map, Array.length_toList]
    exact Nat.le_refl _
theorem di_str {cl : Bool} {w : DE} (h : PE X e (tD X.K W w)) : PI X tg e (tI cl X.K W (wStr w)) := piImp (pi_str h) fun σ H R ⟨F, S, Γ, Qd, Ed, en, hw, k, ke⟩ => ⟨F, S, Γ, _, Ed, en, hw, fun d Γ1 v H1 ⟨z, ed, q⟩ m1 e1 hv => by
    subst ed
    cases hv
    exact ⟨z, rfl, k _ Γ1 H1 _ q m1 e1 wk_str⟩, ke⟩
theorem DaL.strs : ∀ {H : Hp} {vs : List V} {ns : List Str}, DaL K H vs (ns.map PyData.str) → vs = ns.map V.str
  | _, _, [], .nil => rfl
  | _, _, n :: ns, .cons h t => by cases h; simp [DaL.strs t]
def wJoin (wo we : DE) : DE := fun Γ Q E => wo Γ (fun x Γ1 => ∃ a, x = .str a ∧ we Γ1 (fun y Γ2 => ∃ ys : List Str, y = .list (ys.map .str) ∧ (ys.map (·.length)).sum + ys.length * a.length ≤ 16777216 ∧ Q (.str (Txt.join a ys)) Γ2) E) E
theorem de_join {wo we : DE} (ho : PE X o (tD X.K W wo)) (he : PE X e (tR X.K W we)) (hs : starEach [e] X.env = [(false, eval e X.env)] := by rfl) (hbase : attributeBase o "join" X.env (eval o X.env) = eval o X.env := by rfl) (hline : (apos.endLine == pos.line) = true := by rfl) :
    PE X (.Call (.Attribute o "join" apos) [e] [] pos) (tD X.K W (wJoin wo we)) :=
  peImp (pe_join ho he hs hbase hline) fun σ H Q ⟨F, S, Γ, Qd, Ed, en, hw, k, ke⟩ => ⟨F, S, Γ, _, Ed, en, hw, fun x Γ1 v1 H1 ⟨a, ea, q1⟩ m1 e1 r1 => by
    subst ea
    cases r1
    refine ⟨⟨a, rfl⟩, F, S, Γ1, _, Ed, e1, q1, fun y Γ2 v2 H2 ⟨ys, ey, hz, q⟩ m2 e2 r2 => ?_, ke⟩
    subst ey
    obtain ⟨p, vs, rfl, h1, h2⟩ := (r2.dr e2).list
    rw [h2.strs] at h1
    exact ⟨a, p, ys, rfl, rfl, .inl (.of h1), hz, k _ Γ2 _ H2 q (m1.trans m2) e2 (.str _)⟩, ke⟩
def InS (neg : Bool) : PyData → PyData → PyData → Prop := fun x y d => ∃ (c : Nat) (z : Str), x = .str ⟨#[c]⟩ ∧ y = .str z ∧ d = .bool (neg ^^ decide (c ∈ z.cps.toList))
theorem ok_inS : OkR K rInS (InS false) := fun S H x y dx dy d Q hS ho hx hy k => by
  obtain ⟨c, z, rfl, rfl, rfl⟩ := ho
  rw [hx.str, hy.str]
  exact ⟨c, z, rfl, rfl, k _ H (.refl H) (by rw [Bool.false_xor]; exact .bl _)⟩
theorem ok_notInS : OkR K rNotInS (InS true) := fun S H x y dx dy d Q hS ho hx hy k => by
  obtain ⟨c, z, rfl, rfl, rfl⟩ := ho
  rw [hx.str, hy.str]
  exact ⟨c, z, rfl, rfl, k _ H (.refl H) (by rw [Bool.true_xor]; exact .bl _)⟩
def wSIdx (wo we : DE) : DE := fun Γ Q E => wo Γ (fun x Γ1 => ∃ a, x = .str a ∧ we Γ1 (fun y Γ2 => ∃ b i rest, y = .str b ∧ Builtin.Str.occurrences a b 0 a.length 1 = i :: rest ∧ Q (.int (i : Nat)) Γ2) E) E
theorem de_sidx {wo we : DE} (ho : PE X o (tD X.K W wo)) (he : PE X e (tR X.K W we)) (hs : starEach [e] X.env = [(false, eval e X.env)] := by rfl) (hbase : attributeBase o "index" X.env (eval o X.env) = eval o X.env := by rfl) (hline : (apos.endLine == pos.line) = true := by rfl) :
    PE X (.Call (.Attribute o "index" apos) [e] [] pos) (tD X.K W (wSIdx wo we)) :=
  peImp (pe_m1 F.slot_str_index F.type_str_index mt_sindex ho he hs hbase hline) fun σ H Q ⟨F, S, Γ, Qd, Ed, en, hw, k, ke⟩ => ⟨F, S, Γ, _, Ed, en, hw, fun x Γ1 v1 H1 ⟨a, ea, q1⟩ m1 e1 r1 => by
    subst ea
    cases r1
    refine ⟨⟨a, rfl⟩, F, S, Γ1, _, Ed, e1, q1, fun y Γ2 v2 H2 ⟨b, i, rest, ey, ho, q⟩ m2 e2 r2 => ?_, ke⟩
    subst ey
    rw [(r2.dr e2).str]
    exact ⟨a, b, i, rest, rfl, rfl, ho, k _ Γ2 _ H2 q (m1.trans m2) e2 (.int _)⟩, ke⟩
end
/-! ### the keys of a written dict -/
def keyS (e : DictEntry) : Option Str := match e.key with
  | .str x _ => some x
  | _ => none
def keysB (K : PySem.W.Frag) (a : Addr) (ks : List Str) : Bool := match K.lookup a with
  | some ⟨_, _, .dict es _, _⟩ => decide (es.toList.map keyS = ks.map some)
  | _ => false
theorem keysB_ok {K : PySem.W.Frag} {w : World} {a : Addr} {ks : List Str} {es : Array DictEntry} {n : Nat} (h : keysB K a ks = true) (D : KDict K w a es n) : es.toList.map keyS = ks.map some := by
  unfold keysB at h
  rw [D.at_] at h
  exact of_decide_eq_true h
structure GKeys (K : PySem.W.Frag) (w : World) (mg : Str → Option Value) (x : Str) (ks : List Str) : Prop where
  glo : mg x = some (.ref (He.ga K x))
  dict : ∃ es n, KDict K w (He.ga K x) es n ∧ es.toList.map keyS = ks.map some
  nd : ks.Nodup
def vsOf (es : List DictEntry) : List (Str × Value) := es.map fun e => ((keyS e).getD "", e.val)
theorem pairs_vs {P : Program} {w : World} : ∀ {es : List DictEntry} {ks : List Str}, es.map keyS = ks.map some → Pairs (strKind P w) es (vsOf es)
  | [], _, _ => .nil
  | e :: es, [], h => by cases h
  | e :: es, k :: ks, h => by
    injection h with h1 h2
    refine .cons ?_ rfl (pairs_vs h2)
    unfold keyS at h1
    split at h1
    · rename_i x t q
      show (strKind P w).is ((keyS e).getD "") e.key = true
      have : keyS e = some x := by unfold keyS; rw [q]
      rw [this, q]
      exact PySem.strKind_is P w x t
    · cases h1
theorem vs_keys : ∀ {es : List DictEntry} {ks : List Str}, es.map keyS = ks.map some → (vsOf es).map (·.1) = ks
  | [], [], _ => rfl
  | [], _ :: _, h => by cases h
  | e :: es, [], h => by cases h
  | e :: es, k :: ks, h => by
    injection h with h1 h2
    show (keyS e).getD "" :: (vsOf es).map (·.1) = _
    rw [h1, vs_keys h2]
    rfl
theorem dictAtK {P : Program} {w : World} {K : PySem.W.Frag} {h : Heap} {a : Addr} {es : Array DictEntry} {n : Nat} {ks : List Str} (hK : K.In h) (D : KDict K w a es n) (hk : es.toList.map keyS = ks.map some) (nd : ks.Nodup) : h.DictAt (strKind P w) a (vsOf es.toList) n :=
  ⟨_, es, hK _ _ D.at_, ⟨rfl, rfl, rfl⟩, rfl, fun e he => by
    obtain ⟨x, t, e1, e2⟩ := D.lit.all e (Array.mem_toList_iff.mpr he)
    exact ⟨x, by rw [e1]; exact strKind_is P w x t, e2⟩, pairs_vs hk, by rw [vs_keys hk]; exact nd⟩
def Itg (ks : List Str) : It := ⟨fun i _ => i < ks.length, fun i H x H' => H' = H ∧ ∃ k, ks[i]? = some k ∧ x = .str k, fun i _ => ks.length ≤ i⟩
theorem turn_gkeys {P : Program} {w : World} {K : PySem.W.Frag} {tg : Expr} {d : Addr} {es : Array DictEntry} {n : Nat} {ks : List Str} (it : Addr) (D : KDict K w d es n) (hk : es.toList.map keyS = ks.map some) (nd : ks.Nodup) : Turn P w K tg (Itg ks) [it] it (fun i h => h.IsKeyIter it d i ks.length n) where
  mem := by simp
  obj := fun i h st b hb => by
    have e : b = it := by simpa using hb
    subst e
    obtain ⟨oi, e, c, dd⟩ := st
    exact ⟨oi, e, fun v z => by rw [dd] at z; cases z⟩
  keep := fun i h h' st k => st.at fun oi e => k it (by simp) oi e
  item := by
    intro X hP hw hK hc i pins s σ H E I hf st hi
    subst hP hw hK
    obtain ⟨f0, f1, f2, f3, f4, f5⟩ := hf it (by simp)
    have hm := dictAtK (P := X.prog) I.kIn D hk nd
    have hvk := vs_keys hk
    have hl : ks.length = (vsOf es.toList).length := by rw [← hvk, List.length_map]
    have hi : i < ks.length := hi
    obtain ⟨⟨k, v⟩, hkv⟩ : ∃ p, (vsOf es.toList)[i]? = some p := ⟨_, List.getElem?_eq_getElem (by omega)⟩
    have hki : ks[i]? = some k := by rw [← hvk, List.getElem?_map, hkv]; rfl
    rw [hl] at st
    refine wpAny_pyNext_dict_item st hm hkv fun key h' hkey st' sb => ?_
    have I1 : Inv X pins σ H { s with heap := h' } := I.turned (t' := s.toks) (fun b ob hb e => (sb.2 b hb).trans e) f0 f1 f3 f4 f5
    obtain ⟨oi, e, c, dd⟩ := id st'
    refine ⟨key, rfl, go_of (s := { s with heap := h' }) e c dd (by decide) ⟨.str k, H, I1, ?_, ⟨rfl, k, hki, rfl⟩, ?_, fun b hb => (hf b hb).1⟩⟩
    · have hkey : Value.isStrOf k key = true := hkey
      cases key with
      | str x t =>
        have : x = k := by
          unfold Value.isStrOf at hkey
          simpa using hkey
        subst this
        exact ⟨t, rfl⟩
      | _ => exact nomatch hkey
    · show h'.IsKeyIter it d (i + 1) ks.length _
      rw [hl]
      exact st'
  done := by
    intro X hP hw hK hc i pins s σ H E I hf st hi
    subst hP hw hK
    obtain ⟨f0, f1, f2, f3, f4, f5⟩ := hf it (by simp)
    have hsz : es.size = ks.length := by
      have := congrArg List.length hk
      rw [List.length_map, List.length_map, Array.length_toList] at this
      exact this
    exact next_key_end (I.ok.hd hc) st (I.kIn _ _ D.at_) rfl hsz hi fun h' eb => ⟨rfl, I.turned (t' := s.toks) (fun b ob hb e => eb b ob hb e) f0 f1 f3 f4 f5⟩
  self := fun A i s Q E st h => wpAny_pyIter_keyiter st h
section
variable {X : Cx} {W : WX} {e tg : Expr} {p apos cpos : Pos} {x : Str}
theorem pi_gkeys {d : Addr} {es : Array DictEntry} {n : Nat} {ks : List Str} (D : KDict X.K X.w d es n) (hk : es.toList.map keyS = ks.map some) (nd : ks.Nodup) (he : PE X e (tC (.ref d))) (hbase : attributeBase e "keys" X.env (eval e X.env) = eval e X.env := by rfl) (hline : (apos.endLine == cpos.line) = true := by rfl) : PI X tg (.Call (.Attribute e "keys" apos) [] [] cpos) (fun σ H R => R (Itg ks) H) := by
  refine ⟨fun pins s σ H R I h => ?_⟩
  refine wpAny_Call_method (T := "dict") (id := "dict.keys") hbase rfl hline F.plainAttrs_dict F.slot_dict_keys F.type_dict_keys (thn (he.run pins s σ H (fun v H' => v = .ref d ∧ H' = H) I ⟨rfl, rfl⟩) fun u s1 ⟨x, H1, I1, rx, ex, eH⟩ => ?_)
  subst ex eH
  obtain rfl : u = Value.ref d := rx
  have hm := dictAtK (P := X.prog) I1.kIn D hk nd
  have hl : ks.length = (vsOf es.toList).length := by rw [← vs_keys hk, List.length_map]
  refine ⟨hm.dictOf.typeIs, hm.dictOf.mapOf.noDict, ?_⟩
  have I2 : Inv X pins σ H1 { s1 with heap := s1.heap.push { cls := .type "dict_keys", data := .fields #[.ref d] } } := I1.kept (t' := s1.toks) fun b ob q => Heap.get?_push_of_some _ q
  have fin : wpAny (model X.prog X.w) X.A (pyIter (.ref s1.heap.objs.size)) (PIE X pins σ tg R) X.xe { s1 with heap := s1.heap.push { cls := .type "dict_keys", data := .fields #[.ref d] } } := by
    refine PySem.W.kdl_pyIter_keys (d := d) (knd := strKind X.prog X.w) ⟨_, Heap.get?_push_size _ rfl, rfl, rfl⟩ (hm.push _) (pi_one (tk := s1.toks) I2 _ (turn_gkeys _ D hk nd) ⟨_, Heap.get?_push_size _ rfl, rfl, ?_⟩ h)
    rw [hl] <;> rfl
  show wpAny _ _ (callWith cpos (.builtin "dict.keys") [.ref d] [] []) _ X.xe s1
  exact method_meetsIn F.slot_dict_keys F.entry_dict_keys rfl (PySem.evalArgs_none ⟨rfl, hm.dictOf.typeIs, F.args_dict_keys_1 _, _, PySem.W.kdl_meets_keys (strKind X.prog X.w) d D.low, ⟨_, hm.dictOf⟩, fin⟩)
def wKs (ks : List Str) : DL := fun Γ Q _ => Q (ks.map .str) Γ
theorem wk_gkeys {cl : Bool} {K : PySem.W.Frag} {S : Hd} {Γ : Gm} {σ : St} {H : Hp} {ks : List Str} : Wk cl K S Γ σ H (Itg ks) (ks.map .str) := by
  intro F' S' Γ' σ' H' e _ en
  refine ⟨fun i d hi => ?_, ?_⟩
  · rw [List.getElem?_map] at hi
    cases q : ks[i]? with
    | none => rw [q] at hi; cases hi
    | some c =>
      rw [q] at hi
      cases hi
      refine ⟨(List.getElem?_eq_some_iff.mp q).1, fun x H3 y => ?_⟩
      obtain ⟨rfl, c', h1, rfl⟩ := y
      rw [q] at h1
      cases h1
      exact ⟨rfl, .str _⟩
  · show ks.length ≤ (ks.map PyData.str).length
    rw [List.length_map]
    exact Nat.le_refl _
theorem di_gkeys {cl : Bool} {ks : List Str} (h : GKeys X.K X.w X.mg x ks) (hg : Gl X x := by rfl) (hd : (x == ("__debug__" : Str)) = false := by decide) (hbase : attributeBase (.Name x p) "keys" X.env (eval (.Name x p) X.env) = eval (.Name x p) X.env := by rfl) (hline : (apos.endLine == cpos.line) = true := by rfl) : PI X tg (.Call (.Attribute (.Name x p) "keys" apos) [] [] cpos) (tI cl X.K W (wKs ks)) := by
  obtain ⟨es, n, D, hk⟩ := h.dict
  exact piImp (pi_gkeys D hk h.nd (pe_glob (v := .ref (He.ga X.K x)) hg h.glo rfl hd) hbase hline) fun σ H R ⟨F, S, Γ, Qd, Ed, en, hw, k, ke⟩ => k _ Γ H _ hw .refl en wk_gkeys
end
end Dt

/-! Gat23: tuples that are known as they were made; dict(t) of such; `is` of truths; xs[-2::-1]. -/
namespace Dt
open PySem PySem.Spec PyProof.Rows L2
section
variable {X : Cx}
/-- tuple(list), known as made -/
theorem call_tupleX : CallR X (.type "tuple") (fun args H Q => ∃ p ys, args = [.ref p] ∧ SqL X.K H p ys ∧ ∀ l ob, H l = none → ob.dict = none → Q (.ref l) (upd H l (.frz ob (.tup ys)))) := by
  intro pn st σ H args ws Q I rv hh
  obtain ⟨p, ys, rfl, hq, kq⟩ := hh
  obtain ⟨w0, rfl, rw0⟩ := vals1 rv
  cases rw0
  obtain ⟨is, ri, pi, hz⟩ := I.list hq
  have il := ri.length
  refine call_tuple_list pi.isList (fun h1 k1 => ?_) (by rw [List.size_toArray]; omega)
  have J : Inv X pn σ H { st with heap := h1 } := I.kept (t' := st.toks) k1
  refine ⟨.ref h1.objs.size, _, J.laid (t' := st.toks) (o := .frz { cls := .type "tuple", data := .seq is.toArray } (.tup ys)) (fun c u z => Heap.get?_push_of_some _ z) (Nat.le_refl _) ?_, rfl, kq _ _ (J.hok.fresh (Nat.le_refl _)) rfl⟩
  exact ⟨Heap.get?_push_size _ rfl, hz, is, ri, IsTup.new _ _⟩
/-- a tuple display, known as made -/
theorem pe_tupX {es : List Expr} {x1 : Nat} {pos : Pos} {t : TA} (h : PA X es t) : PE X (.Tuple es x1 pos) (fun σ H Q => t σ H fun xs H1 => xs.length ≤ sizeLine ∧ ∀ p ob, H1 p = none → ob.dict = none → Q (.ref p) (upd H1 p (.frz ob (.tup xs)))) := by
  constructor
  intro pn st σ H Q I hh
  refine wpAny_Tuple_spliced (thn (h.run pos pn st σ H _ I hh) fun ws s2 ⟨xs, H2, J, rv, hz, kq⟩ => ⟨by have := rv.length; omega, ?_⟩)
  refine ⟨.ref s2.heap.objs.size, _, J.laid (t' := s2.toks) (o := .frz { cls := .type "tuple", data := .seq ws.toArray } (.tup xs)) (fun c u z => Heap.get?_push_of_some _ z) (Nat.le_refl _) ?_, rfl, kq _ _ (J.hok.fresh (Nat.le_refl _)) rfl⟩
  exact ⟨Heap.get?_push_size _ rfl, hz, ws, rv, IsTup.new _ _⟩
/-- `is` of two truths -/
theorem op_isB : OpR X (compareOp .Is) (fun x y H Q => ∃ b c, x = .bl b ∧ y = .bl c ∧ Q (.bl (decide (b = c))) H) := by
  intro pn st σ H x y v u Q I rx ry hh
  obtain ⟨b, c, rfl, rfl, q⟩ := hh
  cases rx
  cases ry
  have e : (Value.bool b == Value.bool c) = decide (b = c) := by cases b <;> cases c <;> rfl
  exact wpAny_pure (fin_bl I q e.symm)
theorem op_isNB : OpR X (compareOp .IsNot) (fun x y H Q => ∃ b c, x = .bl b ∧ y = .bl c ∧ Q (.bl (!decide (b = c))) H) := by
  intro pn st σ H x y v u Q I rx ry hh
  obtain ⟨b, c, rfl, rfl, q⟩ := hh
  cases rx
  cases ry
  have e : (!(Value.bool b == Value.bool c)) = !decide (b = c) := by cases b <;> cases c <;> rfl
  exact wpAny_pure (fin_bl I q e.symm)
end
/-! ### a tuple has no attribute keys -/
theorem tup_nokeys : typeLookup (.type "tuple") "keys" = pure none := am_miss_of_fast (by decide +kernel)
section
variable {prog : Program} {w : World} {A : Around} {E : Value → Shared → Prop}
theorem no_keys {st : Shared} {a : Addr} {ob : Obj} {is : Array Value} {k : Nat} {Q : Option Value → Shared → Prop} (g : st.heap.get? a = some ob) (gc : ob.cls = .type "tuple") (gd : ob.data = .seq is k) (gn : ob.dict = none) (ga : A.handled = none)
    (kq : ∀ h2 tk, (∀ b u, st.heap.get? b = some u → h2.get? b = some u) → Q none { st with heap := h2, toks := tk }) : wpAny (model prog w) A (getAttr? (.ref a) "keys") Q E st := by
  obtain ⟨oc, od, odt, osl⟩ := ob
  simp only at gc gd gn
  subst gc gd gn
  obtain ⟨hp, gg, dd, tk, os⟩ := st
  have ty : ∀ tk2, (⟨hp, gg, dd, tk2, os⟩ : Shared).TypeIs (.ref a) "tuple" := fun _ => ⟨_, g, rfl⟩
  have m1 := tup_nokeys
  have m2 : (["__module__", "__name__", "__qualname__", "__doc__", "__annotations__"] : List Str).contains "keys" = false := by kernel_rfl
  have m3 : ("keys" : Str).length + 100 ≤ sizeLine := by decide +kernel
  have m4 := sub_AttributeError
  have m5 := PySem.F.slot_tuple_getattribute.lookup
  have m6 := PySem.F.slot_tuple_getattribute.bind (.ref a)
  have m7 := am_tuple_getattr_none
  unfold getAttr? getAttrBy? getAttrBy
  repeat (any_goals (first | assumption | exact ty _ | ((with_reducible show wpAny _ _ (call (Value.builtin "tuple.__getattribute__") _ _) _ _ _); refine call_meets PySem.F.slot_tuple_getattribute (ty _) am_entry_tuple_getattribute (PySem.F.args_tuple_getattribute_2 _ _) (meets_getattribute_miss_tuple a is k osl "keys" _ m1 m2 m3) ⟨g, ga, fun h2 tk2 e g2 => ?_⟩) | wp_step))
  obtain ⟨t2, u2, he2⟩ := g2.there
  show wpAny _ _ (getattributeRaised _ _ _ _ _ _ _) _ _ _
  unfold getattributeRaised
  repeat (any_goals (first | assumption | wp_step | fail))
  all_goals first | exact kq _ _ g2.keeps | (dsimp only; repeat (any_goals (first | assumption | exact kq _ _ g2.keeps | wp_step)))
/-- the pairs of a tuple are put into the dict D, one behind the other -/
theorem put_loop {R : Result → Shared → Prop} {D I l : Addr} {is : Array Value} {res : Value} (ga : A.handled = none) (n1 : l ≠ I) (n2 : D ≠ I) (n3 : D ≠ l) :
    ∀ (rest : List (Key × Value)) (i : Nat) (got : List (Key × Value)) (ix : Int) (t : Tok) (st : Shared), is.size = i + rest.length → got.length + rest.length ≤ sizeLine →
      (∀ (j : Nat) (p : Key × Value), rest[j]? = some p → ∃ (b : Addr) (u : Value), is[i + j]? = some (.ref b) ∧ b ≠ D ∧ b ≠ I ∧ IsTup st.heap b #[u, p.2] ∧ keyIs p.1 u = true) →
      st.heap.IsTupleIter I l i → st.heap.IsTuple l is → st.heap.DictOf (mixKind prog w) D got →
      (∀ h2 tk, h2.DictOf (mixKind prog w) D (merged got rest) → (∀ b u, b ≠ D → b ≠ I → st.heap.get? b = some u → h2.get? b = some u) → R (.ok (.ret res)) { st with heap := h2, toks := tk }) →
      codeAny (model prog w) A (.builtin "dict.update.loop" ⟨[.ref D, .ref I, .int ix t, res], []⟩) R st
  | [], i, got, ix, t, st, z1, z2, hp, it, tp, dc, kR => by
    refine codeAny_builtin ud_entry ?_
    rw [Around.under_plainId ud_plain _]
    show wpAny _ A.in1 (pyNext (Value.ref I) >>= _) _ _ st
    refine wpAny_bind (wpAny_pyNext_tuple_end (A := A.in1) ga it tp (Array.getElem?_eq_none (by rw [List.length_nil] at z1; omega)) fun h2 he2 => ?_)
    show wpAny _ A.in1 (Builtin.Dict.addKeywords D [] >>= _) _ _ _
    exact wpAny_bind (wpAny_pure (wpAny_pure (kR h2 st.toks (dc.extBut he2 n2) fun b u _ hb z => he2 b u hb z)))
  | p :: rest, i, got, ix, t, st, z1, z2, hp, it, tp, dc, kR => by
    obtain ⟨b, u, hb, nbD, nbI, tb, kb⟩ := hp 0 p rfl
    rw [List.length_cons] at z1 z2
    refine codeAny_builtin ud_entry ?_
    rw [Around.under_plainId ud_plain _]
    show wpAny _ A.in1 (pyNext (Value.ref I) >>= _) _ _ st
    refine wpAny_bind (wpAny_pyNext_tuple_item (x := .ref b) it tp (by simpa using hb) fun h1 it1 sb1 => ?_)
    have tb1 : IsTup h1 b #[u, p.2] := tb.extBut sb1.extBut nbI
    have tp1 : h1.IsTuple l is := tp.extBut sb1.extBut n1
    have dc1 : h1.DictOf (mixKind prog w) D got := dc.extBut sb1.extBut n2
    obtain ⟨ob, go, gc, n, gd⟩ := id tb1
    show wpAny _ A.in1 (holding [Value.ref b] _ >>= _) _ _ _
    refine wpAny_bind (wpAny_holding (wpAny_bind (wpAny_tryCatch ?_)))
    unfold Builtin.Dict.pairItems
    refine wpAny_bind (wpAny_typeOf (T := "tuple") ⟨ob, go, gc⟩ ?_)
    rw [if_pos (by decide)]
    refine wpAny_bind (wpAny_seqItems go gd (wpAny_pure ?_))
    show wpAny _ A.in1 (holding [u, p.2] (dictSet D u p.2)) _ _ _
    refine wpAny_holding (wpAny_dictSet_pairs (knd := mixKind prog w) (k := p.1) kb dc1 (fun h2 dc2 sb2 => ?_) (by omega))
    refine wpAny_pure ⟨plainId_quiet ud_plain _, put_loop (is := is) ga n1 n2 n3 rest (i + 1) (stored got p.1 p.2) (ix + 1) 0 _ (show is.size = i + 1 + rest.length by omega) (by have := stored_length_le got p.1 p.2; omega) (fun j p2 e => ?_) (it1.extBut sb2.extBut (Ne.symm n2)) (tp1.extBut sb2.extBut (Ne.symm n3)) dc2 fun h3 tk hd3 k3 => kR h3 tk hd3 fun c oc c1 c2 z => k3 c oc c1 c2 (sb2.extBut c oc c1 (sb1.extBut c oc c2 z))⟩
    obtain ⟨b2, u2, hb2, nD2, nI2, tb2, kb2⟩ := hp (j + 1) p2 (by simpa using e)
    exact ⟨b2, u2, by rw [show i + 1 + j = i + (j + 1) by omega]; exact hb2, nD2, nI2, (tb2.extBut sb1.extBut nI2).extBut sb2.extBut nD2, kb2⟩
/-- dict(t) of a tuple of pairs -/
theorem dict_tup {st : Shared} {l : Addr} {ol : Obj} {is : Array Value} {n : Nat} {prs : List (Key × Value)} {Q : Value → Shared → Prop} (ga : A.handled = none) (gl : st.heap.get? l = some ol) (gc : ol.cls = .type "tuple") (gn : ol.dict = none)
    (gd : ol.data = .seq is n) (z1 : is.size = prs.length) (z2 : prs.length ≤ sizeLine)
    (hp : ∀ (j : Nat) (p : Key × Value), prs[j]? = some p → ∃ (b : Addr) (u : Value), is[j]? = some (.ref b) ∧ IsTup st.heap b #[u, p.2] ∧ keyIs p.1 u = true)
    (kq : ∀ h2 tk, h2.DictOf (mixKind prog w) st.heap.objs.size (merged [] prs) → (∀ b u, st.heap.get? b = some u → h2.get? b = some u) → Q (.ref st.heap.objs.size) { st with heap := h2, toks := tk }) :
    wpAny (model prog w) A (call (.type "dict") [.ref l]) Q E st := by
  refine callType_codes (Q₁ := fun o s1 => o = .ref st.heap.objs.size ∧ s1 = { st with heap := st.heap.push { cls := .type "dict", data := .dict #[] } }) PySem.F.kt_called_dict (PySem.F.kt_typeCall_dict_1 _) PySem.F.entry_dict_init (kt_code_dict_new _ ⟨rfl, rfl⟩) ?_
  rintro o s1 ⟨rfl, rfl⟩
  have d0 : (st.heap.push { cls := .type "dict", data := .dict #[] }).DictOf (mixKind prog w) st.heap.objs.size [] := Heap.DictOf.new st.heap
  have q0 : ∀ b u, st.heap.get? b = some u → (st.heap.push { cls := .type "dict", data := .dict #[] }).get? b = some u := fun b u z => Heap.get?_push_of_some _ z
  refine ⟨d0.typeIs, PySem.F.args_dict_init_2 _ _, ?_⟩
  unfold Builtin.«dict.__init__»
  refine wpAny_bind ?_
  unfold Builtin.Dict.selfAndRest
  refine wpAny_bind (wpAny_notOrdered_dict d0.typeIs ?_)
  show wpAny _ _ (pure (st.heap.objs.size, [Value.ref l])) _ _ _
  refine wpAny_pure ?_
  show wpAny _ _ (Builtin.Dict.updateFrom "dict.__init__" st.heap.objs.size (.ref l) [] .none) _ _ _
  unfold Builtin.Dict.updateFrom
  refine wpAny_bind (wpAny_typeOf (T := "tuple") ⟨ol, q0 _ _ gl, gc⟩ ?_)
  rw [if_pos (by decide)]
  refine wpAny_bind (no_keys (q0 _ _ gl) gc gd gn ga fun h1 tk1 q1 => ?_)
  rw [if_pos (show (none : Option Value).isNone = true by rfl)]
  refine wpAny_bind (wpAny_rule ?_)
  have t1 : h1.IsTuple l is := ⟨ol, q1 _ _ (q0 _ _ gl), gc, n, gd⟩
  have lt1 : st.heap.objs.size < h1.objs.size := by
    have z : (st.heap.push { cls := .type "dict", data := .dict #[] }).get? st.heap.objs.size = some { cls := .type "dict", data := .dict #[] } := Heap.get?_push_size _ rfl
    exact Heap.lt_size (q1 _ _ z)
  refine wpAny_bind (wpAny_pyIter_tuple t1 ?_)
  have q2 : ∀ b u, h1.get? b = some u → (h1.push { cls := .type "tuple_iterator", data := .fields #[.ref l, .int 0 0] }).get? b = some u := fun b u z => Heap.get?_push_of_some _ z
  have lt0 : l < st.heap.objs.size := Heap.lt_size gl
  have go := put_loop (prog := prog) (w := w) (A := A.in1) (R := wants (fun r s2 => r = .none ∧ Q (.ref st.heap.objs.size) s2) E) (D := st.heap.objs.size) (I := h1.objs.size) (l := l) (is := is) (res := Value.none) ga
    (Nat.ne_of_lt (Nat.lt_trans lt0 lt1)) (Nat.ne_of_lt lt1) (Nat.ne_of_gt lt0) prs 0 [] 0 0
    { st with heap := h1.push { cls := .type "tuple_iterator", data := .fields #[.ref l, .int 0 0] }, toks := tk1 } (by rw [z1, Nat.zero_add]) (by rw [List.length_nil, Nat.zero_add]; exact z2)
    (fun j p e => by
      obtain ⟨b, u, e1, e2, e3⟩ := hp j p e
      have hb : b < st.heap.objs.size := e2.lt
      exact ⟨b, u, by rw [Nat.zero_add]; exact e1, Nat.ne_of_lt hb, Nat.ne_of_lt (Nat.lt_trans hb lt1), e2.keeps fun c o z => q2 _ _ (q1 _ _ (q0 _ _ z)), e3⟩)
    ⟨_, Heap.get?_push_size _ rfl, rfl, rfl⟩ (t1.push _) ((d0.at fun o z => q1 _ _ z).at fun o z => q2 _ _ z)
    (fun h2 tk hd2 k2 => ⟨rfl, kq h2 tk hd2 fun b u z => k2 b u (Nat.ne_of_lt (Heap.lt_size z)) (Nat.ne_of_lt (Nat.lt_trans (Heap.lt_size z) lt1)) (q2 _ _ (q1 _ _ (q0 _ _ z)))⟩)
  first
    | exact wpAny_pure ⟨plainId_quiet ud_plain _, go⟩
    | exact wpAny_bind (wpAny_pure (wpAny_pure ⟨plainId_quiet ud_plain _, go⟩))
end
section
variable {X : Cx}
theorem call_dictT (hcalm : X.calm = true) : CallR X (.type "dict") (fun args H Q => ∃ (v : V) (ps : List Addr) (kvs : List (Key × V)), args = [v] ∧ ExT H v (ps.map V.ref) ∧ Paired (fun p kv => SqT X.K H p [kV kv.1, kv.2]) ps kvs ∧
    ∀ p, H p = none → Q (.ref p) (upd H p (.dK (mergeK [] kvs)))) := by
  intro pn st σ H args ws Q I rv hh
  obtain ⟨v, ps, kvs, rfl, ⟨a, ob, rfl, ha, hn⟩, hp, kq⟩ := hh
  obtain ⟨w0, rfl, rw0⟩ := vals1 rv
  cases rw0
  obtain ⟨g1, hz, is, ri, g2⟩ := I.hok a _ ha
  have ei := refs_at ri
  subst ei
  rw [List.length_map] at hz
  obtain ⟨prs, rel, hl, hpr⟩ := L2.pairs_of I hp
  obtain ⟨o, go, gc, n, gd⟩ := g2
  rw [g1] at go
  cases go
  refine dict_tup (prs := prs) (I.ok.hd hcalm) g1 gc hn gd (by simp [hl]) (by rw [hl]; exact hz) (fun j p e => ?_) fun h2 tk d2 k2 => ?_
  · obtain ⟨b, u, e1, e2, e3⟩ := hpr j p e
    exact ⟨b, u, by simp [e1], e2, e3⟩
  · have nm : (st.heap.objs.size == sysModules) = false := beq_eq_false_iff_ne.mpr (Nat.ne_of_gt I.big)
    have ln : (mergeK [] kvs).length ≤ sizeLine := by
      refine Nat.le_trans (length_mergeK kvs []) ?_
      rw [List.length_nil, Nat.zero_add, rel.length, hl]
      exact hz
    exact ⟨.ref st.heap.objs.size, upd H st.heap.objs.size (.dK (mergeK [] kvs)), I.laid (t' := tk) k2 (Nat.le_refl _) (show ObjOk X.prog X.w _ _ _ (.dK (mergeK [] kvs)) from ⟨ln, nm, merged [] prs, KV.merge rel .nil, d2⟩), rfl, kq _ (I.hok.fresh (Nat.le_refl _))⟩
end
end Dt

/-! Gat19: benches: fields, methods that look, methods that change. -/
namespace Dt
open PySem L2
/-! ### the class -/
structure BenK (K : PySem.W.Frag) : Prop where
  cls : Cls K (He.ga K "Bench")
  noat : ∀ f : Str, f ∈ (["many", "signs", "now", "before", "later"] : List Str) → NoAttr K (He.ga K "Bench") f
/-- a method of the class, its place -/
abbrev mAt (K : PySem.W.Frag) (m : Str) : Addr := He.ma K (He.ga K "Bench") m
def isM (m : Str) : Bool := !decide (m ∈ (["many", "signs", "now", "before", "later"] : List Str))
theorem benF_no {many : Int} {vs vn : V} {bl ll : Addr} {m : Str} (h : isM m = true) : (benF many vs vn bl ll).lookup m = none := by
  unfold isM at h
  rw [Bool.not_eq_true', decide_eq_false_iff_not] at h
  simp only [List.mem_cons, List.not_mem_nil, or_false, not_or] at h
  obtain ⟨h1, h2, h3, h4, h5⟩ := h
  have e : ∀ {x : Str}, m ≠ x → (m == x) = false := fun h => beq_eq_false_iff_ne.mpr h
  show (match m == "many" with | true => some (V.int many) | false => (match m == "signs" with | true => some vs | false => (match m == "now" with | true => some vn | false => (match m == "before" with | true => some (V.ref bl) | false => (match m == "later" with | true => some (V.ref ll) | false => none))))) = none
  rw [e h1, e h2, e h3, e h4, e h5]
theorem RsOk.ben {K : PySem.W.Frag} {h H : Hp} {a : Addr} {r : Rs} {fp : List Addr} (q : RsOk K h H a r fp) (hb : r.ben = true) : ∃ dx bl ll vs vn vb vl, fp = [a, dx, bl, ll] ∧ H a = some (.ins (He.ga K "Bench") dx (benF r.many vs vn bl ll)) ∧ H dx = some (.own a) ∧ Da K h vs (.list r.signs) ∧ Da K h vn r.now ∧ H bl = some (.lst vb) ∧ H ll = some (.lst vl) ∧ DaL K h vb r.before ∧ DaL K h vl r.later ∧ fp.Nodup ∧ NowX K h vn r.now ∧ NowL K h vb r.before ∧ NowL K h vl r.later := by
  obtain ⟨bl, ll, vn, vb, vl, h1, h2, h3, h4, h5, h6, ⟨_, dx, vs, e, h7, h8, h9⟩ | ⟨hb', _⟩⟩ := q
  · exact ⟨dx, bl, ll, vs, vn, vb, vl, e, h7, h8, h9.1, h5, h1, h2, h3, h4, h6, h9.2⟩
  · rw [hb] at hb'; cases hb'
/-! a method is called, what it lets out seen by slots -/
section
variable {X : Cx} {CX : CXT} {k : Nat} {f C : Addr} {fd : FuncData} {ps : List Str} {sp : Sp} {E : St → XK} {x m : Str} {p pos apos : Pos} {e o : Expr} {es : List Expr} {ta : TE} {t : TA}
def tMethS (C : Addr) (m : Str) (sp : Sp) (E : St → XK) (ta : TE) (t : TA) : TE := fun σ H Q => ta σ H fun x H1 => ∃ a dx fs, x = .ref a ∧ H1 a = some (.ins C dx fs) ∧ fs.lookup m = none ∧ t σ H1 fun vs H2 => sp (x :: vs) H2 Q (E σ)
theorem pe_methE {pl : Sem Bool} (he : PE X o ta) (c : Cls X.K C) (hm : Meth X.K C m f) (F : FnOk X.prog X.w X.K X.mg X.base CX k f fd ps sp) (hr : Room k X.A) (hb : Binds X.K fd ps []) (hx : ∀ σ, PassesAt CX X σ (E σ)) (ha : PA X (e :: es) t)
    (hst : starEach (e :: es) X.env = (false, eval e X.env) :: starEach es X.env := by rfl) (hpl : (backTo pos (starEach es X.env)).any (·.1) = false := by rfl)
    (ht : eval (.Call (.Attribute o m apos) (e :: es) [] pos) X.env = (do
      let ov ← eval o X.env
      standAt apos.atName
      let (f, first) ← holding [ov] (getMethod ov m pl)
      callWith pos f first (backTo pos (starEach (e :: es) X.env)) (backToKw pos (keywordEach [] X.env))) := by rfl) :
    PE X (.Call (.Attribute o m apos) (e :: es) [] pos) (tMethS C m sp E ta t) := by
  refine ⟨fun pins s σ H Q I h => ?_⟩
  refine PySem.W.methodCall_KW (pl := pl) (thn (he.run pins s σ H _ I h) fun u s1 ⟨x, H1, I1, rx, a, dx, fs, ex, ea, l, q⟩ => ?_) ht
  subst ex
  obtain rfl : u = Value.ref a := rx
  refine getmeth_ok I1 ea c hm l ?_
  refine PySem.W.callWith_K (first := [.ref a]) (h₀ := X.base) I.ok.mod.kin hm.kp (thn (ha.run pos pins s1 σ H1 _ I1 q) fun us s2 ⟨vs, H2, I2, r, q2⟩ => ⟨I2.kIn, ?_⟩) hst hpl
  exact run_fnS (us := .ref a :: us) (vs := .ref a :: vs) F hr hb (hx σ) I2 (.cons rfl r) q2
theorem pe_methE0 {pl : Sem Bool} (he : PE X o ta) (c : Cls X.K C) (hm : Meth X.K C m f) (F : FnOk X.prog X.w X.K X.mg X.base CX k f fd ps sp) (hr : Room k X.A) (hb : Binds X.K fd ps []) (hx : ∀ σ, PassesAt CX X σ (E σ))
    (ht : eval (.Call (.Attribute o m apos) [] [] pos) X.env = (do
      let ov ← eval o X.env
      standAt apos.atName
      let (f, first) ← holding [ov] (getMethod ov m pl)
      callWith pos f first (backTo pos (starEach [] X.env)) (backToKw pos (keywordEach [] X.env))) := by rfl) :
    PE X (.Call (.Attribute o m apos) [] [] pos) (tMethS C m sp E ta tNil) := by
  refine ⟨fun pins s σ H Q I h => ?_⟩
  refine PySem.W.methodCall_KW (pl := pl) (thn (he.run pins s σ H _ I h) fun u s1 ⟨x, H1, I1, rx, a, dx, fs, ex, ea, l, q⟩ => ?_) ht
  subst ex
  obtain rfl : u = Value.ref a := rx
  refine getmeth_ok I1 ea c hm l ?_
  exact PySem.W.callWith_K0 (first := [.ref a]) I1.kIn hm.kp (run_fnS (us := [.ref a]) (vs := [.ref a]) F hr hb (hx σ) I1 (.cons rfl .nil) q)
end
/-! ### contracts -/
/-- a method that looks -/
abbrev VSp := Rs → List PyData → (PyData → Prop) → (Str → Prop) → Prop
def spV (K : PySem.W.Frag) (sp : VSp) : Sp := fun vs H Q E => ∃ (S : Hd) (a : Addr) (r : Rs) (fp : List Addr) (vs' : List V) (ds : List PyData) (Qd : PyData → Prop) (Ed : Str → Prop), Hid S H ∧ vs = .ref a :: vs' ∧ RsOk K (off S H) H a r fp ∧ r.ben = true ∧ (∀ b ∈ fp, S b) ∧ DaL K (off S H) vs' ds ∧ sp r ds Qd Ed ∧
  (∀ d v H', Qd d → Same H H' → Da K (off S H') v d → Q v H') ∧ (∀ c H', Ed c → Same H H' → E (.ref (He.ga K c)) none H')
/-- what a change leaves -/
structure Left (K : PySem.W.Frag) (S S' : Hd) (H H' : Hp) (a : Addr) (fp : List Addr) (r' : Rs) (fp' : List Addr) : Prop where
  up : ∀ b, S b → S' b
  dn : ∀ b, S' b → S b ∨ H b = none
  hid : Hid S' H'
  keep : ∀ b o, b ∉ fp → H b = some o → H' b = some o
  rs : RsOk K (off S' H') H' a r' fp'
  inn : ∀ b ∈ fp', S' b ∧ (b ∈ fp ∨ H b = none)
/-- a method that changes -/
abbrev GSp := Rs → List PyData → (PyData → Rs → Prop) → (Str → Rs → Prop) → Prop
def spG (K : PySem.W.Frag) (sp : GSp) : Sp := fun vs H Q E => ∃ (S : Hd) (a : Addr) (r : Rs) (fp : List Addr) (vs' : List V) (ds : List PyData) (Qd : PyData → Rs → Prop) (Ed : Str → Rs → Prop), Hid S H ∧ vs = .ref a :: vs' ∧ RsOk K (off S H) H a r fp ∧ r.ben = true ∧ (∀ b ∈ fp, S b) ∧ DaL K (off S H) vs' ds ∧ sp r ds Qd Ed ∧
  (∀ d r' v S' fp' H', Qd d r' → Left K S S' H H' a fp r' fp' → Da K (off S' H') v d → Q v H') ∧ (∀ c r' S' fp' H', Ed c r' → Left K S S' H H' a fp r' fp' → E (.ref (He.ga K c)) none H')
/-- .. its second thing handed in known as it was made -/
def spX (K : PySem.W.Frag) (sp : GSp) : Sp := fun vs H Q E => ∃ (S : Hd) (a : Addr) (r : Rs) (fp : List Addr) (v1 v2 : V) (d1 d2 : PyData) (Qd : PyData → Rs → Prop) (Ed : Str → Rs → Prop), Hid S H ∧ vs = [.ref a, v1, v2] ∧ RsOk K (off S H) H a r fp ∧ r.ben = true ∧ (∀ b ∈ fp, S b) ∧ Da K (off S H) v1 d1 ∧ ExD K (off S H) v2 d2 ∧ sp r [d1, d2] Qd Ed ∧
  (∀ d r' v S' fp' H', Qd d r' → Left K S S' H H' a fp r' fp' → Da K (off S' H') v d → Q v H')
/-- .. and makes no new place of its own -/
def spM (K : PySem.W.Frag) (sp : GSp) : Sp := fun vs H Q E => ∃ (S : Hd) (a : Addr) (r : Rs) (fp : List Addr) (vs' : List V) (ds : List PyData) (Qd : PyData → Rs → Prop) (Ed : Str → Rs → Prop), Hid S H ∧ vs = .ref a :: vs' ∧ RsOk K (off S H) H a r fp ∧ r.ben = true ∧ (∀ b ∈ fp, S b) ∧ DaL K (off S H) vs' ds ∧ sp r ds Qd Ed ∧
  (∀ d r' v H', Qd d r' → Left K S S H H' a fp r' fp → Da K (off S H') v d → Q v H')
/-- a method with its contract -/
def Mok (P : Program) (w : World) (K : PySem.W.Frag) (mg : Str → Option Value) (base : Heap) (m : Str) (k : Nat) (ps : List Str) (sp : Sp) : Prop :=
  ∃ fd, FnOk P w K mg base (L2.CX P w) k (mAt K m) fd ps sp ∧ Binds K fd ps [] ∧ Meth K (He.ga K "Bench") m (mAt K m)
section
variable {K : PySem.W.Frag} {F : Fm} {S S' : Hd} {Γ Γ' : Gm} {σ : St} {H H' : Hp} {i : Nat} {a : Addr} {r r' : Rs} {fp fp' : List Addr}
def rsAt : Sl → Option (Addr × Rs)
  | .rs a r => some (a, r)
  | .vw a r => some (a, r)
  | _ => none
theorem En.rsv (h : En K F S Γ σ H) {s : Sl} (g : Γ[i]? = some s) (e : rsAt s = some (a, r)) : σ[i]? = some (some (.ref a)) ∧ ∃ fp, RsOk K (off S H) H a r fp ∧ ∀ b ∈ fp, S b := by
  obtain ⟨o, q, k⟩ := h.slot i s g
  cases s with
  | rs a' r' =>
    cases e
    obtain ⟨k1, fp, k2, k3⟩ := k
    subst k1
    exact ⟨q, fp, k2, fun b hb => (k3 b hb).1⟩
  | vw a' r' =>
    cases e
    obtain ⟨k1, fp, k2, k3⟩ := k
    subst k1
    exact ⟨q, fp, k2, fun b hb => (k3 b hb).1⟩
  | _ => cases e
/-- a slot's bench has changed -/
theorem En.left (h : En K F S Γ σ H) (g : Γ[i]? = some (.rs a r)) (q : RsOk K (off S H) H a r fp) (L : Left K S S' H H' a fp r' fp') : En K F S' (Γ.set i (.rs a r')) σ H' := by
  obtain ⟨o, e, k1, fp0, k2, k3⟩ := h.slot i _ g
  have ef : fp0 = fp := k2.rsF.det q.rsF
  subst ef
  subst k1
  have hf := h.forget i
  have e2 : Same (off S H) (off S' H') := fun b u z => by
    obtain ⟨n, z⟩ := off_get z
    rw [off_in (fun y => (L.dn b y).elim n (fun y => by rw [y] at z; cases z))]
    exact L.keep b u (fun y => n (k3 b y).1) z
  have other : ∀ (j : Nat) (s : Sl) (o : Option V) (b : Addr), (Γ.set i .no)[j]? = some s → σ[j]? = some o → Fp H s o b → b ∉ fp0 := fun j s o b gj rj p hb => by
    rcases set_at gj with ⟨_, _, rfl⟩ | ⟨hne, gj⟩
    · cases p
    · by_cases hm : s.mut = true
      · exact h.inj i j _ _ _ _ b hne g gj rfl hm e rj ⟨fp0, k2.rsF, hb⟩ p
      · cases s with
        | vw a2 r2 =>
          obtain ⟨_, fp2, w1, w2⟩ := h.at gj rj
          obtain ⟨fp3, p1, p2⟩ := p
          rw [p1.det w1.rsF] at p2
          rcases (k3 b hb).2 with z | z
          · exact (w2 b p2).2.1 z
          · exact (w2 b p2).2.2.1 z
        | own0 d => exact hm rfl
        | twn n => exact hm rfl
        | rs a r => exact hm rfl
        | _ => cases p
  have keepF : ∀ (j : Nat) (s : Sl) (o : Option V) (b : Addr), (Γ.set i .no)[j]? = some s → σ[j]? = some o → Fp H s o b → S' b ∧ H' b = H b := fun j s o b gj rj p => by
    have z := (hf.at gj rj).fp p
    refine ⟨L.up b z.1, ?_⟩
    cases w : H b with
    | none => exact absurd w z.2
    | some u => exact L.keep b u (other j s o b gj rj p) w
  have T0 : ∀ b ∈ fp', F.T b ∨ F.H0 b = none := fun b hb => by
    rcases (L.inn b hb).2 with z | z
    · exact (k3 b z).2
    · exact .inr (h.fresh0 z)
  have hf2 := hf.move (S' := S') (H' := H') (fun b z => ⟨L.up b (h.sub b z).1, (h.sub b z).2⟩) (fun b z => L.up b (h.tin b z)) (fun b z => (L.dn b z).elim (h.fr b) fun y => .inr (.inr (h.fresh0 y))) L.hid (fun b o nt z => by
    have z2 := h.base b o nt z
    refine L.keep b o (fun y => ?_) z2
    rcases (k3 b y).2 with w | w
    · exact nt w
    · rw [w] at z; cases z) e2 keepF
  have hil : i < Γ.length := (List.getElem?_eq_some_iff.mp g).1
  have NoF : ∀ (j : Nat) (s : Sl) (o : Option V) (b : Addr), (Γ.set i .no)[j]? = some s → σ[j]? = some o → Fp H' s o b → b ∈ fp' → False := fun j s o b gj rj p hb => by
    have p0 := Fp.back (hf.at gj rj) (fun b z => (keepF j s o b gj rj z).2) p
    rcases (L.inn b hb).2 with z | z
    · exact other j s o b gj rj p0 z
    · exact ((hf.at gj rj).fp p0).2 z
  refine ⟨hf2.sub, hf2.tin, hf2.fr, hf2.hid, hf2.base, by rw [List.length_set]; exact h.len, fun j s q => ?_, fun j k s1 s2 o1 o2 b hjk q1 q2 m1 m2 r1 r2 p1 p2 => ?_⟩
  · rcases set_at q with ⟨rfl, _, rfl⟩ | ⟨hne, q⟩
    · exact ⟨_, e, rfl, fp', L.rs, fun b hb => ⟨(L.inn b hb).1, T0 b hb⟩⟩
    · exact hf2.slot j s (by rw [getset, if_neg hne]; exact q)
  · rcases set_at q1 with ⟨rfl, _, rfl⟩ | ⟨hne, q1⟩
    · rcases set_at q2 with ⟨z, _, _⟩ | ⟨hne2, q2⟩
      · exact hjk z
      · obtain ⟨fp2, p3, p4⟩ := p1
        rw [p3.det L.rs.rsF] at p4
        exact NoF k s2 o2 b (by rw [getset, if_neg hne2]; exact q2) r2 p2 p4
    · rcases set_at q2 with ⟨rfl, _, rfl⟩ | ⟨hne2, q2⟩
      · obtain ⟨fp2, p3, p4⟩ := p2
        rw [p3.det L.rs.rsF] at p4
        exact NoF j s1 o1 b (by rw [getset, if_neg hne]; exact q1) r1 p1 p4
      · exact hf2.inj j k s1 s2 o1 o2 b hjk (by rw [getset, if_neg hne]; exact q1) (by rw [getset, if_neg hne2]; exact q2) m1 m2 r1 r2 p1 p2
end
end Dt

/-! Gat20: benches looked at and changed, over data. -/
namespace Dt
open PySem L2
inductive Fn3 where
  | many | signs | now
def Fn3.s : Fn3 → Str
  | .many => "many"
  | .signs => "signs"
  | .now => "now"
def Fn3.get (r : Rs) : Fn3 → PyData
  | .many => .int r.many
  | .signs => .list r.signs
  | .now => r.now
def Bn (Γ : Gm) (i : Nat) (a : Addr) (r : Rs) : Prop := (∃ s, Γ[i]? = some s ∧ rsAt s = some (a, r)) ∧ r.ben = true
section
variable {X : Cx} {W : WX} {e a b c : Expr} {es : List Expr} {pos p apos : Pos} {x m : Str} {st : Stmt}
def wFld (i : Nat) (n : Fn3) : DE := fun Γ Q _ => ∃ a r, Bn Γ i a r ∧ Q (n.get r) Γ
theorem de_fld (i : Nat) (n : Fn3) (B : BenK X.K) (h : PE X (.Name x p) (tVar i)) (hb : attributeBase (.Name x p) n.s X.env (eval (.Name x p) X.env) = eval (.Name x p) X.env := by rfl) : PE X (.Attribute (.Name x p) n.s pos) (tD X.K W (wFld i n)) :=
  peImp (pe_fld h hb) fun σ H Q ⟨F, S, Γ, Qd, Ed, en, ⟨a, r, ⟨⟨s, g, es⟩, hb⟩, q⟩, k, ke⟩ => by
    obtain ⟨e1, fp, q1, q2⟩ := en.rsv g es
    obtain ⟨dx, bl, ll, vs, vn, vb, vl, _, h2, _, h4, h5, _⟩ := q1.ben hb
    cases n with
    | many => exact ⟨_, e1, a, _, dx, _, .int r.many, rfl, h2, B.cls, B.noat _ (by decide +kernel), by rfl, k _ Γ _ H q .refl en (.int _)⟩
    | signs => exact ⟨_, e1, a, _, dx, _, vs, rfl, h2, B.cls, B.noat _ (by decide +kernel), by rfl, k _ Γ _ H q .refl en h4⟩
    | now => exact ⟨_, e1, a, _, dx, _, vn, rfl, h2, B.cls, B.noat _ (by decide +kernel), by rfl, k _ Γ _ H q .refl en h5⟩
/-! ### a method that looks -/
def wMV (i : Nat) (sp : VSp) (ws : DL) : DE := fun Γ Q E => (∃ a r, Bn Γ i a r) ∧ ws Γ (fun ds Γ1 => ∃ a r, Bn Γ1 i a r ∧ sp r ds (fun d => Q d Γ1) (fun c => E c Γ1)) E
theorem mv_rd {i : Nat} {sp : VSp} {ws : DL} {K : PySem.W.Frag} (hm : isM m = true) {σ : St} {H : Hp} {Q : VK} (h : tD K W (wMV i sp ws) σ H Q) : tMethS (He.ga K "Bench") m (spV K sp) (WE W) (tVar i) (tL K W ws) σ H Q := by
  obtain ⟨F, S, Γ, Qd, Ed, en, ⟨⟨a, r, ⟨s, g, es⟩, hb⟩, hw⟩, k, ke⟩ := h
  obtain ⟨e1, fp, q1, q2⟩ := en.rsv g es
  obtain ⟨dx, bl, ll, vs, vn, vb, vl, _, h2, _⟩ := q1.ben hb
  refine ⟨_, e1, a, dx, _, rfl, h2, benF_no hm, F, S, Γ, _, Ed, en, hw, fun ds Γ1 us H1 ⟨a1, r1, ⟨⟨s1, g1, es1⟩, hb1⟩, q⟩ m1 en1 hv => ?_, ke⟩
  obtain ⟨e2, fp1, q3, q4⟩ := en1.rsv g1 es1
  rw [e1] at e2
  cases e2
  exact ⟨S, a, r1, fp1, us, ds, _, _, en1.hid, rfl, q3, hb1, q4, hv, q, fun d v H' qd s hv' => k d Γ1 v H' qd (m1.trans (.of en1 s)) (en1.same s) hv', fun c H' qc s => ke c Γ1 H' qc (en1.same s)⟩
variable {k j : Nat} {ps : List Str}
theorem de_mV {i : Nat} {sp : VSp} {ws : DL} (h : Mok X.prog X.w X.K X.mg X.base m k ps (spV X.K sp)) (B : BenK X.K) (hr : Room j X.A) (hj : k ≤ j) (tk : Takes X W) (hm : isM m = true) (hx : PE X (.Name x p) (tVar i)) (ha : PA X (e :: es) (tL X.K W ws))
    (hst : starEach (e :: es) X.env = (false, eval e X.env) :: starEach es X.env := by rfl) (hpl : (backTo pos (starEach es X.env)).any (·.1) = false := by rfl)
    (pl : Sem Bool) (ht : eval (.Call (.Attribute (.Name x p) m apos) (e :: es) [] pos) X.env = (do
      let ov ← eval (.Name x p) X.env
      standAt apos.atName
      let (f, first) ← holding [ov] (getMethod ov m pl)
      callWith pos f first (backTo pos (starEach (e :: es) X.env)) (backToKw pos (keywordEach [] X.env))) := by rfl) :
    PE X (.Call (.Attribute (.Name x p) m apos) (e :: es) [] pos) (tD X.K W (wMV i sp ws)) := by
  obtain ⟨fd, F, hb, hM⟩ := h
  exact peImp (pe_methE (E := WE W) hx B.cls hM F (hr.mono hj) hb (fun σ => passAt tk σ) ha hst hpl ht) fun _ _ _ h => mv_rd hm h
theorem nil_rd {K : PySem.W.Frag} {sp : Sp} {E : St → XK} {i : Nat} {C : Addr} {σ : St} {H : Hp} {Q : VK} (h : tMethS C m sp E (tVar i) (tL K W wNil) σ H Q) : tMethS C m sp E (tVar i) tNil σ H Q := by
  obtain ⟨v, e1, a, dx, fs, e2, h1, h2, F, S, Γ, Qd, Ed, en, hw, k, ke⟩ := h
  exact ⟨v, e1, a, dx, fs, e2, h1, h2, k [] Γ [] H hw .refl en .nil⟩
theorem de_mV0 {i : Nat} {sp : VSp} (h : Mok X.prog X.w X.K X.mg X.base m k ps (spV X.K sp)) (B : BenK X.K) (hr : Room j X.A) (hj : k ≤ j) (tk : Takes X W) (hm : isM m = true) (hx : PE X (.Name x p) (tVar i))
    (pl : Sem Bool) (ht : eval (.Call (.Attribute (.Name x p) m apos) [] [] pos) X.env = (do
      let ov ← eval (.Name x p) X.env
      standAt apos.atName
      let (f, first) ← holding [ov] (getMethod ov m pl)
      callWith pos f first (backTo pos (starEach [] X.env)) (backToKw pos (keywordEach [] X.env))) := by rfl) :
    PE X (.Call (.Attribute (.Name x p) m apos) [] [] pos) (tD X.K W (wMV i sp wNil)) := by
  obtain ⟨fd, F, hb, hM⟩ := h
  exact peImp (pe_methE0 (E := WE W) hx B.cls hM F (hr.mono hj) hb (fun σ => passAt tk σ) ht) fun _ _ _ h => nil_rd (mv_rd hm h)
/-! ### a method that changes, no new place -/
def Br (Γ : Gm) (i : Nat) (a : Addr) (r : Rs) : Prop := Γ[i]? = some (.rs a r) ∧ r.ben = true
def wMM (i : Nat) (sp : GSp) (ws : DL) : DE := fun Γ Q E => (∃ a r, Br Γ i a r) ∧ ws Γ (fun ds Γ1 => ∃ a r, Br Γ1 i a r ∧ sp r ds (fun d r' => Q d (Γ1.set i (.rs a r'))) (fun _ _ => False)) E
theorem Mv.left {K : PySem.W.Frag} {F : Fm} {S : Hd} {Γ : Gm} {σ : St} {H H' : Hp} {i : Nat} {a : Addr} {r r' : Rs} {fp : List Addr} (h : En K F S Γ σ H) (g : Γ[i]? = some (.rs a r)) (q : RsOk K (off S H) H a r fp) (L : Left K S S H H' a fp r' fp) : Mv S σ Γ (Γ.set i (.rs a r')) H H' := by
  obtain ⟨o, e, k1, fp0, k2, k3⟩ := h.slot i _ g
  have ef : fp0 = fp := k2.rsF.det q.rsF
  subst ef
  subst k1
  refine ⟨fun b u n hb => L.keep b u (fun z => n (k3 b z).1) hb, fun b u hb => ?_, fun j d gj => ?_, fun j d gj => ?_, fun j s gj c => ?_⟩
  · by_cases hf : b ∈ fp0
    · exact .inr ⟨i, _, _, g, rfl, e, fp0, k2.rsF, hf⟩
    · exact .inl (L.keep b u hf hb)
  · rw [getset, if_neg]
    · exact gj
    · rintro rfl
      rw [g] at gj
      cases gj
  · rcases set_at gj with ⟨rfl, _, z⟩ | ⟨_, q⟩
    · cases z
    · exact q
  · rcases set_at gj with ⟨rfl, _, rfl⟩ | ⟨hne, gj⟩
    · refine ⟨_, g, rfl, fun v b ev z => ?_⟩
      obtain ⟨fp2, z1, z2⟩ := z
      rw [z1.det L.rs.rsF] at z2
      exact ⟨fp0, k2.rsF, z2⟩
    · refine ⟨s, gj, c, fun v b ev z => Fp.back (h.at gj ev) (fun b y => ?_) z⟩
      cases w : H b with
      | none => exact absurd w ((h.at gj ev).fp y).2
      | some u => exact L.keep b u (fun z => h.inj i j _ _ _ _ b hne g gj rfl (Sl.chg_mut c) e ev ⟨fp0, k2.rsF, z⟩ y) w
theorem En.brs {K : PySem.W.Frag} {F : Fm} {S : Hd} {Γ : Gm} {σ : St} {H : Hp} {i : Nat} {a : Addr} {r : Rs} (h : En K F S Γ σ H) (g : Γ[i]? = some (.rs a r)) : σ[i]? = some (some (.ref a)) ∧ ∃ fp, RsOk K (off S H) H a r fp ∧ ∀ b ∈ fp, S b := h.rsv g rfl
theorem mm_rd {i : Nat} {sp : GSp} {ws : DL} {K : PySem.W.Frag} (hm : isM m = true) {σ : St} {H : Hp} {Q : VK} (h : tD K W (wMM i sp ws) σ H Q) : tMethS (He.ga K "Bench") m (spM K sp) (WE W) (tVar i) (tL K W ws) σ H Q := by
  obtain ⟨F, S, Γ, Qd, Ed, en, ⟨⟨a, r, g, hb⟩, hw⟩, k, ke⟩ := h
  obtain ⟨e1, fp, q1, q2⟩ := en.brs g
  obtain ⟨dx, bl, ll, vs, vn, vb, vl, _, h2, _⟩ := q1.ben hb
  refine ⟨_, e1, a, dx, _, rfl, h2, benF_no hm, F, S, Γ, _, Ed, en, hw, fun ds Γ1 us H1 ⟨a1, r1, ⟨g1, hb1⟩, q⟩ m1 en1 hv => ?_, ke⟩
  obtain ⟨e2, fp1, q3, q4⟩ := en1.brs g1
  rw [e1] at e2
  cases e2
  exact ⟨S, a, r1, fp1, us, ds, _, _, en1.hid, rfl, q3, hb1, q4, hv, q, fun d r' v H' qd L hv' => k d _ v H' qd (m1.trans (.left en1 g1 q3 L)) (en1.left g1 q3 L) hv'⟩
theorem de_mM0 {i : Nat} {sp : GSp} (h : Mok X.prog X.w X.K X.mg X.base m k ps (spM X.K sp)) (B : BenK X.K) (hr : Room j X.A) (hj : k ≤ j) (tk : Takes X W) (hm : isM m = true) (hx : PE X (.Name x p) (tVar i))
    (pl : Sem Bool) (ht : eval (.Call (.Attribute (.Name x p) m apos) [] [] pos) X.env = (do
      let ov ← eval (.Name x p) X.env
      standAt apos.atName
      let (f, first) ← holding [ov] (getMethod ov m pl)
      callWith pos f first (backTo pos (starEach [] X.env)) (backToKw pos (keywordEach [] X.env))) := by rfl) :
    PE X (.Call (.Attribute (.Name x p) m apos) [] [] pos) (tD X.K W (wMM i sp wNil)) := by
  obtain ⟨fd, F, hb, hM⟩ := h
  exact peImp (pe_methE0 (E := WE W) hx B.cls hM F (hr.mono hj) hb (fun σ => passAt tk σ) ht) fun _ _ _ h => nil_rd (mm_rd hm h)
/-! ### a method that changes, as a statement -/
def wMG (i : Nat) (sp : GSp) (ws : DL) : DS := fun Γ k => (∃ a r, Br Γ i a r) ∧ ws Γ (fun ds Γ1 => ∃ a r, Br Γ1 i a r ∧ sp r ds (fun _ r' => k .nx (Γ1.set i (.rs a r'))) (fun c r' => k (.ex c) (Γ1.set i (.rs a r')))) (fun c Γ1 => k (.ex c) Γ1)
theorem ds_mG {i : Nat} {sp : GSp} {ws : DL} {pos2 : Pos} (h : Mok X.prog X.w X.K X.mg X.base m k ps (spG X.K sp)) (B : BenK X.K) (hr : Room j X.A) (hj : k ≤ j) (tk : Takes X W) (hm : isM m = true) (hx : PE X (.Name x p) (tVar i)) (ha : PA X (e :: es) (tL X.K W ws))
    (hst : starEach (e :: es) X.env = (false, eval e X.env) :: starEach es X.env := by rfl) (hpl : (backTo pos (starEach es X.env)).any (·.1) = false := by rfl)
    (pl : Sem Bool) (ht : eval (.Call (.Attribute (.Name x p) m apos) (e :: es) [] pos) X.env = (do
      let ov ← eval (.Name x p) X.env
      standAt apos.atName
      let (f, first) ← holding [ov] (getMethod ov m pl)
      callWith pos f first (backTo pos (starEach (e :: es) X.env)) (backToKw pos (keywordEach [] X.env))) := by rfl)
    (hs : swapsWith (.Call (.Attribute (.Name x p) m apos) (e :: es) [] pos) none pos2.line X.env = pure false := by rfl) :
    PS X (.Expr (.Call (.Attribute (.Name x p) m apos) (e :: es) [] pos) pos2) (tS X.K W (wMG i sp ws)) := by
  obtain ⟨fd, Fk, hb, hM⟩ := h
  refine psImp (ps_expr (pe_methE (E := WE W) hx B.cls hM Fk (hr.mono hj) hb (fun σ => passAt tk σ) ha hst hpl ht) hs) fun D σ H ⟨F, S, Γ, Qd, en, ⟨⟨a, r, g, hb⟩, hw⟩, k⟩ => ?_
  obtain ⟨e1, fp, q1, q2⟩ := en.brs g
  obtain ⟨dx, bl, ll, vs, vn, vb, vl, _, h2, _⟩ := q1.ben hb
  refine ⟨_, e1, a, dx, _, rfl, h2, benF_no hm, F, S, Γ, _, _, en, hw, fun ds Γ1 us H1 ⟨a1, r1, ⟨g1, hb1⟩, q⟩ m1 en1 hv => ?_, fun c Γ' H' q en' => k (.ex c) Γ' S σ H' q en'⟩
  obtain ⟨e2, fp1, q3, q4⟩ := en1.brs g1
  rw [e1] at e2
  cases e2
  exact ⟨S, a, r1, fp1, us, ds, _, _, en1.hid, rfl, q3, hb1, q4, hv, q, fun d r' v S' fp' H' qd L hv' => k .nx _ S' σ H' qd (en1.left g1 q3 L), fun c r' S' fp' H' qc L => k (.ex c) _ S' σ H' qc (en1.left g1 q3 L)⟩
end
/-! ### methods as defs -/
def startB (N : List Str) (s : Sl) (ds : List PyData) : Gm := s :: (ds.map Sl.dat ++ List.replicate (N.length - (ds.length + 1)) Sl.no)
theorem en_startB {K : PySem.W.Frag} {S T : Hd} {H : Hp} {vs : List V} {ds : List PyData} {v0 : V} {s : Sl} (hS : Hid S H) (hT : ∀ b, T b → S b) (h0 : SlOk K ⟨H, S, T, none⟩ S H s (some v0)) (h : DaL K (off S H) vs ds) (N : List Str) :
    En K ⟨H, S, T, none⟩ S (startB N s ds) (L2.start N (v0 :: vs)) H := by
  have hlen := h.length
  have e2 : L2.start N (v0 :: vs) = some v0 :: (vs.map some ++ List.replicate (N.length - (vs.length + 1)) none) := rfl
  have rest : ∀ (i : Nat) (t : Sl), (ds.map Sl.dat ++ List.replicate (N.length - (ds.length + 1)) Sl.no)[i]? = some t → t.mut = false ∧ ∃ o, (vs.map some ++ List.replicate (N.length - (vs.length + 1)) none)[i]? = some o ∧ SlOk K ⟨H, S, T, none⟩ S H t o := fun i t q => by
    by_cases hi : i < ds.length
    · rw [List.getElem?_append_left (by rw [List.length_map]; exact hi), List.getElem?_map, List.getElem?_eq_getElem hi] at q
      cases q
      obtain ⟨v, h1, h2⟩ := h.get (List.getElem?_eq_getElem hi)
      refine ⟨rfl, some v, ?_, v, rfl, h2⟩
      rw [List.getElem?_append_left (by rw [List.length_map]; omega), List.getElem?_map, h1]
      rfl
    · rw [List.getElem?_append_right (by rw [List.length_map]; omega), List.getElem?_replicate] at q
      split at q
      · rename_i hlt
        cases q
        refine ⟨rfl, none, ?_, trivial⟩
        rw [List.getElem?_append_right (by rw [List.length_map]; omega), List.getElem?_replicate, if_pos (by rw [List.length_map] at hlt ⊢; omega)]
      · cases q
  refine ⟨fun b z => ⟨z, hS b z⟩, hT, fun b z => .inl z, hS, fun b o _ q => q, ?_, fun i t q => ?_, fun i j s1 s2 o1 o2 b hij q1 q2 m1 m2 r1 => ?_⟩
  · rw [e2]
    unfold startB
    simp only [List.length_cons, List.length_append, List.length_map, List.length_replicate]
    omega
  · rw [e2]
    match i, q with
    | 0, q => cases q; exact ⟨_, rfl, h0⟩
    | i + 1, q => exact (rest i t q).2
  · match i, j, q1, q2 with
    | 0, 0, _, _ => exact absurd rfl hij
    | 0, j + 1, _, q2 => rw [(rest j s2 q2).1] at m2; cases m2
    | i + 1, _, q1, _ => rw [(rest i s1 q1).1] at m1; cases m1
def endB (a : Addr) (Q : PyData → Rs → Prop) (E : Str → Rs → Prop) : Out → Gm → Prop
  | .nx => fun Γ => ∃ r, Γ[0]? = some (Sl.rs a r) ∧ Q .none r
  | .rt d => fun Γ => ∃ r, Γ[0]? = some (Sl.rs a r) ∧ Q d r
  | .ex c => fun Γ => ∃ r, Γ[0]? = some (Sl.rs a r) ∧ E c r
  | _ => fun _ => False
section
variable {P : Program} {w : World} {K : PySem.W.Frag} {mg : Str → Option Value} {base : Heap} {m q : Str}
abbrev MAt (K : PySem.W.Frag) (m q : Str) (st : Stmt) : Prop := ∃ fd, FunD K m q (defArgs st) (defBody st) (defScope st) [] [] (mAt K m) fd
abbrev MBinds (m q : Str) (st : Stmt) (ps : List Str) : Prop := ∀ (kV doc pm : Value) (an : Option Addr) (cdv ct : Value) (us : List Value), us.length = ps.length → bindArgs (PySem.W.fnOf m q (defArgs st) (defBody st) (defScope st) .none kV doc pm an cdv ct) ⟨us, []⟩ = pure (ps.zip us)
theorem mokV_of {st : Stmt} {N ps : List Str} {k : Nat} {sp : VSp} (hD : MAt K m q st) (hm : Meth K (He.ga K "Bench") m (mAt K m)) (bd : MBinds m q st ps) (Sc : FnScope N ps (defScope st)) (len : ∀ r ds Q E, sp r ds Q E → ds.length + 1 = ps.length) (wb : DS)
    (hb : ∀ (cdv : Value) (A : Around) (outer : List Env) (s : Shared) (H : Hp) (E : XK), Room k (A.deeper (PyProof.Rows.envOfC q (defScope st) s.heap.objs.size (mAt K m) cdv)) → PSs (bX P w K mg base N q (defScope st) (mAt K m) cdv A outer s H E) (defBody st) (tS K (Wd E) wb))
    (hd : ∀ a r ds Q E, r.ben = true → sp r ds Q E → wb (startB N (.vw a r) ds) (endO Q E)) : Mok P w K mg base m (k + 1) ps (spV K sp) := by
  obtain ⟨fd, F⟩ := hD
  refine ⟨fd, F.ok Sc (fun vs H Q E ⟨S, a, r, fp, vs', ds, Qd, Ed, _, e, _, _, _, hv, h, _⟩ => ?_) fun cdv A outer s H vs Q E hr h => ⟨_, hb cdv A outer s H E hr, ?_⟩, F.bindsN bd, hm⟩
  · rw [e, List.length_cons, hv.length]; exact len r ds Qd Ed h
  · obtain ⟨S, a, r, fp, vs', ds, Qd, Ed, hS, rfl, hr, hben, hfp, hv, h, kq, ke⟩ := h
    refine ⟨⟨H, S, fun _ => False, none⟩, S, startB N (.vw a r) ds, _, en_startB (K := K) (T := fun _ => False) (s := .vw a r) (v0 := .ref a) hS (fun _ z => z.elim) ⟨rfl, fp, hr, fun b hb => ⟨hfp b hb, fun z => z, hr.here b hb, hfp b hb⟩⟩ hv N, hd a r ds Qd Ed hben h, fun o Γ' S' σ' H' q e' => ?_⟩
    have sm : Same H H' := fun b u z => e'.base b u (fun y => y) z
    have so : ∀ {v : V} {d : PyData}, Da K (off S' H') v d → Da K (off S H') v d := fun z => z.mono (off_sub fun b y => (e'.sub b y).1)
    cases o with
    | nx => exact kq .none .non H' q sm .non
    | rt d => exact fun v hv' => kq d v H' q sm (so hv')
    | ex c => exact ke c H' q sm
    | bk => exact q.elim
    | ct => exact q.elim
theorem mokG_of {st : Stmt} {N ps : List Str} {k : Nat} {sp : GSp} (hD : MAt K m q st) (hm : Meth K (He.ga K "Bench") m (mAt K m)) (bd : MBinds m q st ps) (Sc : FnScope N ps (defScope st)) (len : ∀ r ds Q E, sp r ds Q E → ds.length + 1 = ps.length) (wb : DS)
    (hb : ∀ (cdv : Value) (A : Around) (outer : List Env) (s : Shared) (H : Hp) (E : XK), Room k (A.deeper (PyProof.Rows.envOfC q (defScope st) s.heap.objs.size (mAt K m) cdv)) → PSs (bX P w K mg base N q (defScope st) (mAt K m) cdv A outer s H E) (defBody st) (tS K (Wd E) wb))
    (hd : ∀ a r ds Q E, r.ben = true → sp r ds Q E → wb (startB N (.rs a r) ds) (endB a Q E)) : Mok P w K mg base m (k + 1) ps (spG K sp) := by
  obtain ⟨fd, F⟩ := hD
  refine ⟨fd, F.ok Sc (fun vs H Q E ⟨S, a, r, fp, vs', ds, Qd, Ed, _, e, _, _, _, hv, h, _⟩ => ?_) fun cdv A outer s H vs Q E hr h => ⟨_, hb cdv A outer s H E hr, ?_⟩, F.bindsN bd, hm⟩
  · rw [e, List.length_cons, hv.length]; exact len r ds Qd Ed h
  · obtain ⟨S, a, r, fp, vs', ds, Qd, Ed, hS, rfl, hr, hben, hfp, hv, h, kq, ke⟩ := h
    refine ⟨⟨H, S, fun b => b ∈ fp, none⟩, S, startB N (.rs a r) ds, _, en_startB (K := K) (T := fun b => b ∈ fp) (s := .rs a r) (v0 := .ref a) hS hfp ⟨rfl, fp, hr, fun b hb => ⟨hfp b hb, .inl hb⟩⟩ hv N, hd a r ds Qd Ed hben h, fun o Γ' S' σ' H' q e' => ?_⟩
    have L : ∀ {r' : Rs}, Γ'[0]? = some (Sl.rs a r') → ∃ fp', Left K S S' H H' a fp r' fp' := fun {r'} g => by
      obtain ⟨o, _, _, fp', k2, k3⟩ := e'.slot 0 _ g
      exact ⟨fp', fun b z => (e'.sub b z).1, fun b z => (e'.fr b z).elim .inl fun y => y.elim (fun y => .inl (hfp b y)) .inr, e'.hid, fun b o nb hb => e'.base b o nb hb, k2, k3⟩
    cases o with
    | nx =>
      obtain ⟨r', g, q⟩ := q
      obtain ⟨fp', l⟩ := L g
      exact kq .none r' .non S' fp' H' q l .non
    | rt d =>
      obtain ⟨r', g, q⟩ := q
      obtain ⟨fp', l⟩ := L g
      exact fun v hv' => kq d r' v S' fp' H' q l hv'
    | ex c =>
      obtain ⟨r', g, q⟩ := q
      obtain ⟨fp', l⟩ := L g
      exact ke c r' S' fp' H' q l
    | bk => exact q.elim
    | ct => exact q.elim
end
end Dt

/-! Gat21: go, undo, redo, __init__ of a bench; a bench is made. -/
namespace Dt
open PySem L2
def Sp_go : GSp := fun r ds Q _ => ∃ d1 d2, ds = [d1, d2] ∧ r.before.length < 16000000 ∧ Q .none { r with now := .tuple [d1, d2], before := r.before ++ [r.now], later := [] }
def Sp_undo : GSp := fun r ds Q _ => ds = [] ∧ r.later.length < 16000000 ∧ (r.before = [] → Q (.bool false) r) ∧ ∀ bs x, r.before = bs ++ [x] → Q (.bool true) { r with now := x, before := bs, later := r.later ++ [r.now] }
def Sp_redo : GSp := fun r ds Q _ => ds = [] ∧ r.before.length < 16000000 ∧ (r.later = [] → Q (.bool false) r) ∧ ∀ bs x, r.later = bs ++ [x] → Q (.bool true) { r with now := x, later := bs, before := r.before ++ [r.now] }
theorem nd4 {a b c d : Addr} (h : [a, b, c, d].Nodup) : a ≠ b ∧ a ≠ c ∧ a ≠ d ∧ b ≠ c ∧ b ≠ d ∧ c ≠ d := by
  simp only [List.nodup_cons, List.mem_cons, List.not_mem_nil, or_false, not_or, List.nodup_nil, and_true] at h
  obtain ⟨⟨h1, h2, h3⟩, ⟨h4, h5⟩, h6, _⟩ := h
  exact ⟨h1, h2, h3, h4, h5, h6⟩
theorem mk4 {a b c d : Addr} (h1 : a ≠ b) (h2 : a ≠ c) (h3 : a ≠ d) (h4 : b ≠ c) (h5 : b ≠ d) (h6 : c ≠ d) : [a, b, c, d].Nodup := by
  simp [h1, h2, h3, h4, h5, h6]
abbrev tApp (K : PySem.W.Frag) (f g : Str) : TS := tDrop (tBM K "list" rAppend (tFld K (tVar 0) f) (tCons (tFld K (tVar 0) g) tNil))
abbrev tGo (K : PySem.W.Frag) : TS := tSeq (tApp K "before" "now") (tSeq (sFld K (tVar 0) (tLst tNil) "later") (sFld K (tVar 0) (tTup (tCons (tVar 1) (tCons (tVar 2) tNil))) "now"))
theorem bn_noat {K : PySem.W.Frag} (B : BenK K) : NoAttr K (He.ga K "Bench") "before" ∧ NoAttr K (He.ga K "Bench") "later" ∧ NoAttr K (He.ga K "Bench") "now" ∧ NoAttr K (He.ga K "Bench") "many" ∧ NoAttr K (He.ga K "Bench") "signs" :=
  ⟨B.noat _ (by decide +kernel), B.noat _ (by decide +kernel), B.noat _ (by decide +kernel), B.noat _ (by decide +kernel), B.noat _ (by decide +kernel)⟩
theorem go_rd {K : PySem.W.Frag} (B : BenK K) {vs : List V} {H : Hp} {Q : VK} {E : XK} (h : spX K Sp_go vs H Q E) : tGo K { nx := fun _ H' => Q .non H', rt := Q } (L2.start ["self", "seen", "marked"] vs) H := by
  obtain ⟨S, a, r, fp, v1, v2, d1, d2, Qd, Ed, hS, rfl, hr, hben, hfp, hv1, hx2, ⟨_, _, ee, hz, hq⟩, kq⟩ := h
  cases ee
  have hv2 := hx2.da
  obtain ⟨dx, bl, ll, vg, vn, vb, vl, rfl, ha, hdx, hg, hn, hbl, hll, hb, hl, nd, nx1, nx2, nx3⟩ := hr.ben hben
  obtain ⟨n1, n2, n3, n4, n5, n6⟩ := nd4 nd
  obtain ⟨na1, na2, na3, _⟩ := bn_noat B
  have Sa : S a := hfp a (by simp)
  have Sdx : S dx := hfp dx (by simp)
  have Sbl : S bl := hfp bl (by simp)
  refine ⟨_, rfl, a, _, dx, _, .ref bl, rfl, ha, B.cls, na1, by rfl, .inl ⟨rfl, _, .of hbl⟩, _, rfl, a, _, dx, _, vn, rfl, ha, B.cls, na3, by rfl, bl, vb, vn, rfl, rfl, hbl, by rw [hb.length, sizeLine_eq]; omega, ?_⟩
  refine ⟨Nat.zero_le _, fun p hp => ?_⟩
  have pbl : p ≠ bl := by rintro rfl; rw [upd_same] at hp; cases hp
  have hp0 : H p = none := by rw [upd_ne pbl] at hp; exact hp
  have pa : a ≠ p := ne_of_none ha hp0
  have pdx : dx ≠ p := ne_of_none hdx hp0
  refine ⟨_, rfl, a, _, dx, _, rfl, (by rw [upd_ne pa, upd_ne n2]; exact ha), B.cls, na2, by show 5 < 1000; decide, ?_⟩
  refine ⟨v1, rfl, v2, rfl, by show 2 ≤ sizeLine; rw [sizeLine_eq]; decide, fun t ht => ?_⟩
  have ta : t ≠ a := by rintro rfl; rw [upd_same] at ht; cases ht
  have tp : t ≠ p := by rintro rfl; rw [upd_ne ta, upd_same] at ht; cases ht
  have tb : t ≠ bl := by rintro rfl; rw [upd_ne ta, upd_ne tp, upd_same] at ht; cases ht
  have ht0 : H t = none := by rw [upd_ne ta, upd_ne tp, upd_ne tb] at ht; exact ht
  refine ⟨_, rfl, a, _, dx, _, rfl, (by rw [upd_ne (Ne.symm ta), upd_same]), B.cls, na3, by show 5 < 1000; decide, ?_⟩
  refine kq .none _ .non (fun b => S b ∨ b = p) [a, dx, bl, p] _ hq ?_ .non
  obtain ⟨H5, hH5⟩ : ∃ H5, upd (upd (upd (upd (upd H bl (.lst (vb ++ [vn]))) p (.lst [])) a (.ins (He.ga K "Bench") dx (putF "later" (.ref p) (benF r.many vg vn bl ll)))) t (.tup [v1, v2])) a (.ins (He.ga K "Bench") dx (putF "now" (.ref t) (putF "later" (.ref p) (benF r.many vg vn bl ll)))) = H5 := ⟨_, rfl⟩
  show Left K S _ H (upd (upd (upd (upd (upd H bl (.lst (vb ++ [vn]))) p (.lst [])) a (.ins (He.ga K "Bench") dx (putF "later" (.ref p) (benF r.many vg vn bl ll)))) t (.tup [v1, v2])) a (.ins (He.ga K "Bench") dx (putF "now" (.ref t) (putF "later" (.ref p) (benF r.many vg vn bl ll))))) a _ _ _
  rw [hH5]
  have ga : H5 a = some (.ins (He.ga K "Bench") dx (benF r.many vg (.ref t) bl p)) := by rw [← hH5, upd_same]; rfl
  have gt : H5 t = some (.tup [v1, v2]) := by rw [← hH5, upd_ne ta, upd_same]
  have gp : H5 p = some (.lst []) := by rw [← hH5, upd_ne (Ne.symm pa), upd_ne (Ne.symm tp), upd_ne (Ne.symm pa), upd_same]
  have gb : H5 bl = some (.lst (vb ++ [vn])) := by rw [← hH5, upd_ne (Ne.symm n2), upd_ne (Ne.symm tb), upd_ne (Ne.symm n2), upd_ne (Ne.symm pbl), upd_same]
  have go : ∀ b, b ≠ a → b ≠ t → b ≠ p → b ≠ bl → H5 b = H b := fun b h1 h2 h3 h4 => by rw [← hH5, upd_ne h1, upd_ne h2, upd_ne h1, upd_ne h3, upd_ne h4]
  have e : Same (off S H) (off (fun b => S b ∨ b = p) H5) := fun b o z => by
    obtain ⟨n, z⟩ := off_get z
    have bp : b ≠ p := ne_of_none z hp0
    rw [off_in (fun y => y.elim n bp), go b (fun y => n (y ▸ Sa)) (ne_of_none z ht0) bp (fun y => n (y ▸ Sbl))]
    exact z
  refine ⟨fun b z => .inl z, fun b z => z.imp id fun y => by rw [y]; exact hp0, fun b z y => ?_, fun b o nb z => ?_, ?_, fun b hb => ?_⟩
  · by_cases c1 : b = a
    · rw [c1, ga] at y; cases y
    by_cases c2 : b = t
    · rw [c2, gt] at y; cases y
    by_cases c3 : b = p
    · rw [c3, gp] at y; cases y
    by_cases c4 : b = bl
    · rw [c4, gb] at y; cases y
    rw [go b c1 c2 c3 c4] at y
    exact hS b (z.resolve_right c3) y
  · simp only [List.mem_cons, List.not_mem_nil, or_false, not_or] at nb
    rw [go b nb.1 (ne_of_none z ht0) (ne_of_none z hp0) nb.2.2.1]
    exact z
  · refine ⟨bl, p, .ref t, vb ++ [vn], [], gb, gp, (hb.mono e).append (.cons (hn.mono e) .nil), .nil, .tup (.of ?_) (.cons (hv1.mono e) (.cons (hv2.mono e) .nil)), mk4 n1 n2 pa n4 pdx (Ne.symm pbl), .inl ⟨hben, dx, vg, rfl, ga, ?_, hg.mono e, ⟨t, v1, v2, d1, d2, rfl, .of ?_, rfl, hv1.mono e, hx2.mono e⟩, (nx2.mono e).snoc (nx1.mono e), .nil⟩⟩
    · rw [off_in (fun y => y.elim (fun y => hS t y ht0) tp)]; exact gt
    · rw [go dx (Ne.symm n1) (ne_of_none hdx ht0) pdx n4]; exact hdx
    · rw [off_in (fun y => y.elim (fun y => hS t y ht0) tp)]; exact gt
  · simp only [List.mem_cons, List.not_mem_nil, or_false] at hb
    rcases hb with rfl | rfl | rfl | rfl
    · exact ⟨.inl Sa, .inl (by simp)⟩
    · exact ⟨.inl Sdx, .inl (by simp)⟩
    · exact ⟨.inl Sbl, .inl (by simp)⟩
    · exact ⟨.inr rfl, .inr hp0⟩
/-! ### undo, redo -/
abbrev tBack (K : PySem.W.Frag) (f g : Str) : TS := tSeq (tIfS (tNot fun σ H Q => tFld K (tVar 0) f σ H fun x H' => ∃ k, TruV K x H' k ∧ Q k H') (tRet (tC (.bl false))) tNext) (tSeq (tApp K g "now") (tSeq (sFld K (tVar 0) (tBM0 K "list" rPop (tFld K (tVar 0) f)) "now") (tRet (tC (.bl true)))))
theorem DaL.lastS {K : PySem.W.Frag} {h : Hp} {vs : List V} {ds : List PyData} {x : PyData} (q : DaL K h vs (ds ++ [x])) : ∃ us v, vs = us ++ [v] ∧ DaL K h us ds ∧ Da K h v x := by
  induction ds generalizing vs with
  | nil => obtain ⟨v, rfl, hv⟩ := q.one; exact ⟨[], v, rfl, .nil, hv⟩
  | cons d ds ih =>
    cases q with
    | cons h1 h2 =>
      obtain ⟨us, v, rfl, h3, h4⟩ := ih h2
      exact ⟨_ :: us, v, rfl, .cons h1 h3, h4⟩
/-- the change of a step back or forth -/
theorem left_back {K : PySem.W.Frag} {S : Hd} {H : Hp} {a dx bl ll : Addr} {vg vx : V} {ub ul : List V} {r' : Rs} (hS : Hid S H) (hfp : ∀ b ∈ [a, dx, bl, ll], S b) (nd : [a, dx, bl, ll].Nodup) (ha : H a ≠ none) (hdx : H dx = some (.own a)) (hbl : H bl ≠ none) (hll : H ll ≠ none) (hg : Da K (off S H) vg (.list r'.signs)) (hx : Da K (off S H) vx r'.now) (hb : DaL K (off S H) ub r'.before) (hl : DaL K (off S H) ul r'.later) (hben : r'.ben = true) (x1 : NowX K (off S H) vx r'.now) (x2 : NowL K (off S H) ub r'.before) (x3 : NowL K (off S H) ul r'.later)
    {H5 : Hp} (ga : H5 a = some (.ins (He.ga K "Bench") dx (benF r'.many vg vx bl ll))) (gb : H5 bl = some (.lst ub)) (gl : H5 ll = some (.lst ul)) (go : ∀ b, b ≠ a → b ≠ bl → b ≠ ll → H5 b = H b) : Left K S S H H5 a [a, dx, bl, ll] r' [a, dx, bl, ll] := by
  obtain ⟨n1, n2, n3, n4, n5, n6⟩ := nd4 nd
  have e : Same (off S H) (off S H5) := fun b o z => by
    obtain ⟨n, z⟩ := off_get z
    rw [off_in n, go b (fun y => n (y ▸ hfp a (by simp))) (fun y => n (y ▸ hfp bl (by simp))) (fun y => n (y ▸ hfp ll (by simp)))]
    exact z
  refine ⟨fun b z => z, fun b z => .inl z, fun b z y => ?_, fun b o nb z => ?_, ?_, fun b hb => ⟨hfp b hb, .inl hb⟩⟩
  · by_cases c1 : b = a
    · rw [c1, ga] at y; cases y
    by_cases c3 : b = ll
    · rw [c3, gl] at y; cases y
    by_cases c4 : b = bl
    · rw [c4, gb] at y; cases y
    rw [go b c1 c4 c3] at y
    exact hS b z y
  · simp only [List.mem_cons, List.not_mem_nil, or_false, not_or] at nb
    rw [go b nb.1 nb.2.2.1 nb.2.2.2]
    exact z
  · exact ⟨bl, ll, vx, ub, ul, gb, gl, hb.mono e, hl.mono e, hx.mono e, nd, .inl ⟨hben, dx, vg, rfl, ga, by rw [go dx (Ne.symm n1) n4 n5]; exact hdx, hg.mono e, x1.mono e, x2.mono e, x3.mono e⟩⟩
theorem left_refl {K : PySem.W.Frag} {S : Hd} {H : Hp} {a : Addr} {r : Rs} {fp : List Addr} (hS : Hid S H) (h : RsOk K (off S H) H a r fp) (hfp : ∀ b ∈ fp, S b) : Left K S S H H a fp r fp := ⟨fun _ z => z, fun _ z => .inl z, hS, fun _ _ _ z => z, h, fun b hb => ⟨hfp b hb, .inl hb⟩⟩
theorem undo_rd {K : PySem.W.Frag} (B : BenK K) {vs : List V} {H : Hp} {Q : VK} {E : XK} (h : spM K Sp_undo vs H Q E) : tBack K "before" "later" { nx := fun _ H' => Q .non H', rt := Q } (L2.start ["self"] vs) H := by
  obtain ⟨S, a, r, fp, vs', ds, Qd, Ed, hS, rfl, hr, hben, hfp, hv, ⟨rfl, hz, hq0, hq1⟩, kq⟩ := h
  cases hv
  have hr0 := hr
  obtain ⟨dx, bl, ll, vg, vn, vb, vl, rfl, ha, hdx, hg, hn, hbl, hll, hb, hl, nd, nx1, nx2, nx3⟩ := hr.ben hben
  obtain ⟨n1, n2, n3, n4, n5, n6⟩ := nd4 nd
  obtain ⟨na1, na2, na3, _⟩ := bn_noat B
  refine ⟨_, rfl, a, _, dx, _, .ref bl, rfl, ha, B.cls, na1, by rfl, !vb.isEmpty, .inl ⟨vb, .of hbl, rfl⟩, ?_⟩
  rcases List.eq_nil_or_concat r.before with c | ⟨bs, x, c⟩
  · rw [c] at hb
    cases hb
    exact kq (.bool false) r (.bl false) H (hq0 c) (left_refl hS hr0 hfp) (.bl false)
  rw [List.concat_eq_append] at c
  rw [c] at hb nx2
  obtain ⟨ub, vx, rfl, hub, hvx⟩ := hb.lastS
  rw [show (!(!(ub ++ [vx]).isEmpty)) = false by cases ub <;> rfl]
  refine ⟨_, rfl, a, _, dx, _, .ref ll, rfl, ha, B.cls, na2, by rfl, .inl ⟨rfl, _, .of hll⟩, _, rfl, a, _, dx, _, vn, rfl, ha, B.cls, na3, by rfl, ll, vl, vn, rfl, rfl, hll, by rw [hl.length, sizeLine_eq]; omega, ?_⟩
  have g1 : upd H ll (.lst (vl ++ [vn])) a = some (.ins (He.ga K "Bench") dx (benF r.many vg vn bl ll)) := by rw [upd_ne n3]; exact ha
  have g2 : upd H ll (.lst (vl ++ [vn])) bl = some (.lst (ub ++ [vx])) := by rw [upd_ne n6]; exact hbl
  refine ⟨_, rfl, a, _, dx, _, .ref bl, rfl, g1, B.cls, na1, by rfl, .inl ⟨rfl, _, .of g2⟩, bl, ub ++ [vx], vx, rfl, rfl, g2, by simp, ?_⟩
  rw [List.dropLast_concat]
  refine ⟨_, rfl, a, _, dx, _, rfl, (by rw [upd_ne n2]; exact g1), B.cls, na3, by show 5 < 1000; decide, ?_⟩
  refine kq (.bool true) _ (.bl true) _ (hq1 bs x c) (left_back (r' := { r with now := x, before := bs, later := r.later ++ [r.now] }) hS hfp nd (by rw [ha]; intro z; cases z) hdx (by rw [hbl]; intro z; cases z) (by rw [hll]; intro z; cases z) (vg := vg) (vx := vx) (ub := ub) (ul := vl ++ [vn]) hg hvx hub (hl.append (.cons hn .nil)) hben (nx2.lastS hub.length).2 (nx2.lastS hub.length).1 (nx3.snoc nx1) (by rw [upd_same]; rfl) (by rw [upd_ne (Ne.symm n2), upd_same]) (by rw [upd_ne (Ne.symm n3), upd_ne (Ne.symm n6), upd_same]) (fun b h1 h2 h3 => by rw [upd_ne h1, upd_ne h2, upd_ne h3])) (.bl true)
theorem redo_rd {K : PySem.W.Frag} (B : BenK K) {vs : List V} {H : Hp} {Q : VK} {E : XK} (h : spM K Sp_redo vs H Q E) : tBack K "later" "before" { nx := fun _ H' => Q .non H', rt := Q } (L2.start ["self"] vs) H := by
  obtain ⟨S, a, r, fp, vs', ds, Qd, Ed, hS, rfl, hr, hben, hfp, hv, ⟨rfl, hz, hq0, hq1⟩, kq⟩ := h
  cases hv
  have hr0 := hr
  obtain ⟨dx, bl, ll, vg, vn, vb, vl, rfl, ha, hdx, hg, hn, hbl, hll, hb, hl, nd, nx1, nx2, nx3⟩ := hr.ben hben
  obtain ⟨n1, n2, n3, n4, n5, n6⟩ := nd4 nd
  obtain ⟨na1, na2, na3, _⟩ := bn_noat B
  refine ⟨_, rfl, a, _, dx, _, .ref ll, rfl, ha, B.cls, na2, by rfl, !vl.isEmpty, .inl ⟨vl, .of hll, rfl⟩, ?_⟩
  rcases List.eq_nil_or_concat r.later with c | ⟨bs, x, c⟩
  · rw [c] at hl
    cases hl
    exact kq (.bool false) r (.bl false) H (hq0 c) (left_refl hS hr0 hfp) (.bl false)
  rw [List.concat_eq_append] at c
  rw [c] at hl nx3
  obtain ⟨ub, vx, rfl, hub, hvx⟩ := hl.lastS
  rw [show (!(!(ub ++ [vx]).isEmpty)) = false by cases ub <;> rfl]
  refine ⟨_, rfl, a, _, dx, _, .ref bl, rfl, ha, B.cls, na1, by rfl, .inl ⟨rfl, _, .of hbl⟩, _, rfl, a, _, dx, _, vn, rfl, ha, B.cls, na3, by rfl, bl, vb, vn, rfl, rfl, hbl, by rw [hb.length, sizeLine_eq]; omega, ?_⟩
  have g1 : upd H bl (.lst (vb ++ [vn])) a = some (.ins (He.ga K "Bench") dx (benF r.many vg vn bl ll)) := by rw [upd_ne n2]; exact ha
  have g2 : upd H bl (.lst (vb ++ [vn])) ll = some (.lst (ub ++ [vx])) := by rw [upd_ne (Ne.symm n6)]; exact hll
  refine ⟨_, rfl, a, _, dx, _, .ref ll, rfl, g1, B.cls, na2, by rfl, .inl ⟨rfl, _, .of g2⟩, ll, ub ++ [vx], vx, rfl, rfl, g2, by simp, ?_⟩
  rw [List.dropLast_concat]
  refine ⟨_, rfl, a, _, dx, _, rfl, (by rw [upd_ne n3]; exact g1), B.cls, na3, by show 5 < 1000; decide, ?_⟩
  refine kq (.bool true) _ (.bl true) _ (hq1 bs x c) (left_back (r' := { r with now := x, later := bs, before := r.before ++ [r.now] }) hS hfp nd (by rw [ha]; intro z; cases z) hdx (by rw [hbl]; intro z; cases z) (by rw [hll]; intro z; cases z) (vg := vg) (vx := vx) (ub := vb ++ [vn]) (ul := ub) hg hvx (hb.append (.cons hn .nil)) hub hben (nx3.lastS hub.length).2 (nx2.snoc nx1) (nx3.lastS hub.length).1 (by rw [upd_same]; rfl) (by rw [upd_ne (Ne.symm n2), upd_ne n6, upd_same]) (by rw [upd_ne (Ne.symm n3), upd_same]) (fun b h1 h2 h3 => by rw [upd_ne h1, upd_ne h3, upd_ne h2])) (.bl true)
/-! ### a new bench -/
abbrev ISp := List PyData → (Rs → Prop) → (Str → Prop) → Prop
def spI (K : PySem.W.Frag) (sp : ISp) : Sp := fun vs H Q E => ∃ (S : Hd) (a dx : Addr) (vs' : List V) (ds : List PyData) (Qd : Rs → Prop) (Ed : Str → Prop), Hid S H ∧ vs = .ref a :: vs' ∧ S a ∧ S dx ∧ a ≠ dx ∧ H a = some (.ins (He.ga K "Bench") dx []) ∧ H dx = some (.own a) ∧ DaL K (off S H) vs' ds ∧ sp ds Qd Ed ∧
  (∀ r S' fp' H', Qd r → Left K S S' H H' a [a, dx] r fp' → Q .non H') ∧ (∀ c H', Ed c → Same H H' → E (.ref (He.ga K c)) none H')
abbrev tTupX (t : TA) : TE := fun σ H Q => t σ H fun xs H1 => xs.length ≤ sizeLine ∧ ∀ p ob, H1 p = none → ob.dict = none → Q (.ref p) (upd H1 p (.frz ob (.tup xs)))
abbrev tInit (K : PySem.W.Frag) (W : WX) (wt : DB) (w : DE) : TS := tSeq (tIfS (tB K W wt) (tS K W (wRaise "BadNumber")) tNext) (tSeq (sFld K (tVar 0) (tVar 1) "many") (tSeq (sFld K (tVar 0) (tD K W w) "signs") (tSeq (sFld K (tVar 0) (tTup (tCons (tTup tNil) (tCons (tTupX tNil) tNil))) "now") (tSeq (sFld K (tVar 0) (tLst tNil) "before") (sFld K (tVar 0) (tLst tNil) "later")))))
def new0 (i : Int) (l : List PyData) : Rs := ⟨true, i, l, .tuple [.tuple [], .tuple []], [], []⟩
theorem en_two {K : PySem.W.Frag} {S : Hd} {H : Hp} {v0 v : V} {d : PyData} (hS : Hid S H) (h : Da K (off S H) v d) : En K ⟨H, S, fun _ => False, none⟩ S [.no, .dat d] [some v0, some v] H := en_startB (K := K) (T := fun _ => False) (s := .no) (v0 := v0) (vs := [v]) (ds := [d]) hS (fun _ z => z.elim) trivial (.cons h .nil) ["self", "many"]
theorem init_rd {K : PySem.W.Frag} (B : BenK K) {wt : DB} {w : DE} {sp : ISp} (hd : ∀ ds Q E, sp ds Q E → ∃ d, ds = [d] ∧ wt [.no, .dat d] (fun b Γ => if b = true then E "BadNumber" else ∃ i, d = .int i ∧ w [.no, .dat d] (fun e _ => ∃ l, e = .list l ∧ Q (new0 i l)) (fun _ _ => False)) (fun _ _ => False)) {vs : List V} {H : Hp} {Q : VK} {E : XK} (h : spI K sp vs H Q E) :
    tInit K (Wd E) wt w { nx := fun _ H' => Q .non H', rt := Q } (L2.start ["self", "many"] vs) H := by
  obtain ⟨S, a, dx, vs', ds, Qd, Ed, hS, rfl, Sa, Sdx, nax, ha, hdx, hv, hsp, kq, ke⟩ := h
  obtain ⟨d, rfl, hw⟩ := hd _ _ _ hsp
  obtain ⟨v, rfl, hvd⟩ := hv.one
  obtain ⟨na1, na2, na3, na4, na5⟩ := bn_noat B
  show tInit K (Wd E) wt w _ [some (.ref a), some v] H
  refine ⟨_, S, _, _, _, en_two hS hvd, hw, fun b Γ' H1 hb m1 e1 => ?_, fun _ _ _ z => z.elim⟩
  have s1 : Same H H1 := fun b u z => e1.base b u (fun y => y) z
  cases b with
  | true => exact ⟨_, S, _, fun o _ => o = .ex "BadNumber", e1, rfl, fun o Γ2 S2 σ2 H2 z e2 => by
      subst z
      exact ke "BadNumber" H2 hb fun b u z => e2.base b u (fun y => y) z⟩
  | false =>
  obtain ⟨i, rfl, hw2⟩ := hb
  cases hvd
  have ha1 := s1 _ _ ha
  have hdx1 := s1 _ _ hdx
  have hS1 : Hid S H1 := e1.hid
  refine ⟨_, rfl, _, rfl, a, _, dx, _, rfl, ha1, B.cls, na4, by show 0 < 1000; decide, ?_⟩
  obtain ⟨H2, hH2⟩ : ∃ H2, upd H1 a (.ins (He.ga K "Bench") dx (putF "many" (.int i) [])) = H2 := ⟨_, rfl⟩
  show (tSeq (sFld K (tVar 0) (tD K (Wd E) w) "signs") _) _ _ (upd H1 a (.ins (He.ga K "Bench") dx (putF "many" (.int i) [])))
  rw [hH2]
  have g2a : H2 a = some (.ins (He.ga K "Bench") dx [("many", .int i)]) := by rw [← hH2, upd_same]; rfl
  have g2o : ∀ b, b ≠ a → H2 b = H1 b := fun b z => by rw [← hH2, upd_ne z]
  have hS2 : Hid S H2 := fun b z y => by
    by_cases c : b = a
    · rw [c, g2a] at y; cases y
    · rw [g2o b c] at y; exact hS1 b z y
  refine ⟨_, S, _, _, _, en_two hS2 (.int i), hw2, fun e Γ' vg H3 ⟨l, el, hQ⟩ m3 e3 hg => ?_, fun _ _ _ z => z.elim⟩
  subst el
  have s3 : Same H2 H3 := fun b u z => e3.base b u (fun y => y) z
  have hS3 : Hid S H3 := e3.hid
  have g3a := s3 _ _ g2a
  have g3d : H3 dx = some (.own a) := s3 _ _ (by rw [g2o dx (Ne.symm nax)]; exact hdx1)
  refine ⟨_, rfl, a, _, dx, _, rfl, g3a, B.cls, na5, by show 1 < 1000; decide, ?_⟩
  obtain ⟨H4, hH4⟩ : ∃ H4, upd H3 a (.ins (He.ga K "Bench") dx (putF "signs" vg [("many", .int i)])) = H4 := ⟨_, rfl⟩
  show (tSeq (sFld K (tVar 0) (tTup (tCons (tTup tNil) (tCons (tTupX tNil) tNil))) "now") _) _ _ (upd H3 a (.ins (He.ga K "Bench") dx (putF "signs" vg [("many", .int i)])))
  rw [hH4]
  have g4a : H4 a = some (.ins (He.ga K "Bench") dx [("many", .int i), ("signs", vg)]) := by rw [← hH4, upd_same]; rfl
  have g4o : ∀ b, b ≠ a → H4 b = H3 b := fun b z => by rw [← hH4, upd_ne z]
  refine ⟨Nat.zero_le _, fun t1 h1 => ⟨Nat.zero_le _, fun t2 ob h2 ho => ⟨by show 2 ≤ sizeLine; rw [sizeLine_eq]; decide, fun t3 h3 => ?_⟩⟩⟩
  have a1 : a ≠ t1 := ne_of_none g4a h1
  have t12 : t2 ≠ t1 := by rintro rfl; rw [upd_same] at h2; cases h2
  have h2' : H4 t2 = none := by rw [upd_ne t12] at h2; exact h2
  have a2 : a ≠ t2 := ne_of_none g4a h2'
  have t32 : t3 ≠ t2 := by rintro rfl; rw [upd_same] at h3; cases h3
  have t31 : t3 ≠ t1 := by rintro rfl; rw [upd_ne t32, upd_same] at h3; cases h3
  have h3' : H4 t3 = none := by rw [upd_ne t32, upd_ne t31] at h3; exact h3
  have a3 : a ≠ t3 := ne_of_none g4a h3'
  obtain ⟨H7, hH7⟩ : ∃ H7, upd (upd (upd H4 t1 (.tup [])) t2 (.frz ob (.tup []))) t3 (.tup [.ref t1, .ref t2]) = H7 := ⟨_, rfl⟩
  rw [hH7]
  have g7a : H7 a = some (.ins (He.ga K "Bench") dx [("many", .int i), ("signs", vg)]) := by rw [← hH7, upd_ne a3, upd_ne a2, upd_ne a1]; exact g4a
  have g71 : H7 t1 = some (.tup []) := by rw [← hH7, upd_ne (Ne.symm t31), upd_ne (Ne.symm t12), upd_same]
  have g72 : H7 t2 = some (.frz ob (.tup [])) := by rw [← hH7, upd_ne (Ne.symm t32), upd_same]
  have g73 : H7 t3 = some (.tup [.ref t1, .ref t2]) := by rw [← hH7, upd_same]
  have g7o : Same H4 H7 := fun b u z => by rw [← hH7, upd_ne (ne_of_none z h3'), upd_ne (ne_of_none z h2'), upd_ne (ne_of_none z h1)]; exact z
  refine ⟨_, rfl, a, _, dx, _, rfl, g7a, B.cls, na3, by show 2 < 1000; decide, ?_⟩
  refine ⟨Nat.zero_le _, fun bl hbl => ?_⟩
  have ab : a ≠ bl := by rintro rfl; rw [upd_same] at hbl; cases hbl
  have hbl7 : H7 bl = none := by rw [upd_ne (Ne.symm ab)] at hbl; exact hbl
  refine ⟨_, rfl, a, _, dx, _, rfl, (by rw [upd_ne ab, upd_same]), B.cls, na1, by show 3 < 1000; decide, ?_⟩
  refine ⟨Nat.zero_le _, fun ll hll => ?_⟩
  have al : a ≠ ll := by rintro rfl; rw [upd_same] at hll; cases hll
  have bl2 : ll ≠ bl := by rintro rfl; rw [upd_ne (Ne.symm al), upd_same] at hll; cases hll
  have hll7 : H7 ll = none := by rw [upd_ne (Ne.symm al), upd_ne bl2, upd_ne (Ne.symm al)] at hll; exact hll
  refine ⟨_, rfl, a, _, dx, _, rfl, (by rw [upd_ne al, upd_same]), B.cls, na2, by show 4 < 1000; decide, ?_⟩
  refine kq _ (fun b => S b ∨ (b = bl ∨ b = ll)) [a, dx, bl, ll] _ hQ ?_
  obtain ⟨G, hG⟩ : ∃ G, upd (upd (upd (upd (upd H7 a (.ins (He.ga K "Bench") dx (putF "now" (.ref t3) [("many", .int i), ("signs", vg)]))) bl (.lst [])) a (.ins (He.ga K "Bench") dx (putF "before" (.ref bl) (putF "now" (.ref t3) [("many", .int i), ("signs", vg)])))) ll (.lst [])) a (.ins (He.ga K "Bench") dx (putF "later" (.ref ll) (putF "before" (.ref bl) (putF "now" (.ref t3) [("many", .int i), ("signs", vg)])))) = G := ⟨_, rfl⟩
  show Left K S _ H (upd (upd (upd (upd (upd H7 a (.ins (He.ga K "Bench") dx (putF "now" (.ref t3) [("many", .int i), ("signs", vg)]))) bl (.lst [])) a (.ins (He.ga K "Bench") dx (putF "before" (.ref bl) (putF "now" (.ref t3) [("many", .int i), ("signs", vg)])))) ll (.lst [])) a (.ins (He.ga K "Bench") dx (putF "later" (.ref ll) (putF "before" (.ref bl) (putF "now" (.ref t3) [("many", .int i), ("signs", vg)]))))) a _ _ _
  rw [hG]
  have Ga : G a = some (.ins (He.ga K "Bench") dx (benF i vg (.ref t3) bl ll)) := by rw [← hG, upd_same]; rfl
  have Gb : G bl = some (.lst []) := by rw [← hG, upd_ne (Ne.symm ab), upd_ne (Ne.symm bl2), upd_ne (Ne.symm ab), upd_same]
  have Gl : G ll = some (.lst []) := by rw [← hG, upd_ne (Ne.symm al), upd_same]
  have Go : ∀ b, b ≠ a → b ≠ bl → b ≠ ll → G b = H7 b := fun b z1 z2 z3 => by rw [← hG, upd_ne z1, upd_ne z3, upd_ne z1, upd_ne z2, upd_ne z1]
  have S3 : ∀ b u, b ≠ a → H3 b = some u → G b = some u := fun b u nb z => by
    have z7 := g7o b u (by rw [g4o b nb]; exact z)
    rw [Go b nb (ne_of_none z7 hbl7) (ne_of_none z7 hll7)]
    exact z7
  have S0 : ∀ b u, b ≠ a → H b = some u → G b = some u := fun b u nb z => S3 b u nb (s3 b u (by rw [g2o b nb]; exact s1 b u z))
  have e3G : Same (off S H3) (off (fun b => S b ∨ (b = bl ∨ b = ll)) G) := fun b o z => by
    obtain ⟨n, z⟩ := off_get z
    have nb : b ≠ a := fun y => n (y ▸ Sa)
    have z7 := g7o b o (by rw [g4o b nb]; exact z)
    rw [off_in (fun y => y.elim n (fun y => y.elim (ne_of_none z7 hbl7) (ne_of_none z7 hll7)))]
    exact S3 b o nb z
  have fresh : ∀ b, H7 b = none → H b = none := fun b z => by
    cases q : H b with
    | none => rfl
    | some u =>
      by_cases nb : b = a
      · rw [nb, g7a] at z; cases z
      · have y := g7o b u (by rw [g4o b nb]; exact s3 b u (by rw [g2o b nb]; exact s1 b u q))
        rw [z] at y; cases y
  have nS : ∀ b u, H7 b = some u → H4 b = none → ¬ S b := fun b u _ z y => by
    by_cases c : b = a
    · rw [c, g4a] at z; cases z
    · rw [g4o b c] at z; exact hS3 b y z
  have Gd : G dx = some (.own a) := S3 dx _ (Ne.symm nax) g3d
  have db : dx ≠ bl := by rintro rfl; have := g7o dx _ (by rw [g4o dx (Ne.symm nax)]; exact g3d); rw [hbl7] at this; cases this
  have dl : dx ≠ ll := by rintro rfl; have := g7o dx _ (by rw [g4o dx (Ne.symm nax)]; exact g3d); rw [hll7] at this; cases this
  have vt : ∀ t u, H7 t = some u → H4 t = none → off (fun b => S b ∨ (b = bl ∨ b = ll)) G t = some u := fun t u z y => by
    have nb : t ≠ a := fun q => by rw [q, g4a] at y; cases y
    have b1 : t ≠ bl := ne_of_none z hbl7
    have b2 : t ≠ ll := ne_of_none z hll7
    rw [off_in (fun q => q.elim (nS t u z y) (fun q => q.elim b1 b2)), Go t nb b1 b2]
    exact z
  refine ⟨fun b z => .inl z, fun b z => z.imp id fun y => y.elim (fun y => by rw [y]; exact fresh _ hbl7) (fun y => by rw [y]; exact fresh _ hll7), fun b z y => ?_, fun b o nb z => ?_, ?_, fun b hb => ?_⟩
  · by_cases c1 : b = a
    · rw [c1, Ga] at y; cases y
    rcases z with z | z | z
    · cases q : H b with
      | none => exact hS b z q
      | some u => rw [S0 b u c1 q] at y; cases y
    · rw [z, Gb] at y; cases y
    · rw [z, Gl] at y; cases y
  · simp only [List.mem_cons, List.not_mem_nil, or_false, not_or] at nb
    exact S0 b o nb.1 z
  · refine ⟨bl, ll, .ref t3, [], [], Gb, Gl, .nil, .nil, .tup (.of (vt t3 _ g73 h3')) (.cons (.tup (.of (vt t1 _ g71 h1)) .nil) (.cons (.tup (.inl (.inr ⟨ob, vt t2 _ g72 h2'⟩)) .nil) .nil)), mk4 nax ab al db dl (Ne.symm bl2), .inl ⟨rfl, dx, vg, rfl, Ga, Gd, hg.mono e3G, ⟨t3, .ref t1, .ref t2, .tuple [], .tuple [], rfl, .of (vt t3 _ g73 h3'), rfl, .tup (.of (vt t1 _ g71 h1)) .nil, t2, ob, [], [], rfl, vt t2 _ g72 h2', ho, rfl, .nil⟩, .nil, .nil⟩⟩
  · simp only [List.mem_cons, List.not_mem_nil, or_false] at hb
    rcases hb with rfl | rfl | rfl | rfl
    · exact ⟨.inl Sa, .inl (by simp)⟩
    · exact ⟨.inl Sdx, .inl (by simp)⟩
    · exact ⟨.inr (.inl rfl), .inr (fresh _ hbl7)⟩
    · exact ⟨.inr (.inr rfl), .inr (fresh _ hll7)⟩
end Dt

/-! Gat22: x = Bench(e). -/
namespace Dt
open PySem L2
/-- a slot gets a new bench -/
theorem En.newRs {K : PySem.W.Frag} {F : Fm} {S S' : Hd} {Γ : Gm} {σ : St} {H H' : Hp} {a dx : Addr} {o1 o2 : HO} {r : Rs} {fp' : List Addr} (h : En K F S Γ σ H) (i : Nat) (na : H a = none) (nx : H dx = none) (nax : dx ≠ a) (L : Left K (fun b => (S b ∨ b = dx) ∨ b = a) S' (upd (upd H dx o1) a o2) H' a [a, dx] r fp') :
    En K F S' (Γ.set i (.rs a r)) (σ.set i (some (.ref a))) H' := by
  have na1 : upd H dx o1 a = none := by rw [upd_ne (Ne.symm nax)]; exact na
  have h1 := (h.hide (o := o1) nx).hide (o := o2) na1
  have e2 : Same (off (fun b => (S b ∨ b = dx) ∨ b = a) (upd (upd H dx o1) a o2)) (off S' H') := fun b u z => by
    obtain ⟨n, z⟩ := off_get z
    rw [off_in (fun y => (L.dn b y).elim n (fun y => by rw [y] at z; cases z))]
    refine L.keep b u (fun y => ?_) z
    simp only [List.mem_cons, List.not_mem_nil, or_false] at y
    rcases y with y | y
    · exact n (.inr y)
    · exact n (.inl (.inr y))
  have other : ∀ (j : Nat) (s : Sl) (o : Option V) (b : Addr), Γ[j]? = some s → σ[j]? = some o → Fp (upd (upd H dx o1) a o2) s o b → b ∉ [a, dx] ∧ (upd (upd H dx o1) a o2) b ≠ none := fun j s o b g r p => by
    have z := (h1.at g r).fp p
    have p0 : Fp H s o b := Fp.back (h.at g r) (fun b y => by
      have w := ((h.at g r).fp y).2
      have w1 : b ≠ a := fun q => w (by rw [q]; exact na)
      have w2 : b ≠ dx := fun q => w (by rw [q]; exact nx)
      rw [upd_ne w1, upd_ne w2]) p
    have w := ((h.at g r).fp p0).2
    refine ⟨fun y => ?_, z.2⟩
    simp only [List.mem_cons, List.not_mem_nil, or_false] at y
    rcases y with y | y
    · exact w (y ▸ na)
    · exact w (y ▸ nx)
  have keepF : ∀ (j : Nat) (s : Sl) (o : Option V) (b : Addr), Γ[j]? = some s → σ[j]? = some o → Fp (upd (upd H dx o1) a o2) s o b → S' b ∧ H' b = (upd (upd H dx o1) a o2) b := fun j s o b g r p => by
    have z := other j s o b g r p
    refine ⟨L.up b ((h1.at g r).fp p).1, ?_⟩
    cases w : (upd (upd H dx o1) a o2) b with
    | none => exact absurd w z.2
    | some u => exact L.keep b u z.1 w
  have fr0 : ∀ b, (upd (upd H dx o1) a o2) b = none → F.H0 b = none := fun b z => h1.fresh0 z
  have T0 : ∀ b ∈ fp', F.T b ∨ F.H0 b = none := fun b hb => by
    rcases (L.inn b hb).2 with z | z
    · simp only [List.mem_cons, List.not_mem_nil, or_false] at z
      rcases z with rfl | rfl
      · exact .inr (h.fresh0 na)
      · exact .inr (h.fresh0 nx)
    · exact .inr (fr0 b z)
  have h2 := h1.move (S' := S') (H' := H') (fun b z => ⟨L.up b (h1.sub b z).1, (h1.sub b z).2⟩) (fun b z => L.up b (h1.tin b z)) (fun b z => (L.dn b z).elim (h1.fr b) fun y => .inr (.inr (fr0 b y))) L.hid (fun b o nt z => by
    have z2 := h1.base b o nt z
    refine L.keep b o (fun y => ?_) z2
    simp only [List.mem_cons, List.not_mem_nil, or_false] at y
    rcases y with y | y
    · rw [y, h.fresh0 na] at z; cases z
    · rw [y, h.fresh0 nx] at z; cases z) e2 keepF
  have NoF : ∀ (j : Nat) (s : Sl) (o : Option V) (b : Addr), Γ[j]? = some s → σ[j]? = some o → Fp H' s o b → b ∈ fp' → False := fun j s o b g r p hb => by
    have p0 := Fp.back (h1.at g r) (fun b z => (keepF j s o b g r z).2) p
    have z := other j s o b g r p0
    rcases (L.inn b hb).2 with y | y
    · exact z.1 y
    · exact z.2 y
  refine ⟨h2.sub, h2.tin, h2.fr, h2.hid, h2.base, by rw [List.length_set, List.length_set]; exact h.len, fun j s q => ?_, fun j k s1 s2 p1 p2 b hjk q1 q2 m1 m2 r1 r2 f1 f2 => ?_⟩
  · rcases set_at q with ⟨rfl, hi, rfl⟩ | ⟨hne, q⟩
    · exact ⟨_, by rw [getset, if_pos rfl, if_pos (by rw [← h.len]; exact hi)], rfl, fp', L.rs, fun b hb => ⟨(L.inn b hb).1, T0 b hb⟩⟩
    · obtain ⟨o, g, k⟩ := h2.slot j s q
      exact ⟨o, by rw [getset, if_neg hne]; exact g, k⟩
  · rcases set_at q1 with ⟨rfl, hi, rfl⟩ | ⟨hne, q1⟩
    · rcases set_at q2 with ⟨z, _, _⟩ | ⟨hne2, q2⟩
      · exact hjk z
      · rw [getset, if_neg hne2] at r2
        obtain ⟨fp2, y1, y2⟩ := f1
        rw [y1.det L.rs.rsF] at y2
        exact NoF k s2 p2 b q2 r2 f2 y2
    · rw [getset, if_neg hne] at r1
      rcases set_at q2 with ⟨rfl, hi, rfl⟩ | ⟨hne2, q2⟩
      · obtain ⟨fp2, y1, y2⟩ := f2
        rw [y1.det L.rs.rsF] at y2
        exact NoF j s1 p1 b q1 r1 f1 y2
      · rw [getset, if_neg hne2] at r2
        exact h2.inj j k s1 s2 p1 p2 b hjk q1 q2 m1 m2 r1 r2 f1 f2
/-- the class as a maker -/
def Iok (P : Program) (w : World) (K : PySem.W.Frag) (mg : Str → Option Value) (base : Heap) (k : Nat) (ps : List Str) (sp : Sp) : Prop :=
  ∃ fd, FnOk P w K mg base (L2.CX P w) k (mAt K "__init__") fd ps sp ∧ Binds K fd ps [] ∧ Mk K (He.ga K "Bench") (mAt K "__init__") ∧ mg "Bench" = some (.ref (He.ga K "Bench"))
section
variable {X : Cx} {W : WX} {e : Expr} {es : List Expr} {pos p pos' : Pos} {x : Str} {k j : Nat} {ps : List Str}
def wNew (i : Nat) (sp : ISp) (ws : DL) : DS := fun Γ k => ws Γ (fun ds Γ1 => sp ds (fun r => ∀ a, k .nx (Γ1.set i (.rs a r))) (fun _ => False)) (fun c Γ1 => k (.ex c) Γ1)
theorem ds_new {i : Nat} {sp : ISp} {ws : DL} {pos2 : Pos} (h : Iok X.prog X.w X.K X.mg X.base k ps (spI X.K sp)) (hr : Room j X.A) (hj : k + 1 ≤ j) (hN : X.N.Nodup) (hi : X.N[i]? = some x) (hx : Loc X.env.scope x) (hg : Gl X "Bench") (ha : PA X (e :: es) (tL X.K W ws))
    (he : starEach (e :: es) X.env = (false, eval e X.env) :: starEach es X.env := by rfl) (hpl : (backTo pos (starEach es X.env)).any (·.1) = false := by rfl)
    (hs : swapsWith (.Call (.Name "Bench" p) (e :: es) [] pos) (some (.Name x pos')) pos2.line X.env = pure false := by rfl) (hf : X.fn x = true ∨ X.env.scope.names.lookup x = some .local := by first | exact .inl rfl | exact .inr rfl | assumption) :
    PS X (.Assign [.Name x pos'] (.Call (.Name "Bench" p) (e :: es) [] pos) pos2) (tS X.K W (wNew i sp ws)) := by
  obtain ⟨fd, Fk, hb, hM, hm⟩ := h
  refine psImp (ps_set hN hi hx (pe_make (E := E0) hM Fk (hr.mono hj) hg hm hb .nil (fun _ _ _ _ _ _ _ ⟨_, _, _, _, _, _, _, _, _, _, _, _, z⟩ => z.elim) ha (by decide) he hpl) hs hf) fun D σ H ⟨F, S, Γ, Qd, en, hw, kk⟩ => ?_
  refine ⟨F, S, Γ, _, _, en, hw, fun ds Γ1 vs H1 q m1 e1 hv => ?_, fun c Γ' H' q en' => kk (.ex c) Γ' S σ H' q en'⟩
  intro a dx na nx nax
  have na1 : upd H1 dx (.own a) a = none := by rw [upd_ne (Ne.symm nax)]; exact na
  have h1 := (e1.hide (o := .own a) nx).hide (o := .ins (He.ga X.K "Bench") dx []) na1
  rw [List.append_nil]
  refine ⟨_, a, dx, vs, ds, _, _, h1.hid, rfl, .inr rfl, .inl (.inr rfl), Ne.symm nax, upd_same, by rw [upd_ne nax, upd_same], hv.mono ((same_hide nx).trans (same_hide na1)), q, fun r S' fp' H' hq L => ⟨rfl, ?_⟩, fun c H' z => z.elim⟩
  exact kk .nx _ S' _ H' (hq a) (e1.newRs i na nx nax L)
end
end Dt

/-! Gat24: what is handed to go; marks; `is` of truths; xs[-2::-1]; dicts alike. -/
namespace Dt
open PySem PySem.Spec PyProof.Rows L2
section
variable {X : Cx} {W : WX} {e a b c : Expr} {es : List Expr} {pos p apos : Pos} {x m : Str} {st : Stmt} {k j : Nat} {ps : List Str}
/-- a tuple known as made -/
def tDX (K : PySem.W.Frag) (W : WX) (w : DE) : TE := fun σ H Q => ∃ (F : Fm) (S : Hd) (Γ : Gm) (Qd : Kq) (Ed : Ke), En K F S Γ σ H ∧ w Γ Qd Ed ∧
  (∀ d Γ' v H', Qd d Γ' → Mv S σ Γ Γ' H H' → En K F S Γ' σ H' → ExD K (off S H') v d → Q v H') ∧ (∀ c Γ' H', Ed c Γ' → En K F S Γ' σ H' → W (.ref (He.ga K c)) none σ H')
def TupL (dx : List PyData) (d : PyData) : Prop := ∃ ds, dx = [.list ds] ∧ d = .tuple ds
theorem dx_tup {w : DE} (hg : Gl X "tuple") (hm : X.mg "tuple" = none) (he : PE X e (tR X.K W w)) (he2 : starEach [e] X.env = (false, eval e X.env) :: starEach [] X.env := by rfl) : PE X (.Call (.Name "tuple" p) [e] [] pos) (tDX X.K W (wCall TupL (wCons w wNil))) :=
  peImp (pe_callTy call_tupleX hg hm bt_tuple (pa_cons he pa_nil he2) (by decide) (by decide) he2 rfl) fun σ H Q ⟨F, S, Γ, Qd, Ed, en, hw, kq, ke⟩ => ⟨F, S, Γ, _, Ed, en, hw, fun d Γ1 v1 H1 ⟨d2, ⟨ds, e1, e2⟩, q⟩ m1 en1 r1 => by
    cases e1
    subst e2
    obtain ⟨a, vs, rfl, h1, h2⟩ := (r1.dr en1).list
    refine ⟨a, vs, rfl, .of h1, fun l ob hl ho => ?_⟩
    have s := same_new (o := .frz ob (.tup vs)) hl
    have g : off S (upd H1 l (.frz ob (.tup vs))) l = some (.frz ob (.tup vs)) := by rw [off_in (en1.hid.free hl), upd_same]
    exact kq _ Γ1 _ _ q (m1.trans (.of en1 s)) (en1.same s) ⟨l, ob, vs, ds, rfl, g, ho, rfl, h2.mono (Le.off (Le.of s))⟩, ke⟩
/-- self.now[1] -/
def wNow1 (i : Nat) : DE := fun Γ Q _ => ∃ a r d0 d1, Bn Γ i a r ∧ r.now = .tuple [d0, d1] ∧ Q d1 Γ
theorem dx_now {i : Nat} {n1 : Nat} {p1 p2 : Pos} (B : BenK X.K) (h : PE X (.Name x p) (tVar i)) (hb : attributeBase (.Name x p) "now" X.env (eval (.Name x p) X.env) = eval (.Name x p) X.env := by rfl) : PE X (.Subscript (.Attribute (.Name x p) "now" p1) (.Constant (.int 1) n1 p2) pos) (tDX X.K W (wNow1 i)) :=
  peImp (pe_ix ix_seq (pe_fld h hb) pe_int (fun _ _ => rfl)) fun σ H Q ⟨F, S, Γ, Qd, Ed, en, ⟨a, r, d0, d1, ⟨⟨s, g, es⟩, hb⟩, hn, q⟩, kq, ke⟩ => by
    obtain ⟨e1, fp, q1, q2⟩ := en.rsv g es
    obtain ⟨dx, bl, ll, vs, vn, vb, vl, _, h2, _, h4, h5, _, _, _, _, _, ⟨t, v0, v1, e0, e1', rfl, hs, en2, hx0, hx⟩, _⟩ := q1.ben hb
    rw [hn] at en2
    cases en2
    exact ⟨_, e1, a, _, dx, _, .ref t, rfl, h2, B.cls, B.noat _ (by decide +kernel), by rfl, .inr (.inl ⟨t, _, 1, v1, rfl, rfl, seqT off_same hs, rfl, kq d1 Γ v1 H q .refl en hx⟩)⟩
/-- self.go(a, b) -/
theorem ds_go {i : Nat} {w1 w2 : DE} {e2 : Expr} {pos2 : Pos} (h : Mok X.prog X.w X.K X.mg X.base "go" k ps (spX X.K Sp_go)) (B : BenK X.K) (hr : Room j X.A) (hj : k ≤ j) (tk : Takes X W) (hx : PE X (.Name x p) (tVar i)) (h1 : PE X e (tD X.K W w1)) (h2 : PE X e2 (tDX X.K W w2))
    (hs1 : starEach [e, e2] X.env = (false, eval e X.env) :: starEach [e2] X.env := by rfl) (hs2 : starEach [e2] X.env = (false, eval e2 X.env) :: starEach [] X.env := by rfl) (hpl : (backTo pos (starEach [e2] X.env)).any (·.1) = false := by rfl)
    (pl : Sem Bool) (ht : eval (.Call (.Attribute (.Name x p) "go" apos) [e, e2] [] pos) X.env = (do
      let ov ← eval (.Name x p) X.env
      standAt apos.atName
      let (f, first) ← holding [ov] (getMethod ov "go" pl)
      callWith pos f first (backTo pos (starEach [e, e2] X.env)) (backToKw pos (keywordEach [] X.env))) := by rfl)
    (hs : swapsWith (.Call (.Attribute (.Name x p) "go" apos) [e, e2] [] pos) none pos2.line X.env = pure false := by rfl) :
    PS X (.Expr (.Call (.Attribute (.Name x p) "go" apos) [e, e2] [] pos) pos2) (tS X.K W (wMG i Sp_go (wCons w1 (wCons w2 wNil)))) := by
  obtain ⟨fd, Fk, hb, hM⟩ := h
  refine psImp (ps_expr (pe_methE (E := WE W) hx B.cls hM Fk (hr.mono hj) hb (fun σ => passAt tk σ) (pa_cons h1 (pa_cons h2 pa_nil hs2) hs1) hs1 hpl ht) hs) fun D σ H ⟨F, S, Γ, Qd, en, ⟨⟨a, r, g, hb⟩, hw⟩, kk⟩ => ?_
  obtain ⟨e1, fp, q1, q2⟩ := en.brs g
  obtain ⟨dx, bl, ll, vs, vn, vb, vl, _, g2, _⟩ := q1.ben hb
  refine ⟨_, e1, a, dx, _, rfl, g2, benF_no (by decide +kernel), F, S, Γ, _, _, en, hw, fun d1 Γ1 v1 H1 hw2 m1 en1 hv1 => ⟨F, S, Γ1, _, _, en1, hw2, fun d2 Γ2 v2 H2 ⟨a1, r1, ⟨g1, hb1⟩, q⟩ m2 en2 hv2 => ?_, fun c Γ' H' q en' => kk (.ex c) Γ' S σ H' q en'⟩, fun c Γ' H' q en' => kk (.ex c) Γ' S σ H' q en'⟩
  obtain ⟨e3, fp1, q3, q4⟩ := en2.brs g1
  rw [e1] at e3
  cases e3
  exact ⟨S, a, r1, fp1, v1, v2, d1, d2, _, fun _ _ => False, en2.hid, rfl, q3, hb1, q4, hv1.mono m2.le.off, hv2, (by
    obtain ⟨x1, x2, ee, z1, z2⟩ := q
    exact ⟨x1, x2, ee, z1, z2⟩), fun d r' v S' fp' H' qd L hv' => kk .nx _ S' σ H' qd (en2.left g1 q3 L)⟩
/-- dict(e) of such a tuple -/
def PairT (dx : List PyData) (d : PyData) : Prop := ∃ kps : Kps, dx = [.tuple (kps.map fun p => .tuple [kd p.1, p.2])] ∧ (kps.map (·.1)).Nodup ∧ d = eD kps
theorem de_dictX {w : DE} (hc : X.calm = true) (hg : Gl X "dict") (hm : X.mg "dict" = none) (he : PE X e (tDX X.K W w)) (he2 : starEach [e] X.env = (false, eval e X.env) :: starEach [] X.env := by rfl) : PE X (.Call (.Name "dict" p) [e] [] pos) (tD X.K W (wCall PairT (wCons w wNil))) :=
  peImp (pe_callTy (call_dictT hc) hg hm bt_dict (pa_cons he pa_nil he2) (by decide) (by decide) he2 rfl) fun σ H Q ⟨F, S, Γ, Qd, Ed, en, hw, kq, ke⟩ => ⟨F, S, Γ, _, Ed, en, hw, fun d Γ1 v1 H1 ⟨d2, ⟨kps, e1, nd, e2⟩, q⟩ m1 en1 hx => by
    cases e1
    subst e2
    obtain ⟨l, ob, xs, ds, rfl, g1, g2, ee, g3⟩ := hx
    cases ee
    obtain ⟨ps, kvs, rfl, h3, h4⟩ := pairs_of g3
    have em : mergeK [] kvs = kvs := merge_nodup kvs [] (fun _ _ => rfl) (by rw [h4.keysE]; exact nd)
    refine ⟨_, ps, kvs, rfl, ⟨l, ob, rfl, off_same _ _ g1, g2⟩, ?_, fun p hp => ?_⟩
    · clear h4 g3 em g1
      induction h3 with
      | nil => exact .nil
      | cons q _ ih => exact .cons (seqT off_same q) ih
    · rw [em]
      have s := same_new (o := .dK kvs) hp
      exact kq _ Γ1 _ _ q (m1.trans (.of en1 s)) (en1.same s) (.dic (by rw [off_in (en1.hid.free hp), upd_same]) (h4.mono (Le.off (Le.of s)))), ke⟩
/-- {} -/
theorem de_dnew : PE X (.Dict [] [] pos) (tD X.K W (wC (eD []))) := peImp pe_dnewK fun σ H Q ⟨F, S, Γ, Qd, Ed, en, hw, kq, ke⟩ p hp => by
  have s := same_new (o := .dK []) hp
  exact kq _ Γ _ _ hw (.of en s) (en.same s) (.dic (by rw [off_in (en.hid.free hp), upd_same]) .nil)
end
section
variable {K : PySem.W.Frag}
def IsBD (neg : Bool) : PyData → PyData → PyData → Prop := fun x y d => ∃ b c : Bool, x = .bool b ∧ y = .bool c ∧ d = .bool (neg ^^ decide (b = c))
theorem ok_isB : OkR K (fun x y H Q => ∃ b c, x = .bl b ∧ y = .bl c ∧ Q (.bl (decide (b = c))) H) (IsBD false) := fun S H x y dx dy d Q hS ho hx hy kq => by
  obtain ⟨b, c, rfl, rfl, rfl⟩ := ho
  exact ⟨b, c, hx.bool, hy.bool, kq _ H (.refl H) (by rw [Bool.false_xor]; exact .bl _)⟩
theorem ok_isNB : OkR K (fun x y H Q => ∃ b c, x = .bl b ∧ y = .bl c ∧ Q (.bl (!decide (b = c))) H) (IsBD true) := fun S H x y dx dy d Q hS ho hx hy kq => by
  obtain ⟨b, c, rfl, rfl, rfl⟩ := ho
  exact ⟨b, c, hx.bool, hy.bool, kq _ H (.refl H) (by rw [Bool.true_xor]; exact .bl _)⟩
/-- two dicts of the same, their values truths -/
def EqDD : PyData → PyData → PyData → Prop := fun x y d => ∃ (ks ls : List (Key × Bool)), x = eD (ks.map fun q => (q.1, .bool q.2)) ∧ y = eD (ls.map fun q => (q.1, .bool q.2)) ∧ ks.length = ls.length ∧ (∀ q ∈ ks, lk (ls.map fun q => (q.1, PyData.bool q.2)) q.1 = some (.bool q.2)) ∧ d = .bool true
theorem daD_bools {h : Hp} : ∀ {kvs : List (Key × V)} {ks : List (Key × Bool)}, DaD K h kvs ((ks.map fun q => (q.1, PyData.bool q.2)).map encK) → kvs = ks.map fun q => (q.1, V.bl q.2)
  | [], [], _ => rfl
  | kv :: kvs, q :: ks, h0 => by
    have h1 : DaD K h (kv :: kvs) ((kd q.1, PyData.bool q.2) :: ((ks.map fun q => (q.1, PyData.bool q.2)).map encK)) := h0
    generalize hd : kd q.1 = d1 at h1
    cases h1 with
    | cons hv t =>
      have := kd_inj hd
      subst this
      cases hv
      rw [daD_bools t]
      rfl
theorem val_lk : ∀ (ls : List (Key × Bool)) (k : Key) (b : Bool), lk (ls.map fun q => (q.1, PyData.bool q.2)) k = some (.bool b) → valV (ls.map fun q => (q.1, V.bl q.2)) k = some (.bl b)
  | [], k, b, h => by cases h
  | q :: ls, k, b, h => by
    have h : (if q.1 = k then some (PyData.bool q.2) else lk (ls.map fun q => (q.1, PyData.bool q.2)) k) = some (.bool b) := h
    by_cases c : q.1 = k
    · rw [if_pos c] at h
      cases h
      unfold valV
      rw [List.map_cons, List.find?_cons_of_pos (p := fun kv : Key × V => decide (kv.1 = k)) (a := (q.1, V.bl q.2)) (by simp [c])]
      rfl
    · rw [if_neg c] at h
      have := val_lk ls k b h
      unfold valV at this ⊢
      rw [List.map_cons, List.find?_cons_of_neg (by simp [c])]
      exact this
theorem ok_eqDD : OkR K rEqDA EqDD := fun S H x y dx dy d Q hS ho hx hy kq => by
  obtain ⟨ks, ls, rfl, rfl, hl, hk, rfl⟩ := ho
  obtain ⟨a, kvs, rfl, h1, h2⟩ := hx.eD
  obtain ⟨b, lvs, rfl, g1, g2⟩ := hy.eD
  rw [daD_bools h2] at h1
  rw [daD_bools g2] at g1
  refine ⟨a, b, _, _, rfl, rfl, h1, g1, by rw [List.length_map, List.length_map]; exact hl, fun p hp => ?_, kq _ H (.refl H) (.bl true)⟩
  obtain ⟨q, hq, rfl⟩ := List.mem_map.mp hp
  exact ⟨val_lk ls q.1 q.2 (hk q hq), rfl⟩
end
/-! ### xs[-2::-1] -/
theorem fm_congr {α β : Type} {f g : α → Option β} : ∀ l : List α, (∀ i ∈ l, f i = g i) → l.filterMap f = l.filterMap g
  | [], _ => rfl
  | x :: l, h => by rw [List.filterMap_cons, List.filterMap_cons, h x List.mem_cons_self, fm_congr l fun i hi => h i (List.mem_cons_of_mem _ hi)]
theorem pick_b2 (l : List Value) (x : Value) : slicePick (l ++ [x]).toArray (some (-2)) none (some (-1)) = l.reverse.toArray := by
  have h := PySem.W.krv_pick l.toArray
  unfold slicePick at h ⊢
  rw [PySem.W.krv_bounds] at h
  have e : sliceBounds (some (-2)) none (some (-1)) (l ++ [x]).toArray.size = ((l.toArray.size : Int) - 1, -1, -1) := by
    have z : (l ++ [x]).toArray.size = l.toArray.size + 1 := by simp
    rw [z]
    unfold sliceBounds
    simp only [Option.getD_some]
    rw [if_neg (by decide), if_pos (by decide), if_neg (by decide)]
    refine Prod.ext ?_ rfl
    show max (-1 : Int) (min (-2 + ((l.toArray.size + 1 : Nat) : Int)) (((l.toArray.size + 1 : Nat) : Int) - 1)) = _
    omega
  rw [e]
  refine Eq.trans ?_ h
  show ((sliceRange ((l.toArray.size : Int) - 1) (-1) (-1)).filterMap ((l ++ [x]).toArray[·]?)).toArray = ((sliceRange ((l.toArray.size : Int) - 1) (-1) (-1)).filterMap (l.toArray[·]?)).toArray
  congr 1
  rw [PySem.W.krv_sliceRange]
  have key : ∀ i ∈ (List.range l.toArray.size).map (fun k => l.toArray.size - 1 - k), (l ++ [x]).toArray[i]? = l.toArray[i]? := fun i hi => by
    obtain ⟨k, hk, rfl⟩ := List.mem_map.mp hi
    have hk := List.mem_range.mp hk
    rw [List.getElem?_toArray, List.getElem?_toArray, List.getElem?_append_left (by rw [List.size_toArray] at hk ⊢; omega)]
  exact fm_congr _ key
section
variable {X : Cx} {W : WX} {e : Expr} {te : TE} {k1 k2 : Nat} {p1 p2 p3 p4 p5 pos : Pos}
theorem pe_rev2 (he : PE X e te) : PE X (.Subscript e (.Slice (some (.UnaryOp .USub (.Constant (.int 2) k1 p1) p2)) none (some (.UnaryOp .USub (.Constant (.int 1) k2 p3) p4)) p5) pos) (fun σ H Q => te σ H fun x H1 => ∃ a xs y, x = .ref a ∧ SqL X.K H1 a (xs ++ [y]) ∧ ∀ p, H1 p = none → Q (.ref p) (upd H1 p (.lst xs.reverse))) := by
  constructor
  intro pn s0 σ H Q I hh
  refine Subscript_ (thn (he.run pn s0 σ H _ I hh) fun v s1 ⟨x, H1, J, rx, hq⟩ => ?_)
  obtain ⟨a, xs, y, ex, hx, kq⟩ := hq
  subst ex
  cases rx
  have q2 : PO X (some (.UnaryOp .USub (.Constant (.int 2) k1 p1) p2)) (tPart (tUn (rU fun i => .int (-i)) (tC (.int 2)))) := po_some (pe_un un_neg pe_int)
  have q1 : PO X (some (.UnaryOp .USub (.Constant (.int 1) k2 p3) p4)) (tPart (tUn (rU fun i => .int (-i)) (tC (.int 1)))) := po_some (pe_un un_neg pe_int)
  refine wpAny_Slice (thn (q2.run pn s1 σ H1 (fun o H2 => o = some (-2) ∧ H2 = H1) J ⟨2, rfl, -2, rfl, rfl, rfl⟩) fun vl s2 ⟨l, H2, J2, pl, el, e2⟩ => ?_)
  subst el e2
  refine thn (po_none.run pn s2 σ H2 (fun o H3 => o = none ∧ H3 = H2) J2 ⟨rfl, rfl⟩) fun vu s3 ⟨u, H3, J3, pu, eu, e3⟩ => ?_
  subst eu e3
  refine thn (q1.run pn s3 σ H3 (fun o H4 => o = some (-1) ∧ H4 = H3) J3 ⟨1, rfl, -1, rfl, rfl, rfl⟩) fun vt s4 ⟨o, H4, J4, pt, eo, e4⟩ => ?_
  subst eo e4
  have J5 : Inv X pn σ H4 { s4 with heap := s4.heap.push { cls := .type "slice", data := .fields #[vl, vu, vt] } } := J4.kept (t' := s4.toks) fun b ob q => Heap.get?_push_of_some _ q
  obtain ⟨is, ri, ti, hz⟩ := J5.list hx
  have hl := ri.length
  obtain ⟨is0, y0, rfl, ri0⟩ : ∃ is0 y0, is = is0 ++ [y0] ∧ Vals xs is0 := by
    rcases List.eq_nil_or_concat is with c | ⟨is0, y0, c⟩
    · rw [c] at hl; simp at hl
    · rw [List.concat_eq_append] at c
      subst c
      refine ⟨is0, y0, rfl, ?_⟩
      have := ri.take xs.length
      rw [List.length_append, List.length_append] at hl
      have hl : xs.length = is0.length := by simpa using hl
      rw [List.take_left' rfl, List.take_left' hl.symm] at this
      exact this
  show wpAny (model X.prog X.w) X.A (subscriptTail e (.Slice (some (.UnaryOp .USub (.Constant (.int 2) k1 p1) p2)) none (some (.UnaryOp .USub (.Constant (.int 1) k2 p3) p4)) p5) (.ref a) (.ref s4.heap.objs.size)) (EP X pn σ Q) X.xe { s4 with heap := s4.heap.push { cls := .type "slice", data := .fields #[vl, vu, vt] } }
  refine tail_any (ops := [.ref a, .ref s4.heap.objs.size]) ti.isList.typeIs (PySem.slot_list_getitem.lookup) ?_ (by with_unfolding_all rfl)
  refine wpAny_getItem_list_slice ti.isList (Heap.IsSliceOf.new _ vl vu vt) pl pu pt (by decide) ?_ (by rw [List.size_toArray]; omega)
  rw [pick_b2]
  refine ⟨.ref _, _, J5.laid (t' := s4.toks) (o := .lst xs.reverse) (fun b ob q => Heap.get?_push_of_some _ q) (Nat.le_refl _) ?_, rfl, kq _ (J5.hok.fresh (Nat.le_refl _))⟩
  exact ⟨by rw [List.length_reverse]; rw [List.length_append] at hz; omega, _, 0, ri0.reverse, Heap.get?_push_size _ rfl⟩
def wRev2 (w : DE) : DE := fun Γ Q E => w Γ (fun d Γ1 => ∃ ds y, d = .list (ds ++ [y]) ∧ Q (.list ds.reverse) Γ1) E
theorem de_rev2 {w : DE} (he : PE X e (tR X.K W w)) : PE X (.Subscript e (.Slice (some (.UnaryOp .USub (.Constant (.int 2) k1 p1) p2)) none (some (.UnaryOp .USub (.Constant (.int 1) k2 p3) p4)) p5) pos) (tD X.K W (wRev2 w)) :=
  peImp (pe_rev2 he) fun σ H Q ⟨F, S, Γ, Qd, Ed, en, hw, k, ke⟩ => ⟨F, S, Γ, _, Ed, en, hw, fun x Γ1 v1 H1 ⟨ds, y, ex, q⟩ m1 e1 r1 => by
    subst ex
    obtain ⟨a, vs, rfl, h1, h2⟩ := (r1.dr e1).list
    obtain ⟨us, v, rfl, h3, h4⟩ := h2.lastS
    exact ⟨a, us, v, rfl, .of h1, fun p hp => k _ Γ1 _ _ q (m1.trans (.of e1 (same_new hp))) (e1.same (same_new hp)) (.newL e1.hid hp h3.rev)⟩, ke⟩
end
end Dt

/-! Gat25: what may make places of its own; defs that take slots. -/
namespace Dt
open PySem L2
/-! ### growth -/
def tG (K : PySem.W.Frag) (W : WX) (w : DE) : TE := fun σ H Q => ∃ (F : Fm) (S : Hd) (Γ : Gm) (Qd : Kq) (Ed : Ke), En K F S Γ σ H ∧ w Γ Qd Ed ∧
  (∀ d Γ' S' v H', Qd d Γ' → En K F S' Γ' σ H' → Da K (off S' H') v d → Q v H') ∧ (∀ c Γ' S' H', Ed c Γ' → En K F S' Γ' σ H' → W (.ref (He.ga K c)) none σ H')
def tBG (K : PySem.W.Frag) (W : WX) (w : DB) : TT := fun σ H Q => ∃ (F : Fm) (S : Hd) (Γ : Gm) (Qd : Bool → Gm → Prop) (Ed : Ke), En K F S Γ σ H ∧ w Γ Qd Ed ∧
  (∀ b Γ' S' H', Qd b Γ' → En K F S' Γ' σ H' → Q b H') ∧ (∀ c Γ' S' H', Ed c Γ' → En K F S' Γ' σ H' → W (.ref (He.ga K c)) none σ H')
section
variable {X : Cx} {W : WX} {e a b c : Expr} {es rest : List Expr} {pos : Pos} {st : Stmt} {sts ss tt : List Stmt}
theorem ge_of {w : DE} (h : PE X e (tD X.K W w)) : PE X e (tG X.K W w) := peImp h fun σ H Q ⟨F, S, Γ, Qd, Ed, en, hw, k, ke⟩ =>
  ⟨F, S, Γ, Qd, Ed, en, hw, fun d Γ' v H' q _ e' hv => k d Γ' S v H' q e' hv, fun c Γ' H' q e' => ke c Γ' S H' q e'⟩
theorem gt_of {t : DB} (h : PT X c (tB X.K W t)) : PT X c (tBG X.K W t) := ptImp h fun σ H Q ⟨F, S, Γ, Qd, Ed, en, hw, k, ke⟩ =>
  ⟨F, S, Γ, Qd, Ed, en, hw, fun d Γ' H' q _ e' => k d Γ' S H' q e', fun c Γ' H' q e' => ke c Γ' S H' q e'⟩
theorem gt_tru {wa : DE} (ha : PE X a (tG X.K W wa)) (he : ∀ whole, isTrue a X.env whole = (do let v ← whole; standAt a.pos; holding [v] (truthy v))) : PT X a (tBG X.K W (wTru wa)) :=
  ptImp (pt_truth ha he) fun σ H Q ⟨F, S, Γ, Qd, Ed, e, hw, k, ke⟩ => ⟨F, S, Γ, _, Ed, e, hw, fun x Γ1 S1 v1 H1 ⟨b, ht, q⟩ e1 r1 => ⟨b, tru_of (.inl r1) ht, k b Γ1 S1 H1 q e1⟩, ke⟩
theorem gt_not {t : DB} (h : PT X a (tBG X.K W t)) : PT X (.UnaryOp .Not a pos) (tBG X.K W (wtNot t)) :=
  ptImp (pt_not h) fun σ H Q ⟨F, S, Γ, Qd, Ed, e, hw, k, ke⟩ => ⟨F, S, Γ, _, Ed, e, hw, fun b Γ1 S1 H1 q e1 => k (!b) Γ1 S1 H1 q e1, ke⟩
theorem gt_or1 {t : DB} (h : PT X a (tBG X.K W t)) : PW X (.BoolOp .Or [a] pos) (tBG X.K W t) := pw_or1 h
theorem gt_or {t u : DB} (h : PT X a (tBG X.K W t)) (hb : PW X (.BoolOp .Or (b :: rest) pos) (tBG X.K W u)) : PW X (.BoolOp .Or (a :: b :: rest) pos) (tBG X.K W (wtOr t u)) :=
  pwImp (pw_or h hb) fun σ H Q ⟨F, S, Γ, Qd, Ed, e, hw, k, ke⟩ => ⟨F, S, Γ, _, Ed, e, hw, fun b Γ1 S1 H1 q e1 => by
    cases b with
    | false => exact ⟨F, S1, Γ1, _, Ed, e1, q, fun c Γ2 S2 H2 q2 e2 => k c Γ2 S2 H2 q2 e2, ke⟩
    | true => exact k true Γ1 S1 H1 q e1, ke⟩
/-- .. against a thing that stands -/
theorem ge_cmp {o : CmpOp} {r : R2} {op : PyData → PyData → PyData → Prop} {wa : DE} {d0 : PyData} {v0 : V} (ho : OpR X (compareOp o) r) (hr : OkR X.K r op) (ha : PE X a (tG X.K W wa)) (hb : PE X b (tC v0)) (hv0 : ∀ h, Da X.K h v0 d0) (hm : behindInMarks o b = false) : PE X (.Compare a [o] [b] pos) (tG X.K W (wBin op wa (wC d0))) :=
  peImp (pe_cmpR ho ha hb hm) fun σ H Q ⟨F, S, Γ, Qd, Ed, e, hw, k, ke⟩ => ⟨F, S, Γ, _, Ed, e, hw, fun x Γ1 S1 v1 H1 ⟨d, hop, q⟩ e1 r1 =>
    hr S1 H1 v1 v0 x d0 d _ e1.hid hop (.inl r1) (.inl (hv0 _)) fun v H' s hv => k d Γ1 S1 v H' q (e1.same s) hv, ke⟩
theorem ds_retG {w : DE} (he : PE X e (tG X.K W w)) : PS X (.Return (some e) pos) (tS X.K W (wRet w)) := psImp (ps_ret he) fun D σ H ⟨F, S, Γ, Qd, en, hw, k⟩ =>
  ⟨F, S, Γ, _, _, en, hw, fun d Γ' S' v H' q en' hv => k (.rt d) Γ' S' σ H' q en' v hv, fun c Γ' S' H' q en' => k (.ex c) Γ' S' σ H' q en'⟩
theorem ds_exprG {w : DE} (he : PE X e (tG X.K W w)) (hs : swapsWith e none pos.line X.env = pure false := by rfl) : PS X (.Expr e pos) (tS X.K W (wEx w)) := psImp (ps_expr he hs) fun D σ H ⟨F, S, Γ, Qd, en, hw, k⟩ =>
  ⟨F, S, Γ, _, _, en, hw, fun d Γ' S' v H' q en' hv => k .nx Γ' S' σ H' q en', fun c Γ' S' H' q en' => k (.ex c) Γ' S' σ H' q en'⟩
theorem ds_setG {i : Nat} {x : Str} {w : DE} {pos' : Pos} (hN : X.N.Nodup) (hi : X.N[i]? = some x) (hx : Loc X.env.scope x) (he : PE X e (tG X.K W w)) (hs : swapsWith e (some (.Name x pos')) pos.line X.env = pure false := by rfl) (hf : X.fn x = true ∨ X.env.scope.names.lookup x = some .local := by first | exact .inl rfl | exact .inr rfl | assumption) :
    PS X (.Assign [.Name x pos'] e pos) (tS X.K W (wSet i w)) := psImp (ps_set hN hi hx he hs hf) fun D σ H ⟨F, S, Γ, Qd, en, hw, k⟩ =>
  ⟨F, S, Γ, _, _, en, hw, fun d Γ' S' v H' q en' hv => k .nx _ S' _ H' q (en'.set i hv), fun c Γ' S' H' q en' => k (.ex c) Γ' S' σ H' q en'⟩
theorem ds_ifG {t : DB} {wa wb : DS} (hc : PT X c (tBG X.K W t)) (ha : PSs X ss (tS X.K W wa)) (hb : PSs X tt (tS X.K W wb)) : PS X (.If c ss tt pos) (tS X.K W (wIfS t wa wb)) := psImp (ps_if hc ha hb) fun D σ H ⟨F, S, Γ, Qd, en, hw, k⟩ =>
  ⟨F, S, Γ, _, _, en, hw, fun b Γ' S' H' q en' => by
    cases b with
    | true => exact ⟨F, S', Γ', Qd, en', q, k⟩
    | false => exact ⟨F, S', Γ', Qd, en', q, k⟩, fun c Γ' S' H' q en' => k (.ex c) Γ' S' σ H' q en'⟩
end
/-! ### slots handed on -/
abbrev NSp := Gm → (PyData → Gm → Prop) → (Str → Gm → Prop) → Prop
def spN (K : PySem.W.Frag) (sp : NSp) : Sp := fun vs H Q E => ∃ (S T : Hd) (tn : Option Addr) (As : Gm) (Qd : PyData → Gm → Prop) (Ed : Str → Gm → Prop), En K ⟨H, S, T, tn⟩ S As (vs.map some) H ∧ sp As Qd Ed ∧
  (∀ d As' v S' H', Qd d As' → En K ⟨H, S, T, tn⟩ S' As' (vs.map some) H' → Da K (off S' H') v d → Q v H') ∧
  (∀ c As' S' H', Ed c As' → En K ⟨H, S, T, tn⟩ S' As' (vs.map some) H' → E (.ref (He.ga K c)) none H')
def kin : Sl → Sl → Prop
  | .rs a _, .rs a' _ => a = a'
  | .twn _, .twn _ => True
  | .rs _ _, _ => False
  | .twn _, _ => False
  | .own0 _, _ => False
  | _, _ => True
def KinL : Gm → Gm → Prop
  | [], _ => True
  | s :: As, s' :: Γ => kin s s' ∧ KinL As Γ
  | _ :: _, [] => False
def mrg : Gm → Gm → Gm
  | s :: As, s' :: Γ => (if s.chg = true then s' else s) :: mrg As Γ
  | _, _ => []
theorem mrg_get : ∀ {As Γ : Gm} {i : Nat} {s : Sl}, KinL As Γ → (mrg As Γ)[i]? = some s → ∃ s0 s1, As[i]? = some s0 ∧ Γ[i]? = some s1 ∧ kin s0 s1 ∧ s = if s0.chg = true then s1 else s0
  | [], Γ, i, s, _, h => by
    have h : ([] : Gm)[i]? = some s := by cases Γ <;> exact h
    rw [List.getElem?_nil] at h
    cases h
  | s0 :: As, [], i, s, k, h => k.elim
  | s0 :: As, s1 :: Γ, 0, s, k, h => ⟨s0, s1, rfl, rfl, k.1, (Option.some.inj h).symm⟩
  | s0 :: As, s1 :: Γ, i + 1, s, k, h => mrg_get (As := As) (Γ := Γ) (i := i) k.2 h
theorem mrg_len : ∀ {As Γ : Gm}, KinL As Γ → (mrg As Γ).length = As.length
  | [], Γ, _ => by cases Γ <;> rfl
  | s0 :: As, [], k => k.elim
  | s0 :: As, s1 :: Γ, k => congrArg (· + 1) (mrg_len (As := As) (Γ := Γ) k.2)
section
variable {K : PySem.W.Frag} {S S' T : Hd} {tn : Option Addr} {As Γ Γ' : Gm} {σ σ' : St} {H H' : Hp} {F : Fm}
theorem En.pad (h : En K F S Γ σ H) (n : Nat) : En K F S (Γ ++ List.replicate n .no) (σ ++ List.replicate n none) H := by
  have hl := h.len
  have g : ∀ (i : Nat) (s : Sl), (Γ ++ List.replicate n Sl.no)[i]? = some s → Γ[i]? = some s ∨ s = .no := fun i s q => by
    by_cases c : i < Γ.length
    · rw [List.getElem?_append_left c] at q; exact .inl q
    · rw [List.getElem?_append_right (by omega), List.getElem?_replicate] at q
      split at q
      · cases q; exact .inr rfl
      · cases q
  have gl : ∀ (i : Nat) (s : Sl), Γ[i]? = some s → (σ ++ List.replicate n none)[i]? = σ[i]? := fun i s q => List.getElem?_append_left (by have := (List.getElem?_eq_some_iff.mp q).1; omega)
  refine ⟨h.sub, h.tin, h.fr, h.hid, h.base, by simp [hl], fun i s q => ?_, fun i j s t o o' b hij g1 g2 m1 m2 e1 e2 q1 => ?_⟩
  · rcases g i s q with z | rfl
    · obtain ⟨o, a, b⟩ := h.slot i s z
      exact ⟨o, by rw [gl i s z]; exact a, b⟩
    · have hi : i < (σ ++ List.replicate n none).length := by
        have := (List.getElem?_eq_some_iff.mp q).1
        simp only [List.length_append, List.length_replicate] at this ⊢
        omega
      exact ⟨_, List.getElem?_eq_getElem hi, trivial⟩
  · rcases g i s g1 with z1 | rfl
    · rcases g j t g2 with z2 | rfl
      · rw [gl i s z1] at e1
        rw [gl j t z2] at e2
        exact h.inj i j s t o o' b hij z1 z2 m1 m2 e1 e2 q1
      · cases m2
    · cases m1
/-- the frame's data stay -/
theorem En.grow (ht : ∀ b, T b → S b) (h : En K ⟨H, S, T, tn⟩ S' Γ' σ' H') : Same (off S H) (off S' H') := fun b u z => by
  obtain ⟨n, z⟩ := off_get z
  rw [off_in (fun y => (h.fr b y).elim n fun w => w.elim (fun w => n (ht b w)) fun w => by
    have w : H b = none := w
    rw [w] at z; cases z)]
  exact h.base b u (fun w => n (ht b w)) z
theorem En.merge {vs : List V} (h0 : En K ⟨H, S, T, tn⟩ S As (vs.map some) H) (h : En K ⟨H, S, T, tn⟩ S' Γ' σ' H') (hk : KinL As Γ') : En K ⟨H, S, T, tn⟩ S' (mrg As Γ') (vs.map some) H' := by
  have gr : Same (off S H) (off S' H') := h.grow h0.tin
  -- a slot that changes
  have chg : ∀ (i : Nat) (s0 s1 : Sl), As[i]? = some s0 → Γ'[i]? = some s1 → kin s0 s1 → s0.chg = true → ∃ o, (vs.map some)[i]? = some o ∧ σ'[i]? = some o ∧ SlOk K ⟨H, S, T, tn⟩ S' H' s1 o := fun i s0 s1 g0 g1 k c => by
    obtain ⟨o0, e0, p0⟩ := h0.slot i s0 g0
    obtain ⟨o1, e1, p1⟩ := h.slot i s1 g1
    refine ⟨o0, e0, ?_⟩
    have : o1 = o0 := by
      cases s0 with
      | twn n =>
        cases s1 with
        | twn n' =>
          obtain ⟨a0, u0, r0, _, t0, w0, _⟩ := p0
          obtain ⟨a1, u1, r1, _, t1, _, _⟩ := p1
          have t0 : (tn = some a0 ∧ T a0) ∨ (H a0 = none ∧ tn = none) := t0
          have t1 : (tn = some a1 ∧ T a1) ∨ (H a1 = none ∧ tn = none) := t1
          rcases t0 with t0 | t0
          · rcases t1 with t1 | t1
            · rw [t0.1] at t1
              have := t1.1
              cases this
              rw [r0, r1]
            · rw [t0.1] at t1
              cases t1.2
          · rw [t0.1] at w0; cases w0
        | _ => exact k.elim
      | rs a r =>
        cases s1 with
        | rs a' r' =>
          have k : a = a' := k
          subst k
          rw [p0.1, p1.1]
        | _ => exact k.elim
      | _ => cases c
    subst this
    exact ⟨e1, p1⟩
  refine ⟨h.sub, h.tin, h.fr, h.hid, h.base, by rw [mrg_len hk]; exact h0.len, fun i s q => ?_, fun i j s t o o' b hij g1 g2 m1 m2 e1 e2 q1 q2 => ?_⟩
  · obtain ⟨s0, s1, g0, g1, k, es⟩ := mrg_get hk q
    by_cases c : s0.chg = true
    · rw [if_pos c] at es
      subst es
      obtain ⟨o, a, _, p⟩ := chg i s0 s g0 g1 k c
      exact ⟨o, a, p⟩
    · rw [if_neg c] at es
      subst es
      obtain ⟨o, a, p⟩ := h0.slot i s g0
      refine ⟨o, a, p.keep gr fun b z => ?_⟩
      cases s with
      | vw a2 r2 =>
        obtain ⟨_, fp2, w1, w2⟩ := p
        obtain ⟨fp3, p1, p2⟩ := z
        rw [p1.det w1.rsF] at p2
        obtain ⟨x1, x2, x3, x4⟩ := w2 b p2
        refine ⟨(h.sub b x4).1, ?_⟩
        cases y : H b with
        | none => exact absurd y x3
        | some u => exact h.base b u x2 y
      | own0 d => exact k.elim
      | twn n => exact absurd rfl c
      | rs a r => exact absurd rfl c
      | _ => cases z
  · have fi : ∀ (i : Nat) (s : Sl) (o : Option V), (mrg As Γ')[i]? = some s → s.mut = true → (vs.map some)[i]? = some o → Γ'[i]? = some s ∧ σ'[i]? = some o := fun i s o g m e => by
      obtain ⟨s0, s1, g0, g1, k, es⟩ := mrg_get hk g
      by_cases c : s0.chg = true
      · rw [if_pos c] at es
        subst es
        obtain ⟨o', a, a', _⟩ := chg i s0 s g0 g1 k c
        rw [e] at a
        cases a
        exact ⟨g1, a'⟩
      · rw [if_neg c] at es
        subst es
        cases s with
        | own0 d => exact k.elim
        | twn n => exact absurd rfl c
        | rs a r => exact absurd rfl c
        | _ => cases m
    obtain ⟨a1, b1⟩ := fi i s o g1 m1 e1
    obtain ⟨a2, b2⟩ := fi j t o' g2 m2 e2
    exact h.inj i j s t o o' b hij a1 a2 m1 m2 b1 b2 q1 q2
end
def startN (N : List Str) (As : Gm) : Gm := As ++ List.replicate (N.length - As.length) .no
def endN (As : Gm) (Q : PyData → Gm → Prop) (E : Str → Gm → Prop) : Out → Gm → Prop
  | .nx => fun Γ => KinL As Γ ∧ Q .none (mrg As Γ)
  | .rt d => fun Γ => KinL As Γ ∧ Q d (mrg As Γ)
  | .ex c => fun Γ => KinL As Γ ∧ E c (mrg As Γ)
  | _ => fun _ => False
section
variable {P : Program} {w : World} {K : PySem.W.Frag} {mg : Str → Option Value} {base : Heap} {x : Str}
theorem fokN_of {st : Stmt} {N ps : List Str} {k : Nat} {sp : NSp} (hD : DefAt K x st) (hm : mg x = some (.ref (He.ga K x))) (bd : BindsOk x st ps) (Sc : FnScope N ps (defScope st)) (len : ∀ As Q E, sp As Q E → As.length = ps.length) (wb : DS)
    (hb : ∀ (cdv : Value) (A : Around) (outer : List Env) (s : Shared) (H : Hp) (E : XK), Room k (A.deeper (PyProof.Rows.envOfC x (defScope st) s.heap.objs.size (He.ga K x) cdv)) → PSs (bX P w K mg base N x (defScope st) (He.ga K x) cdv A outer s H E) (defBody st) (tS K (Wd E) wb))
    (hd : ∀ As Q E, sp As Q E → wb (startN N As) (endN As Q E)) : Fok P w K mg base x (k + 1) ps (spN K sp) := by
  obtain ⟨fd, F⟩ := hD
  refine ⟨fd, F.ok Sc (fun vs H Q E ⟨S, T, tn, As, Qd, Ed, en, h, _⟩ => ?_) fun cdv A outer s H vs Q E hr h => ⟨_, hb cdv A outer s H E hr, ?_⟩, F.bindsN bd, F.kp, hm⟩
  · have := en.len
    rw [List.length_map] at this
    rw [← this]
    exact len As Qd Ed h
  · obtain ⟨S, T, tn, As, Qd, Ed, en, h, kq, ke⟩ := h
    have hl := en.len
    rw [List.length_map] at hl
    have e0 : En K ⟨H, S, T, tn⟩ S (startN N As) (L2.start N vs) H := by
      have := en.pad (N.length - As.length)
      have e2 : L2.start N vs = vs.map some ++ List.replicate (N.length - vs.length) none := rfl
      rw [e2, ← hl]
      exact this
    refine ⟨⟨H, S, T, tn⟩, S, startN N As, _, e0, hd As Qd Ed h, fun o Γ' S' σ' H' q e' => ?_⟩
    cases o with
    | nx => exact kq .none _ .non S' H' q.2 (en.merge e' q.1) .non
    | rt d => exact fun v hv' => kq d _ v S' H' q.2 (en.merge e' q.1) hv'
    | ex c => exact ke c _ S' H' q.2 (en.merge e' q.1)
    | bk => exact q.elim
    | ct => exact q.elim
end
end Dt

/-! Gat26: slots handed on: the caller. -/
namespace Dt
open PySem L2
inductive AtV (σ : St) : List Nat → List V → Prop
  | nil : AtV σ [] []
  | cons {i : Nat} {v : V} {is : List Nat} {vs : List V} : σ[i]? = some (some v) → AtV σ is vs → AtV σ (i :: is) (v :: vs)
theorem AtV.get {σ : St} : ∀ {is : List Nat} {vs : List V} {p i : Nat}, AtV σ is vs → is[p]? = some i → ∃ v, vs[p]? = some v ∧ σ[i]? = some (some v)
  | _, _, 0, i, .cons (v := v) h _, e => by cases e; exact ⟨v, rfl, h⟩
  | _, _, p + 1, i, .cons (v := v) _ t, e => AtV.get (p := p) t e
theorem AtV.length {σ : St} : ∀ {is : List Nat} {vs : List V}, AtV σ is vs → is.length = vs.length
  | _, _, .nil => rfl
  | _, _, .cons _ t => congrArg (· + 1) (AtV.length t)
def namesT : List Nat → TA
  | [] => tNil
  | i :: is => tCons (tVar i) (namesT is)
theorem namesT_ok {σ : St} {H : Hp} : ∀ {is : List Nat} {vs : List V} {Q : List V → Hp → Prop}, AtV σ is vs → Q vs H → namesT is σ H Q
  | _, _, Q, .nil, q => q
  | _, _, Q, .cons h t, q => ⟨_, h, namesT_ok t q⟩
def hand : Sl → Sl → Prop
  | .rs a r, .vw a' r' => a = a' ∧ r = r'
  | .own0 _, _ => False
  | .no, _ => False
  | s, s' => s = s'
def HandL (Γ : Gm) : List Nat → Gm → Prop
  | [], [] => True
  | i :: is, s' :: As => (∃ s, Γ[i]? = some s ∧ hand s s') ∧ HandL Γ is As
  | _, _ => False
theorem HandL.get {Γ : Gm} : ∀ {is : List Nat} {As : Gm} {p i : Nat} {s' : Sl}, HandL Γ is As → is[p]? = some i → As[p]? = some s' → ∃ s, Γ[i]? = some s ∧ hand s s'
  | i0 :: is, s0 :: As, 0, i, s', h, e1, e2 => by cases e1; cases e2; exact h.1
  | i0 :: is, s0 :: As, p + 1, i, s', h, e1, e2 => HandL.get (is := is) (As := As) (p := p) h.2 e1 e2
  | [], [], p, i, s', h, e1, e2 => by rw [List.getElem?_nil] at e1; cases e1
theorem HandL.len {Γ : Gm} : ∀ {is : List Nat} {As : Gm}, HandL Γ is As → is.length = As.length
  | [], [], _ => rfl
  | _ :: is, _ :: As, h => congrArg (· + 1) (HandL.len (is := is) (As := As) h.2)
theorem hand_chg {s s' : Sl} (h : hand s s') (c : s'.chg = true) : s = s' := by
  cases s with
  | rs a r =>
    cases s' with
    | vw a' r' => cases c
    | _ => exact h
  | own0 d => exact h.elim
  | no => exact h.elim
  | _ => exact h
def isTw : Sl → Bool
  | .twn _ => true
  | _ => false
def tw1 (As : Gm) : Bool := !isTw (As.getD 0 .no) && (As.drop 2).all fun s => !isTw s
theorem tw1_at {As : Gm} (h : tw1 As = true) {p n : Nat} (e : As[p]? = some (.twn n)) : p = 1 := by
  unfold tw1 at h
  rw [Bool.and_eq_true] at h
  match p, e with
  | 0, e => rw [List.getD_eq_getElem?_getD, e] at h; exact absurd h.1 Bool.false_ne_true
  | 1, e => rfl
  | p + 2, e =>
    have := List.all_eq_true.mp h.2 (.twn n) (List.mem_of_getElem? (i := p) (by rw [List.getElem?_drop, Nat.add_comm]; exact e))
    exact absurd this Bool.false_ne_true
/-- the places that may change -/
def tOf (Γ : Gm) (σ : St) (H : Hp) (is : List Nat) (As : Gm) : Hd := fun b => ∃ (p i : Nat) (s : Sl) (o : Option V), is[p]? = some i ∧ As[p]? = some s ∧ s.chg = true ∧ Γ[i]? = some s ∧ σ[i]? = some o ∧ Fp H s o b
def tnOf (vs : List V) (As : Gm) : Option Addr := match (As[1]? : Option Sl), (vs[1]? : Option V) with
  | some (Sl.twn _), some (V.ref a) => some a
  | _, _ => none
section
variable {K : PySem.W.Frag} {S S' : Hd} {As As' Γ Γ' : Gm} {σ σ' : St} {H H' : Hp} {F : Fm} {is : List Nat} {vs : List V}
theorem nodup_at {is : List Nat} (h : is.Nodup) {p q i j : Nat} (hp : is[p]? = some i) (hq : is[q]? = some j) (hn : p ≠ q) : i ≠ j := fun e => by
  subst e
  obtain ⟨h1, e1⟩ := List.getElem?_eq_some_iff.mp hp
  obtain ⟨h2, e2⟩ := List.getElem?_eq_some_iff.mp hq
  rcases Nat.lt_or_gt_of_ne hn with z | z
  · exact List.pairwise_iff_getElem.mp h p q h1 h2 z (e1.trans e2.symm)
  · exact List.pairwise_iff_getElem.mp h q p h2 h1 z (e2.trans e1.symm)
theorem En.vals (en : En K F S Γ σ H) : ∀ {is : List Nat} {As : Gm}, HandL Γ is As → ∃ vs, AtV σ is vs
  | [], [], _ => ⟨[], .nil⟩
  | i :: is, s' :: As, h => by
    obtain ⟨vs, hv⟩ := En.vals en (is := is) (As := As) h.2
    obtain ⟨s, g, hs⟩ := h.1
    obtain ⟨o, e, k⟩ := en.slot i s g
    cases s with
    | no => exact hs.elim
    | own0 d => exact hs.elim
    | dat d => obtain ⟨v, rfl, _⟩ := k; exact ⟨v :: vs, .cons e hv⟩
    | scr => obtain ⟨v, rfl, _⟩ := k; exact ⟨v :: vs, .cons e hv⟩
    | twn n => obtain ⟨a, _, rfl, _⟩ := k; exact ⟨_ :: vs, .cons e hv⟩
    | rs a r => have := k.1; subst this; exact ⟨_ :: vs, .cons e hv⟩
    | vw a r => have := k.1; subst this; exact ⟨_ :: vs, .cons e hv⟩
/-- what may change is the frame's to change -/
theorem tOf_fr (en : En K F S Γ σ H) {b : Addr} (h : tOf Γ σ H is As b) : S b ∧ H b ≠ none ∧ (F.T b ∨ F.H0 b = none) := by
  obtain ⟨p, i, s, o, hp, ha, c, g, e, q⟩ := h
  have k := en.at g e
  refine ⟨(k.fp q).1, (k.fp q).2, ?_⟩
  cases s with
  | twn n =>
    obtain ⟨a, u, h1, h2, h3, _⟩ := k
    have q : o = some (.ref b) := q
    rw [h1] at q
    cases q
    rcases h3 with z | z
    · exact .inl z.2
    · exact .inr z.1
  | rs a r =>
    obtain ⟨h1, fp, h2, h3⟩ := k
    obtain ⟨fp', q1, q2⟩ := q
    rw [q1.det h2.rsF] at q2
    exact (h3 b q2).2
  | _ => cases c
theorem En.hands (en : En K F S Γ σ H) (hl : HandL Γ is As) (nd : is.Nodup) (tw : tw1 As = true) (hv : AtV σ is vs) : En K ⟨H, S, tOf Γ σ H is As, tnOf vs As⟩ S As (vs.map some) H := by
  have at_ : ∀ (p : Nat) (s' : Sl), As[p]? = some s' → ∃ i s v, is[p]? = some i ∧ Γ[i]? = some s ∧ hand s s' ∧ vs[p]? = some v ∧ σ[i]? = some (some v) := fun p s' g => by
    have hp : p < is.length := by rw [hl.len]; exact (List.getElem?_eq_some_iff.mp g).1
    obtain ⟨s, g1, h1⟩ := hl.get (List.getElem?_eq_getElem hp) g
    obtain ⟨v, e1, e2⟩ := hv.get (List.getElem?_eq_getElem hp)
    exact ⟨_, s, v, List.getElem?_eq_getElem hp, g1, h1, e1, e2⟩
  refine ⟨fun b z => ⟨z, en.hid b z⟩, fun b z => (tOf_fr en z).1, fun b z => .inl z, en.hid, fun b o _ q => q, ?_, fun p s' g => ?_, fun p q s t o o' b hpq g1 g2 m1 m2 e1 e2 q1 q2 => ?_⟩
  · rw [List.length_map, ← hl.len]; exact hv.length
  · obtain ⟨i, s, v, hp, g1, hs, e1, e2⟩ := at_ p s' g
    have em : (vs.map some)[p]? = some (some v) := by rw [List.getElem?_map, e1]; rfl
    refine ⟨some v, em, ?_⟩
    have k := en.at g1 e2
    cases s with
    | no => exact hs.elim
    | own0 d => exact hs.elim
    | dat d =>
      have hs : Sl.dat d = s' := hs
      subst hs
      exact k
    | scr =>
      have hs : Sl.scr = s' := hs
      subst hs
      exact k
    | twn n =>
      have hs : Sl.twn n = s' := hs
      subst hs
      obtain ⟨a, u, h1, h2, h3, h4, h5⟩ := k
      refine ⟨a, u, h1, h2, .inl ⟨?_, p, i, _, _, hp, g, rfl, g1, e2, h1⟩, h4, h5⟩
      have := tw1_at tw g
      subst this
      cases h1
      show tnOf vs As = some a
      unfold tnOf
      rw [g, e1]
    | rs a r =>
      obtain ⟨h1, fp, h2, h3⟩ := k
      by_cases c : s'.chg = true
      · have := hand_chg hs c
        subst this
        exact ⟨h1, fp, h2, fun b hb => ⟨(h3 b hb).1, .inl ⟨p, i, _, _, hp, g, rfl, g1, e2, fp, h2.rsF, hb⟩⟩⟩
      · cases s' with
        | vw a' r' =>
          obtain ⟨rfl, rfl⟩ := hs
          refine ⟨h1, fp, h2, fun b hb => ⟨(h3 b hb).1, ?_, h2.here b hb, (h3 b hb).1⟩⟩
          rintro ⟨q, j, t, o, hq, ha, c2, gj, ej, fq⟩
          have hn : p ≠ q := fun e => by subst e; rw [g] at ha; cases ha; cases c2
          exact en.inj i j _ t _ o b (nodup_at nd hp hq hn) g1 gj rfl (Sl.chg_mut c2) e2 ej ⟨fp, h2.rsF, hb⟩ fq
        | rs a' r' => exact absurd rfl c
        | _ => cases hs
    | vw a r =>
      have hs : Sl.vw a r = s' := hs
      subst hs
      obtain ⟨h1, fp, h2, h3⟩ := k
      refine ⟨h1, fp, h2, fun b hb => ⟨(h3 b hb).1, fun z => ?_, h2.here b hb, (h3 b hb).1⟩⟩
      rcases (tOf_fr en z).2.2 with w | w
      · exact (h3 b hb).2.1 w
      · exact (h3 b hb).2.2.1 w
  · have fi : ∀ (p : Nat) (s : Sl) (o : Option V), As[p]? = some s → s.mut = true → (vs.map some)[p]? = some o → ∃ i, is[p]? = some i ∧ Γ[i]? = some s ∧ σ[i]? = some o := fun p s o g m e => by
      obtain ⟨i, s0, v, hp, g1, hs, e1, e2⟩ := at_ p s g
      rw [List.getElem?_map, e1] at e
      cases e
      refine ⟨i, hp, ?_, e2⟩
      have : s0 = s := by
        cases s with
        | own0 d => cases s0 <;> cases hs
        | twn n => exact hand_chg hs rfl
        | rs a r => exact hand_chg hs rfl
        | _ => cases m
      rw [← this]
      exact g1
    obtain ⟨i, hp, a1, b1⟩ := fi p s o g1 m1 e1
    obtain ⟨j, hq, a2, b2⟩ := fi q t o' g2 m2 e2
    exact en.inj i j s t o o' b (nodup_at nd hp hq hpq) a1 a2 m1 m2 b1 b2 q1 q2
end
def putL : Gm → List Nat → Gm → Gm
  | Γ, i :: is, s :: As => putL (if s.chg = true then Γ.set i s else Γ) is As
  | Γ, _, _ => Γ
theorem put_len : ∀ {Γ : Gm} {is : List Nat} {As : Gm}, (putL Γ is As).length = Γ.length
  | Γ, [], As => by cases As <;> rfl
  | Γ, i :: is, [] => rfl
  | Γ, i :: is, s :: As => by
    refine (put_len (Γ := if s.chg = true then Γ.set i s else Γ) (is := is) (As := As)).trans ?_
    by_cases c : s.chg = true
    · rw [if_pos c, List.length_set]
    · rw [if_neg c]
theorem put_get : ∀ {Γ : Gm} {is : List Nat} {As : Gm} {j : Nat} {s : Sl}, is.Nodup → (putL Γ is As)[j]? = some s → (∃ p : Nat, is[p]? = some j ∧ As[p]? = some s ∧ s.chg = true) ∨ (Γ[j]? = some s ∧ ∀ (p : Nat) (s' : Sl), is[p]? = some j → As[p]? = some s' → s'.chg = false)
  | Γ, [], As, j, s, nd, h => by
    have h : Γ[j]? = some s := by cases As <;> exact h
    exact .inr ⟨h, fun p s' e _ => by rw [List.getElem?_nil] at e; cases e⟩
  | Γ, i :: is, [], j, s, nd, h => .inr ⟨h, fun p s' _ e => by rw [List.getElem?_nil] at e; cases e⟩
  | Γ, i :: is, s0 :: As, j, s, nd, h => by
    have h : (putL (if s0.chg = true then Γ.set i s0 else Γ) is As)[j]? = some s := h
    have nd2 := (List.nodup_cons.mp nd)
    rcases put_get nd2.2 h with ⟨p, e1, e2, e3⟩ | ⟨g, k⟩
    · exact .inl ⟨p + 1, e1, e2, e3⟩
    · by_cases c : s0.chg = true
      · rw [if_pos c] at g
        rcases set_at g with ⟨rfl, _, rfl⟩ | ⟨hne, g⟩
        · exact .inl ⟨0, rfl, rfl, c⟩
        · refine .inr ⟨g, fun p s' e1 e2 => ?_⟩
          match p, e1, e2 with
          | 0, e1, e2 => cases e1; exact absurd rfl hne
          | p + 1, e1, e2 => exact k p s' e1 e2
      · rw [if_neg c] at g
        refine .inr ⟨g, fun p s' e1 e2 => ?_⟩
        match p, e1, e2 with
        | 0, e1, e2 => cases e2; exact Bool.not_eq_true _ ▸ c
        | p + 1, e1, e2 => exact k p s' e1 e2
theorem KinL.get : ∀ {As As' : Gm} {p : Nat} {s s' : Sl}, KinL As As' → As[p]? = some s → As'[p]? = some s' → kin s s'
  | s0 :: As, s1 :: As', 0, s, s', k, e1, e2 => by cases e1; cases e2; exact k.1
  | s0 :: As, s1 :: As', p + 1, s, s', k, e1, e2 => KinL.get (As := As) (As' := As') (p := p) k.2 e1 e2
  | [], _, p, s, s', _, e1, _ => by rw [List.getElem?_nil] at e1; cases e1
  | s0 :: As, [], p, s, s', k, _, _ => k.elim
theorem kin_chg {s s' : Sl} (h : kin s s') (c : s.chg = true) : s'.chg = true := by
  cases s with
  | rs a r => cases s' <;> first | rfl | exact h.elim
  | twn n => cases s' <;> first | rfl | exact h.elim
  | _ => cases c
section
variable {K : PySem.W.Frag} {S S' : Hd} {As As' Γ Γ' : Gm} {σ σ' : St} {H H' : Hp} {F : Fm} {is : List Nat} {vs : List V} {tn : Option Addr}
theorem En.back (en : En K F S Γ σ H) (hl : HandL Γ is As) (nd : is.Nodup) (hv : AtV σ is vs) (h0 : ∀ (p : Nat) (s : Sl), As'[p]? = some s → s.chg = true → ∃ s0, As[p]? = some s0 ∧ s0.chg = true ∧ kin s0 s) (hk : KinL As As') (po : En K ⟨H, S, tOf Γ σ H is As, tn⟩ S' As' (vs.map some) H') : En K F S' (putL Γ is As') σ H' := by
  have gr : Same (off S H) (off S' H') := po.grow fun b z => (tOf_fr en z).1
  -- a slot that was handed on and may have changed
  have one : ∀ (p j : Nat) (s : Sl), is[p]? = some j → As'[p]? = some s → s.chg = true → ∃ s0 v, Γ[j]? = some s0 ∧ s0.chg = true ∧ kin s0 s ∧ As[p]? = some s0 ∧ vs[p]? = some v ∧ σ[j]? = some (some v) ∧ SlOk K ⟨H, S, tOf Γ σ H is As, tn⟩ S' H' s (some v) := fun p j s hp g c => by
    obtain ⟨s0, g0, c0, k0⟩ := h0 p s g c
    obtain ⟨s1, g1, h1⟩ := hl.get hp g0
    have := hand_chg h1 c0
    subst this
    obtain ⟨v, e1, e2⟩ := hv.get hp
    obtain ⟨o, e3, k⟩ := po.slot p s g
    rw [List.getElem?_map, e1] at e3
    cases e3
    exact ⟨s1, v, g1, c0, k0, g0, e1, e2, k⟩
  have frT : ∀ b, (tOf Γ σ H is As b ∨ H b = none) → F.T b ∨ F.H0 b = none := fun b z => z.elim (fun z => (tOf_fr en z).2.2) fun z => .inr (en.fresh0 z)
  -- the others' places
  have two : ∀ (j : Nat) (s : Sl) (o : Option V) (b : Addr), Γ[j]? = some s → (∀ (p : Nat) (s' : Sl), is[p]? = some j → As'[p]? = some s' → s'.chg = false) → σ[j]? = some o → Fp H s o b → ¬ tOf Γ σ H is As b ∧ S' b ∧ H' b = H b := fun j s o b g nc e q => by
    have k := en.at g e
    have nt : ¬ tOf Γ σ H is As b := by
      intro z
      have zf := (tOf_fr en z).2.2
      obtain ⟨p, i, t, o2, hp, ha, c, gi, ei, fq⟩ := z
      by_cases hij : j = i
      · subst hij
        have hlen : p < As'.length := by
          have h1 := po.len
          rw [List.length_map, ← hv.length] at h1
          rw [h1]
          exact (List.getElem?_eq_some_iff.mp hp).1
        have ck := kin_chg (hk.get ha (List.getElem?_eq_getElem hlen)) c
        rw [nc p _ hp (List.getElem?_eq_getElem hlen)] at ck
        cases ck
      · by_cases m : s.mut = true
        · exact en.inj j i s t o o2 b hij g gi m (Sl.chg_mut c) e ei q fq
        · cases s with
          | vw a r =>
            obtain ⟨h1, fp, h2, h3⟩ := k
            obtain ⟨fp', q1, q2⟩ := q
            rw [q1.det h2.rsF] at q2
            rcases zf with w | w
            · exact (h3 b q2).2.1 w
            · exact (h3 b q2).2.2.1 w
          | own0 d => exact m rfl
          | twn n => exact m rfl
          | rs a r => exact m rfl
          | _ => cases q
    refine ⟨nt, (po.sub b (k.fp q).1).1, ?_⟩
    cases w : H b with
    | none => exact absurd w (k.fp q).2
    | some u => exact po.base b u nt w
  refine ⟨fun b z => ⟨(po.sub b (en.sub b z).1).1, (en.sub b z).2⟩, fun b z => (po.sub b (en.tin b z)).1, fun b z => ?_, po.hid, fun b o nt z => ?_, by rw [put_len]; exact en.len, fun j s q => ?_, fun i j s t o o' b hij g1 g2 m1 m2 e1 e2 q1 q2 => ?_⟩
  · rcases po.fr b z with w | w | w
    · exact en.fr b w
    · exact en.fr b (tOf_fr en w).1
    · exact .inr (.inr (en.fresh0 w))
  · refine po.base b o (fun w => ?_) (en.base b o nt z)
    rcases (tOf_fr en w).2.2 with y | y
    · exact nt y
    · rw [y] at z; cases z
  · rcases put_get nd q with ⟨p, hp, g, c⟩ | ⟨g, nc⟩
    · obtain ⟨s0, v, gj, c0, k0, ga, ev, es, k⟩ := one p j s hp g c
      refine ⟨some v, es, ?_⟩
      cases s with
      | twn n =>
        obtain ⟨a, u, h1, h2, h3, h4, h5⟩ := k
        cases s0 with
        | twn n0 =>
          obtain ⟨a0, u0, r1, r2, r3, _⟩ := en.at gj es
          rw [h1] at r1
          cases r1
          exact ⟨a, u, h1, h2, r3, h4, h5⟩
        | _ => first | exact k0.elim | cases c0
      | rs a r =>
        obtain ⟨h1, fp, h2, h3⟩ := k
        exact ⟨h1, fp, h2, fun b hb => ⟨(h3 b hb).1, frT b (h3 b hb).2⟩⟩
      | _ => cases c
    · obtain ⟨o, e, k⟩ := en.slot j s g
      exact ⟨o, e, k.keep gr fun b z => (two j s o b g nc e z).2⟩
  · -- a changed slot's places
    have ch : ∀ (p i : Nat) (s : Sl) (o : Option V), is[p]? = some i → As'[p]? = some s → s.chg = true → σ[i]? = some o → Fp H' s o b → (vs.map some)[p]? = some o ∧ (tOf Γ σ H is As b ∨ H b = none) := fun p i s o hp g c e q => by
      obtain ⟨s0, v, gj, c0, k0, ga, ev, es, k⟩ := one p i s hp g c
      rw [es] at e
      cases e
      refine ⟨by rw [List.getElem?_map, ev]; rfl, ?_⟩
      cases s with
      | twn n =>
        cases s0 with
        | twn n0 =>
          have q : some v = some (.ref b) := q
          exact .inl ⟨p, i, _, _, hp, ga, rfl, gj, es, q⟩
        | _ => first | exact k0.elim | cases c0
      | rs a r =>
        obtain ⟨h1, fp, h2, h3⟩ := k
        obtain ⟨fp', x1, x2⟩ := q
        rw [x1.det h2.rsF] at x2
        exact (h3 b x2).2
      | _ => cases c
    have bk : ∀ (i : Nat) (s : Sl) (o : Option V), Γ[i]? = some s → (∀ (p : Nat) (s' : Sl), is[p]? = some i → As'[p]? = some s' → s'.chg = false) → σ[i]? = some o → Fp H' s o b → Fp H s o b := fun i s o g nc e q => Fp.back (en.at g e) (fun b z => (two i s o b g nc e z).2.2) q
    rcases put_get nd g1 with ⟨p, hp, a1, c1⟩ | ⟨a1, nc1⟩
    · obtain ⟨ov, w1⟩ := ch p i s o hp a1 c1 e1 q1
      rcases put_get nd g2 with ⟨q, hq, a2, c2⟩ | ⟨a2, nc2⟩
      · obtain ⟨ov2, w2⟩ := ch q j t o' hq a2 c2 e2 q2
        exact po.inj p q s t o o' b (fun z => by subst z; rw [hp] at hq; cases hq; exact hij rfl) a1 a2 m1 m2 ov ov2 q1 q2
      · have z := bk j t o' a2 nc2 e2 q2
        rcases w1 with w1 | w1
        · exact (two j t o' b a2 nc2 e2 z).1 w1
        · exact ((en.at a2 e2).fp z).2 w1
    · have z := bk i s o a1 nc1 e1 q1
      rcases put_get nd g2 with ⟨q, hq, a2, c2⟩ | ⟨a2, nc2⟩
      · obtain ⟨ov2, w2⟩ := ch q j t o' hq a2 c2 e2 q2
        rcases w2 with w2 | w2
        · exact (two i s o b a1 nc1 e1 z).1 w2
        · exact ((en.at a1 e1).fp z).2 w2
      · exact en.inj i j s t o o' b hij a1 a2 m1 m2 e1 e2 z (bk j t o' a2 nc2 e2 q2)
/-- .. where every slot keeps its kind -/
theorem kin_back : ∀ {s s' : Sl}, kin s s' → (s.chg = true ∨ s'.chg = false) → s'.chg = true → s.chg = true := fun {s s'} _ h c => h.elim id fun z => by rw [z] at c; cases c
end
end Dt

/-! Gat27: defs that take slots, called; a book (a dict of now, before, later). -/
namespace Dt
open PySem L2
def KinS : Gm → Gm → Prop
  | [], [] => True
  | s :: As, s' :: As' => (kin s s' ∧ s.chg = s'.chg) ∧ KinS As As'
  | _, _ => False
theorem KinS.kin : ∀ {As As' : Gm}, KinS As As' → KinL As As'
  | [], [], _ => trivial
  | _ :: As, _ :: As', h => ⟨h.1.1, KinS.kin (As := As) (As' := As') h.2⟩
theorem KinS.get : ∀ {As As' : Gm} {p : Nat} {s' : Sl}, KinS As As' → As'[p]? = some s' → ∃ s, As[p]? = some s ∧ Dt.kin s s' ∧ s.chg = s'.chg
  | s0 :: As, s1 :: As', 0, s', k, e => by cases e; exact ⟨s0, rfl, k.1.1, k.1.2⟩
  | s0 :: As, s1 :: As', p + 1, s', k, e => KinS.get (As := As) (As' := As') (p := p) k.2 e
  | [], [], p, s', _, e => by rw [List.getElem?_nil] at e; cases e
section
variable {X : Cx} {W : WX} {e a b c : Expr} {es : List Expr} {pos p : Pos} {k j : Nat} {ps : List Str} {x : Str}
def wFnN (is : List Nat) (sp : NSp) : DE := fun Γ Q E => ∃ As, HandL Γ is As ∧ is.Nodup ∧ tw1 As = true ∧ sp As (fun d As' => KinS As As' ∧ Q d (putL Γ is As')) (fun c As' => KinS As As' ∧ E c (putL Γ is As'))
theorem ge_fnN {is : List Nat} {sp : NSp} (h : Fok X.prog X.w X.K X.mg X.base x k ps (spN X.K sp)) (hr : Room j X.A) (hj : k ≤ j) (hg : Gl X x) (tk : Takes X W)
    (ha : PA X (e :: es) (namesT is)) (hdb : (x == ("__debug__" : Str)) = false := by decide) (he : starEach (e :: es) X.env = (false, eval e X.env) :: starEach es X.env := by rfl) (hpl : (backTo pos (starEach es X.env)).any (·.1) = false := by rfl) :
    PE X (.Call (.Name x p) (e :: es) [] pos) (tG X.K W (wFnN is sp)) := by
  obtain ⟨fd, F, hb, hk, hm⟩ := h
  refine peImp (pe_callS (E := WE W) F (hr.mono hj) hg hm hk hb (fun σ => passAt tk σ) ha hdb he hpl) fun σ H Q ⟨F, S, Γ, Qd, Ed, en, ⟨As, hl, nd, tw, hs⟩, kq, ke⟩ => ?_
  obtain ⟨vs, hv⟩ := en.vals hl
  have h0 : ∀ {As' : Gm}, KinS As As' → ∀ (p : Nat) (s : Sl), As'[p]? = some s → s.chg = true → ∃ s0, As[p]? = some s0 ∧ s0.chg = true ∧ kin s0 s := fun kk p s g c => by
    obtain ⟨s0, g0, k0, c0⟩ := kk.get g
    exact ⟨s0, g0, c0.trans c, k0⟩
  exact namesT_ok hv ⟨S, _, _, As, _, _, en.hands hl nd tw hv, hs, fun d As' v S' H' ⟨kk, q⟩ po hv' => kq d _ S' v H' q (en.back hl nd hv (h0 kk) kk.kin po) hv', fun c As' S' H' ⟨kk, q⟩ po => ke c _ S' H' q (en.back hl nd hv (h0 kk) kk.kin po)⟩
/-- .. that changes none -/
def noChg (As : Gm) : Bool := As.all fun s => !s.chg
def wFnV (is : List Nat) (sp : NSp) : DE := fun Γ Q E => ∃ As, HandL Γ is As ∧ is.Nodup ∧ noChg As = true ∧ sp As (fun d _ => Q d Γ) (fun c _ => E c Γ)
theorem noChg_at {As : Gm} (h : noChg As = true) {p : Nat} {s : Sl} (g : As[p]? = some s) : s.chg = false := by
  have := List.all_eq_true.mp h s (List.mem_of_getElem? g)
  rw [Bool.not_eq_true'] at this
  exact this
theorem noChg_tw {As : Gm} (h : noChg As = true) : tw1 As = true := by
  have q : ∀ s ∈ As, isTw s = false := fun s hs => by
    have := List.all_eq_true.mp h s hs
    cases s <;> first | rfl | cases this
  unfold tw1
  rw [Bool.and_eq_true]
  refine ⟨?_, List.all_eq_true.mpr fun s hs => by rw [q s (List.mem_of_mem_drop hs)]; rfl⟩
  cases As with
  | nil => rfl
  | cons s As => show (!isTw s) = true; rw [q s List.mem_cons_self]; rfl
theorem de_fnV {is : List Nat} {sp : NSp} (h : Fok X.prog X.w X.K X.mg X.base x k ps (spN X.K sp)) (hr : Room j X.A) (hj : k ≤ j) (hg : Gl X x) (tk : Takes X W)
    (ha : PA X (e :: es) (namesT is)) (hdb : (x == ("__debug__" : Str)) = false := by decide) (he : starEach (e :: es) X.env = (false, eval e X.env) :: starEach es X.env := by rfl) (hpl : (backTo pos (starEach es X.env)).any (·.1) = false := by rfl) :
    PE X (.Call (.Name x p) (e :: es) [] pos) (tD X.K W (wFnV is sp)) := by
  obtain ⟨fd, F, hb, hk, hm⟩ := h
  refine peImp (pe_callS (E := WE W) F (hr.mono hj) hg hm hk hb (fun σ => passAt tk σ) ha hdb he hpl) fun σ H Q ⟨F, S, Γ, Qd, Ed, en, ⟨As, hl, nd, nc, hs⟩, kq, ke⟩ => ?_
  obtain ⟨vs, hv⟩ := en.vals hl
  have nt : ∀ b, ¬ tOf Γ σ H is As b := by
    rintro b ⟨p, i, s, o, hp, ha, c, _⟩
    rw [noChg_at nc ha] at c
    cases c
  refine namesT_ok hv ⟨S, _, _, As, _, _, en.hands hl nd (noChg_tw nc) hv, hs, fun d As' v S' H' q po hv' => ?_, fun c As' S' H' q po => ?_⟩
  · have sm : Same H H' := fun b u z => po.base b u (nt b) z
    exact kq d Γ v H' q (.of en sm) (en.same sm) (hv'.mono (off_sub fun b y => (po.sub b y).1))
  · have sm : Same H H' := fun b u z => po.base b u (nt b) z
    exact ke c Γ H' q (en.same sm)
end
/-! ### a book -/
def Bk (Γ : Gm) (i : Nat) (a : Addr) (r : Rs) : Prop := (∃ s, Γ[i]? = some s ∧ rsAt s = some (a, r)) ∧ r.ben = false
def Bw (Γ : Gm) (i : Nat) (a : Addr) (r : Rs) : Prop := Γ[i]? = some (.rs a r) ∧ r.ben = false
def bkF (vn : V) (bl ll : Addr) : List (Key × V) := [(.inr "now", vn), (.inr "before", .ref bl), (.inr "later", .ref ll)]
theorem RsOk.book {K : PySem.W.Frag} {h H : Hp} {a : Addr} {r : Rs} {fp : List Addr} (q : RsOk K h H a r fp) (hb : r.ben = false) : ∃ bl ll vn vb vl, fp = [a, bl, ll] ∧ H a = some (.dK (bkF vn bl ll)) ∧ Da K h vn r.now ∧ H bl = some (.lst vb) ∧ H ll = some (.lst vl) ∧ DaL K h vb r.before ∧ DaL K h vl r.later ∧ fp.Nodup := by
  obtain ⟨bl, ll, vn, vb, vl, h1, h2, h3, h4, h5, h6, ⟨hb', _⟩ | ⟨_, e, h7⟩⟩ := q
  · rw [hb] at hb'; cases hb'
  · exact ⟨bl, ll, vn, vb, vl, e, h7, h5, h1, h2, h3, h4, h6⟩
section
variable {X : Cx} {W : WX} {e a b c : Expr} {es : List Expr} {pos p q2 : Pos} {k j n : Nat} {ps : List Str} {x : Str}
theorem bk_now {vn : V} {bl ll : Addr} : valV (bkF vn bl ll) (.inr "now") = some vn := by rfl
theorem bk_before {vn : V} {bl ll : Addr} : valV (bkF vn bl ll) (.inr "before") = some (.ref bl) := by rfl
theorem bk_later {vn : V} {bl ll : Addr} : valV (bkF vn bl ll) (.inr "later") = some (.ref ll) := by rfl
theorem bk_putL {vn : V} {bl ll l2 : Addr} : putK (bkF vn bl ll) (.inr "later") (.ref l2) = bkF vn bl l2 := by rfl
theorem bk_putN {vn v2 : V} {bl ll : Addr} : putK (bkF vn bl ll) (.inr "now") v2 = bkF v2 bl ll := by rfl
/-- own['now'] -/
def wBk (i : Nat) : DE := fun Γ Q _ => ∃ a r, Bk Γ i a r ∧ Q r.now Γ
theorem de_bk (i : Nat) (hr : Room j X.A) (h : PE X (.Name x p) (tVar i)) : PE X (.Subscript (.Name x p) (.Constant (.str "now") n q2) pos) (tD X.K W (wBk i)) :=
  peImp (pe_dget (hu_of hr) h pe_str (fun _ _ => rfl)) fun σ H Q ⟨F, S, Γ, Qd, Ed, en, ⟨a, r, ⟨⟨s, g, es⟩, hb⟩, q⟩, kk, ke⟩ => by
    obtain ⟨e1, fp, q1, q2⟩ := en.rsv g es
    obtain ⟨bl, ll, vn, vb, vl, rfl, ha, hn, _⟩ := q1.book hb
    exact ⟨_, e1, a, vn, rfl, by rw [← bk_now (vn := vn) (bl := bl) (ll := ll)]; exact DGet.k (k := .inr "now") ha, kk _ Γ vn H q .refl en hn⟩
end
/-- a def that changes a book -/
def spB (K : PySem.W.Frag) (sp : GSp) : Sp := fun vs H Q E => ∃ (S : Hd) (a : Addr) (r : Rs) (fp : List Addr) (vs' : List V) (ds : List PyData) (Qd : PyData → Rs → Prop), Hid S H ∧ vs = .ref a :: vs' ∧ RsOk K (off S H) H a r fp ∧ r.ben = false ∧ (∀ b ∈ fp, S b) ∧ DaL K (off S H) vs' ds ∧ sp r ds Qd (fun _ _ => False) ∧
  (∀ d r' v S' fp' H', Qd d r' → Left K S S' H H' a fp r' fp' → Da K (off S' H') v d → Q v H')
/-- .. and makes no new place -/
def spBM (K : PySem.W.Frag) (sp : GSp) : Sp := fun vs H Q E => ∃ (S : Hd) (a : Addr) (r : Rs) (fp : List Addr) (vs' : List V) (ds : List PyData) (Qd : PyData → Rs → Prop), Hid S H ∧ vs = .ref a :: vs' ∧ RsOk K (off S H) H a r fp ∧ r.ben = false ∧ (∀ b ∈ fp, S b) ∧ DaL K (off S H) vs' ds ∧ sp r ds Qd (fun _ _ => False) ∧
  (∀ d r' v H', Qd d r' → Left K S S H H' a fp r' fp → Da K (off S H') v d → Q v H')
section
variable {X : Cx} {W : WX} {e a b c : Expr} {es : List Expr} {pos p p1 : Pos} {k j : Nat} {ps : List Str} {x y : Str}
def wFB (i : Nat) (sp : GSp) (ws : DL) : DE := fun Γ Q E => (∃ a r, Bw Γ i a r) ∧ ws Γ (fun ds Γ1 => ∃ a r, Bw Γ1 i a r ∧ sp r ds (fun d r' => Q d (Γ1.set i (.rs a r'))) (fun _ _ => False)) E
theorem ge_fB {i : Nat} {sp : GSp} {ws : DL} (h : Fok X.prog X.w X.K X.mg X.base x k ps (spB X.K sp)) (hr : Room j X.A) (hj : k ≤ j) (hg : Gl X x) (tk : Takes X W) (hx : PE X (.Name y p1) (tVar i)) (ha : PA X es (tL X.K W ws)) (hdb : (x == ("__debug__" : Str)) = false := by decide)
    (h1 : starEach (Expr.Name y p1 :: es) X.env = (false, eval (Expr.Name y p1) X.env) :: starEach es X.env := by rfl) (hpl : (backTo pos (starEach es X.env)).any (·.1) = false := by rfl) :
    PE X (.Call (.Name x p) (.Name y p1 :: es) [] pos) (tG X.K W (wFB i sp ws)) := by
  obtain ⟨fd, F, hb, hk, hm⟩ := h
  refine peImp (pe_callS (E := WE W) F (hr.mono hj) hg hm hk hb (fun σ => passAt tk σ) (pa_cons hx ha h1) hdb h1 hpl) fun σ H Q ⟨F, S, Γ, Qd, Ed, en, ⟨⟨a, r, g, hb⟩, hw⟩, kq, ke⟩ => ?_
  obtain ⟨e1, fp, q1, q2⟩ := en.brs g
  refine ⟨_, e1, F, S, Γ, _, Ed, en, hw, fun ds Γ1 us H1 ⟨a1, r1, ⟨g1, hb1⟩, q⟩ m1 en1 hv => ?_, fun c Γ' H' q e' => ke c Γ' S H' q e'⟩
  obtain ⟨e2, fp1, q3, q4⟩ := en1.brs g1
  rw [e1] at e2
  cases e2
  exact ⟨S, a, r1, fp1, us, ds, _, en1.hid, rfl, q3, hb1, q4, hv, q, fun d r' v S' fp' H' qd L hv' => kq d _ S' v H' qd (en1.left g1 q3 L) hv'⟩
theorem de_fBM {i : Nat} {sp : GSp} {ws : DL} (h : Fok X.prog X.w X.K X.mg X.base x k ps (spBM X.K sp)) (hr : Room j X.A) (hj : k ≤ j) (hg : Gl X x) (tk : Takes X W) (hx : PE X (.Name y p1) (tVar i)) (ha : PA X es (tL X.K W ws)) (hdb : (x == ("__debug__" : Str)) = false := by decide)
    (h1 : starEach (Expr.Name y p1 :: es) X.env = (false, eval (Expr.Name y p1) X.env) :: starEach es X.env := by rfl) (hpl : (backTo pos (starEach es X.env)).any (·.1) = false := by rfl) :
    PE X (.Call (.Name x p) (.Name y p1 :: es) [] pos) (tD X.K W (wFB i sp ws)) := by
  obtain ⟨fd, F, hb, hk, hm⟩ := h
  refine peImp (pe_callS (E := WE W) F (hr.mono hj) hg hm hk hb (fun σ => passAt tk σ) (pa_cons hx ha h1) hdb h1 hpl) fun σ H Q ⟨F, S, Γ, Qd, Ed, en, ⟨⟨a, r, g, hb⟩, hw⟩, kq, ke⟩ => ?_
  obtain ⟨e1, fp, q1, q2⟩ := en.brs g
  refine ⟨_, e1, F, S, Γ, _, Ed, en, hw, fun ds Γ1 us H1 ⟨a1, r1, ⟨g1, hb1⟩, q⟩ m1 en1 hv => ?_, ke⟩
  obtain ⟨e2, fp1, q3, q4⟩ := en1.brs g1
  rw [e1] at e2
  cases e2
  exact ⟨S, a, r1, fp1, us, ds, _, en1.hid, rfl, q3, hb1, q4, hv, q, fun d r' v H' qd L hv' => kq d _ v H' qd (m1.trans (.left en1 g1 q3 L)) (en1.left g1 q3 L) hv'⟩
end
/-! ### a step on -/
def Sp__law_go : GSp := Sp_go
abbrev tKey (f : Str) : TE := tDGet (tVar 0) (tC (.str f))
abbrev tBGo (K : PySem.W.Frag) : TS := tSeq (tDrop (tBM K "list" rAppend (tKey "before") (tCons (tKey "now") tNil))) (tSeq (sDPut (tVar 0) (tC (.str "later")) (tLst tNil)) (sDPut (tVar 0) (tC (.str "now")) (tTup (tCons (tVar 1) (tCons (tVar 2) tNil)))))
theorem get_k {H : Hp} {a : Addr} {vn v : V} {bl ll : Addr} (f : Str) (h : H a = some (.dK (bkF vn bl ll))) (e : valV (bkF vn bl ll) (.inr f) = some v) : DGet H a (.str f) (some v) := by
  rw [← e]
  exact DGet.k (k := .inr f) h
theorem nd3 {a b c : Addr} (h : [a, b, c].Nodup) : a ≠ b ∧ a ≠ c ∧ b ≠ c := by
  simp only [List.nodup_cons, List.mem_cons, List.not_mem_nil, or_false, not_or, List.nodup_nil, and_true] at h
  exact ⟨h.1.1, h.1.2, h.2.1⟩
theorem mk3 {a b c : Addr} (h1 : a ≠ b) (h2 : a ≠ c) (h3 : b ≠ c) : [a, b, c].Nodup := by simp [h1, h2, h3]
theorem bgo_rd {K : PySem.W.Frag} {vs : List V} {H : Hp} {Q : VK} {E : XK} (h : spB K Sp__law_go vs H Q E) : tBGo K { nx := fun _ H' => Q .non H', rt := Q } (L2.start ["own", "seen", "marked"] vs) H := by
  obtain ⟨S, a, r, fp, vs', ds, Qd, hS, rfl, hr, hben, hfp, hv, ⟨d1, d2, ee, hz, hq⟩, kq⟩ := h
  subst ee
  obtain ⟨v1, v2, rfl, hv1, hv2⟩ := hv.two
  obtain ⟨bl, ll, vn, vb, vl, rfl, ha, hn, hbl, hll, hb, hl, nd⟩ := hr.book hben
  obtain ⟨n1, n2, n3⟩ := nd3 nd
  have Sa : S a := hfp a (by simp)
  have Sbl : S bl := hfp bl (by simp)
  refine ⟨_, rfl, a, .ref bl, rfl, get_k _ ha bk_before, .inl ⟨rfl, _, .of hbl⟩, _, rfl, a, vn, rfl, get_k _ ha bk_now, bl, vb, vn, rfl, rfl, hbl, by rw [hb.length, sizeLine_eq]; omega, ?_⟩
  refine ⟨Nat.zero_le _, fun p hp => ?_⟩
  have pbl : p ≠ bl := by rintro rfl; rw [upd_same] at hp; cases hp
  have hp0 : H p = none := by rw [upd_ne pbl] at hp; exact hp
  have pa : a ≠ p := ne_of_none ha hp0
  refine ⟨_, rfl, a, _, rfl, DPut.k (k := .inr "later") (by rw [upd_ne pa, upd_ne n1]; exact ha) (by show 3 < sizeLine; rw [sizeLine_eq]; decide), ?_⟩
  refine ⟨v1, rfl, v2, rfl, by show 2 ≤ sizeLine; rw [sizeLine_eq]; decide, fun t ht => ?_⟩
  rw [bk_putL] at ht ⊢
  have ta : t ≠ a := by rintro rfl; rw [upd_same] at ht; cases ht
  have tp : t ≠ p := by rintro rfl; rw [upd_ne ta, upd_same] at ht; cases ht
  have tb : t ≠ bl := by rintro rfl; rw [upd_ne ta, upd_ne tp, upd_same] at ht; cases ht
  have ht0 : H t = none := by rw [upd_ne ta, upd_ne tp, upd_ne tb] at ht; exact ht
  refine ⟨_, rfl, a, _, rfl, DPut.k (k := .inr "now") (by rw [upd_ne (Ne.symm ta), upd_same]) (by show 3 < sizeLine; rw [sizeLine_eq]; decide), ?_⟩
  rw [bk_putN]
  refine kq .none _ .non (fun b => S b ∨ b = p) [a, bl, p] _ hq ?_ .non
  generalize hH5 : upd (upd (upd (upd (upd H bl (.lst (vb ++ [vn]))) p (.lst [])) a (.dK (bkF vn bl p))) t (.tup [v1, v2])) a (.dK (bkF (.ref t) bl p)) = H5
  have ga : H5 a = some (.dK (bkF (.ref t) bl p)) := by rw [← hH5, upd_same]
  have gt : H5 t = some (.tup [v1, v2]) := by rw [← hH5, upd_ne ta, upd_same]
  have gp : H5 p = some (.lst []) := by rw [← hH5, upd_ne (Ne.symm pa), upd_ne (Ne.symm tp), upd_ne (Ne.symm pa), upd_same]
  have gb : H5 bl = some (.lst (vb ++ [vn])) := by rw [← hH5, upd_ne (Ne.symm n1), upd_ne (Ne.symm tb), upd_ne (Ne.symm n1), upd_ne (Ne.symm pbl), upd_same]
  have go : ∀ b, b ≠ a → b ≠ t → b ≠ p → b ≠ bl → H5 b = H b := fun b h1 h2 h3 h4 => by rw [← hH5, upd_ne h1, upd_ne h2, upd_ne h1, upd_ne h3, upd_ne h4]
  have e : Same (off S H) (off (fun b => S b ∨ b = p) H5) := fun b o z => by
    obtain ⟨n, z⟩ := off_get z
    have bp : b ≠ p := ne_of_none z hp0
    rw [off_in (fun y => y.elim n bp), go b (fun y => n (y ▸ Sa)) (ne_of_none z ht0) bp (fun y => n (y ▸ Sbl))]
    exact z
  refine ⟨fun b z => .inl z, fun b z => z.imp id fun y => by rw [y]; exact hp0, fun b z y => ?_, fun b o nb z => ?_, ?_, fun b hb => ?_⟩
  · by_cases c1 : b = a
    · rw [c1, ga] at y; cases y
    by_cases c2 : b = t
    · rw [c2, gt] at y; cases y
    by_cases c3 : b = p
    · rw [c3, gp] at y; cases y
    by_cases c4 : b = bl
    · rw [c4, gb] at y; cases y
    rw [go b c1 c2 c3 c4] at y
    exact hS b (z.resolve_right c3) y
  · simp only [List.mem_cons, List.not_mem_nil, or_false, not_or] at nb
    rw [go b nb.1 (ne_of_none z ht0) (ne_of_none z hp0) nb.2.1]
    exact z
  · refine ⟨bl, p, .ref t, vb ++ [vn], [], gb, gp, (hb.mono e).append (.cons (hn.mono e) .nil), .nil, .tup (.of ?_) (.cons (hv1.mono e) (.cons (hv2.mono e) .nil)), mk3 n1 pa (Ne.symm pbl), .inr ⟨hben, rfl, ga⟩⟩
    rw [off_in (fun y => y.elim (fun y => hS t y ht0) tp)]; exact gt
  · simp only [List.mem_cons, List.not_mem_nil, or_false] at hb
    rcases hb with rfl | rfl | rfl
    · exact ⟨.inl Sa, .inl (by simp)⟩
    · exact ⟨.inl Sbl, .inl (by simp)⟩
    · exact ⟨.inr rfl, .inr hp0⟩
end Dt

/-! Sem1: what the defs of rows and signs do, over data. -/
namespace Sg
open PySem L2 Dt
/-! ### the data -/
inductive Hold where
  | high | low | rise | fall
  deriving DecidableEq
def Hold.s : Hold → Str
  | .high => "high"
  | .low => "low"
  | .rise => "rise"
  | .fall => "fall"
abbrev Sign := List (Option Hold)
abbrev Rows := List (List Bool)
def eH (h : Hold) : PyData := .str h.s
def eW : Option Hold → PyData
  | none => .none
  | some h => .str h.s
def eSign (s : Sign) : PyData := .tuple (s.map eW)
def eRow (r : List Bool) : PyData := .tuple (r.map .bool)
def eRows (r : Rows) : PyData := .list (r.map eRow)
def eN (n : Nat) : PyData := .int (n : Int)
def eTs (l : List Nat) : PyData := .list (l.map eN)
def IsRows (d : PyData) (r : Rows) : Prop := d = .list (r.map eRow) ∨ d = .tuple (r.map eRow)
/-! ### small tools -/
theorem atI_map {α : Type} (f : α → PyData) (l : List α) (i : Nat) (x0 : α) (h : i < l.length) : atI (l.map f) (i : Int) = some (f (l.getD i x0)) := by
  refine atI_nat ?_
  rw [List.getElem?_map, List.getElem?_eq_getElem h, List.getD_eq_getElem?_getD, List.getElem?_eq_getElem h]
  rfl
theorem atI_lastM {α : Type} (f : α → PyData) (l : List α) (x : α) : atI ((l ++ [x]).map f) (-1) = some (f x) := by
  rw [List.map_append]
  exact atI_last _ _
theorem atI_zero {α : Type} (x : α) (l : List α) : atI (x :: l) 0 = some x := atI_nat (j := 0) rfl
theorem small_size {n : Nat} (h : n ≤ 16000000) : n ≤ sizeLine := Nat.le_trans h (by rw [sizeLine_eq]; decide)
theorem ite_id {A : Prop} {c : Bool} (h : A) : if c = true then A else A := by
  cases c <;> exact h
/-- the two ways of a test -/
theorem iteB {A B : Prop} {c : Bool} (h1 : c = true → A) (h2 : c = false → B) : if c = true then A else B := by
  cases c with
  | true => exact h1 rfl
  | false => exact h2 rfl
theorem allB {α : Type} (l : List α) (f : α → Bool) : l.map (fun x => PyData.bool (f x)) = (l.map f).map PyData.bool := by
  rw [List.map_map]
  rfl
theorem all_id {α : Type} (l : List α) (f : α → Bool) : (l.map f).all id = l.all f := by
  rw [List.all_map]
  rfl
theorem any_id {α : Type} (l : List α) (f : α → Bool) : (l.map f).any id = l.any f := by
  rw [List.any_map]
  rfl
/-! ### is_whole -/
def isWhole (x : PyData) (lo hi : Int) : Bool := match x with
  | .int i => decide (lo ≤ i) && decide (i ≤ hi)
  | _ => false
def Sp_is_whole : DSp := fun ds Q _ => ∃ x lo hi, ds = [x, .int lo, .int hi] ∧ Q (.bool (isWhole x lo hi))
def w_is_whole : DS := (wRet (wAnd (wIsi isInt (wVar 0)) (wAnd (wNot (wIsi isBool (wVar 0))) (wChain LeD LeD (wVar 1) (wVar 0) (wVar 2)))))
theorem m_is_whole (ds : List PyData) (Q : PyData → Prop) (E : Str → Prop) (h : Sp_is_whole ds Q E) : w_is_whole (startG ["thing", "low", "most"] ds) (endO Q E) := by
  obtain ⟨x, lo, hi, rfl, q⟩ := h
  show w_is_whole [.dat x, .dat (.int lo), .dat (.int hi)] _
  refine ⟨_, rfl, _, rfl, ?_⟩
  cases x with
  | int i =>
    refine ⟨_, rfl, _, rfl, _, rfl, ?_⟩
    refine ⟨_, rfl, _, rfl, _, rfl, ?_⟩
    refine iteB (fun h => ?_) (fun h => ?_)
    · refine ⟨_, rfl, _, rfl, ?_⟩
      show Q _
      unfold isWhole at q
      simp only [h, Bool.true_and] at q
      exact q
    · show Q _
      unfold isWhole at q
      simp only [h, Bool.false_and] at q
      exact q
  | bool b => exact ⟨_, rfl, _, rfl, _, rfl, q⟩
  | _ => exact q
/-! ### are_levels -/
def isLevels (x : PyData) (n : Int) : Bool := match x with
  | .tuple ds => ((ds.length : Int) == n) && ds.all isBool
  | _ => false
def Sp_are_levels : DSp := fun ds Q _ => ∃ x n, ds = [x, .int n] ∧ (∀ l, x = .tuple l → l.length ≤ sizeLine) ∧ Q (.bool (isLevels x n))
def w_are_levels : DS := (wRet (wAnd (wIsi isTup (wVar 0)) (wAnd (wBin EqD (wCall LenC (wCons (wVar 0) wNil)) (wVar 1)) (wCall AllC (wCons (wLc (wSeq (wVar 0)) (stAll (gdN 2) (wIsi isBool (wVar 2)) [2]) [2]) wNil)))))
theorem m_are_levels (ds : List PyData) (Q : PyData → Prop) (E : Str → Prop) (h : Sp_are_levels ds Q E) : w_are_levels (startG ["thing", "many", "one"] ds) (endO Q E) := by
  obtain ⟨x, n, rfl, hz, q⟩ := h
  show w_are_levels [.dat x, .dat (.int n), .no] _
  refine ⟨_, rfl, _, rfl, ?_⟩
  cases x with
  | tuple l =>
    refine ⟨_, rfl, _, ⟨_, _, rfl, rfl, rfl⟩, _, rfl, _, ⟨rfl, rfl, rfl⟩, _, rfl, ?_⟩
    show if ((l.length : Int) == n) = true then _ else _
    refine iteB (fun h => ?_) (fun h => ?_)
    · refine ⟨_, rfl, _, rfl, hz l rfl, rfl, ?_⟩
      rw [show l = l.map id by rw [List.map_id]]
      refine lc_all id (fun x => .bool (isBool x)) l [] (fun x _ k hk => ?_) ?_
      · exact ⟨_, rfl, hk⟩
      · refine ⟨_, ⟨l.map isBool, ?_, rfl⟩, ?_⟩
        · rw [List.nil_append, allB]
        · show Q _
          unfold isLevels at q
          simp only [h, Bool.true_and] at q
          rw [all_id]
          exact q
    · show Q (.bool ((l.length : Int) == n))
      unfold isLevels at q
      simp only [h, Bool.false_and] at q
      rw [h]
      exact q
  | _ => exact q
/-! ### look_rows -/
def SzR (d : PyData) : Prop := ∀ rs, d = .list rs → ∀ l, PyData.tuple l ∈ rs → l.length ≤ sizeLine
def validRows (d : PyData) : Bool := match d with
  | .list rs => decide (1 ≤ (rs.length : Int)) && decide ((rs.length : Int) ≤ 200) && (match rs with
    | .tuple l :: _ => decide (1 ≤ (l.length : Int)) && decide ((l.length : Int) ≤ 5) && rs.all fun x => isLevels x l.length
    | _ => false)
  | _ => false
def Sp_look_rows : DSp := fun ds Q E => ∃ d, ds = [d] ∧ SzR d ∧ (if validRows d = true then Q .none else E "BadRows")
def w_look_rows : DS := (wSq (wIfS (wtOr (wtNot (wTru (wIsi isLst (wVar 0)))) (wtOr (wtNot (wTst (wChain LeD LeD (wC (.int 1)) (wCall LenC (wCons (wVar 0) wNil)) (wC (.int 200))))) (wtNot (wTru (wIsi isTup (wBin IxD (wVar 0) (wC (.int 0)))))))) (wRaise "BadRows") wNx)
  (wSq (wSet 1 (wCall LenC (wCons (wBin IxD (wVar 0) (wC (.int 0))) wNil)))
  (wIfS (wtOr (wtNot (wTst (wChain LeD LeD (wC (.int 1)) (wVar 1) (wC (.int 5))))) (wtNot (wTru (wCall AllC (wCons (wLc (wSeq (wVar 0)) (stAll (gdN 2) (wFn Sp_are_levels (wCons (wVar 2) (wCons (wVar 1) wNil))) [2]) [2]) wNil))))) (wRaise "BadRows") wNx)))
theorem m_look_rows (ds : List PyData) (Q : PyData → Prop) (E : Str → Prop) (h : Sp_look_rows ds Q E) : w_look_rows (startG ["rows", "many", "row"] ds) (endO Q E) := by
  obtain ⟨d, rfl, hz, q⟩ := h
  show w_look_rows [.dat d, .no, .no] _
  refine ⟨_, rfl, _, rfl, ?_⟩
  cases d with
  | list rs =>
    refine ⟨_, rfl, _, ⟨_, _, rfl, rfl, rfl⟩, _, rfl, ?_⟩
    have stop : validRows (.list rs) = false → E "BadRows" := fun e => by rw [if_neg (by rw [e]; exact Bool.false_ne_true)] at q; exact q
    refine iteB (fun h1 => ?_) (fun h1 => ?_)
    · refine ⟨_, rfl, _, rfl, ?_⟩
      refine iteB (fun h2 => ?_) (fun h2 => ?_)
      · rw [Bool.not_eq_true'] at h2
        exact stop (by unfold validRows; simp only [h1, h2, Bool.true_and, Bool.false_and])
      rw [Bool.not_eq_false'] at h2
      have hl2 : rs.length ≤ 200 := by have := of_decide_eq_true h2; omega
      cases rs with
      | nil => exact absurd h1 (by decide)
      | cons r0 rs =>
        refine ⟨_, rfl, _, atI_zero _ _, _, rfl, ?_⟩
        cases r0 with
        | tuple l =>
          refine ⟨_, rfl, _, atI_zero _ _, _, ⟨_, _, rfl, rfl, rfl⟩, _, rfl, _, rfl, ?_⟩
          refine iteB (fun h3 => ?_) (fun h3 => ?_)
          · refine ⟨_, rfl, _, rfl, ?_⟩
            refine iteB (fun h4 => ?_) (fun h4 => ?_)
            · rw [Bool.not_eq_true'] at h4
              exact stop (by unfold validRows; simp only [h1, h2, h3, h4, Bool.true_and, Bool.false_and, Bool.and_false])
            rw [Bool.not_eq_false'] at h4
            refine ⟨_, rfl, _, rfl, small_size (by omega), rfl, ?_⟩
            rw [show (PyData.tuple l :: rs) = (PyData.tuple l :: rs).map id by rw [List.map_id]]
            refine lc_all id (fun x => .bool (isLevels x l.length)) _ [] (fun x hx k hk => ?_) ?_
            · exact ⟨_, rfl, _, rfl, _, _, rfl, fun l' e => hz _ rfl l' (e ▸ hx), hk⟩
            · refine ⟨_, ⟨(PyData.tuple l :: rs).map fun x => isLevels x l.length, ?_, rfl⟩, _, rfl, ?_⟩
              · rw [List.nil_append, allB]
              · rw [all_id]
                refine iteB (fun h5 => ?_) (fun h5 => ?_)
                · rw [Bool.not_eq_true'] at h5
                  exact stop (by unfold validRows; simp only [h1, h2, h3, h4, h5, Bool.true_and])
                · rw [Bool.not_eq_false'] at h5
                  rw [if_pos (by unfold validRows; simp only [h1, h2, h3, h4, h5, Bool.true_and])] at q
                  exact q
          · exact ⟨_, rfl, stop (by unfold validRows; simp only [h1, h2, h3, Bool.true_and, Bool.false_and])⟩
        | _ => exact stop (by unfold validRows; simp only [h1, h2, Bool.true_and])
    · exact ⟨_, rfl, stop (by unfold validRows; simp only [h1, Bool.false_and])⟩
  | _ => exact q
/-! ### look_tick -/
def Sp_look_tick : DSp := fun ds Q E => ∃ d l x, ds = [d, x] ∧ SeqD d l ∧ (if isWhole x 0 ((l.length : Int) - 1) = true then Q .none else E "BadTold")
def w_look_tick : DS := (wIfS (wtNot (wTru (wFn Sp_is_whole (wCons (wVar 1) (wCons (wC (.int 0)) (wCons (wBin SubD (wCall LenC (wCons (wVar 0) wNil)) (wC (.int 1))) wNil)))))) (wRaise "BadTold") wNx)
theorem m_look_tick (ds : List PyData) (Q : PyData → Prop) (E : Str → Prop) (h : Sp_look_tick ds Q E) : w_look_tick (startG ["rows", "tick"] ds) (endO Q E) := by
  obtain ⟨d, l, x, rfl, hs, q⟩ := h
  show w_look_tick [.dat d, .dat x] _
  have hl : LenD d l.length := by cases d <;> first | exact hs.elim | (cases hs; rfl)
  refine ⟨_, rfl, _, rfl, _, ⟨_, _, rfl, hl, rfl⟩, _, rfl, _, _, _, rfl, _, rfl, ?_⟩
  refine iteB (fun h1 => ?_) (fun h1 => ?_)
  · rw [Bool.not_eq_true'] at h1
    rw [if_neg (by rw [h1]; exact Bool.false_ne_true)] at q
    exact q
  · rw [Bool.not_eq_false'] at h1
    rw [if_pos h1] at q
    exact q
/-! ### holding -/
def lv (rows : Rows) (t l : Nat) : Bool := (rows.getD t []).getD l false
def ahead (rows : Rows) (t l : Nat) : Bool := if 0 < t then lv rows (t - 1) l else lv rows t l
def holdM (rows : Rows) (t l : Nat) : List Hold := [if lv rows t l = true then .high else .low] ++ (if 0 < t ∧ lv rows (t - 1) l ≠ lv rows t l then [if lv rows t l = true then .rise else .fall] else [])
def Sp_holding : DSp := fun ds Q _ => ∃ d rows t l m, ds = [d, eN t, eN l] ∧ IsRows d rows ∧ (∀ r ∈ rows, r.length = m) ∧ t < rows.length ∧ l < m ∧ Q (.list ((holdM rows t l).map eH))
theorem ix_rows {d : PyData} {rows : Rows} {t : Nat} (h : IsRows d rows) (ht : t < rows.length) : IxD d (.int (t : Int)) (eRow (rows.getD t [])) := by
  rcases h with rfl | rfl <;> exact atI_map eRow rows t [] ht
theorem len_row {rows : Rows} {m t : Nat} (h : ∀ r ∈ rows, r.length = m) (ht : t < rows.length) : (rows.getD t []).length = m := by
  rw [List.getD_eq_getElem?_getD, List.getElem?_eq_getElem ht]
  exact h _ (List.getElem_mem ht)
theorem ix_row {rows : Rows} {m t l : Nat} (h : ∀ r ∈ rows, r.length = m) (ht : t < rows.length) (hl : l < m) : IxD (eRow (rows.getD t [])) (.int (l : Int)) (.bool (lv rows t l)) :=
  atI_map PyData.bool (rows.getD t []) l false (by rw [len_row h ht]; exact hl)
def w_holding : DS := (wSq (wSet 3 (wBin IxD (wBin IxD (wVar 0) (wVar 1)) (wVar 2)))
  (wSq (wSetO 4 (wLstF (wCons (wIf (wTru (wVar 3)) (wC (.str "high")) (wC (.str "low"))) wNil)))
  (wSq (wIfS (wtAnd (wTst (wBin GtD (wVar 1) (wC (.int 0)))) (wTst (wBin NeD (wBin IxD (wBin IxD (wVar 0) (wBin SubD (wVar 1) (wC (.int 1)))) (wVar 2)) (wVar 3)))) (wApp 4 (wIf (wTru (wVar 3)) (wC (.str "rise")) (wC (.str "fall")))) wNx)
  (wRel 4 (wRet (wVar 4))))))
theorem m_holding (ds : List PyData) (Q : PyData → Prop) (E : Str → Prop) (h : Sp_holding ds Q E) : w_holding (startG ["rows", "tick", "line", "now", "found"] ds) (endO Q E) := by
  obtain ⟨d, rows, t, l, m, rfl, hd, hm, ht, hl, q⟩ := h
  show w_holding [.dat d, .dat (eN t), .dat (eN l), .no, .no] _
  refine ⟨_, rfl, _, rfl, _, ix_rows hd ht, _, rfl, _, ix_row hm ht hl, ?_⟩
  refine ⟨_, rfl, _, rfl, ?_⟩
  have key : ∀ h0 : Hold, holdM rows t l = [h0] ++ (if 0 < t ∧ lv rows (t - 1) l ≠ lv rows t l then [if lv rows t l = true then .rise else .fall] else []) →
      (wSq (wIfS (wtAnd (wTst (wBin GtD (wVar 1) (wC (.int 0)))) (wTst (wBin NeD (wBin IxD (wBin IxD (wVar 0) (wBin SubD (wVar 1) (wC (.int 1)))) (wVar 2)) (wVar 3)))) (wApp 4 (wIf (wTru (wVar 3)) (wC (.str "rise")) (wC (.str "fall")))) wNx)
        (wRel 4 (wRet (wVar 4)))) [.dat d, .dat (eN t), .dat (eN l), .dat (.bool (lv rows t l)), .own [eH h0]] (endO Q E) := fun h0 e => by
    rw [e] at q
    refine ⟨_, rfl, _, rfl, _, rfl, ?_⟩
    refine iteB (fun h1 => ?_) (fun h1 => ?_)
    · have h1 : (0 : Int) < (t : Int) := of_decide_eq_true h1
      have ht0 : 0 < t := by omega
      have ht1 : t - 1 < rows.length := by omega
      refine ⟨_, rfl, _, rfl, _, rfl, eRow (rows.getD (t - 1) []), ?_, _, rfl, _, ix_row hm ht1 hl, _, rfl, _, ⟨rfl, rfl, rfl⟩, _, rfl, ?_⟩
      · have e1 : (t : Int) - 1 = ((t - 1 : Nat) : Int) := by omega
        show IxD d (.int ((t : Int) - 1)) _
        rw [e1]
        exact ix_rows hd ht1
      · show if (!(lv rows (t - 1) l == lv rows t l)) = true then _ else _
        refine iteB (fun h2 => ?_) (fun h2 => ?_)
        · have hne : lv rows (t - 1) l ≠ lv rows t l := by simpa using h2
          rw [if_pos ⟨ht0, hne⟩] at q
          refine ⟨⟨_, rfl⟩, _, rfl, _, rfl, ?_⟩
          refine iteB (fun h3 => ?_) (fun h3 => ?_)
          · rw [if_pos h3] at q
            exact ⟨_, rfl, by show 1 < sizeLine; rw [sizeLine_eq]; decide, _, rfl, _, rfl, q⟩
          · rw [if_neg (by rw [h3]; exact Bool.false_ne_true)] at q
            exact ⟨_, rfl, by show 1 < sizeLine; rw [sizeLine_eq]; decide, _, rfl, _, rfl, q⟩
        · have he : lv rows (t - 1) l = lv rows t l := by simpa using h2
          rw [if_neg (fun z => z.2 he)] at q
          exact ⟨_, rfl, _, rfl, q⟩
    · have h1 : ¬ (0 : Int) < (t : Int) := of_decide_eq_false h1
      rw [if_neg (fun z => h1 (by omega))] at q
      exact ⟨_, rfl, _, rfl, q⟩
  refine iteB (fun h1 => ?_) (fun h1 => ?_)
  · exact ⟨by show 1 ≤ sizeLine; rw [sizeLine_eq]; decide, key .high (by unfold holdM; rw [if_pos h1])⟩
  · exact ⟨by show 1 ≤ sizeLine; rw [sizeLine_eq]; decide, key .low (by unfold holdM; rw [if_neg (by rw [h1]; exact Bool.false_ne_true)])⟩
/-! ### what a word asks -/
def okH (h : Hold) (now bef : Bool) : Bool := match h with
  | .high => now
  | .low => !now
  | .rise => now && !bef
  | .fall => bef && !now
def okW (w : Option Hold) (now bef : Bool) : Bool := match w with
  | none => true
  | some h => okH h now bef
def fitsM (rows : Rows) (t : Nat) (s : Sign) : Bool := (List.range s.length).all fun l => okW (s.getD l none) (lv rows t l) (ahead rows t l)
def ticksM (rows : Rows) (s : Sign) : List Nat := (List.range rows.length).filter fun t => fitsM rows t s
theorem inH (h : Hold) (l : List Hold) : inD (eH h) (l.map eH) = decide (h ∈ l) := by
  induction l with
  | nil => rfl
  | cons x r ih =>
    show (PyData.eqv (eH x) (eH h) || inD (eH h) (r.map eH)) = decide (h ∈ x :: r)
    rw [ih]
    have e : PyData.eqv (eH x) (eH h) = decide (h = x) := by cases x <;> cases h <;> decide +kernel
    rw [e]
    by_cases q : h = x
    · subst q; simp
    · simp [q]
theorem in_hold (rows : Rows) (t l : Nat) (h : Hold) : decide (h ∈ holdM rows t l) = okH h (lv rows t l) (ahead rows t l) := by
  unfold holdM ahead okH
  by_cases h0 : 0 < t
  · cases lv rows (t - 1) l <;> cases lv rows t l <;> cases h <;> simp [h0]
  · cases lv rows t l <;> cases h <;> simp [h0]
theorem strOk_hold (h : Hold) : SeqAt.shaped (eH h) = true := by cases h <;> decide +kernel
theorem shaped_holds (l : List Hold) : SeqAt.shaped (.list (l.map eH)) = true := by
  have e1 : ∀ l : List Hold, PyData.canLayAll0 (l.map eH) = true := fun l => by
    induction l with
    | nil => rfl
    | cons x r ih =>
      show (PyData.canLay0 (eH x) && PyData.canLayAll0 (r.map eH)) = true
      rw [ih, SeqAt.canLay_of_shaped (strOk_hold x)]
      rfl
  have e2 : ∀ l : List Hold, PyData.depthAll (l.map eH) = 0 := fun l => by
    induction l with
    | nil => rfl
    | cons x r ih =>
      show max (PyData.depth (eH x)) (PyData.depthAll (r.map eH)) = 0
      rw [ih]
      cases x <;> rfl
  unfold SeqAt.shaped
  have d1 : PyData.canLay0 (.list (l.map eH)) = true := by unfold PyData.canLay0; exact e1 l
  have d2 : PyData.depth (.list (l.map eH)) = 1 := by unfold PyData.depth; rw [e2]
  rw [d1, d2]
  rfl
/-! ### fits, ticks_of -/
def RowsOk (rows : Rows) (m : Nat) : Prop := ∀ r ∈ rows, r.length = m
def Sp_fits : DSp := fun ds Q _ => ∃ d rows t s m, ds = [d, eN t, eSign s] ∧ IsRows d rows ∧ RowsOk rows m ∧ t < rows.length ∧ s.length ≤ m ∧ s.length ≤ 1000 ∧ Q (.bool (fitsM rows t s))
def w_fits : DS := (wRet (wCall AllC (wCons (wLc (wRng Rng1 (wCons (wCall LenC (wCons (wVar 2) wNil)) wNil)) (stAll (gdN 3) (wOr (wBin IsND (wBin IxD (wVar 2) (wVar 3)) (wC .none)) (wBin (InD false) (wBin IxD (wVar 2) (wVar 3)) (wFn Sp_holding (wCons (wVar 0) (wCons (wVar 1) (wCons (wVar 3) wNil)))))) [3]) [3]) wNil)))
theorem m_fits (ds : List PyData) (Q : PyData → Prop) (E : Str → Prop) (h : Sp_fits ds Q E) : w_fits (startG ["rows", "tick", "sign", "line"] ds) (endO Q E) := by
  obtain ⟨d, rows, t, s, m, rfl, hd, hm, ht, hs, hs2, q⟩ := h
  show w_fits [.dat d, .dat (eN t), .dat (eSign s), .no] _
  refine ⟨_, rfl, _, ⟨_, _, rfl, rfl, rfl⟩, _, ⟨_, rfl, ?_, ?_, rfl⟩, ?_⟩
  · rw [List.length_map]; omega
  · rw [List.length_map]; omega
  rw [List.length_map, rngL_nat]
  refine ⟨by rw [List.length_map, List.length_range]; exact small_size (by omega), rfl, ?_⟩
  refine lc_all _ (fun l => .bool (okW (s.getD l none) (lv rows t l) (ahead rows t l))) _ [] (fun l hl k hk => ?_) ?_
  · have hl := List.mem_range.mp hl
    refine ⟨_, rfl, _, rfl, _, atI_map eW s l none hl, _, ⟨rfl, rfl⟩, _, rfl, ?_⟩
    cases hw : s.getD l none with
    | none =>
      rw [hw] at hk
      exact hk
    | some h =>
      refine ⟨_, rfl, _, rfl, _, atI_map eW s l none hl, _, rfl, _, rfl, _, rfl, d, rows, t, l, m, rfl, hd, hm, ht, by omega, ?_⟩
      rw [hw]
      refine ⟨_, ⟨rfl, strOk_hold h, shaped_holds _⟩, ?_⟩
      rw [hw] at hk
      have e : (false ^^ inD (eW (some h)) ((holdM rows t l).map eH)) = okW (some h) (lv rows t l) (ahead rows t l) := by
        rw [Bool.false_xor]
        exact (inH h _).trans (in_hold rows t l h)
      rw [e]
      exact hk
  · refine ⟨_, ⟨(List.range s.length).map fun l => okW (s.getD l none) (lv rows t l) (ahead rows t l), ?_, rfl⟩, ?_⟩
    · rw [List.nil_append, allB]
    · rw [all_id]
      exact q
def Sp_ticks_of : DSp := fun ds Q _ => ∃ d rows s m, ds = [d, eSign s] ∧ IsRows d rows ∧ RowsOk rows m ∧ rows.length ≤ 1000000 ∧ s.length ≤ m ∧ s.length ≤ 1000 ∧ Q (eTs (ticksM rows s))
def w_ticks_of : DS := (wRet (wLc (wRng Rng1 (wCons (wCall LenC (wCons (wVar 0) wNil)) wNil)) (stIf (gdN 2) (wTru (wFn Sp_fits (wCons (wVar 0) (wCons (wVar 2) (wCons (wVar 1) wNil))))) (wVar 2) [2]) [2]))
theorem len_rows {d : PyData} {rows : Rows} (h : IsRows d rows) : LenD d rows.length := by
  rcases h with rfl | rfl <;> exact (List.length_map _).symm
theorem m_ticks_of (ds : List PyData) (Q : PyData → Prop) (E : Str → Prop) (h : Sp_ticks_of ds Q E) : w_ticks_of (startG ["rows", "sign", "tick"] ds) (endO Q E) := by
  obtain ⟨d, rows, s, m, rfl, hd, hm, hr, hs, hs2, q⟩ := h
  show w_ticks_of [.dat d, .dat (eSign s), .no] _
  refine ⟨_, rfl, _, ⟨_, _, rfl, len_rows hd, rfl⟩, _, ⟨_, rfl, by omega, by omega, rfl⟩, ?_⟩
  rw [rngL_nat]
  refine ⟨by rw [List.length_map, List.length_range]; exact small_size (by omega), rfl, ?_⟩
  refine lc_if _ (fun t => fitsM rows t s) eN _ [] (fun t ht k hk => ?_) ?_
  · have ht := List.mem_range.mp ht
    refine ⟨_, rfl, _, rfl, _, rfl, d, rows, t, s, m, rfl, hd, hm, ht, hs, hs2, _, rfl, ?_⟩
    refine iteB (fun h1 => ?_) (fun h1 => ?_)
    · rw [if_pos h1] at hk
      exact ⟨_, rfl, hk⟩
    · rw [if_neg (by rw [h1]; exact Bool.false_ne_true)] at hk
      exact hk
  · exact q
end Sg

/-! SemL: what the laws' own helpers do. -/
namespace Sg
open PySem L2 Dt
/-! ### draws -/
def spCellS (K : PySem.W.Frag) : Sp := fun vs H Q _ => ∃ v k, vs = [v, .int k] ∧ Scr K H v ∧ ∀ i : Int, Q (.int i) H
def spMixS (K : PySem.W.Frag) : Sp := fun vs H Q _ => ∃ v k, vs = [v, .int k] ∧ Scr K H v ∧ 0 ≤ k ∧ k ≤ 100000000 ∧ ∀ r : Int, 0 ≤ r → Q (.int r) H
/-- a draw below m; the town grows by one -/
def Sp__law_draw : TSp := fun n ds Q => ∃ m : Int, ds = [.int m] ∧ 0 < m ∧ n < 1000000 ∧ ∀ d : Int, 0 ≤ d → d < m → Q (.int d) (n + 1)
/-- one of some -/
def Sp__law_pick : TSp := fun n ds Q => ∃ l : List PyData, ds = [.list l] ∧ l ≠ [] ∧ n < 1000000 ∧ ∀ d, d ∈ l → Q d (n + 1)
def w__law_pick : DS := (wRet (wBin IxD (wVar 2) (wFnT 0 1 Sp__law_draw (wCons (wCall LenC (wCons (wVar 2) wNil)) wNil))))
theorem m__law_pick (n : Nat) (ds : List PyData) (Q : PyData → Nat → Prop) (h : Sp__law_pick n ds Q) : w__law_pick (startT ["script", "town", "some"] n ds) (endT Q) := by
  obtain ⟨l, rfl, hl, hn, q⟩ := h
  show w__law_pick [.scr, .twn n, .dat (.list l)] _
  have hpos : 0 < l.length := List.length_pos_iff.mpr hl
  refine ⟨_, rfl, rfl, ⟨_, rfl⟩, _, rfl, _, ⟨_, _, rfl, rfl, rfl⟩, _, rfl, rfl, _, rfl, by omega, hn, fun d h0 h1 => ?_⟩
  obtain ⟨j, rfl⟩ : ∃ j : Nat, d = (j : Int) := ⟨d.toNat, by omega⟩
  have hd : j < l.length := by omega
  exact ⟨l[j], atI_nat (List.getElem?_eq_getElem hd), _, rfl, q _ (List.getElem_mem hd)⟩
/-! ### comprehensions that draw -/
theorem lc_inv {α : Type} {Γ : Gm} {st : LStep} (enc : α → PyData) {k : List PyData → Gm → Prop} (l : List α) (I : List α → List PyData → Gm → Prop)
    (hs : ∀ pre x post acc Γ, l = pre ++ x :: post → I pre acc Γ → ∀ k' : Option PyData → Gm → Prop, (∀ o Γ', I (pre ++ [x]) (acc ++ o.toList) Γ' → k' o Γ') → st (enc x) Γ k') (hd : ∀ acc Γ', I l acc Γ' → k acc Γ') (h0 : I [] [] Γ) : lcW st (l.map enc) [] Γ k := by
  have key : ∀ (post pre : List α) (acc : List PyData) (Γ : Gm), l = pre ++ post → I pre acc Γ → lcW st (post.map enc) acc Γ k := by
    intro post
    induction post with
    | nil =>
      intro pre acc Γ e i
      rw [List.append_nil] at e
      subst e
      exact hd acc Γ i
    | cons x r ih =>
      intro pre acc Γ e i
      exact hs pre x r acc Γ e i _ fun o Γ' i' => ih (pre ++ [x]) _ Γ' (by rw [List.append_assoc]; exact e) i'
  exact key l [] [] Γ rfl h0
/-! ### _law_rows -/
def Sp__law_rows : TSp := fun n ds Q => ∃ m most : Nat, ds = [eN m, eN most] ∧ 1 ≤ m ∧ m ≤ 5 ∧ 1 ≤ most ∧ most ≤ 200 ∧ n ≤ 500000 ∧ ∀ (rows : Rows) (n' : Nat), 1 ≤ rows.length → rows.length ≤ most → RowsOk rows m → n' ≤ n + 2000 → Q (eRows rows) n'
def w__law_rows : DS := (wSq (wSetO 4 (wLstF (wCons (wCall TupC (wCons (wLc (wRng Rng1 (wCons (wVar 2) wNil)) (stAll (gdN 6) (wBin EqD (wFnT 0 1 Sp__law_draw (wCons (wC (.int 2)) wNil)) (wC (.int 0))) [6]) [6]) wNil)) wNil)))
  (wSq (wSet 5 (wFnT 0 1 Sp__law_pick (wCons (wLst (wCons (wC (.int 2)) (wCons (wC (.int 3)) (wCons (wC (.int 5)) wNil)))) wNil)))
  (wSq (wFor (wRng Rng1 (wCons (wFnT 0 1 Sp__law_draw (wCons (wVar 3) wNil)) wNil)) (gdN 6) (wSq (wSet 7 (wBin IxD (wPk 4) (wBin SubD (wCall LenC (wCons (wPk 4) wNil)) (wC (.int 1)))))
  (wApp 4 (wCall TupC (wCons (wLc (wSeq (wVar 7)) (stAll (gdN 8) (wBin NeD (wVar 8) (wBin EqD (wFnT 0 1 Sp__law_draw (wCons (wVar 5) wNil)) (wC (.int 0)))) [8]) [8]) wNil)))))
  (wRel 4 (wRet (wVar 4))))))
theorem eqv_int (i j : Int) : PyData.eqv (.int i) (.int j) = decide (i = j) := by
  unfold PyData.eqv
  by_cases h : i = j
  · subst h; simp
  · simp [h]
theorem eqv_bool (i j : Bool) : PyData.eqv (.bool i) (.bool j) = (i == j) := by
  unfold PyData.eqv
  rfl
theorem m__law_rows (n : Nat) (ds : List PyData) (Q : PyData → Nat → Prop) (h : Sp__law_rows n ds Q) : w__law_rows (startT ["script", "town", "many", "most", "rows", "slow", "k", "here", "one"] n ds) (endT Q) := by
  obtain ⟨m, most, rfl, hm1, hm2, ho1, ho2, hn, q⟩ := h
  show w__law_rows [.scr, .twn n, .dat (eN m), .dat (eN most), .no, .no, .no, .no, .no] _
  -- rows = [tuple([.. for k in range(many)])]
  refine ⟨_, rfl, _, ⟨_, rfl, by omega, by omega, rfl⟩, ?_⟩
  rw [rngL_nat]
  refine ⟨by rw [List.length_map, List.length_range]; exact small_size (by omega), rfl, ?_⟩
  refine lc_inv _ _ (fun pre acc Γ => ∃ bs : List Bool, acc = bs.map .bool ∧ bs.length = pre.length ∧ Γ = [.scr, .twn (n + pre.length), .dat (eN m), .dat (eN most), .no, .no, .no, .no, .no]) ?_ ?_ ⟨[], rfl, rfl, rfl⟩
  · rintro pre x post acc Γ e ⟨bs, rfl, hb, rfl⟩ k' hk
    have hl : pre.length < m := by
      have := congrArg List.length e
      rw [List.length_range, List.length_append, List.length_cons] at this
      omega
    refine ⟨rfl, ⟨_, rfl⟩, _, rfl, rfl, 2, rfl, by decide, by omega, fun d h0 h1 => ?_⟩
    refine ⟨_, ⟨rfl, rfl, rfl⟩, ?_⟩
    refine hk _ _ ⟨bs ++ [decide (d = 0)], ?_, ?_, ?_⟩
    · rw [List.map_append, eqv_int]
      rfl
    · rw [List.length_append, List.length_append, hb]; rfl
    · rw [List.length_append]; rfl
  rintro acc Γ ⟨bs, rfl, hb, rfl⟩
  rw [List.length_range] at hb
  rw [List.length_range]
  refine ⟨_, ⟨_, .inl rfl, rfl⟩, by show 1 ≤ sizeLine; rw [sizeLine_eq]; decide, ?_⟩
  -- slow = pick
  refine ⟨rfl, ⟨_, rfl⟩, by show 3 ≤ sizeLine; rw [sizeLine_eq]; decide, _, rfl, rfl, _, rfl, (by intro z; cases z), by omega, fun d hd => ?_⟩
  obtain ⟨sl, rfl, hs1, hs2⟩ : ∃ sl : Nat, d = eN sl ∧ 2 ≤ sl ∧ sl ≤ 5 := by
    simp only [List.mem_cons, List.not_mem_nil, or_false] at hd
    rcases hd with rfl | rfl | rfl
    · exact ⟨2, rfl, by decide, by decide⟩
    · exact ⟨3, rfl, by decide, by decide⟩
    · exact ⟨5, rfl, by decide, by decide⟩
  -- the loop
  refine ⟨rfl, ⟨_, rfl⟩, _, rfl, _, rfl, rfl, _, rfl, by omega, by omega, fun c hc0 hc1 => ?_⟩
  obtain ⟨c, rfl⟩ : ∃ j : Nat, c = (j : Int) := ⟨c.toNat, by omega⟩
  refine ⟨_, ⟨_, rfl, by omega, by omega, rfl⟩, ?_⟩
  rw [rngL_nat]
  refine for_inv _ _ (fun pre Γ => ∃ (rows : Rows) (x y : Sl), rows.length = pre.length + 1 ∧ RowsOk rows m ∧ Γ = [.scr, .twn (n + m + 1 + 1 + pre.length * m), .dat (eN m), .dat (eN most), .own (rows.map eRow), .dat (eN sl), x, y, .no]) ?_ ?_ ?_
  · rintro pre x post Γ e ⟨rows, x6, x7, hr, hrk, rfl⟩ next hk
    have hl : pre.length < c := by
      have := congrArg List.length e
      rw [List.length_range, List.length_append, List.length_cons] at this
      omega
    have hpm : pre.length * m ≤ 200 * 5 := Nat.mul_le_mul (by omega) hm2
    -- here = rows[len(rows) - 1]
    refine ⟨_, rfl, _, rfl, _, ⟨_, _, rfl, rfl, rfl⟩, _, rfl, eRow (rows.getD pre.length []), ?_, ?_⟩
    · show atI (rows.map eRow) (((rows.map eRow).length : Int) - 1) = _
      rw [List.length_map, show ((rows.length : Nat) : Int) - 1 = ((pre.length : Nat) : Int) by omega]
      exact atI_map eRow rows _ [] (by omega)
    have hrow : (rows.getD pre.length []).length = m := len_row hrk (by omega)
    refine ⟨⟨_, rfl⟩, _, rfl, _, rfl, ?_⟩
    refine ⟨by rw [List.length_map]; exact small_size (by omega), rfl, ?_⟩
    refine lc_inv _ _ (fun pre2 acc Γ => ∃ bs : List Bool, acc = bs.map .bool ∧ bs.length = pre2.length ∧ Γ = [.scr, .twn (n + m + 1 + 1 + pre.length * m + pre2.length), .dat (eN m), .dat (eN most), .own (rows.map eRow), .dat (eN sl), .dat (eN x), .dat (eRow (rows.getD pre.length [])), .no]) ?_ ?_ ⟨[], rfl, rfl, rfl⟩
    · rintro pre2 y post2 acc Γ e2 ⟨bs, rfl, hb, rfl⟩ k' hk'
      have hl2 : pre2.length < m := by
        have := congrArg List.length e2
        rw [hrow, List.length_append, List.length_cons] at this
        omega
      refine ⟨_, rfl, rfl, ⟨_, rfl⟩, _, rfl, _, rfl, rfl, _, rfl, by omega, by omega, fun d h0 h1 => ?_⟩
      refine ⟨_, ⟨rfl, rfl, rfl⟩, _, ⟨rfl, rfl, rfl⟩, ?_⟩
      refine hk' _ _ ⟨bs ++ [!(y == decide (d = 0))], ?_, ?_, ?_⟩
      · rw [List.map_append, eqv_int, eqv_bool]
        rfl
      · rw [List.length_append, List.length_append, hb]; rfl
      · rw [List.length_append]; rfl
    · rintro acc Γ ⟨bs2, rfl, hb2, rfl⟩
      rw [hrow] at hb2
      rw [hrow]
      refine ⟨_, ⟨_, .inl rfl, rfl⟩, _, rfl, by rw [List.length_map, sizeLine_eq]; omega, ?_⟩
      refine hk _ ⟨rows ++ [bs2], .dat (eN x), .dat (eRow (rows.getD pre.length [])), ?_, ?_, ?_⟩
      · rw [List.length_append, List.length_append, hr]; rfl
      · intro r hr'
        rcases List.mem_append.mp hr' with z | z
        · exact hrk r z
        · rw [List.mem_singleton.mp z]; exact hb2
      · rw [List.map_append, List.length_append, List.length_singleton, Nat.add_mul, Nat.one_mul, ← Nat.add_assoc]
        rfl
  · rintro Γ ⟨rows, x6, x7, hr, hrk, rfl⟩
    rw [List.length_range] at hr
    rw [List.length_range]
    have hpm : c * m ≤ 200 * 5 := Nat.mul_le_mul (by omega) hm2
    exact ⟨_, rfl, _, rfl, _, rfl, q rows _ (by omega) (by omega) hrk (by omega)⟩
  · refine ⟨[bs], .no, .no, rfl, ?_, ?_⟩
    · intro r hr
      rw [List.mem_singleton.mp hr]; exact hb
    · rw [List.length_nil, Nat.zero_mul]
      rfl
/-! ### _law_sign -/
def Sp__law_sign : TSp := fun n ds Q => ∃ m : Nat, ds = [eN m] ∧ m ≤ 1000 ∧ n ≤ 900000 ∧ ∀ (s : Sign), s.length = m → Q (eSign s) (n + m)
def w__law_sign : DS := (wRet (wCall TupC (wCons (wLc (wRng Rng1 (wCons (wVar 2) wNil)) (stAll (gdN 3) (wFnT 0 1 Sp__law_pick (wCons (wLst (wCons (wC .none) (wCons (wC .none) (wCons (wC (.str "high")) (wCons (wC (.str "low")) (wCons (wC (.str "rise")) (wCons (wC (.str "fall")) wNil))))))) wNil)) [3]) [3]) wNil)))
theorem m__law_sign (n : Nat) (ds : List PyData) (Q : PyData → Nat → Prop) (h : Sp__law_sign n ds Q) : w__law_sign (startT ["script", "town", "many", "k"] n ds) (endT Q) := by
  obtain ⟨m, rfl, hm, hn, q⟩ := h
  show w__law_sign [.scr, .twn n, .dat (eN m), .no] _
  refine ⟨_, rfl, _, ⟨_, rfl, by omega, by omega, rfl⟩, ?_⟩
  rw [rngL_nat]
  refine ⟨by rw [List.length_map, List.length_range]; exact small_size (by omega), rfl, ?_⟩
  refine lc_inv _ _ (fun pre acc Γ => ∃ s : Sign, acc = s.map eW ∧ s.length = pre.length ∧ Γ = [.scr, .twn (n + pre.length), .dat (eN m), .no]) ?_ ?_ ⟨[], rfl, rfl, rfl⟩
  · rintro pre x post acc Γ e ⟨s, rfl, hb, rfl⟩ k' hk
    have hl : pre.length < m := by
      have := congrArg List.length e
      rw [List.length_range, List.length_append, List.length_cons] at this
      omega
    refine ⟨rfl, ⟨_, rfl⟩, by show 6 ≤ sizeLine; rw [sizeLine_eq]; decide, _, rfl, rfl, _, rfl, (by intro z; cases z), by omega, fun d hd => ?_⟩
    obtain ⟨w, rfl⟩ : ∃ w, d = eW w := by
      simp only [List.mem_cons, List.not_mem_nil, or_false] at hd
      rcases hd with rfl | rfl | rfl | rfl | rfl | rfl
      · exact ⟨none, rfl⟩
      · exact ⟨none, rfl⟩
      · exact ⟨some .high, rfl⟩
      · exact ⟨some .low, rfl⟩
      · exact ⟨some .rise, rfl⟩
      · exact ⟨some .fall, rfl⟩
    refine hk _ _ ⟨s ++ [w], ?_, ?_, ?_⟩
    · rw [List.map_append]; rfl
    · rw [List.length_append, List.length_append, hb]; rfl
    · rw [List.length_append]; rfl
  · rintro acc Γ ⟨s, rfl, hb, rfl⟩
    rw [List.length_range] at hb
    rw [List.length_range]
    exact ⟨_, ⟨_, .inl rfl, rfl⟩, _, rfl, q s hb⟩
end Sg

/-! Sem2: signs looked at, rows decoded, catches. -/
namespace Sg
open PySem L2 Dt
/-! ### is_sign, look_sign -/
def g_HOLDS : PyData := .tuple [.str "high", .str "low", .str "rise", .str "fall"]
def isWord (x : PyData) : Bool := match x with
  | .none => true
  | .str z => inD (.str z) [.str "high", .str "low", .str "rise", .str "fall"]
  | _ => false
def isSign (x : PyData) (n : Int) : Bool := match x with
  | .tuple l => ((l.length : Int) == n) && l.all isWord
  | _ => false
def SzT (x : PyData) : Prop := ∀ l, x = .tuple l → l.length ≤ sizeLine
def Sp_is_sign : DSp := fun ds Q _ => ∃ x n, ds = [x, .int n] ∧ SzT x ∧ Q (.bool (isSign x n))
def w_is_sign : DS := (wSq (wIfS (wtOr (wtNot (wTru (wIsi isTup (wVar 0)))) (wTst (wBin NeD (wCall LenC (wCons (wVar 0) wNil)) (wVar 1)))) (wRet (wC (.bool false))) wNx)
  (wRet (wCall AllC (wCons (wLc (wSeq (wVar 0)) (stAll (gdN 2) (wOr (wBin IsND (wVar 2) (wC .none)) (wAnd (wIsi isStr (wVar 2)) (wBin (InD false) (wVar 2) (wC g_HOLDS)))) [2]) [2]) wNil))))
theorem m_is_sign (ds : List PyData) (Q : PyData → Prop) (E : Str → Prop) (h : Sp_is_sign ds Q E) : w_is_sign (startG ["thing", "many", "one"] ds) (endO Q E) := by
  obtain ⟨x, n, rfl, hz, q⟩ := h
  show w_is_sign [.dat x, .dat (.int n), .no] _
  refine ⟨_, rfl, _, rfl, ?_⟩
  cases x with
  | tuple l =>
    refine ⟨_, rfl, _, ⟨_, _, rfl, rfl, rfl⟩, _, rfl, _, ⟨rfl, rfl, rfl⟩, _, rfl, ?_⟩
    show if (!((l.length : Int) == n)) = true then _ else _
    refine iteB (fun h1 => ?_) (fun h1 => ?_)
    · rw [Bool.not_eq_true'] at h1
      unfold isSign at q
      simp only [h1, Bool.false_and] at q
      exact q
    · rw [Bool.not_eq_false'] at h1
      refine ⟨_, rfl, _, rfl, hz l rfl, rfl, ?_⟩
      rw [show l = l.map id by rw [List.map_id]]
      refine lc_all id (fun x => .bool (isWord x)) l [] (fun x _ k hk => ?_) ?_
      · refine ⟨_, rfl, _, ⟨rfl, rfl⟩, _, rfl, ?_⟩
        cases x with
        | none => exact hk
        | str z =>
          refine ⟨_, rfl, _, rfl, _, rfl, _, ⟨rfl, rfl, rfl⟩, ?_⟩
          rw [Bool.false_xor]
          exact hk
        | _ => exact ⟨_, rfl, _, rfl, hk⟩
      · refine ⟨_, ⟨l.map isWord, ?_, rfl⟩, ?_⟩
        · rw [List.nil_append, allB]
        · rw [all_id]
          unfold isSign at q
          simp only [h1, Bool.true_and] at q
          exact q
  | _ => exact q
def Sp_look_sign : DSp := fun ds Q E => ∃ x n, ds = [x, .int n] ∧ SzT x ∧ (if isSign x n = true then Q .none else E "BadSign")
def w_look_sign : DS := (wIfS (wtNot (wTru (wFn Sp_is_sign (wCons (wVar 0) (wCons (wVar 1) wNil))))) (wRaise "BadSign") wNx)
theorem m_look_sign (ds : List PyData) (Q : PyData → Prop) (E : Str → Prop) (h : Sp_look_sign ds Q E) : w_look_sign (startG ["sign", "many"] ds) (endO Q E) := by
  obtain ⟨x, n, rfl, hz, q⟩ := h
  show w_look_sign [.dat x, .dat (.int n)] _
  refine ⟨_, rfl, _, rfl, _, _, rfl, hz, _, rfl, ?_⟩
  refine iteB (fun h1 => ?_) (fun h1 => ?_)
  · rw [Bool.not_eq_true'] at h1
    rw [if_neg (by rw [h1]; exact Bool.false_ne_true)] at q
    exact q
  · rw [Bool.not_eq_false'] at h1
    rw [if_pos h1] at q
    exact q
/-! ### rows and signs out of data -/
def boolOf : PyData → Bool
  | .bool b => b
  | _ => false
def rowOf : PyData → List Bool
  | .tuple l => l.map boolOf
  | _ => []
def rowsOf : PyData → Rows
  | .list l => l.map rowOf
  | .tuple l => l.map rowOf
  | _ => []
def wordOf : PyData → Option Hold
  | .str z => if z = "high" then some .high else if z = "low" then some .low else if z = "rise" then some .rise else if z = "fall" then some .fall else none
  | _ => none
def signOf : PyData → Sign
  | .tuple l => l.map wordOf
  | _ => []
def mOf (d : PyData) : Nat := ((rowsOf d).getD 0 []).length
theorem map_back {α : Type} (f : α → PyData) (g : PyData → α) (h : ∀ x, g (f x) = x) (l : List α) : (l.map f).map g = l := by
  rw [List.map_map]
  exact (List.map_congr_left fun x _ => h x).trans (List.map_id l)
theorem rowOf_e (r : List Bool) : rowOf (eRow r) = r := map_back _ _ (fun _ => rfl) r
theorem rowsOf_e (r : Rows) : rowsOf (eRows r) = r := map_back _ _ rowOf_e r
theorem rowsOf_is {d : PyData} {r : Rows} (h : IsRows d r) : rowsOf d = r := by
  rcases h with rfl | rfl <;> exact map_back _ _ rowOf_e r
theorem wordOf_e (w : Option Hold) : wordOf (eW w) = w := by
  cases w with
  | none => rfl
  | some h => cases h <;> decide +kernel
theorem signOf_e (s : Sign) : signOf (eSign s) = s := map_back _ _ wordOf_e s
theorem map_forth (f : PyData → Prop) : True := trivial
theorem levels_e {x : PyData} {n : Int} (h : isLevels x n = true) : x = eRow (rowOf x) ∧ ((rowOf x).length : Int) = n := by
  cases x with
  | tuple l =>
    unfold isLevels at h
    rw [Bool.and_eq_true, beq_iff_eq] at h
    obtain ⟨h1, h2⟩ := h
    have e : l = (l.map boolOf).map .bool := by
      rw [List.map_map]
      refine (List.map_id l).symm.trans (List.map_congr_left fun y hy => ?_)
      have z := List.all_eq_true.mp h2 y hy
      cases y <;> first | rfl | cases z
    exact ⟨congrArg PyData.tuple e, by show ((l.map boolOf).length : Int) = n; rw [List.length_map]; exact h1⟩
  | _ => cases h
theorem e_levels {r : List Bool} {n : Int} (h : (r.length : Int) = n) : isLevels (eRow r) n = true := by
  show (((r.map PyData.bool).length : Int) == n && (r.map PyData.bool).all isBool) = true
  rw [List.length_map, h]
  simp only [beq_self_eq_true, Bool.true_and, List.all_eq_true, List.mem_map]
  rintro x ⟨b, _, rfl⟩
  rfl
structure RowsV (rows : Rows) (m : Nat) : Prop where
  n1 : 1 ≤ rows.length
  n2 : rows.length ≤ 200
  m1 : 1 ≤ m
  m2 : m ≤ 5
  ok : RowsOk rows m
theorem RowsV.mOf {rows : Rows} {m : Nat} (h : RowsV rows m) : Sg.mOf (eRows rows) = m := by
  unfold Sg.mOf
  rw [rowsOf_e]
  exact len_row h.ok (Nat.lt_of_lt_of_le Nat.zero_lt_one h.n1)
theorem RowsV.valid {rows : Rows} {m : Nat} (h : RowsV rows m) : validRows (eRows rows) = true := by
  obtain ⟨n1, n2, m1, m2, ok⟩ := h
  cases rows with
  | nil => exact absurd n1 (by decide)
  | cons r rs =>
    have hr : r.length = m := ok r List.mem_cons_self
    have hall : ((r :: rs).map eRow).all (fun x => isLevels x ((r.map PyData.bool).length : Int)) = true := by
      rw [List.all_eq_true]
      intro x hx
      obtain ⟨y, hy, rfl⟩ := List.mem_map.mp hx
      exact e_levels (by rw [List.length_map, hr, ok y hy])
    have hlen : (((r :: rs).map eRow).length : Int) = ((r :: rs).length : Int) := by rw [List.length_map]
    show (decide (1 ≤ (((r :: rs).map eRow).length : Int)) && decide ((((r :: rs).map eRow).length : Int) ≤ 200) && (decide (1 ≤ ((r.map PyData.bool).length : Int)) && decide (((r.map PyData.bool).length : Int) ≤ 5) && ((r :: rs).map eRow).all fun x => isLevels x ((r.map PyData.bool).length : Int))) = true
    rw [hall, hlen, List.length_map, hr, decide_eq_true (by omega), decide_eq_true (by omega), decide_eq_true (by omega), decide_eq_true (by omega)]
    rfl
theorem valid_e {d : PyData} (h : validRows d = true) : d = eRows (rowsOf d) ∧ RowsV (rowsOf d) (mOf d) := by
  cases d with
  | list rs =>
    unfold validRows at h
    simp only [Bool.and_eq_true, decide_eq_true_eq] at h
    obtain ⟨⟨h1, h2⟩, h3⟩ := h
    cases rs with
    | nil => cases h3
    | cons r0 rs =>
      cases r0 with
      | tuple l =>
        simp only [Bool.and_eq_true, decide_eq_true_eq, List.all_eq_true] at h3
        obtain ⟨⟨h4, h5⟩, h6⟩ := h3
        have e : (PyData.tuple l :: rs) = ((PyData.tuple l :: rs).map rowOf).map eRow := by
          rw [List.map_map]
          exact (List.map_id _).symm.trans (List.map_congr_left fun y hy => (levels_e (h6 y hy)).1)
        have hm : mOf (.list (.tuple l :: rs)) = l.length := by
          show (l.map boolOf).length = l.length
          rw [List.length_map]
        refine ⟨congrArg PyData.list e, ?_⟩
        rw [hm]
        refine ⟨by show 1 ≤ ((PyData.tuple l :: rs).map rowOf).length; rw [List.length_map]; omega, by show ((PyData.tuple l :: rs).map rowOf).length ≤ 200; rw [List.length_map]; omega, by omega, by omega, fun r hr => ?_⟩
        obtain ⟨y, hy, rfl⟩ := List.mem_map.mp (show r ∈ (PyData.tuple l :: rs).map rowOf from hr)
        have := (levels_e (h6 y hy)).2
        omega
      | _ => cases h3
  | _ => cases h
theorem word_e {x : PyData} (h : isWord x = true) : x = eW (wordOf x) := by
  cases x with
  | none => rfl
  | str z =>
    have h : inD (.str z) [.str "high", .str "low", .str "rise", .str "fall"] = true := h
    have q : ∀ a : Str, PyData.eqv (.str a) (.str z) = true → z = a := fun a e => by
      unfold PyData.eqv at e
      exact (beq_iff_eq.mp e).symm
    unfold inD at h
    simp only [List.any_cons, List.any_nil, Bool.or_eq_true, Bool.or_false] at h
    rcases h with h | h | h | h
    · have e := q _ h; subst e; exact congrArg eW (show some Hold.high = _ by decide +kernel)
    · have e := q _ h; subst e; exact congrArg eW (show some Hold.low = _ by decide +kernel)
    · have e := q _ h; subst e; exact congrArg eW (show some Hold.rise = _ by decide +kernel)
    · have e := q _ h; subst e; exact congrArg eW (show some Hold.fall = _ by decide +kernel)
  | _ => cases h
theorem sign_e {x : PyData} {n : Int} (h : isSign x n = true) : x = eSign (signOf x) ∧ ((signOf x).length : Int) = n := by
  cases x with
  | tuple l =>
    unfold isSign at h
    rw [Bool.and_eq_true, beq_iff_eq] at h
    obtain ⟨h1, h2⟩ := h
    have e : l = (l.map wordOf).map eW := by
      rw [List.map_map]
      exact (List.map_id l).symm.trans (List.map_congr_left fun y hy => word_e (List.all_eq_true.mp h2 y hy))
    exact ⟨congrArg PyData.tuple e, by show ((l.map wordOf).length : Int) = n; rw [List.length_map]; exact h1⟩
  | _ => cases h
theorem isWord_e (w : Option Hold) : isWord (eW w) = true := by
  cases w with
  | none => rfl
  | some h => cases h <;> decide +kernel
theorem e_sign {s : Sign} {n : Int} (h : (s.length : Int) = n) : isSign (eSign s) n = true := by
  show (((s.map eW).length : Int) == n && (s.map eW).all isWord) = true
  rw [List.length_map, h]
  simp only [beq_self_eq_true, Bool.true_and, List.all_eq_true, List.mem_map]
  rintro x ⟨b, _, rfl⟩
  exact isWord_e b
theorem sz_rows {rows : Rows} {m : Nat} (h : RowsV rows m) : SzR (eRows rows) := fun rs e l hl => by
  have e' : rs = rows.map eRow := (PyData.list.inj e).symm
  subst e'
  obtain ⟨r, hr, er⟩ := List.mem_map.mp hl
  have : l = r.map .bool := (PyData.tuple.inj er).symm
  rw [this, List.length_map, h.ok r hr]
  exact small_size (by have := h.m2; omega)
theorem sz_sign {s : Sign} (h : s.length ≤ 1000) : SzT (eSign s) := fun l e => by
  have : l = s.map eW := (PyData.tuple.inj e).symm
  rw [this, List.length_map]
  exact small_size (by omega)
/-! ### catches -/
/-- what is looked at first: rows, then what behind them -/
def onRows (d : PyData) (E : Str → Prop) (k : Rows → Nat → Prop) : Prop := SzR d ∧ (if validRows d = true then k (rowsOf d) (mOf d) else E "BadRows")
def onSign (x : PyData) (m : Nat) (E : Str → Prop) (k : Sign → Prop) : Prop := SzT x ∧ (if isSign x (m : Int) = true then k (signOf x) else E "BadSign")
theorem onRows_v {rows : Rows} {m : Nat} {E : Str → Prop} {k : Rows → Nat → Prop} (h : RowsV rows m) (hk : k rows m) : onRows (eRows rows) E k := ⟨sz_rows h, by rw [if_pos h.valid, rowsOf_e, h.mOf]; exact hk⟩
theorem onSign_v {s : Sign} {m : Nat} {E : Str → Prop} {k : Sign → Prop} (h : s.length = m) (hm : m ≤ 5) (hk : k s) : onSign (eSign s) m E k := ⟨sz_sign (by omega), by rw [if_pos (e_sign (by omega)), signOf_e]; exact hk⟩
theorem ite_rows {d : PyData} {E : Str → Prop} {k : Rows → Nat → Prop} {A B : Prop} (h : onRows d E k) (hB : E "BadRows" → B) (hA : ∀ rows m, d = eRows rows → RowsV rows m → k rows m → A) : if validRows d = true then A else B := by
  have h2 := h.2
  by_cases v : validRows d = true
  · rw [if_pos v] at h2 ⊢
    exact hA _ _ (valid_e v).1 (valid_e v).2 h2
  · rw [if_neg v] at h2 ⊢
    exact hB h2
theorem ite_sign {x : PyData} {m : Nat} {E : Str → Prop} {k : Sign → Prop} {A B : Prop} (h : onSign x m E k) (hB : E "BadSign" → B) (hA : ∀ s, x = eSign s → s.length = m → k s → A) : if isSign x (m : Int) = true then A else B := by
  have h2 := h.2
  by_cases v : isSign x (m : Int) = true
  · rw [if_pos v] at h2 ⊢
    exact hA _ (sign_e v).1 (by have := (sign_e v).2; omega) h2
  · rw [if_neg v] at h2 ⊢
    exact hB h2
theorem row0 {rows : Rows} {m : Nat} (h : RowsV rows m) : IxD (eRows rows) (.int 0) (eRow (rows.getD 0 [])) := ix_rows (t := 0) (.inl rfl) (Nat.lt_of_lt_of_le Nat.zero_lt_one h.n1)
theorem len0 {rows : Rows} {m : Nat} (h : RowsV rows m) : LenC [eRow (rows.getD 0 [])] (.int (m : Int)) := ⟨_, _, rfl, by show m = ((rows.getD 0 []).map PyData.bool).length; rw [List.length_map]; exact (len_row h.ok (Nat.lt_of_lt_of_le Nat.zero_lt_one h.n1)).symm, rfl⟩
def Sp_catches : DSp := fun ds Q E => ∃ d x, ds = [d, x] ∧ onRows d E fun rows m => onSign x m E fun s => Q (eTs (ticksM rows s))
def w_catches : DS := (wSq (wEx (wFn Sp_look_rows (wCons (wVar 0) wNil)))
  (wSq (wEx (wFn Sp_look_sign (wCons (wVar 1) (wCons (wCall LenC (wCons (wBin IxD (wVar 0) (wC (.int 0))) wNil)) wNil))))
  (wRet (wFn Sp_ticks_of (wCons (wVar 0) (wCons (wVar 1) wNil))))))
theorem m_catches (ds : List PyData) (Q : PyData → Prop) (E : Str → Prop) (h : Sp_catches ds Q E) : w_catches (startG ["rows", "sign"] ds) (endO Q E) := by
  obtain ⟨d, x, rfl, h⟩ := h
  show w_catches [.dat d, .dat x] _
  refine ⟨_, rfl, d, rfl, h.1, ite_rows h (fun z => z) fun rows m e v h2 => ?_⟩
  subst e
  refine ⟨_, rfl, _, rfl, _, row0 v, _, len0 v, x, _, rfl, h2.1, ite_sign h2 (fun z => z) fun s e hs h3 => ?_⟩
  subst e
  exact ⟨_, rfl, _, rfl, _, rows, s, m, rfl, .inl rfl, v.ok, by have := v.n2; omega, by omega, by have := v.m2; omega, h3⟩
end Sg

/-! Math61: the longest row of ticks, by one pass and by all starts. -/
namespace Sg
def better (b r : List Nat) : List Nat := if b.length < r.length then r else b
def stepH (g : Int) (here : List Nat) (t : Nat) : List Nat := match here.getLast? with
  | some l => if (t : Int) - (l : Int) ≤ g then here ++ [t] else [t]
  | none => [t]
def longL (g : Int) : List Nat → List Nat → List Nat → List Nat
  | best, _, [] => best
  | best, here, t :: r => longL g (better best (stepH g here t)) (stepH g here t) r
def longM (g : Int) (ts : List Nat) : List Nat := longL g [] [] ts
def runFrom (g : Int) : Nat → List Nat → List Nat
  | _, [] => []
  | l, t :: r => if (t : Int) - (l : Int) ≤ g then t :: runFrom g t r else []
def brute (g : Int) : List Nat → List Nat → List Nat
  | b, [] => b
  | b, t :: r => brute g (better b (t :: runFrom g t r)) r
theorem better_len (b r : List Nat) : (better b r).length = max b.length r.length := by
  unfold better
  split <;> omega
theorem better_ge {b r : List Nat} (h : r.length ≤ b.length) : better b r = b := if_neg (Nat.not_lt.mpr h)
/-- a longer one behind one that it begins with -/
theorem better_two (b h x : List Nat) : better (better b h) (h ++ x) = better b (h ++ x) := by
  have e := better_len b h
  unfold better at e ⊢
  rw [List.length_append]
  by_cases h1 : b.length < h.length
  · rw [if_pos h1] at e ⊢
    rw [if_pos (by omega : b.length < h.length + x.length)]
    cases x with
    | nil => rw [List.append_nil]; split <;> rfl
    | cons y z => rw [if_pos (by rw [List.length_cons]; omega)]
  · rw [if_neg h1]
theorem longL_brute (g : Int) : ∀ (ts best x : List Nat) (l : Nat), (x ++ [l]).length ≤ best.length → longL g best (x ++ [l]) ts = brute g (better best ((x ++ [l]) ++ runFrom g l ts)) ts
  | [], best, x, l, h => by
    show best = better best ((x ++ [l]) ++ [])
    rw [List.append_nil, better_ge h]
  | t :: r, best, x, l, h => by
    have hs : stepH g (x ++ [l]) t = if (t : Int) - (l : Int) ≤ g then (x ++ [l]) ++ [t] else [t] := by
      unfold stepH
      rw [List.getLast?_concat]
    show longL g (better best (stepH g (x ++ [l]) t)) (stepH g (x ++ [l]) t) r = brute g (better (better best ((x ++ [l]) ++ runFrom g l (t :: r))) (t :: runFrom g t r)) r
    by_cases c : (t : Int) - (l : Int) ≤ g
    · have hr : runFrom g l (t :: r) = t :: runFrom g t r := if_pos c
      rw [hs, if_pos c, hr]
      rw [longL_brute g r _ (x ++ [l]) t (by rw [better_len]; omega), better_two]
      rw [show (x ++ [l]) ++ [t] ++ runFrom g t r = (x ++ [l]) ++ (t :: runFrom g t r) by rw [List.append_assoc]; rfl]
      rw [better_ge (b := better best ((x ++ [l]) ++ (t :: runFrom g t r))) (r := t :: runFrom g t r)]
      rw [better_len, List.length_append]
      omega
    · have hr : runFrom g l (t :: r) = [] := if_neg c
      rw [hs, if_neg c, hr, List.append_nil, better_ge h]
      have := longL_brute g r (better best [t]) [] t (by rw [better_len]; exact Nat.le_max_right _ _)
      rw [List.nil_append] at this
      rw [this, better_two]
      rfl
theorem long_brute (g : Int) (ts : List Nat) : longM g ts = brute g [] ts := by
  cases ts with
  | nil => rfl
  | cons t r =>
    have := longL_brute g r (better [] [t]) [] t (by rw [better_len]; exact Nat.le_max_right _ _)
    rw [List.nil_append] at this
    show longL g (better [] [t]) [t] r = brute g (better [] (t :: runFrom g t r)) r
    rw [this, better_two]
    rfl
theorem runFrom_mono {g g' : Int} (h : g ≤ g') : ∀ (ts : List Nat) (l : Nat), (runFrom g l ts).length ≤ (runFrom g' l ts).length
  | [], _ => Nat.le_refl _
  | t :: r, l => by
    unfold runFrom
    by_cases c : (t : Int) - (l : Int) ≤ g
    · rw [if_pos c, if_pos (by omega)]
      exact Nat.succ_le_succ (runFrom_mono h r t)
    · rw [if_neg c]
      exact Nat.zero_le _
theorem brute_mono {g g' : Int} (h : g ≤ g') : ∀ (ts b b' : List Nat), b.length ≤ b'.length → (brute g b ts).length ≤ (brute g' b' ts).length
  | [], _, _, hb => hb
  | t :: r, b, b', hb => brute_mono h r _ _ (by
      rw [better_len, better_len]
      have := runFrom_mono h r t
      simp only [List.length_cons]
      omega)
theorem long_mono {g g' : Int} (h : g ≤ g') (ts : List Nat) : (longM g ts).length ≤ (longM g' ts).length := by
  rw [long_brute, long_brute]
  exact brute_mono h ts _ _ (Nat.le_refl _)
theorem brute_keep (g : Int) : ∀ (ts b : List Nat), ts.length ≤ b.length → brute g b ts = b
  | [], _, _ => rfl
  | t :: r, b, h => by
    have hr : ∀ (ts : List Nat) (l : Nat), (runFrom g l ts).length ≤ ts.length := fun ts => by
      induction ts with
      | nil => intro l; exact Nat.le_refl _
      | cons y z ih =>
        intro l
        unfold runFrom
        split
        · exact Nat.succ_le_succ (ih y)
        · exact Nat.zero_le _
    have h1 := hr r t
    rw [List.length_cons] at h
    show brute g (better b (t :: runFrom g t r)) r = b
    rw [better_ge (by rw [List.length_cons]; omega)]
    exact brute_keep g r b (by omega)
/-- ticks none of which is too far behind the one ahead -/
def Near (g : Int) : List Nat → Prop
  | [] => True
  | [_] => True
  | a :: b :: r => (b : Int) - (a : Int) ≤ g ∧ Near g (b :: r)
theorem runFrom_near (g : Int) : ∀ (r : List Nat) (l : Nat), Near g (l :: r) → runFrom g l r = r
  | [], _, _ => rfl
  | t :: r, l, h => by
    unfold runFrom
    rw [if_pos h.1, runFrom_near g r t h.2]
theorem long_near {g : Int} {ts : List Nat} (h : Near g ts) : longM g ts = ts := by
  rw [long_brute]
  cases ts with
  | nil => rfl
  | cons t r =>
    show brute g (better [] (t :: runFrom g t r)) r = t :: r
    rw [runFrom_near g r t h]
    show brute g (t :: r) r = t :: r
    exact brute_keep g r _ (by rw [List.length_cons]; omega)
/-- numbers below n are never further apart than n -/
theorem near_below {n : Nat} {g : Int} (hg : (n : Int) ≤ g) : ∀ ts : List Nat, (∀ t ∈ ts, t < n) → Near g ts
  | [], _ => trivial
  | [_], _ => trivial
  | a :: b :: r, h => ⟨by have := h b (by simp); omega, near_below hg (b :: r) fun t ht => h t (List.mem_cons_of_mem _ ht)⟩
theorem near_range (n : Nat) : ∀ k, Near 1 (List.range' k n) := by
  induction n with
  | zero => intro k; trivial
  | succ n ih =>
    intro k
    cases n with
    | zero => trivial
    | succ n => exact ⟨by show ((k + 1 : Nat) : Int) - (k : Int) ≤ 1; omega, ih (k + 1)⟩
end Sg

/-! Sem61: longest. -/
namespace Sg
open PySem L2 Dt
def intOf : PyData → Int
  | .int i => i
  | _ => 0
def onNum (x : PyData) (lo hi : Int) (E : Str → Prop) (k : Int → Prop) : Prop := if isWhole x lo hi = true then k (intOf x) else E "BadNumber"
theorem whole_e {x : PyData} {lo hi : Int} (h : isWhole x lo hi = true) : ∃ i, x = .int i ∧ intOf x = i ∧ lo ≤ i ∧ i ≤ hi := by
  cases x with
  | int i =>
    unfold isWhole at h
    simp only [Bool.and_eq_true, decide_eq_true_eq] at h
    exact ⟨i, rfl, rfl, h.1, h.2⟩
  | _ => cases h
theorem e_whole {i lo hi : Int} (h1 : lo ≤ i) (h2 : i ≤ hi) : isWhole (.int i) lo hi = true := by
  show (decide (lo ≤ i) && decide (i ≤ hi)) = true
  rw [decide_eq_true h1, decide_eq_true h2]
  rfl
theorem onNum_v {i lo hi : Int} {E : Str → Prop} {k : Int → Prop} (h1 : lo ≤ i) (h2 : i ≤ hi) (hk : k i) : onNum (.int i) lo hi E k := by
  unfold onNum
  rw [if_pos (e_whole h1 h2)]
  exact hk
theorem ite_num {x : PyData} {lo hi : Int} {E : Str → Prop} {k : Int → Prop} {A B : Prop} (h : onNum x lo hi E k) (hB : E "BadNumber" → B) (hA : ∀ i, x = .int i → lo ≤ i → i ≤ hi → k i → A) : if (!isWhole x lo hi) = true then B else A := by
  unfold onNum at h
  by_cases v : isWhole x lo hi = true
  · rw [if_pos v] at h
    obtain ⟨i, e, e2, h1, h2⟩ := whole_e v
    rw [v]
    exact hA i e h1 h2 (e2 ▸ h)
  · rw [if_neg v] at h
    rw [Bool.not_eq_true] at v
    rw [v]
    exact hB h
/-- as seen by a test that is the value's truth -/
theorem longL_snoc (g : Int) : ∀ (ts best here : List Nat), True := fun _ _ _ => trivial
def Sp_longest : DSp := fun ds Q E => ∃ d x y, ds = [d, x, y] ∧ onRows d E fun rows m => onSign x m E fun s => onNum y 1 200 E fun g => Q (eTs (longM g (ticksM rows s)))
def w_longest : DS := (wSq (wEx (wFn Sp_look_rows (wCons (wVar 0) wNil)))
  (wSq (wEx (wFn Sp_look_sign (wCons (wVar 1) (wCons (wCall LenC (wCons (wBin IxD (wVar 0) (wC (.int 0))) wNil)) wNil))))
  (wSq (wIfS (wtNot (wTru (wFn Sp_is_whole (wCons (wVar 2) (wCons (wC (.int 1)) (wCons (wC (.int 200)) wNil)))))) (wRaise "BadNumber") wNx)
  (wSq (wSet 3 (wLst wNil))
  (wSq (wSet 4 (wLst wNil))
  (wSq (wFor (wSeq (wFn Sp_ticks_of (wCons (wVar 0) (wCons (wVar 1) wNil)))) (gdN 5) (wSq (wSet 4 (wIf (wtAnd (wTru (wVar 4)) (wTst (wBin LeD (wBin SubD (wVar 5) (wBin IxD (wVar 4) (wUn NegD (wC (.int 1))))) (wVar 2)))) (wBin AddD (wVar 4) (wLst (wCons (wVar 5) wNil))) (wLst (wCons (wVar 5) wNil))))
  (wSet 3 (wIf (wTst (wBin GtD (wCall LenC (wCons (wVar 4) wNil)) (wCall LenC (wCons (wVar 3) wNil)))) (wVar 4) (wVar 3)))))
  (wRet (wVar 3))))))))
theorem ticks_len (rows : Rows) (s : Sign) : (ticksM rows s).length ≤ rows.length := by
  unfold ticksM
  exact Nat.le_trans (List.length_filter_le _ _) (by rw [List.length_range]; exact Nat.le_refl _)
theorem eTs_add (l : List Nat) (t : Nat) (h : l.length ≤ 1000) : AddD (eTs l) (.list [eN t]) (eTs (l ++ [t])) := by
  refine ⟨?_, ?_⟩
  · show PyData.list _ = PyData.list _
    rw [List.map_append]
    rfl
  · show (l.map eN).length + 1 ≤ sizeLine
    rw [List.length_map]
    exact small_size (by omega)
theorem m_longest (ds : List PyData) (Q : PyData → Prop) (E : Str → Prop) (h : Sp_longest ds Q E) : w_longest (startG ["rows", "sign", "gap", "best", "here", "tick"] ds) (endO Q E) := by
  obtain ⟨d, x, y, rfl, h⟩ := h
  show w_longest [.dat d, .dat x, .dat y, .no, .no, .no] _
  refine ⟨_, rfl, d, rfl, h.1, ite_rows h (fun z => z) fun rows m e v h2 => ?_⟩
  subst e
  refine ⟨_, rfl, _, rfl, _, row0 v, _, len0 v, x, _, rfl, h2.1, ite_sign h2 (fun z => z) fun s e hs h3 => ?_⟩
  subst e
  refine ⟨_, rfl, _, _, _, rfl, _, rfl, ite_num h3 (fun z => z) fun g e g1 g2 h4 => ?_⟩
  subst e
  refine ⟨Nat.zero_le _, Nat.zero_le _, ?_⟩
  refine ⟨_, rfl, _, rfl, _, rows, s, m, rfl, .inl rfl, v.ok, by have := v.n2; omega, by omega, by have := v.m2; omega, _, rfl, ?_⟩
  have hlt := ticks_len rows s
  have hn2 := v.n2
  refine for_inv eN (ticksM rows s) (fun pre Γ => ∃ (best here : List Nat) (z : Sl), best.length ≤ pre.length ∧ here.length ≤ pre.length ∧ (∀ post, longL g best here post = longL g [] [] (pre ++ post)) ∧ Γ = [.dat (eRows rows), .dat (eSign s), .dat (.int g), .dat (eTs best), .dat (eTs here), z]) ?_ ?_ ⟨[], [], .no, Nat.le_refl _, Nat.le_refl _, fun _ => rfl, rfl⟩
  · rintro pre t post Γ e ⟨best, here, z, hb, hh, hL, rfl⟩ next hk
    have hpre : pre.length < 200 := by
      have := congrArg List.length e
      rw [List.length_append, List.length_cons] at this
      omega
    -- what is done behind the new here
    have fin : ∀ h1 : List Nat, h1 = stepH g here t → h1.length ≤ pre.length + 1 → wSet 3 (wIf (wTst (wBin GtD (wCall LenC (wCons (wVar 4) wNil)) (wCall LenC (wCons (wVar 3) wNil)))) (wVar 4) (wVar 3)) [.dat (eRows rows), .dat (eSign s), .dat (.int g), .dat (eTs best), .dat (eTs h1), .dat (eN t)] (forK next (onNx (wRet (wVar 3)) (endO Q E))) := fun h1 e1 hl1 => by
      refine ⟨_, rfl, _, ⟨_, _, rfl, rfl, rfl⟩, _, rfl, _, ⟨_, _, rfl, rfl, rfl⟩, _, rfl, _, rfl, ?_⟩
      have go : ∀ b, b = better best (stepH g here t) → next [.dat (eRows rows), .dat (eSign s), .dat (.int g), .dat (eTs b), .dat (eTs h1), .dat (eN t)] (onNx (wRet (wVar 3)) (endO Q E)) := fun b eb => by
        refine hk _ ⟨b, h1, _, ?_, by rw [List.length_append]; exact hl1, fun post => ?_, rfl⟩
        · rw [eb, better_len, List.length_append, ← e1]
          show max _ _ ≤ pre.length + 1
          omega
        · have := hL (t :: post)
          rw [List.append_assoc]
          show _ = longL g [] [] (pre ++ t :: post)
          rw [← this, eb, e1]
          rfl
      refine iteB (fun c => ?_) (fun c => ?_)
      · have c : (((best.map eN).length : Nat) : Int) < ((h1.map eN).length : Nat) := of_decide_eq_true c
        rw [List.length_map, List.length_map] at c
        exact ⟨_, rfl, go h1 (by unfold better; rw [← e1, if_pos (by omega)])⟩
      · have c : ¬ (((best.map eN).length : Nat) : Int) < ((h1.map eN).length : Nat) := of_decide_eq_false c
        rw [List.length_map, List.length_map] at c
        exact ⟨_, rfl, go best (by unfold better; rw [← e1, if_neg (by omega)])⟩
    refine ⟨_, rfl, _, rfl, ?_⟩
    rcases List.eq_nil_or_concat here with rfl | ⟨x, l, rfl⟩
    · exact ⟨_, rfl, by show 1 ≤ sizeLine; rw [sizeLine_eq]; decide, fin [t] rfl (by show 1 ≤ _; omega)⟩
    · have ne : (!((x ++ [l]).map eN).isEmpty) = true := by simp
      have hs : stepH g (x ++ [l]) t = if (t : Int) - (l : Int) ≤ g then (x ++ [l]) ++ [t] else [t] := by
        unfold stepH
        rw [List.getLast?_concat]
      show if (!((x.concat l).map eN).isEmpty) = true then _ else _
      rw [List.concat_eq_append] at hh hL fin ⊢
      rw [if_pos ne]
      refine ⟨_, rfl, _, rfl, _, rfl, _, atI_lastM eN x l, _, rfl, _, rfl, _, rfl, _, rfl, ?_⟩
      refine iteB (fun c => ?_) (fun c => ?_)
      · have c : (t : Int) - (l : Int) ≤ g := of_decide_eq_true c
        refine ⟨_, rfl, _, rfl, by show 1 ≤ sizeLine; rw [sizeLine_eq]; decide, _, eTs_add _ _ (by omega), ?_⟩
        exact fin _ (by rw [hs, if_pos c]) (by rw [List.length_append]; show (x ++ [l]).length + 1 ≤ _; omega)
      · have c : ¬ (t : Int) - (l : Int) ≤ g := of_decide_eq_false c
        exact ⟨_, rfl, by show 1 ≤ sizeLine; rw [sizeLine_eq]; decide, fin [t] (by rw [hs, if_neg c]) (by show 1 ≤ _; omega)⟩
  · rintro Γ ⟨best, here, z, hb, hh, hL, rfl⟩
    have := hL []
    rw [List.append_nil] at this
    refine ⟨_, rfl, ?_⟩
    have e : best = longM g (ticksM rows s) := this
    rw [e]
    exact h4
end Sg

/-! SemT: tools: shape of data, equality of data, steps. -/
namespace Sg
open PySem L2 Dt
/-! ### shape -/
def Sh (k : Nat) (d : PyData) : Prop := PyData.canLay0 d = true ∧ PyData.depth d ≤ k
theorem Sh.up {k j : Nat} {d : PyData} (h : Sh k d) (hk : k ≤ j) : Sh j d := ⟨h.1, Nat.le_trans h.2 hk⟩
theorem Sh.ok {k : Nat} {d : PyData} (h : Sh k d) (hk : k ≤ 64 := by decide) : SeqAt.shaped d = true := by
  unfold SeqAt.shaped
  rw [h.1, decide_eq_true (Nat.le_trans h.2 hk)]
  rfl
theorem sh_all {k : Nat} : ∀ (l : List PyData), (∀ x ∈ l, Sh k x) → PyData.canLayAll0 l = true ∧ PyData.depthAll l ≤ k
  | [], _ => ⟨rfl, Nat.zero_le _⟩
  | x :: r, h => by
    obtain ⟨a, b⟩ := sh_all r fun y hy => h y (List.mem_cons_of_mem _ hy)
    obtain ⟨c, d⟩ := h x List.mem_cons_self
    refine ⟨?_, ?_⟩
    · show (PyData.canLay0 x && PyData.canLayAll0 r) = true
      rw [a, c]; rfl
    · show max (PyData.depth x) (PyData.depthAll r) ≤ k
      omega
theorem Sh.list {k : Nat} {l : List PyData} (h : ∀ x ∈ l, Sh k x) : Sh (k + 1) (.list l) := by
  obtain ⟨a, b⟩ := sh_all l h
  exact ⟨by unfold PyData.canLay0; exact a, by unfold PyData.depth; omega⟩
theorem Sh.tup {k : Nat} {l : List PyData} (h : ∀ x ∈ l, Sh k x) : Sh (k + 1) (.tuple l) := by
  obtain ⟨a, b⟩ := sh_all l h
  exact ⟨by unfold PyData.canLay0; exact a, by unfold PyData.depth; omega⟩
theorem Sh.int (i : Int) : Sh 0 (.int i) := ⟨rfl, Nat.le_refl _⟩
theorem Sh.bool (b : Bool) : Sh 0 (.bool b) := ⟨rfl, Nat.le_refl _⟩
theorem Sh.none : Sh 0 .none := ⟨rfl, Nat.le_refl _⟩
theorem sh_map {α : Type} {k : Nat} {e : α → PyData} (h : ∀ x, Sh k (e x)) (l : List α) : ∀ x ∈ l.map e, Sh k x := fun x hx => by
  obtain ⟨y, _, rfl⟩ := List.mem_map.mp hx
  exact h y
theorem sh_h (h : Hold) : Sh 0 (eH h) := by cases h <;> exact ⟨by decide +kernel, by decide +kernel⟩
theorem sh_w (w : Option Hold) : Sh 0 (eW w) := by
  cases w with
  | none => exact .none
  | some h => exact sh_h h
theorem sh_n (n : Nat) : Sh 0 (eN n) := .int _
theorem sh_sign (s : Sign) : Sh 1 (eSign s) := .tup (sh_map sh_w s)
theorem sh_row (r : List Bool) : Sh 1 (eRow r) := .tup (sh_map .bool r)
theorem sh_rows (r : Rows) : Sh 2 (eRows r) := .list (sh_map sh_row r)
theorem sh_ts (l : List Nat) : Sh 1 (eTs l) := .list (sh_map sh_n l)
theorem sh_nil : Sh 1 (.list []) := .list (fun _ h => by cases h)
theorem sh_tnil : Sh 1 (.tuple []) := .tup (fun _ h => by cases h)
/-! ### equality of data -/
theorem eqv_str (a b : Str) : PyData.eqv (.str a) (.str b) = decide (a = b) := by
  unfold PyData.eqv
  by_cases h : a = b
  · subst h; simp
  · simp [h]
theorem eqvAll_map {α : Type} [DecidableEq α] {e : α → PyData} (h : ∀ x y, PyData.eqv (e x) (e y) = decide (x = y)) : ∀ a b : List α, PyData.eqvAll (a.map e) (b.map e) = decide (a = b)
  | [], [] => rfl
  | [], _ :: _ => rfl
  | _ :: _, [] => rfl
  | x :: a, y :: b => by
    show (PyData.eqv (e x) (e y) && PyData.eqvAll (a.map e) (b.map e)) = _
    rw [eqvAll_map h a b, h]
    by_cases c : x = y
    · subst c; simp
    · simp [c]
theorem eqv_list {α : Type} [DecidableEq α] {e : α → PyData} (h : ∀ x y, PyData.eqv (e x) (e y) = decide (x = y)) (a b : List α) : PyData.eqv (.list (a.map e)) (.list (b.map e)) = decide (a = b) := by
  unfold PyData.eqv
  exact eqvAll_map h a b
theorem eqv_tup {α : Type} [DecidableEq α] {e : α → PyData} (h : ∀ x y, PyData.eqv (e x) (e y) = decide (x = y)) (a b : List α) : PyData.eqv (.tuple (a.map e)) (.tuple (b.map e)) = decide (a = b) := by
  unfold PyData.eqv
  exact eqvAll_map h a b
theorem eqv_n (a b : Nat) : PyData.eqv (eN a) (eN b) = decide (a = b) := by
  unfold eN
  rw [eqv_int]
  by_cases h : a = b
  · subst h; simp
  · rw [decide_eq_false h, decide_eq_false (by omega)]
theorem eqv_h (a b : Hold) : PyData.eqv (eH a) (eH b) = decide (a = b) := by cases a <;> cases b <;> decide +kernel
theorem eqv_w (a b : Option Hold) : PyData.eqv (eW a) (eW b) = decide (a = b) := by
  cases a with
  | none => cases b <;> rfl
  | some a => cases b with
    | none => rfl
    | some b =>
      refine (eqv_h a b).trans ?_
      by_cases h : a = b
      · subst h; simp
      · simp [h]
theorem eqv_b (a b : Bool) : PyData.eqv (.bool a) (.bool b) = decide (a = b) := by
  rw [eqv_bool]
  cases a <;> cases b <;> rfl
theorem eqv_sign (a b : Sign) : PyData.eqv (eSign a) (eSign b) = decide (a = b) := eqv_tup eqv_w a b
theorem eqv_row (a b : List Bool) : PyData.eqv (eRow a) (eRow b) = decide (a = b) := eqv_tup eqv_b a b
theorem eqv_rows (a b : Rows) : PyData.eqv (eRows a) (eRows b) = decide (a = b) := eqv_list eqv_row a b
theorem eqv_tsN (a b : List Nat) : PyData.eqv (eTs a) (eTs b) = decide (a = b) := eqv_list eqv_n a b
theorem inD_map {α : Type} [DecidableEq α] {e : α → PyData} (h : ∀ x y, PyData.eqv (e x) (e y) = decide (x = y)) (x : α) (l : List α) : inD (e x) (l.map e) = decide (x ∈ l) := by
  induction l with
  | nil => rfl
  | cons y r ih =>
    show (PyData.eqv (e y) (e x) || inD (e x) (r.map e)) = _
    rw [ih, h]
    by_cases q : y = x
    · subst q; simp
    · have : ¬ x = y := fun z => q z.symm
      simp [q, this]
theorem inD_mapD {α : Type} [DecidableEq α] {e : α → PyData} (h : ∀ x y, PyData.eqv (e x) (e y) = decide (x = y)) (x : α) (l : List α) [Decidable (x ∈ l)] : inD (e x) (l.map e) = decide (x ∈ l) := (inD_map h x l).trans (decide_eq_decide.mpr Iff.rfl)
/-! ### steps -/
theorem none_rep (m : Nat) : PyData.tuple (List.replicate ((m : Int)).toNat [PyData.none]).flatten = eSign (List.replicate m none) := by
  rw [Int.toNat_natCast]
  unfold eSign
  congr 1
  induction m with
  | zero => rfl
  | succ m ih => rw [List.replicate_succ, List.flatten_cons, ih, List.replicate_succ]; rfl
theorem mul_none (k : Nat) (hk : k ≤ 1000) : MulD (.tuple [.none]) (.int (k : Int)) (eSign (List.replicate k none)) := ⟨(none_rep k).symm, (by intro z; cases z), by omega, by omega, by decide⟩
theorem mul_one (x : PyData) (b : Bool) : MulD (.list [x]) (.int (if b then 1 else 0)) (.list (if b then [x] else [])) := by
  cases b
  · exact ⟨rfl, by decide, by decide, by show 0 ≤ _; exact Nat.zero_le _⟩
  · exact ⟨rfl, by decide, by decide, small_size (by show 1 * 1 ≤ _; decide)⟩
theorem add_tup {α : Type} (e : α → PyData) (a b : List α) (h : a.length + b.length ≤ 1000000) : AddD (.tuple (a.map e)) (.tuple (b.map e)) (.tuple ((a ++ b).map e)) := ⟨by rw [List.map_append], by rw [List.length_map, List.length_map]; exact small_size (by omega)⟩
theorem add_list {α : Type} (e : α → PyData) (a b : List α) (h : a.length + b.length ≤ 1000000) : AddD (.list (a.map e)) (.list (b.map e)) (.list ((a ++ b).map e)) := ⟨by rw [List.map_append], by rw [List.length_map, List.length_map]; exact small_size (by omega)⟩
theorem add_sign (a b : Sign) (h : a.length + b.length ≤ 1000000) : AddD (eSign a) (eSign b) (eSign (a ++ b)) := add_tup eW a b h
theorem lit_size {n : Nat} (h : Nat.ble n 16000000 = true) : n ≤ sizeLine := small_size (Nat.le_of_ble_eq_true h)
/-! ### slices -/
theorem cut_map {α : Type} (e : α → PyData) (l : List α) (a b : Nat) (ha : a ≤ b) (hb : b ≤ l.length) : cutD (l.map e) (some (a : Int)) (some (b : Int)) = ((l.drop a).take (b - a)).map e := by
  unfold cutD
  rw [HT.sIx_nat, HT.sIx_nat, List.length_map, Nat.min_eq_left hb, Nat.min_eq_left (Nat.le_trans ha hb), ← List.map_drop, ← List.map_take]
theorem cut_to {α : Type} (e : α → PyData) (l : List α) (b : Nat) : cutD (l.map e) none (some (b : Int)) = (l.take b).map e := by
  unfold cutD
  rw [HT.sIx_nat, List.length_map]
  show ((l.map e).drop 0).take (min b l.length - 0) = _
  rw [List.drop_zero, Nat.sub_zero, ← List.map_take]
  congr 1
  by_cases h : b ≤ l.length
  · rw [Nat.min_eq_left h]
  · rw [Nat.min_eq_right (by omega), List.take_length, List.take_of_length_le (by omega)]
theorem cut_from {α : Type} (e : α → PyData) (l : List α) (a : Nat) : cutD (l.map e) (some (a : Int)) none = (l.drop a).map e := by
  unfold cutD
  rw [HT.sIx_nat, List.length_map]
  show ((l.map e).drop (min a l.length)).take (l.length - min a l.length) = _
  rw [← List.map_drop, ← List.map_take]
  congr 1
  by_cases h : a ≤ l.length
  · rw [Nat.min_eq_left h, List.take_of_length_le (by rw [List.length_drop]; omega)]
  · rw [Nat.min_eq_right (by omega), List.drop_length, List.drop_of_length_le (by omega), List.take_nil]
def nO : Sl → Bool
  | .own0 _ => false
  | _ => true
theorem prefix_lt {α : Type} {l pre post : List α} {x : α} (e : l = pre ++ x :: post) : pre.length < l.length := by
  rw [e, List.length_append, List.length_cons]; omega
theorem prefix_rng {n : Nat} {pre post : List Nat} {x : Nat} (e : List.range n = pre ++ x :: post) : x = pre.length ∧ x < n := by
  have hl := prefix_lt e
  rw [List.length_range] at hl
  have e2 : (List.range n)[pre.length]? = some x := by rw [e]; simp
  rw [List.getElem?_eq_some_iff] at e2
  obtain ⟨h1, h2⟩ := e2
  rw [List.getElem_range] at h2
  exact ⟨h2.symm, h2 ▸ hl⟩
end Sg

/-! Sem3: the law's own look; moments; holds; steps. -/
namespace Sg
open PySem L2 Dt
theorem ite_to {A B Z : Prop} {c : Bool} (h1 : c = true → Z → A) (h2 : c = false → Z → B) (z : Z) : if c = true then A else B := iteB (fun h => h1 h z) (fun h => h2 h z)
theorem dget_hold (a b c d : PyData) (h : Hold) : dget [(.str "high", a), (.str "low", b), (.str "rise", c), (.str "fall", d)] (.inr h.s) = some (match h with | .high => a | .low => b | .rise => c | .fall => d) := by
  have n1 : decide (("high" : Str) = "low") = false := by decide +kernel
  have n2 : decide (("high" : Str) = "rise") = false := by decide +kernel
  have n3 : decide (("high" : Str) = "fall") = false := by decide +kernel
  have n4 : decide (("low" : Str) = "rise") = false := by decide +kernel
  have n5 : decide (("low" : Str) = "fall") = false := by decide +kernel
  have n6 : decide (("rise" : Str) = "fall") = false := by decide +kernel
  cases h
  · rfl
  · show (if decide (("high" : Str) = "low") = true then _ else _) = _
    rw [n1]; rfl
  · show (if decide (("high" : Str) = "rise") = true then _ else if decide (("low" : Str) = "rise") = true then _ else _) = _
    rw [n2, n4]; rfl
  · show (if decide (("high" : Str) = "fall") = true then _ else if decide (("low" : Str) = "fall") = true then _ else if decide (("rise" : Str) = "fall") = true then _ else _) = _
    rw [n3, n5, n6]; rfl
/-! ### _law_fits -/
abbrev Sp__law_fits : DSp := Sp_fits
def w__law_fits : DS := (wSq (wFor (wRng Rng1 (wCons (wCall LenC (wCons (wVar 2) wNil)) wNil)) (gdN 3) (wSq (wSet 4 (wBin IxD (wBin IxD (wVar 0) (wVar 1)) (wVar 3)))
  (wSq (wSet 5 (wIf (wTst (wBin GtD (wVar 1) (wC (.int 0)))) (wBin IxD (wBin IxD (wVar 0) (wBin SubD (wVar 1) (wC (.int 1)))) (wVar 3)) (wVar 4)))
  (wSq (wSet 6 (wDisp [((wC (.str "high")), (wVar 4)), ((wC (.str "low")), (wNot (wVar 4))), ((wC (.str "rise")), (wAnd (wVar 4) (wNot (wVar 5)))), ((wC (.str "fall")), (wAnd (wVar 5) (wNot (wVar 4))))] [.inr "high", .inr "low", .inr "rise", .inr "fall"]))
  (wIfS (wtAnd (wTst (wBin NotND (wBin IxD (wVar 2) (wVar 3)) (wC .none))) (wtNot (wTru (wDGet (wVar 6) (wBin IxD (wVar 2) (wVar 3)))))) (wRet (wC (.bool false))) wNx)))))
  (wRet (wC (.bool true))))
theorem fits_no {rows : Rows} {t l : Nat} {s : Sign} (hl : l < s.length) (h : okW (s.getD l none) (lv rows t l) (ahead rows t l) = false) : fitsM rows t s = false := by
  unfold fitsM
  rw [List.all_eq_false]
  exact ⟨l, List.mem_range.mpr hl, by rw [h]; exact Bool.false_ne_true⟩
theorem m__law_fits (ds : List PyData) (Q : PyData → Prop) (E : Str → Prop) (h : Sp__law_fits ds Q E) : w__law_fits (startG ["rows", "tick", "sign", "line", "now", "ahead", "good"] ds) (endO Q E) := by
  obtain ⟨d, rows, t, s, m, rfl, hd, hm, ht, hs, hs2, q⟩ := h
  show w__law_fits [.dat d, .dat (eN t), .dat (eSign s), .no, .no, .no, .no] _
  refine ⟨_, rfl, _, ⟨_, _, rfl, rfl, rfl⟩, _, ⟨_, rfl, by omega, by rw [List.length_map]; omega, rfl⟩, ?_⟩
  rw [List.length_map, rngL_nat]
  refine for_inv _ (List.range s.length) (fun pre Γ => (∀ l ∈ pre, okW (s.getD l none) (lv rows t l) (ahead rows t l) = true) ∧ ∃ x3 x4 x5 x6, Γ = [.dat d, .dat (eN t), .dat (eSign s), x3, x4, x5, x6]) ?_ ?_ ⟨fun _ h => absurd h List.not_mem_nil, _, _, _, _, rfl⟩
  · rintro pre l post Γ e ⟨hp, x3, x4, x5, x6, rfl⟩ next hk
    obtain ⟨_, hl⟩ := prefix_rng e
    refine ⟨_, rfl, _, rfl, _, ix_rows hd ht, _, rfl, _, ix_row hm ht (by omega), ?_⟩
    refine ⟨_, rfl, _, rfl, _, rfl, ?_⟩
    refine ite_to (fun h z => ?_) (fun h z => ⟨_, (show some (Sl.dat (.bool (lv rows t l))) = some (Sl.dat (.bool (ahead rows t l))) by
      unfold ahead; rw [if_neg (fun z => of_decide_eq_false h (by omega))]), z⟩) ?_
    · have h1 : (0 : Int) < (t : Int) := of_decide_eq_true h
      have h2 : 0 < t := by omega
      refine ⟨_, rfl, _, rfl, _, rfl, eRow (rows.getD (t - 1) []), ?_, _, rfl, .bool (ahead rows t l), ?_, z⟩
      · show IxD d (.int ((t : Int) - 1)) _
        rw [show (t : Int) - 1 = ((t - 1 : Nat) : Int) by omega]
        exact ix_rows hd (by omega)
      · have e2 : ahead rows t l = lv rows (t - 1) l := by unfold ahead; rw [if_pos h2]
        rw [e2]
        exact ix_row hm (by omega) (by omega)
    have good : okW (s.getD l none) (lv rows t l) (ahead rows t l) = true → ∀ a b c, next [.dat d, .dat (eN t), .dat (eSign s), .dat (eN l), a, b, c] (onNx (wRet (wC (.bool true))) (endO Q E)) := fun h a b c =>
      hk _ ⟨fun l' hl' => by
        rcases List.mem_append.mp hl' with z | z
        · exact hp l' z
        · rw [List.mem_singleton.mp z]; exact h, _, _, _, _, rfl⟩
    have bad : okW (s.getD l none) (lv rows t l) (ahead rows t l) = false → Q (.bool false) := fun h => by
      rw [fits_no hl h] at q
      exact q
    have ix : IxD (eSign s) (.int (l : Int)) (eW (s.getD l none)) := atI_map eW s l none hl
    revert good bad ix
    generalize lv rows t l = now
    generalize ahead rows t l = bef
    cases hw : s.getD l none with
    | none =>
      intro good bad ix
      cases now <;> cases bef <;> ((repeat (first | refine ⟨_, rfl, ?_⟩ | refine ⟨_, ⟨_, _, rfl, rfl, rfl⟩, ?_⟩ | refine ⟨_, ⟨rfl, by (first | exact (sh_ts _).ok | exact (sh_n _).ok | exact (sh_sign _).ok | exact (sh_rows _).ok | exact (sh_row _).ok | exact sh_nil.ok | exact (sh_w _).ok | exact (sh_h _).ok | exact sh_tnil.ok | exact (Sh.int _).ok | exact (Sh.bool _).ok | exact Sh.none.ok | exact shaped_holds _), by (first | exact (sh_ts _).ok | exact (sh_n _).ok | exact (sh_sign _).ok | exact (sh_rows _).ok | exact (sh_row _).ok | exact sh_nil.ok | exact (sh_w _).ok | exact (sh_h _).ok | exact sh_tnil.ok | exact (Sh.int _).ok | exact (Sh.bool _).ok | exact Sh.none.ok | exact shaped_holds _)⟩, ?_⟩ | refine ⟨_, ⟨rfl, rfl⟩, ?_⟩ | refine Eq.mpr (if_pos rfl) ?_ | refine Eq.mpr (if_neg Bool.false_ne_true) ?_ | refine ⟨rfl, ?_⟩ | refine ⟨lit_size rfl, ?_⟩)); exact ⟨_, ix, _, ⟨rfl, rfl⟩, _, rfl, good rfl _ _ _⟩)
    | some h =>
      intro good bad ix
      cases now <;> cases bef <;> (
        (repeat (first | refine ⟨_, rfl, ?_⟩ | refine ⟨_, ⟨_, _, rfl, rfl, rfl⟩, ?_⟩ | refine ⟨_, ⟨rfl, by (first | exact (sh_ts _).ok | exact (sh_n _).ok | exact (sh_sign _).ok | exact (sh_rows _).ok | exact (sh_row _).ok | exact sh_nil.ok | exact (sh_w _).ok | exact (sh_h _).ok | exact sh_tnil.ok | exact (Sh.int _).ok | exact (Sh.bool _).ok | exact Sh.none.ok | exact shaped_holds _), by (first | exact (sh_ts _).ok | exact (sh_n _).ok | exact (sh_sign _).ok | exact (sh_rows _).ok | exact (sh_row _).ok | exact sh_nil.ok | exact (sh_w _).ok | exact (sh_h _).ok | exact sh_tnil.ok | exact (Sh.int _).ok | exact (Sh.bool _).ok | exact Sh.none.ok | exact shaped_holds _)⟩, ?_⟩ | refine ⟨_, ⟨rfl, rfl⟩, ?_⟩ | refine Eq.mpr (if_pos rfl) ?_ | refine Eq.mpr (if_neg Bool.false_ne_true) ?_ | refine ⟨rfl, ?_⟩ | refine ⟨lit_size rfl, ?_⟩))
        refine ⟨_, ix, _, ⟨rfl, rfl⟩, _, rfl, ?_⟩
        refine ⟨_, rfl, _, rfl, _, rfl, _, ix, _, .inr h.s, _, rfl, rfl, dget_hold _ _ _ _ h, ?_⟩
        cases h <;> first | exact ⟨_, rfl, good rfl _ _ _⟩ | exact ⟨_, rfl, bad rfl⟩)
  · rintro Γ ⟨hp, _, _, _, _, rfl⟩
    have e : fitsM rows t s = true := by
      unfold fitsM
      rw [List.all_eq_true]
      exact hp
    rw [e] at q
    exact q
/-! ### _law_caught -/
abbrev Sp__law_caught : DSp := Sp_ticks_of
def w__law_caught : DS := (wRet (wLc (wRng Rng1 (wCons (wCall LenC (wCons (wVar 0) wNil)) wNil)) (stIf (gdN 2) (wTru (wFn Sp__law_fits (wCons (wVar 0) (wCons (wVar 2) (wCons (wVar 1) wNil))))) (wVar 2) [2]) [2]))
theorem m__law_caught (ds : List PyData) (Q : PyData → Prop) (E : Str → Prop) (h : Sp__law_caught ds Q E) : w__law_caught (startG ["rows", "sign", "tick"] ds) (endO Q E) := by
  obtain ⟨d, rows, s, m, rfl, hd, hm, hr, hs, hs2, q⟩ := h
  show w__law_caught [.dat d, .dat (eSign s), .no] _
  refine ⟨_, rfl, _, ⟨_, _, rfl, len_rows hd, rfl⟩, _, ⟨_, rfl, by omega, by omega, rfl⟩, ?_⟩
  rw [rngL_nat]
  refine ⟨by (first | exact Nat.zero_le _ | (refine small_size ?_; simp only [List.length_map, List.length_range, List.length_append, List.length_cons, List.length_nil, List.length_replicate, List.length_take, List.length_drop]; omega)), rfl, ?_⟩
  refine lc_if _ (fun t => fitsM rows t s) eN _ [] (fun t ht k hk => ?_) ?_
  · have ht := List.mem_range.mp ht
    refine ⟨_, rfl, _, rfl, _, rfl, d, rows, t, s, m, rfl, hd, hm, ht, hs, hs2, _, rfl, ?_⟩
    refine iteB (fun h1 => ?_) (fun h1 => ?_)
    · rw [if_pos h1] at hk
      exact ⟨_, rfl, hk⟩
    · rw [if_neg (by rw [h1]; exact Bool.false_ne_true)] at hk
      exact hk
  · exact q
/-! ### moment -/
def onTick (x : PyData) (n : Nat) (E : Str → Prop) (k : Nat → Prop) : Prop := if isWhole x 0 ((n : Int) - 1) = true then k (intOf x).toNat else E "BadTold"
theorem onTick_v {t n : Nat} {E : Str → Prop} {k : Nat → Prop} (h : t < n) (hk : k t) : onTick (eN t) n E k := by
  unfold onTick
  rw [if_pos (show isWhole (eN t) 0 ((n : Int) - 1) = true from e_whole (by omega) (by omega))]
  exact hk
theorem ite_tick {x : PyData} {n : Nat} {E : Str → Prop} {k : Nat → Prop} {A B : Prop} (h : onTick x n E k) (hB : E "BadTold" → B) (hA : ∀ t, x = eN t → t < n → k t → A) : if isWhole x 0 ((n : Int) - 1) = true then A else B := by
  unfold onTick at h
  by_cases v : isWhole x 0 ((n : Int) - 1) = true
  · rw [if_pos v] at h ⊢
    obtain ⟨i, e, e2, h1, h2⟩ := whole_e v
    refine hA (intOf x).toNat ?_ (by omega) h
    rw [e]
    show PyData.int i = .int ((i.toNat : Nat) : Int)
    rw [Int.toNat_of_nonneg h1]
  · rw [if_neg v] at h ⊢
    exact hB h
def eHs (l : List Hold) : PyData := .list (l.map eH)
def eMom (l : List (List Hold)) : PyData := .list (l.map eHs)
theorem sh_hs (l : List Hold) : Sh 1 (eHs l) := .list (sh_map sh_h l)
theorem sh_mom (l : List (List Hold)) : Sh 2 (eMom l) := .list (sh_map sh_hs l)
theorem eqv_hs (a b : List Hold) : PyData.eqv (eHs a) (eHs b) = decide (a = b) := eqv_list eqv_h a b
def momM (rows : Rows) (m t : Nat) : List (List Hold) := (List.range m).map fun l => holdM rows t l
def Sp_moment : DSp := fun ds Q E => ∃ d x, ds = [d, x] ∧ onRows d E fun rows m => onTick x rows.length E fun t => Q (eMom (momM rows m t))
def w_moment : DS := (wSq (wEx (wFn Sp_look_rows (wCons (wVar 0) wNil)))
  (wSq (wEx (wFn Sp_look_tick (wCons (wVar 0) (wCons (wVar 1) wNil))))
  (wRet (wLc (wRng Rng1 (wCons (wCall LenC (wCons (wBin IxD (wVar 0) (wC (.int 0))) wNil)) wNil)) (stAll (gdN 2) (wFn Sp_holding (wCons (wVar 0) (wCons (wVar 1) (wCons (wVar 2) wNil)))) [2]) [2]))))
theorem m_moment (ds : List PyData) (Q : PyData → Prop) (E : Str → Prop) (h : Sp_moment ds Q E) : w_moment (startG ["rows", "tick", "line"] ds) (endO Q E) := by
  obtain ⟨d, x, rfl, h⟩ := h
  show w_moment [.dat d, .dat x, .no] _
  refine ⟨_, rfl, d, rfl, h.1, ite_rows h (fun z => z) fun rows m e v h2 => ?_⟩
  subst e
  refine ⟨_, rfl, _, rfl, _, _, x, rfl, rfl, ?_⟩
  rw [List.length_map]
  refine ite_tick h2 (fun z => z) fun t e ht h3 => ?_
  subst e
  have hm2 := v.m2
  refine ⟨_, rfl, _, row0 v, _, len0 v, _, ⟨_, rfl, by omega, by omega, rfl⟩, ?_⟩
  rw [rngL_nat]
  refine ⟨by (first | exact Nat.zero_le _ | (refine small_size ?_; simp only [List.length_map, List.length_range, List.length_append, List.length_cons, List.length_nil, List.length_replicate, List.length_take, List.length_drop]; omega)), rfl, ?_⟩
  refine lc_all _ (fun l => eHs (holdM rows t l)) (List.range m) [] (fun l hl k hk => ?_) ?_
  · have hl := List.mem_range.mp hl
    exact ⟨_, rfl, _, rfl, _, rfl, _, rows, t, l, m, rfl, .inl rfl, v.ok, ht, hl, hk⟩
  · have e : eMom (momM rows m t) = .list ([] ++ (List.range m).map fun l => eHs (holdM rows t l)) := by
      unfold eMom momM
      rw [List.map_map]
      rfl
    rw [e] at h3
    exact h3
/-! ### spaced, held -/
def spStep (h : Int) (found : List Nat) (t : Nat) : List Nat := match found.getLast? with
  | none => found ++ [t]
  | some l => if h < (t : Int) - (l : Int) then found ++ [t] else found
def spacedM (h : Int) (ts : List Nat) : List Nat := ts.foldl (spStep h) []
theorem spStep_len (h : Int) (f : List Nat) (t : Nat) : (spStep h f t).length ≤ f.length + 1 := by
  unfold spStep
  split
  · rw [List.length_append]; exact Nat.le_refl _
  · split
    · rw [List.length_append]; exact Nat.le_refl _
    · omega
def Sp_spaced : DSp := fun ds Q _ => ∃ ts h, ds = [eTs ts, .int h] ∧ ts.length ≤ 100000 ∧ Q (eTs (spacedM h ts))
def w_spaced : DS := (wSq (wSetO 2 (wLstF wNil))
  (wSq (wFor (wSeq (wVar 0)) (gdN 3) (wIfS (wtOr (wtNot (wTru (wPk 2))) (wTst (wBin GtD (wBin SubD (wVar 3) (wBin IxD (wPk 2) (wUn NegD (wC (.int 1))))) (wVar 1)))) (wApp 2 (wVar 3)) wNx))
  (wRel 2 (wRet (wVar 2)))))
theorem m_spaced (ds : List PyData) (Q : PyData → Prop) (E : Str → Prop) (h : Sp_spaced ds Q E) : w_spaced (startG ["ticks", "hold", "found", "tick"] ds) (endO Q E) := by
  obtain ⟨ts, h, rfl, hl, q⟩ := h
  show w_spaced [.dat (eTs ts), .dat (.int h), .no, .no] _
  refine ⟨by (first | exact Nat.zero_le _ | (refine small_size ?_; simp only [List.length_map, List.length_range, List.length_append, List.length_cons, List.length_nil, List.length_replicate, List.length_take, List.length_drop]; omega)), _, rfl, _, rfl, ?_⟩
  refine for_inv eN ts (fun pre Γ => ∃ x3, (pre.foldl (spStep h) []).length ≤ pre.length ∧ Γ = [.dat (eTs ts), .dat (.int h), .own ((pre.foldl (spStep h) []).map eN), x3]) ?_ ?_ ⟨_, Nat.le_refl _, rfl⟩
  · rintro pre t post Γ e ⟨x3, hf, rfl⟩ next hk
    have hpre := prefix_lt e
    have fin : ∀ f', f' = spStep h (pre.foldl (spStep h) []) t → next [.dat (eTs ts), .dat (.int h), .own (f'.map eN), .dat (eN t)] (onNx (wRel 2 (wRet (wVar 2))) (endO Q E)) := fun f' e => by
      subst e
      exact hk _ ⟨.dat (eN t), by
        rw [List.foldl_append, List.length_append]
        exact Nat.le_trans (spStep_len _ _ _) (Nat.succ_le_succ hf), by rw [List.foldl_append]; rfl⟩
    revert fin hf
    generalize pre.foldl (spStep h) [] = f
    intro hf fin
    rcases List.eq_nil_or_concat f with rfl | ⟨x, l, rfl⟩
    · exact ⟨_, rfl, _, rfl, ⟨_, rfl⟩, _, rfl, _, rfl, by show 0 < sizeLine; rw [sizeLine_eq]; decide, fin [t] rfl⟩
    · rw [List.concat_eq_append] at hf fin ⊢
      have hs : spStep h (x ++ [l]) t = if h < (t : Int) - (l : Int) then (x ++ [l]) ++ [t] else x ++ [l] := by
        unfold spStep
        rw [List.getLast?_concat]
      refine ⟨_, rfl, true, ?_, ?_⟩
      · show true = !((x ++ [l]).map eN).isEmpty
        rw [List.map_append]
        cases x.map eN <;> rfl
      refine Eq.mpr (if_neg Bool.false_ne_true) ?_
      refine ⟨_, rfl, _, rfl, _, rfl, _, atI_lastM eN x l, _, rfl, _, rfl, _, rfl, _, rfl, ?_⟩
      refine iteB (fun c => ?_) (fun c => ?_)
      · have c : h < (t : Int) - (l : Int) := of_decide_eq_true c
        refine ⟨⟨_, rfl⟩, _, rfl, _, rfl, by rw [List.length_map, sizeLine_eq]; omega, ?_⟩
        rw [if_pos c] at hs
        have := fin _ hs.symm
        rw [List.map_append] at this
        exact this
      · have c : ¬ h < (t : Int) - (l : Int) := of_decide_eq_false c
        rw [if_neg c] at hs
        exact fin _ hs.symm
  · rintro Γ ⟨x3, hf, rfl⟩
    exact ⟨_, rfl, _, rfl, q⟩
def Sp_held : DSp := fun ds Q E => ∃ d x y, ds = [d, x, y] ∧ onRows d E fun rows m => onSign x m E fun s => onNum y 0 200 E fun g => Q (eTs (spacedM g (ticksM rows s)))
def w_held : DS := (wSq (wEx (wFn Sp_look_rows (wCons (wVar 0) wNil)))
  (wSq (wEx (wFn Sp_look_sign (wCons (wVar 1) (wCons (wCall LenC (wCons (wBin IxD (wVar 0) (wC (.int 0))) wNil)) wNil))))
  (wSq (wIfS (wtNot (wTru (wFn Sp_is_whole (wCons (wVar 2) (wCons (wC (.int 0)) (wCons (wC (.int 200)) wNil)))))) (wRaise "BadNumber") wNx)
  (wRet (wFn Sp_spaced (wCons (wFn Sp_ticks_of (wCons (wVar 0) (wCons (wVar 1) wNil))) (wCons (wVar 2) wNil)))))))
theorem m_held (ds : List PyData) (Q : PyData → Prop) (E : Str → Prop) (h : Sp_held ds Q E) : w_held (startG ["rows", "sign", "hold"] ds) (endO Q E) := by
  obtain ⟨d, x, y, rfl, h⟩ := h
  show w_held [.dat d, .dat x, .dat y] _
  refine ⟨_, rfl, d, rfl, h.1, ite_rows h (fun z => z) fun rows m e v h2 => ?_⟩
  subst e
  refine ⟨_, rfl, _, rfl, _, row0 v, _, len0 v, x, _, rfl, h2.1, ite_sign h2 (fun z => z) fun s e hs h3 => ?_⟩
  subst e
  refine ⟨_, rfl, _, _, _, rfl, _, rfl, ite_num h3 (fun z => z) fun g e g1 g2 h4 => ?_⟩
  subst e
  have hn2 := v.n2
  have hlt := ticks_len rows s
  exact ⟨_, rfl, _, rfl, _, rows, s, m, rfl, .inl rfl, v.ok, by omega, by omega, by have := v.m2; omega, _, rfl, _, _, rfl, by omega, h4⟩
/-! ### steps -/
def behind (w : Int) (fs : List Nat) (t : Nat) : Bool := fs.any fun f => decide (0 < (t : Int) - (f : Int)) && decide ((t : Int) - (f : Int) ≤ w)
def stepsM (fs ss : List Nat) (w : Int) : List Nat := ss.filter (behind w fs)
def Sp_both_steps : DSp := fun ds Q _ => ∃ fs ss w, ds = [eTs fs, eTs ss, .int w] ∧ fs.length ≤ 100000 ∧ ss.length ≤ 100000 ∧ Q (eTs (stepsM fs ss w))
def w_both_steps : DS := (wRet (wLc (wSeq (wVar 1)) (stIf (gdN 3) (wTru (wCall AnyC (wCons (wLc (wSeq (wVar 0)) (stAll (gdN 4) (wChain LtD LeD (wC (.int 0)) (wBin SubD (wVar 3) (wVar 4)) (wVar 2)) [4]) [4]) wNil))) (wVar 3) [3]) [3]))
theorem m_both_steps (ds : List PyData) (Q : PyData → Prop) (E : Str → Prop) (h : Sp_both_steps ds Q E) : w_both_steps (startG ["firsts", "seconds", "within", "tick", "one"] ds) (endO Q E) := by
  obtain ⟨fs, ss, w, rfl, h1, h2, q⟩ := h
  show w_both_steps [.dat (eTs fs), .dat (eTs ss), .dat (.int w), .no, .no] _
  refine ⟨_, rfl, _, rfl, by (first | exact Nat.zero_le _ | (refine small_size ?_; simp only [List.length_map, List.length_range, List.length_append, List.length_cons, List.length_nil, List.length_replicate, List.length_take, List.length_drop]; omega)), rfl, ?_⟩
  refine lc_if eN (behind w fs) eN ss [] (fun t ht k hk => ?_) ?_
  · refine ⟨_, rfl, _, rfl, by (first | exact Nat.zero_le _ | (refine small_size ?_; simp only [List.length_map, List.length_range, List.length_append, List.length_cons, List.length_nil, List.length_replicate, List.length_take, List.length_drop]; omega)), rfl, ?_⟩
    refine lc_all eN (fun f => .bool (decide (0 < (t : Int) - (f : Int)) && decide ((t : Int) - (f : Int) ≤ w))) fs [] (fun f hf k' hk' => ?_) ?_
    · refine ⟨_, rfl, _, rfl, _, rfl, _, rfl, ?_⟩
      refine iteB (fun c => ?_) (fun c => ?_)
      · refine ⟨_, rfl, _, rfl, ?_⟩
        rw [show decide (0 < (t : Int) - (f : Int)) = true from c, Bool.true_and] at hk'
        exact hk'
      · rw [show decide (0 < (t : Int) - (f : Int)) = false from c, Bool.false_and] at hk'
        exact hk'
    · refine ⟨_, ⟨fs.map fun (f : Nat) => (decide (0 < (t : Int) - (f : Int)) && decide ((t : Int) - (f : Int) ≤ w)), ?_, rfl⟩, _, rfl, ?_⟩
      · rw [List.nil_append, allB]
      · rw [any_id]
        refine iteB (fun c => ?_) (fun c => ?_)
        · rw [if_pos (show behind w fs t = true from c)] at hk
          exact ⟨_, rfl, hk⟩
        · rw [if_neg (by rw [show behind w fs t = false from c]; exact Bool.false_ne_true)] at hk
          exact hk
  · exact q
def Sp_look_within : DSp := fun ds Q E => ∃ x, ds = [x] ∧ onNum x 1 200 E fun _ => Q .none
def w_look_within : DS := (wIfS (wtNot (wTru (wFn Sp_is_whole (wCons (wVar 0) (wCons (wC (.int 1)) (wCons (wC (.int 200)) wNil)))))) (wRaise "BadNumber") wNx)
theorem m_look_within (ds : List PyData) (Q : PyData → Prop) (E : Str → Prop) (h : Sp_look_within ds Q E) : w_look_within (startG ["within"] ds) (endO Q E) := by
  obtain ⟨x, rfl, h⟩ := h
  show w_look_within [.dat x] _
  refine ⟨_, rfl, _, _, _, rfl, _, rfl, ite_num h (fun z => z) fun g e g1 g2 h4 => h4⟩
theorem onNum_bind {x : PyData} {lo hi : Int} {E : Str → Prop} {k : Int → Prop} {A : Prop} (h : onNum x lo hi E k) (hA : ∀ i, x = .int i → lo ≤ i → i ≤ hi → k i → A) : onNum x lo hi E fun _ => A := by
  unfold onNum at h ⊢
  by_cases v : isWhole x lo hi = true
  · rw [if_pos v] at h ⊢
    obtain ⟨i, e, e2, h1, h2⟩ := whole_e v
    exact hA i e h1 h2 (e2 ▸ h)
  · rw [if_neg v] at h ⊢
    exact h
def Sp_steps : DSp := fun ds Q E => ∃ d x y z, ds = [d, x, y, z] ∧ onRows d E fun rows m => onSign x m E fun s => onNum y 1 200 E fun g => onSign z m E fun s2 => Q (eTs (stepsM (ticksM rows s) (ticksM rows s2) g))
def w_steps : DS := (wSq (wEx (wFn Sp_look_rows (wCons (wVar 0) wNil)))
  (wSq (wEx (wFn Sp_look_sign (wCons (wVar 1) (wCons (wCall LenC (wCons (wBin IxD (wVar 0) (wC (.int 0))) wNil)) wNil))))
  (wSq (wEx (wFn Sp_look_within (wCons (wVar 2) wNil)))
  (wSq (wEx (wFn Sp_look_sign (wCons (wVar 3) (wCons (wCall LenC (wCons (wBin IxD (wVar 0) (wC (.int 0))) wNil)) wNil))))
  (wRet (wFn Sp_both_steps (wCons (wFn Sp_ticks_of (wCons (wVar 0) (wCons (wVar 1) wNil))) (wCons (wFn Sp_ticks_of (wCons (wVar 0) (wCons (wVar 3) wNil))) (wCons (wVar 2) wNil)))))))))
theorem m_steps (ds : List PyData) (Q : PyData → Prop) (E : Str → Prop) (h : Sp_steps ds Q E) : w_steps (startG ["rows", "first", "within", "second"] ds) (endO Q E) := by
  obtain ⟨d, x, y, z, rfl, h⟩ := h
  show w_steps [.dat d, .dat x, .dat y, .dat z] _
  refine ⟨_, rfl, d, rfl, h.1, ite_rows h (fun z => z) fun rows m e v h2 => ?_⟩
  subst e
  refine ⟨_, rfl, _, rfl, _, row0 v, _, len0 v, x, _, rfl, h2.1, ite_sign h2 (fun z => z) fun s e hs h3 => ?_⟩
  subst e
  refine ⟨_, rfl, _, rfl, onNum_bind h3 fun g e g1 g2 h4 => ?_⟩
  subst e
  refine ⟨_, rfl, _, rfl, _, row0 v, _, len0 v, z, _, rfl, h4.1, ite_sign h4 (fun z => z) fun s2 e hs2 h5 => ?_⟩
  subst e
  have hn2 := v.n2
  have hm2 := v.m2
  have l1 := ticks_len rows s
  have l2 := ticks_len rows s2
  exact ⟨_, rfl, _, rfl, _, rows, s, m, rfl, .inl rfl, v.ok, by omega, by omega, by omega, _, rfl, _, rfl, _, rows, s2, m, rfl, .inl rfl, v.ok, by omega, by omega, by omega, _, rfl, _, _, _, rfl, by omega, by omega, h5⟩
end Sg

/-! Sem4: all rows of menus; two signs, one beside the other. -/
namespace Sg
open PySem L2 Dt
theorem snoc_ind {α : Type} {P : List α → Prop} (h0 : P []) (hs : ∀ l x, P l → P (l ++ [x])) (l : List α) : P l := by
  have : ∀ r : List α, P r.reverse := fun r => by
    induction r with
    | nil => exact h0
    | cons x r ih => rw [List.reverse_cons]; exact hs _ _ ih
  have z := this l.reverse
  rw [List.reverse_reverse] at z
  exact z
theorem no_own {Γ : Gm} {i : Nat} {x : Sl} (h : Γ[i]? = some x) (hx : nO x = true) : noOwn Γ [i] = true := by
  unfold noOwn
  rw [List.all_cons, List.all_nil, Bool.and_true, h]
  cases x <;> first | rfl | cases hx
/-! ### all_signs -/
def growM {α : Type} (found : List (List α)) (menu : List α) : List (List α) := found.flatMap fun row => menu.map fun one => row ++ [one]
def prodM {α : Type} (menus : List (List α)) : List (List α) := menus.foldl growM [[]]
def eT {α : Type} (e : α → PyData) (r : List α) : PyData := .tuple (r.map e)
def eL {α : Type} (e : α → PyData) (r : List α) : PyData := .list (r.map e)
theorem prod_snoc {α : Type} (menus : List (List α)) (m : List α) : prodM (menus ++ [m]) = growM (prodM menus) m := by
  unfold prodM
  rw [List.foldl_append]
  rfl
theorem grow_len {α : Type} {c n : Nat} {f : List (List α)} {m : List α} (hm : m.length ≤ c) (hf : f.length ≤ n) : (growM f m).length ≤ n * c := by
  unfold growM
  rw [List.length_flatMap]
  have : ∀ (f : List (List α)), (f.map fun a => (m.map fun one => a ++ [one]).length).sum ≤ f.length * c := fun f => by
    induction f with
    | nil => exact Nat.zero_le _
    | cons x r ih =>
      rw [List.map_cons, List.sum_cons, List.length_map, List.length_cons, Nat.succ_mul]
      omega
  exact Nat.le_trans (this f) (Nat.mul_le_mul_right c hf)
theorem prod_size {α : Type} {menus : List (List α)} (h1 : menus.length ≤ 5) (h2 : ∀ m ∈ menus, m.length ≤ 5) : (prodM menus).length ≤ 5 ^ menus.length := by
  have key : ∀ (r : List (List α)), (∀ m ∈ r, m.length ≤ 5) → (prodM r).length ≤ 5 ^ r.length := snoc_ind (fun _ => Nat.le_refl _) fun r m ih h => by
    rw [prod_snoc, List.length_append]
    exact grow_len (h m (List.mem_append.mpr (.inr List.mem_cons_self))) (ih fun x hx => h x (List.mem_append.mpr (.inl hx)))
  exact key menus h2
theorem pow5 {n : Nat} (h : n ≤ 5) : 5 ^ n ≤ 3125 := Nat.pow_le_pow_right (by decide) h
theorem prod_row {α : Type} : ∀ (menus : List (List α)), ∀ r ∈ prodM menus, r.length = menus.length := snoc_ind (fun r hr => by
    rw [List.mem_singleton.mp (show r ∈ [[]] from hr)]
    rfl) fun ms m ih r hr => by
    rw [prod_snoc] at hr
    obtain ⟨row, h1, h2⟩ := List.mem_flatMap.mp hr
    obtain ⟨one, _, rfl⟩ := List.mem_map.mp h2
    rw [List.length_append, List.length_append, ih row h1]
    rfl
def Sp_all_signs : DSp := fun ds Q _ => ∃ (α : Type) (e : α → PyData) (menus : List (List α)), ds = [.list (menus.map (eL e))] ∧ menus.length ≤ 5 ∧ (∀ m ∈ menus, m.length ≤ 5) ∧ Q (.list ((prodM menus).map (eT e)))
def w_all_signs : DS := (wSq (wSet 1 (wLst (wCons (wTup wNil) wNil)))
  (wSq (wFor (wSeq (wVar 0)) (gdN 2) (wSq (wSetO 3 (wLstF wNil))
  (wSq (wFor (wSeq (wVar 1)) (gdN 4) (wExt 3 (wLc (wSeq (wVar 2)) (stAll (gdN 5) (wBin AddD (wVar 4) (wTup (wCons (wVar 5) wNil))) [5]) [5])))
  (wRel 3 (wSet 1 (wVar 3))))))
  (wRet (wVar 1))))
theorem m_all_signs (ds : List PyData) (Q : PyData → Prop) (E : Str → Prop) (h : Sp_all_signs ds Q E) : w_all_signs (startG ["menus", "found", "menu", "longer", "row", "one"] ds) (endO Q E) := by
  obtain ⟨α, e, menus, rfl, h1, h2, q⟩ := h
  show w_all_signs [.dat (.list (menus.map (eL e))), .no, .no, .no, .no, .no] _
  refine ⟨lit_size rfl, lit_size rfl, _, rfl, _, rfl, ?_⟩
  refine for_inv (eL e) menus (fun pre Γ => ∃ x2 x3 x4 x5, nO x5 = true ∧ Γ = [.dat (.list (menus.map (eL e))), .dat (.list ((prodM pre).map (eT e))), x2, x3, x4, x5]) ?_ ?_ ⟨_, _, _, _, rfl, rfl⟩
  · rintro pre menu post Γ em ⟨x2, x3, x4, x5, hx5, rfl⟩ next hk
    have hpre := prefix_lt em
    have hpm : ∀ m ∈ pre, m.length ≤ 5 := fun m hm => h2 m (by rw [em]; exact List.mem_append.mpr (.inl hm))
    have hmm : menu.length ≤ 5 := h2 menu (by rw [em]; exact List.mem_append.mpr (.inr List.mem_cons_self))
    have hsz := prod_size (by omega) hpm
    have hp5 : 5 ^ pre.length ≤ 625 := Nat.le_trans (Nat.pow_le_pow_right (by decide) (show pre.length ≤ 4 by omega)) (by decide)
    refine ⟨Nat.zero_le _, _, rfl, _, rfl, ?_⟩
    refine for_inv (eT e) (prodM pre) (fun pre2 Γ => ∃ x4 x5, nO x5 = true ∧ Γ = [.dat (.list (menus.map (eL e))), .dat (.list ((prodM pre).map (eT e))), .dat (eL e menu), .own ((growM pre2 menu).map (eT e)), x4, x5]) ?_ ?_ ⟨_, _, hx5, rfl⟩
    · rintro pre2 row post2 Γ er ⟨x4, x5, hx5, rfl⟩ next2 hk2
      have hrow : row.length = pre.length := prod_row pre row (by rw [er]; exact List.mem_append.mpr (.inr List.mem_cons_self))
      have hp2 := prefix_lt er
      have hg2 := grow_len hmm (Nat.le_refl pre2.length)
      refine ⟨⟨_, rfl⟩, _, rfl, _, rfl, by rw [List.length_map]; exact small_size (by omega), no_own rfl hx5, ?_⟩
      refine lc_all e (fun one => eT e (row ++ [one])) menu [] (fun one _ k hk' => ?_) ?_
      · refine ⟨_, rfl, _, rfl, lit_size rfl, _, add_tup e row [one] (by show _ + 1 ≤ _; omega), hk'⟩
      · refine ⟨_, _, rfl, rfl, ?_, ?_⟩
        · rw [List.length_map, List.nil_append, List.length_map, sizeLine_eq]
          omega
        · refine hk2 _ ⟨.dat (eT e row), .no, rfl, ?_⟩
          have eg : growM (pre2 ++ [row]) menu = growM pre2 menu ++ menu.map fun one => row ++ [one] := by
            unfold growM
            rw [List.flatMap_append, List.flatMap_singleton]
          rw [eg, List.map_append, List.map_map]
          rfl
    · rintro Γ ⟨x4, x5, hx5, rfl⟩
      refine ⟨_, rfl, _, rfl, ?_⟩
      rw [show growM (prodM pre) menu = prodM (pre ++ [menu]) from (prod_snoc pre menu).symm]
      exact hk _ ⟨_, _, _, _, hx5, rfl⟩
  · rintro Γ ⟨x2, x3, x4, x5, hx5, rfl⟩
    exact ⟨_, rfl, q⟩
/-! ### look_any, look_both -/
def isAny (x : PyData) : Bool := match x with
  | .tuple l => decide (1 ≤ (l.length : Int)) && decide ((l.length : Int) ≤ 5) && l.all isWord
  | _ => false
def onAny (x : PyData) (E : Str → Prop) (k : Sign → Prop) : Prop := SzT x ∧ (if isAny x = true then k (signOf x) else E "BadSign")
theorem any_e {x : PyData} (h : isAny x = true) : x = eSign (signOf x) ∧ 1 ≤ (signOf x).length ∧ (signOf x).length ≤ 5 := by
  cases x with
  | tuple l =>
    unfold isAny at h
    simp only [Bool.and_eq_true, decide_eq_true_eq] at h
    obtain ⟨⟨h1, h2⟩, h3⟩ := h
    have hs : isSign (.tuple l) (l.length : Int) = true := by
      show (((l.length : Int) == (l.length : Int)) && l.all isWord) = true
      rw [h3, beq_self_eq_true]; rfl
    obtain ⟨a, b⟩ := sign_e hs
    exact ⟨a, by omega, by omega⟩
  | _ => cases h
theorem e_any {s : Sign} (h1 : 1 ≤ s.length) (h2 : s.length ≤ 5) : isAny (eSign s) = true := by
  have hs := e_sign (s := s) (n := (s.length : Int)) rfl
  have h3 : (s.map eW).all isWord = true := by
    have : (((s.map eW).length : Int) == (s.length : Int) && (s.map eW).all isWord) = true := hs
    rw [Bool.and_eq_true] at this
    exact this.2
  show (decide (1 ≤ ((s.map eW).length : Int)) && decide (((s.map eW).length : Int) ≤ 5) && (s.map eW).all isWord) = true
  rw [h3, List.length_map, decide_eq_true (by omega), decide_eq_true (by omega)]
  rfl
theorem onAny_v {s : Sign} {E : Str → Prop} {k : Sign → Prop} (h1 : 1 ≤ s.length) (h2 : s.length ≤ 5) (hk : k s) : onAny (eSign s) E k := ⟨sz_sign (by omega), by rw [if_pos (e_any h1 h2), signOf_e]; exact hk⟩
def Sp_look_any : DSp := fun ds Q E => ∃ x, ds = [x] ∧ onAny x E fun s => Q (eN s.length)
def w_look_any : DS := (wSq (wIfS (wtOr (wtNot (wTru (wIsi isTup (wVar 0)))) (wtOr (wtNot (wTst (wChain LeD LeD (wC (.int 1)) (wCall LenC (wCons (wVar 0) wNil)) (wC (.int 5))))) (wtNot (wTru (wFn Sp_is_sign (wCons (wVar 0) (wCons (wCall LenC (wCons (wVar 0) wNil)) wNil))))))) (wRaise "BadSign") wNx)
  (wRet (wCall LenC (wCons (wVar 0) wNil))))
theorem m_look_any (ds : List PyData) (Q : PyData → Prop) (E : Str → Prop) (h : Sp_look_any ds Q E) : w_look_any (startG ["sign"] ds) (endO Q E) := by
  obtain ⟨x, rfl, hz, q⟩ := h
  show w_look_any [.dat x] _
  refine ⟨_, rfl, _, rfl, ?_⟩
  cases x with
  | tuple l =>
    have stop : isAny (.tuple l) = false → E "BadSign" := fun e => by rw [if_neg (by rw [e]; exact Bool.false_ne_true)] at q; exact q
    refine ⟨_, rfl, _, ⟨_, _, rfl, rfl, rfl⟩, _, rfl, ?_⟩
    refine iteB (fun h1 => ?_) (fun h1 => ?_)
    · refine ⟨_, rfl, _, rfl, ?_⟩
      refine iteB (fun h2 => ?_) (fun h2 => ?_)
      · rw [Bool.not_eq_true'] at h2
        exact stop (by unfold isAny; simp only [h1, h2, Bool.true_and, Bool.false_and])
      rw [Bool.not_eq_false'] at h2
      refine ⟨_, rfl, _, rfl, _, ⟨_, _, rfl, rfl, rfl⟩, _, _, rfl, hz, _, rfl, ?_⟩
      have es : isSign (.tuple l) (l.length : Int) = l.all isWord := by
        show (((l.length : Int) == (l.length : Int)) && l.all isWord) = _
        rw [beq_self_eq_true, Bool.true_and]
      rw [es]
      refine iteB (fun h3 => ?_) (fun h3 => ?_)
      · rw [Bool.not_eq_true'] at h3
        exact stop (by unfold isAny; simp only [h1, h2, h3, Bool.true_and])
      · rw [Bool.not_eq_false'] at h3
        rw [if_pos (by unfold isAny; simp only [h1, h2, h3, Bool.true_and])] at q
        refine ⟨_, rfl, _, ⟨_, _, rfl, rfl, rfl⟩, ?_⟩
        have hl : (signOf (.tuple l)).length = l.length := List.length_map _
        rw [hl] at q
        exact q
    · exact ⟨_, rfl, stop (by unfold isAny; simp only [h1, Bool.false_and])⟩
  | _ => exact q
def onBoth (x y : PyData) (E : Str → Prop) (k : Sign → Sign → Prop) : Prop := onAny x E fun s1 => onAny y E fun s2 => if s1.length = s2.length then k s1 s2 else E "BadSign"
theorem onBoth_v {s1 s2 : Sign} {E : Str → Prop} {k : Sign → Sign → Prop} (h1 : 1 ≤ s1.length) (h2 : s1.length ≤ 5) (h3 : s2.length = s1.length) (hk : k s1 s2) : onBoth (eSign s1) (eSign s2) E k := onAny_v h1 h2 (onAny_v (by omega) (by omega) (by rw [if_pos h3.symm]; exact hk))
theorem onAny_bind {x : PyData} {E : Str → Prop} {k k2 : Sign → Prop} (h : onAny x E k) (hA : ∀ s, x = eSign s → 1 ≤ s.length → s.length ≤ 5 → k s → k2 s) : onAny x E k2 := by
  refine ⟨h.1, ?_⟩
  have h2 := h.2
  by_cases v : isAny x = true
  · rw [if_pos v] at h2 ⊢
    obtain ⟨a, b, c⟩ := any_e v
    exact hA _ a b c h2
  · rw [if_neg v] at h2 ⊢
    exact h2
theorem onBoth_bind {x y : PyData} {E : Str → Prop} {k k2 : Sign → Sign → Prop} (h : onBoth x y E k) (hA : ∀ s1 s2, x = eSign s1 → y = eSign s2 → 1 ≤ s1.length → s1.length ≤ 5 → s1.length = s2.length → k s1 s2 → k2 s1 s2) : onBoth x y E k2 :=
  onAny_bind h fun s1 e1 a1 b1 h1 => onAny_bind h1 fun s2 e2 a2 b2 h2 => by
    by_cases c : s1.length = s2.length
    · rw [if_pos c] at h2 ⊢
      exact hA s1 s2 e1 e2 a1 b1 c h2
    · rw [if_neg c] at h2 ⊢
      exact h2
def Sp_look_both : DSp := fun ds Q E => ∃ x y, ds = [x, y] ∧ onBoth x y E fun _ _ => Q .none
def w_look_both : DS := (wIfS (wTst (wBin NeD (wFn Sp_look_any (wCons (wVar 0) wNil)) (wFn Sp_look_any (wCons (wVar 1) wNil)))) (wRaise "BadSign") wNx)
theorem m_look_both (ds : List PyData) (Q : PyData → Prop) (E : Str → Prop) (h : Sp_look_both ds Q E) : w_look_both (startG ["one", "other"] ds) (endO Q E) := by
  obtain ⟨x, y, rfl, h⟩ := h
  show w_look_both [.dat x, .dat y] _
  refine ⟨_, rfl, _, rfl, onAny_bind h fun s1 e1 a1 b1 h1 => ⟨_, rfl, _, rfl, onAny_bind h1 fun s2 e2 a2 b2 h2 => ?_⟩⟩
  refine ⟨_, ⟨rfl, (sh_n _).ok, (sh_n _).ok⟩, _, rfl, ?_⟩
  rw [eqv_n]
  by_cases c : s1.length = s2.length
  · rw [if_pos c] at h2
    rw [decide_eq_true c]
    exact h2
  · rw [if_neg c] at h2
    rw [decide_eq_false c]
    exact h2
end Sg

/-! SemTold: told ticks. -/
namespace Sg
open PySem L2 Dt
def SpNo : DSp := fun _ _ _ => False
section
variable {P : Program} {w : World} {K : PySem.W.Frag} {mg : Str → Option Value} {base : Heap} {x : Str}
theorem fok_no {st : Stmt} {ps : List Str} {k : Nat} {sp : DSp} (hD : DefAt K x st) (hm : mg x = some (.ref (He.ga K x))) (bd : BindsOk x st ps) (hn : ∀ ds Q E, ¬ sp ds Q E) : Fok P w K mg base x k ps (spD K sp) := by
  obtain ⟨fd, F⟩ := hD
  exact ⟨fd, ⟨fun vs H Q E ⟨_, ds, Qd, Ed, _, _, h, _⟩ => (hn ds Qd Ed h).elim, fun A outer s H args us vs Q E _ _ _ _ ⟨_, ds, Qd, Ed, _, _, h, _⟩ => (hn ds Qd Ed h).elim⟩, F.bindsN bd, F.kp, hm⟩
end
def validTold (x : PyData) (n : Nat) : Bool := match x with
  | .list l => decide (1 ≤ (l.length : Int)) && decide ((l.length : Int) ≤ 12) && (l.all fun y => isWhole y 0 ((n : Int) - 1)) && decide (usort (l.map intOf) = l.map intOf)
  | _ => false
def toldOf : PyData → List Nat
  | .list l => l.map fun y => (intOf y).toNat
  | _ => []
def onTold (x : PyData) (n : Nat) (E : Str → Prop) (k : List Nat → Prop) : Prop := if validTold x n = true then k (toldOf x) else E "BadTold"
structure ToldV (ts : List Nat) (n : Nat) : Prop where
  n1 : 1 ≤ ts.length
  n2 : ts.length ≤ 12
  up : ts.Pairwise (· < ·)
  lt : ∀ t ∈ ts, t < n
theorem up_nat {l : List Nat} : (l.map fun (i : Nat) => (i : Int)).Pairwise (· < ·) ↔ l.Pairwise (· < ·) := by
  rw [List.pairwise_map]
  constructor
  · exact fun h => h.imp fun h => by omega
  · exact fun h => h.imp fun h => by omega
theorem usort_self {l : List Int} : usort l = l ↔ l.Pairwise (· < ·) := ⟨fun h => h ▸ usort_up l, fun h => up_eq (usort_up l) h fun z => mem_usort l⟩
theorem told_e {x : PyData} {n : Nat} (h : validTold x n = true) : x = eTs (toldOf x) ∧ ToldV (toldOf x) n := by
  cases x with
  | list l =>
    unfold validTold at h
    simp only [Bool.and_eq_true, decide_eq_true_eq, List.all_eq_true] at h
    obtain ⟨⟨⟨h1, h2⟩, h3⟩, h4⟩ := h
    have e : ∀ y ∈ l, y = eN (intOf y).toNat ∧ (intOf y).toNat < n ∧ intOf y = ((intOf y).toNat : Int) := fun y hy => by
      obtain ⟨i, e1, e2, a, b⟩ := whole_e (h3 y hy)
      rw [e2, e1]
      refine ⟨?_, by omega, by omega⟩
      show PyData.int i = .int ((i.toNat : Nat) : Int)
      rw [Int.toNat_of_nonneg a]
    refine ⟨?_, ?_⟩
    · show PyData.list l = .list ((l.map fun y => (intOf y).toNat).map eN)
      rw [List.map_map]
      exact congrArg PyData.list ((List.map_id l).symm.trans (List.map_congr_left fun y hy => (e y hy).1))
    · refine ⟨by show 1 ≤ (l.map _).length; rw [List.length_map]; omega, by show (l.map _).length ≤ 12; rw [List.length_map]; omega, ?_, ?_⟩
      · show (l.map fun y => (intOf y).toNat).Pairwise (· < ·)
        rw [← up_nat, List.map_map]
        have : (l.map ((fun (i : Nat) => (i : Int)) ∘ fun y => (intOf y).toNat)) = l.map intOf := List.map_congr_left fun y hy => (e y hy).2.2.symm
        rw [this]
        exact usort_self.mp h4
      · intro t ht
        obtain ⟨y, hy, rfl⟩ := List.mem_map.mp (show t ∈ l.map _ from ht)
        exact (e y hy).2.1
  | _ => cases h
theorem toldOf_e (ts : List Nat) : toldOf (eTs ts) = ts := map_back _ _ (fun _ => rfl) ts
theorem ints_e (ts : List Nat) : (ts.map eN).map intOf = ts.map fun (i : Nat) => (i : Int) := by rw [List.map_map]; rfl
theorem ToldV.valid {ts : List Nat} {n : Nat} (h : ToldV ts n) : validTold (eTs ts) n = true := by
  show (decide (1 ≤ ((ts.map eN).length : Int)) && decide (((ts.map eN).length : Int) ≤ 12) && ((ts.map eN).all fun y => isWhole y 0 ((n : Int) - 1)) && decide (usort ((ts.map eN).map intOf) = (ts.map eN).map intOf)) = true
  have a := h.n1
  have b := h.n2
  rw [List.length_map, decide_eq_true (by omega), decide_eq_true (by omega), ints_e, decide_eq_true (usort_self.mpr (up_nat.mpr h.up)), Bool.and_true, Bool.true_and, Bool.true_and, List.all_eq_true]
  intro y hy
  obtain ⟨t, ht, rfl⟩ := List.mem_map.mp hy
  have := h.lt t ht
  exact e_whole (by omega) (by omega)
theorem onTold_v {ts : List Nat} {n : Nat} {E : Str → Prop} {k : List Nat → Prop} (h : ToldV ts n) (hk : k ts) : onTold (eTs ts) n E k := by
  unfold onTold
  rw [if_pos h.valid, toldOf_e]
  exact hk
theorem onTold_bind {x : PyData} {n : Nat} {E : Str → Prop} {k : List Nat → Prop} {A : Prop} (h : onTold x n E k) (hA : ∀ ts, x = eTs ts → ToldV ts n → k ts → A) : onTold x n E fun _ => A := by
  unfold onTold at h ⊢
  by_cases v : validTold x n = true
  · rw [if_pos v] at h ⊢
    exact hA _ (told_e v).1 (told_e v).2 h
  · rw [if_neg v] at h ⊢
    exact h
theorem bad_told {x : PyData} {n : Nat} {E : Str → Prop} {k : List Nat → Prop} (h : validTold x n = false) (hE : E "BadTold") : onTold x n E k := by
  unfold onTold
  rw [if_neg (by rw [h]; exact Bool.false_ne_true)]
  exact hE
def Sp_look_told : DSp := fun ds Q E => ∃ d l x, ds = [d, x] ∧ SeqD d l ∧ onTold x l.length E fun _ => Q .none
def w_look_told : DS := (wSq (wIfS (wtOr (wtNot (wTru (wIsi isLst (wVar 1)))) (wtNot (wTst (wChain LeD LeD (wC (.int 1)) (wCall LenC (wCons (wVar 1) wNil)) (wC (.int 12)))))) (wRaise "BadTold") wNx)
  (wSq (wFor (wSeq (wVar 1)) (gdN 2) (wEx (wFn Sp_look_tick (wCons (wVar 0) (wCons (wVar 2) wNil)))))
  (wIfS (wTst (wBin NeD (wSrtSet (wVar 1)) (wVar 1))) (wRaise "BadTold") wNx)))
theorem m_look_told (ds : List PyData) (Q : PyData → Prop) (E : Str → Prop) (h : Sp_look_told ds Q E) : w_look_told (startG ["rows", "told", "tick"] ds) (endO Q E) := by
  obtain ⟨d, l0, x, rfl, hd, h⟩ := h
  show w_look_told [.dat d, .dat x, .no] _
  refine ⟨_, rfl, _, rfl, ?_⟩
  unfold onTold at h
  have stop : validTold x l0.length = false → E "BadTold" := fun e => by rw [if_neg (by rw [e]; exact Bool.false_ne_true)] at h; exact h
  cases x with
  | list l =>
    refine ⟨_, rfl, _, ⟨_, _, rfl, rfl, rfl⟩, _, rfl, ?_⟩
    refine iteB (fun c1 => ?_) (fun c1 => ?_)
    · refine ⟨_, rfl, _, rfl, ?_⟩
      refine iteB (fun c2 => ?_) (fun c2 => ?_)
      · rw [Bool.not_eq_true'] at c2
        exact stop (by unfold validTold; simp only [c1, c2, Bool.true_and, Bool.false_and])
      rw [Bool.not_eq_false'] at c2
      refine ⟨_, rfl, _, rfl, ?_⟩
      rw [show l = l.map id by rw [List.map_id]]
      refine for_inv id l (fun pre Γ => (∀ s ∈ pre, isWhole s 0 ((l0.length : Int) - 1) = true) ∧ ∃ x2, Γ = [.dat d, .dat (.list l), x2]) ?_ ?_ ⟨fun _ h => absurd h List.not_mem_nil, _, by rw [List.map_id]⟩
      · rintro pre t post Γ e ⟨hp, x2, rfl⟩ next hk
        have hs : t ∈ l := by rw [e]; exact List.mem_append.mpr (.inr List.mem_cons_self)
        refine ⟨_, rfl, _, rfl, d, l0, t, rfl, hd, ?_⟩
        refine iteB (fun c3 => ?_) (fun c3 => ?_)
        · exact hk _ ⟨fun s' hs' => by
            rcases List.mem_append.mp hs' with z | z
            · exact hp s' z
            · rw [List.mem_singleton.mp z]; exact c3, _, rfl⟩
        · refine stop ?_
          unfold validTold
          simp only [c1, c2, Bool.true_and]
          rw [show (l.all fun y => isWhole y 0 ((l0.length : Int) - 1)) = false from List.all_eq_false.mpr ⟨t, hs, by rw [show isWhole t 0 ((l0.length : Int) - 1) = false from c3]; exact Bool.false_ne_true⟩]
          rfl
      · rintro Γ ⟨hp, x2, rfl⟩
        have el : l = (l.map intOf).map PyData.int := by
          rw [List.map_map]
          refine (List.map_id l).symm.trans (List.map_congr_left fun y hy => ?_)
          obtain ⟨i, e1, e2, _, _⟩ := whole_e (hp y hy)
          show y = PyData.int (intOf y)
          rw [e2, e1]
        have hlen : l.length ≤ 12 := by have := of_decide_eq_true c2; omega
        have hv : validTold (.list l) l0.length = decide (usort (l.map intOf) = l.map intOf) := by
          unfold validTold
          simp only [c1, c2, Bool.true_and]
          rw [show (l.all fun y => isWhole y 0 ((l0.length : Int) - 1)) = true from List.all_eq_true.mpr hp, Bool.true_and]
        rw [hv] at h
        have sh1 : ∀ ns : List Int, Sh 1 (.list (ns.map PyData.int)) := fun ns => .list (sh_map .int ns)
        refine ⟨_, rfl, l.map intOf, congrArg PyData.list el, by rw [List.length_map]; omega, _, rfl, _, ⟨rfl, (sh1 _).ok, ?_⟩, _, rfl, ?_⟩
        · rw [el]
          exact (sh1 _).ok
        · have ee : PyData.eqv (.list ((usort (l.map intOf)).map PyData.int)) (.list l) = decide (usort (l.map intOf) = l.map intOf) := by
            conv => lhs; rw [el]
            have : ∀ i : Int, intOf (.int i) = i := fun _ => rfl
            rw [map_back PyData.int intOf (fun _ => rfl)]
            exact eqv_list eqv_int _ _
          rw [ee]
          refine iteB (fun c4 => ?_) (fun c4 => ?_)
          · rw [Bool.not_eq_true'] at c4
            rw [c4] at h
            exact h
          · rw [Bool.not_eq_false'] at c4
            rw [c4] at h
            exact h
    · exact ⟨_, rfl, stop (by unfold validTold; simp only [c1, Bool.false_and])⟩
  | _ => exact stop rfl
end Sg

/-! SemX6: what was caught, told by its kind. -/
namespace Sg
open PySem L2 Dt
def xcl : List Str := ["BadRows", "BadSign", "BadTold", "BadNumber", "NoSign", "BadText"]
def kindOf (c : Str) : Str := if c = "BadRows" then "rows" else if c = "BadSign" then "sign" else if c = "BadTold" then "told" else if c = "BadNumber" then "number" else if c = "NoSign" then "none" else "text"
def refD (c : Str) : PyData := .tuple [.str "refused", .str (kindOf c)]
def Sp__law_refusal : DSp := fun ds Q _ => (∃ c, ds = [excD c] ∧ c ∈ xcl ∧ Q (refD c)) ∨ (ds = [.none] ∧ Q (.tuple [.str "ok"]))
def w__law_refusal : DS := (wSq (wIfS (wTst (wBin IsND (wVar 0) (wC .none))) (wRet (wTup (wCons (wC (.str "ok")) wNil))) wNx)
  (wSq (wSet 1 (wLst (wCons (wIsx ["BadRows", "BadSign", "BadTold", "BadNumber", "NoSign", "BadText"] (fun c => decide (c = "BadRows")) (wVar 0)) (wCons (wIsx ["BadRows", "BadSign", "BadTold", "BadNumber", "NoSign", "BadText"] (fun c => decide (c = "BadSign")) (wVar 0)) (wCons (wIsx ["BadRows", "BadSign", "BadTold", "BadNumber", "NoSign", "BadText"] (fun c => decide (c = "BadTold")) (wVar 0)) wNil)))))
  (wSq (wSet 1 (wBin AddD (wVar 1) (wLst (wCons (wIsx ["BadRows", "BadSign", "BadTold", "BadNumber", "NoSign", "BadText"] (fun c => decide (c = "BadNumber")) (wVar 0)) (wCons (wIsx ["BadRows", "BadSign", "BadTold", "BadNumber", "NoSign", "BadText"] (fun c => decide (c = "NoSign")) (wVar 0)) (wCons (wIsx ["BadRows", "BadSign", "BadTold", "BadNumber", "NoSign", "BadText"] (fun c => decide (c = "BadText")) (wVar 0)) wNil))))))
  (wSq (wIfS (wtOr (wTst (wBin NeD (wLm CntL (wVar 1) (wC (.bool true))) (wC (.int 1)))) (wtNot (wTru (wIsx ["BadRows", "BadSign", "BadTold", "BadNumber", "NoSign", "BadText"] (fun _ => true) (wVar 0))))) (wRet (wTup (wCons (wC (.str "wrong")) wNil))) wNx)
  (wRet (wTup (wCons (wC (.str "refused")) (wCons (wBin IxD (wLst (wCons (wC (.str "rows")) (wCons (wC (.str "sign")) (wCons (wC (.str "told")) (wCons (wC (.str "number")) (wCons (wC (.str "none")) (wCons (wC (.str "text")) wNil))))))) (wLm IdxL (wVar 1) (wC (.bool true)))) wNil))))))))

theorem xd_BadRows_BadRows : decide (("BadRows" : Str) = "BadRows") = true := by decide +kernel
theorem xd_BadRows_BadSign : decide (("BadRows" : Str) = "BadSign") = false := by decide +kernel
theorem xd_BadRows_BadTold : decide (("BadRows" : Str) = "BadTold") = false := by decide +kernel
theorem xd_BadRows_BadNumber : decide (("BadRows" : Str) = "BadNumber") = false := by decide +kernel
theorem xd_BadRows_NoSign : decide (("BadRows" : Str) = "NoSign") = false := by decide +kernel
theorem xd_BadRows_BadText : decide (("BadRows" : Str) = "BadText") = false := by decide +kernel
theorem xd_BadSign_BadRows : decide (("BadSign" : Str) = "BadRows") = false := by decide +kernel
theorem xd_BadSign_BadSign : decide (("BadSign" : Str) = "BadSign") = true := by decide +kernel
theorem xd_BadSign_BadTold : decide (("BadSign" : Str) = "BadTold") = false := by decide +kernel
theorem xd_BadSign_BadNumber : decide (("BadSign" : Str) = "BadNumber") = false := by decide +kernel
theorem xd_BadSign_NoSign : decide (("BadSign" : Str) = "NoSign") = false := by decide +kernel
theorem xd_BadSign_BadText : decide (("BadSign" : Str) = "BadText") = false := by decide +kernel
theorem xd_BadTold_BadRows : decide (("BadTold" : Str) = "BadRows") = false := by decide +kernel
theorem xd_BadTold_BadSign : decide (("BadTold" : Str) = "BadSign") = false := by decide +kernel
theorem xd_BadTold_BadTold : decide (("BadTold" : Str) = "BadTold") = true := by decide +kernel
theorem xd_BadTold_BadNumber : decide (("BadTold" : Str) = "BadNumber") = false := by decide +kernel
theorem xd_BadTold_NoSign : decide (("BadTold" : Str) = "NoSign") = false := by decide +kernel
theorem xd_BadTold_BadText : decide (("BadTold" : Str) = "BadText") = false := by decide +kernel
theorem xd_BadNumber_BadRows : decide (("BadNumber" : Str) = "BadRows") = false := by decide +kernel
theorem xd_BadNumber_BadSign : decide (("BadNumber" : Str) = "BadSign") = false := by decide +kernel
theorem xd_BadNumber_BadTold : decide (("BadNumber" : Str) = "BadTold") = false := by decide +kernel
theorem xd_BadNumber_BadNumber : decide (("BadNumber" : Str) = "BadNumber") = true := by decide +kernel
theorem xd_BadNumber_NoSign : decide (("BadNumber" : Str) = "NoSign") = false := by decide +kernel
theorem xd_BadNumber_BadText : decide (("BadNumber" : Str) = "BadText") = false := by decide +kernel
theorem xd_NoSign_BadRows : decide (("NoSign" : Str) = "BadRows") = false := by decide +kernel
theorem xd_NoSign_BadSign : decide (("NoSign" : Str) = "BadSign") = false := by decide +kernel
theorem xd_NoSign_BadTold : decide (("NoSign" : Str) = "BadTold") = false := by decide +kernel
theorem xd_NoSign_BadNumber : decide (("NoSign" : Str) = "BadNumber") = false := by decide +kernel
theorem xd_NoSign_NoSign : decide (("NoSign" : Str) = "NoSign") = true := by decide +kernel
theorem xd_NoSign_BadText : decide (("NoSign" : Str) = "BadText") = false := by decide +kernel
theorem xd_BadText_BadRows : decide (("BadText" : Str) = "BadRows") = false := by decide +kernel
theorem xd_BadText_BadSign : decide (("BadText" : Str) = "BadSign") = false := by decide +kernel
theorem xd_BadText_BadTold : decide (("BadText" : Str) = "BadTold") = false := by decide +kernel
theorem xd_BadText_BadNumber : decide (("BadText" : Str) = "BadNumber") = false := by decide +kernel
theorem xd_BadText_NoSign : decide (("BadText" : Str) = "NoSign") = false := by decide +kernel
theorem xd_BadText_BadText : decide (("BadText" : Str) = "BadText") = true := by decide +kernel
theorem kd_BadRows : kindOf "BadRows" = "rows" := by decide +kernel
theorem kd_BadSign : kindOf "BadSign" = "sign" := by decide +kernel
theorem kd_BadTold : kindOf "BadTold" = "told" := by decide +kernel
theorem kd_BadNumber : kindOf "BadNumber" = "number" := by decide +kernel
theorem kd_NoSign : kindOf "NoSign" = "none" := by decide +kernel
theorem kd_BadText : kindOf "BadText" = "text" := by decide +kernel
theorem sh_bools (l : List Bool) : Sh 1 (.list (l.map .bool)) := .list (sh_map .bool l)
theorem m__law_refusal (ds : List PyData) (Q : PyData → Prop) (E : Str → Prop) (h : Sp__law_refusal ds Q E) : w__law_refusal (startG ["caught", "kinds"] ds) (endO Q E) := by
  rcases h with ⟨c, rfl, hc, q⟩ | ⟨rfl, q⟩
  · show w__law_refusal [.dat (excD c), .no] _
    refine ⟨_, rfl, _, ⟨rfl, rfl⟩, _, rfl, ?_⟩
    refine Eq.mpr (if_neg Bool.false_ne_true) ?_
    refine ⟨_, rfl, c, rfl, hc, _, rfl, c, rfl, hc, _, rfl, c, rfl, hc, lit_size rfl, ?_⟩
    refine ⟨_, rfl, _, rfl, c, rfl, hc, _, rfl, c, rfl, hc, _, rfl, c, rfl, hc, lit_size rfl, _, ⟨rfl, lit_size rfl⟩, ?_⟩
    refine ⟨_, rfl, _, rfl, _, ⟨rfl, (sh_bools [decide (c = "BadRows"), decide (c = "BadSign"), decide (c = "BadTold"), decide (c = "BadNumber"), decide (c = "NoSign"), decide (c = "BadText")]).ok, (Sh.bool _).ok⟩, _, ⟨rfl, (Sh.int _).ok, (Sh.int _).ok⟩, _, rfl, ?_⟩
    have hs := (sh_bools [decide (c = "BadRows"), decide (c = "BadSign"), decide (c = "BadTold"), decide (c = "BadNumber"), decide (c = "NoSign"), decide (c = "BadText")]).ok
    simp only [xcl, List.mem_cons, List.not_mem_nil, or_false] at hc
    rcases hc with rfl | rfl | rfl | rfl | rfl | rfl
    · simp only [xd_BadRows_BadRows, xd_BadRows_BadSign, xd_BadRows_BadTold, xd_BadRows_BadNumber, xd_BadRows_NoSign, xd_BadRows_BadText] at hs ⊢
      refine Eq.mpr (if_neg Bool.false_ne_true) ⟨_, rfl, "BadRows", rfl, by decide +kernel, _, rfl, ?_⟩
      refine Eq.mpr (if_neg Bool.false_ne_true) ⟨lit_size rfl, _, rfl, _, rfl, _, ⟨0, .bool true, rfl, hs, (Sh.bool _).ok, rfl, rfl, fun m z hm hz => ?_⟩, _, atI_nat (j := 0) rfl, lit_size rfl, ?_⟩
      · exact absurd hm (Nat.not_lt_zero _)
      · unfold refD at q
        rw [kd_BadRows] at q
        exact q
    · simp only [xd_BadSign_BadRows, xd_BadSign_BadSign, xd_BadSign_BadTold, xd_BadSign_BadNumber, xd_BadSign_NoSign, xd_BadSign_BadText] at hs ⊢
      refine Eq.mpr (if_neg Bool.false_ne_true) ⟨_, rfl, "BadSign", rfl, by decide +kernel, _, rfl, ?_⟩
      refine Eq.mpr (if_neg Bool.false_ne_true) ⟨lit_size rfl, _, rfl, _, rfl, _, ⟨1, .bool true, rfl, hs, (Sh.bool _).ok, rfl, rfl, fun m z hm hz => ?_⟩, _, atI_nat (j := 1) rfl, lit_size rfl, ?_⟩
      · match m, hm with
        | 0, _ => cases hz; rfl
      · unfold refD at q
        rw [kd_BadSign] at q
        exact q
    · simp only [xd_BadTold_BadRows, xd_BadTold_BadSign, xd_BadTold_BadTold, xd_BadTold_BadNumber, xd_BadTold_NoSign, xd_BadTold_BadText] at hs ⊢
      refine Eq.mpr (if_neg Bool.false_ne_true) ⟨_, rfl, "BadTold", rfl, by decide +kernel, _, rfl, ?_⟩
      refine Eq.mpr (if_neg Bool.false_ne_true) ⟨lit_size rfl, _, rfl, _, rfl, _, ⟨2, .bool true, rfl, hs, (Sh.bool _).ok, rfl, rfl, fun m z hm hz => ?_⟩, _, atI_nat (j := 2) rfl, lit_size rfl, ?_⟩
      · match m, hm with
        | 0, _ => cases hz; rfl
        | 1, _ => cases hz; rfl
      · unfold refD at q
        rw [kd_BadTold] at q
        exact q
    · simp only [xd_BadNumber_BadRows, xd_BadNumber_BadSign, xd_BadNumber_BadTold, xd_BadNumber_BadNumber, xd_BadNumber_NoSign, xd_BadNumber_BadText] at hs ⊢
      refine Eq.mpr (if_neg Bool.false_ne_true) ⟨_, rfl, "BadNumber", rfl, by decide +kernel, _, rfl, ?_⟩
      refine Eq.mpr (if_neg Bool.false_ne_true) ⟨lit_size rfl, _, rfl, _, rfl, _, ⟨3, .bool true, rfl, hs, (Sh.bool _).ok, rfl, rfl, fun m z hm hz => ?_⟩, _, atI_nat (j := 3) rfl, lit_size rfl, ?_⟩
      · match m, hm with
        | 0, _ => cases hz; rfl
        | 1, _ => cases hz; rfl
        | 2, _ => cases hz; rfl
      · unfold refD at q
        rw [kd_BadNumber] at q
        exact q
    · simp only [xd_NoSign_BadRows, xd_NoSign_BadSign, xd_NoSign_BadTold, xd_NoSign_BadNumber, xd_NoSign_NoSign, xd_NoSign_BadText] at hs ⊢
      refine Eq.mpr (if_neg Bool.false_ne_true) ⟨_, rfl, "NoSign", rfl, by decide +kernel, _, rfl, ?_⟩
      refine Eq.mpr (if_neg Bool.false_ne_true) ⟨lit_size rfl, _, rfl, _, rfl, _, ⟨4, .bool true, rfl, hs, (Sh.bool _).ok, rfl, rfl, fun m z hm hz => ?_⟩, _, atI_nat (j := 4) rfl, lit_size rfl, ?_⟩
      · match m, hm with
        | 0, _ => cases hz; rfl
        | 1, _ => cases hz; rfl
        | 2, _ => cases hz; rfl
        | 3, _ => cases hz; rfl
      · unfold refD at q
        rw [kd_NoSign] at q
        exact q
    · simp only [xd_BadText_BadRows, xd_BadText_BadSign, xd_BadText_BadTold, xd_BadText_BadNumber, xd_BadText_NoSign, xd_BadText_BadText] at hs ⊢
      refine Eq.mpr (if_neg Bool.false_ne_true) ⟨_, rfl, "BadText", rfl, by decide +kernel, _, rfl, ?_⟩
      refine Eq.mpr (if_neg Bool.false_ne_true) ⟨lit_size rfl, _, rfl, _, rfl, _, ⟨5, .bool true, rfl, hs, (Sh.bool _).ok, rfl, rfl, fun m z hm hz => ?_⟩, _, atI_nat (j := 5) rfl, lit_size rfl, ?_⟩
      · match m, hm with
        | 0, _ => cases hz; rfl
        | 1, _ => cases hz; rfl
        | 2, _ => cases hz; rfl
        | 3, _ => cases hz; rfl
        | 4, _ => cases hz; rfl
      · unfold refD at q
        rw [kd_BadText] at q
        exact q
  · show w__law_refusal [.dat .none, .no] _
    exact ⟨_, rfl, _, ⟨rfl, rfl⟩, _, rfl, lit_size rfl, q⟩
theorem sh_str {x : Str} (h : PyData.canLay0 (.str x) = true) : Sh 0 (.str x) := ⟨h, Nat.le_refl _⟩
theorem sh_ref {c : Str} (hc : c ∈ xcl) : Sh 1 (refD c) := .tup fun x hx => by
  rcases List.mem_cons.mp hx with rfl | hx
  · exact sh_str (by decide +kernel)
  · rw [List.mem_singleton.mp hx]
    refine sh_str ?_
    simp only [xcl, List.mem_cons, List.not_mem_nil, or_false] at hc
    rcases hc with rfl | rfl | rfl | rfl | rfl | rfl <;> decide +kernel
end Sg

/-! SemH: small tools for laws with refusals. -/
namespace Sg
open PySem L2 Dt
def Mono (sp : DSp) : Prop := ∀ ds Q Q' E E', (∀ d, Q d → Q' d) → (∀ c, E c → E' c) → sp ds Q E → sp ds Q' E'
theorem ite_mono {c : Prop} [Decidable c] {A A' B B' : Prop} (h1 : A → A') (h2 : B → B') (h : if c then A else B) : if c then A' else B' := by
  by_cases q : c
  · rw [if_pos q] at h ⊢; exact h1 h
  · rw [if_neg q] at h ⊢; exact h2 h
/-! ### alike -/
mutual
theorem eqv_self0 : ∀ d : PyData, PyData.canLay0 d = true → PyData.eqv d d = true
  | .none, _ => rfl
  | .bool b, _ => by rw [eqv_bool]; cases b <;> rfl
  | .int i, _ => by rw [eqv_int]; exact decide_eq_true rfl
  | .str x, _ => by rw [eqv_str]; exact decide_eq_true rfl
  | .list l, h => by
    unfold PyData.canLay0 at h
    unfold PyData.eqv
    exact eqvAll_self0 l h
  | .tuple l, h => by
    unfold PyData.canLay0 at h
    unfold PyData.eqv
    exact eqvAll_self0 l h
  | .dict _, h => by
    unfold PyData.canLay0 at h
    cases h
theorem eqvAll_self0 : ∀ l : List PyData, PyData.canLayAll0 l = true → PyData.eqvAll l l = true
  | [], _ => rfl
  | x :: r, h => by
    have h2 : (PyData.canLay0 x && PyData.canLayAll0 r) = true := h
    rw [Bool.and_eq_true] at h2
    show (PyData.eqv x x && PyData.eqvAll r r) = true
    rw [eqv_self0 x h2.1, eqvAll_self0 r h2.2]
    rfl
end
theorem Sh.self {k : Nat} {d : PyData} (h : Sh k d) : PyData.eqv d d = true := eqv_self0 d h.1
theorem ne_self {x y : PyData} {k : Nat} (h : Sh k x) (e : y = x) : (!PyData.eqv x y) = false := by rw [e, h.self]; rfl
theorem rep_flat {α : Type} (x : α) (m : Nat) : (List.replicate m [x]).flatten = List.replicate m x := by
  induction m with
  | zero => rfl
  | succ m ih => rw [List.replicate_succ, List.flatten_cons, ih, List.replicate_succ]; rfl
theorem mul_l (x : PyData) (m : Nat) (hm : m ≤ 1000000) : MulD (.list [x]) (.int (m : Int)) (.list (List.replicate m x)) := ⟨by rw [Int.toNat_natCast, rep_flat], by omega, by omega, by rw [Int.toNat_natCast]; exact small_size (by show 1 * m ≤ _; omega)⟩
theorem mul_t (x : PyData) (m : Nat) (hm : m ≤ 1000) : MulD (.tuple [x]) (.int (m : Int)) (.tuple (List.replicate m x)) := ⟨by rw [Int.toNat_natCast, rep_flat], (by intro z; cases z), by omega, by omega, by show 1 ≤ 1000; decide⟩
theorem rng_rep {α : Type} (x : α) (n : Nat) : ((List.range n).map fun _ => x) = List.replicate n x := by rw [List.map_const', List.length_range]
theorem sh_rep {k : Nat} {x : PyData} (h : Sh k x) (n : Nat) : Sh (k + 1) (.list (List.replicate n x)) := .list fun y hy => by rw [(List.mem_replicate.mp hy).2]; exact h
theorem s_eq {i k : Nat} (j : Nat) {a b : DS} {Γ : Gm} {K : Out → Gm → Prop} (hg : Γ[i]? = some (.dat (eN k))) (h1 : k = j → a Γ K) (h2 : k ≠ j → b Γ K) : wIfS (wTst (wBin EqD (wVar i) (wC (.int (j : Int))))) a b Γ K := by
  refine ⟨_, hg, _, ⟨rfl, (sh_n _).ok, (Sh.int _).ok⟩, _, rfl, ?_⟩
  rw [show PyData.eqv (eN k) (.int (j : Int)) = decide (k = j) from eqv_n k j]
  by_cases c : k = j
  · rw [decide_eq_true c]; exact h1 c
  · rw [decide_eq_false c]; exact h2 c
theorem s_lt {i k : Nat} (j : Nat) {a b : DS} {Γ : Gm} {K : Out → Gm → Prop} (hg : Γ[i]? = some (.dat (eN k))) (h1 : k < j → a Γ K) (h2 : ¬ k < j → b Γ K) : wIfS (wTst (wBin LtD (wVar i) (wC (.int (j : Int))))) a b Γ K := by
  refine ⟨_, hg, _, rfl, _, rfl, ?_⟩
  by_cases c : k < j
  · rw [decide_eq_true (by omega : (k : Int) < (j : Int))]; exact h1 c
  · rw [decide_eq_false (by omega : ¬ (k : Int) < (j : Int))]; exact h2 c
theorem ref_eq {c k : Str} (h : kindOf c = k) : refD c = .tuple [.str "refused", .str k] := by unfold refD; rw [h]
theorem sh_rf {c : Str} (hc : c ∈ xcl) {k : Str} (h : kindOf c = k) : Sh 1 (.tuple [.str "refused", .str k]) := by rw [← ref_eq h]; exact sh_ref hc
theorem sign_no_len {l : List PyData} {m : Nat} (h : l.length ≠ m) : isSign (.tuple l) (m : Int) = false := by
  show (((l.length : Int) == (m : Int)) && l.all isWord) = false
  rw [show ((l.length : Int) == (m : Int)) = false by rw [beq_eq_false_iff_ne]; omega, Bool.false_and]
theorem sign_no_mem {l : List PyData} {m : Nat} {x : PyData} (hx : x ∈ l) (h : isWord x = false) : isSign (.tuple l) (m : Int) = false := by
  show (((l.length : Int) == (m : Int)) && l.all isWord) = false
  rw [show l.all isWord = false from List.all_eq_false.mpr ⟨x, hx, by rw [h]; exact Bool.false_ne_true⟩, Bool.and_false]
theorem szt_tup {l : List PyData} (h : l.length ≤ 1000) : SzT (.tuple l) := fun l' e => by
  rw [← PyData.tuple.inj e]; exact small_size (by omega)
theorem szt_no {x : PyData} (h : isTup x = false) : SzT x := fun l e => by rw [e] at h; cases h
theorem kR : ("BadRows" : Str) ∈ xcl := by decide +kernel
theorem kS : ("BadSign" : Str) ∈ xcl := by decide +kernel
theorem kT : ("BadTold" : Str) ∈ xcl := by decide +kernel
theorem kN : ("BadNumber" : Str) ∈ xcl := by decide +kernel
theorem map_rep {α : Type} (f : α → PyData) (x : PyData) (l : List α) (n : Nat) (hn : l.length = n) (h : ∀ a, f a = x) : l.map f = List.replicate n x := by
  rw [← hn, ← List.map_const']
  exact List.map_congr_left fun a _ => h a
def foundD (f : PyData) : PyData := .tuple [.str "found", f]
theorem sh_found {k : Nat} {f : PyData} (h : Sh k f) : Sh (k + 1) (foundD f) := .tup fun x hx => by
  rcases List.mem_cons.mp hx with rfl | hx
  · exact (sh_str (by decide +kernel)).up (Nat.zero_le _)
  · rw [List.mem_singleton.mp hx]; exact h
theorem ne_if {x y : PyData} {k : Nat} (h : Sh k x) (e : y = x) {A B : Prop} (hB : B) : if (!PyData.eqv x y) = true then A else B := by rw [ne_self h e]; exact hB
theorem cut_m1 {α : Type} (e : α → PyData) (l : List α) (h : 1 ≤ l.length) : cutD (l.map e) none (some (-1)) = (l.take (l.length - 1)).map e := by
  unfold cutD
  rw [List.length_map]
  show ((l.map e).drop 0).take ((if (-1 : Int) < 0 then ((-1 : Int) + (l.length : Int)).toNat else min (-1 : Int).toNat l.length) - 0) = _
  rw [if_pos (by decide), List.drop_zero, Nat.sub_zero, ← List.map_take, show ((-1 : Int) + (l.length : Int)).toNat = l.length - 1 by omega]
end Sg

/-! Lex: rows of numbers in order; signs in order. -/
namespace Sg
open PySem L2 Dt
/-! ### rows of numbers, in order -/
def lx : List Nat → List Nat → Bool
  | [], [] => false
  | [], _ :: _ => true
  | _ :: _, [] => false
  | x :: a, y :: b => if x = y then lx a b else decide (x < y)
theorem lx_self : ∀ a : List Nat, lx a a = false
  | [] => rfl
  | x :: a => by unfold lx; rw [if_pos rfl]; exact lx_self a
theorem lx_trans : ∀ {a b c : List Nat}, lx a b = true → lx b c = true → lx a c = true
  | [], [], _, h, _ => by cases h
  | [], _ :: _, [], _, h => by cases h
  | [], _ :: _, _ :: _, _, _ => rfl
  | _ :: _, [], _, h, _ => by cases h
  | _ :: _, _ :: _, [], _, h => by cases h
  | x :: a, y :: b, z :: c, h1, h2 => by
    unfold lx at h1 h2 ⊢
    by_cases e1 : x = y
    · rw [if_pos e1] at h1
      by_cases e2 : y = z
      · rw [if_pos e2] at h2
        rw [if_pos (e1.trans e2)]
        exact lx_trans h1 h2
      · rw [if_neg e2] at h2
        rw [if_neg (e1 ▸ e2), e1]
        exact h2
    · rw [if_neg e1] at h1
      have g1 := of_decide_eq_true h1
      by_cases e2 : y = z
      · rw [if_neg (e2 ▸ e1), ← e2]
        exact h1
      · rw [if_neg e2] at h2
        have g2 := of_decide_eq_true h2
        rw [if_neg (by omega)]
        exact decide_eq_true (by omega)
theorem lx_anti : ∀ {a b : List Nat}, lx a b = false → lx b a = false → a = b
  | [], [], _, _ => rfl
  | [], _ :: _, h, _ => by cases h
  | _ :: _, [], _, h => by cases h
  | x :: a, y :: b, h1, h2 => by
    unfold lx at h1 h2
    by_cases e : x = y
    · rw [if_pos e] at h1
      rw [if_pos e.symm] at h2
      rw [e, lx_anti h1 h2]
    · rw [if_neg e] at h1
      rw [if_neg (fun z => e z.symm)] at h2
      have := of_decide_eq_false h1
      have := of_decide_eq_false h2
      omega
theorem lx_snoc : ∀ {a b : List Nat} (t : Nat), a.length = b.length → lx (a ++ [t]) (b ++ [t]) = lx a b
  | [], [], t, _ => lx_self [t]
  | [], _ :: _, _, h => by cases h
  | _ :: _, [], _, h => by cases h
  | x :: a, y :: b, t, h => by
    show lx (x :: (a ++ [t])) (y :: (b ++ [t])) = lx (x :: a) (y :: b)
    unfold lx
    rw [lx_snoc t (Nat.succ.inj h)]
/-- if at each place up to which they are the same the one is no greater, it comes no later -/
theorem lx_by : ∀ {a b : List Nat}, a.length = b.length → (∀ i, i < a.length → (∀ j, j < i → a.getD j 0 = b.getD j 0) → a.getD i 0 ≤ b.getD i 0) → lx b a = false
  | [], [], _, _ => rfl
  | [], _ :: _, h, _ => by cases h
  | _ :: _, [], h, _ => by cases h
  | x :: a, y :: b, hl, h => by
    have h0 : x ≤ y := h 0 (Nat.succ_pos _) fun j hj => absurd hj (Nat.not_lt_zero _)
    unfold lx
    by_cases e : y = x
    · rw [if_pos e]
      refine lx_by (Nat.succ.inj hl) fun i hi hj => h (i + 1) (Nat.succ_lt_succ hi) fun j hj' => ?_
      cases j with
      | zero => exact e.symm
      | succ j => exact hj j (by omega)
    · rw [if_neg e]
      exact decide_eq_false (by omega)
theorem lx_data (a b : List Nat) : PySem.W.dataLt (eTs a) (eTs b) = lx a b := by
  unfold eTs
  rw [PySem.W.dataLt_list]
  induction a generalizing b with
  | nil =>
    cases b with
    | nil => exact PySem.W.dataLt_ints [] []
    | cons y b => exact (PySem.W.dataLt_ints [] ((y :: b).map fun (i : Nat) => (i : Int)) |> fun z => by rw [List.map_map] at z; exact z.trans rfl)
  | cons x a ih =>
    cases b with
    | nil => exact (PySem.W.dataLt_ints ((x :: a).map fun (i : Nat) => (i : Int)) [] |> fun z => by rw [List.map_map] at z; exact z.trans rfl)
    | cons y b =>
      rw [List.map_cons, List.map_cons, PySem.W.dataLt_cons (by rfl), ih b]
      show _ = (if x = y then lx a b else decide (x < y))
      rw [eqv_n, show PySem.W.dataLt (eN x) (eN y) = decide ((x : Int) < (y : Int)) from PySem.W.dataLt_int x y]
      by_cases e : x = y
      · rw [decide_eq_true e, if_pos rfl, if_pos e]
      · rw [decide_eq_false e, if_neg Bool.false_ne_true, if_neg e]
        by_cases c : x < y
        · rw [decide_eq_true c, decide_eq_true (by omega)]
        · rw [decide_eq_false c, decide_eq_false (by omega)]

/-! ### signs in order -/
def idx : Option Hold → Nat
  | some .high => 0
  | some .low => 1
  | some .rise => 2
  | some .fall => 3
  | none => 4
theorem idx_inj {a b : Option Hold} (h : idx a = idx b) : a = b := by
  cases a with
  | none => cases b with
    | none => rfl
    | some b => cases b <;> cases h
  | some a => cases b with
    | none => cases a <;> cases h
    | some b => cases a <;> cases b <;> first | rfl | cases h
def ordM (s : Sign) : List Nat := s.map idx
theorem ordM_inj : ∀ {a b : Sign}, ordM a = ordM b → a = b
  | [], [], _ => rfl
  | [], _ :: _, h => by cases h
  | _ :: _, [], h => by cases h
  | x :: a, y :: b, h => by
    obtain ⟨h1, h2⟩ := List.cons.inj h
    rw [idx_inj h1, ordM_inj h2]
def tellsM (s : Sign) : Nat := (s.filter fun w => w.isSome).length
/-- number, then row -/
def kLt (a b : Nat × List Nat) : Bool := if a.1 = b.1 then lx a.2 b.2 else decide (a.1 < b.1)
theorem kLt_irr (a : Nat × List Nat) : kLt a a = false := by
  unfold kLt
  rw [if_pos rfl]
  exact lx_self _
theorem kLt_trans {a b c : Nat × List Nat} (h1 : kLt a b = true) (h2 : kLt b c = true) : kLt a c = true := by
  unfold kLt at h1 h2 ⊢
  by_cases e1 : a.1 = b.1
  · rw [if_pos e1] at h1
    by_cases e2 : b.1 = c.1
    · rw [if_pos e2] at h2
      rw [if_pos (e1.trans e2)]
      exact lx_trans h1 h2
    · rw [if_neg e2] at h2
      rw [if_neg (fun z => e2 (e1.symm.trans z)), e1]
      exact h2
  · rw [if_neg e1] at h1
    have g1 := of_decide_eq_true h1
    by_cases e2 : b.1 = c.1
    · rw [if_neg (fun z => e1 (z.trans e2.symm)), ← e2]
      exact h1
    · rw [if_neg e2] at h2
      have g2 := of_decide_eq_true h2
      rw [if_neg (by omega)]
      exact decide_eq_true (by omega)
theorem kLt_anti {a b : Nat × List Nat} (h1 : kLt a b = false) (h2 : kLt b a = false) : a = b := by
  unfold kLt at h1 h2
  by_cases e : a.1 = b.1
  · rw [if_pos e] at h1
    rw [if_pos e.symm] at h2
    exact Prod.ext e (lx_anti h1 h2)
  · rw [if_neg e] at h1
    rw [if_neg (fun z => e z.symm)] at h2
    have := of_decide_eq_false h1
    have := of_decide_eq_false h2
    omega
/-- no greater -/
theorem kLe_trans {a b c : Nat × List Nat} (h1 : kLt b a = false) (h2 : kLt c b = false) : kLt c a = false := by
  cases h : kLt c a with
  | false => rfl
  | true =>
    cases h3 : kLt a b with
    | true => exact absurd (kLt_trans h h3) (by rw [h2]; exact Bool.false_ne_true)
    | false =>
      rw [kLt_anti h3 h1] at h
      rw [h2] at h
      cases h
theorem kLe_total (a b : Nat × List Nat) : kLt b a = false ∨ kLt a b = false := by
  cases h : kLt b a with
  | false => exact .inl rfl
  | true =>
    cases h2 : kLt a b with
    | false => exact .inr rfl
    | true => exact absurd (kLt_trans h h2) (by rw [kLt_irr]; exact Bool.false_ne_true)
def sKey (s : Sign) : Nat × List Nat := (tellsM s, ordM s)
def sLt (a b : Sign) : Bool := kLt (sKey a) (sKey b)
theorem sLt_anti {a b : Sign} (h1 : sLt a b = false) (h2 : sLt b a = false) : a = b := ordM_inj (congrArg Prod.snd (kLt_anti h1 h2))
/-- signs, those ahead that come first -/
def Srt (l : List Sign) : Prop := l.Pairwise fun a b => sLt b a = false
/-- the first of a sorted row is the least -/
theorem find_least {l : List Sign} {p : Sign → Bool} (hs : Srt l) {s : Sign} (h : l.find? p = some s) : s ∈ l ∧ p s = true ∧ ∀ x ∈ l, p x = true → sLt x s = false := by
  induction l with
  | nil => cases h
  | cons a l ih =>
    obtain ⟨h1, h2⟩ := List.pairwise_cons.mp hs
    rw [List.find?_cons] at h
    cases hp : p a with
    | true =>
      rw [hp] at h
      cases h
      refine ⟨List.mem_cons_self, hp, fun x hx _ => ?_⟩
      rcases List.mem_cons.mp hx with rfl | hx
      · exact kLt_irr _
      · exact h1 x hx
    | false =>
      rw [hp] at h
      obtain ⟨g1, g2, g3⟩ := ih h2 h
      refine ⟨List.mem_cons_of_mem _ g1, g2, fun x hx hpx => ?_⟩
      rcases List.mem_cons.mp hx with rfl | hx
      · rw [hp] at hpx; cases hpx
      · exact g3 x hx hpx
theorem find_same {l l' : List Sign} {p p' : Sign → Bool} (hs : Srt l) (hs' : Srt l') (h : ∀ x, (x ∈ l ∧ p x = true) ↔ (x ∈ l' ∧ p' x = true)) : l.find? p = l'.find? p' := by
  cases h1 : l.find? p with
  | none =>
    cases h2 : l'.find? p' with
    | none => rfl
    | some s =>
      obtain ⟨g1, g2, _⟩ := find_least hs' h2
      obtain ⟨q1, q2⟩ := (h s).mpr ⟨g1, g2⟩
      exact absurd q2 (List.find?_eq_none.mp h1 s q1)
  | some s =>
    obtain ⟨g1, g2, g3⟩ := find_least hs h1
    obtain ⟨q1, q2⟩ := (h s).mp ⟨g1, g2⟩
    cases h2 : l'.find? p' with
    | none => exact absurd q2 (List.find?_eq_none.mp h2 s q1)
    | some s' =>
      obtain ⟨k1, k2, k3⟩ := find_least hs' h2
      obtain ⟨j1, j2⟩ := (h s').mpr ⟨k1, k2⟩
      rw [sLt_anti (k3 s q1 q2) (g3 s' j1 j2)]
/-! ### sorting by keys -/
theorem alike_n (a b : Nat) : PySem.W.alike (eN a) (eN b) = true := rfl
theorem alike_ns : ∀ a b : List Nat, PySem.W.alikeAll (a.map eN) (b.map eN) = true := fun a b => by
  have e : ∀ a : List Nat, a.map eN = (a.map fun (i : Nat) => (i : Int)).map PyData.int := fun a => by rw [List.map_map]; rfl
  rw [e, e]
  exact PySem.W.alike_ints _ _
theorem lx_tup (a b : List Nat) : PySem.W.dataLt (.tuple (a.map eN)) (.tuple (b.map eN)) = lx a b := by
  rw [PySem.W.dataLt_tuple, ← PySem.W.dataLt_list]
  exact lx_data a b
theorem lt_n (a b : Nat) : PySem.W.dataLt (eN a) (eN b) = decide (a < b) := by
  unfold eN
  rw [PySem.W.dataLt_int]
  by_cases c : a < b
  · rw [decide_eq_true c, decide_eq_true (by omega)]
  · rw [decide_eq_false c, decide_eq_false (by omega)]
/-- the law's key -/
def ePair (p : Nat × List Nat) : PyData := .tuple [eN p.1, .tuple (p.2.map eN)]
theorem lt_pair (p q : Nat × List Nat) : PySem.W.dataLt (ePair p) (ePair q) = kLt p q := by
  unfold ePair kLt
  rw [PySem.W.dataLt_pair (alike_n _ _) (by unfold PySem.W.alike; exact alike_ns _ _), eqv_n, lt_n, lx_tup, eqv_tup eqv_n]
  by_cases e : p.1 = q.1
  · rw [if_pos (decide_eq_true e), if_pos e]
    by_cases e2 : p.2 = q.2
    · rw [if_pos (decide_eq_true e2), e2, lx_self]
    · rw [if_neg (by rw [decide_eq_false e2]; exact Bool.false_ne_true)]
  · rw [if_neg (by rw [decide_eq_false e]; exact Bool.false_ne_true), if_neg e]
/-- the program's key: its place behind it -/
def eTrip (p : (Nat × List Nat) × Nat) : PyData := .tuple [eN p.1.1, eTs p.1.2, eN p.2]
theorem lt_trip (p q : (Nat × List Nat) × Nat) : PySem.W.dataLt (eTrip p) (eTrip q) = if p.1 = q.1 then decide (p.2 < q.2) else kLt p.1 q.1 := by
  have al : PySem.W.alike (eTs p.1.2) (eTs q.1.2) = true := by unfold eTs PySem.W.alike; exact alike_ns _ _
  unfold eTrip
  rw [PySem.W.dataLt_tuple, PySem.W.dataLt_cons (alike_n _ _), PySem.W.dataLt_cons al, PySem.W.dataLt_cons (alike_n _ _), eqv_n, eqv_tsN, eqv_n, lt_n, lt_n, lx_data]
  have e0 : PyProof.Rows.lexLt PyProof.Rows.itemOrd (PySem.W.keyToksAll []) (PySem.W.keyToksAll []) = false := PySem.W.dataLt_ints [] []
  rw [e0]
  unfold kLt
  by_cases e : p.1.1 = q.1.1
  · rw [if_pos (decide_eq_true e)]
    by_cases e2 : p.1.2 = q.1.2
    · rw [if_pos (decide_eq_true e2), if_pos (Prod.ext e e2)]
      by_cases e3 : p.2 = q.2
      · rw [if_pos (decide_eq_true e3), decide_eq_false (by omega)]
      · rw [if_neg (by rw [decide_eq_false e3]; exact Bool.false_ne_true)]
    · rw [if_neg (by rw [decide_eq_false e2]; exact Bool.false_ne_true), if_neg (fun z => e2 (congrArg Prod.snd z)), if_pos e]
  · rw [if_neg (by rw [decide_eq_false e]; exact Bool.false_ne_true), if_neg (fun z => e (congrArg Prod.fst z)), if_neg e]
end Sg

/-! Sem6: chains of signs. -/
namespace Sg
open PySem L2 Dt
/-! ### look_chain -/
def eSigns (ss : List Sign) : PyData := .list (ss.map eSign)
def eGaps (gs : List Int) : PyData := .list (gs.map PyData.int)
def validSigns (x : PyData) (m : Nat) : Bool := match x with
  | .list l => decide (1 ≤ (l.length : Int)) && decide ((l.length : Int) ≤ 5) && l.all fun y => isSign y (m : Int)
  | _ => false
def SzS (x : PyData) : Prop := ∀ l, x = .list l → ∀ y ∈ l, SzT y
def signsOf : PyData → List Sign
  | .list l => l.map signOf
  | _ => []
def onSigns (x : PyData) (m : Nat) (E : Str → Prop) (k : List Sign → Prop) : Prop := SzS x ∧ (if validSigns x m = true then k (signsOf x) else E "BadSign")
def validGaps (x : PyData) (n : Nat) : Bool := match x with
  | .list l => decide (l.length = n) && l.all fun y => isWhole y 1 200
  | _ => false
def SzL (x : PyData) : Prop := ∀ l, x = .list l → l.length ≤ sizeLine
def gapsOf : PyData → List Int
  | .list l => l.map intOf
  | _ => []
def onGaps (x : PyData) (n : Nat) (E : Str → Prop) (k : List Int → Prop) : Prop := SzL x ∧ (if validGaps x n = true then k (gapsOf x) else E "BadNumber")
theorem signs_e {x : PyData} {m : Nat} (h : validSigns x m = true) : x = eSigns (signsOf x) ∧ (∀ s ∈ signsOf x, s.length = m) ∧ 1 ≤ (signsOf x).length ∧ (signsOf x).length ≤ 5 := by
  cases x with
  | list l =>
    unfold validSigns at h
    simp only [Bool.and_eq_true, decide_eq_true_eq, List.all_eq_true] at h
    obtain ⟨⟨h1, h2⟩, h3⟩ := h
    refine ⟨?_, ?_, by show 1 ≤ (l.map signOf).length; rw [List.length_map]; omega, by show (l.map signOf).length ≤ 5; rw [List.length_map]; omega⟩
    · show PyData.list l = .list ((l.map signOf).map eSign)
      rw [List.map_map]
      exact congrArg PyData.list ((List.map_id l).symm.trans (List.map_congr_left fun y hy => (sign_e (h3 y hy)).1))
    · intro s hs
      obtain ⟨y, hy, rfl⟩ := List.mem_map.mp (show s ∈ l.map signOf from hs)
      have := (sign_e (h3 y hy)).2
      omega
  | _ => cases h
theorem gaps_e {x : PyData} {n : Nat} (h : validGaps x n = true) : x = eGaps (gapsOf x) ∧ (∀ g ∈ gapsOf x, 1 ≤ g ∧ g ≤ 200) ∧ (gapsOf x).length = n := by
  cases x with
  | list l =>
    unfold validGaps at h
    simp only [Bool.and_eq_true, decide_eq_true_eq, List.all_eq_true] at h
    obtain ⟨h1, h3⟩ := h
    refine ⟨?_, ?_, by show (l.map intOf).length = n; rw [List.length_map]; exact h1⟩
    · show PyData.list l = .list ((l.map intOf).map PyData.int)
      rw [List.map_map]
      refine congrArg PyData.list ((List.map_id l).symm.trans (List.map_congr_left fun y hy => ?_))
      obtain ⟨i, e, e2, _, _⟩ := whole_e (h3 y hy)
      show y = PyData.int (intOf y)
      rw [e2, e]
    · intro g hg
      obtain ⟨y, hy, rfl⟩ := List.mem_map.mp (show g ∈ l.map intOf from hg)
      obtain ⟨i, e, e2, a, b⟩ := whole_e (h3 y hy)
      rw [e2]
      exact ⟨a, b⟩
  | _ => cases h
theorem signsOf_e (ss : List Sign) : signsOf (eSigns ss) = ss := map_back _ _ signOf_e ss
theorem gapsOf_e (gs : List Int) : gapsOf (eGaps gs) = gs := map_back _ _ (fun _ => rfl) gs
theorem onSigns_v {ss : List Sign} {m : Nat} {E : Str → Prop} {k : List Sign → Prop} (h1 : 1 ≤ ss.length) (h2 : ss.length ≤ 5) (h : ∀ s ∈ ss, s.length = m) (hm : m ≤ 5) (hk : k ss) : onSigns (eSigns ss) m E k := by
  refine ⟨fun l e y hy => ?_, ?_⟩
  · have e' : l = ss.map eSign := (PyData.list.inj e).symm
    subst e'
    obtain ⟨s, hs, rfl⟩ := List.mem_map.mp hy
    exact sz_sign (by rw [h s hs]; omega)
  · have v : validSigns (eSigns ss) m = true := by
      show (decide (1 ≤ ((ss.map eSign).length : Int)) && decide (((ss.map eSign).length : Int) ≤ 5) && (ss.map eSign).all fun y => isSign y (m : Int)) = true
      rw [List.length_map, decide_eq_true (by omega), decide_eq_true (by omega), Bool.true_and, Bool.true_and, List.all_eq_true]
      intro y hy
      obtain ⟨s, hs, rfl⟩ := List.mem_map.mp hy
      exact e_sign (by rw [h s hs])
    rw [if_pos v, signsOf_e]
    exact hk
theorem onGaps_v {gs : List Int} {n : Nat} {E : Str → Prop} {k : List Int → Prop} (h : ∀ g ∈ gs, 1 ≤ g ∧ g ≤ 200) (hn : gs.length = n) (hs : n ≤ 1000) (hk : k gs) : onGaps (eGaps gs) n E k := by
  refine ⟨fun l e => ?_, ?_⟩
  · have e' : l = gs.map PyData.int := (PyData.list.inj e).symm
    subst e'
    rw [List.length_map]
    exact small_size (by omega)
  · have v : validGaps (eGaps gs) n = true := by
      show (decide ((gs.map PyData.int).length = n) && (gs.map PyData.int).all fun y => isWhole y 1 200) = true
      rw [List.length_map, decide_eq_true hn, Bool.true_and, List.all_eq_true]
      intro y hy
      obtain ⟨g, hg, rfl⟩ := List.mem_map.mp hy
      exact e_whole (h g hg).1 (h g hg).2
    rw [if_pos v, gapsOf_e]
    exact hk
def onChain (d x y : PyData) (E : Str → Prop) (k : Rows → Nat → List Sign → List Int → Prop) : Prop := onRows d E fun rows m => onSigns x m E fun ss => onGaps y (ss.length - 1) E fun gs => k rows m ss gs
structure ChV (rows : Rows) (m : Nat) (ss : List Sign) (gs : List Int) : Prop where
  v : RowsV rows m
  s1 : 1 ≤ ss.length
  s2 : ss.length ≤ 5
  sm : ∀ s ∈ ss, s.length = m
  g1 : gs.length + 1 = ss.length
  g2 : ∀ g ∈ gs, 1 ≤ g ∧ g ≤ 200
theorem onChain_v {rows : Rows} {m : Nat} {ss : List Sign} {gs : List Int} {E : Str → Prop} {k : Rows → Nat → List Sign → List Int → Prop} (h : ChV rows m ss gs) (hk : k rows m ss gs) : onChain (eRows rows) (eSigns ss) (eGaps gs) E k :=
  onRows_v h.v (onSigns_v h.s1 h.s2 h.sm h.v.m2 (onGaps_v h.g2 (by have := h.g1; omega) (by have := h.s2; omega) hk))
theorem onChain_bind {d x y : PyData} {E : Str → Prop} {k k2 : Rows → Nat → List Sign → List Int → Prop} (h : onChain d x y E k) (hA : ∀ rows m ss gs, d = eRows rows → x = eSigns ss → y = eGaps gs → ChV rows m ss gs → k rows m ss gs → k2 rows m ss gs) : onChain d x y E k2 := by
  refine ⟨h.1, ?_⟩
  have h2 := h.2
  by_cases v : validRows d = true
  · rw [if_pos v] at h2 ⊢
    obtain ⟨ed, vd⟩ := valid_e v
    refine ⟨h2.1, ?_⟩
    have h3 := h2.2
    by_cases vx : validSigns x (mOf d) = true
    · rw [if_pos vx] at h3 ⊢
      obtain ⟨ex, sm, s1, s2⟩ := signs_e vx
      refine ⟨h3.1, ?_⟩
      have h4 := h3.2
      by_cases vy : validGaps y ((signsOf x).length - 1) = true
      · rw [if_pos vy] at h4 ⊢
        obtain ⟨ey, g2, g1⟩ := gaps_e vy
        exact hA _ _ _ _ ed ex ey ⟨vd, s1, s2, sm, by omega, g2⟩ h4
      · rw [if_neg vy] at h4 ⊢
        exact h4
    · rw [if_neg vx] at h3 ⊢
      exact h3
  · rw [if_neg v] at h2 ⊢
    exact h2
def Sp_look_chain : DSp := fun ds Q E => ∃ d x y, ds = [d, x, y] ∧ onChain d x y E fun _ _ _ _ => Q .none
def w_look_chain : DS := (wSq (wEx (wFn Sp_look_rows (wCons (wVar 0) wNil)))
  (wSq (wIfS (wtOr (wtNot (wTru (wIsi isLst (wVar 1)))) (wtNot (wTst (wChain LeD LeD (wC (.int 1)) (wCall LenC (wCons (wVar 1) wNil)) (wC (.int 5)))))) (wRaise "BadSign") wNx)
  (wSq (wFor (wSeq (wVar 1)) (gdN 3) (wEx (wFn Sp_look_sign (wCons (wVar 3) (wCons (wCall LenC (wCons (wBin IxD (wVar 0) (wC (.int 0))) wNil)) wNil)))))
  (wSq (wIfS (wtOr (wtNot (wTru (wIsi isLst (wVar 2)))) (wTst (wBin NeD (wCall LenC (wCons (wVar 2) wNil)) (wBin SubD (wCall LenC (wCons (wVar 1) wNil)) (wC (.int 1)))))) (wRaise "BadNumber") wNx)
  (wIfS (wtNot (wTru (wCall AllC (wCons (wLc (wSeq (wVar 2)) (stAll (gdN 4) (wFn Sp_is_whole (wCons (wVar 4) (wCons (wC (.int 1)) (wCons (wC (.int 200)) wNil)))) [4]) [4]) wNil)))) (wRaise "BadNumber") wNx)))))
theorem m_look_chain (ds : List PyData) (Q : PyData → Prop) (E : Str → Prop) (h : Sp_look_chain ds Q E) : w_look_chain (startG ["rows", "signs", "gaps", "sign", "gap"] ds) (endO Q E) := by
  obtain ⟨d, x, y, rfl, h⟩ := h
  show w_look_chain [.dat d, .dat x, .dat y, .no, .no] _
  refine ⟨_, rfl, d, rfl, h.1, ite_rows h (fun z => z) fun rows m e v h2 => ?_⟩
  subst e
  refine ⟨_, rfl, _, rfl, ?_⟩
  obtain ⟨hzx, h3⟩ := h2
  have stop : validSigns x m = false → E "BadSign" := fun e => by rw [if_neg (by rw [e]; exact Bool.false_ne_true)] at h3; exact h3
  cases x with
  | list l =>
    refine ⟨_, rfl, _, ⟨_, _, rfl, rfl, rfl⟩, _, rfl, ?_⟩
    refine iteB (fun c1 => ?_) (fun c1 => ?_)
    · refine ⟨_, rfl, _, rfl, ?_⟩
      refine iteB (fun c2 => ?_) (fun c2 => ?_)
      · rw [Bool.not_eq_true'] at c2
        exact stop (by unfold validSigns; simp only [c1, c2, Bool.true_and, Bool.false_and])
      rw [Bool.not_eq_false'] at c2
      -- every sign
      refine ⟨_, rfl, _, rfl, ?_⟩
      rw [show l = l.map id by rw [List.map_id]]
      refine for_inv id l (fun pre Γ => (∀ s ∈ pre, isSign s (m : Int) = true) ∧ ∃ x3, Γ = [.dat (eRows rows), .dat (.list l), .dat y, x3, .no]) ?_ ?_ ⟨fun _ h => absurd h List.not_mem_nil, _, by rw [List.map_id]⟩
      · rintro pre s post Γ e ⟨hp, x3, rfl⟩ next hk
        have hs : s ∈ l := by rw [e]; exact List.mem_append.mpr (.inr List.mem_cons_self)
        refine ⟨_, rfl, _, rfl, _, row0 v, _, len0 v, _, _, rfl, hzx l rfl s hs, ?_⟩
        refine iteB (fun c3 => ?_) (fun c3 => ?_)
        · exact hk _ ⟨fun s' hs' => by
            rcases List.mem_append.mp hs' with z | z
            · exact hp s' z
            · rw [List.mem_singleton.mp z]; exact c3, _, rfl⟩
        · refine stop ?_
          unfold validSigns
          simp only [c1, c2, Bool.true_and]
          exact List.all_eq_false.mpr ⟨s, hs, by rw [show isSign s (m : Int) = false from c3]; exact Bool.false_ne_true⟩
      · rintro Γ ⟨hp, x3, rfl⟩
        have hvs : validSigns (.list l) m = true := by
          unfold validSigns
          simp only [c1, c2, Bool.true_and]
          exact List.all_eq_true.mpr hp
        rw [if_pos hvs] at h3
        have hll : (signsOf (.list l)).length = l.length := List.length_map _
        have hl1 : 1 ≤ l.length := by have := of_decide_eq_true c1; omega
        obtain ⟨hzy, h4⟩ := h3
        have stop2 : validGaps y ((signsOf (.list l)).length - 1) = false → E "BadNumber" := fun e => by rw [if_neg (by rw [e]; exact Bool.false_ne_true)] at h4; exact h4
        refine ⟨_, rfl, _, rfl, ?_⟩
        cases y with
        | list gl =>
          refine ⟨_, rfl, _, ⟨_, _, rfl, rfl, rfl⟩, _, rfl, _, ⟨_, _, rfl, rfl, rfl⟩, _, rfl, _, ⟨rfl, rfl, rfl⟩, _, rfl, ?_⟩
          have en : PyData.eqv (.int (gl.length : Int)) (.int ((l.length : Int) - 1)) = decide (gl.length = (signsOf (.list l)).length - 1) := by
            rw [eqv_int, hll]
            by_cases c : gl.length = l.length - 1
            · rw [decide_eq_true c, decide_eq_true (by omega)]
            · rw [decide_eq_false c, decide_eq_false (by omega)]
          rw [show PyData.eqv (.int (gl.length : Int)) ((fun i j => PyData.int (i - j)) (l.length : Int) 1) = _ from en]
          refine iteB (fun c4 => ?_) (fun c4 => ?_)
          · rw [Bool.not_eq_true'] at c4
            exact stop2 (by unfold validGaps; simp only [c4, Bool.false_and])
          rw [Bool.not_eq_false'] at c4
          refine ⟨_, rfl, _, rfl, hzy gl rfl, rfl, ?_⟩
          rw [show gl = gl.map id by rw [List.map_id]]
          refine lc_all id (fun g => .bool (isWhole g 1 200)) gl [] (fun g _ k hk => ⟨_, rfl, _, _, _, rfl, hk⟩) ?_
          refine ⟨_, ⟨gl.map fun g => isWhole g 1 200, by rw [List.nil_append, allB], rfl⟩, _, rfl, ?_⟩
          rw [all_id]
          refine iteB (fun c5 => ?_) (fun c5 => ?_)
          · rw [Bool.not_eq_true'] at c5
            exact stop2 (by unfold validGaps; simp only [c4, c5, Bool.true_and])
          · rw [Bool.not_eq_false'] at c5
            rw [if_pos (by unfold validGaps; simp only [c4, c5, Bool.true_and])] at h4
            exact h4
        | _ => exact stop2 rfl
    · exact ⟨_, rfl, stop (by unfold validSigns; simp only [c1, Bool.false_and])⟩
  | _ => exact stop rfl
/-! ### reached, chained -/
def near (v u : Nat) (g : Int) : Bool := decide (0 < (v : Int) - (u : Int)) && decide ((v : Int) - (u : Int) ≤ g)
def levAt (rows : Rows) (ss : List Sign) (gs : List Int) : Nat → List Nat
  | 0 => ticksM rows (ss.getD 0 [])
  | k + 1 => stepsM (levAt rows ss gs k) (ticksM rows (ss.getD (k + 1) [])) (gs.getD k 0)
def levM (rows : Rows) (ss : List Sign) (gs : List Int) : List (List Nat) := (List.range (gs.length + 1)).map (levAt rows ss gs)
theorem lev_len (rows : Rows) (ss : List Sign) (gs : List Int) (k : Nat) : (levAt rows ss gs k).length ≤ rows.length := by
  cases k with
  | zero => exact ticks_len _ _
  | succ k => exact Nat.le_trans (List.length_filter_le _ _) (ticks_len _ _)
theorem behind_near (w : Int) (fs : List Nat) (t : Nat) : behind w fs t = fs.any fun f => near t f w := rfl
theorem sign_at {ss : List Sign} {m k : Nat} (h : ∀ s ∈ ss, s.length = m) (hk : k < ss.length) : (ss.getD k []).length = m := by
  rw [List.getD_eq_getElem?_getD, List.getElem?_eq_getElem hk]
  exact h _ (List.getElem_mem hk)
def Sp_reached : DSp := fun ds Q _ => ∃ rows m ss gs, ds = [eRows rows, eSigns ss, eGaps gs] ∧ ChV rows m ss gs ∧ Q (.list ((levM rows ss gs).map eTs))
def w_reached : DS := (wSq (wSetO 3 (wLstF (wCons (wFn Sp_ticks_of (wCons (wVar 0) (wCons (wBin IxD (wVar 1) (wC (.int 0))) wNil))) wNil)))
  (wSq (wFor (wRng Rng1 (wCons (wCall LenC (wCons (wVar 2) wNil)) wNil)) (gdN 4) (wSq (wSet 5 (wFn Sp_ticks_of (wCons (wVar 0) (wCons (wBin IxD (wVar 1) (wBin AddD (wVar 4) (wC (.int 1)))) wNil))))
  (wApp 3 (wLc (wSeq (wVar 5)) (stIf (gdN 6) (wTru (wCall AnyC (wCons (wLc (wSeq (wBin IxD (wPk 3) (wUn NegD (wC (.int 1))))) (stAll (gdN 7) (wChain LtD LeD (wC (.int 0)) (wBin SubD (wVar 6) (wVar 7)) (wBin IxD (wVar 2) (wVar 4))) [7]) [7]) wNil))) (wVar 6) [6]) [6]))))
  (wRel 3 (wRet (wVar 3)))))
theorem m_reached (ds : List PyData) (Q : PyData → Prop) (E : Str → Prop) (h : Sp_reached ds Q E) : w_reached (startG ["rows", "signs", "gaps", "found", "k", "some", "tick", "one"] ds) (endO Q E) := by
  obtain ⟨rows, m, ss, gs, rfl, c, q⟩ := h
  show w_reached [.dat (eRows rows), .dat (eSigns ss), .dat (eGaps gs), .no, .no, .no, .no, .no] _
  have s1 := c.s1
  have s2 := c.s2
  have g1 := c.g1
  have n2 := c.v.n2
  have m2 := c.v.m2
  have h0 := sign_at (k := 0) c.sm (by omega)
  refine ⟨_, rfl, _, rfl, _, atI_map eSign ss 0 [] (by omega), _, rows, ss.getD 0 [], m, rfl, .inl rfl, c.v.ok, by omega, by omega, by omega, ?_⟩
  refine ⟨lit_size rfl, _, rfl, _, ⟨_, _, rfl, rfl, rfl⟩, _, ⟨_, rfl, by omega, by rw [List.length_map]; omega, rfl⟩, ?_⟩
  rw [List.length_map, rngL_nat]
  refine for_inv _ (List.range gs.length) (fun pre Γ => ∃ x4 x5, Γ = [.dat (eRows rows), .dat (eSigns ss), .dat (eGaps gs), .own (((List.range (pre.length + 1)).map (levAt rows ss gs)).map eTs), x4, x5, .no, .no]) ?_ ?_ ⟨_, _, rfl⟩
  · rintro pre k post Γ e ⟨x4, x5, rfl⟩ next hk
    obtain ⟨ek, hkl⟩ := prefix_rng e
    have hk1 := sign_at (k := k + 1) c.sm (by omega)
    refine ⟨_, rfl, _, rfl, _, rfl, .int ((k + 1 : Nat) : Int), rfl, _, atI_map eSign ss (k + 1) [] (by omega), _, rows, ss.getD (k + 1) [], m, rfl, .inl rfl, c.v.ok, by omega, by omega, by omega, ?_⟩
    have lt := ticks_len rows (ss.getD (k + 1) [])
    have ll := lev_len rows ss gs k
    refine ⟨⟨_, rfl⟩, _, rfl, _, rfl, by rw [List.length_map]; exact small_size (by omega), rfl, ?_⟩
    have hlast : atI (((List.range (pre.length + 1)).map (levAt rows ss gs)).map eTs) (-1) = some (eTs (levAt rows ss gs k)) := by
      rw [List.range_succ, List.map_append, ek]
      exact atI_lastM eTs _ _
    refine lc_if eN (behind (gs.getD k 0) (levAt rows ss gs k)) eN (ticksM rows (ss.getD (k + 1) [])) [] (fun t ht k2 hk2 => ?_) ?_
    · refine ⟨_, rfl, _, rfl, _, hlast, _, rfl, by rw [List.length_map]; exact small_size (by omega), rfl, ?_⟩
      refine lc_all eN (fun f => .bool (near t f (gs.getD k 0))) (levAt rows ss gs k) [] (fun f hf k' hk' => ?_) ?_
      · refine ⟨_, rfl, _, rfl, _, rfl, _, rfl, ?_⟩
        unfold near at hk'
        refine iteB (fun cc => ?_) (fun cc => ?_)
        · rw [show decide (0 < (t : Int) - (f : Int)) = true from cc, Bool.true_and] at hk'
          exact ⟨_, rfl, _, rfl, _, atI_map PyData.int gs k 0 hkl, _, rfl, hk'⟩
        · rw [show decide (0 < (t : Int) - (f : Int)) = false from cc, Bool.false_and] at hk'
          exact hk'
      · refine ⟨_, ⟨(levAt rows ss gs k).map fun f => near t f (gs.getD k 0), by rw [List.nil_append, allB], rfl⟩, _, rfl, ?_⟩
        rw [any_id]
        refine iteB (fun cc => ?_) (fun cc => ?_)
        · rw [if_pos (show behind (gs.getD k 0) (levAt rows ss gs k) t = true from cc)] at hk2
          exact ⟨_, rfl, hk2⟩
        · rw [if_neg (by rw [show behind (gs.getD k 0) (levAt rows ss gs k) t = false from cc]; exact Bool.false_ne_true)] at hk2
          exact hk2
    · refine ⟨_, rfl, by rw [List.length_map, List.length_map, List.length_range, sizeLine_eq]; omega, ?_⟩
      refine hk _ ⟨.dat (eN k), .dat (eTs (ticksM rows (ss.getD (k + 1) []))), ?_⟩
      rw [List.length_append, List.length_singleton, List.range_succ (n := pre.length + 1), List.map_append, List.map_append, ← ek]
      rfl
  · rintro Γ ⟨x4, x5, rfl⟩
    rw [List.length_range]
    exact ⟨_, rfl, _, rfl, q⟩
theorem lev_last (rows : Rows) (ss : List Sign) (gs : List Int) : atI ((levM rows ss gs).map eTs) (-1) = some (eTs (levAt rows ss gs gs.length)) := by
  unfold levM
  rw [List.range_succ, List.map_append]
  exact atI_lastM eTs _ _
def Sp_chained : DSp := fun ds Q E => ∃ d x y, ds = [d, x, y] ∧ onChain d x y E fun rows m ss gs => Q (eTs (levAt rows ss gs gs.length))
def w_chained : DS := (wSq (wEx (wFn Sp_look_chain (wCons (wVar 0) (wCons (wVar 1) (wCons (wVar 2) wNil)))))
  (wRet (wBin IxD (wFn Sp_reached (wCons (wVar 0) (wCons (wVar 1) (wCons (wVar 2) wNil)))) (wUn NegD (wC (.int 1))))))
theorem m_chained (ds : List PyData) (Q : PyData → Prop) (E : Str → Prop) (h : Sp_chained ds Q E) : w_chained (startG ["rows", "signs", "gaps"] ds) (endO Q E) := by
  obtain ⟨d, x, y, rfl, h⟩ := h
  show w_chained [.dat d, .dat x, .dat y] _
  refine ⟨_, rfl, _, rfl, _, rfl, _, _, _, rfl, onChain_bind h fun rows m ss gs ed ex ey c q => ?_⟩
  subst ed ex ey
  exact ⟨_, rfl, _, rfl, _, rfl, rows, m, ss, gs, rfl, c, _, rfl, _, lev_last rows ss gs, q⟩
/-! ### witness -/
def gdn (lev : Nat → List Nat) (gs : List Int) (t : Nat) : Nat → List Nat
  | 0 => [t]
  | i + 1 => (lev (gs.length - (i + 1))).filter fun u => (gdn lev gs t i).any fun v => near v u (gs.getD (gs.length - (i + 1)) 0)
def fnd (lev : Nat → List Nat) (gs : List Int) (t : Nat) : Nat → Nat
  | 0 => (gdn lev gs t gs.length).getD 0 0
  | k + 1 => ((gdn lev gs t (gs.length - (k + 1))).filter fun v => near v (fnd lev gs t k) (gs.getD k 0)).getD 0 0
def witM (rows : Rows) (ss : List Sign) (gs : List Int) (t : Nat) : Option (List Nat) :=
  if t ∈ levAt rows ss gs gs.length then some ((List.range (gs.length + 1)).map (fnd (levAt rows ss gs) gs t)) else none
def eTO : Option (List Nat) → PyData
  | none => .none
  | some l => eTs l
section
variable {rows : Rows} {ss : List Sign} {gs : List Int} {t : Nat}
theorem gdn_sub (ht : t ∈ levAt rows ss gs gs.length) : ∀ i, i ≤ gs.length → ∀ u ∈ gdn (levAt rows ss gs) gs t i, u ∈ levAt rows ss gs (gs.length - i)
  | 0, _, u, hu => by
    rw [List.mem_singleton.mp hu]
    exact ht
  | i + 1, _, u, hu => (List.mem_filter.mp hu).1
theorem gdn_back (ht : t ∈ levAt rows ss gs gs.length) (i : Nat) (hi : i < gs.length) (v : Nat) (hv : v ∈ gdn (levAt rows ss gs) gs t i) : ∃ u ∈ gdn (levAt rows ss gs) gs t (i + 1), near v u (gs.getD (gs.length - (i + 1)) 0) = true := by
  have h := gdn_sub ht i (by omega) v hv
  rw [show gs.length - i = (gs.length - (i + 1)) + 1 by omega] at h
  have hb := (List.mem_filter.mp (show v ∈ stepsM _ _ _ from h)).2
  rw [behind_near] at hb
  obtain ⟨u, hu, hn⟩ := List.any_eq_true.mp hb
  exact ⟨u, List.mem_filter.mpr ⟨hu, List.any_eq_true.mpr ⟨v, hv, hn⟩⟩, hn⟩
theorem gdn_ne (ht : t ∈ levAt rows ss gs gs.length) : ∀ i, i ≤ gs.length → gdn (levAt rows ss gs) gs t i ≠ []
  | 0, _ => by intro z; cases z
  | i + 1, hi => fun z => by
    cases h : gdn (levAt rows ss gs) gs t i with
    | nil => exact gdn_ne ht i (by omega) h
    | cons v r =>
      obtain ⟨u, hu, _⟩ := gdn_back ht i (by omega) v (by rw [h]; exact List.mem_cons_self)
      rw [z] at hu
      exact List.not_mem_nil hu
theorem head_mem {l : List Nat} (h : l ≠ []) : l.getD 0 0 ∈ l := by
  cases l with
  | nil => exact absurd rfl h
  | cons x r => exact List.mem_cons_self
theorem fnd_mem (ht : t ∈ levAt rows ss gs gs.length) : ∀ k, k ≤ gs.length → fnd (levAt rows ss gs) gs t k ∈ gdn (levAt rows ss gs) gs t (gs.length - k)
  | 0, _ => head_mem (gdn_ne ht _ (Nat.le_refl _))
  | k + 1, hk => by
    have h := fnd_mem ht k (by omega)
    rw [show gs.length - k = (gs.length - (k + 1)) + 1 by omega] at h
    have hb := (List.mem_filter.mp (show _ ∈ List.filter _ _ from h)).2
    rw [show gs.length - (gs.length - (k + 1) + 1) = k by omega] at hb
    obtain ⟨v, hv, hn⟩ := List.any_eq_true.mp hb
    have hne : ((gdn (levAt rows ss gs) gs t (gs.length - (k + 1))).filter fun v => near v (fnd (levAt rows ss gs) gs t k) (gs.getD k 0)) ≠ [] := fun z => by
      have : v ∈ ((gdn (levAt rows ss gs) gs t (gs.length - (k + 1))).filter fun v => near v (fnd (levAt rows ss gs) gs t k) (gs.getD k 0)) := List.mem_filter.mpr ⟨hv, hn⟩
      rw [z] at this
      exact List.not_mem_nil this
    exact (List.mem_filter.mp (head_mem hne)).1
theorem fnd_ne (ht : t ∈ levAt rows ss gs gs.length) (k : Nat) (hk : k < gs.length) : ((gdn (levAt rows ss gs) gs t (gs.length - (k + 1))).filter fun v => near v (fnd (levAt rows ss gs) gs t k) (gs.getD k 0)) ≠ [] := fun z => by
  have h := fnd_mem ht k (by omega)
  rw [show gs.length - k = (gs.length - (k + 1)) + 1 by omega] at h
  have hb := (List.mem_filter.mp (show _ ∈ List.filter _ _ from h)).2
  rw [show gs.length - (gs.length - (k + 1) + 1) = k by omega] at hb
  obtain ⟨v, hv, hn⟩ := List.any_eq_true.mp hb
  have : v ∈ ((gdn (levAt rows ss gs) gs t (gs.length - (k + 1))).filter fun v => near v (fnd (levAt rows ss gs) gs t k) (gs.getD k 0)) := List.mem_filter.mpr ⟨hv, hn⟩
  rw [z] at this
  exact List.not_mem_nil this
theorem gdn_len (i : Nat) : (gdn (levAt rows ss gs) gs t i).length ≤ max 1 rows.length := by
  cases i with
  | zero => exact Nat.le_max_left _ _
  | succ i => exact Nat.le_trans (List.length_filter_le _ _) (Nat.le_trans (lev_len _ _ _ _) (Nat.le_max_right _ _))
end
theorem rev_rng {n : Nat} {pre post : List Nat} {x : Nat} (e : (List.range n).reverse = pre ++ x :: post) : x = n - 1 - pre.length ∧ pre.length < n := by
  have hl : pre.length < n := by
    have := prefix_lt e
    rw [List.length_reverse, List.length_range] at this
    exact this
  have e2 : (List.range n).reverse[pre.length]? = some x := by rw [e]; simp
  rw [List.getElem?_reverse (by rw [List.length_range]; exact hl), List.length_range, List.getElem?_range (by omega)] at e2
  exact ⟨(Option.some.inj e2).symm, hl⟩
def Sp_witness : DSp := fun ds Q E => ∃ d x y z, ds = [d, x, y, z] ∧ onChain d x y E fun rows m ss gs => onTick z rows.length E fun t => Q (eTO (witM rows ss gs t))
def w_witness : DS := (wSq (wEx (wFn Sp_look_chain (wCons (wVar 0) (wCons (wVar 1) (wCons (wVar 2) wNil)))))
  (wSq (wEx (wFn Sp_look_tick (wCons (wVar 0) (wCons (wVar 3) wNil))))
  (wSq (wSet 4 (wFn Sp_reached (wCons (wVar 0) (wCons (wVar 1) (wCons (wVar 2) wNil)))))
  (wSq (wIfS (wTst (wBin (InD true) (wVar 3) (wBin IxD (wVar 4) (wUn NegD (wC (.int 1)))))) (wRet (wC .none)) wNx)
  (wSq (wSet 5 (wLst (wCons (wLst (wCons (wVar 3) wNil)) wNil)))
  (wSq (wFor (wSeq (wRev (wLrg1 (wCall LenC (wCons (wVar 2) wNil))))) (gdN 6) (wSet 5 (wBin AddD (wLst (wCons (wLc (wSeq (wBin IxD (wVar 4) (wVar 6))) (stIf (gdN 8) (wTru (wCall AnyC (wCons (wLc (wSeq (wBin IxD (wVar 5) (wC (.int 0)))) (stAll (gdN 9) (wChain LtD LeD (wC (.int 0)) (wBin SubD (wVar 9) (wVar 8)) (wBin IxD (wVar 2) (wVar 6))) [9]) [9]) wNil))) (wVar 8) [8]) [8]) wNil)) (wVar 5))))
  (wSq (wSetO 7 (wLstF (wCons (wBin IxD (wBin IxD (wVar 5) (wC (.int 0))) (wC (.int 0))) wNil)))
  (wSq (wFor (wRng Rng1 (wCons (wCall LenC (wCons (wVar 2) wNil)) wNil)) (gdN 6) (wApp 7 (wBin IxD (wLc (wSeq (wBin IxD (wVar 5) (wBin AddD (wVar 6) (wC (.int 1))))) (stIf (gdN 8) (wTst (wChain LtD LeD (wC (.int 0)) (wBin SubD (wVar 8) (wBin IxD (wPk 7) (wUn NegD (wC (.int 1))))) (wBin IxD (wVar 2) (wVar 6)))) (wVar 8) [8]) [8]) (wC (.int 0)))))
  (wRel 7 (wRet (wVar 7)))))))))))
theorem m_witness (ds : List PyData) (Q : PyData → Prop) (E : Str → Prop) (h : Sp_witness ds Q E) : w_witness (startG ["rows", "signs", "gaps", "tick", "levels", "good", "k", "found", "one", "later"] ds) (endO Q E) := by
  obtain ⟨d, x, y, z, rfl, h⟩ := h
  show w_witness [.dat d, .dat x, .dat y, .dat z, .no, .no, .no, .no, .no, .no] _
  refine ⟨_, rfl, _, rfl, _, rfl, _, _, _, rfl, onChain_bind h fun rows m ss gs ed ex ey c q => ?_⟩
  subst ed ex ey
  refine ⟨_, rfl, _, rfl, _, _, z, rfl, rfl, ?_⟩
  rw [List.length_map]
  refine ite_tick q (fun z => z) fun t e ht q3 => ?_
  clear q h
  subst e
  have s2 := c.s2
  have g1 := c.g1
  have n1 := c.v.n1
  have n2 := c.v.n2
  refine ⟨_, rfl, _, rfl, _, rfl, rows, m, ss, gs, rfl, c, ?_⟩
  refine ⟨_, rfl, _, rfl, _, rfl, _, lev_last rows ss gs, _, ⟨rfl, (sh_n _).ok, (sh_ts _).ok⟩, _, rfl, ?_⟩
  rw [inD_map eqv_n, Bool.true_xor]
  unfold witM at q3
  by_cases hm : t ∈ levAt rows ss gs gs.length
  · rw [if_pos hm] at q3
    rw [decide_eq_true hm]
    refine ⟨_, rfl, lit_size rfl, lit_size rfl, _, rfl, _, ⟨_, _, rfl, rfl, rfl⟩, _, rfl, by omega, by rw [List.length_map]; omega, _, rfl, _, rfl, ?_⟩
    rw [List.length_map, rngL_nat, ← List.map_reverse]
    refine for_inv _ (List.range gs.length).reverse (fun pre Γ => ∃ x6, Γ = [.dat (eRows rows), .dat (eSigns ss), .dat (eGaps gs), .dat (eN t), .dat (.list ((levM rows ss gs).map eTs)), .dat (.list (((List.range (pre.length + 1)).map fun j => gdn (levAt rows ss gs) gs t (pre.length - j)).map eTs)), x6, .no, .no, .no]) ?_ ?_ ⟨_, rfl⟩
    · rintro pre k post Γ e ⟨x6, rfl⟩ next hk
      obtain ⟨ek, hpl⟩ := rev_rng e
      have hkg : k < gs.length := by omega
      have hk1 : k = gs.length - (pre.length + 1) := by omega
      have ll := lev_len rows ss gs k
      have gl := gdn_len (rows := rows) (ss := ss) (gs := gs) (t := t) pre.length
      have hat : atI ((levM rows ss gs).map eTs) (k : Int) = some (eTs (levAt rows ss gs k)) := by
        unfold levM
        rw [List.map_map, atI_map _ (List.range (gs.length + 1)) k 0 (by rw [List.length_range]; omega), List.getD_eq_getElem?_getD, List.getElem?_range (by omega)]
        rfl
      have h0 : atI (((List.range (pre.length + 1)).map fun j => gdn (levAt rows ss gs) gs t (pre.length - j)).map eTs) 0 = some (eTs (gdn (levAt rows ss gs) gs t pre.length)) := by
        rw [List.range_succ_eq_map, List.map_cons, List.map_cons]
        exact atI_zero _ _
      refine ⟨_, rfl, _, rfl, _, hat, _, rfl, by rw [List.length_map]; exact small_size (by omega), rfl, ?_⟩
      refine lc_if eN (fun u => (gdn (levAt rows ss gs) gs t pre.length).any fun v => near v u (gs.getD k 0)) eN (levAt rows ss gs k) [] (fun u hu k2 hk2 => ?_) ?_
      · refine ⟨_, rfl, _, h0, _, rfl, by rw [List.length_map]; exact small_size (by omega), rfl, ?_⟩
        refine lc_all eN (fun v => .bool (near v u (gs.getD k 0))) (gdn (levAt rows ss gs) gs t pre.length) [] (fun v hv k' hk' => ?_) ?_
        · refine ⟨_, rfl, _, rfl, _, rfl, _, rfl, ?_⟩
          unfold near at hk'
          refine iteB (fun cc => ?_) (fun cc => ?_)
          · rw [show decide (0 < (v : Int) - (u : Int)) = true from cc, Bool.true_and] at hk'
            exact ⟨_, rfl, _, rfl, _, atI_map PyData.int gs k 0 hkg, _, rfl, hk'⟩
          · rw [show decide (0 < (v : Int) - (u : Int)) = false from cc, Bool.false_and] at hk'
            exact hk'
        · refine ⟨_, ⟨(gdn (levAt rows ss gs) gs t pre.length).map fun v => near v u (gs.getD k 0), by rw [List.nil_append, allB], rfl⟩, _, rfl, ?_⟩
          rw [any_id]
          refine iteB (fun cc => ?_) (fun cc => ?_)
          · rw [if_pos cc] at hk2
            exact ⟨_, rfl, hk2⟩
          · rw [if_neg (by rw [cc]; exact Bool.false_ne_true)] at hk2
            exact hk2
      · rw [List.nil_append]
        refine ⟨lit_size rfl, _, rfl, .list (((List.range (pre.length + 1 + 1)).map fun j => gdn (levAt rows ss gs) gs t (pre.length + 1 - j)).map eTs), ⟨?_, ?_⟩, ?_⟩
        · rw [List.range_succ_eq_map (n := pre.length + 1), List.map_cons, List.map_cons, List.map_map, List.map_map]
          refine congrArg PyData.list ?_
          show eTs (gdn (levAt rows ss gs) gs t (pre.length + 1)) :: _ = _ :: _
          congr 1
          · show eTs ((levAt rows ss gs (gs.length - (pre.length + 1))).filter _) = _
            rw [← hk1]
            rfl
          · rw [List.map_map]
            refine List.map_congr_left fun j _ => ?_
            show eTs (gdn _ _ _ (pre.length + 1 - (j + 1))) = eTs (gdn _ _ _ (pre.length - j))
            rw [Nat.add_sub_add_right]
        · simp only [List.length_map, List.length_range]
          exact small_size (by show 1 + _ ≤ _; omega)
        · exact hk _ ⟨.dat (eN k), by rw [List.length_append]; rfl⟩
    · rintro Γ ⟨x6, rfl⟩
      rw [List.length_reverse, List.length_range]
      have hat : ∀ k, k ≤ gs.length → atI (((List.range (gs.length + 1)).map fun j => gdn (levAt rows ss gs) gs t (gs.length - j)).map eTs) (k : Int) = some (eTs (gdn (levAt rows ss gs) gs t (gs.length - k))) := fun k hk => by
        rw [List.map_map, atI_map _ (List.range (gs.length + 1)) k 0 (by rw [List.length_range]; omega), List.getD_eq_getElem?_getD, List.getElem?_range (by omega)]
        rfl
      have hhd : ∀ {l : List Nat}, l ≠ [] → atI (l.map eN) 0 = some (eN (l.getD 0 0)) := fun {l} h => by
        cases l with
        | nil => exact absurd rfl h
        | cons x r => exact atI_zero _ _
      refine ⟨_, rfl, _, hat 0 (Nat.zero_le _), _, hhd (gdn_ne hm _ (Nat.le_refl _)), lit_size rfl, _, rfl, _, ⟨_, _, rfl, rfl, rfl⟩, _, ⟨_, rfl, by omega, by rw [List.length_map]; omega, rfl⟩, ?_⟩
      rw [List.length_map, rngL_nat]
      refine for_inv _ (List.range gs.length) (fun pre Γ => ∃ x6, Γ = [.dat (eRows rows), .dat (eSigns ss), .dat (eGaps gs), .dat (eN t), .dat (.list ((levM rows ss gs).map eTs)), .dat (.list (((List.range (gs.length + 1)).map fun j => gdn (levAt rows ss gs) gs t (gs.length - j)).map eTs)), x6, .own (((List.range (pre.length + 1)).map (fnd (levAt rows ss gs) gs t)).map eN), .no, .no]) ?_ ?_ ⟨_, rfl⟩
      · rintro pre k post Γ e ⟨x6, rfl⟩ next hk
        obtain ⟨ek, hkg⟩ := prefix_rng e
        have gl := gdn_len (rows := rows) (ss := ss) (gs := gs) (t := t) (gs.length - (k + 1))
        have hlast : atI (((List.range (pre.length + 1)).map (fnd (levAt rows ss gs) gs t)).map eN) (-1) = some (eN (fnd (levAt rows ss gs) gs t k)) := by
          rw [List.range_succ, List.map_append, ek]
          exact atI_lastM eN _ _
        refine ⟨⟨_, rfl⟩, _, rfl, _, rfl, .int ((k + 1 : Nat) : Int), rfl, _, hat (k + 1) (by omega), _, rfl, by rw [List.length_map]; exact small_size (by omega), rfl, ?_⟩
        refine lc_if eN (fun v => near v (fnd (levAt rows ss gs) gs t k) (gs.getD k 0)) eN (gdn (levAt rows ss gs) gs t (gs.length - (k + 1))) [] (fun v hv k2 hk2 => ?_) ?_
        · refine ⟨_, rfl, _, rfl, _, rfl, _, hlast, _, rfl, _, rfl, ?_⟩
          unfold near at hk2
          refine iteB (fun cc => ?_) (fun cc => ?_)
          · rw [show decide (0 < (v : Int) - ((fnd (levAt rows ss gs) gs t k : Nat) : Int)) = true from cc, Bool.true_and] at hk2
            refine ⟨_, rfl, _, rfl, _, atI_map PyData.int gs k 0 hkg, _, rfl, _, rfl, ?_⟩
            refine iteB (fun c3 => ?_) (fun c3 => ?_)
            · rw [if_pos c3] at hk2
              exact ⟨_, rfl, hk2⟩
            · rw [if_neg (by rw [c3]; exact Bool.false_ne_true)] at hk2
              exact hk2
          · rw [show decide (0 < (v : Int) - ((fnd (levAt rows ss gs) gs t k : Nat) : Int)) = false from cc, Bool.false_and] at hk2
            exact ⟨_, rfl, hk2⟩
        · rw [List.nil_append]
          refine ⟨_, hhd (fnd_ne hm k hkg), _, rfl, by rw [List.length_map, List.length_map, List.length_range, sizeLine_eq]; omega, ?_⟩
          refine hk _ ⟨.dat (eN k), ?_⟩
          rw [List.length_append, List.length_singleton, List.range_succ (n := pre.length + 1), List.map_append, List.map_append, ← ek]
          rfl
      · rintro Γ ⟨x6, rfl⟩
        rw [List.length_range]
        exact ⟨_, rfl, _, rfl, q3⟩
  · rw [if_neg hm] at q3
    rw [decide_eq_false hm]
    exact q3
end Sg

/-! Sem7: signs in order: tells, order, in_order, and the law's own all. -/
namespace Sg
open PySem L2 Dt
/-! ### tells, order -/
def Sp_tells : DSp := fun ds Q _ => ∃ s : Sign, ds = [eSign s] ∧ s.length ≤ 1000 ∧ Q (eN (tellsM s))
def w_tells : DS := (wRet (wCall LenC (wCons (wLc (wSeq (wVar 0)) (stIf (gdN 1) (wTst (wBin NotND (wVar 1) (wC .none))) (wVar 1) [1]) [1]) wNil)))
theorem m_tells (ds : List PyData) (Q : PyData → Prop) (E : Str → Prop) (h : Sp_tells ds Q E) : w_tells (startG ["sign", "one"] ds) (endO Q E) := by
  obtain ⟨s, rfl, hl, q⟩ := h
  show w_tells [.dat (eSign s), .no] _
  refine ⟨_, rfl, _, rfl, by rw [List.length_map]; exact small_size (by omega), rfl, ?_⟩
  refine lc_if eW (fun w => w.isSome) eW s [] (fun w _ k hk => ?_) ?_
  · refine ⟨_, rfl, _, ⟨rfl, rfl⟩, _, rfl, ?_⟩
    cases w with
    | none => exact hk
    | some h => exact ⟨_, rfl, hk⟩
  · refine ⟨_, ⟨_, _, rfl, rfl, rfl⟩, ?_⟩
    rw [List.nil_append, List.length_map]
    exact q
def Sp_order : DSp := fun ds Q _ => ∃ s : Sign, ds = [eSign s] ∧ s.length ≤ 1000 ∧ Q (eTs (ordM s))
def w_order : DS := (wRet (wLc (wSeq (wVar 0)) (stAll (gdN 1) (wIf (wTst (wBin NotND (wVar 1) (wC .none))) (wGIdx ["high", "low", "rise", "fall"] (wVar 1)) (wCall LenC (wCons (wC g_HOLDS) wNil))) [1]) [1]))
theorem m_order (ds : List PyData) (Q : PyData → Prop) (E : Str → Prop) (h : Sp_order ds Q E) : w_order (startG ["sign", "one"] ds) (endO Q E) := by
  obtain ⟨s, rfl, hl, q⟩ := h
  show w_order [.dat (eSign s), .no] _
  refine ⟨_, rfl, _, rfl, by rw [List.length_map]; exact small_size (by omega), rfl, ?_⟩
  refine lc_all eW (fun w => eN (idx w)) s [] (fun w _ k hk => ?_) ?_
  · refine ⟨_, rfl, _, ⟨rfl, rfl⟩, _, rfl, ?_⟩
    cases w with
    | none => exact ⟨_, ⟨_, _, rfl, rfl, rfl⟩, hk⟩
    | some h =>
      cases h with
      | high => exact ⟨_, rfl, "high", 0, rfl, rfl, fun m hm => absurd hm (Nat.not_lt_zero _), hk⟩
      | low => exact ⟨_, rfl, "low", 1, rfl, rfl, fun m hm => (match m, hm with | 0, _ => by decide +kernel), hk⟩
      | rise => exact ⟨_, rfl, "rise", 2, rfl, rfl, fun m hm => (match m, hm with | 0, _ => (by decide +kernel) | 1, _ => (by decide +kernel)), hk⟩
      | fall => exact ⟨_, rfl, "fall", 3, rfl, rfl, fun m hm => (match m, hm with | 0, _ => (by decide +kernel) | 1, _ => (by decide +kernel) | 2, _ => (by decide +kernel)), hk⟩
  · rw [List.nil_append, show s.map (fun w => eN (idx w)) = (ordM s).map eN by unfold ordM; rw [List.map_map]; rfl]
    exact q
/-! ### in_order -/
def tLt (p q : (Nat × List Nat) × Nat) : Bool := if p.1 = q.1 then decide (p.2 < q.2) else kLt p.1 q.1
theorem tLe_k {p q : (Nat × List Nat) × Nat} (h : tLt q p = false) : kLt q.1 p.1 = false := by
  unfold tLt at h
  by_cases e : q.1 = p.1
  · rw [e]; exact kLt_irr _
  · rw [if_neg e] at h; exact h
theorem tLe_trans {a b c : (Nat × List Nat) × Nat} (h1 : tLt b a = false) (h2 : tLt c b = false) : tLt c a = false := by
  have k1 := tLe_k h1
  have k2 := tLe_k h2
  have k3 := kLe_trans k1 k2
  unfold tLt at h1 h2 ⊢
  by_cases e : c.1 = a.1
  · rw [if_pos e]
    rw [e] at k2
    have e1 : b.1 = a.1 := kLt_anti k1 k2
    rw [if_pos e1] at h1
    rw [if_pos (e.trans e1.symm)] at h2
    have := of_decide_eq_false h1
    have := of_decide_eq_false h2
    exact decide_eq_false (by omega)
  · rw [if_neg e]; exact k3
theorem tLe_total (a b : (Nat × List Nat) × Nat) : tLt b a = false ∨ tLt a b = false := by
  unfold tLt
  by_cases e : b.1 = a.1
  · rw [if_pos e, if_pos e.symm]
    by_cases c : b.2 < a.2
    · exact .inr (decide_eq_false (by omega))
    · exact .inl (decide_eq_false c)
  · rw [if_neg e, if_neg (fun z => e z.symm)]
    exact kLe_total a.1 b.1
def Sp_in_order : DSp := fun ds Q _ => ∃ ss : List Sign, ds = [.list (ss.map eSign)] ∧ ss.length ≤ 10000 ∧ (∀ s ∈ ss, s.length ≤ 1000) ∧ ∀ out : List Sign, out.Perm ss → Srt out → Q (.list (out.map eSign))
def w_in_order : DS := (wSq (wSet 1 (wCall SrtC (wCons (wLc (wRng Rng1 (wCons (wCall LenC (wCons (wVar 0) wNil)) wNil)) (stAll (gdN 4) (wTup (wCons (wFn Sp_tells (wCons (wBin IxD (wVar 0) (wVar 4)) wNil)) (wCons (wFn Sp_order (wCons (wBin IxD (wVar 0) (wVar 4)) wNil)) (wCons (wVar 4) wNil)))) [4]) [4]) wNil)))
  (wRet (wLc (wSeq (wVar 1)) (stAll (gdT 3 (gdCons (gdN 2) (gdCons (gdN 3) (gdCons (gdN 4) gdNil)))) (wBin IxD (wVar 0) (wVar 4)) [2, 3, 4]) [2, 3, 4])))
theorem sh_trip (p : (Nat × List Nat) × Nat) : Sh 2 (eTrip p) := .tup fun x hx => by
  simp only [List.mem_cons, List.not_mem_nil, or_false] at hx
  rcases hx with rfl | rfl | rfl
  · exact (sh_n _).up (Nat.zero_le _)
  · exact sh_ts _
  · exact (sh_n _).up (Nat.zero_le _)
theorem alike_trip (p q : (Nat × List Nat) × Nat) : PySem.W.alike (eTrip p) (eTrip q) = true := by
  show PySem.W.alikeAll [eN p.1.1, eTs p.1.2, eN p.2] [eN q.1.1, eTs q.1.2, eN q.2] = true
  have h1 : PySem.W.alike (eTs p.1.2) (eTs q.1.2) = true := by unfold eTs PySem.W.alike; exact alike_ns _ _
  simp only [PySem.W.alikeAll, h1, alike_n, Bool.true_and]
theorem getD_perm {ss : List Sign} : ((List.range ss.length).map fun k => ss.getD k []) = ss := by
  apply List.ext_getElem?
  intro i
  rw [List.getElem?_map]
  by_cases h : i < ss.length
  · rw [List.getElem?_range h, List.getElem?_eq_getElem h]
    show some (ss.getD i []) = _
    rw [List.getD_eq_getElem?_getD, List.getElem?_eq_getElem h]
    rfl
  · rw [List.getElem?_eq_none (by rw [List.length_range]; omega), List.getElem?_eq_none (by omega)]
    rfl
theorem m_in_order (ds : List PyData) (Q : PyData → Prop) (E : Str → Prop) (h : Sp_in_order ds Q E) : w_in_order (startG ["signs", "turn", "many", "row", "k"] ds) (endO Q E) := by
  obtain ⟨ss, rfl, hl, hsl, q⟩ := h
  show w_in_order [.dat (.list (ss.map eSign)), .no, .no, .no, .no] _
  have hat : ∀ k, k < ss.length → ss.getD k [] ∈ ss := fun k hk => by
    rw [List.getD_eq_getElem?_getD, List.getElem?_eq_getElem hk]
    exact List.getElem_mem hk
  refine ⟨_, rfl, _, ⟨_, _, rfl, rfl, rfl⟩, _, ⟨_, rfl, by omega, by rw [List.length_map]; omega, rfl⟩, ?_⟩
  rw [List.length_map, rngL_nat]
  refine ⟨by rw [List.length_map, List.length_range]; exact small_size (by omega), rfl, ?_⟩
  refine lc_all _ (fun k => eTrip (sKey (ss.getD k []), k)) (List.range ss.length) [] (fun k hk k' hk' => ?_) ?_
  · have hk := List.mem_range.mp hk
    have hlen := hsl _ (hat k hk)
    exact ⟨_, rfl, _, rfl, _, atI_map eSign ss k [] hk, ss.getD k [], rfl, hlen, _, rfl, _, rfl, _, atI_map eSign ss k [] hk, ss.getD k [], rfl, hlen, _, rfl, lit_size rfl, hk'⟩
  rw [List.nil_append]
  have ok : SrtOk ((List.range ss.length).map fun k => eTrip (sKey (ss.getD k []), k)) := by
    refine ⟨PySem.W.AllAlike.of fun _ _ => alike_trip _ _, PySem.W.Sortable.tuples fun _ => ⟨_, _, rfl⟩, by rw [List.length_map, List.length_range]; exact small_size (by omega), fun d hd => ?_, (sh_all _ (sh_map (fun k => sh_trip (sKey (ss.getD k []), k)) _)).1⟩
    obtain ⟨k, _, rfl⟩ := List.mem_map.mp hd
    exact Nat.le_trans (sh_trip _).2 (by decide)
  refine ⟨_, ⟨_, rfl, ok, rfl⟩, ?_⟩
  have es : ((List.range ss.length).map fun k => eTrip (sKey (ss.getD k []), k)).mergeSort (PySem.W.dataLe false id) = ((List.range ss.length).mergeSort fun a b => !tLt (sKey (ss.getD b []), b) (sKey (ss.getD a []), a)).map fun k => eTrip (sKey (ss.getD k []), k) :=
    (List.map_mergeSort (f := fun k => eTrip (sKey (ss.getD k []), k)) (r := fun a b => !tLt (sKey (ss.getD b []), b) (sKey (ss.getD a []), a)) (s := PySem.W.dataLe false id) fun a _ b _ => by
      rw [PySem.W.dataLe_eq]
      show (!tLt _ _) = !PySem.W.dataLt _ _
      rw [id, id, lt_trip]
      rfl).symm
  rw [es]
  have hp := List.mergeSort_perm (List.range ss.length) (fun a b => !tLt (sKey (ss.getD b []), b) (sKey (ss.getD a []), a))
  have hs := List.pairwise_mergeSort (le := fun a b => !tLt (sKey (ss.getD b []), b) (sKey (ss.getD a []), a)) (fun a b c h1 h2 => by
      rw [Bool.not_eq_true'] at h1 h2 ⊢
      exact tLe_trans h1 h2) (fun a b => by
      rcases tLe_total (sKey (ss.getD a []), a) (sKey (ss.getD b []), b) with z | z
      · rw [z]; rfl
      · rw [z, Bool.or_comm]; rfl) (List.range ss.length)
  revert hp hs
  generalize (List.range ss.length).mergeSort (fun a b => !tLt (sKey (ss.getD b []), b) (sKey (ss.getD a []), a)) = ix
  intro hp hs
  have hix : ∀ k ∈ ix, k < ss.length := fun k hk => List.mem_range.mp (hp.mem_iff.mp hk)
  have hlx : ix.length = ss.length := by rw [hp.length_eq, List.length_range]
  refine ⟨_, rfl, _, rfl, by rw [List.length_map]; exact small_size (by omega), rfl, ?_⟩
  refine lc_all _ (fun k => eSign (ss.getD k [])) ix [] (fun k hk k' hk' => ?_) ?_
  · exact ⟨_, rfl, rfl, _, _, rfl, _, _, rfl, _, _, rfl, rfl, _, rfl, _, rfl, _, atI_map eSign ss k [] (hix k hk), hk'⟩
  · rw [List.nil_append, show ix.map (fun k => eSign (ss.getD k [])) = (ix.map fun k => ss.getD k []).map eSign by rw [List.map_map]; rfl]
    refine q _ ?_ ?_
    · have := hp.map fun k => ss.getD k []
      rw [getD_perm] at this
      exact this
    · refine List.Pairwise.map _ (fun a b hab => ?_) hs
      rw [Bool.not_eq_true'] at hab
      exact tLe_k hab
/-! ### the law's own -/
def wd : Nat → Option Hold
  | 0 => some .high
  | 1 => some .low
  | 2 => some .rise
  | 3 => some .fall
  | _ => none
theorem wd_idx (w : Option Hold) : wd (idx w) = w := by
  cases w with
  | none => rfl
  | some h => cases h <;> rfl
theorem idx_wd {n : Nat} (h : n < 5) : idx (wd n) = n := by
  match n, h with
  | 0, _ => rfl
  | 1, _ => rfl
  | 2, _ => rfl
  | 3, _ => rfl
  | 4, _ => rfl
def five : List Nat := [0, 1, 2, 3, 4]
def numM (m : Nat) : List (List Nat) := prodM (List.replicate m five)
def allS (m : Nat) : List Sign := (numM m).map (List.map wd)
theorem num_len (m : Nat) : ∀ r ∈ numM m, r.length = m := fun r hr => by
  have := prod_row _ r hr
  rw [List.length_replicate] at this
  exact this
theorem prod_mem {α : Type} : ∀ (menus : List (List α)) (r : List α), r ∈ prodM menus ↔ r.length = menus.length ∧ ∀ (i : Nat) (x : α) (m : List α), r[i]? = some x → menus[i]? = some m → x ∈ m := snoc_ind (fun r => by
    constructor
    · intro h
      rw [List.mem_singleton.mp (show r ∈ [[]] from h)]
      exact ⟨rfl, fun i x m h => by cases h⟩
    · rintro ⟨h, _⟩
      rw [List.length_eq_zero_iff.mp h]
      exact List.mem_singleton_self _) fun ms mm ih r => by
    rw [prod_snoc]
    constructor
    · intro h
      obtain ⟨row, h1, h2⟩ := List.mem_flatMap.mp h
      obtain ⟨one, h3, rfl⟩ := List.mem_map.mp h2
      obtain ⟨a, b⟩ := (ih row).mp h1
      refine ⟨by rw [List.length_append, List.length_append, a]; rfl, fun i x m hx hm => ?_⟩
      by_cases c : i < row.length
      · rw [List.getElem?_append_left c] at hx
        rw [List.getElem?_append_left (by omega)] at hm
        exact b i x m hx hm
      · have hi : i = row.length := by
          have := (List.getElem?_eq_some_iff.mp hx).1
          rw [List.length_append] at this
          have e : [one].length = 1 := rfl
          omega
        rw [hi, List.getElem?_append_right (Nat.le_refl _), Nat.sub_self] at hx
        rw [hi, a, List.getElem?_append_right (Nat.le_refl _), Nat.sub_self] at hm
        cases hx
        cases hm
        exact h3
    · rintro ⟨a, b⟩
      rcases List.eq_nil_or_concat r with rfl | ⟨row, one, rfl⟩
      · rw [List.length_append] at a
        exact absurd a (by simp)
      · rw [List.concat_eq_append] at a b ⊢
        rw [List.length_append, List.length_append] at a
        have al : row.length = ms.length := Nat.succ.inj a
        refine List.mem_flatMap.mpr ⟨row, (ih row).mpr ⟨al, fun i x m hx hm => ?_⟩, List.mem_map.mpr ⟨one, ?_, rfl⟩⟩
        · refine b i x m ?_ ?_
          · rw [List.getElem?_append_left (List.getElem?_eq_some_iff.mp hx).1]; exact hx
          · rw [List.getElem?_append_left (List.getElem?_eq_some_iff.mp hm).1]; exact hm
        · refine b row.length one mm ?_ ?_
          · rw [List.getElem?_append_right (Nat.le_refl _), Nat.sub_self]; rfl
          · rw [al, List.getElem?_append_right (Nat.le_refl _), Nat.sub_self]; rfl
theorem num_five {m : Nat} {r : List Nat} (h : r ∈ numM m) : ∀ x ∈ r, x < 5 := fun x hx => by
  obtain ⟨i, hi, e⟩ := List.getElem_of_mem hx
  obtain ⟨a, b⟩ := (prod_mem _ r).mp h
  rw [List.length_replicate] at a
  have := b i x five (by rw [List.getElem?_eq_getElem hi, e]) (by rw [List.getElem?_replicate, if_pos (by omega)])
  simp only [five, List.mem_cons, List.not_mem_nil, or_false] at this
  omega
theorem mem_allS {m : Nat} {s : Sign} : s ∈ allS m ↔ s.length = m := by
  constructor
  · intro h
    obtain ⟨r, hr, rfl⟩ := List.mem_map.mp h
    rw [List.length_map]
    exact num_len m r hr
  · intro h
    refine List.mem_map.mpr ⟨ordM s, (prod_mem _ _).mpr ⟨by unfold ordM; rw [List.length_map, List.length_replicate]; exact h, fun i x mm hx hm => ?_⟩, ?_⟩
    · have e : mm = five := by
        obtain ⟨h1, h2⟩ := List.getElem?_eq_some_iff.mp hm
        rw [← h2]
        exact List.getElem_replicate ..
      rw [e]
      unfold ordM at hx
      rw [List.getElem?_map] at hx
      cases hs : s[i]? with
      | none => rw [hs] at hx; cases hx
      | some w =>
        rw [hs] at hx
        cases hx
        cases w with
        | none => decide
        | some h => cases h <;> decide
    · unfold ordM
      rw [List.map_map]
      exact (List.map_congr_left fun w _ => wd_idx w).trans (List.map_id s)
theorem num_tells {r : List Nat} (h : ∀ x ∈ r, x < 5) : (r.filter fun x => decide (x < 4)).length = tellsM (r.map wd) := by
  unfold tellsM
  rw [List.filter_map, List.length_map]
  congr 1
  refine List.filter_congr fun x hx => ?_
  have := h x hx
  match x, this with
  | 0, _ => rfl
  | 1, _ => rfl
  | 2, _ => rfl
  | 3, _ => rfl
  | 4, _ => rfl
theorem num_ord {r : List Nat} (h : ∀ x ∈ r, x < 5) : ordM (r.map wd) = r := by
  unfold ordM
  rw [List.map_map]
  exact (List.map_congr_left fun x hx => idx_wd (h x hx)).trans (List.map_id r)
def Sp__law_all : DSp := fun ds Q _ => ∃ m : Nat, ds = [eN m] ∧ m ≤ 5 ∧ ∀ out : List Sign, out.Perm (allS m) → Srt out → Q (.list (out.map eSign))
def w__law_all : DS := (wSq (wSet 1 (wLst (wCons (wTup wNil) wNil)))
  (wSq (wFor (wRng Rng1 (wCons (wVar 0) wNil)) (gdN 2) (wSq (wSet 3 (wLst wNil))
  (wSq (wFor (wSeq (wVar 1)) (gdN 4) (wSet 3 (wBin AddD (wVar 3) (wLc (wSeq (wTup (wCons (wC (.int 0)) (wCons (wC (.int 1)) (wCons (wC (.int 2)) (wCons (wC (.int 3)) (wCons (wC (.int 4)) wNil))))))) (stAll (gdN 8) (wBin AddD (wVar 4) (wTup (wCons (wVar 8) wNil))) [8]) [8]))))
  (wSet 1 (wVar 3)))))
  (wSq (wSet 5 (wCall SrtC (wCons (wLc (wSeq (wVar 1)) (stAll (gdN 4) (wTup (wCons (wCall LenC (wCons (wLc (wSeq (wVar 4)) (stIf (gdN 8) (wTst (wBin LtD (wVar 8) (wC (.int 4)))) (wVar 8) [8]) [8]) wNil)) (wCons (wVar 4) wNil))) [4]) [4]) wNil)))
  (wSq (wSet 6 (wLst (wCons (wC (.str "high")) (wCons (wC (.str "low")) (wCons (wC (.str "rise")) (wCons (wC (.str "fall")) (wCons (wC .none) wNil)))))))
  (wRet (wLc (wSeq (wVar 5)) (stAll (gdT 2 (gdCons (gdN 7) (gdCons (gdN 4) gdNil))) (wCall TupC (wCons (wLc (wSeq (wVar 4)) (stAll (gdN 8) (wBin IxD (wVar 6) (wVar 8)) [8]) [8]) wNil)) [7, 4]) [7, 4]))))))
theorem sh_pair (p : Nat × List Nat) : Sh 2 (ePair p) := .tup fun x hx => by
  simp only [List.mem_cons, List.not_mem_nil, or_false] at hx
  rcases hx with rfl | rfl
  · exact (sh_n _).up (Nat.zero_le _)
  · exact .tup (sh_map sh_n _)
theorem alike_pair (p q : Nat × List Nat) : PySem.W.alike (ePair p) (ePair q) = true := by
  show PySem.W.alikeAll [eN p.1, .tuple (p.2.map eN)] [eN q.1, .tuple (q.2.map eN)] = true
  have h1 : PySem.W.alike (.tuple (p.2.map eN)) (.tuple (q.2.map eN)) = true := by unfold PySem.W.alike; exact alike_ns _ _
  simp only [PySem.W.alikeAll, h1, alike_n, Bool.true_and]
theorem num_size {m : Nat} (h : m ≤ 5) : (numM m).length ≤ 3125 := by
  have := prod_size (menus := List.replicate m five) (by rw [List.length_replicate]; exact h) (fun x hx => by rw [(List.mem_replicate.mp hx).2]; decide)
  rw [List.length_replicate] at this
  exact Nat.le_trans this (pow5 h)
def eT5 (r : List Nat) : PyData := .tuple (r.map eN)
def kNum (r : List Nat) : Nat × List Nat := ((r.filter fun x => decide (x < 4)).length, r)
theorem m__law_all (ds : List PyData) (Q : PyData → Prop) (E : Str → Prop) (h : Sp__law_all ds Q E) : w__law_all (startG ["many", "found", "k", "longer", "row", "turn", "words", "size", "one"] ds) (endO Q E) := by
  obtain ⟨m, rfl, hm, q⟩ := h
  show w__law_all [.dat (eN m), .no, .no, .no, .no, .no, .no, .no, .no] _
  refine ⟨Nat.zero_le _, lit_size rfl, _, rfl, _, ⟨_, rfl, by omega, by omega, rfl⟩, ?_⟩
  rw [rngL_nat]
  refine for_inv _ (List.range m) (fun pre Γ => ∃ x2 x3 x4, Γ = [.dat (eN m), .dat (.list ((numM pre.length).map eT5)), x2, x3, x4, .no, .no, .no, .no] ∧ nO x4 = true) ?_ ?_ ⟨_, _, _, rfl, rfl⟩
  · rintro pre k post Γ e ⟨x2, x3, x4, rfl, hx4⟩ next hk
    have hpre := prefix_lt e
    rw [List.length_range] at hpre
    have hsz : (numM pre.length).length ≤ 3125 := num_size (by omega)
    have hs625 : (numM pre.length).length ≤ 625 := by
      have := prod_size (menus := List.replicate pre.length five) (by rw [List.length_replicate]; omega) (fun x hx => by rw [(List.mem_replicate.mp hx).2]; decide)
      rw [List.length_replicate] at this
      exact Nat.le_trans this (Nat.le_trans (Nat.pow_le_pow_right (by decide) (show pre.length ≤ 4 by omega)) (by decide))
    refine ⟨Nat.zero_le _, _, rfl, _, rfl, ?_⟩
    refine for_inv eT5 (numM pre.length) (fun pre2 Γ => ∃ x4, nO x4 = true ∧ Γ = [.dat (eN m), .dat (.list ((numM pre.length).map eT5)), .dat (eN k), .dat (.list ((growM pre2 five).map eT5)), x4, .no, .no, .no, .no]) ?_ ?_ ⟨_, hx4, rfl⟩
    · rintro pre2 row post2 Γ e2 ⟨x4, hx4, rfl⟩ next2 hk2
      have hp2 := prefix_lt e2
      have hrow : row.length = pre.length := num_len _ row (by rw [e2]; exact List.mem_append.mpr (.inr List.mem_cons_self))
      have hg2 := grow_len (m := five) (c := 5) (by decide) (Nat.le_refl pre2.length)
      refine ⟨_, rfl, lit_size rfl, _, rfl, lit_size rfl, rfl, ?_⟩
      refine lc_all eN (fun one => eT5 (row ++ [one])) five [] (fun one _ k hk' => ?_) ?_
      · exact ⟨_, rfl, _, rfl, lit_size rfl, _, add_tup eN row [one] (by show _ + 1 ≤ _; omega), hk'⟩
      · refine ⟨.list ((growM (pre2 ++ [row]) five).map eT5), ⟨?_, ?_⟩, hk2 _ ⟨_, rfl, rfl⟩⟩
        · unfold growM
          rw [List.flatMap_append, List.map_append]
          rfl
        · rw [List.length_map, List.nil_append, List.length_map]
          exact small_size (by show _ + 5 ≤ _; omega)
    · rintro Γ ⟨x4, hx4, rfl⟩
      refine ⟨_, rfl, hk _ ⟨.dat (eN k), .dat (.list ((numM (pre.length + 1)).map eT5)), x4, ?_, hx4⟩⟩
      have e3 : growM (numM pre.length) five = numM (pre.length + 1) := by
        unfold numM
        rw [List.replicate_succ', prod_snoc]
      rw [e3, List.length_append]
      rfl
  · rintro Γ ⟨x2, x3, x4, rfl, hx4⟩
    rw [List.length_range]
    have hsz := num_size hm
    refine ⟨_, rfl, _, rfl, by rw [List.length_map]; exact small_size (by omega), no_own rfl hx4, ?_⟩
    refine lc_all eT5 (fun r => ePair (kNum r)) (numM m) [] (fun r hr k' hk' => ?_) ?_
    · have hrl := num_len m r hr
      refine ⟨_, rfl, _, rfl, by rw [List.length_map]; exact small_size (by omega), rfl, ?_⟩
      refine lc_if eN (fun x => decide (x < 4)) eN r [] (fun x hx k2 hk2 => ?_) ?_
      · refine ⟨_, rfl, _, rfl, _, rfl, ?_⟩
        by_cases c : x < 4
        · rw [decide_eq_true c, if_pos rfl] at hk2
          rw [decide_eq_true (show (x : Int) < 4 by omega)]
          exact ⟨_, rfl, hk2⟩
        · rw [decide_eq_false c, if_neg Bool.false_ne_true] at hk2
          rw [decide_eq_false (show ¬ (x : Int) < 4 by omega)]
          exact hk2
      · refine ⟨_, ⟨_, _, rfl, rfl, rfl⟩, _, rfl, lit_size rfl, ?_⟩
        rw [List.nil_append, List.length_map]
        exact hk'
    rw [List.nil_append]
    have ok : SrtOk ((numM m).map fun r => ePair (kNum r)) := by
      refine ⟨PySem.W.AllAlike.of fun _ _ => alike_pair _ _, PySem.W.Sortable.tuples fun _ => ⟨_, _, rfl⟩, by rw [List.length_map]; exact small_size (by omega), fun d hd => ?_, (sh_all _ (sh_map (fun r => sh_pair (kNum r)) _)).1⟩
      obtain ⟨k, _, rfl⟩ := List.mem_map.mp hd
      exact Nat.le_trans (sh_pair _).2 (by decide)
    refine ⟨_, ⟨_, rfl, ok, rfl⟩, ?_⟩
    have es : ((numM m).map fun r => ePair (kNum r)).mergeSort (PySem.W.dataLe false id) = ((numM m).mergeSort fun a b => !kLt (kNum b) (kNum a)).map fun r => ePair (kNum r) :=
      (List.map_mergeSort (f := fun r => ePair (kNum r)) (r := fun a b => !kLt (kNum b) (kNum a)) (s := PySem.W.dataLe false id) fun a _ b _ => by
        rw [PySem.W.dataLe_eq]
        show (!kLt _ _) = !PySem.W.dataLt _ _
        rw [id, id, lt_pair]).symm
    rw [es]
    have hp := List.mergeSort_perm (numM m) (fun a b => !kLt (kNum b) (kNum a))
    have hs := List.pairwise_mergeSort (le := fun a b => !kLt (kNum b) (kNum a)) (fun a b c h1 h2 => by
        rw [Bool.not_eq_true'] at h1 h2 ⊢
        exact kLe_trans h1 h2) (fun a b => by
        rcases kLe_total (kNum a) (kNum b) with z | z
        · rw [z]; rfl
        · rw [z, Bool.or_comm]; rfl) (numM m)
    revert hp hs
    generalize (numM m).mergeSort (fun a b => !kLt (kNum b) (kNum a)) = rs
    intro hp hs
    have hrs : ∀ r ∈ rs, r ∈ numM m := fun r hr => hp.mem_iff.mp hr
    have hlr : rs.length ≤ 3125 := by rw [hp.length_eq]; exact hsz
    refine ⟨lit_size rfl, _, rfl, _, rfl, by rw [List.length_map]; exact small_size (by omega), rfl, ?_⟩
    refine lc_all _ (fun r => eSign (r.map wd)) rs [] (fun r hr k' hk' => ?_) ?_
    · have h5 := num_five (hrs r hr)
      have hrl := num_len m r (hrs r hr)
      refine ⟨_, rfl, rfl, _, _, rfl, _, _, rfl, rfl, _, rfl, _, rfl, (by show (r.map eN).length ≤ sizeLine; rw [List.length_map]; exact small_size (by omega)), rfl, ?_⟩
      refine lc_all eN (fun x => eW (wd x)) r [] (fun x hx k2 hk2 => ?_) ?_
      · have hx5 := h5 x hx
        refine ⟨_, rfl, _, rfl, eW (wd x), ?_, hk2⟩
        match x, hx5 with
        | 0, _ => exact atI_nat (j := 0) rfl
        | 1, _ => exact atI_nat (j := 1) rfl
        | 2, _ => exact atI_nat (j := 2) rfl
        | 3, _ => exact atI_nat (j := 3) rfl
        | 4, _ => exact atI_nat (j := 4) rfl
      · refine ⟨eSign (r.map wd), ⟨_, .inl rfl, ?_⟩, hk'⟩
        unfold eSign
        rw [List.map_map]
        rfl
    · rw [List.nil_append, show rs.map (fun r => eSign (r.map wd)) = (rs.map (List.map wd)).map eSign by rw [List.map_map]; rfl]
      refine q _ (hp.map _) (List.Pairwise.map _ (fun a b hab => hab) ?_)
      refine hs.imp_of_mem fun {a b} ha hb hab => ?_
      rw [Bool.not_eq_true'] at hab
      have fa := num_five (hrs a ha)
      have fb := num_five (hrs b hb)
      unfold sLt sKey
      rw [← num_tells fa, ← num_tells fb, num_ord fa, num_ord fb]
      exact hab
end Sg

/-! Sem8: learning: common, good_signs, first_just, least, fullest, strays, tied. -/
namespace Sg
open PySem L2 Dt
def onRT (d x : PyData) (E : Str → Prop) (k : Rows → Nat → List Nat → Prop) : Prop := onRows d E fun rows m => onTold x rows.length E fun ts => k rows m ts
theorem ite_told {x : PyData} {n : Nat} {E : Str → Prop} {k : List Nat → Prop} {A : Prop} (h : onTold x n E k) (hA : ∀ ts, x = eTs ts → ToldV ts n → k ts → A) : onTold x n E fun _ => A := onTold_bind h hA
theorem len_e (rows : Rows) {E : Str → Prop} {x : PyData} {k : List Nat → Prop} (h : onTold x rows.length E k) : onTold x (rows.map eRow).length E k := by rw [List.length_map]; exact h
structure LrV (d : PyData) (rows : Rows) (ts : List Nat) (m : Nat) : Prop where
  hd : IsRows d rows
  v : RowsV rows m
  t1 : 1 ≤ ts.length
  t2 : ts.length ≤ 200
  lt : ∀ t ∈ ts, t < rows.length
theorem LrV.of {rows : Rows} {ts : List Nat} {m : Nat} (v : RowsV rows m) (t : ToldV ts rows.length) : LrV (eRows rows) rows ts m := ⟨.inl rfl, v, t.n1, Nat.le_trans t.n2 (by decide), t.lt⟩
/-! ### what holds at all told ticks -/
def commonM (rows : Rows) (ts : List Nat) (l : Nat) : List Hold := (holdM rows (ts.headD 0) l).filter fun h => ts.all fun t => decide (h ∈ holdM rows t l)
def menuM (rows : Rows) (ts : List Nat) (l : Nat) : List (Option Hold) := none :: (commonM rows ts l).map some
theorem hold_len (rows : Rows) (t l : Nat) : (holdM rows t l).length ≤ 2 := by
  unfold holdM
  by_cases c : 0 < t ∧ lv rows (t - 1) l ≠ lv rows t l
  · rw [if_pos c]; exact Nat.le_refl _
  · rw [if_neg c]; exact Nat.le_succ _
theorem menu_len (rows : Rows) (ts : List Nat) (l : Nat) : (menuM rows ts l).length ≤ 3 := by
  unfold menuM commonM
  rw [List.length_cons, List.length_map]
  have := List.length_filter_le (fun h => ts.all fun t => decide (h ∈ holdM rows t l)) (holdM rows (ts.headD 0) l)
  have := hold_len rows (ts.headD 0) l
  omega
theorem mem_common {rows : Rows} {ts : List Nat} {l : Nat} {h : Hold} (ht : 1 ≤ ts.length) : h ∈ commonM rows ts l ↔ ∀ t ∈ ts, okH h (lv rows t l) (ahead rows t l) = true := by
  unfold commonM
  rw [List.mem_filter, List.all_eq_true]
  constructor
  · intro ⟨_, q⟩ t ht
    rw [← in_hold]
    exact q t ht
  · intro q
    refine ⟨?_, fun t ht => ?_⟩
    · cases ts with
      | nil => exact absurd ht (by decide)
      | cons t0 tr =>
        have := q t0 List.mem_cons_self
        rw [← in_hold] at this
        exact of_decide_eq_true this
    · rw [in_hold]
      exact q t ht
theorem mem_menu {rows : Rows} {ts : List Nat} {l : Nat} {w : Option Hold} (ht : 1 ≤ ts.length) : w ∈ menuM rows ts l ↔ ∀ t ∈ ts, okW w (lv rows t l) (ahead rows t l) = true := by
  unfold menuM
  cases w with
  | none => exact ⟨fun _ _ _ => rfl, fun _ => List.mem_cons_self⟩
  | some h =>
    rw [show (∀ t ∈ ts, okW (some h) (lv rows t l) (ahead rows t l) = true) ↔ h ∈ commonM rows ts l from (mem_common ht).symm]
    simp
def menusM (rows : Rows) (ts : List Nat) (m : Nat) : List (List (Option Hold)) := (List.range m).map (menuM rows ts)
def fullM (rows : Rows) (ts : List Nat) (m : Nat) : Sign := (List.range m).map fun l => (menuM rows ts l).getLastD none
theorem full_len (rows : Rows) (ts : List Nat) (m : Nat) : (fullM rows ts m).length = m := by unfold fullM; rw [List.length_map, List.length_range]
def Sp_common : DSp := fun ds Q _ => ∃ d rows ts l m, ds = [d, eTs ts, eN l] ∧ LrV d rows ts m ∧ l < m ∧ Q (.list ((menuM rows ts l).map eW))
def w_common : DS := (wSq (wSet 3 (wLc (wSeq (wFn Sp_holding (wCons (wVar 0) (wCons (wBin IxD (wVar 1) (wC (.int 0))) (wCons (wVar 2) wNil))))) (stIf (gdN 4) (wTru (wCall AllC (wCons (wLc (wSeq (wVar 1)) (stAll (gdN 5) (wBin (InD false) (wVar 4) (wFn Sp_holding (wCons (wVar 0) (wCons (wVar 5) (wCons (wVar 2) wNil))))) [5]) [5]) wNil))) (wVar 4) [4]) [4]))
  (wRet (wBin AddD (wLst (wCons (wC .none) wNil)) (wVar 3))))
theorem m_common (ds : List PyData) (Q : PyData → Prop) (E : Str → Prop) (h : Sp_common ds Q E) : w_common (startG ["rows", "told", "line", "some", "one", "tick"] ds) (endO Q E) := by
  obtain ⟨d, rows, ts, l, m, rfl, V, hl, q⟩ := h
  show w_common [.dat d, .dat (eTs ts), .dat (eN l), .no, .no, .no] _
  have e0 : IxD (eTs ts) (.int 0) (eN (ts.headD 0)) := by
    cases ts with
    | nil => exact absurd V.t1 (by decide)
    | cons t0 tr => exact atI_zero _ _
  have h0 : ts.headD 0 < rows.length := by
    cases ts with
    | nil => exact absurd V.t1 (by decide)
    | cons t0 tr => exact V.lt t0 List.mem_cons_self
  have t2 := V.t2
  refine ⟨_, rfl, _, rfl, _, e0, _, rfl, d, rows, ts.headD 0, l, m, rfl, V.hd, V.v.ok, h0, hl, ?_⟩
  refine ⟨_, rfl, by rw [List.length_map]; exact small_size (Nat.le_trans (hold_len _ _ _) (by decide)), rfl, ?_⟩
  refine lc_if eH (fun h => ts.all fun t => decide (h ∈ holdM rows t l)) eH (holdM rows (ts.headD 0) l) [] (fun h _ k hk => ?_) ?_
  · refine ⟨_, rfl, _, rfl, by rw [List.length_map]; exact small_size (by omega), rfl, ?_⟩
    refine lc_all eN (fun t => .bool (decide (h ∈ holdM rows t l))) ts [] (fun t ht k2 hk2 => ?_) ?_
    · refine ⟨_, rfl, _, rfl, _, rfl, _, rfl, d, rows, t, l, m, rfl, V.hd, V.v.ok, V.lt t ht, hl, _, ⟨rfl, strOk_hold h, shaped_holds _⟩, ?_⟩
      rw [Bool.false_xor, inH]
      exact hk2
    · refine ⟨_, ⟨ts.map fun t => decide (h ∈ holdM rows t l), by rw [List.nil_append, allB], rfl⟩, _, rfl, ?_⟩
      rw [all_id]
      refine iteB (fun c => ?_) (fun c => ?_)
      · rw [if_pos c] at hk
        exact ⟨_, rfl, hk⟩
      · rw [if_neg (by rw [c]; exact Bool.false_ne_true)] at hk
        exact hk
  · refine ⟨lit_size rfl, _, rfl, .list ((menuM rows ts l).map eW), ⟨?_, ?_⟩, q⟩
    · unfold menuM
      rw [List.nil_append, List.map_cons, List.map_map]
      rfl
    · have := menu_len rows ts l
      unfold menuM at this
      rw [List.length_cons, List.length_map] at this
      rw [List.nil_append, List.length_map]
      exact small_size (by show 1 + (commonM rows ts l).length ≤ _; omega)
/-! ### all signs that catch what is told -/
theorem good_size {rows : Rows} {ts : List Nat} {m : Nat} (hm : m ≤ 5) : (menusM rows ts m).length = m ∧ (∀ x ∈ menusM rows ts m, x.length ≤ 5) ∧ (prodM (menusM rows ts m)).length ≤ 3125 := by
  have h1 : (menusM rows ts m).length = m := by unfold menusM; rw [List.length_map, List.length_range]
  have h2 : ∀ x ∈ menusM rows ts m, x.length ≤ 5 := fun x hx => by
    obtain ⟨l, _, rfl⟩ := List.mem_map.mp (show x ∈ (List.range m).map _ from hx)
    exact Nat.le_trans (menu_len _ _ _) (by decide)
  refine ⟨h1, h2, Nat.le_trans (prod_size (by omega) h2) (pow5 (by omega))⟩
theorem row0L {d : PyData} {rows : Rows} {ts : List Nat} {m : Nat} (V : LrV d rows ts m) : IxD d (.int 0) (eRow (rows.getD 0 [])) := ix_rows V.hd (Nat.lt_of_lt_of_le Nat.zero_lt_one V.v.n1)
theorem len0L {d : PyData} {rows : Rows} {ts : List Nat} {m : Nat} (V : LrV d rows ts m) : LenC [eRow (rows.getD 0 [])] (.int (m : Int)) := by
  refine ⟨_, _, rfl, rfl, ?_⟩
  rw [List.length_map, len_row V.v.ok (Nat.lt_of_lt_of_le Nat.zero_lt_one V.v.n1)]
def Sp_good_signs : DSp := fun ds Q _ => ∃ d rows ts m, ds = [d, eTs ts] ∧ LrV d rows ts m ∧ ∀ out : List Sign, out.Perm (prodM (menusM rows ts m)) → Srt out → Q (.list (out.map eSign))
def w_good_signs : DS := (wRet (wFn Sp_in_order (wCons (wFn Sp_all_signs (wCons (wLc (wRng Rng1 (wCons (wCall LenC (wCons (wBin IxD (wVar 0) (wC (.int 0))) wNil)) wNil)) (stAll (gdN 2) (wFn Sp_common (wCons (wVar 0) (wCons (wVar 1) (wCons (wVar 2) wNil)))) [2]) [2]) wNil)) wNil)))
theorem m_good_signs (ds : List PyData) (Q : PyData → Prop) (E : Str → Prop) (h : Sp_good_signs ds Q E) : w_good_signs (startG ["rows", "told", "line"] ds) (endO Q E) := by
  obtain ⟨d, rows, ts, m, rfl, V, q⟩ := h
  show w_good_signs [.dat d, .dat (eTs ts), .no] _
  have m2 := V.v.m2
  obtain ⟨g1, g2, g3⟩ := good_size (rows := rows) (ts := ts) m2
  refine ⟨_, rfl, _, row0L V, _, len0L V, _, ⟨_, rfl, by omega, by omega, rfl⟩, ?_⟩
  rw [rngL_nat]
  refine ⟨by rw [List.length_map, List.length_range]; exact small_size (by omega), rfl, ?_⟩
  refine lc_all _ (fun l => eL eW (menuM rows ts l)) (List.range m) [] (fun l hl k hk => ?_) ?_
  · exact ⟨_, rfl, _, rfl, _, rfl, d, rows, ts, l, m, rfl, V, List.mem_range.mp hl, hk⟩
  · rw [List.nil_append, show (List.range m).map (fun l => eL eW (menuM rows ts l)) = (menusM rows ts m).map (eL eW) by unfold menusM; rw [List.map_map]; rfl]
    refine ⟨Option Hold, eW, menusM rows ts m, rfl, by omega, g2, prodM (menusM rows ts m), rfl, by omega, fun s hs => ?_, q⟩
    rw [prod_row _ s hs]
    omega
theorem mem_good {rows : Rows} {ts : List Nat} {m : Nat} {s : Sign} (ht : 1 ≤ ts.length) : s ∈ prodM (menusM rows ts m) ↔ s.length = m ∧ ∀ t ∈ ts, fitsM rows t s = true := by
  rw [prod_mem]
  have e1 : (menusM rows ts m).length = m := by unfold menusM; rw [List.length_map, List.length_range]
  rw [e1]
  constructor
  · rintro ⟨hl, h⟩
    refine ⟨hl, fun t htt => ?_⟩
    unfold fitsM
    rw [List.all_eq_true]
    intro l hl2
    have hl2 := List.mem_range.mp hl2
    have hx : s[l]? = some (s.getD l none) := by rw [List.getD_eq_getElem?_getD, List.getElem?_eq_getElem hl2]; rfl
    have hm : (menusM rows ts m)[l]? = some (menuM rows ts l) := by
      unfold menusM
      rw [List.getElem?_map, List.getElem?_range (by omega)]
      rfl
    exact (mem_menu ht).mp (h l _ _ hx hm) t htt
  · rintro ⟨hl, h⟩
    refine ⟨hl, fun i x mm hx hm => ?_⟩
    obtain ⟨hi, e⟩ := List.getElem?_eq_some_iff.mp hx
    have hm2 : (menusM rows ts m)[i]? = some (menuM rows ts i) := by
      unfold menusM
      rw [List.getElem?_map, List.getElem?_range (by omega)]
      rfl
    rw [hm2] at hm
    cases hm
    refine (mem_menu ht).mpr fun t htt => ?_
    have := h t htt
    unfold fitsM at this
    rw [List.all_eq_true] at this
    have := this i (List.mem_range.mpr hi)
    rw [List.getD_eq_getElem?_getD, hx] at this
    exact this
/-! ### the first that catches just these -/
def srtAll (m : Nat) : List Sign := (allS m).mergeSort fun a b => !sLt b a
theorem srtAll_perm (m : Nat) : (srtAll m).Perm (allS m) := List.mergeSort_perm _ _
theorem srtAll_srt (m : Nat) : Srt (srtAll m) := by
  have := List.pairwise_mergeSort (le := fun a b => !sLt b a) (fun a b c h1 h2 => by
    rw [Bool.not_eq_true'] at h1 h2 ⊢
    exact kLe_trans h1 h2) (fun a b => by
    show (!sLt b a || !sLt a b) = true
    rcases kLe_total (sKey a) (sKey b) with z | z
    · rw [show sLt b a = false from z]; rfl
    · rw [show sLt a b = false from z, Bool.or_comm]; rfl) (allS m)
  exact this.imp fun h => by rw [Bool.not_eq_true'] at h; exact h
def firstM (rows : Rows) (ts : List Nat) (m : Nat) : Option Sign := (srtAll m).find? fun s => decide (ticksM rows s = ts)
def eOS : Option Sign → PyData
  | none => .none
  | some s => eSign s
theorem mem_ticks {rows : Rows} {s : Sign} {t : Nat} : t ∈ ticksM rows s ↔ t < rows.length ∧ fitsM rows t s = true := by
  unfold ticksM
  rw [List.mem_filter, List.mem_range]
/-- in any sorted row of all signs (that catch what is told) the first that catches just these is the same -/
theorem first_good {rows : Rows} {ts : List Nat} {m : Nat} {out : List Sign} (ht : 1 ≤ ts.length) (hp : out.Perm (prodM (menusM rows ts m))) (hs : Srt out) : out.find? (fun s => decide (ticksM rows s = ts)) = firstM rows ts m := by
  refine find_same hs (srtAll_srt m) fun s => ?_
  rw [hp.mem_iff, mem_good ht, (srtAll_perm m).mem_iff, mem_allS]
  constructor
  · exact fun ⟨⟨a, _⟩, c⟩ => ⟨a, c⟩
  · refine fun ⟨a, c⟩ => ⟨⟨a, fun t htt => ?_⟩, c⟩
    rw [← of_decide_eq_true c] at htt
    exact (mem_ticks.mp htt).2
theorem first_all {rows : Rows} {ts : List Nat} {m : Nat} {out : List Sign} (hp : out.Perm (allS m)) (hs : Srt out) : out.find? (fun s => decide (ticksM rows s = ts)) = firstM rows ts m := by
  refine find_same hs (srtAll_srt m) fun s => ?_
  rw [hp.mem_iff, (srtAll_perm m).mem_iff]
def Sp_first_just : DSp := fun ds Q _ => ∃ d rows ts m, ds = [d, eTs ts] ∧ LrV d rows ts m ∧ Q (eOS (firstM rows ts m))
def w_first_just : DS := (wSq (wFor (wSeq (wFn Sp_good_signs (wCons (wVar 0) (wCons (wVar 1) wNil)))) (gdN 2) (wIfS (wTst (wBin EqD (wFn Sp_ticks_of (wCons (wVar 0) (wCons (wVar 2) wNil))) (wVar 1))) (wRet (wVar 2)) wNx))
  (wRet (wC .none)))
theorem m_first_just (ds : List PyData) (Q : PyData → Prop) (E : Str → Prop) (h : Sp_first_just ds Q E) : w_first_just (startG ["rows", "told", "sign"] ds) (endO Q E) := by
  obtain ⟨d, rows, ts, m, rfl, V, q⟩ := h
  show w_first_just [.dat d, .dat (eTs ts), .no] _
  have m2 := V.v.m2
  refine ⟨_, rfl, _, rfl, d, rows, ts, m, rfl, V, fun out hp hs => ?_⟩
  rw [← first_good V.t1 hp hs] at q
  have hol : ∀ s ∈ out, s.length = m := fun s h => ((mem_good V.t1).mp (hp.mem_iff.mp h)).1
  refine ⟨_, rfl, ?_⟩
  refine for_inv eSign out (fun pre Γ => (∀ s ∈ pre, ticksM rows s ≠ ts) ∧ ∃ x2, Γ = [.dat d, .dat (eTs ts), x2]) ?_ ?_ ⟨fun _ h => absurd h List.not_mem_nil, _, rfl⟩
  · rintro pre s post Γ e ⟨hpre, x2, rfl⟩ next hk
    have hsl : s.length = m := hol s (by rw [e]; exact List.mem_append.mpr (.inr List.mem_cons_self))
    have n2 := V.v.n2
    refine ⟨_, rfl, _, rfl, d, rows, s, m, rfl, V.hd, V.v.ok, by omega, by omega, by omega, _, rfl, _, ⟨rfl, (sh_ts _).ok, (sh_ts _).ok⟩, _, rfl, ?_⟩
    rw [eqv_tsN]
    refine iteB (fun c => ?_) (fun c => ?_)
    · refine ⟨_, rfl, ?_⟩
      have : out.find? (fun s => decide (ticksM rows s = ts)) = some s := by
        rw [e, List.find?_append, show pre.find? (fun s => decide (ticksM rows s = ts)) = none from List.find?_eq_none.mpr fun x hx => by rw [decide_eq_false (hpre x hx)]; exact Bool.false_ne_true, List.find?_cons, c]
        rfl
      rw [this] at q
      exact q
    · exact hk _ ⟨fun s' hs' => by
        rcases List.mem_append.mp hs' with z | z
        · exact hpre s' z
        · rw [List.mem_singleton.mp z]; exact of_decide_eq_false c, _, rfl⟩
  · rintro Γ ⟨hpre, x2, rfl⟩
    rw [show out.find? (fun s => decide (ticksM rows s = ts)) = none from List.find?_eq_none.mpr fun x hx => by rw [decide_eq_false (hpre x hx)]; exact Bool.false_ne_true] at q
    exact q
def Sp_least : DSp := fun ds Q E => ∃ d x, ds = [d, x] ∧ onRT d x E fun rows m ts => match firstM rows ts m with
  | some s => Q (eSign s)
  | none => E "NoSign"
def w_least : DS := (wSq (wEx (wFn Sp_look_rows (wCons (wVar 0) wNil)))
  (wSq (wEx (wFn Sp_look_told (wCons (wVar 0) (wCons (wVar 1) wNil))))
  (wSq (wSet 2 (wFn Sp_first_just (wCons (wVar 0) (wCons (wVar 1) wNil))))
  (wSq (wIfS (wTst (wBin IsND (wVar 2) (wC .none))) (wRaise "NoSign") wNx)
  (wRet (wVar 2))))))
theorem m_least (ds : List PyData) (Q : PyData → Prop) (E : Str → Prop) (h : Sp_least ds Q E) : w_least (startG ["rows", "told", "found"] ds) (endO Q E) := by
  obtain ⟨d, x, rfl, h⟩ := h
  show w_least [.dat d, .dat x, .no] _
  refine ⟨_, rfl, d, rfl, h.1, ite_rows h (fun z => z) fun rows m e v h2 => ?_⟩
  subst e
  refine ⟨_, rfl, _, rfl, _, _, x, rfl, rfl, ite_told (len_e rows h2) fun ts e tv z => ?_⟩
  subst e
  rw [List.length_map] at tv
  refine ⟨_, rfl, _, rfl, _, rows, ts, m, rfl, .of v tv, ?_⟩
  refine ⟨_, rfl, _, ⟨rfl, rfl⟩, _, rfl, ?_⟩
  cases hf : firstM rows ts m with
  | none =>
    rw [hf] at z
    exact z
  | some s =>
    rw [hf] at z
    exact ⟨_, rfl, z⟩
/-! ### the fullest -/
def Sp_fullest_of : DSp := fun ds Q _ => ∃ d rows ts m, ds = [d, eTs ts] ∧ LrV d rows ts m ∧ Q (eSign (fullM rows ts m))
def w_fullest_of : DS := (wRet (wCall TupC (wCons (wLc (wRng Rng1 (wCons (wCall LenC (wCons (wBin IxD (wVar 0) (wC (.int 0))) wNil)) wNil)) (stAll (gdN 2) (wBin IxD (wFn Sp_common (wCons (wVar 0) (wCons (wVar 1) (wCons (wVar 2) wNil)))) (wUn NegD (wC (.int 1)))) [2]) [2]) wNil)))
theorem m_fullest_of (ds : List PyData) (Q : PyData → Prop) (E : Str → Prop) (h : Sp_fullest_of ds Q E) : w_fullest_of (startG ["rows", "told", "line"] ds) (endO Q E) := by
  obtain ⟨d, rows, ts, m, rfl, V, q⟩ := h
  show w_fullest_of [.dat d, .dat (eTs ts), .no] _
  have m2 := V.v.m2
  refine ⟨_, rfl, _, row0L V, _, len0L V, _, ⟨_, rfl, by omega, by omega, rfl⟩, ?_⟩
  rw [rngL_nat]
  refine ⟨by rw [List.length_map, List.length_range]; exact small_size (by omega), rfl, ?_⟩
  refine lc_all _ (fun l => eW ((menuM rows ts l).getLastD none)) (List.range m) [] (fun l hl k hk => ?_) ?_
  · refine ⟨_, rfl, _, rfl, _, rfl, d, rows, ts, l, m, rfl, V, List.mem_range.mp hl, _, rfl, eW ((menuM rows ts l).getLastD none), ?_, hk⟩
    obtain ⟨i, x, e⟩ : ∃ i x, menuM rows ts l = i ++ [x] := by
      rcases List.eq_nil_or_concat (menuM rows ts l) with z | ⟨i, x, z⟩
      · cases z
      · exact ⟨i, x, by rw [z, List.concat_eq_append]⟩
    rw [e]
    have : (i ++ [x]).getLastD none = x := by simp
    rw [this]
    exact atI_lastM eW i x
  · refine ⟨eSign (fullM rows ts m), ⟨_, .inl rfl, ?_⟩, q⟩
    unfold eSign fullM
    rw [List.nil_append, List.map_map]
    rfl
def Sp_fullest : DSp := fun ds Q E => ∃ d x, ds = [d, x] ∧ onRT d x E fun rows m ts => Q (eSign (fullM rows ts m))
def w_fullest : DS := (wSq (wEx (wFn Sp_look_rows (wCons (wVar 0) wNil)))
  (wSq (wEx (wFn Sp_look_told (wCons (wVar 0) (wCons (wVar 1) wNil))))
  (wRet (wFn Sp_fullest_of (wCons (wVar 0) (wCons (wVar 1) wNil))))))
theorem m_fullest (ds : List PyData) (Q : PyData → Prop) (E : Str → Prop) (h : Sp_fullest ds Q E) : w_fullest (startG ["rows", "told"] ds) (endO Q E) := by
  obtain ⟨d, x, rfl, h⟩ := h
  show w_fullest [.dat d, .dat x] _
  refine ⟨_, rfl, d, rfl, h.1, ite_rows h (fun z => z) fun rows m e v h2 => ?_⟩
  subst e
  refine ⟨_, rfl, _, rfl, _, _, x, rfl, rfl, ite_told (len_e rows h2) fun ts e tv z => ?_⟩
  subst e
  rw [List.length_map] at tv
  exact ⟨_, rfl, _, rfl, _, rows, ts, m, rfl, .of v tv, z⟩
/-! ### strays -/
def straysM (rows : Rows) (ts : List Nat) (m : Nat) : List Nat := (ticksM rows (fullM rows ts m)).filter fun t => !decide (t ∈ ts)
def Sp_strays : DSp := fun ds Q E => ∃ d x, ds = [d, x] ∧ onRT d x E fun rows m ts => Q (eTs (straysM rows ts m))
theorem ticks_le (rows : Rows) (s : Sign) : (ticksM rows s).length ≤ rows.length := by
  unfold ticksM
  exact Nat.le_trans (List.length_filter_le _ _) (by rw [List.length_range]; exact Nat.le_refl _)
def w_strays : DS := (wSq (wEx (wFn Sp_look_rows (wCons (wVar 0) wNil)))
  (wSq (wEx (wFn Sp_look_told (wCons (wVar 0) (wCons (wVar 1) wNil))))
  (wRet (wLc (wSeq (wFn Sp_ticks_of (wCons (wVar 0) (wCons (wFn Sp_fullest_of (wCons (wVar 0) (wCons (wVar 1) wNil))) wNil)))) (stIf (gdN 2) (wTst (wBin (InD true) (wVar 2) (wVar 1))) (wVar 2) [2]) [2]))))
theorem m_strays (ds : List PyData) (Q : PyData → Prop) (E : Str → Prop) (h : Sp_strays ds Q E) : w_strays (startG ["rows", "told", "tick"] ds) (endO Q E) := by
  obtain ⟨d, x, rfl, h⟩ := h
  show w_strays [.dat d, .dat x, .no] _
  refine ⟨_, rfl, d, rfl, h.1, ite_rows h (fun z => z) fun rows m e v h2 => ?_⟩
  subst e
  refine ⟨_, rfl, _, rfl, _, _, x, rfl, rfl, ite_told (len_e rows h2) fun ts e tv z => ?_⟩
  subst e
  rw [List.length_map] at tv
  have n2 := v.n2
  have m2 := v.m2
  have hl := ticks_le rows (fullM rows ts m)
  have hf := full_len rows ts m
  refine ⟨_, rfl, _, rfl, _, rfl, _, rows, ts, m, rfl, .of v tv, _, rows, fullM rows ts m, m, rfl, .inl rfl, v.ok, by omega, by omega, by omega, ?_⟩
  refine ⟨_, rfl, by rw [List.length_map]; exact small_size (by omega), rfl, ?_⟩
  refine lc_if eN (fun t => !decide (t ∈ ts)) eN (ticksM rows (fullM rows ts m)) [] (fun t _ k hk => ?_) z
  refine ⟨_, rfl, _, rfl, _, ⟨rfl, (sh_n _).ok, (sh_ts _).ok⟩, _, rfl, ?_⟩
  rw [show inD (eN t) (ts.map eN) = decide (t ∈ ts) from inD_map eqv_n t ts]
  by_cases c : t ∈ ts
  · rw [decide_eq_true c] at hk ⊢
    exact hk
  · rw [decide_eq_false c] at hk ⊢
    exact ⟨_, rfl, hk⟩
/-! ### tied -/
def Sp_is_tied : DSp := fun ds Q _ => ∃ d rows ts m t, ds = [d, eTs ts, eN t] ∧ LrV d rows ts m ∧ t < rows.length ∧ Q (.bool (fitsM rows t (fullM rows ts m)))
def w_is_tied : DS := (wRet (wFn Sp_fits (wCons (wVar 0) (wCons (wVar 2) (wCons (wFn Sp_fullest_of (wCons (wVar 0) (wCons (wVar 1) wNil))) wNil)))))
theorem m_is_tied (ds : List PyData) (Q : PyData → Prop) (E : Str → Prop) (h : Sp_is_tied ds Q E) : w_is_tied (startG ["rows", "some", "tick"] ds) (endO Q E) := by
  obtain ⟨d, rows, ts, m, t, rfl, V, ht, q⟩ := h
  show w_is_tied [.dat d, .dat (eTs ts), .dat (eN t)] _
  have hf := full_len rows ts m
  have m2 := V.v.m2
  exact ⟨_, rfl, _, rfl, _, rfl, _, rfl, d, rows, ts, m, rfl, V, d, rows, t, fullM rows ts m, m, rfl, V.hd, V.v.ok, ht, by omega, by omega, q⟩
def Sp_tied : DSp := fun ds Q E => ∃ d x y, ds = [d, x, y] ∧ onRT d x E fun rows m ts => onTold (.list [y]) rows.length E fun us => Q (.bool (fitsM rows (us.headD 0) (fullM rows ts m)))
def w_tied : DS := (wSq (wEx (wFn Sp_look_rows (wCons (wVar 0) wNil)))
  (wSq (wEx (wFn Sp_look_told (wCons (wVar 0) (wCons (wVar 1) wNil))))
  (wSq (wEx (wFn Sp_look_told (wCons (wVar 0) (wCons (wLst (wCons (wVar 2) wNil)) wNil))))
  (wRet (wFn Sp_is_tied (wCons (wVar 0) (wCons (wVar 1) (wCons (wVar 2) wNil))))))))
theorem m_tied (ds : List PyData) (Q : PyData → Prop) (E : Str → Prop) (h : Sp_tied ds Q E) : w_tied (startG ["rows", "some", "tick"] ds) (endO Q E) := by
  obtain ⟨d, x, y, rfl, h⟩ := h
  show w_tied [.dat d, .dat x, .dat y] _
  refine ⟨_, rfl, d, rfl, h.1, ite_rows h (fun z => z) fun rows m e v h2 => ?_⟩
  subst e
  refine ⟨_, rfl, _, rfl, _, _, x, rfl, rfl, ite_told (len_e rows h2) fun ts e tv z => ?_⟩
  subst e
  rw [List.length_map] at tv
  refine ⟨_, rfl, _, rfl, lit_size rfl, _, _, _, rfl, rfl, ite_told (len_e rows z) fun us e tu z2 => ?_⟩
  rw [List.length_map] at tu
  have e2 := PyData.list.inj e
  obtain ⟨u, rfl⟩ : ∃ u, us = [u] := by
    match us, e2 with
    | [u], _ => exact ⟨u, rfl⟩
  have ey : y = eN u := (List.cons.inj e2).1
  subst ey
  exact ⟨_, rfl, _, rfl, _, rfl, _, rows, ts, m, u, rfl, .of v tv, tu.lt u List.mem_cons_self, z2⟩
end Sg

/-! Five: all signs by lines. -/
namespace Sg
open PySem L2 Dt
/-- all five, line by line -/
def five5 : List (Option Hold) := [none, some .high, some .low, some .rise, some .fall]
theorem mem_five (w : Option Hold) : w ∈ five5 := by
  cases w with
  | none => decide
  | some h => cases h <;> decide
theorem mem_all5 {m : Nat} {s : Sign} : s ∈ prodM (List.replicate m five5) ↔ s.length = m := by
  rw [prod_mem, List.length_replicate]
  refine ⟨fun h => h.1, fun h => ⟨h, fun i x mm _ hm => ?_⟩⟩
  obtain ⟨h1, h2⟩ := List.getElem?_eq_some_iff.mp hm
  rw [← h2, List.getElem_replicate]
  exact mem_five x
theorem prod_nodup {α : Type} : ∀ (menus : List (List α)), (∀ m ∈ menus, m.Nodup) → (prodM menus).Nodup := snoc_ind (fun _ => by
    show [([] : List α)].Nodup
    simp) fun ms mm ih h => by
    rw [prod_snoc]
    have h1 := ih fun x hx => h x (List.mem_append.mpr (.inl hx))
    have h2 := h mm (List.mem_append.mpr (.inr List.mem_cons_self))
    have hlen := prod_row ms
    unfold growM
    unfold List.Nodup at h1 h2 ⊢
    rw [List.pairwise_flatMap]
    refine ⟨fun row _ => List.Pairwise.map _ (fun a b hab z => hab ?_) h2, h1.imp_of_mem fun {a b} ha hb hab x hx y hy z => hab ?_⟩
    · have := List.append_cancel_left z
      exact (List.cons.inj this).1
    · obtain ⟨o1, _, rfl⟩ := List.mem_map.mp hx
      obtain ⟨o2, _, rfl⟩ := List.mem_map.mp hy
      exact (List.append_inj z (by rw [hlen a ha, hlen b hb])).1
theorem allS_nodup (m : Nat) : (allS m).Nodup := by
  unfold allS
  have h1 : (numM m).Nodup := prod_nodup _ fun x hx => by rw [(List.mem_replicate.mp hx).2]; decide
  unfold List.Nodup at h1 ⊢
  refine List.Pairwise.map _ (fun a b hab => hab) (h1.imp_of_mem fun {a b} ha hb hab z => hab ?_)
  rw [← num_ord (num_five ha), ← num_ord (num_five hb), z]
theorem five_nodup (m : Nat) : (prodM (List.replicate m five5)).Nodup := prod_nodup _ fun x hx => by rw [(List.mem_replicate.mp hx).2]; decide
theorem five_perm (m : Nat) : (prodM (List.replicate m five5)).Perm (allS m) := (List.perm_ext_iff_of_nodup (five_nodup m) (allS_nodup m)).mpr fun s => by rw [mem_all5, mem_allS]
theorem srt_eq {m : Nat} {out : List Sign} (hp : out.Perm (allS m)) (hs : Srt out) : out = srtAll m :=
  List.Perm.eq_of_pairwise (le := fun a b => sLt b a = false) (fun a b _ _ h1 h2 => sLt_anti h2 h1) hs (srtAll_srt m) (hp.trans (srtAll_perm m).symm)
theorem srt_len {m : Nat} (h : m ≤ 3) : (srtAll m).length ≤ 125 := by
  rw [(srtAll_perm m).length_eq]
  unfold allS numM
  rw [List.length_map]
  refine Nat.le_trans (prod_size (by rw [List.length_replicate]; omega) fun x hx => by rw [(List.mem_replicate.mp hx).2]; decide) ?_
  rw [List.length_replicate]
  match m, h with
  | 0, _ => decide
  | 1, _ => decide
  | 2, _ => decide
  | 3, _ => decide
end Sg

/-! Sem71: a bench over its levels and marks. -/
namespace Sg
open PySem L2 Dt
abbrev Mks := List (Nat × Bool)
def eMk (p : Nat × Bool) : PyData := .tuple [eN p.1, .bool p.2]
def eSn (rows : Rows) : PyData := .tuple (rows.map eRow)
def eMs (mk : Mks) : PyData := .tuple (mk.map eMk)
def eNow (rows : Rows) (mk : Mks) : PyData := .tuple [eSn rows, eMs mk]
def benS (m : Nat) (rows : Rows) (mk : Mks) (bs ls : List PyData) : Rs := ⟨true, (m : Int), (srtAll m).map eSign, eNow rows mk, bs, ls⟩
/-! ### a new bench -/
def Sp___init__ : ISp := fun ds Q E => ∃ x, ds = [x] ∧ onNum x 1 3 E fun i => Q (benS i.toNat [] [] [] [])
def wt_init : DB := (wtNot (wTru (wFn Sp_is_whole (wCons (wVar 1) (wCons (wC (.int 1)) (wCons (wC (.int 3)) wNil))))))
def w_init : DE := (wFn Sp_in_order (wCons (wFn Sp_all_signs (wCons (wBin MulD (wLst (wCons (wBin AddD (wLst (wCons (wC .none) wNil)) (wCall LstC (wCons (wC g_HOLDS) wNil))) wNil)) (wVar 1)) wNil)) wNil))
theorem m_init (ds : List PyData) (Q : Rs → Prop) (E : Str → Prop) (h : Sp___init__ ds Q E) : ∃ d, ds = [d] ∧ wt_init [.no, .dat d] (fun b Γ => if b = true then E "BadNumber" else ∃ i, d = .int i ∧ w_init [.no, .dat d] (fun e _ => ∃ l, e = .list l ∧ Q (new0 i l)) (fun _ _ => False)) (fun _ _ => False) := by
  obtain ⟨x, rfl, h⟩ := h
  refine ⟨x, rfl, _, rfl, _, _, _, rfl, _, rfl, ?_⟩
  refine ite_num h (fun z => z) fun i e i1 i2 q => ?_
  subst e
  obtain ⟨m, rfl⟩ : ∃ m : Nat, i = (m : Int) := ⟨i.toNat, by omega⟩
  rw [Int.toNat_natCast] at q
  refine ⟨_, rfl, lit_size rfl, _, ⟨_, .inr rfl, rfl⟩, .list (five5.map eW), ⟨rfl, lit_size rfl⟩, lit_size rfl, _, rfl, .list ((List.replicate m five5).map (eL eW)), ⟨?_, by omega, by omega, ?_⟩, Option Hold, eW, List.replicate m five5, rfl, by rw [List.length_replicate]; omega, fun x hx => by rw [(List.mem_replicate.mp hx).2]; decide, ?_⟩
  · rw [Int.toNat_natCast, rep_flat, List.map_replicate]
    rfl
  · rw [Int.toNat_natCast]
    exact small_size (by show 1 * m ≤ _; omega)
  have pz := prod_size (menus := List.replicate m five5) (by rw [List.length_replicate]; omega) (fun x hx => by rw [(List.mem_replicate.mp hx).2]; decide)
  rw [List.length_replicate] at pz
  have pz2 : (prodM (List.replicate m five5)).length ≤ 3125 := Nat.le_trans pz (pow5 (by omega))
  refine ⟨prodM (List.replicate m five5), rfl, by omega, fun s hs => by rw [mem_all5.mp hs]; omega, fun out hp hs => ⟨_, rfl, ?_⟩⟩
  rw [srt_eq (hp.trans (five_perm m)) hs]
  exact q
/-! ### see -/
def Sp_see : GSp := fun r ds Q _ => ∃ lv m rows mk bs ls, ds = [eRow lv] ∧ r = benS m rows mk bs ls ∧ lv.length = m ∧ m ≤ 5 ∧ rows.length < 200 ∧ bs.length < 10000 ∧ Q .none (benS m (rows ++ [lv]) mk (bs ++ [eNow rows mk]) [])
def w_see : DS := (wSq (wIfS (wtOr (wtNot (wTru (wFn Sp_are_levels (wCons (wVar 1) (wCons (wFld 0 .many) wNil))))) (wTst (wBin EqD (wCall LenC (wCons (wBin IxD (wFld 0 .now) (wC (.int 0))) wNil)) (wC (.int 200))))) (wRaise "BadRows") wNx)
  (wMG 0 Sp_go (wCons (wBin AddD (wBin IxD (wFld 0 .now) (wC (.int 0))) (wTup (wCons (wVar 1) wNil))) (wCons (wNow1 0) wNil))))
theorem m_see (a : Addr) (r : Rs) (ds : List PyData) (Q : PyData → Rs → Prop) (E : Str → Rs → Prop) (hb : r.ben = true) (h : Sp_see r ds Q E) : w_see (startB ["self", "levels"] (.rs a r) ds) (endB a Q E) := by
  obtain ⟨lv, m, rows, mk, bs, ls, rfl, rfl, h1, h2, h3, h4, q⟩ := h
  show w_see [.rs a (benS m rows mk bs ls), .dat (eRow lv)] _
  have Bn0 : Bn [.rs a (benS m rows mk bs ls), .dat (eRow lv)] 0 a (benS m rows mk bs ls) := ⟨⟨_, rfl, rfl⟩, rfl⟩
  refine ⟨_, rfl, a, _, Bn0, _, _, rfl, fun l e => by rw [← PyData.tuple.inj e, List.length_map]; exact small_size (by omega), _, rfl, ?_⟩
  have el : isLevels (eRow lv) (benS m rows mk bs ls).many = true := e_levels (by show (lv.length : Int) = (m : Int); omega)
  rw [el]
  refine ⟨a, _, Bn0, _, atI_zero _ _, _, ⟨_, _, rfl, rfl, rfl⟩, _, ⟨rfl, (Sh.int _).ok, (Sh.int _).ok⟩, _, rfl, ?_⟩
  rw [List.length_map, show PyData.eqv (.int ((rows.length : Nat) : Int)) (.int 200) = decide (rows.length = 200) from eqv_n rows.length 200]
  refine iteB (fun c => absurd (of_decide_eq_true c) (by omega)) fun _ => ?_
  refine ⟨⟨a, _, rfl, rfl⟩, a, _, Bn0, _, atI_zero _ _, _, rfl, lit_size rfl, _, ⟨rfl, by rw [List.length_map]; exact small_size (by show _ + 1 ≤ _; omega)⟩, a, _, _, _, Bn0, rfl, a, _, ⟨rfl, rfl⟩, _, _, rfl, by show bs.length < _; omega, ?_⟩
  refine ⟨_, rfl, ?_⟩
  have e : PyData.tuple (rows.map eRow ++ [eRow lv]) = eSn (rows ++ [lv]) := by unfold eSn; rw [List.map_append]; rfl
  rw [e]
  exact q
/-! ### what is told -/
structure MkV (mk : Mks) (n : Nat) : Prop where
  up : mk.Pairwise fun a b => a.1 < b.1
  lt : ∀ p ∈ mk, p.1 < n
def Vw (m : Nat) (rows : Rows) (mk : Mks) (bs ls : List PyData) (r : Rs) : Prop := r = benS m rows mk bs ls ∧ rows.length ≤ 200 ∧ RowsOk rows m ∧ m ≤ 5 ∧ MkV mk rows.length
theorem up_ext {a b : List Nat} (ha : a.Pairwise (· < ·)) (hb : b.Pairwise (· < ·)) (h : ∀ x, x ∈ a ↔ x ∈ b) : a = b := by
  have na : a.Nodup := ha.imp fun h => Nat.ne_of_lt h
  have nb : b.Nodup := hb.imp fun h => Nat.ne_of_lt h
  exact List.Perm.eq_of_pairwise (le := (· < ·)) (fun x y _ _ h1 h2 => absurd h1 (Nat.lt_asymm h2)) ha hb ((List.perm_ext_iff_of_nodup na nb).mpr h)
theorem up_fst {mk : Mks} {n : Nat} (h : MkV mk n) : (mk.map (·.1)).Pairwise (· < ·) := by
  rw [List.pairwise_map]
  exact h.up
theorem mk_len {mk : Mks} {n : Nat} (h : MkV mk n) : mk.length ≤ n := by
  have e : mk.map (·.1) = (List.range n).filter fun x => decide (x ∈ mk.map (·.1)) := up_ext (up_fst h) (List.Pairwise.sublist List.filter_sublist List.pairwise_lt_range) fun x => by
    rw [List.mem_filter, decide_eq_true_eq, List.mem_range]
    exact ⟨fun z => ⟨by obtain ⟨p, hp, rfl⟩ := List.mem_map.mp z; exact h.lt p hp, z⟩, fun z => z.2⟩
  have l := List.length_filter_le (fun x => decide (x ∈ mk.map (·.1))) (List.range n)
  rw [← e, List.length_map, List.length_range] at l
  exact l
def Sp_seen : VSp := fun r ds Q _ => ∃ m rows mk bs ls, ds = [] ∧ r = benS m rows mk bs ls ∧ Q (eRows rows)
def w_seen : DS := (wRet (wCall LstC (wCons (wBin IxD (wFld 0 .now) (wC (.int 0))) wNil)))
theorem m_seen (a : Addr) (r : Rs) (ds : List PyData) (Q : PyData → Prop) (E : Str → Prop) (hb : r.ben = true) (h : Sp_seen r ds Q E) : w_seen (startB ["self"] (.vw a r) ds) (endO Q E) := by
  obtain ⟨m, rows, mk, bs, ls, rfl, rfl, q⟩ := h
  show w_seen [.vw a (benS m rows mk bs ls)] _
  exact ⟨a, _, ⟨⟨_, rfl, rfl⟩, rfl⟩, _, atI_zero _ _, _, ⟨_, .inr rfl, rfl⟩, q⟩
def kpM (mk : Mks) : List (Key × Bool) := mk.map fun p => (.inl (p.1 : Int), p.2)
def eMd (mk : Mks) : PyData := eD ((kpM mk).map fun q => (q.1, .bool q.2))
def Sp_marks : VSp := fun r ds Q _ => ∃ m rows mk bs ls, ds = [] ∧ r = benS m rows mk bs ls ∧ (∃ n, MkV mk n) ∧ Q (eMd mk)
def w_marks : DS := (wRet (wCall PairT (wCons (wNow1 0) wNil)))
theorem kp_nd {mk : Mks} {n : Nat} (h : MkV mk n) : (((kpM mk).map fun q => (q.1, PyData.bool q.2)).map (·.1)).Nodup := by
  unfold kpM
  rw [List.map_map, List.map_map, List.Nodup, List.pairwise_map]
  refine h.up.imp fun {a b} hab z => ?_
  have z : (Sum.inl (a.1 : Int) : Key) = .inl (b.1 : Int) := z
  have := Sum.inl.inj z
  omega
theorem m_marks (a : Addr) (r : Rs) (ds : List PyData) (Q : PyData → Prop) (E : Str → Prop) (hb : r.ben = true) (h : Sp_marks r ds Q E) : w_marks (startB ["self"] (.vw a r) ds) (endO Q E) := by
  obtain ⟨m, rows, mk, bs, ls, rfl, rfl, ⟨n, hm⟩, q⟩ := h
  show w_marks [.vw a (benS m rows mk bs ls)] _
  refine ⟨a, _, _, _, ⟨⟨_, rfl, rfl⟩, rfl⟩, rfl, _, ⟨(kpM mk).map fun (q : Key × Bool) => (q.1, PyData.bool q.2), ?_, kp_nd hm, rfl⟩, q⟩
  unfold eMs kpM
  rw [List.map_map, List.map_map]
  rfl
def okM (rows : Rows) (mk : Mks) (s : Sign) : Bool := mk.all fun p => decide (fitsM rows p.1 s = p.2)
def fitM (m : Nat) (rows : Rows) (mk : Mks) : List Sign := (srtAll m).filter (okM rows mk)
def Sp_fitting : VSp := fun r ds Q _ => ∃ m rows mk bs ls, ds = [] ∧ Vw m rows mk bs ls r ∧ Q (.list ((fitM m rows mk).map eSign))
theorem srtA_len {m : Nat} (h : m ≤ 5) : (srtAll m).length ≤ 3125 := by
  rw [(srtAll_perm m).length_eq]
  unfold allS
  rw [List.length_map]
  exact num_size h
theorem srtA_sl {m : Nat} {s : Sign} (h : s ∈ srtAll m) : s.length = m := mem_allS.mp ((srtAll_perm m).mem_iff.mp h)
def w_fitting : DS := (wSq (wSet 1 (wBin IxD (wFld 0 .now) (wC (.int 0))))
  (wRet (wLc (wSeq (wFld 0 .signs)) (stIf (gdN 2) (wTru (wCall AllC (wCons (wLc (wSeq (wBin IxD (wFld 0 .now) (wC (.int 1)))) (stAll (gdT 2 (gdCons (gdN 3) (gdCons (gdN 4) gdNil))) (wBin EqD (wFn Sp_fits (wCons (wVar 1) (wCons (wVar 3) (wCons (wVar 2) wNil)))) (wVar 4)) [3, 4]) [3, 4]) wNil))) (wVar 2) [2]) [2])))
theorem m_fitting (a : Addr) (r : Rs) (ds : List PyData) (Q : PyData → Prop) (E : Str → Prop) (hb : r.ben = true) (h : Sp_fitting r ds Q E) : w_fitting (startB ["self", "rows", "sign", "tick", "good"] (.vw a r) ds) (endO Q E) := by
  obtain ⟨m, rows, mk, bs, ls, rfl, ⟨rfl, n2, rok, m5, mv⟩, q⟩ := h
  show w_fitting [.vw a (benS m rows mk bs ls), .no, .no, .no, .no] _
  have sl := srtA_len m5
  have ml := mk_len mv
  refine ⟨a, _, ⟨⟨_, rfl, rfl⟩, rfl⟩, _, atI_zero _ _, ?_⟩
  refine ⟨a, _, ⟨⟨_, rfl, rfl⟩, rfl⟩, _, rfl, by show ((srtAll m).map eSign).length ≤ _; rw [List.length_map]; exact small_size (by omega), rfl, ?_⟩
  refine lc_if eSign (okM rows mk) eSign (srtAll m) [] (fun s hs k hk => ?_) ?_
  · have hsl := srtA_sl hs
    refine ⟨a, _, ⟨⟨_, rfl, rfl⟩, rfl⟩, _, atI_nat (j := 1) rfl, _, rfl, by rw [List.length_map]; exact small_size (by omega), rfl, ?_⟩
    refine lc_all eMk (fun p => .bool (decide (fitsM rows p.1 s = p.2))) mk [] (fun p hp k2 hk2 => ?_) ?_
    · refine ⟨_, rfl, rfl, _, _, rfl, _, _, rfl, rfl, _, rfl, _, rfl, _, rfl, _, rows, p.1, s, m, rfl, .inr rfl, rok, mv.lt p hp, by omega, by omega, _, rfl, _, ⟨rfl, (Sh.bool _).ok, (Sh.bool _).ok⟩, ?_⟩
      rw [eqv_b]
      exact hk2
    refine ⟨_, ⟨mk.map fun p => decide (fitsM rows p.1 s = p.2), by rw [List.nil_append, allB], rfl⟩, _, rfl, ?_⟩
    rw [all_id]
    refine iteB (fun c => ?_) (fun c => ?_)
    · rw [show okM rows mk s = true from c, if_pos rfl] at hk; exact ⟨_, rfl, hk⟩
    · rw [show okM rows mk s = false from c, if_neg Bool.false_ne_true] at hk; exact hk
  exact q
def cntM (m : Nat) (rows : Rows) (mk : Mks) (t : Nat) : Nat := ((fitM m rows mk).filter fun s => fitsM rows t s).length
def eSp (m : Nat) (rows : Rows) (mk : Mks) (t : Nat) : PyData := .tuple [eN t, eN (cntM m rows mk t), .int ((((fitM m rows mk).length : Nat) : Int) - ((cntM m rows mk t : Nat) : Int))]
def opnM (rows : Rows) (mk : Mks) : List Nat := (List.range rows.length).filter fun t => !decide (t ∈ mk.map (·.1))
def Sp_split : VSp := fun r ds Q _ => ∃ m rows mk bs ls, ds = [] ∧ Vw m rows mk bs ls r ∧ Q (.list ((opnM rows mk).map (eSp m rows mk)))
def w_split : DS := (wSq (wSet 1 (wMV 0 Sp_fitting wNil))
  (wSq (wSet 2 (wLc (wSeq (wBin IxD (wFld 0 .now) (wC (.int 1)))) (stAll (gdN 6) (wBin IxD (wVar 6) (wC (.int 0))) [6]) [6]))
  (wSq (wSetO 3 (wLstF wNil))
  (wSq (wFor (wRng Rng1 (wCons (wCall LenC (wCons (wBin IxD (wFld 0 .now) (wC (.int 0))) wNil)) wNil)) (gdN 4) (wIfS (wTst (wBin (InD true) (wVar 4) (wVar 2))) (wSq (wSet 5 (wCall LenC (wCons (wLc (wSeq (wVar 1)) (stIf (gdN 7) (wTru (wFn Sp_fits (wCons (wBin IxD (wFld 0 .now) (wC (.int 0))) (wCons (wVar 4) (wCons (wVar 7) wNil))))) (wVar 7) [7]) [7]) wNil)))
  (wApp 3 (wTup (wCons (wVar 4) (wCons (wVar 5) (wCons (wBin SubD (wCall LenC (wCons (wVar 1) wNil)) (wVar 5)) wNil)))))) wNx))
  (wRel 3 (wRet (wVar 3)))))))
theorem m_split (a : Addr) (r : Rs) (ds : List PyData) (Q : PyData → Prop) (E : Str → Prop) (hb : r.ben = true) (h : Sp_split r ds Q E) : w_split (startB ["self", "some", "marked", "found", "tick", "many", "one", "sign"] (.vw a r) ds) (endO Q E) := by
  obtain ⟨m, rows, mk, bs, ls, rfl, V, q⟩ := h
  obtain ⟨rfl, n2, rok, m5, mv⟩ := id V
  show w_split [.vw a (benS m rows mk bs ls), .no, .no, .no, .no, .no, .no, .no] _
  have sl := srtA_len m5
  have fl : (fitM m rows mk).length ≤ 3125 := Nat.le_trans (List.length_filter_le _ _) sl
  have ml := mk_len mv
  refine ⟨⟨a, _, ⟨_, rfl, rfl⟩, rfl⟩, a, _, ⟨⟨_, rfl, rfl⟩, rfl⟩, m, rows, mk, bs, ls, rfl, V, ?_⟩
  refine ⟨a, _, ⟨⟨_, rfl, rfl⟩, rfl⟩, _, atI_nat (j := 1) rfl, _, rfl, by rw [List.length_map]; exact small_size (by omega), rfl, ?_⟩
  refine lc_all eMk (fun p => eN p.1) mk [] (fun p hp k2 hk2 => ⟨_, rfl, _, atI_zero _ _, hk2⟩) ?_
  rw [List.nil_append, show mk.map (fun p => eN p.1) = (mk.map (·.1)).map eN by rw [List.map_map]; rfl]
  refine ⟨Nat.zero_le _, a, _, ⟨⟨_, rfl, rfl⟩, rfl⟩, _, atI_zero _ _, _, ⟨_, _, rfl, rfl, rfl⟩, _, ⟨_, rfl, by rw [List.length_map]; omega, by rw [List.length_map]; omega, rfl⟩, ?_⟩
  rw [List.length_map, rngL_nat]
  refine for_inv _ (List.range rows.length) (fun pre Γ => ∃ x4 x5, Γ = [.vw a (benS m rows mk bs ls), .dat (.list ((fitM m rows mk).map eSign)), .dat (eTs (mk.map (·.1))), .own ((pre.filter fun t => !decide (t ∈ mk.map (·.1))).map (eSp m rows mk)), x4, x5, .no, .no]) ?_ ?_ ⟨_, _, rfl⟩
  · rintro pre t post Γ e ⟨x4, x5, rfl⟩ next hk
    obtain ⟨ht1, ht2⟩ := prefix_rng e
    refine ⟨_, rfl, _, rfl, _, ⟨rfl, (sh_n _).ok, (sh_ts _).ok⟩, _, rfl, ?_⟩
    rw [show (true ^^ inD (.int (t : Int)) ((mk.map (·.1)).map eN)) = !decide (t ∈ mk.map (·.1)) by rw [Bool.true_xor]; exact congrArg _ (inD_map eqv_n t _)]
    refine iteB (fun c => ?_) (fun c => ?_)
    · refine ⟨_, rfl, _, rfl, by rw [List.length_map]; exact small_size (by omega), rfl, ?_⟩
      refine lc_if eSign (fun s => fitsM rows t s) eSign (fitM m rows mk) [] (fun s hs k hk2 => ?_) ?_
      · have hsl := srtA_sl (List.mem_filter.mp hs).1
        refine ⟨a, _, ⟨⟨_, rfl, rfl⟩, rfl⟩, _, atI_zero _ _, _, rfl, _, rfl, _, rows, t, s, m, rfl, .inr rfl, rok, ht2, by omega, by omega, _, rfl, ?_⟩
        refine iteB (fun c => ?_) (fun c => ?_)
        · rw [if_pos c] at hk2; exact ⟨_, rfl, hk2⟩
        · rw [if_neg (by rw [c]; exact Bool.false_ne_true)] at hk2; exact hk2
      rw [List.nil_append]
      refine ⟨_, ⟨_, _, rfl, rfl, rfl⟩, ?_⟩
      rw [List.length_map]
      refine ⟨⟨_, rfl⟩, _, rfl, _, rfl, _, rfl, _, ⟨_, _, rfl, rfl, rfl⟩, _, rfl, _, rfl, lit_size rfl, _, rfl, ?_, hk _ ⟨.dat (eN t), .dat (eN (cntM m rows mk t)), ?_⟩⟩
      · rw [List.length_map, sizeLine_eq]
        have := List.length_filter_le (fun t => !decide (t ∈ mk.map (·.1))) pre
        have := prefix_lt e
        rw [List.length_range] at this
        omega
      · rw [List.filter_append, List.filter_cons_of_pos (by exact c), List.map_append]
        show _ = [_, _, _, Sl.own (_ ++ [eSp m rows mk t]), _, _, _, _]
        unfold eSp
        rw [List.length_map]
        rfl
    · refine hk _ ⟨.dat (eN t), x5, ?_⟩
      rw [List.filter_append, List.filter_cons_of_neg (by rw [c]; exact Bool.false_ne_true), List.filter_nil, List.append_nil]
      rfl
  · rintro Γ ⟨x4, x5, rfl⟩
    exact ⟨_, rfl, _, rfl, q⟩
end Sg

/-! Sem72: unsure, ask, mark. -/
namespace Sg
open PySem L2 Dt
theorem cnt_le (m : Nat) (rows : Rows) (mk : Mks) (t : Nat) : cntM m rows mk t ≤ (fitM m rows mk).length := List.length_filter_le _ _
/-- some catch it, some don't -/
def unB (m : Nat) (rows : Rows) (mk : Mks) (t : Nat) : Bool := decide (0 < cntM m rows mk t) && decide (cntM m rows mk t < (fitM m rows mk).length)
def unsM (m : Nat) (rows : Rows) (mk : Mks) : List Nat := (opnM rows mk).filter (unB m rows mk)
def Sp_unsure : VSp := fun r ds Q _ => ∃ m rows mk bs ls, ds = [] ∧ Vw m rows mk bs ls r ∧ Q (eTs (unsM m rows mk))
theorem opn_len (rows : Rows) (mk : Mks) : (opnM rows mk).length ≤ rows.length := by
  have := List.length_filter_le (fun t => !decide (t ∈ mk.map (·.1))) (List.range rows.length)
  rw [List.length_range] at this
  exact this
theorem un_yes {m : Nat} {rows : Rows} {mk : Mks} {t : Nat} (h1 : decide ((cntM m rows mk t : Int) > 0) = true) (h2 : decide ((((fitM m rows mk).length : Nat) : Int) - ((cntM m rows mk t : Nat) : Int) > 0) = true) : unB m rows mk t = true := by
  have h1 := of_decide_eq_true h1
  have h2 := of_decide_eq_true h2
  unfold unB
  rw [decide_eq_true (show 0 < cntM m rows mk t by omega), decide_eq_true (show cntM m rows mk t < (fitM m rows mk).length by omega)]
  rfl
theorem un_no1 {m : Nat} {rows : Rows} {mk : Mks} {t : Nat} (h1 : decide ((cntM m rows mk t : Int) > 0) = false) : unB m rows mk t = false := by
  have h1 := of_decide_eq_false h1
  unfold unB
  rw [decide_eq_false (show ¬ 0 < cntM m rows mk t by omega), Bool.false_and]
theorem un_no2 {m : Nat} {rows : Rows} {mk : Mks} {t : Nat} (h2 : decide ((((fitM m rows mk).length : Nat) : Int) - ((cntM m rows mk t : Nat) : Int) > 0) = false) : unB m rows mk t = false := by
  have h2 := of_decide_eq_false h2
  unfold unB
  rw [decide_eq_false (show ¬ cntM m rows mk t < (fitM m rows mk).length by omega), Bool.and_false]
def w_unsure : DS := (wRet (wLc (wSeq (wMV 0 Sp_split wNil)) (stIf (gdT 3 (gdCons (gdN 1) (gdCons (gdN 2) (gdCons (gdN 3) gdNil)))) (wtAnd (wTst (wBin GtD (wVar 2) (wC (.int 0)))) (wTst (wBin GtD (wVar 3) (wC (.int 0))))) (wVar 1) [1, 2, 3]) [1, 2, 3]))
theorem m_unsure (a : Addr) (r : Rs) (ds : List PyData) (Q : PyData → Prop) (E : Str → Prop) (hb : r.ben = true) (h : Sp_unsure r ds Q E) : w_unsure (startB ["self", "tick", "many", "rest"] (.vw a r) ds) (endO Q E) := by
  obtain ⟨m, rows, mk, bs, ls, rfl, V, q⟩ := h
  obtain ⟨rfl, n2, rok, m5, mv⟩ := id V
  show w_unsure [.vw a (benS m rows mk bs ls), .no, .no, .no] _
  have ol := opn_len rows mk
  refine ⟨⟨a, _, ⟨_, rfl, rfl⟩, rfl⟩, a, _, ⟨⟨_, rfl, rfl⟩, rfl⟩, m, rows, mk, bs, ls, rfl, V, ?_⟩
  refine ⟨_, rfl, by rw [List.length_map]; exact small_size (by omega), rfl, ?_⟩
  refine lc_if (eSp m rows mk) (unB m rows mk) eN (opnM rows mk) [] (fun t ht k hk => ?_) ?_
  · refine ⟨_, rfl, rfl, _, _, rfl, _, _, rfl, _, _, rfl, rfl, _, rfl, _, rfl, _, rfl, ?_⟩
    refine iteB (fun c1 => ?_) (fun c1 => ?_)
    · refine ⟨_, rfl, _, rfl, _, rfl, ?_⟩
      refine iteB (fun c2 => ?_) (fun c2 => ?_)
      · rw [if_pos (un_yes c1 c2)] at hk
        exact ⟨_, rfl, hk⟩
      · rw [if_neg (by rw [un_no2 c2]; exact Bool.false_ne_true)] at hk
        exact hk
    · rw [if_neg (by rw [un_no1 c1]; exact Bool.false_ne_true)] at hk
      exact hk
  exact q
/-! ### ask -/
def keyA (m : Nat) (rows : Rows) (mk : Mks) (t : Nat) : Nat × Nat := (max (cntM m rows mk t) ((fitM m rows mk).length - cntM m rows mk t), t)
def pLt (a b : Nat × Nat) : Bool := if a.1 = b.1 then decide (a.2 < b.2) else decide (a.1 < b.1)
def eRk (p : Nat × Nat) : PyData := .tuple [eN p.1, eN p.2]
theorem lt_rk (a b : Nat × Nat) : PySem.W.dataLt (eRk a) (eRk b) = pLt a b := by
  unfold eRk pLt
  rw [PySem.W.dataLt_pair (alike_n _ _) (alike_n _ _), eqv_n, eqv_n, lt_n, lt_n]
  by_cases e : a.1 = b.1
  · rw [if_pos (decide_eq_true e), if_pos e]
    by_cases e2 : a.2 = b.2
    · rw [if_pos (decide_eq_true e2), decide_eq_false (by omega)]
    · rw [if_neg (by rw [decide_eq_false e2]; exact Bool.false_ne_true)]
  · rw [if_neg (by rw [decide_eq_false e]; exact Bool.false_ne_true), if_neg e]
theorem sh_rk (p : Nat × Nat) : Sh 1 (eRk p) := .tup fun x hx => by
  simp only [List.mem_cons, List.not_mem_nil, or_false] at hx
  rcases hx with rfl | rfl <;> exact sh_n _
/-- the first of the least -/
def minR (a : Nat × Nat) (l : List (Nat × Nat)) : Nat × Nat := l.foldl (fun b y => if pLt y b = true then y else b) a
theorem min_eq : ∀ (l : List (Nat × Nat)) (a : Nat × Nat), PySem.W.minD (eRk a) (l.map eRk) = eRk (minR a l)
  | [], a => rfl
  | y :: r, a => by
    show PySem.W.minD (if PySem.W.dataLt (eRk y) (eRk a) = true then eRk y else eRk a) (r.map eRk) = _
    rw [lt_rk]
    have : (if pLt y a = true then eRk y else eRk a) = eRk (if pLt y a = true then y else a) := by cases pLt y a <;> rfl
    rw [this, min_eq r]
    rfl
theorem min_mem : ∀ (l : List (Nat × Nat)) (a : Nat × Nat), minR a l ∈ a :: l
  | [], a => List.mem_cons_self
  | y :: r, a => by
    show minR (if pLt y a = true then y else a) r ∈ _
    have h := min_mem r (if pLt y a = true then y else a)
    rcases List.mem_cons.mp h with z | z
    · rw [z]
      by_cases c : pLt y a = true
      · rw [if_pos c]; exact List.mem_cons_of_mem _ List.mem_cons_self
      · rw [if_neg c]; exact List.mem_cons_self
    · exact List.mem_cons_of_mem _ (List.mem_cons_of_mem _ z)
def askM (m : Nat) (rows : Rows) (mk : Mks) : Option Nat := match (unsM m rows mk).map (keyA m rows mk) with
  | [] => none
  | a :: l => some (minR a l).2
def eON : Option Nat → PyData
  | none => .none
  | some t => eN t
def Sp_ask : VSp := fun r ds Q _ => ∃ m rows mk bs ls, ds = [] ∧ Vw m rows mk bs ls r ∧ Q (eON (askM m rows mk))
theorem ask_none {m : Nat} {rows : Rows} {mk : Mks} (h : askM m rows mk = none) : unsM m rows mk = [] := by
  unfold askM at h
  cases z : (unsM m rows mk).map (keyA m rows mk) with
  | nil => exact List.map_eq_nil_iff.mp z
  | cons a l => rw [z] at h; cases h
theorem ask_some {m : Nat} {rows : Rows} {mk : Mks} {t : Nat} (h : askM m rows mk = some t) : t ∈ unsM m rows mk := by
  unfold askM at h
  cases z : (unsM m rows mk).map (keyA m rows mk) with
  | nil => rw [z] at h; cases h
  | cons a l =>
    rw [z] at h
    have h : some (minR a l).2 = some t := h
    cases h
    have := min_mem l a
    rw [← z] at this
    obtain ⟨u, hu, e⟩ := List.mem_map.mp this
    rw [← e]
    exact hu
def w_ask : DS := (wSq (wSet 1 (wLc (wSeq (wMV 0 Sp_split wNil)) (stIf (gdT 3 (gdCons (gdN 2) (gdCons (gdN 3) (gdCons (gdN 4) gdNil)))) (wtAnd (wTst (wBin GtD (wVar 3) (wC (.int 0)))) (wTst (wBin GtD (wVar 4) (wC (.int 0))))) (wTup (wCons (wCall Max2C (wCons (wVar 3) (wCons (wVar 4) wNil))) (wCons (wVar 2) wNil))) [2, 3, 4]) [2, 3, 4]))
  (wRet (wIf (wTru (wVar 1)) (wBin IxD (wCall (BestC PySem.W.minD) (wCons (wVar 1) wNil)) (wC (.int 1))) (wC .none))))
theorem m_ask (a : Addr) (r : Rs) (ds : List PyData) (Q : PyData → Prop) (E : Str → Prop) (hb : r.ben = true) (h : Sp_ask r ds Q E) : w_ask (startB ["self", "some", "tick", "many", "rest"] (.vw a r) ds) (endO Q E) := by
  obtain ⟨m, rows, mk, bs, ls, rfl, V, q⟩ := h
  obtain ⟨rfl, n2, rok, m5, mv⟩ := id V
  show w_ask [.vw a (benS m rows mk bs ls), .no, .no, .no, .no] _
  have ol := opn_len rows mk
  refine ⟨⟨a, _, ⟨_, rfl, rfl⟩, rfl⟩, a, _, ⟨⟨_, rfl, rfl⟩, rfl⟩, m, rows, mk, bs, ls, rfl, V, ?_⟩
  refine ⟨_, rfl, by rw [List.length_map]; exact small_size (by omega), rfl, ?_⟩
  refine lc_if (eSp m rows mk) (unB m rows mk) (fun t => eRk (keyA m rows mk t)) (opnM rows mk) [] (fun t ht k hk => ?_) ?_
  · refine ⟨_, rfl, rfl, _, _, rfl, _, _, rfl, _, _, rfl, rfl, _, rfl, _, rfl, _, rfl, ?_⟩
    refine iteB (fun c1 => ?_) (fun c1 => ?_)
    · refine ⟨_, rfl, _, rfl, _, rfl, ?_⟩
      refine iteB (fun c2 => ?_) (fun c2 => ?_)
      · rw [if_pos (un_yes c1 c2)] at hk
        have hc := cnt_le m rows mk t
        refine ⟨_, rfl, _, rfl, eN (max (cntM m rows mk t) ((fitM m rows mk).length - cntM m rows mk t)), ⟨_, _, rfl, ?_⟩, _, rfl, lit_size rfl, hk⟩
        show PyData.int _ = PyData.int _
        congr 1
        by_cases c : (((fitM m rows mk).length : Nat) : Int) - ((cntM m rows mk t : Nat) : Int) > ((cntM m rows mk t : Nat) : Int)
        · rw [if_pos c]; omega
        · rw [if_neg c]; omega
      · rw [if_neg (by rw [un_no2 c2]; exact Bool.false_ne_true)] at hk
        exact hk
    · rw [if_neg (by rw [un_no1 c1]; exact Bool.false_ne_true)] at hk
      exact hk
  rw [List.nil_append]
  unfold askM at q
  have e : ((opnM rows mk).filter (unB m rows mk)).map (fun t => eRk (keyA m rows mk t)) = ((unsM m rows mk).map (keyA m rows mk)).map eRk := by rw [List.map_map]; rfl
  rw [e]
  cases z : (unsM m rows mk).map (keyA m rows mk) with
  | nil =>
    rw [z] at q
    exact ⟨_, rfl, _, rfl, q⟩
  | cons x l =>
    rw [z] at q
    refine ⟨_, rfl, _, rfl, _, rfl, _, ⟨eRk x, l.map eRk, rfl, ⟨fun y hy u hu => ?_, fun y hy => ?_⟩, ?_, ?_, (min_eq l x).symm⟩, _, atI_nat (j := 1) rfl, q⟩
    · obtain ⟨y, _, rfl⟩ := List.mem_map.mp (show y ∈ (x :: l).map eRk from hy)
      obtain ⟨u, _, rfl⟩ := List.mem_map.mp (show u ∈ (x :: l).map eRk from hu)
      show PySem.W.alikeAll [eN y.1, eN y.2] [eN u.1, eN u.2] = true
      simp only [PySem.W.alikeAll, alike_n, Bool.true_and]
    · obtain ⟨y, _, rfl⟩ := List.mem_map.mp (show y ∈ (x :: l).map eRk from hy)
      intro z; cases z
    · exact Nat.le_trans (sh_all (k := 1) ((x :: l).map eRk) (sh_map sh_rk _)).2 (by decide)
    · exact (sh_all (k := 1) ((x :: l).map eRk) (sh_map sh_rk _)).1
end Sg

/-! Sem73: mark. -/
namespace Sg
open PySem L2 Dt
def qLt (a b : Nat × Bool) : Bool := if a.1 = b.1 then (!a.2 && b.2) else decide (a.1 < b.1)
theorem lt_b (a b : Bool) : PySem.W.dataLt (.bool a) (.bool b) = (!a && b) := by cases a <;> cases b <;> decide +kernel
theorem lt_mk (a b : Nat × Bool) : PySem.W.dataLt (eMk a) (eMk b) = qLt a b := by
  unfold eMk qLt
  rw [PySem.W.dataLt_pair (alike_n _ _) (by rfl), eqv_n, eqv_b, lt_n, lt_b]
  by_cases e : a.1 = b.1
  · rw [if_pos (decide_eq_true e), if_pos e]
    by_cases e2 : a.2 = b.2
    · rw [if_pos (decide_eq_true e2), e2]
      cases b.2 <;> rfl
    · rw [if_neg (by rw [decide_eq_false e2]; exact Bool.false_ne_true)]
  · rw [if_neg (by rw [decide_eq_false e]; exact Bool.false_ne_true), if_neg e]
theorem qLe_trans {a b c : Nat × Bool} (h1 : qLt b a = false) (h2 : qLt c b = false) : qLt c a = false := by
  obtain ⟨a1, a2⟩ := a
  obtain ⟨b1, b2⟩ := b
  obtain ⟨c1, c2⟩ := c
  unfold qLt at *
  simp only at *
  by_cases e1 : b1 = a1
  · rw [if_pos e1] at h1
    by_cases e2 : c1 = b1
    · rw [if_pos e2] at h2
      rw [if_pos (e2.trans e1)]
      cases a2 <;> cases b2 <;> cases c2 <;> first | rfl | exact absurd h1 (by decide) | exact absurd h2 (by decide)
    · rw [if_neg e2] at h2
      rw [if_neg (fun z => e2 (z.trans e1.symm)), ← e1]
      exact h2
  · rw [if_neg e1] at h1
    have h1 := of_decide_eq_false h1
    by_cases e2 : c1 = b1
    · rw [if_neg (fun z => e1 (e2.symm.trans z))]
      exact decide_eq_false (by omega)
    · rw [if_neg e2] at h2
      have h2 := of_decide_eq_false h2
      rw [if_neg (by omega)]
      exact decide_eq_false (by omega)
theorem qLe_total (a b : Nat × Bool) : qLt b a = false ∨ qLt a b = false := by
  obtain ⟨a1, a2⟩ := a
  obtain ⟨b1, b2⟩ := b
  unfold qLt
  simp only
  by_cases e : b1 = a1
  · rw [if_pos e, if_pos e.symm]
    cases a2 <;> cases b2 <;> simp
  · rw [if_neg e, if_neg (fun z => e z.symm)]
    by_cases c : b1 < a1
    · exact .inr (decide_eq_false (by omega))
    · exact .inl (decide_eq_false c)
theorem sh_mk (p : Nat × Bool) : Sh 1 (eMk p) := .tup fun x hx => by
  simp only [List.mem_cons, List.not_mem_nil, or_false] at hx
  rcases hx with rfl | rfl
  · exact sh_n _
  · exact .bool _
theorem alike_mk (p q : Nat × Bool) : PySem.W.alike (eMk p) (eMk q) = true := by
  show PySem.W.alikeAll [eN p.1, .bool p.2] [eN q.1, .bool q.2] = true
  simp only [PySem.W.alikeAll, alike_n, Bool.true_and]
  rfl
def Sp_mark : GSp := fun r ds Q _ => ∃ t b m rows mk bs ls, ds = [eN t, .bool b] ∧ Vw m rows mk bs ls r ∧ t < rows.length ∧ bs.length < 10000 ∧ ∀ out : Mks, out.Perm ((mk.filter fun p => !decide (p.1 = t)) ++ [(t, b)]) → MkV out rows.length → Q .none (benS m rows out (bs ++ [eNow rows mk]) [])
def w_mark : DS := (wSq (wEx (wFn Sp_look_tick (wCons (wBin IxD (wFld 0 .now) (wC (.int 0))) (wCons (wVar 1) wNil))))
  (wSq (wIfS (wtNot (wTru (wIsi isBool (wVar 2)))) (wRaise "BadNumber") wNx)
  (wSq (wSet 3 (wLc (wSeq (wBin IxD (wFld 0 .now) (wC (.int 1)))) (stIf (gdN 4) (wTst (wBin NeD (wBin IxD (wVar 4) (wC (.int 0))) (wVar 1))) (wVar 4) [4]) [4]))
  (wMG 0 Sp_go (wCons (wBin IxD (wFld 0 .now) (wC (.int 0))) (wCons (wCall TupL (wCons (wCall SrtC (wCons (wBin AddD (wVar 3) (wLst (wCons (wTup (wCons (wVar 1) (wCons (wVar 2) wNil))) wNil))) wNil)) wNil)) wNil))))))
theorem m_mark (a : Addr) (r : Rs) (ds : List PyData) (Q : PyData → Rs → Prop) (E : Str → Rs → Prop) (hb : r.ben = true) (h : Sp_mark r ds Q E) : w_mark (startB ["self", "tick", "is_wanted", "rest", "one"] (.rs a r) ds) (endB a Q E) := by
  obtain ⟨t, b, m, rows, mk, bs, ls, rfl, ⟨rfl, n2, rok, m5, mv⟩, ht, h4, q⟩ := h
  show w_mark [.rs a (benS m rows mk bs ls), .dat (eN t), .dat (.bool b), .no, .no] _
  have ml := mk_len mv
  refine ⟨a, _, ⟨⟨_, rfl, rfl⟩, rfl⟩, _, atI_zero _ _, _, rfl, _, _, _, rfl, rfl, ?_⟩
  rw [if_pos (by rw [List.length_map]; exact e_whole (by omega) (by omega))]
  refine ⟨_, rfl, _, rfl, ?_⟩
  refine ⟨a, _, ⟨⟨_, rfl, rfl⟩, rfl⟩, _, atI_nat (j := 1) rfl, _, rfl, by rw [List.length_map]; exact small_size (by omega), rfl, ?_⟩
  refine lc_if eMk (fun p => !decide (p.1 = t)) eMk mk [] (fun p hp k hk => ?_) ?_
  · refine ⟨_, rfl, _, atI_zero _ _, _, rfl, _, ⟨rfl, (sh_n _).ok, (sh_n _).ok⟩, _, rfl, ?_⟩
    rw [eqv_n]
    refine iteB (fun c => ?_) (fun c => ?_)
    · rw [if_pos c] at hk; exact ⟨_, rfl, hk⟩
    · rw [if_neg (by rw [c]; exact Bool.false_ne_true)] at hk; exact hk
  rw [List.nil_append]
  have fl := List.length_filter_le (fun p : Nat × Bool => !decide (p.1 = t)) mk
  refine ⟨⟨a, _, rfl, rfl⟩, a, _, ⟨⟨_, rfl, rfl⟩, rfl⟩, _, atI_zero _ _, _, rfl, _, rfl, _, rfl, lit_size rfl, lit_size rfl, .list (((mk.filter fun p => !decide (p.1 = t)) ++ [(t, b)]).map eMk), ⟨?_, ?_⟩, ?_⟩
  · rw [List.map_append]; rfl
  · rw [List.length_map]; exact small_size (by show _ + 1 ≤ _; omega)
  obtain ⟨L, hL⟩ : ∃ L, (mk.filter fun p => !decide (p.1 = t)) ++ [(t, b)] = L := ⟨_, rfl⟩
  have Ll : L.length ≤ 201 := by rw [← hL, List.length_append]; show _ + 1 ≤ _; omega
  rw [hL] at q ⊢
  have ok : SrtOk (L.map eMk) := by
    refine ⟨PySem.W.AllAlike.of fun _ _ => alike_mk _ _, PySem.W.Sortable.tuples fun _ => ⟨_, _, rfl⟩, by rw [List.length_map]; exact small_size (by omega), fun d hd => ?_, (sh_all _ (sh_map sh_mk _)).1⟩
    obtain ⟨k, _, rfl⟩ := List.mem_map.mp hd
    exact Nat.le_trans (sh_mk _).2 (by decide)
  have es : (L.map eMk).mergeSort (PySem.W.dataLe false id) = (L.mergeSort fun a b => !qLt b a).map eMk :=
    (List.map_mergeSort (f := eMk) (r := fun a b => !qLt b a) (s := PySem.W.dataLe false id) fun a _ b _ => by
      rw [PySem.W.dataLe_eq]
      show (!qLt _ _) = !PySem.W.dataLt _ _
      rw [id, id, lt_mk]).symm
  refine ⟨_, ⟨_, rfl, ok, rfl⟩, ?_⟩
  rw [es]
  have hp := List.mergeSort_perm L (fun a b => !qLt b a)
  have hs := List.pairwise_mergeSort (le := fun a b => !qLt b a) (fun a b c h1 h2 => by
      rw [Bool.not_eq_true'] at h1 h2 ⊢
      exact qLe_trans h1 h2) (fun a b => by
      rcases qLe_total a b with z | z
      · rw [z]; rfl
      · rw [z, Bool.or_comm]; rfl) L
  revert hp hs
  generalize L.mergeSort (fun a b => !qLt b a) = out
  intro hp hs
  have nd : (L.map (·.1)).Nodup := by
    rw [← hL, List.map_append]
    have u1 : ((mk.filter fun p => !decide (p.1 = t)).map (·.1)).Nodup := by
      rw [List.Nodup, List.pairwise_map]
      exact (List.Pairwise.sublist List.filter_sublist mv.up).imp fun h => Nat.ne_of_lt h
    refine List.nodup_append.mpr ⟨u1, by simp, fun x hx y hy => ?_⟩
    obtain ⟨p, hp, rfl⟩ := List.mem_map.mp hx
    rw [List.mem_singleton.mp hy]
    have := (List.mem_filter.mp hp).2
    rw [Bool.not_eq_true'] at this
    exact of_decide_eq_false this
  have ndo : (out.map (·.1)).Nodup := (hp.map _).nodup_iff.mpr nd
  have mo : MkV out rows.length := by
    refine ⟨?_, fun p hpo => ?_⟩
    · have n2 : out.Pairwise fun a b => a.1 ≠ b.1 := by rw [List.Nodup, List.pairwise_map] at ndo; exact ndo
      refine (hs.and n2).imp fun {x y} ⟨h1, h2⟩ => ?_
      rw [Bool.not_eq_true'] at h1
      unfold qLt at h1
      rw [if_neg (Ne.symm h2)] at h1
      have := of_decide_eq_false h1
      omega
    · have := hp.mem_iff.mp hpo
      rw [← hL] at this
      rcases List.mem_append.mp this with z | z
      · exact mv.lt p (List.mem_filter.mp z).1
      · rw [List.mem_singleton.mp z]; exact ht
  refine ⟨_, ⟨_, rfl, rfl⟩, a, _, ⟨rfl, rfl⟩, _, _, rfl, by show bs.length < _; omega, _, rfl, q out hp mo⟩
end Sg

/-! Sem74: unmark. -/
namespace Sg
open PySem L2 Dt
def Sp_unmark : GSp := fun r ds Q _ => ∃ t m rows mk bs ls, ds = [eN t] ∧ Vw m rows mk bs ls r ∧ t < rows.length ∧ t ∈ mk.map (·.1) ∧ bs.length < 10000 ∧ Q .none (benS m rows (mk.filter fun p => !decide (p.1 = t)) (bs ++ [eNow rows mk]) [])
def w_unmark : DS := (wSq (wEx (wFn Sp_look_tick (wCons (wBin IxD (wFld 0 .now) (wC (.int 0))) (wCons (wVar 1) wNil))))
  (wSq (wIfS (wTst (wBin (InD true) (wVar 1) (wLc (wSeq (wBin IxD (wFld 0 .now) (wC (.int 1)))) (stAll (gdN 2) (wBin IxD (wVar 2) (wC (.int 0))) [2]) [2]))) (wRaise "Nothing") wNx)
  (wMG 0 Sp_go (wCons (wBin IxD (wFld 0 .now) (wC (.int 0))) (wCons (wCall TupL (wCons (wLc (wSeq (wBin IxD (wFld 0 .now) (wC (.int 1)))) (stIf (gdN 2) (wTst (wBin NeD (wBin IxD (wVar 2) (wC (.int 0))) (wVar 1))) (wVar 2) [2]) [2]) wNil)) wNil)))))
theorem m_unmark (a : Addr) (r : Rs) (ds : List PyData) (Q : PyData → Rs → Prop) (E : Str → Rs → Prop) (hb : r.ben = true) (h : Sp_unmark r ds Q E) : w_unmark (startB ["self", "tick", "one"] (.rs a r) ds) (endB a Q E) := by
  obtain ⟨t, m, rows, mk, bs, ls, rfl, ⟨rfl, n2, rok, m5, mv⟩, ht, hm, h4, q⟩ := h
  show w_unmark [.rs a (benS m rows mk bs ls), .dat (eN t), .no] _
  have ml := mk_len mv
  refine ⟨a, _, ⟨⟨_, rfl, rfl⟩, rfl⟩, _, atI_zero _ _, _, rfl, _, _, _, rfl, rfl, ?_⟩
  rw [if_pos (by rw [List.length_map]; exact e_whole (by omega) (by omega))]
  refine ⟨_, rfl, a, _, ⟨⟨_, rfl, rfl⟩, rfl⟩, _, atI_nat (j := 1) rfl, _, rfl, by rw [List.length_map]; exact small_size (by omega), rfl, ?_⟩
  refine lc_all eMk (fun p => eN p.1) mk [] (fun p hp k2 hk2 => ⟨_, rfl, _, atI_zero _ _, hk2⟩) ?_
  rw [List.nil_append, show mk.map (fun p => eN p.1) = (mk.map (·.1)).map eN by rw [List.map_map]; rfl]
  refine ⟨_, ⟨rfl, (sh_n _).ok, (sh_ts _).ok⟩, _, rfl, ?_⟩
  rw [show (true ^^ inD (eN t) ((mk.map (·.1)).map eN)) = false by rw [inD_map eqv_n, decide_eq_true hm]; rfl]
  refine ⟨⟨a, _, rfl, rfl⟩, a, _, ⟨⟨_, rfl, rfl⟩, rfl⟩, _, atI_zero _ _, a, _, ⟨⟨_, rfl, rfl⟩, rfl⟩, _, atI_nat (j := 1) rfl, _, rfl, by rw [List.length_map]; exact small_size (by omega), rfl, ?_⟩
  refine lc_if eMk (fun p => !decide (p.1 = t)) eMk mk [] (fun p hp k hk => ?_) ?_
  · refine ⟨_, rfl, _, atI_zero _ _, _, rfl, _, ⟨rfl, (sh_n _).ok, (sh_n _).ok⟩, _, rfl, ?_⟩
    rw [eqv_n]
    refine iteB (fun c => ?_) (fun c => ?_)
    · rw [if_pos c] at hk; exact ⟨_, rfl, hk⟩
    · rw [if_neg (by rw [c]; exact Bool.false_ne_true)] at hk; exact hk
  rw [List.nil_append]
  exact ⟨_, ⟨_, rfl, rfl⟩, a, _, ⟨rfl, rfl⟩, _, _, rfl, by show bs.length < _; omega, _, rfl, q⟩
end Sg

/-! SemY7: what was caught, told by its kind. -/
namespace S7
open PySem L2 Dt Sg
def xcl : List Str := ["BadRows", "BadSign", "BadTold", "BadNumber", "NoSign", "BadText", "Nothing"]
def kindOf (c : Str) : Str := if c = "BadRows" then "rows" else if c = "BadSign" then "sign" else if c = "BadTold" then "told" else if c = "BadNumber" then "number" else if c = "NoSign" then "none" else if c = "BadText" then "text" else "nothing"
def refD (c : Str) : PyData := .tuple [.str "refused", .str (kindOf c)]
def Sp__law_refusal : DSp := fun ds Q _ => (∃ c, ds = [excD c] ∧ c ∈ xcl ∧ Q (refD c)) ∨ (ds = [.none] ∧ Q (.tuple [.str "ok"]))
def w__law_refusal : DS := (wSq (wIfS (wTst (wBin IsND (wVar 0) (wC .none))) (wRet (wTup (wCons (wC (.str "ok")) wNil))) wNx)
  (wSq (wSetO 1 (wLstF (wCons (wIsx ["BadRows", "BadSign", "BadTold", "BadNumber", "NoSign", "BadText", "Nothing"] (fun c => decide (c = "BadRows")) (wVar 0)) (wCons (wIsx ["BadRows", "BadSign", "BadTold", "BadNumber", "NoSign", "BadText", "Nothing"] (fun c => decide (c = "BadSign")) (wVar 0)) (wCons (wIsx ["BadRows", "BadSign", "BadTold", "BadNumber", "NoSign", "BadText", "Nothing"] (fun c => decide (c = "BadTold")) (wVar 0)) wNil)))))
  (wSq (wSetO 1 (wCatF (wPk 1) (wLst (wCons (wIsx ["BadRows", "BadSign", "BadTold", "BadNumber", "NoSign", "BadText", "Nothing"] (fun c => decide (c = "BadNumber")) (wVar 0)) (wCons (wIsx ["BadRows", "BadSign", "BadTold", "BadNumber", "NoSign", "BadText", "Nothing"] (fun c => decide (c = "NoSign")) (wVar 0)) (wCons (wIsx ["BadRows", "BadSign", "BadTold", "BadNumber", "NoSign", "BadText", "Nothing"] (fun c => decide (c = "BadText")) (wVar 0)) wNil))))))
  (wSq (wApp 1 (wIsx ["BadRows", "BadSign", "BadTold", "BadNumber", "NoSign", "BadText", "Nothing"] (fun c => decide (c = "Nothing")) (wVar 0)))
  (wSq (wIfS (wtOr (wTst (wBin NeD (wLm CntL (wPk 1) (wC (.bool true))) (wC (.int 1)))) (wtNot (wTru (wIsx ["BadRows", "BadSign", "BadTold", "BadNumber", "NoSign", "BadText", "Nothing"] (fun _ => true) (wVar 0))))) (wRet (wTup (wCons (wC (.str "wrong")) wNil))) wNx)
  (wRet (wTup (wCons (wC (.str "refused")) (wCons (wBin IxD (wLst (wCons (wC (.str "rows")) (wCons (wC (.str "sign")) (wCons (wC (.str "told")) (wCons (wC (.str "number")) (wCons (wC (.str "none")) (wCons (wC (.str "text")) (wCons (wC (.str "nothing")) wNil)))))))) (wLm IdxL (wPk 1) (wC (.bool true)))) wNil)))))))))

theorem xd_BadRows_BadRows : decide (("BadRows" : Str) = "BadRows") = true := by decide +kernel
theorem xd_BadRows_BadSign : decide (("BadRows" : Str) = "BadSign") = false := by decide +kernel
theorem xd_BadRows_BadTold : decide (("BadRows" : Str) = "BadTold") = false := by decide +kernel
theorem xd_BadRows_BadNumber : decide (("BadRows" : Str) = "BadNumber") = false := by decide +kernel
theorem xd_BadRows_NoSign : decide (("BadRows" : Str) = "NoSign") = false := by decide +kernel
theorem xd_BadRows_BadText : decide (("BadRows" : Str) = "BadText") = false := by decide +kernel
theorem xd_BadRows_Nothing : decide (("BadRows" : Str) = "Nothing") = false := by decide +kernel
theorem xd_BadSign_BadRows : decide (("BadSign" : Str) = "BadRows") = false := by decide +kernel
theorem xd_BadSign_BadSign : decide (("BadSign" : Str) = "BadSign") = true := by decide +kernel
theorem xd_BadSign_BadTold : decide (("BadSign" : Str) = "BadTold") = false := by decide +kernel
theorem xd_BadSign_BadNumber : decide (("BadSign" : Str) = "BadNumber") = false := by decide +kernel
theorem xd_BadSign_NoSign : decide (("BadSign" : Str) = "NoSign") = false := by decide +kernel
theorem xd_BadSign_BadText : decide (("BadSign" : Str) = "BadText") = false := by decide +kernel
theorem xd_BadSign_Nothing : decide (("BadSign" : Str) = "Nothing") = false := by decide +kernel
theorem xd_BadTold_BadRows : decide (("BadTold" : Str) = "BadRows") = false := by decide +kernel
theorem xd_BadTold_BadSign : decide (("BadTold" : Str) = "BadSign") = false := by decide +kernel
theorem xd_BadTold_BadTold : decide (("BadTold" : Str) = "BadTold") = true := by decide +kernel
theorem xd_BadTold_BadNumber : decide (("BadTold" : Str) = "BadNumber") = false := by decide +kernel
theorem xd_BadTold_NoSign : decide (("BadTold" : Str) = "NoSign") = false := by decide +kernel
theorem xd_BadTold_BadText : decide (("BadTold" : Str) = "BadText") = false := by decide +kernel
theorem xd_BadTold_Nothing : decide (("BadTold" : Str) = "Nothing") = false := by decide +kernel
theorem xd_BadNumber_BadRows : decide (("BadNumber" : Str) = "BadRows") = false := by decide +kernel
theorem xd_BadNumber_BadSign : decide (("BadNumber" : Str) = "BadSign") = false := by decide +kernel
theorem xd_BadNumber_BadTold : decide (("BadNumber" : Str) = "BadTold") = false := by decide +kernel
theorem xd_BadNumber_BadNumber : decide (("BadNumber" : Str) = "BadNumber") = true := by decide +kernel
theorem xd_BadNumber_NoSign : decide (("BadNumber" : Str) = "NoSign") = false := by decide +kernel
theorem xd_BadNumber_BadText : decide (("BadNumber" : Str) = "BadText") = false := by decide +kernel
theorem xd_BadNumber_Nothing : decide (("BadNumber" : Str) = "Nothing") = false := by decide +kernel
theorem xd_NoSign_BadRows : decide (("NoSign" : Str) = "BadRows") = false := by decide +kernel
theorem xd_NoSign_BadSign : decide (("NoSign" : Str) = "BadSign") = false := by decide +kernel
theorem xd_NoSign_BadTold : decide (("NoSign" : Str) = "BadTold") = false := by decide +kernel
theorem xd_NoSign_BadNumber : decide (("NoSign" : Str) = "BadNumber") = false := by decide +kernel
theorem xd_NoSign_NoSign : decide (("NoSign" : Str) = "NoSign") = true := by decide +kernel
theorem xd_NoSign_BadText : decide (("NoSign" : Str) = "BadText") = false := by decide +kernel
theorem xd_NoSign_Nothing : decide (("NoSign" : Str) = "Nothing") = false := by decide +kernel
theorem xd_BadText_BadRows : decide (("BadText" : Str) = "BadRows") = false := by decide +kernel
theorem xd_BadText_BadSign : decide (("BadText" : Str) = "BadSign") = false := by decide +kernel
theorem xd_BadText_BadTold : decide (("BadText" : Str) = "BadTold") = false := by decide +kernel
theorem xd_BadText_BadNumber : decide (("BadText" : Str) = "BadNumber") = false := by decide +kernel
theorem xd_BadText_NoSign : decide (("BadText" : Str) = "NoSign") = false := by decide +kernel
theorem xd_BadText_BadText : decide (("BadText" : Str) = "BadText") = true := by decide +kernel
theorem xd_BadText_Nothing : decide (("BadText" : Str) = "Nothing") = false := by decide +kernel
theorem xd_Nothing_BadRows : decide (("Nothing" : Str) = "BadRows") = false := by decide +kernel
theorem xd_Nothing_BadSign : decide (("Nothing" : Str) = "BadSign") = false := by decide +kernel
theorem xd_Nothing_BadTold : decide (("Nothing" : Str) = "BadTold") = false := by decide +kernel
theorem xd_Nothing_BadNumber : decide (("Nothing" : Str) = "BadNumber") = false := by decide +kernel
theorem xd_Nothing_NoSign : decide (("Nothing" : Str) = "NoSign") = false := by decide +kernel
theorem xd_Nothing_BadText : decide (("Nothing" : Str) = "BadText") = false := by decide +kernel
theorem xd_Nothing_Nothing : decide (("Nothing" : Str) = "Nothing") = true := by decide +kernel
theorem kd_BadRows : kindOf "BadRows" = "rows" := by decide +kernel
theorem kd_BadSign : kindOf "BadSign" = "sign" := by decide +kernel
theorem kd_BadTold : kindOf "BadTold" = "told" := by decide +kernel
theorem kd_BadNumber : kindOf "BadNumber" = "number" := by decide +kernel
theorem kd_NoSign : kindOf "NoSign" = "none" := by decide +kernel
theorem kd_BadText : kindOf "BadText" = "text" := by decide +kernel
theorem kd_Nothing : kindOf "Nothing" = "nothing" := by decide +kernel
theorem sh_bools (l : List Bool) : Sh 1 (.list (l.map .bool)) := .list (sh_map .bool l)
theorem m__law_refusal (ds : List PyData) (Q : PyData → Prop) (E : Str → Prop) (h : Sp__law_refusal ds Q E) : w__law_refusal (startG ["caught", "kinds"] ds) (endO Q E) := by
  rcases h with ⟨c, rfl, hc, q⟩ | ⟨rfl, q⟩
  · show w__law_refusal [.dat (excD c), .no] _
    refine ⟨_, rfl, _, ⟨rfl, rfl⟩, _, rfl, ?_⟩
    refine Eq.mpr (if_neg Bool.false_ne_true) ?_
    refine ⟨_, rfl, c, rfl, hc, _, rfl, c, rfl, hc, _, rfl, c, rfl, hc, lit_size rfl, ?_⟩
    refine ⟨_, rfl, _, rfl, c, rfl, hc, _, rfl, c, rfl, hc, _, rfl, c, rfl, hc, lit_size rfl, _, _, rfl, rfl, lit_size rfl, ?_⟩
    refine ⟨⟨_, rfl⟩, _, rfl, c, rfl, hc, _, rfl, by show 6 < sizeLine; rw [sizeLine_eq]; decide, ?_⟩
    refine ⟨_, rfl, _, rfl, _, ⟨rfl, (sh_bools [decide (c = "BadRows"), decide (c = "BadSign"), decide (c = "BadTold"), decide (c = "BadNumber"), decide (c = "NoSign"), decide (c = "BadText"), decide (c = "Nothing")]).ok, (Sh.bool _).ok⟩, _, ⟨rfl, (Sh.int _).ok, (Sh.int _).ok⟩, _, rfl, ?_⟩
    have hs := (sh_bools [decide (c = "BadRows"), decide (c = "BadSign"), decide (c = "BadTold"), decide (c = "BadNumber"), decide (c = "NoSign"), decide (c = "BadText"), decide (c = "Nothing")]).ok
    simp only [xcl, List.mem_cons, List.not_mem_nil, or_false] at hc
    rcases hc with rfl | rfl | rfl | rfl | rfl | rfl | rfl
    · simp only [xd_BadRows_BadRows, xd_BadRows_BadSign, xd_BadRows_BadTold, xd_BadRows_BadNumber, xd_BadRows_NoSign, xd_BadRows_BadText, xd_BadRows_Nothing] at hs ⊢
      refine Eq.mpr (if_neg Bool.false_ne_true) ⟨_, rfl, "BadRows", rfl, by decide +kernel, _, rfl, ?_⟩
      refine Eq.mpr (if_neg Bool.false_ne_true) ⟨lit_size rfl, _, rfl, _, rfl, _, ⟨0, .bool true, rfl, hs, (Sh.bool _).ok, rfl, rfl, fun m z hm hz => ?_⟩, _, atI_nat (j := 0) rfl, lit_size rfl, ?_⟩
      · exact absurd hm (Nat.not_lt_zero _)
      · unfold refD at q
        rw [kd_BadRows] at q
        exact q
    · simp only [xd_BadSign_BadRows, xd_BadSign_BadSign, xd_BadSign_BadTold, xd_BadSign_BadNumber, xd_BadSign_NoSign, xd_BadSign_BadText, xd_BadSign_Nothing] at hs ⊢
      refine Eq.mpr (if_neg Bool.false_ne_true) ⟨_, rfl, "BadSign", rfl, by decide +kernel, _, rfl, ?_⟩
      refine Eq.mpr (if_neg Bool.false_ne_true) ⟨lit_size rfl, _, rfl, _, rfl, _, ⟨1, .bool true, rfl, hs, (Sh.bool _).ok, rfl, rfl, fun m z hm hz => ?_⟩, _, atI_nat (j := 1) rfl, lit_size rfl, ?_⟩
      · match m, hm with
        | 0, _ => cases hz; rfl
      · unfold refD at q
        rw [kd_BadSign] at q
        exact q
    · simp only [xd_BadTold_BadRows, xd_BadTold_BadSign, xd_BadTold_BadTold, xd_BadTold_BadNumber, xd_BadTold_NoSign, xd_BadTold_BadText, xd_BadTold_Nothing] at hs ⊢
      refine Eq.mpr (if_neg Bool.false_ne_true) ⟨_, rfl, "BadTold", rfl, by decide +kernel, _, rfl, ?_⟩
      refine Eq.mpr (if_neg Bool.false_ne_true) ⟨lit_size rfl, _, rfl, _, rfl, _, ⟨2, .bool true, rfl, hs, (Sh.bool _).ok, rfl, rfl, fun m z hm hz => ?_⟩, _, atI_nat (j := 2) rfl, lit_size rfl, ?_⟩
      · match m, hm with
        | 0, _ => cases hz; rfl
        | 1, _ => cases hz; rfl
      · unfold refD at q
        rw [kd_BadTold] at q
        exact q
    · simp only [xd_BadNumber_BadRows, xd_BadNumber_BadSign, xd_BadNumber_BadTold, xd_BadNumber_BadNumber, xd_BadNumber_NoSign, xd_BadNumber_BadText, xd_BadNumber_Nothing] at hs ⊢
      refine Eq.mpr (if_neg Bool.false_ne_true) ⟨_, rfl, "BadNumber", rfl, by decide +kernel, _, rfl, ?_⟩
      refine Eq.mpr (if_neg Bool.false_ne_true) ⟨lit_size rfl, _, rfl, _, rfl, _, ⟨3, .bool true, rfl, hs, (Sh.bool _).ok, rfl, rfl, fun m z hm hz => ?_⟩, _, atI_nat (j := 3) rfl, lit_size rfl, ?_⟩
      · match m, hm with
        | 0, _ => cases hz; rfl
        | 1, _ => cases hz; rfl
        | 2, _ => cases hz; rfl
      · unfold refD at q
        rw [kd_BadNumber] at q
        exact q
    · simp only [xd_NoSign_BadRows, xd_NoSign_BadSign, xd_NoSign_BadTold, xd_NoSign_BadNumber, xd_NoSign_NoSign, xd_NoSign_BadText, xd_NoSign_Nothing] at hs ⊢
      refine Eq.mpr (if_neg Bool.false_ne_true) ⟨_, rfl, "NoSign", rfl, by decide +kernel, _, rfl, ?_⟩
      refine Eq.mpr (if_neg Bool.false_ne_true) ⟨lit_size rfl, _, rfl, _, rfl, _, ⟨4, .bool true, rfl, hs, (Sh.bool _).ok, rfl, rfl, fun m z hm hz => ?_⟩, _, atI_nat (j := 4) rfl, lit_size rfl, ?_⟩
      · match m, hm with
        | 0, _ => cases hz; rfl
        | 1, _ => cases hz; rfl
        | 2, _ => cases hz; rfl
        | 3, _ => cases hz; rfl
      · unfold refD at q
        rw [kd_NoSign] at q
        exact q
    · simp only [xd_BadText_BadRows, xd_BadText_BadSign, xd_BadText_BadTold, xd_BadText_BadNumber, xd_BadText_NoSign, xd_BadText_BadText, xd_BadText_Nothing] at hs ⊢
      refine Eq.mpr (if_neg Bool.false_ne_true) ⟨_, rfl, "BadText", rfl, by decide +kernel, _, rfl, ?_⟩
      refine Eq.mpr (if_neg Bool.false_ne_true) ⟨lit_size rfl, _, rfl, _, rfl, _, ⟨5, .bool true, rfl, hs, (Sh.bool _).ok, rfl, rfl, fun m z hm hz => ?_⟩, _, atI_nat (j := 5) rfl, lit_size rfl, ?_⟩
      · match m, hm with
        | 0, _ => cases hz; rfl
        | 1, _ => cases hz; rfl
        | 2, _ => cases hz; rfl
        | 3, _ => cases hz; rfl
        | 4, _ => cases hz; rfl
      · unfold refD at q
        rw [kd_BadText] at q
        exact q
    · simp only [xd_Nothing_BadRows, xd_Nothing_BadSign, xd_Nothing_BadTold, xd_Nothing_BadNumber, xd_Nothing_NoSign, xd_Nothing_BadText, xd_Nothing_Nothing] at hs ⊢
      refine Eq.mpr (if_neg Bool.false_ne_true) ⟨_, rfl, "Nothing", rfl, by decide +kernel, _, rfl, ?_⟩
      refine Eq.mpr (if_neg Bool.false_ne_true) ⟨lit_size rfl, _, rfl, _, rfl, _, ⟨6, .bool true, rfl, hs, (Sh.bool _).ok, rfl, rfl, fun m z hm hz => ?_⟩, _, atI_nat (j := 6) rfl, lit_size rfl, ?_⟩
      · match m, hm with
        | 0, _ => cases hz; rfl
        | 1, _ => cases hz; rfl
        | 2, _ => cases hz; rfl
        | 3, _ => cases hz; rfl
        | 4, _ => cases hz; rfl
        | 5, _ => cases hz; rfl
      · unfold refD at q
        rw [kd_Nothing] at q
        exact q
  · show w__law_refusal [.dat .none, .no] _
    exact ⟨_, rfl, _, ⟨rfl, rfl⟩, _, rfl, lit_size rfl, q⟩
theorem sh_str {x : Str} (h : PyData.canLay0 (.str x) = true) : Sh 0 (.str x) := ⟨h, Nat.le_refl _⟩
theorem sh_ref {c : Str} (hc : c ∈ xcl) : Sh 1 (refD c) := .tup fun x hx => by
  rcases List.mem_cons.mp hx with rfl | hx
  · exact sh_str (by decide +kernel)
  · rw [List.mem_singleton.mp hx]
    refine sh_str ?_
    simp only [xcl, List.mem_cons, List.not_mem_nil, or_false] at hc
    rcases hc with rfl | rfl | rfl | rfl | rfl | rfl | rfl <;> decide +kernel
end S7

/-! Fat0: things all of whose lists and dicts are new. -/
namespace Dt
open PySem L2
/-! ### without lists -/
mutual
def noL : PyData → Bool
  | .list _ => false
  | .dict _ => false
  | .tuple ds => noLs ds
  | _ => true
def noLs : List PyData → Bool
  | [] => true
  | d :: ds => noL d && noLs ds
end
/-! ### lists and dicts in B alone -/
mutual
inductive Fr (K : PySem.W.Frag) (B : Hd) (H : Hp) : V → PyData → Prop
  | non : Fr K B H .non .none
  | bl (b : Bool) : Fr K B H (.bl b) (.bool b)
  | int (i : Int) : Fr K B H (.int i) (.int i)
  | str (x : Str) : Fr K B H (.str x) (.str x)
  | lst {a : Addr} {xs : List V} {ds : List PyData} : B a → H a = some (.lst xs) → FrL K B H xs ds → Fr K B H (.ref a) (.list ds)
  | tup {a : Addr} {xs : List V} {ds : List PyData} : SqT K H a xs → FrL K B H xs ds → Fr K B H (.ref a) (.tuple ds)
  | dic {a : Addr} {kvs : List (Key × V)} {ps : List (PyData × PyData)} : B a → H a = some (.dK kvs) → FrK K B H kvs ps → Fr K B H (.ref a) (.dict ps)
inductive FrL (K : PySem.W.Frag) (B : Hd) (H : Hp) : List V → List PyData → Prop
  | nil : FrL K B H [] []
  | cons {v : V} {vs : List V} {d : PyData} {ds : List PyData} : Fr K B H v d → FrL K B H vs ds → FrL K B H (v :: vs) (d :: ds)
inductive FrK (K : PySem.W.Frag) (B : Hd) (H : Hp) : List (Key × V) → List (PyData × PyData) → Prop
  | nil : FrK K B H [] []
  | cons {k : Key} {v : V} {kvs : List (Key × V)} {d : PyData} {ps : List (PyData × PyData)} : Fr K B H v d → FrK K B H kvs ps → FrK K B H ((k, v) :: kvs) ((kd k, d) :: ps)
end
mutual
theorem Fr.da {K : PySem.W.Frag} {B : Hd} {H : Hp} : ∀ {v : V} {d : PyData}, Fr K B H v d → Da K H v d
  | _, _, .non => .non
  | _, _, .bl b => .bl b
  | _, _, .int i => .int i
  | _, _, .str x => .str x
  | _, _, .lst _ h r => .lst h (FrL.da r)
  | _, _, .tup h r => .tup h (FrL.da r)
  | _, _, .dic _ h r => .dic h (FrK.da r)
theorem FrL.da {K : PySem.W.Frag} {B : Hd} {H : Hp} : ∀ {vs : List V} {ds : List PyData}, FrL K B H vs ds → DaL K H vs ds
  | _, _, .nil => .nil
  | _, _, .cons h t => .cons (Fr.da h) (FrL.da t)
theorem FrK.da {K : PySem.W.Frag} {B : Hd} {H : Hp} : ∀ {vs : List (Key × V)} {ds : List (PyData × PyData)}, FrK K B H vs ds → DaD K H vs ds
  | _, _, .nil => .nil
  | _, _, .cons h t => .cons (Fr.da h) (FrK.da t)
end
mutual
theorem Fr.mono {K : PySem.W.Frag} {B B' : Hd} {H H' : Hp} (b : ∀ a, B a → B' a) (e : Same H H') : ∀ {v : V} {d : PyData}, Fr K B H v d → Fr K B' H' v d
  | _, _, .non => .non
  | _, _, .bl b => .bl b
  | _, _, .int i => .int i
  | _, _, .str x => .str x
  | _, _, .lst p h r => .lst (b _ p) (e _ _ h) (FrL.mono b e r)
  | _, _, .tup h r => .tup (seqT e h) (FrL.mono b e r)
  | _, _, .dic p h r => .dic (b _ p) (e _ _ h) (FrK.mono b e r)
theorem FrL.mono {K : PySem.W.Frag} {B B' : Hd} {H H' : Hp} (b : ∀ a, B a → B' a) (e : Same H H') : ∀ {vs : List V} {ds : List PyData}, FrL K B H vs ds → FrL K B' H' vs ds
  | _, _, .nil => .nil
  | _, _, .cons h t => .cons (Fr.mono b e h) (FrL.mono b e t)
theorem FrK.mono {K : PySem.W.Frag} {B B' : Hd} {H H' : Hp} (b : ∀ a, B a → B' a) (e : Same H H') : ∀ {vs : List (Key × V)} {ds : List (PyData × PyData)}, FrK K B H vs ds → FrK K B' H' vs ds
  | _, _, .nil => .nil
  | _, _, .cons h t => .cons (Fr.mono b e h) (FrK.mono b e t)
end
mutual
theorem fr_noL {K : PySem.W.Frag} {B : Hd} {H : Hp} : ∀ {v : V} {d : PyData}, Da K H v d → noL d = true → Fr K B H v d
  | _, _, .non, _ => .non
  | _, _, .bl b, _ => .bl b
  | _, _, .int i, _ => .int i
  | _, _, .str x, _ => .str x
  | _, _, .lst _ _, e => by unfold noL at e; cases e
  | _, _, .tup h r, e => .tup h (frL_noL r (by unfold noL at e; exact e))
  | _, _, .dic _ _, e => by unfold noL at e; cases e
  | _, _, .exc _ _, e => by unfold excD noL at e; cases e
theorem frL_noL {K : PySem.W.Frag} {B : Hd} {H : Hp} : ∀ {vs : List V} {ds : List PyData}, DaL K H vs ds → noLs ds = true → FrL K B H vs ds
  | _, _, .nil, _ => .nil
  | _, _, .cons h t, e => by
    unfold noLs at e
    rw [Bool.and_eq_true] at e
    exact .cons (fr_noL h e.1) (frL_noL t e.2)
end
theorem FrL.append {K : PySem.W.Frag} {B : Hd} {H : Hp} : ∀ {vs ws : List V} {ds es : List PyData}, FrL K B H vs ds → FrL K B H ws es → FrL K B H (vs ++ ws) (ds ++ es)
  | _, _, _, _, .nil, s => s
  | _, _, _, _, .cons h t, s => .cons h (FrL.append t s)
theorem noLs_mem : ∀ {ds : List PyData}, (∀ d ∈ ds, noL d = true) → noLs ds = true
  | [], _ => rfl
  | d :: ds, h => by
    unfold noLs
    rw [h d List.mem_cons_self, noLs_mem fun x hx => h x (List.mem_cons_of_mem _ hx)]
    rfl
theorem noLs_map {α : Type} {f : α → PyData} (h : ∀ x, noL (f x) = true) (l : List α) : noLs (l.map f) = true := noLs_mem fun d hd => by
  obtain ⟨x, _, rfl⟩ := List.mem_map.mp hd
  exact h x
/-! ### given back: a thing that is new where its form is P -/
abbrev nw (F : Fm) : Hd := fun a => F.H0 a = none
def zP (K : PySem.W.Frag) (P : PyData → Bool) : Zp := fun F S H v d => P d = true → Fr K (nw F) (off S H) v d
theorem zstP {K : PySem.W.Frag} {P : PyData → Bool} : Zst (zP K P) := fun _ _ _ _ _ _ _ e h p => (h p).mono (fun _ z => z) e
def rmP (K : PySem.W.Frag) (P : PyData → Bool) : Rm K := ⟨fun F S H v d => Da K (off S H) v d ∧ zP K P F S H v d, fun _ _ _ _ _ _ _ h => ⟨h.1, fun p => (h.2 p).mono (fun _ z => over_null z) (fun _ _ z => z)⟩⟩
def tRm {K : PySem.W.Frag} (R : Rm K) (W : WX) (w : DE) : TE := fun σ H Q => ∃ (F : Fm) (S : Hd) (Γ : Gm) (Qd : Kq) (Ed : Ke), En K F S Γ σ H ∧ w Γ Qd Ed ∧
  (∀ d Γ' v H', Qd d Γ' → Mv S σ Γ Γ' H H' → En K F S Γ' σ H' → R.r F S H' v d → Q v H') ∧ (∀ c Γ' H', Ed c Γ' → En K F S Γ' σ H' → W (.ref (He.ga K c)) none σ H')
def wN (w : DE) : DE := fun Γ Q E => w Γ (fun d Γ1 => noL d = true ∧ Q d Γ1) E
section
variable {X : Cx} {W : WX} {P P' : PyData → Bool} {e a b c : Expr} {es : List Expr} {pos p : Pos} {st : Stmt} {k j : Nat} {ps : List Str} {x : Str}
theorem ds_retR {R : Rm X.K} {w : DE} (he : PE X e (tRm R W w)) : PS X (.Return (some e) pos) (tSR R W (wRet w)) := psImp (ps_ret he) fun D σ H ⟨F, S, Γ, Qd, en, hw, k⟩ =>
  ⟨F, S, Γ, _, _, en, hw, fun d Γ' v H' q m en' hv => k (.rt d) Γ' S σ H' q en' v hv, fun c Γ' H' q en' => k (.ex c) Γ' S σ H' q en'⟩
theorem fe_non {n : Nat} : PE X (.Constant .none n pos) (tRm (rmP X.K P) W (wC .none)) := peImp pe_non fun σ H Q ⟨F, S, Γ, Qd, Ed, en, q, k, ke⟩ => k .none Γ .non H q .refl en ⟨.non, fun _ => .non⟩
theorem fe_n {w : DE} (h : PE X e (tD X.K W w)) : PE X e (tRm (rmP X.K P) W (wN w)) := peImp h fun σ H Q ⟨F, S, Γ, Qd, Ed, en, hw, k, ke⟩ =>
  ⟨F, S, Γ, _, Ed, en, hw, fun d Γ' v H' ⟨hn, q⟩ m e' hv => k d Γ' v H' q m e' ⟨hv, fun _ => fr_noL hv hn⟩, ke⟩
/-! comprehensions -/
def lstP (P P' : PyData → Bool) : Prop := ∀ ds, P (.list ds) = true → ds.all P' = true
theorem all_noLs : ∀ {ds : List PyData}, ds.all noL = true → noLs ds = true
  | [], _ => rfl
  | d :: ds, h => by
    rw [List.all_cons, Bool.and_eq_true] at h
    unfold noLs
    rw [h.1, all_noLs h.2]
    rfl
theorem zl_fr {K : PySem.W.Frag} {P' : PyData → Bool} {F : Fm} {S : Hd} {H : Hp} : ∀ {vs : List V} {ds : List PyData}, ZL (zP K P') F S H vs ds → ds.all P' = true → FrL K (nw F) (off S H) vs ds
  | _, _, .nil, _ => .nil
  | _, _, .cons h t, e => by
    rw [List.all_cons, Bool.and_eq_true] at e
    exact .cons (h e.1) (zl_fr t e.2)
theorem new_noL {K : PySem.W.Frag} (hP : lstP P noL) {F : Fm} {S : Hd} {H : Hp} {v : V} {d : PyData} {Z : Zp} (h : NewZ K Z F S H v d) : (rmP K P).r F S H v d := by
  refine ⟨h.da, fun p => ?_⟩
  obtain ⟨q, vs, ds, rfl, rfl, h0, h1, h2, _⟩ := h
  exact .lst h0 h1 (frL_noL h2 (all_noLs (hP ds p)))
theorem new_P {K : PySem.W.Frag} (hP : lstP P P') {F : Fm} {S : Hd} {H : Hp} {v : V} {d : PyData} (h : NewZ K (zP K P') F S H v d) : (rmP K P).r F S H v d := by
  refine ⟨h.da, fun p => ?_⟩
  obtain ⟨q, vs, ds, rfl, rfl, h0, h1, h2, h3⟩ := h
  exact .lst h0 h1 (zl_fr h3 (hP ds p))
theorem fe_lc {elt tg iter : Expr} {ifs : List Expr} {scope : Scope} {own : List (Str × Nat)} {wi : DL} {g : TG} {gd : DG} {t : DB} {w : DE} (hP : lstP P noL) (hc : X.calm = true) (hN : X.N.Nodup) (hi : PI X tg iter (tI false X.K W wi)) (ok : BlkOk X.N X.env.scope scope own) (hgd : OkG X.K g gd (own.map (·.2)))
    (hg : ∀ (s : Shared) (H : Hp) (C : Addr) (cl : List (Str × Addr)) (fp : List Addr), PG (X.blk s H scope (compEnvC scope cl C X.env) fp) tg g) (ht : ∀ (s : Shared) (H : Hp) (C : Addr) (cl : List (Str × Addr)) (fp : List Addr), PTs (X.blk s H scope (compEnvC scope cl C X.env) fp) ifs (tB X.K W0 t))
    (he : ∀ (s : Shared) (H : Hp) (C : Addr) (cl : List (Str × Addr)) (fp : List Addr), PE (X.blk s H scope (compEnvC scope cl C X.env) fp) elt (tD X.K W0 w)) (hs : ∀ x, foldedSetIterable iter X.env x = pure x := by intro _; rfl) :
    PE X (.ListComp elt [⟨tg, iter, ifs, 0⟩] scope pos) (tRm (rmP X.K P) W (wLc wi (stIf gd t w (own.map (·.2))) (own.map (·.2)))) := peImp (pe_lc hc hN hi ok hg ht he hs) fun _ _ _ ⟨F, S, Γ, Qd, Ed, en, hw, k, ke⟩ => lc_rdz zst0 (okst_if hgd) ⟨F, S, Γ, Qd, Ed, en, hw, fun d Γ' v H' q m e' hv => k d Γ' v H' q m e' (new_noL hP hv), ke⟩
theorem fe_lc0 {elt tg iter : Expr} {scope : Scope} {own : List (Str × Nat)} {wi : DL} {g : TG} {gd : DG} {w : DE} (hP : lstP P noL) (hc : X.calm = true) (hN : X.N.Nodup) (hi : PI X tg iter (tI false X.K W wi)) (ok : BlkOk X.N X.env.scope scope own) (hgd : OkG X.K g gd (own.map (·.2)))
    (hg : ∀ (s : Shared) (H : Hp) (C : Addr) (cl : List (Str × Addr)) (fp : List Addr), PG (X.blk s H scope (compEnvC scope cl C X.env) fp) tg g)
    (he : ∀ (s : Shared) (H : Hp) (C : Addr) (cl : List (Str × Addr)) (fp : List Addr), PE (X.blk s H scope (compEnvC scope cl C X.env) fp) elt (tD X.K W0 w)) (hs : ∀ x, foldedSetIterable iter X.env x = pure x := by intro _; rfl) :
    PE X (.ListComp elt [⟨tg, iter, [], 0⟩] scope pos) (tRm (rmP X.K P) W (wLc wi (stAll gd w (own.map (·.2))) (own.map (·.2)))) := peImp (pe_lc hc hN hi ok hg (fun _ _ _ _ _ => pts_nil) he hs) fun _ _ _ ⟨F, S, Γ, Qd, Ed, en, hw, k, ke⟩ => lc_rdz zst0 (okst_all hgd) ⟨F, S, Γ, Qd, Ed, en, hw, fun d Γ' v H' q m e' hv => k d Γ' v H' q m e' (new_noL hP hv), ke⟩
theorem okst_allP {K : PySem.W.Frag} {g : TG} {gd : DG} {w : DE} {vs : List Nat} (hg : OkG K g gd vs) : OkSt K (zP K P') g tYes (tRm (rmP K P') W0 w) vs (stAll gd w vs) := fun F S Γ σ H x d k R R0 en wd hv hs h1 h0 =>
  hg F S Γ (wipe σ vs) H x d _ _ en hv hs fun Γa σ2 q e2 f2 t2 l2 => by
    have ht : ∀ (j : Nat), j ∈ vs → ∀ s, Γa[j]? = some s → s.chg = true → False := fun j hj n z c => by
      have y := wd j _ hj (t2 j n z c)
      rw [y] at c
      cases c
    have ew := wipe_twice l2 fun j hj => (f2 j hj).1
    refine ⟨ew, ?_⟩
    show if true = true then tRm (rmP K P') W0 w σ2 H R else R0 H
    rw [if_pos rfl]
    exact ⟨F, S, Γa, _, F0, e2, q, fun e Γc y H4 qc mc ec hy => h1 e _ y H4 qc (wiped_wipe _ _) (mv_blk mc wd f2 ht) (ec.unwipe ew) hy.1 hy.2, fun _ _ _ z => z.elim⟩
theorem fe_lcP {elt tg iter : Expr} {scope : Scope} {own : List (Str × Nat)} {wi : DL} {g : TG} {gd : DG} {w : DE} (hP : lstP P P') (hc : X.calm = true) (hN : X.N.Nodup) (hi : PI X tg iter (tI false X.K W wi)) (ok : BlkOk X.N X.env.scope scope own) (hgd : OkG X.K g gd (own.map (·.2)))
    (hg : ∀ (s : Shared) (H : Hp) (C : Addr) (cl : List (Str × Addr)) (fp : List Addr), PG (X.blk s H scope (compEnvC scope cl C X.env) fp) tg g)
    (he : ∀ (s : Shared) (H : Hp) (C : Addr) (cl : List (Str × Addr)) (fp : List Addr), PE (X.blk s H scope (compEnvC scope cl C X.env) fp) elt (tRm (rmP X.K P') W0 w)) (hs : ∀ x, foldedSetIterable iter X.env x = pure x := by intro _; rfl) :
    PE X (.ListComp elt [⟨tg, iter, [], 0⟩] scope pos) (tRm (rmP X.K P) W (wLc wi (stAll gd w (own.map (·.2))) (own.map (·.2)))) := peImp (pe_lc hc hN hi ok hg (fun _ _ _ _ _ => pts_nil) he hs) fun _ _ _ ⟨F, S, Γ, Qd, Ed, en, hw, k, ke⟩ => lc_rdz zstP (okst_allP (P' := P') hgd) ⟨F, S, Γ, Qd, Ed, en, hw, fun d Γ' v H' q m e' hv => k d Γ' v H' q m e' (new_P hP hv), ke⟩
/-! displays -/
theorem fe_lst {ws : DL} (hP : lstP P noL) (h : PA X es (tL X.K W ws)) : PE X (.List es pos) (tRm (rmP X.K P) W (wLst ws)) :=
  peImp (pe_lst h) fun σ H Q ⟨F, S, Γ, Qd, Ed, e, hw, k, ke⟩ => ⟨F, S, Γ, _, Ed, e, hw, fun ds Γ1 vs H1 ⟨hz, q⟩ m1 e1 hv => ⟨by rw [hv.length]; exact hz, fun p hp => k _ Γ1 _ _ q (m1.trans (.of e1 (same_new hp))) (e1.same (same_new hp)) ⟨.newL e1.hid hp hv, fun pp =>
    .lst (e1.fresh0 hp) (by rw [off_in (e1.hid.free hp), upd_same]) (frL_noL (hv.mono (Le.off (Le.of (same_new hp)))) (all_noLs (hP ds pp)))⟩⟩, ke⟩
/-- a pair, the second new -/
theorem fe_pair {w1 w2 : DE} {n : Nat} (hP : ∀ d1 d2, P (.tuple [d1, d2]) = true → noL d1 = true ∧ P' d2 = true) (h1 : PE X a (tD X.K W w1)) (h2 : PE X b (tRm (rmP X.K P') W w2)) (s1 : starEach [a, b] X.env = (false, eval a X.env) :: starEach [b] X.env := by rfl) (s2 : starEach [b] X.env = (false, eval b X.env) :: starEach [] X.env := by rfl) :
    PE X (.Tuple [a, b] n pos) (tRm (rmP X.K P) W (wTup (wCons w1 (wCons w2 wNil)))) :=
  peImp (pe_tup (pa_cons h1 (pa_cons h2 pa_nil s2) s1)) fun σ H Q ⟨F, S, Γ, Qd, Ed, e, hw, k, ke⟩ => ⟨F, S, Γ, _, Ed, e, hw, fun d1 Γ1 v1 H1 hw2 m1 e1 hv1 => ⟨F, S, Γ1, _, Ed, e1, hw2, fun d2 Γ2 v2 H2 ⟨hz, q⟩ m2 e2 hv2 => ⟨hz, fun p hp => by
    have l1 : Da X.K (off S H2) v1 d1 := hv1.mono m2.le.off
    have sm : Same (off S H2) (off S (upd H2 p (.tup [v1, v2]))) := Le.off (Le.of (same_new hp))
    refine k _ Γ2 _ _ q ((m1.trans m2).trans (.of e2 (same_new hp))) (e2.same (same_new hp)) ⟨.newT e2.hid hp (.cons l1 (.cons hv2.1 .nil)), fun pp => ?_⟩
    obtain ⟨n1, p2⟩ := hP d1 d2 pp
    exact .tup (.of (by rw [off_in (e2.hid.free hp), upd_same])) (.cons (fr_noL (l1.mono sm) n1) (.cons ((hv2.2 p2).mono (fun _ z => z) sm) .nil))⟩, ke⟩, ke⟩
/-! calls -/
end
def spP (K : PySem.W.Frag) (P : PyData → Bool) (sp : DSp) : Sp := fun vs H Q E => ∃ (S : Hd) (ds : List PyData) (Qd : PyData → Prop) (Ed : Str → Prop), Hid S H ∧ DaL K (off S H) vs ds ∧ sp ds Qd Ed ∧
  (∀ d v H', Qd d → Same H H' → Da K (off S H') v d → (P d = true → Fr K (fun a => H a = none) (off S H') v d) → Q v H') ∧ (∀ c H', Ed c → Same H H' → E (.ref (He.ga K c)) none H')
section
variable {X : Cx} {W : WX} {P P' : PyData → Bool} {e a b c : Expr} {es : List Expr} {pos p : Pos} {st : Stmt} {k j : Nat} {ps : List Str} {x : Str}
theorem fe_fok {sp : DSp} {ws : DL} (h : Fok X.prog X.w X.K X.mg X.base x k ps (spP X.K P sp)) (hr : Room j X.A) (hj : k ≤ j) (hg : Gl X x) (tk : Takes X W)
    (ha : PA X (e :: es) (tL X.K W ws)) (hdb : (x == ("__debug__" : Str)) = false := by decide) (he : starEach (e :: es) X.env = (false, eval e X.env) :: starEach es X.env := by rfl) (hpl : (backTo pos (starEach es X.env)).any (·.1) = false := by rfl) :
    PE X (.Call (.Name x p) (e :: es) [] pos) (tRm (rmP X.K P) W (wFn sp ws)) := by
  obtain ⟨fd, F, hb, hk, hm⟩ := h
  exact peImp (pe_callS (E := WE W) F (hr.mono hj) hg hm hk hb (fun σ => passAt tk σ) ha hdb he hpl) fun σ H Q ⟨F, S, Γ, Qd, Ed, en, hw, kq, ke⟩ =>
    ⟨F, S, Γ, _, Ed, en, hw, fun ds Γ1 vs H1 q m1 e1 hv => ⟨S, ds, _, _, e1.hid, hv, q, fun d v H' qd s hv' hf => kq d Γ1 v H' qd (m1.trans (.of e1 s)) (e1.same s) ⟨hv', fun pp => (hf pp).mono (fun _ z => e1.fresh0 z) (fun _ _ z => z)⟩, fun c H' qc s => ke c Γ1 H' qc (e1.same s)⟩, ke⟩
/-- it may be taken as a plain def -/
theorem spP_D {P0 : Program} {w : World} {K : PySem.W.Frag} {mg : Str → Option Value} {base : Heap} {sp : DSp} (h : Fok P0 w K mg base x k ps (spP K P sp)) : Fok P0 w K mg base x k ps (spD K sp) := by
  obtain ⟨fd, F, hb, hk, hm⟩ := h
  exact ⟨fd, F.imp fun vs H Q E ⟨S, ds, Qd, Ed, h1, h2, h3, h4, h5⟩ => ⟨S, ds, Qd, Ed, h1, h2, h3, fun d v H' q s hv _ => h4 d v H' q s hv, h5⟩, hb, hk, hm⟩
/-! a list of one's own given back -/
theorem ds_retO {i : Nat} (hP : lstP P noL) (hP2 : ∀ l, P (.dict l) = false) (hx : PE X (.Name x p) (tVar i)) : PS X (.Return (some (.Name x p)) pos) (tSR (rmP X.K P) W (wRel i (wRet (wVar i)))) := psImp (ps_ret hx) fun D σ H ⟨F, S, Γ, Qd, en, ⟨d, g, ⟨d2, g2, q⟩⟩, k⟩ => by
  obtain ⟨o, q1, a, u, rfl, sa, h0, ht, ha, hc⟩ := en.slot i _ g
  have hil : i < Γ.length := (List.getElem?_eq_some_iff.mp g).1
  rw [getset, if_pos rfl, if_pos hil] at g2
  cases g2
  obtain ⟨S', e'⟩ := en.release g
  have hv : Da X.K (off S' H) (.ref a) d := by
    obtain ⟨o, q2, v, ev, hv⟩ := e'.slot i (.dat d) (by rw [getset, if_pos rfl, if_pos hil])
    rw [q1] at q2
    cases q2
    cases ev
    exact hv
  refine ⟨_, q1, k (.rt d) _ S' σ H q e' (.ref a) ⟨hv, fun pp => ?_⟩⟩
  cases hv with
  | lst h1 h2 => exact .lst h0 h1 (frL_noL h2 (all_noLs (hP _ pp)))
  | tup _ _ => exact hc.elim
  | dic h1 h2 => rw [hP2] at pp; cases pp
  | exc h1 h2 =>
    obtain ⟨kvs, rfl, _⟩ := hc
    have := (off_get h1).2
    rw [ha] at this
    cases this
end
end Dt

/-! Fat1: defs that give back new things; the same anew. -/
namespace Dt
open PySem L2
section
variable {P0 : Program} {w : World} {K : PySem.W.Frag} {mg : Str → Option Value} {base : Heap} {x : Str} {P : PyData → Bool}
theorem fokP_of {st : Stmt} {N ps : List Str} {k : Nat} {sp : DSp} (hD : DefAt K x st) (hm : mg x = some (.ref (He.ga K x))) (bd : BindsOk x st ps) (Sc : FnScope N ps (defScope st)) (len : ∀ ds Q E, sp ds Q E → ds.length = ps.length) (wb : DS)
    (hb : ∀ (cdv : Value) (A : Around) (outer : List Env) (s : Shared) (H : Hp) (E : XK), Room k (A.deeper (PyProof.Rows.envOfC x (defScope st) s.heap.objs.size (He.ga K x) cdv)) → PSs (bX P0 w K mg base N x (defScope st) (He.ga K x) cdv A outer s H E) (defBody st) (tSR (rmP K P) (Wd E) wb))
    (hd : ∀ ds Q E, sp ds Q E → wb (startG N ds) (endO Q E)) : Fok P0 w K mg base x (k + 1) ps (spP K P sp) := by
  obtain ⟨fd, F⟩ := hD
  refine ⟨fd, F.ok Sc (fun vs H Q E ⟨S, ds, Qd, Ed, hS, hv, h, _⟩ => by rw [hv.length]; exact len ds Qd Ed h) fun cdv A outer s H vs Q E hr h => ⟨_, hb cdv A outer s H E hr, ?_⟩, F.bindsN bd, F.kp, hm⟩
  obtain ⟨S, ds, Qd, Ed, hS, hv, h, kq, ke⟩ := h
  refine ⟨⟨H, S, fun _ => False, none⟩, S, startG N ds, _, en_start hS hv N, hd ds Qd Ed h, fun o Γ' S' σ' H' q e' => ?_⟩
  have sm : Same H H' := fun b u z => e'.base b u (fun y => y) z
  have so : Same (off S' H') (off S H') := off_sub fun b y => (e'.sub b y).1
  cases o with
  | nx => exact kq .none .non H' q sm .non fun _ => .non
  | rt d => exact fun v hv' => kq d v H' q sm (hv'.1.mono so) fun pp => (hv'.2 pp).mono (fun _ z => z) so
  | ex c => exact ke c H' q sm
  | bk => exact q.elim
  | ct => exact q.elim
end
def wP (P : PyData → Bool) (w : DE) : DE := fun Γ Q E => w Γ (fun d Γ1 => P d = true ∧ Q d Γ1) E
def wNo : DS := fun _ _ => False
def wTupF (w : DE) : DE := fun Γ Q E => w Γ (fun d Γ1 => ∃ ds, d = .list ds ∧ Q (.tuple ds) Γ1) E
def tru : PyData → Bool := fun _ => true
theorem tru_ok : lstP tru tru := fun _ _ => List.all_eq_true.mpr fun _ _ => rfl
def pL : PyData → Bool
  | .list ds => ds.all noL
  | .none => true
  | _ => false
def pLL : PyData → Bool
  | .list ds => ds.all pL
  | _ => false
def pT : PyData → Bool
  | .none => true
  | .tuple [x, y] => noL x && pL y
  | _ => false
theorem pT_ok : ∀ d1 d2, pT (.tuple [d1, d2]) = true → noL d1 = true ∧ pL d2 = true := fun d1 d2 h => by
  have h : (noL d1 && pL d2) = true := h
  rw [Bool.and_eq_true] at h
  exact h
theorem fok_bot {P0 : Program} {w : World} {K : PySem.W.Frag} {mg : Str → Option Value} {base : Heap} {x : Str} {st : Stmt} {ps : List Str} {k : Nat} {sp : Sp} (hD : DefAt K x st) (hm : mg x = some (.ref (He.ga K x))) (bd : BindsOk x st ps) (hn : ∀ vs H Q E, ¬ sp vs H Q E) : Fok P0 w K mg base x k ps sp := by
  obtain ⟨fd, F⟩ := hD
  exact ⟨fd, ⟨fun vs H Q E h => (hn vs H Q E h).elim, fun A outer s H args us vs Q E _ _ _ _ h => (hn vs H Q E h).elim⟩, F.bindsN bd, F.kp, hm⟩
section
variable {X : Cx} {W : WX} {P P' : PyData → Bool} {e a b c : Expr} {es : List Expr} {pos p : Pos} {st : Stmt} {sts : List Stmt} {k j : Nat} {ps : List Str} {x : Str}
theorem fe_up {w : DE} (h : PE X e (tRm (rmP X.K P') W w)) : PE X e (tRm (rmP X.K P) W (wP P' w)) := peImp h fun σ H Q ⟨F, S, Γ, Qd, Ed, en, hw, k, ke⟩ =>
  ⟨F, S, Γ, _, Ed, en, hw, fun d Γ' v H' ⟨hn, q⟩ m e' hv => k d Γ' v H' q m e' ⟨hv.1, fun _ => hv.2 hn⟩, ke⟩
theorem dss_no {R : Rm X.K} : PSs X sts (tSR R W wNo) := ⟨fun _ _ _ _ _ _ ⟨_, _, _, _, _, z, _⟩ => z.elim⟩
theorem fe_tupof {w : DE} (hP : ∀ ds, P (.tuple ds) = true → P' (.list ds) = true) (hg : Gl X "tuple") (hm : X.mg "tuple" = none) (h : PE X e (tRm (rmP X.K P') W w)) (h1 : starEach [e] X.env = (false, eval e X.env) :: starEach [] X.env := by rfl) (hpl : (backTo pos (starEach [] X.env)).any (·.1) = false := by rfl) :
    PE X (.Call (.Name "tuple" p) [e] [] pos) (tRm (rmP X.K P) W (wTupF w)) :=
  peImp (pe_callTy call_tuple_of hg hm (by decide +kernel) (pa_cons h pa_nil h1) (by decide) (by decide) h1 hpl) fun σ H Q ⟨F, S, Γ, Qd, Ed, en, hw, k, ke⟩ => ⟨F, S, Γ, _, Ed, en, hw, fun d Γ1 v H1 ⟨ds, ed, q⟩ m1 e1 hv => by
    subst ed
    obtain ⟨hv, hf⟩ := hv
    cases hv with
    | @lst a xs _ h1 h2 =>
      refine ⟨a, xs, rfl, .inl ⟨.of (off_get h1).2, fun l hl => ?_⟩⟩
      have sm : Same (off S H1) (off S (upd H1 l (.tup xs))) := Le.off (Le.of (same_new hl))
      refine k _ Γ1 _ _ q (m1.trans (.of e1 (same_new hl))) (e1.same (same_new hl)) ⟨.newT e1.hid hl h2, fun pp => ?_⟩
      have z := hf (hP ds pp)
      cases z with
      | lst b1 b2 b3 =>
        rw [h1] at b2
        cases b2
        exact .tup (.of (by rw [off_in (e1.hid.free hl), upd_same])) (b3.mono (fun _ z => z) sm), ke⟩
end
/-! ### the same anew -/
def cpy : Nat → PyData → Bool
  | 0, _ => false
  | n + 1, .list ds => decide (ds.length ≤ 100000) && ds.all (cpy n)
  | n + 1, .tuple ds => decide (ds.length ≤ 100000) && ds.all (cpy n)
  | _ + 1, .dict _ => false
  | _ + 1, _ => true
def Spn_copy (n : Nat) : DSp := fun ds Q _ => ∃ d, ds = [d] ∧ cpy n d = true ∧ Q d
def w__law_copy (n : Nat) : DS :=
  (wSq (wIfS (wTru (wIsi isLst (wVar 0))) (wRet (wLc (wSeq (wVar 0)) (stAll (gdN 1) (wFn (Spn_copy n) (wCons (wVar 1) wNil)) [1]) [1])) wNx)
  (wSq (wIfS (wTru (wIsi isTup (wVar 0))) (wRet (wTupF (wLc (wSeq (wVar 0)) (stAll (gdN 1) (wFn (Spn_copy n) (wCons (wVar 1) wNil)) [1]) [1]))) wNx)
  (wSq (wIfS (wTru (wIsi isDct (wVar 0))) wNo wNx)
  (wRet (wN (wVar 0))))))
theorem cpy_lc {n : Nat} {ds : List PyData} {Γ : Gm} {k : List PyData → Gm → Prop} {x1 x2 : Sl} {d : PyData} (hc : ds.all (cpy n) = true) (hk : k ds [.dat d, .no, x2]) : lcW (stAll (gdN 1) (wFn (Spn_copy n) (wCons (wVar 1) wNil)) [1]) ds [] [.dat d, .no, x2] k := by
  have h := lc_all (Γ := [.dat d, .no, x2]) (st := stAll (gdN 1) (wFn (Spn_copy n) (wCons (wVar 1) wNil)) [1]) (id : PyData → PyData) (id : PyData → PyData) (k := k) ds [] (fun x hx k' hk' => ⟨_, rfl, x, rfl, List.all_eq_true.mp hc x hx, hk'⟩) (by rw [List.map_id]; exact hk)
  rw [List.map_id] at h
  exact h
theorem m__law_copy (n : Nat) (ds : List PyData) (Q : PyData → Prop) (E : Str → Prop) (h : Spn_copy (n + 1) ds Q E) : w__law_copy n (startG ["thing", "one", "name"] ds) (endO Q E) := by
  obtain ⟨d, rfl, hc, q⟩ := h
  show w__law_copy n [.dat d, .no, .no] _
  cases d with
  | list l =>
    have hc : (decide (l.length ≤ 100000) && l.all (cpy n)) = true := hc
    rw [Bool.and_eq_true] at hc
    have hl := of_decide_eq_true hc.1
    exact ⟨_, rfl, _, rfl, _, rfl, _, rfl, by rw [sizeLine_eq]; omega, rfl, cpy_lc (x1 := .no) (Γ := []) hc.2 q⟩
  | tuple l =>
    have hc : (decide (l.length ≤ 100000) && l.all (cpy n)) = true := hc
    rw [Bool.and_eq_true] at hc
    have hl := of_decide_eq_true hc.1
    exact ⟨_, rfl, _, rfl, _, rfl, _, rfl, _, rfl, _, rfl, by rw [sizeLine_eq]; omega, rfl, cpy_lc (x1 := .no) (Γ := []) hc.2 ⟨_, rfl, q⟩⟩
  | dict _ => cases hc
  | none => exact ⟨_, rfl, _, rfl, _, rfl, _, rfl, _, rfl, _, rfl, _, rfl, rfl, q⟩
  | bool _ => exact ⟨_, rfl, _, rfl, _, rfl, _, rfl, _, rfl, _, rfl, _, rfl, rfl, q⟩
  | int _ => exact ⟨_, rfl, _, rfl, _, rfl, _, rfl, _, rfl, _, rfl, _, rfl, rfl, q⟩
  | str _ => exact ⟨_, rfl, _, rfl, _, rfl, _, rfl, _, rfl, _, rfl, _, rfl, rfl, q⟩
end Dt

/-! Fat2: a thing spoiled, all through. -/
namespace Dt
open PySem L2
abbrev lateV : V := .str "late"
mutual
inductive Sd (K : PySem.W.Frag) (P : Hd) (H : Hp) : V → PyData → Prop
  | non : Sd K P H .non .none
  | bl (b : Bool) : Sd K P H (.bl b) (.bool b)
  | int (i : Int) : Sd K P H (.int i) (.int i)
  | str (x : Str) : Sd K P H (.str x) (.str x)
  | lst {a : Addr} {xs : List V} {ds : List PyData} {k : Nat} : P a → H a = some (.lst (xs ++ List.replicate k lateV)) → SdL K P H xs ds → Sd K P H (.ref a) (.list ds)
  | tup {a : Addr} {xs : List V} {ds : List PyData} : SqT K (off P H) a xs → SdL K P H xs ds → Sd K P H (.ref a) (.tuple ds)
inductive SdL (K : PySem.W.Frag) (P : Hd) (H : Hp) : List V → List PyData → Prop
  | nil : SdL K P H [] []
  | cons {v : V} {vs : List V} {d : PyData} {ds : List PyData} : Sd K P H v d → SdL K P H vs ds → SdL K P H (v :: vs) (d :: ds)
end
/-- P's lists have grown by at most c, all else stands -/
structure Chg (P : Hd) (c : Nat) (H H' : Hp) : Prop where
  keep : ∀ b o, ¬ P b → H b = some o → H' b = some o
  grow : ∀ b xs, P b → H b = some (.lst xs) → ∃ k, k ≤ c ∧ H' b = some (.lst (xs ++ List.replicate k lateV))
theorem Chg.refl {P : Hd} {H : Hp} (c : Nat) : Chg P c H H := ⟨fun _ _ _ h => h, fun b xs _ h => ⟨0, Nat.zero_le _, by simpa using h⟩⟩
theorem Chg.trans {P : Hd} {c c' : Nat} {H H1 H2 : Hp} (a : Chg P c H H1) (b : Chg P c' H1 H2) : Chg P (c + c') H H2 :=
  ⟨fun x o n h => b.keep x o n (a.keep x o n h), fun x xs p h => by
    obtain ⟨k, hk, h1⟩ := a.grow x xs p h
    obtain ⟨k', hk', h2⟩ := b.grow x _ p h1
    refine ⟨k + k', by omega, ?_⟩
    rw [h2, List.append_assoc, List.replicate_append_replicate]⟩
theorem Chg.le {P : Hd} {c c' : Nat} {H H1 : Hp} (a : Chg P c H H1) (h : c ≤ c') : Chg P c' H H1 := ⟨a.keep, fun b xs p q => by
  obtain ⟨k, hk, e⟩ := a.grow b xs p q
  exact ⟨k, by omega, e⟩⟩
mutual
theorem Sd.chg {K : PySem.W.Frag} {P : Hd} {c : Nat} {H H' : Hp} (e : Chg P c H H') : ∀ {v : V} {d : PyData}, Sd K P H v d → Sd K P H' v d
  | _, _, .non => .non
  | _, _, .bl b => .bl b
  | _, _, .int i => .int i
  | _, _, .str x => .str x
  | _, _, .lst (k := k) p h r => by
    obtain ⟨k', _, h'⟩ := e.grow _ _ p h
    rw [List.append_assoc, List.replicate_append_replicate] at h'
    exact .lst p h' (SdL.chg e r)
  | _, _, .tup h r => .tup (seqT (fun b o z => by
      obtain ⟨n, z⟩ := off_get z
      rw [off_in n]
      exact e.keep b o n z) h) (SdL.chg e r)
theorem SdL.chg {K : PySem.W.Frag} {P : Hd} {c : Nat} {H H' : Hp} (e : Chg P c H H') : ∀ {vs : List V} {ds : List PyData}, SdL K P H vs ds → SdL K P H' vs ds
  | _, _, .nil => .nil
  | _, _, .cons h t => .cons (Sd.chg e h) (SdL.chg e t)
end
theorem Sd.ty {K : PySem.W.Frag} {P : Hd} {H : Hp} {v : V} {d : PyData} (h : Sd K P H v d) : TyX K H v (.type (tyD d)) := by
  cases h with
  | non => exact .base .non
  | bl b => exact .base (.bl b)
  | int i => exact .base (.int i)
  | str x => exact .base (.str x)
  | lst _ h _ => exact .base (.lst h)
  | tup h _ =>
    rcases h with (h | ⟨o, h⟩) | ⟨o, its, n, h1, h2, _⟩
    · exact .base (.tup (off_same _ _ h))
    · exact .fTuple (off_same _ _ h)
    · exact .kTuple h1 h2
theorem SdL.length {K : PySem.W.Frag} {P : Hd} {H : Hp} : ∀ {vs : List V} {ds : List PyData}, SdL K P H vs ds → vs.length = ds.length
  | _, _, .nil => rfl
  | _, _, .cons _ t => by simp [SdL.length t]
theorem SdL.get {K : PySem.W.Frag} {P : Hd} {H : Hp} : ∀ {vs : List V} {ds : List PyData} {i : Nat} {d : PyData}, SdL K P H vs ds → ds[i]? = some d → ∃ v, vs[i]? = some v ∧ Sd K P H v d
  | _, _, _, _, .nil, e => by simp at e
  | _, _, 0, _, .cons h _, e => by simp at e; subst e; exact ⟨_, rfl, h⟩
  | _, _, i + 1, d, .cons _ t, e => by
    obtain ⟨v, h1, h2⟩ := SdL.get (i := i) (d := d) t (by simpa using e)
    exact ⟨v, by simpa using h1, h2⟩
theorem SdL.lates {K : PySem.W.Frag} {P : Hd} {H : Hp} (k : Nat) : ∀ {vs : List V} {ds : List PyData}, SdL K P H vs ds → SdL K P H (vs ++ List.replicate k lateV) (ds ++ List.replicate k (.str "late"))
  | _, _, .nil => by
    induction k with
    | zero => exact .nil
    | succ k ih => exact .cons (.str _) ih
  | _, _, .cons h t => .cons h (SdL.lates k t)
/-! how many lists; how deep -/
mutual
def nlD : PyData → Nat
  | .list ds => nlL ds + 1
  | .tuple ds => nlL ds
  | _ => 0
def nlL : List PyData → Nat
  | [] => 0
  | d :: ds => nlD d + nlL ds
end
theorem nlL_app : ∀ (a b : List PyData), nlL (a ++ b) = nlL a + nlL b
  | [], b => by show nlL b = 0 + nlL b; omega
  | d :: a, b => by
    show nlD d + nlL (a ++ b) = (nlD d + nlL a) + nlL b
    rw [nlL_app a b]
    omega
theorem nlL_late (k : Nat) : nlL (List.replicate k (.str "late")) = 0 := by
  induction k with
  | zero => rfl
  | succ k ih =>
    rw [List.replicate_succ]
    unfold nlL
    rw [ih]
    rfl
theorem nlL_one (d : PyData) : nlL [d] = nlD d := by unfold nlL; rfl
theorem nlL_take {ds : List PyData} {i : Nat} {d : PyData} (h : ds[i]? = some d) : nlL (ds.take (i + 1)) = nlL (ds.take i) + nlD d := by
  obtain ⟨hi, e⟩ := List.getElem?_eq_some_iff.mp h
  rw [List.take_succ_eq_append_getElem hi, nlL_app, e, nlL_one]
theorem nlL_take_le (ds : List PyData) (i : Nat) : nlL (ds.take i) ≤ nlL ds := by
  have := nlL_app (ds.take i) (ds.drop i)
  rw [List.take_append_drop] at this
  omega
def isSc : PyData → Bool
  | .list _ => false
  | .tuple _ => false
  | .dict _ => false
  | _ => true
def dpt : Nat → PyData → Bool
  | 0, _ => false
  | 1, d => isSc d
  | n + 2, .list ds => decide (ds.length ≤ 100000) && ds.all (dpt (n + 1))
  | n + 2, .tuple ds => decide (ds.length ≤ 100000) && ds.all (dpt (n + 1))
  | _ + 2, d => isSc d
def BndP (P : Hd) (m : Nat) (H : Hp) : Prop := ∀ b xs, P b → H b = some (.lst xs) → xs.length ≤ m
theorem BndP.chg {P : Hd} {m c : Nat} {H H' : Hp} (h : BndP P m H) (hp : ∀ b, P b → ∃ xs, H b = some (.lst xs)) (e : Chg P c H H') : BndP P (m + c) H' := fun b xs p q => by
  obtain ⟨ys, hy⟩ := hp b p
  obtain ⟨k, hk, h'⟩ := e.grow b ys p hy
  rw [q] at h'
  cases h'
  have := h b ys p hy
  rw [List.length_append, List.length_replicate]
  omega
def LstP (P : Hd) (H : Hp) : Prop := ∀ b, P b → ∃ xs, H b = some (.lst xs)
theorem LstP.chg {P : Hd} {c : Nat} {H H' : Hp} (h : LstP P H) (e : Chg P c H H') : LstP P H' := fun b p => by
  obtain ⟨xs, q⟩ := h b p
  obtain ⟨k, _, q'⟩ := e.grow b xs p q
  exact ⟨_, q'⟩
def spSpl (K : PySem.W.Frag) (n : Nat) : Sp := fun vs H Q _ => ∃ (P : Hd) (v : V) (d : PyData) (m : Nat), vs = [v] ∧ LstP P H ∧ Sd K P H v d ∧ dpt n d = true ∧ BndP P m H ∧ m + nlD d ≤ 1000000 ∧ ∀ H', Chg P (nlD d) H H' → Q .non H'
/-! ### the body -/
abbrev tIsi (K : PySem.W.Frag) (T : String) : TT := fun σ H Q => tCB (rIsi K) (tCons (tVar 0) (tCons (tC (.ty T)) tNil)) σ H fun x H' => ∃ k, TruV K x H' k ∧ Q k H'
abbrev rLof (K : PySem.W.Frag) : List V → Hp → VK → Prop := fun xs H Q => ∃ p ys, xs = [.ref p] ∧ (SqL K H p ys ∨ SqT K H p ys) ∧ ∀ l, H l = none → Q (.ref l) (upd H l (.lst ys))
abbrev tSplF (K : PySem.W.Frag) (E : XK) (n : Nat) : TS := tFor (iSeq K (tCB (rLof K) (tCons (tVar 0) tNil))) (gName 1) (tDrop (tCallS (spSpl K n) (WE (Wd E)) (tCons (tVar 1) tNil)))
abbrev tSpl (K : PySem.W.Frag) (E : XK) (n : Nat) : TS :=
  tSeq (tIfS (tOr (tIsi K "list") (tIsi K "tuple")) (tSplF K E n) tNext)
  (tSeq (tIfS (tIsi K "list") (tDrop (tBM K "list" rAppend (tVar 0) (tCons (tC (.str "late")) tNil))) tNext)
  (tIfS (tIsi K "dict") (fun _ _ _ => False) tNext))
theorem isi_sd {K : PySem.W.Frag} {P : Hd} {H : Hp} {v : V} {d : PyData} {T : String} {f : PyData → Bool} {σ : St} {Q : Bool → Hp → Prop} (hs : σ[0]? = some (some v)) (h : Sd K P H v d) (hf : kitB (tyD d) T = some (f d)) (q : Q (f d) H) : tIsi K T σ H Q :=
  ⟨v, hs, v, .ty T, _, _, f d, rfl, .ty T, h.ty, kit_ty hf, f d, rfl, q⟩
theorem Sd.nx {K : PySem.W.Frag} {P : Hd} {H : Hp} {v : V} {d : PyData} (h : Sd K P H v d) : isX d = false := by cases h <;> rfl
/-- the loop -/
theorem spl_loop {K : PySem.W.Frag} {E : XK} {n : Nat} {P : Hd} {H : Hp} {a : Addr} {ys : List V} {ds : List PyData} {m : Nat} {x1 x2 : Option V} {D : Ends} (hl : SqL K H a ys ∨ SqT K H a ys) (hp : LstP P H) (hs : SdL K P H ys ds) (hd : ds.all (dpt n) = true) (hb : BndP P m H) (hm : m + nlL ds ≤ 1000000)
    (k : ∀ x1 H', Chg P (nlL ds) H H' → D.nx [some (.ref a), x1, x2] H') : tSplF K E n D [some (.ref a), x1, x2] H := by
  refine ⟨.ref a, rfl, a, ys, rfl, hl, fun l nl => ⟨l, rfl, .inl ⟨⟨ys, .of upd_same⟩, ?_⟩⟩⟩
  have npl : ¬ P l := fun z => by
    obtain ⟨xs, q⟩ := hp l z
    rw [q] at nl
    cases nl
  have c0 : Chg P 0 H (upd H l (.lst ys)) := ⟨fun b o _ h => by rw [upd_ne (ne_of_none h nl)]; exact h, fun b xs p h => ⟨0, Nat.le_refl _, by rw [upd_ne (ne_of_none h nl)]; simpa using h⟩⟩
  have len := hs.length
  refine ⟨fun i mm σ' H' => mm = ys.length - i ∧ i ≤ ys.length ∧ ∃ x1, σ' = [some (.ref a), x1, x2] ∧ Chg P (nlL (ds.take i)) H H' ∧ H' l = some (.lst ys), ⟨ys.length, rfl, Nat.zero_le _, x1, rfl, c0.le (Nat.zero_le _), upd_same⟩, ?_⟩
  rintro i mm σ' H' ⟨rfl, hi, x1, rfl, hc, hL⟩
  by_cases hlt : i < ys.length
  · right
    have hd1 : ds[i]? = some ds[i] := List.getElem?_eq_getElem (by omega)
    obtain ⟨y, hy, sy⟩ := (hs.chg hc).get hd1
    refine ⟨⟨ys, y, .of hL, hy⟩, fun σ'' H'' => ∃ x1, σ'' = [some (.ref a), x1, x2] ∧ Chg P (nlL (ds.take (i + 1))) H H'' ∧ H'' l = some (.lst ys), ?_, ?_⟩
    · rintro σ'' H'' ⟨x1, e1, e2, e3⟩
      exact ⟨ys.length - (i + 1), by omega, rfl, hlt, x1, e1, e2, e3⟩
    · rintro x H3 ⟨rfl, hx⟩
      have ex := hx ys (.of hL)
      rw [hy] at ex
      cases ex
      have tk := nlL_take hd1
      have tle := nlL_take_le ds (i + 1)
      refine ⟨_, rfl, P, y, ds[i], m + nlL (ds.take i), rfl, hp.chg hc, sy, List.all_eq_true.mp hd _ (List.getElem_mem _), hb.chg hp hc, by omega, fun H4 h4 => ⟨some y, rfl, ?_, h4.keep l _ npl hL⟩⟩
      rw [tk]
      exact hc.trans h4
  · left
    have e : i = ys.length := by omega
    subst e
    rw [List.take_of_length_le (by omega)] at hc
    exact ⟨⟨ys, .of hL, Nat.le_refl _⟩, k x1 H' hc⟩
theorem spl_rd {K : PySem.W.Frag} {E E' : XK} {n : Nat} {vs : List V} {H : Hp} {Q : VK} (h : spSpl K (n + 1) vs H Q E') : tSpl K E n { nx := fun _ H' => Q .non H', rt := Q } (L2.start ["thing", "one", "name"] vs) H := by
  obtain ⟨P, v, d, m, rfl, hp, sd, hd, hb, hm, q⟩ := h
  show tSpl K E n _ [some v, none, none] H
  have sc : (isSc d = true) → tSpl K E n { nx := fun _ H' => Q .non H', rt := Q } [some v, none, none] H := fun z => by
    have l0 : isLst d = false := by cases d <;> first | rfl | cases z
    have t0 : isTup d = false := by cases d <;> first | rfl | cases z
    have d0 : isDct d = false := by cases d <;> first | rfl | cases z
    refine isi_sd rfl sd (kit_lst d sd.nx) ?_
    rw [l0]
    refine isi_sd rfl sd (kit_tup d sd.nx) ?_
    rw [t0]
    refine isi_sd rfl sd (kit_lst d sd.nx) ?_
    rw [l0]
    refine isi_sd rfl sd (kit_dct d sd.nx) ?_
    rw [d0]
    exact q H (.refl _)
  cases n with
  | zero => exact sc hd
  | succ n =>
    cases sd with
    | non => exact sc rfl
    | bl b => exact sc rfl
    | int i => exact sc rfl
    | str x => exact sc rfl
    | @tup a xs ds ht hs =>
      have hd : (decide (ds.length ≤ 100000) && ds.all (dpt (n + 1))) = true := hd
      rw [Bool.and_eq_true] at hd
      have sd : Sd K P H (.ref a) (.tuple ds) := .tup ht hs
      refine isi_sd rfl sd (kit_lst _ sd.nx) ?_
      refine isi_sd rfl sd (kit_tup _ sd.nx) ?_
      refine spl_loop (ds := ds) (m := m) (.inr (seqT off_same ht)) hp hs hd.2 hb hm fun x1 H' hc => ?_
      have sd' := sd.chg hc
      refine isi_sd rfl sd' (kit_lst _ sd'.nx) ?_
      refine isi_sd rfl sd' (kit_dct _ sd'.nx) ?_
      exact q H' hc
    | @lst a xs ds k pa ha hs =>
      have hd : (decide (ds.length ≤ 100000) && ds.all (dpt (n + 1))) = true := hd
      rw [Bool.and_eq_true] at hd
      have sd : Sd K P H (.ref a) (.list ds) := .lst pa ha hs
      have e1 : nlL (ds ++ List.replicate k (.str "late")) = nlL ds := by rw [nlL_app, nlL_late]; rfl
      have hm : m + (nlL ds + 1) ≤ 1000000 := hm
      refine isi_sd rfl sd (kit_lst _ sd.nx) ?_
      refine spl_loop (ds := ds ++ List.replicate k (.str "late")) (m := m) (.inl (.of ha)) hp (hs.lates k) ?_ hb (by rw [e1]; omega) fun x1 H' hc => ?_
      · rw [List.all_append, hd.2, Bool.true_and, List.all_eq_true]
        intro y hy
        rw [(List.mem_replicate.mp hy).2]
        cases n <;> rfl
      rw [e1] at hc
      have sd' := sd.chg hc
      refine isi_sd rfl sd' (kit_lst _ sd'.nx) ?_
      obtain ⟨k', hk', ha'⟩ := hc.grow _ _ pa ha
      have bl := hb a _ pa ha
      refine ⟨_, rfl, .inl ⟨rfl, _, .of ha'⟩, a, _, lateV, rfl, rfl, ha', ?_, ?_⟩
      · rw [List.length_append, List.length_replicate, sizeLine_eq]
        omega
      have hc2 : Chg P (nlL ds + 1) H (upd H' a (.lst ((xs ++ List.replicate k lateV ++ List.replicate k' lateV) ++ [lateV]))) := by
        refine ⟨fun b o nb hbo => ?_, fun b ys pb hbs => ?_⟩
        · have : b ≠ a := by rintro rfl; exact nb pa
          rw [upd_ne this]
          exact hc.keep b o nb hbo
        · by_cases e : b = a
          · subst e
            rw [ha] at hbs
            cases hbs
            refine ⟨k' + 1, by omega, ?_⟩
            rw [upd_same, List.replicate_succ', List.append_assoc, List.append_assoc]
          · obtain ⟨k2, hk2, h2⟩ := hc.grow b ys pb hbs
            exact ⟨k2, by omega, by rw [upd_ne e]; exact h2⟩
      have sd2 := sd.chg hc2
      refine isi_sd rfl sd2 (kit_dct _ sd2.nx) ?_
      exact q _ hc2
end Dt

/-! Fat3: what is told, new; each twice. -/
namespace Dt
open PySem L2
/-! ### told -/
def Sp_toldF (spo spr : DSp) (cs : List Str) : DSp := fun ds Q _ => (∃ a b, ds = [a, b]) ∧ spo ds (fun d => Q (.tuple [.str "found", d])) (fun c => c ∈ cs ∧ spr [excD c] (fun d => noL d = true ∧ Q d) (fun _ => False))
abbrev tToldF (K : PySem.W.Frag) (E : XK) (spo spr : Sp) : TS :=
  tSeq (tAsg (tC .non) (gName 2)) (tSeq (tAsg (tC .non) (gName 3)) (tSeq (fun D σ H => tAsg (tCallS spo (WE (wKeep K (.ref (He.ga K "SignError")) 4 (fun _ => tAsg (tVar 4) (gName 2)) D)) (tCons (tVar 0) (tCons (tVar 1) tNil))) (gName 3) D σ H)
  (tRet (tIf (tTest (tOp rIsN (tVar 2) (tC .non))) (tTup (tCons (tC (.str "found")) (tCons (tVar 3) tNil))) (tCallS spr (WE (Wd E)) (tCons (tVar 2) tNil))))))
theorem toldF_rd {K : PySem.W.Frag} {spo spr : DSp} {cs : List Str} (hx : XF K cs) {vs : List V} {H : Hp} {Q : VK} {E E' : XK} (h : spP K tru (Sp_toldF spo spr cs) vs H Q E') : tToldF K E (spP K tru spo) (spD K spr) { nx := fun _ H' => Q .non H', rt := Q } (L2.start ["kind", "some", "caught", "found", "e"] vs) H := by
  obtain ⟨S, ds, Qd, Ed, hS, hv, ⟨⟨a, b, rfl⟩, hsp⟩, kq, _⟩ := h
  obtain ⟨v0, v1, rfl, hv0, hv1⟩ := hv.two
  refine ⟨_, rfl, _, rfl, S, [a, b], _, _, hS, hv, hsp, fun d v H' q sm hv' hf => ?_, fun c H' q sm => ?_⟩
  · refine ⟨_, rfl, rfl, _, rfl, ?_⟩
    refine ⟨_, rfl, by show 2 ≤ sizeLine; rw [sizeLine_eq]; decide, fun p hp => ?_⟩
    have hS' : Hid S H' := hS.same sm
    have s2 : Same (off S H') (off S (upd H' p (.tup [.str "found", v]))) := Le.off (Le.of (same_new hp))
    exact kq _ (.ref p) _ q (sm.trans (same_new hp)) (.newT hS' hp (.cons (.str _) (.cons hv' .nil))) fun _ => .tup (.of (by rw [off_in (hS'.free hp)]; exact upd_same)) (.cons (.str _) (.cons ((hf rfl).mono (fun _ z => z) s2) .nil))
  · obtain ⟨hc, hq⟩ := q
    refine ⟨hx.sg c hc, fun ae na => ⟨_, rfl, ?_⟩⟩
    have hS' : Hid S H' := hS.same sm
    have hv : Da K (off S (upd H' ae (ExC (.ref (He.ga K c)) none ae))) (.ref ae) (excD c) := .exc (by rw [off_in (hS'.free na)]; exact upd_same) (hx.xc c hc)
    refine ⟨_, rfl, rfl, _, rfl, ?_⟩
    exact ⟨_, rfl, S, [excD c], _, _, hS'.same (same_new na), .cons hv .nil, hq, fun d v H2 ⟨hn, qd⟩ sm2 hv2 => kq d v H2 qd ((sm.trans (same_new na)).trans sm2) hv2 fun _ => fr_noL hv2 hn, fun _ _ z => z.elim⟩
/-! ### a new thing may be spoiled -/
mutual
theorem fr_sd {K : PySem.W.Frag} {B P : Hd} {h H : Hp} (hl : ∀ a xs, B a → h a = some (.lst xs) → xs.length ≤ 100000 → P a ∧ H a = some (.lst xs)) (ht : ∀ a xs, SqT K h a xs → SqT K (off P H) a xs) : ∀ {v : V} {d : PyData} {n : Nat}, Fr K B h v d → cpy n d = true → Sd K P H v d
  | _, _, _, .non, _ => .non
  | _, _, _, .bl b, _ => .bl b
  | _, _, _, .int i, _ => .int i
  | _, _, _, .str x, _ => .str x
  | _, _, 0, .lst p h1 r, e => by cases e
  | _, _, n + 1, .lst (xs := xs) (ds := ds) p h1 r, e => by
    have e : (decide (ds.length ≤ 100000) && ds.all (cpy n)) = true := e
    rw [Bool.and_eq_true] at e
    have hz := hl _ xs p h1 (by rw [r.da.length]; exact of_decide_eq_true e.1)
    exact .lst (k := 0) hz.1 (by rw [List.replicate_zero, List.append_nil]; exact hz.2) (frL_sd hl ht r e.2)
  | _, _, 0, .tup h1 r, e => by cases e
  | _, _, n + 1, .tup (ds := ds) h1 r, e => by
    have e : (decide (ds.length ≤ 100000) && ds.all (cpy n)) = true := e
    rw [Bool.and_eq_true] at e
    exact .tup (ht _ _ h1) (frL_sd hl ht r e.2)
  | _, _, 0, .dic p h1 r, e => by cases e
  | _, _, n + 1, .dic p h1 r, e => by cases e
theorem frL_sd {K : PySem.W.Frag} {B P : Hd} {h H : Hp} (hl : ∀ a xs, B a → h a = some (.lst xs) → xs.length ≤ 100000 → P a ∧ H a = some (.lst xs)) (ht : ∀ a xs, SqT K h a xs → SqT K (off P H) a xs) : ∀ {vs : List V} {ds : List PyData} {n : Nat}, FrL K B h vs ds → ds.all (cpy n) = true → SdL K P H vs ds
  | _, _, _, .nil, _ => .nil
  | _, _, n, .cons h1 t, e => by
    rw [List.all_cons, Bool.and_eq_true] at e
    exact .cons (fr_sd hl ht h1 e.1) (frL_sd hl ht t e.2)
end
mutual
theorem Fr.move {K : PySem.W.Frag} {B : Hd} {h h' : Hp} (hl : ∀ a o, B a → h a = some o → h' a = some o) (ht : ∀ a xs, SqT K h a xs → SqT K h' a xs) : ∀ {v : V} {d : PyData}, Fr K B h v d → Fr K B h' v d
  | _, _, .non => .non
  | _, _, .bl b => .bl b
  | _, _, .int i => .int i
  | _, _, .str x => .str x
  | _, _, .lst p h1 r => .lst p (hl _ _ p h1) (FrL.move hl ht r)
  | _, _, .tup h1 r => .tup (ht _ _ h1) (FrL.move hl ht r)
  | _, _, .dic p h1 r => .dic p (hl _ _ p h1) (FrK.move hl ht r)
theorem FrL.move {K : PySem.W.Frag} {B : Hd} {h h' : Hp} (hl : ∀ a o, B a → h a = some o → h' a = some o) (ht : ∀ a xs, SqT K h a xs → SqT K h' a xs) : ∀ {vs : List V} {ds : List PyData}, FrL K B h vs ds → FrL K B h' vs ds
  | _, _, .nil => .nil
  | _, _, .cons h1 t => .cons (Fr.move hl ht h1) (FrL.move hl ht t)
theorem FrK.move {K : PySem.W.Frag} {B : Hd} {h h' : Hp} (hl : ∀ a o, B a → h a = some o → h' a = some o) (ht : ∀ a xs, SqT K h a xs → SqT K h' a xs) : ∀ {vs : List (Key × V)} {ds : List (PyData × PyData)}, FrK K B h vs ds → FrK K B h' vs ds
  | _, _, .nil => .nil
  | _, _, .cons h1 t => .cons (Fr.move hl ht h1) (FrK.move hl ht t)
end
theorem SqT.at {K : PySem.W.Frag} {h h' : Hp} (e : ∀ a o, h a = some o → (∀ xs, o ≠ .lst xs) → h' a = some o) {a : Addr} {xs : List V} (q : SqT K h a xs) : SqT K h' a xs := by
  rcases q with (q | ⟨o, q⟩) | q
  · exact .inl (.inl (e _ _ q (fun ys z => by cases z)))
  · exact .inl (.inr ⟨o, e _ _ q (fun ys z => by cases z)⟩)
  · exact .inr q
/-! ### each twice -/
def Sp_againF (spt : DSp) (n nn : Nat) : DSp := fun ds Q _ => ∃ k d r, ds = [.int k, d] ∧ cpy n d = true ∧ d.canLay0 = true ∧ SeqAt.shaped d = true ∧ PyData.eqv d d = true ∧ spt [.int k, d] (fun e => e = r) (fun _ => False) ∧ cpy n r = true ∧ dpt nn r = true ∧ nlD r ≤ 100000 ∧ r.canLay0 = true ∧ SeqAt.shaped r = true ∧ PyData.eqv r r = true ∧ Q (.bool true)
abbrev tAgain (K : PySem.W.Frag) (E : XK) (spc spt sps : Sp) : TS :=
  tSeq (tAsg (tCallS spc (WE (Wd E)) (tCons (tVar 1) tNil)) (gName 2))
  (tSeq (tAsg (tCallS spt (WE (Wd E)) (tCons (tVar 0) (tCons (tVar 1) tNil))) (gName 3))
  (tSeq (tAsg (tCallS spc (WE (Wd E)) (tCons (tVar 3) tNil)) (gName 4))
  (tSeq (tDrop (tCallS sps (WE (Wd E)) (tCons (tVar 3) tNil)))
  (tRet (tAndT K (tOp (rEqD K) (tVar 1) (tVar 2)) (tAndT K (tOp (rEqD K) (tCallS spt (WE (Wd E)) (tCons (tVar 0) (tCons (tVar 1) tNil))) (tVar 4)) (tOp (rEqD K) (tVar 1) (tVar 2))))))))
theorem again_rd {K : PySem.W.Frag} {spt : DSp} {n nn : Nat} {vs : List V} {H : Hp} {Q : VK} {E E' : XK} (h : spD K (Sp_againF spt n nn) vs H Q E') : tAgain K E (spP K tru (Spn_copy n)) (spP K tru spt) (spSpl K nn) { nx := fun _ H' => Q .non H', rt := Q } (L2.start ["kind", "some", "before", "found", "due"] vs) H := by
  obtain ⟨S, ds, Qd, Ed, hS, hv, ⟨k, d, r, rfl, cd, ld, sd, ed, hsp, cr, dr, nr, lr, sr, er, qt⟩, kq, _⟩ := h
  obtain ⟨v0, v1, rfl, hv0, hv1⟩ := hv.two
  cases hv0
  -- before
  refine ⟨_, rfl, S, [d], _, _, hS, .cons hv1 .nil, ⟨d, rfl, cd, (rfl : d = d)⟩, fun d1 vb H1 e1 s1 hb1 fb => ?_, fun _ _ z => False.elim z⟩
  subst e1
  -- found
  refine ⟨_, rfl, _, rfl, S, [.int k, d], _, _, hS.same s1, .cons (.int k) (.cons (hv1.mono (Le.off (Le.of s1))) .nil), hsp, fun d2 vf H2 e2 s2 hf2 ff => ?_, fun _ _ z => z.elim⟩
  subst e2
  -- due
  refine ⟨_, rfl, S, [d2], _, _, (hS.same s1).same s2, .cons hf2 .nil, ⟨d2, rfl, cr, (rfl : d2 = d2)⟩, fun d3 vd H3 e3 s3 hd3 fd => ?_, fun _ _ z => False.elim z⟩
  subst e3
  -- spoiled
  let P : Hd := fun a => H1 a = none ∧ ∃ xs, H2 a = some (.lst xs) ∧ xs.length ≤ 100000
  have P3 : ∀ {a : Addr}, P a → ∃ xs, H3 a = some (.lst xs) ∧ xs.length ≤ 100000 := fun ⟨_, xs, q, z⟩ => ⟨xs, s3 _ _ q, z⟩
  have sdf : Sd K P H3 vf d2 := by
    refine fr_sd (fun a xs b q z => ?_) (fun a xs q => ?_) (ff rfl) cr
    · have q2 := (off_get q).2
      exact ⟨⟨b, xs, q2, z⟩, s3 _ _ q2⟩
    · refine SqT.at (fun b o z nl => ?_) q
      have z2 := (off_get z).2
      rw [off_in]
      · exact s3 _ _ z2
      · rintro ⟨_, ys, y, _⟩
        rw [y] at z2
        cases z2
        exact nl ys rfl
  refine ⟨_, rfl, P, vf, d2, 100000, rfl, fun b p => ?_, sdf, dr, fun b xs p q => ?_, by omega, fun H4 c4 => ?_⟩
  · obtain ⟨xs, q, _⟩ := P3 p
    exact ⟨xs, q⟩
  · obtain ⟨ys, y, z⟩ := P3 p
    rw [q] at y
    cases y
    exact z
  have s13 : Same H1 H3 := s2.trans s3
  have k1 : ∀ b o, H1 b = some o → H4 b = some o := fun b o q => c4.keep b o (fun p => by rw [p.1] at q; cases q) (s13 b o q)
  let S4 : Hd := fun b => S b ∨ P b
  have hS4 : Hid S4 H4 := by
    rintro b (z | z) y
    · cases q : H b with
      | none => exact hS b z q
      | some o =>
        rw [k1 b o (s1 b o q)] at y
        cases y
    · obtain ⟨xs, q, _⟩ := P3 z
      obtain ⟨kk, _, q'⟩ := c4.grow b xs z q
      rw [q'] at y
      cases y
  have e1 : Same (off S H1) (off S4 H4) := fun b o z => by
    obtain ⟨n1, z⟩ := off_get z
    rw [off_in (fun y => y.elim n1 fun y => by rw [y.1] at z; cases z)]
    exact k1 b o z
  have hv4 : Da K (off S4 H4) v1 d := (hv1.mono (Le.off (Le.of s1))).mono e1
  have hb4 : Da K (off S4 H4) vb d := hb1.mono e1
  have hd4 : Da K (off S4 H4) vd d2 := by
    refine ((fd rfl).move (h' := off S4 H4) (fun a o b z => ?_) (fun a xs q => SqT.at (fun a o z nl => ?_) q)).da
    · obtain ⟨n1, z⟩ := off_get z
      have np : ¬ P a := fun y => by
        obtain ⟨_, ys, y, _⟩ := y
        have b : H2 a = none := b
        rw [b] at y
        cases y
      rw [off_in (fun y => y.elim n1 np)]
      exact c4.keep a o np z
    · obtain ⟨n1, z⟩ := off_get z
      have np : ¬ P a := fun y => by
        obtain ⟨ys, y, _⟩ := P3 y
        rw [z] at y
        cases y
        exact nl ys rfl
      rw [off_in (fun y => y.elim n1 np)]
      exact c4.keep a o np z
  have dpv : ∀ {v : V} {x : PyData} {H' : Hp}, Da K (off S4 H') v x → x.canLay0 = true → Dp K H' v x := fun q c => (q.mono off_same).dp c
  refine ⟨_, rfl, _, rfl, d, d, dpv hv4 ld, dpv hb4 ld, sd, sd, true, ed.symm, ?_⟩
  rw [if_pos rfl]
  refine ⟨_, rfl, _, rfl, S4, [.int k, d], _, _, hS4, .cons (.int k) (.cons hv4 .nil), hsp, fun d5 v5 H5 e5 s5 h5 f5 => ?_, fun _ _ z => z.elim⟩
  subst e5
  have m5 : Same (off S4 H4) (off S4 H5) := Le.off (Le.of s5)
  refine ⟨_, rfl, d5, d5, dpv h5 lr, dpv (hd4.mono m5) lr, sr, sr, true, er.symm, ?_⟩
  rw [if_pos rfl]
  refine ⟨_, rfl, _, rfl, d, d, dpv (hv4.mono m5) ld, dpv (hb4.mono m5) ld, sd, sd, ?_⟩
  rw [ed]
  exact kq _ _ H5 qt (fun b o z => s5 b o (k1 b o (s1 b o z))) (.bl true)
end Dt

/-! Fat4: a list of one's own, its things new. -/
namespace Dt
open PySem L2
theorem off_hid {S : Hd} {H : Hp} {D : Addr} {o : HO} (h : S D) : Same (off S H) (off S (upd H D o)) := fun b u q => by
  obtain ⟨n, q⟩ := off_get q
  have z : b ≠ D := by rintro rfl; exact n h
  rw [off_in n, upd_ne z]
  exact q
/-- a list of one's own stays where things are reckoned -/
theorem Mv.own {K : PySem.W.Frag} {F : Fm} {S : Hd} {σ : St} {Γ Γ' : Gm} {H H' : Hp} {i : Nat} {a : Addr} {d : PyData} {o : HO} (m : Mv S σ Γ Γ' H H') (e : En K F S Γ σ H) (g : Γ[i]? = some (.own0 d)) (hs : σ[i]? = some (some (.ref a))) (h : H a = some o) : H' a = some o := by
  rcases m.al a o h with z | ⟨j, s, v, gj, c, ej, p⟩
  · exact z
  · have hij : i ≠ j := by
      rintro rfl
      rw [g] at gj
      cases gj
      cases c
    exact absurd p (e.inj i j _ s _ v a hij g gj rfl (Sl.chg_mut c) hs ej rfl)
abbrev tReach (K : PySem.W.Frag) (W : WX) (w0 : DE) (wi : DL) (w1 w2 : DE) : TS :=
  tSeq (tAsg (tLst (tCons (tRm (rmP K pL) W w0) tNil)) (gName 3))
  (tSeq (tFor (tI true K W wi) (gName 4) (tSeq (tAsg (tD K W w1) (gName 5)) (tDrop (tBM K "list" rAppend (tVar 3) (tCons (tRm (rmP K pL) W w2) tNil)))))
  (tRet (tVar 3)))
def wReach (w0 : DE) (wi : DL) (w1 w2 : DE) : DS := wSq (wSetO 3 (wLstF (wCons w0 wNil))) (wSq (wFor wi (gdN 4) (wSq (wSet 5 w1) (wApp 3 w2))) (wRel 3 (wRet (wVar 3))))
/-- the list's things are new -/
def Jn (K : PySem.W.Frag) (F : Fm) (S : Hd) (Γ : Gm) (σ : St) (H : Hp) : Prop := ∃ (ds : List PyData) (a : Addr) (va : List V), Γ[3]? = some (.own ds) ∧ σ[3]? = some (some (.ref a)) ∧ H a = some (.lst va) ∧ F.H0 a = none ∧ ZL (zP K pL) F S H va ds
theorem reach_rd {K : PySem.W.Frag} {sp : DSp} {N : List Str} {w0 : DE} {wi : DL} {w1 w2 : DE} (hd : ∀ ds Q E, sp ds Q E → wReach w0 wi w1 w2 (startG N ds) (endO Q E)) (hN : 6 ≤ N.length) {vs : List V} {H : Hp} {Q : VK} {E : XK} (h : spP K pLL sp vs H Q E) : tReach K (Wd E) w0 wi w1 w2 { nx := fun _ H' => Q .non H', rt := Q } (L2.start N vs) H := by
  obtain ⟨S, ds, Qd, Ed, hS, hv, h, kq, ke⟩ := h
  have hw := hd ds Qd Ed h
  have en := en_start hS hv N
  generalize hF : (⟨H, S, fun _ => False, none⟩ : Fm) = F at en
  have ex : ∀ (c : Str) (Γ' : Gm) (S' : Hd) (σ' : St) (H' : Hp), endO Qd Ed (.ex c) Γ' → En K F S' Γ' σ' H' → E (.ref (He.ga K c)) none H' := fun c Γ' S' σ' H' q e' => ke c H' q fun b u z => e'.base b u (by rw [← hF]; exact fun y => y) (by rw [← hF]; exact z)
  have h0F : ∀ b, F.S0 b → F.H0 b ≠ none := fun b z => (en.sub b z).2
  refine ⟨F, S, startG N ds, _, _, en, hw, fun d0 Γ1 v0 H1 ⟨hz, hw1⟩ m1 e1 hr0 => ⟨hz, fun p hp => ?_⟩, fun c Γ' H' q en' => ex c Γ' S _ H' q en'⟩
  -- the list is made
  have hp0 := e1.fresh0 hp
  have nT : ¬ F.T p := fun z => e1.hid p (e1.tin p z) hp
  have e2 := (e1.hide (o := .lst [v0]) hp).setOwn 3 (p := p) (vs := [v0]) (ds := [d0]) (.inr rfl) hp0 nT upd_same (.cons (hr0.1.mono (same_hide hp)) .nil) fun j s o _ => NoFp.hide e1 hp j s o
  have l3 : 3 < Γ1.length := by
    have := e1.len
    have hl : (L2.start N vs).length ≥ N.length := by
      unfold L2.start
      rw [List.length_append, List.length_map, List.length_replicate]
      omega
    omega
  have l3s : 3 < (L2.start N vs).length := by rw [← e1.len]; exact l3
  have j2 : Jn K F (fun b => S b ∨ b = p) (Γ1.set 3 (.own [d0])) ((L2.start N vs).set 3 (some (.ref p))) (upd H1 p (.lst [v0])) :=
    ⟨[d0], p, [v0], by rw [getset, if_pos rfl, if_pos l3], by rw [getset, if_pos rfl, if_pos l3s], upd_same, hp0, .cons (zstP _ _ _ _ _ _ _ (same_hide hp) hr0.2) .nil⟩
  have hw1 : wSq (wFor wi (gdN 4) (wSq (wSet 5 w1) (wApp 3 w2))) (wRel 3 (wRet (wVar 3))) (Γ1.set 3 (.own [d0])) (endO Qd Ed) := hw1
  generalize Γ1.set 3 (.own [d0]) = Γ2 at e2 j2 hw1
  generalize hσ : (L2.start N vs).set 3 (some (.ref p)) = σ2 at e2 j2
  generalize upd H1 p (.lst [v0]) = H2 at e2 j2
  generalize (fun b => S b ∨ b = p) = S2 at e2 j2
  -- the loop
  show tSeq _ _ _ ((L2.start N vs).set 3 (some (.ref p))) H2
  rw [hσ]
  refine ⟨F, S2, Γ2, _, _, e2, hw1, fun us Γ3 H3 J q m3 e3 wk => ?_, fun c Γ' H' q en' => ex c Γ' S2 _ H' q en'⟩
  have j3 : Jn K F S2 Γ3 σ2 H3 := by
    obtain ⟨l, a, va, g, s, ha, h0, z⟩ := j2
    exact ⟨l, a, va, m3.ow _ _ g, s, m3.own e2 g s ha, h0, z.mono zstP m3.le.off⟩
  refine ⟨fun i m σ' H' => m = us.length - i ∧ i ≤ us.length ∧ ∃ S' Γi, En K (F.over S2 H3) S' Γi σ' H' ∧ Jn K F S' Γi σ' H' ∧ forW (gdN 4) (wSq (wSet 5 w1) (wApp 3 w2)) (us.drop i) Γi (onNx (wRel 3 (wRet (wVar 3))) (endO Qd Ed)), ⟨us.length, rfl, Nat.zero_le _, S2, Γ3, e3.over, j3, q⟩, ?_⟩
  rintro i m σ' H' ⟨rfl, hi, S', Γi, ei, ji, hk⟩
  obtain ⟨wk1, wk2⟩ := wk _ S' Γi σ' H' (over_stays e3 ei) (fun z => by cases z) ei
  by_cases hlt : i < us.length
  · right
    have hd1 : us[i]? = some us[i] := List.getElem?_eq_getElem hlt
    obtain ⟨go, yl⟩ := wk1 i _ hd1
    refine ⟨go, fun σ'' H'' => ∃ S'' Γj, En K (F.over S2 H3) S'' Γj σ'' H'' ∧ Jn K F S'' Γj σ'' H'' ∧ forW (gdN 4) (wSq (wSet 5 w1) (wApp 3 w2)) (us.drop (i + 1)) Γj (onNx (wRel 3 (wRet (wVar 3))) (endO Qd Ed)), ?_, ?_⟩
    · rintro σ'' H'' ⟨S'', Γj, r⟩
      exact ⟨us.length - (i + 1), by omega, rfl, hlt, S'', Γj, r⟩
    · intro x H4 y
      obtain ⟨rfl, hx⟩ := yl x H4 y
      rw [List.drop_eq_getElem_cons hlt] at hk
      have ea := ei.set 4 hx
      have exo : ∀ (c : Str) (Γ' : Gm) (S' : Hd) (σ' : St) (H' : Hp), endO Qd Ed (.ex c) Γ' → En K (F.over S2 H3) S' Γ' σ' H' → E (.ref (He.ga K c)) none H' := fun c Γ' S' σ' H' q e' => ex c Γ' S' σ' H' q (e'.unover h0F)
      refine ⟨F.over S2 H3, S', _, _, _, ea, hk, fun d1 Γb v1 H5 qb mb eb hv1 => ?_, fun c Γ' H' q en' => exo c Γ' S' _ H' q en'⟩
      obtain ⟨l, a, va, g, s, ha, h0, z⟩ := ji
      have g4 : (Γi.set 4 (.dat us[i]))[3]? = some (.own l) := by rw [getset, if_neg (by decide)]; exact g
      have s4 : (σ'.set 4 (some x))[3]? = some (some (.ref a)) := by rw [getset, if_neg (by decide)]; exact s
      have gb := mb.ow _ _ g4
      have hab := mb.own ea g4 s4 ha
      have zb := z.mono zstP mb.le.off
      have ec := eb.set 5 hv1
      have gc : (Γb.set 5 (.dat d1))[3]? = some (.own l) := by rw [getset, if_neg (by decide)]; exact gb
      have sc : ((σ'.set 4 (some x)).set 5 (some v1))[3]? = some (some (.ref a)) := by rw [getset, if_neg (by decide)]; exact s4
      refine ⟨.ref a, sc, .inl ⟨rfl, _, .of hab⟩, F.over S2 H3, S', _, _, _, ec, qb.2, fun d2 Γd v2 H6 ⟨l2, gd, hl, q2⟩ md ed hr2 => ?_, fun c Γ' H' q en' => exo c Γ' S' _ H' q en'⟩
      have gd2 := md.ow _ _ gc
      rw [gd] at gd2
      cases gd2
      have had := md.own ec gc sc hab
      have zd := zb.mono zstP md.le.off
      obtain ⟨a', u, ea', sa', ha0, ht', hau, vs', eu, hvs⟩ := ed.at gd sc
      cases ea'
      subst eu
      rw [had] at hau
      cases hau
      refine ⟨a, va, v2, rfl, rfl, had, by rw [hvs.length]; exact hl, S', _, ed.updOwn gd sc (hvs.append (.cons hr2.1 .nil)), ?_, q2⟩
      have l3d : 3 < Γd.length := (List.getElem?_eq_some_iff.mp gd).1
      refine ⟨l ++ [d2], a, va ++ [v2], by rw [getset, if_pos rfl, if_pos l3d], sc, upd_same, h0, ?_⟩
      refine (zd.snoc (fun pp => ?_)).mono zstP (off_hid sa')
      exact (hr2.2 pp).mono (fun _ z => over_null z) (fun _ _ z => z)
  · left
    have e : i = us.length := by omega
    subst e
    rw [List.drop_length] at hk
    obtain ⟨l, a, va, g, s, ha, h0, z⟩ := ji
    have eF := ei.unover h0F
    obtain ⟨dd, gg, ⟨d9, g9, q9⟩⟩ := hk
    rw [g] at gg
    cases gg
    have l3d : 3 < Γi.length := (List.getElem?_eq_some_iff.mp g).1
    rw [getset, if_pos rfl, if_pos l3d] at g9
    cases g9
    refine ⟨wk2, .ref a, s, ?_⟩
    have sub : Same (off S' H') (off S H') := off_sub fun b y => (eF.sub b (by rw [← hF]; exact y)).1
    have nS : ¬ S a := fun y => hS a y (by rw [← hF] at h0; exact h0)
    obtain ⟨a', u, ea', sa', ha0, ht', hau, vs', eu, hvs⟩ := eF.at g s
    cases ea'
    subst eu
    rw [ha] at hau
    cases hau
    have hoa : off S H' a = some (.lst va) := by rw [off_in nS]; exact ha
    refine kq _ _ H' q9 (fun b u z => eF.base b u (by rw [← hF]; exact fun y => y) (by rw [← hF]; exact z)) (.lst hoa (hvs.mono sub)) fun pp => ?_
    have zz := zl_fr (z.mono zstP sub) pp
    rw [← hF] at h0 zz
    exact .lst h0 hoa zz
end Dt

/-! Fat5: a thing out of a new list; what cannot be a list handed in. -/
namespace Dt
open PySem L2
section
variable {X : Cx} {W : WX} {P P' : PyData → Bool} {e a b c : Expr} {es : List Expr} {pos p : Pos} {k j : Nat} {ps : List Str} {x : Str}
theorem fe_if {R : Rm X.K} {t : DB} {wa wb : DE} (hc : PT X c (tB X.K W t)) (ha : PE X a (tRm R W wa)) (hb : PE X b (tRm R W wb)) : PE X (.IfExp c a b pos) (tRm R W (wIf t wa wb)) :=
  peImp (pe_ifExp hc ha hb) fun σ H Q ⟨F, S, Γ, Qd, Ed, e, hw, k, ke⟩ => ⟨F, S, Γ, _, Ed, e, hw, fun c Γ1 H1 q m1 e1 => by
    cases c with
    | true => exact ⟨F, S, Γ1, _, Ed, e1, q, fun d Γ2 v H2 q2 m2 e2 hv => k d Γ2 v H2 q2 (m1.trans m2) e2 hv, ke⟩
    | false => exact ⟨F, S, Γ1, _, Ed, e1, q, fun d Γ2 v H2 q2 m2 e2 hv => k d Γ2 v H2 q2 (m1.trans m2) e2 hv, ke⟩, ke⟩
theorem FrL.get {K : PySem.W.Frag} {B : Hd} {H : Hp} : ∀ {vs : List V} {ds : List PyData} {i : Nat} {d : PyData}, FrL K B H vs ds → ds[i]? = some d → ∃ v, vs[i]? = some v ∧ Fr K B H v d
  | _, _, _, _, .nil, e => by simp at e
  | _, _, 0, _, .cons h _, e => by simp at e; subst e; exact ⟨_, rfl, h⟩
  | _, _, i + 1, d, .cons _ t, e => by
    obtain ⟨v, h1, h2⟩ := FrL.get (i := i) (d := d) t (by simpa using e)
    exact ⟨v, by simpa using h1, h2⟩
/-- the last of a new list -/
def wLastP (P2 : PyData → Bool) (wa : DE) : DE := fun Γ Q E => wa Γ (fun x Γ1 => P2 x = true ∧ ∃ l d, x = .list (l ++ [d]) ∧ Q d Γ1) E
theorem fe_last {P2 : PyData → Bool} {wa : DE} {n : Nat} {p1 p2 : Pos} (ha : PE X a (tRm (rmP X.K P2) W wa)) : PE X (.Subscript a (.UnaryOp .USub (.Constant (.int 1) n p1) p2) pos) (tRm (rmP X.K P) W (wLastP P2 wa)) :=
  peImp (pe_ix ix_seq ha (pe_un un_neg pe_int) (fun _ _ => rfl)) fun σ H Q ⟨F, S, Γ, Qd, Ed, e, hw, k, ke⟩ => ⟨F, S, Γ, _, Ed, e, hw, fun x Γ1 v1 H1 ⟨hp, l, d, ed, q⟩ m1 e1 hr => by
    subst ed
    have hf := hr.2 hp
    cases hf with
    | @lst a xs _ b1 b2 b3 =>
      obtain ⟨v, hv, fv⟩ := b3.get (i := l.length) (d := d) (by rw [List.getElem?_append_right (Nat.le_refl _), Nat.sub_self]; rfl)
      have hl := b3.da.length
      rw [List.length_append] at hl
      refine ⟨1, rfl, .inl ⟨a, xs, -1, v, rfl, rfl, .of (off_get b2).2, ?_, k d Γ1 v H1 q m1 e1 ⟨fv.da, fun _ => fv⟩⟩⟩
      have hl2 : xs.length = l.length + 1 := hl
      unfold L2.atI ixN
      rw [if_neg (by decide), if_pos (by omega), show (-1 + (xs.length : Int)).toNat = l.length by omega]
      exact hv, ke⟩
/-! ### no list handed in -/
def argU (d : PyData) : Prop := noL d = true ∨ ∃ x l, d = .list (.tuple x :: l) ∧ noLs (.tuple x :: l) = true
def intL (d : PyData) : Prop := ∃ ns : List Int, d = .list (ns.map .int)
def wFnU (sp : DSp) (ws : DL) : DE := fun Γ Q E => ws Γ (fun ds Γ1 => (∀ d ∈ ds, argU d) ∧ sp ds (fun d => intL d ∧ Q d Γ1) (fun c => E c Γ1)) E
theorem da_move {K : PySem.W.Frag} {h h' : Hp} {v : V} {d : PyData} (e : ∀ a o, h a = some o → (∀ xs, o ≠ .lst xs) → h' a = some o) (hv : Da K h v d) (hn : noL d = true) : Da K h' v d :=
  ((fr_noL (B := fun _ => False) hv hn).move (fun _ _ b => b.elim) (fun _ _ q => SqT.at e q)).da
theorem daL_move {K : PySem.W.Frag} {h h' : Hp} {vs : List V} {ds : List PyData} (e : ∀ a o, h a = some o → (∀ xs, o ≠ .lst xs) → h' a = some o) (hv : DaL K h vs ds) (hn : noLs ds = true) : DaL K h' vs ds :=
  ((frL_noL (B := fun _ => False) hv hn).move (fun _ _ b => b.elim) (fun _ _ q => SqT.at e q)).da
/-- the lists handed in -/
def argA (vs : List V) (ds : List PyData) (a : Addr) : Prop := ∃ (i : Nat) (x l : List PyData), vs[i]? = some (.ref a) ∧ ds[i]? = some (.list (.tuple x :: l))
theorem daL_args {K : PySem.W.Frag} {h h' : Hp} {A : Hd} (e : ∀ a o, h a = some o → (∀ xs, o ≠ .lst xs) → h' a = some o) (ea : ∀ a o, A a → h a = some o → h' a = some o) : ∀ {vs : List V} {ds : List PyData}, DaL K h vs ds → (∀ a, argA vs ds a → A a) → (∀ d ∈ ds, argU d) → DaL K h' vs ds
  | _, _, .nil, _, _ => .nil
  | _, _, .cons (v := v) (d := d) hv t, hA, hu => by
    refine .cons ?_ (daL_args e ea t (fun a ⟨i, x, l, h1, h2⟩ => hA a ⟨i + 1, x, l, by simpa using h1, by simpa using h2⟩) fun d hd => hu d (List.mem_cons_of_mem _ hd))
    rcases hu d List.mem_cons_self with z | ⟨x, l, rfl, z⟩
    · exact da_move e hv z
    · cases hv with
      | lst h1 h2 => exact .lst (ea _ _ (hA _ ⟨0, x, l, rfl, rfl⟩) h1) (daL_move e h2 z)
theorem fe_un {sp : DSp} {ws : DL} (h : Fok X.prog X.w X.K X.mg X.base x k ps (spD X.K sp)) (hr : Room j X.A) (hj : k ≤ j) (hg : Gl X x) (tk : Takes X W)
    (ha : PA X (e :: es) (tL X.K W ws)) (hdb : (x == ("__debug__" : Str)) = false := by decide) (he : starEach (e :: es) X.env = (false, eval e X.env) :: starEach es X.env := by rfl) (hpl : (backTo pos (starEach es X.env)).any (·.1) = false := by rfl) :
    PE X (.Call (.Name x p) (e :: es) [] pos) (tRm (rmP X.K P) W (wFnU sp ws)) := by
  obtain ⟨fd, F, hb, hk, hm⟩ := h
  refine peImp (pe_callS (E := WE W) F (hr.mono hj) hg hm hk hb (fun σ => passAt tk σ) ha hdb he hpl) fun σ H Q ⟨F, S, Γ, Qd, Ed, en, hw, kq, ke⟩ => ?_
  refine ⟨F, S, Γ, _, Ed, en, hw, fun ds Γ1 vs H1 ⟨hu, q⟩ m1 e1 hv => ?_, ke⟩
  let S' : Hd := fun b => S b ∨ ((∃ xs, H1 b = some (.lst xs)) ∧ ¬ argA vs ds b)
  have hS' : Hid S' H1 := by
    rintro b (z | ⟨⟨xs, z⟩, _⟩) y
    · exact e1.hid b z y
    · rw [z] at y; cases y
  have hv' : DaL X.K (off S' H1) vs ds := by
    refine daL_args (A := argA vs ds) (fun a o z nl => ?_) (fun a o z1 z => ?_) hv (fun a z => z) hu
    · obtain ⟨n1, z⟩ := off_get z
      rw [off_in (fun y => y.elim n1 fun y => by
        obtain ⟨⟨xs, y⟩, _⟩ := y
        rw [z] at y
        cases y
        exact nl xs rfl)]
      exact z
    · obtain ⟨n1, z⟩ := off_get z
      rw [off_in (fun y => y.elim n1 fun y => y.2 z1)]
      exact z
  refine ⟨S', ds, _, _, hS', hv', q, fun d v H' ⟨⟨ns, ed⟩, qd⟩ s hv2 => ?_, fun c H' qc s => ke c Γ1 H' qc (e1.same s)⟩
  subst ed
  have sub : Same (off S' H') (off S H') := off_sub fun b z => .inl z
  refine kq _ Γ1 v H' qd (m1.trans (.of e1 s)) (e1.same s) ⟨hv2.mono sub, fun _ => ?_⟩
  cases hv2 with
  | @lst a xs _ h1 h2 =>
    obtain ⟨nS, h1'⟩ := off_get h1
    refine .lst ?_ (sub _ _ h1) (frL_noL (h2.mono sub) (noLs_map (fun _ => rfl) ns))
    cases w : H1 a with
    | none => exact e1.fresh0 w
    | some o =>
      exfalso
      have := s a o w
      rw [h1'] at this
      cases this
      by_cases c : argA vs ds a
      · obtain ⟨i, y, l, g1, g2⟩ := c
        obtain ⟨v', g3, g4⟩ := hv.get g2
        rw [g1] at g3
        cases g3
        cases g4 with
        | lst h3 h4 =>
          have := (off_get h3).2
          rw [w] at this
          cases this
          cases h4 with
          | cons hy _ =>
            cases ns with
            | nil => cases h2
            | cons n ns =>
              cases h2 with
              | cons hi _ =>
                cases hi
                cases hy
      · exact nS (.inr ⟨⟨xs, w⟩, c⟩)
end
end Dt

/-! Fat6: new lists and dicts by built-ins; benches that tell new things; dicts anew. -/
namespace Dt
open PySem L2
/-! ### built-ins -/
def noLd (kps : Kps) : Prop := ∀ p ∈ kps, noL p.2 = true
theorem frK_noL {K : PySem.W.Frag} {B : Hd} {H : Hp} : ∀ {kvs : List (Key × V)} {kps : Kps}, DaD K H kvs (kps.map encK) → noLd kps → FrK K B H kvs (kps.map encK)
  | _, [], .nil, _ => .nil
  | _, p :: kps, h, hn => by
    obtain ⟨k0, d0⟩ := p
    have h : DaD K H _ ((kd k0, d0) :: kps.map encK) := h
    show FrK K B H _ ((kd k0, d0) :: kps.map encK)
    generalize e : kd k0 = y at h ⊢
    cases h with
    | cons hv t => exact .cons (fr_noL hv (hn _ List.mem_cons_self)) (frK_noL t fun q hq => hn q (List.mem_cons_of_mem _ hq))
section
variable {X : Cx} {W : WX} {P P' : PyData → Bool} {e a b c : Expr} {es : List Expr} {pos p : Pos} {k j : Nat} {ps : List Str} {x : Str}
/-- list(e) -/
theorem fe_lof {w : DE} (hP : lstP P noL) (hg : Gl X "list") (hm : X.mg "list" = none) (h : PE X e (tR X.K W w)) (h1 : starEach [e] X.env = (false, eval e X.env) :: starEach [] X.env := by rfl) (hpl : (backTo pos (starEach [] X.env)).any (·.1) = false := by rfl) :
    PE X (.Call (.Name "list" p) [e] [] pos) (tRm (rmP X.K P) W (wCall LstC (wCons w wNil))) :=
  peImp (pe_callTy call_list_of hg hm bt_list (pa_cons h pa_nil h1) (by decide) (by decide) h1 hpl) fun σ H Q ⟨F, S, Γ, Qd, Ed, en, hw, k, ke⟩ => ⟨F, S, Γ, _, Ed, en, hw, fun x Γ1 v H1 ⟨d, ⟨ds, hds, ed⟩, q⟩ m1 e1 hr => by
    subst ed
    have key : ∀ {xs : List V} {a : Addr}, DaL X.K (off S H1) xs ds → (SqL X.K H1 a xs ∨ SqT X.K H1 a xs) → v = .ref a → ∃ p ys, [v] = [V.ref p] ∧ (SqL X.K H1 p ys ∨ SqT X.K H1 p ys) ∧ ∀ l, H1 l = none → Q (.ref l) (upd H1 l (.lst ys)) := fun {xs a} hd hs ev => by
      subst ev
      refine ⟨a, xs, rfl, hs, fun l hl => ?_⟩
      refine k _ Γ1 _ _ q (m1.trans (.of e1 (same_new hl))) (e1.same (same_new hl)) ⟨.newL e1.hid hl hd, fun pp => ?_⟩
      exact .lst (e1.fresh0 hl) (by rw [off_in (e1.hid.free hl), upd_same]) (frL_noL (hd.mono (Le.off (Le.of (same_new hl)))) (all_noLs (hP ds pp)))
    rcases hds with h | h
    · cases h
      obtain ⟨a, vs, rfl, h1, h2⟩ := (hr.dr e1).list
      exact key h2 (.inl (.of h1)) rfl
    · cases h
      obtain ⟨a, vs, rfl, h1, h2⟩ := (hr.dr e1).tuple
      exact key h2 (.inr h1) rfl, ke⟩
/-- dict(pairs) -/
def wDictF (w : DE) : DE := fun Γ Q E => w Γ (fun x Γ1 => ∃ kps : Kps, x = .list (kps.map fun p => .tuple [kd p.1, p.2]) ∧ (kps.map (·.1)).Nodup ∧ noLd kps ∧ Q (eD kps) Γ1) E
theorem fe_dictP {w : DE} (hc : X.calm = true) (hg : Gl X "dict") (hm : X.mg "dict" = none) (h : PE X e (tR X.K W w)) (h1 : starEach [e] X.env = (false, eval e X.env) :: starEach [] X.env := by rfl) (hpl : (backTo pos (starEach [] X.env)).any (·.1) = false := by rfl) :
    PE X (.Call (.Name "dict" p) [e] [] pos) (tRm (rmP X.K P) W (wDictF w)) :=
  peImp (pe_callTy (call_dictP hc) hg hm bt_dict (pa_cons h pa_nil h1) (by decide) (by decide) h1 hpl) fun σ H Q ⟨F, S, Γ, Qd, Ed, en, hw, k, ke⟩ => ⟨F, S, Γ, _, Ed, en, hw, fun x Γ1 v H1 ⟨kps, ex, nd, hn, q⟩ m1 e1 hr => by
    subst ex
    obtain ⟨a, vs, rfl, h1, h2⟩ := (hr.dr e1).list
    obtain ⟨ps, kvs, rfl, h3, h4⟩ := pairs_of h2
    have em : mergeK [] kvs = kvs := merge_nodup kvs [] (fun _ _ => rfl) (by rw [h4.keysE]; exact nd)
    refine ⟨a, ps, kvs, rfl, .of h1, ?_, fun l hl => ?_⟩
    · clear h4 h2 em
      clear h1
      induction h3 with
      | nil => exact .nil
      | cons q _ ih => exact .cons (seqT off_same q) ih
    · rw [em]
      have sm : Same (off S H1) (off S (upd H1 l (.dK kvs))) := Le.off (Le.of (same_new hl))
      have hl2 : off S (upd H1 l (.dK kvs)) l = some (.dK kvs) := by rw [off_in (e1.hid.free hl), upd_same]
      exact k _ Γ1 _ _ q (m1.trans (.of e1 (same_new hl))) (e1.same (same_new hl)) ⟨.dic hl2 (h4.mono sm), fun _ => .dic (e1.fresh0 hl) hl2 (frK_noL (h4.mono sm) hn)⟩, ke⟩
/-- dict(e) of a tuple known as made -/
def pD : PyData → Bool
  | .dict ps => ps.all fun q => noL q.2
  | _ => false
theorem pD_noLd {kps : Kps} (h : pD (eD kps) = true) : noLd kps := fun p hp => List.all_eq_true.mp h (encK p) (List.mem_map_of_mem hp)
theorem fe_dictX {w : DE} (hc : X.calm = true) (hg : Gl X "dict") (hm : X.mg "dict" = none) (he : PE X e (tDX X.K W w)) (he2 : starEach [e] X.env = (false, eval e X.env) :: starEach [] X.env := by rfl) : PE X (.Call (.Name "dict" p) [e] [] pos) (tRm (rmP X.K pD) W (wCall PairT (wCons w wNil))) :=
  peImp (pe_callTy (call_dictT hc) hg hm bt_dict (pa_cons he pa_nil he2) (by decide) (by decide) he2 rfl) fun σ H Q ⟨F, S, Γ, Qd, Ed, en, hw, kq, ke⟩ => ⟨F, S, Γ, _, Ed, en, hw, fun d Γ1 v1 H1 ⟨d2, ⟨kps, e1, nd, e2⟩, q⟩ m1 en1 hx => by
    cases e1
    subst e2
    obtain ⟨l, ob, xs, ds, rfl, g1, g2, ee, g3⟩ := hx
    cases ee
    obtain ⟨ps, kvs, rfl, h3, h4⟩ := pairs_of g3
    have em : mergeK [] kvs = kvs := merge_nodup kvs [] (fun _ _ => rfl) (by rw [h4.keysE]; exact nd)
    refine ⟨_, ps, kvs, rfl, ⟨l, ob, rfl, off_same _ _ g1, g2⟩, ?_, fun p hp => ?_⟩
    · clear h4 g3 em g1
      induction h3 with
      | nil => exact .nil
      | cons q _ ih => exact .cons (seqT off_same q) ih
    · rw [em]
      have s := same_new (o := .dK kvs) hp
      have sm : Same (off S H1) (off S (upd H1 p (.dK kvs))) := Le.off (Le.of s)
      have hl2 : off S (upd H1 p (.dK kvs)) p = some (.dK kvs) := by rw [off_in (en1.hid.free hp), upd_same]
      exact kq _ Γ1 _ _ q (m1.trans (.of en1 s)) (en1.same s) ⟨.dic hl2 (h4.mono sm), fun pp => .dic (en1.fresh0 hp) hl2 (frK_noL (h4.mono sm) (pD_noLd pp))⟩, ke⟩
/-! ### a display of new things -/
def tLF (K : PySem.W.Frag) (W : WX) (w : DL) : TA := fun σ H Q => ∃ (F : Fm) (S : Hd) (Γ : Gm) (Qd : List PyData → Gm → Prop) (Ed : Ke), En K F S Γ σ H ∧ w Γ Qd Ed ∧
  (∀ ds Γ' vs H', Qd ds Γ' → Mv S σ Γ Γ' H H' → En K F S Γ' σ H' → FrL K (nw F) (off S H') vs ds → Q vs H') ∧ (∀ c Γ' H', Ed c Γ' → En K F S Γ' σ H' → W (.ref (He.ga K c)) none σ H')
theorem fa_nil : PA X [] (tLF X.K W wNil) := paImp pa_nil fun σ H Q ⟨F, S, Γ, Qd, Ed, e, hw, k, ke⟩ => k [] Γ [] H hw .refl e .nil
theorem fa_cons {w : DE} {ws : DL} (h : PE X e (tRm (rmP X.K tru) W w)) (hr : PA X es (tLF X.K W ws)) (hs : starEach (e :: es) X.env = (false, eval e X.env) :: starEach es X.env := by rfl) : PA X (e :: es) (tLF X.K W (wCons w ws)) :=
  paImp (pa_cons h hr hs) fun σ H Q ⟨F, S, Γ, Qd, Ed, e, hw, k, ke⟩ => ⟨F, S, Γ, _, Ed, e, hw, fun d Γ1 v1 H1 q m1 e1 r1 => ⟨F, S, Γ1, _, Ed, e1, q, fun ds Γ2 vs H2 q2 m2 e2 hv => k (d :: ds) Γ2 _ H2 q2 (m1.trans m2) e2 (.cons ((r1.2 rfl).mono (fun _ z => z) m2.le.off) hv), ke⟩, ke⟩
theorem fe_lstF {ws : DL} (h : PA X es (tLF X.K W ws)) : PE X (.List es pos) (tRm (rmP X.K P) W (wLst ws)) :=
  peImp (pe_lst h) fun σ H Q ⟨F, S, Γ, Qd, Ed, e, hw, k, ke⟩ => ⟨F, S, Γ, _, Ed, e, hw, fun ds Γ1 vs H1 ⟨hz, q⟩ m1 e1 hv => ⟨by rw [hv.da.length]; exact hz, fun p hp => k _ Γ1 _ _ q (m1.trans (.of e1 (same_new hp))) (e1.same (same_new hp)) ⟨.newL e1.hid hp hv.da, fun _ =>
    .lst (e1.fresh0 hp) (by rw [off_in (e1.hid.free hp), upd_same]) (hv.mono (fun _ z => z) (Le.off (Le.of (same_new hp))))⟩⟩, ke⟩
end
/-! ### benches -/
def spVP (K : PySem.W.Frag) (P : PyData → Bool) (sp : VSp) : Sp := fun vs H Q E => ∃ (S : Hd) (a : Addr) (r : Rs) (fp : List Addr) (vs' : List V) (ds : List PyData) (Qd : PyData → Prop) (Ed : Str → Prop), Hid S H ∧ vs = .ref a :: vs' ∧ RsOk K (off S H) H a r fp ∧ r.ben = true ∧ (∀ b ∈ fp, S b) ∧ DaL K (off S H) vs' ds ∧ sp r ds Qd Ed ∧
  (∀ d v H', Qd d → Same H H' → Da K (off S H') v d → (P d = true → Fr K (fun a => H a = none) (off S H') v d) → Q v H') ∧ (∀ c H', Ed c → Same H H' → E (.ref (He.ga K c)) none H')
section
variable {P0 : Program} {w : World} {K : PySem.W.Frag} {mg : Str → Option Value} {base : Heap} {m q x : Str} {P : PyData → Bool}
theorem vp_run {N : List Str} {wb : DS} {sp : VSp} (hd : ∀ a r ds Q E, r.ben = true → sp r ds Q E → wb (startB N (.vw a r) ds) (endO Q E)) {vs : List V} {H : Hp} {Q : VK} {E : XK} (h : spVP K P sp vs H Q E) : tSR (rmP K P) (Wd E) wb { nx := fun _ H' => Q .non H', rt := Q } (L2.start N vs) H := by
  obtain ⟨S, a, r, fp, vs', ds, Qd, Ed, hS, rfl, hr, hben, hfp, hv, h, kq, ke⟩ := h
  refine ⟨⟨H, S, fun _ => False, none⟩, S, startB N (.vw a r) ds, _, en_startB (K := K) (T := fun _ => False) (s := .vw a r) (v0 := .ref a) hS (fun _ z => z.elim) ⟨rfl, fp, hr, fun b hb => ⟨hfp b hb, fun z => z, hr.here b hb, hfp b hb⟩⟩ hv N, hd a r ds Qd Ed hben h, fun o Γ' S' σ' H' q e' => ?_⟩
  have sm : Same H H' := fun b u z => e'.base b u (fun y => y) z
  have so : Same (off S' H') (off S H') := off_sub fun b y => (e'.sub b y).1
  cases o with
  | nx => exact kq .none .non H' q sm .non fun _ => .non
  | rt d => exact fun v hv' => kq d v H' q sm (hv'.1.mono so) fun pp => (hv'.2 pp).mono (fun _ z => z) so
  | ex c => exact ke c H' q sm
  | bk => exact q.elim
  | ct => exact q.elim
theorem mokVP_of {st : Stmt} {N ps : List Str} {k : Nat} {sp : VSp} (hD : MAt K m q st) (hm : Meth K (He.ga K "Bench") m (mAt K m)) (bd : MBinds m q st ps) (Sc : FnScope N ps (defScope st)) (len : ∀ r ds Q E, sp r ds Q E → ds.length + 1 = ps.length) (wb : DS)
    (hb : ∀ (cdv : Value) (A : Around) (outer : List Env) (s : Shared) (H : Hp) (E : XK), Room k (A.deeper (PyProof.Rows.envOfC q (defScope st) s.heap.objs.size (mAt K m) cdv)) → PSs (bX P0 w K mg base N q (defScope st) (mAt K m) cdv A outer s H E) (defBody st) (tSR (rmP K P) (Wd E) wb))
    (hd : ∀ a r ds Q E, r.ben = true → sp r ds Q E → wb (startB N (.vw a r) ds) (endO Q E)) : Mok P0 w K mg base m (k + 1) ps (spVP K P sp) := by
  obtain ⟨fd, F⟩ := hD
  refine ⟨fd, F.ok Sc (fun vs H Q E ⟨S, a, r, fp, vs', ds, Qd, Ed, _, e, _, _, _, hv, h, _⟩ => ?_) fun cdv A outer s H vs Q E hr h => ⟨_, hb cdv A outer s H E hr, vp_run hd h⟩, F.bindsN bd, hm⟩
  rw [e, List.length_cons, hv.length]; exact len r ds Qd Ed h
theorem fokVP_of {st : Stmt} {N ps : List Str} {k : Nat} {sp : VSp} (hD : DefAt K x st) (hm : mg x = some (.ref (He.ga K x))) (bd : BindsOk x st ps) (Sc : FnScope N ps (defScope st)) (len : ∀ r ds Q E, sp r ds Q E → ds.length + 1 = ps.length) (wb : DS)
    (hb : ∀ (cdv : Value) (A : Around) (outer : List Env) (s : Shared) (H : Hp) (E : XK), Room k (A.deeper (PyProof.Rows.envOfC x (defScope st) s.heap.objs.size (He.ga K x) cdv)) → PSs (bX P0 w K mg base N x (defScope st) (He.ga K x) cdv A outer s H E) (defBody st) (tSR (rmP K P) (Wd E) wb))
    (hd : ∀ a r ds Q E, r.ben = true → sp r ds Q E → wb (startB N (.vw a r) ds) (endO Q E)) : Fok P0 w K mg base x (k + 1) ps (spVP K P sp) := by
  obtain ⟨fd, F⟩ := hD
  refine ⟨fd, F.ok Sc (fun vs H Q E ⟨S, a, r, fp, vs', ds, Qd, Ed, _, e, _, _, _, hv, h, _⟩ => ?_) fun cdv A outer s H vs Q E hr h => ⟨_, hb cdv A outer s H E hr, vp_run hd h⟩, F.bindsN bd, F.kp, hm⟩
  rw [e, List.length_cons, hv.length]; exact len r ds Qd Ed h
theorem mokVP_V {k : Nat} {ps : List Str} {sp : VSp} (h : Mok P0 w K mg base m k ps (spVP K P sp)) : Mok P0 w K mg base m k ps (spV K sp) := by
  obtain ⟨fd, F, hb, hM⟩ := h
  exact ⟨fd, F.imp fun vs H Q E ⟨S, a, r, fp, vs', ds, Qd, Ed, h1, h2, h3, h4, h5, h6, h7, h8, h9⟩ => ⟨S, a, r, fp, vs', ds, Qd, Ed, h1, h2, h3, h4, h5, h6, h7, fun d v H' q s hv _ => h8 d v H' q s hv, h9⟩, hb, hM⟩
end
section
variable {X : Cx} {W : WX} {P : PyData → Bool} {e a b c : Expr} {es : List Expr} {pos p apos : Pos} {k j : Nat} {ps : List Str} {x m : Str}
theorem fe_mV0 {i : Nat} {sp : VSp} (h : Mok X.prog X.w X.K X.mg X.base m k ps (spVP X.K P sp)) (B : BenK X.K) (hr : Room j X.A) (hj : k ≤ j) (tk : Takes X W) (hm : isM m = true) (hx : PE X (.Name x p) (tVar i))
    (pl : Sem Bool) (ht : eval (.Call (.Attribute (.Name x p) m apos) [] [] pos) X.env = (do
      let ov ← eval (.Name x p) X.env
      standAt apos.atName
      let (f, first) ← holding [ov] (getMethod ov m pl)
      callWith pos f first (backTo pos (starEach [] X.env)) (backToKw pos (keywordEach [] X.env))) := by rfl) :
    PE X (.Call (.Attribute (.Name x p) m apos) [] [] pos) (tRm (rmP X.K P) W (wMV i sp wNil)) := by
  obtain ⟨fd, F, hb, hM⟩ := h
  refine peImp (pe_methE0 (E := WE W) hx B.cls hM F (hr.mono hj) hb (fun σ => passAt tk σ) ht) fun σ H Q ⟨F, S, Γ, Qd, Ed, en, ⟨_, ⟨a, r, ⟨⟨s, g, es⟩, hb⟩, q⟩⟩, kk, ke⟩ => ?_
  obtain ⟨e1, fp, q1, q2⟩ := en.rsv g es
  obtain ⟨dx, bl, ll, vs, vn, vb, vl, _, h2, _⟩ := q1.ben hb
  exact ⟨_, e1, a, dx, _, rfl, h2, benF_no hm, S, a, r, fp, [], [], _, _, en.hid, rfl, q1, hb, q2, .nil, q, fun d v H' qd s hv' hf => kk d Γ v H' qd (.of en s) (en.same s) ⟨hv', fun pp => (hf pp).mono (fun _ z => en.fresh0 z) (fun _ _ z => z)⟩, fun c H' qc s => ke c Γ H' qc (en.same s)⟩
end
end Dt

/-! Fat7: the same anew, dicts too. -/
namespace Dt
open PySem L2
def CpX : Nat → PyData → Prop
  | 0, _ => False
  | n + 1, .list ds => ds.length ≤ 100000 ∧ ∀ x ∈ ds, CpX n x
  | n + 1, .tuple ds => ds.length ≤ 100000 ∧ ∀ x ∈ ds, CpX n x
  | n + 1, .dict ps => ∃ kps : Kps, PyData.dict ps = eD kps ∧ (kps.map (·.1)).Nodup ∧ (∀ p ∈ kps, isSc p.2 = true) ∧ kps.length ≤ 100000 ∧ 1 ≤ n
  | _ + 1, _ => True
theorem cpX_of : ∀ {n : Nat} {d : PyData}, cpy n d = true → CpX n d
  | 0, _, h => by cases h
  | n + 1, .list ds, h => by
    have h : (decide (ds.length ≤ 100000) && ds.all (cpy n)) = true := h
    rw [Bool.and_eq_true] at h
    exact ⟨of_decide_eq_true h.1, fun x hx => cpX_of (List.all_eq_true.mp h.2 x hx)⟩
  | n + 1, .tuple ds, h => by
    have h : (decide (ds.length ≤ 100000) && ds.all (cpy n)) = true := h
    rw [Bool.and_eq_true] at h
    exact ⟨of_decide_eq_true h.1, fun x hx => cpX_of (List.all_eq_true.mp h.2 x hx)⟩
  | n + 1, .dict _, h => by cases h
  | n + 1, .none, h => trivial
  | n + 1, .bool _, h => trivial
  | n + 1, .int _, h => trivial
  | n + 1, .str _, h => trivial
theorem cpX_sc {n : Nat} {d : PyData} (hn : 1 ≤ n) (h : isSc d = true) : CpX n d := by
  obtain ⟨m, rfl⟩ : ∃ m, n = m + 1 := ⟨n - 1, by omega⟩
  cases d <;> first | trivial | cases h
theorem noL_sc {d : PyData} (h : isSc d = true) : noL d = true := by cases d <;> first | rfl | cases h
def Spx_copy (n : Nat) : DSp := fun ds Q _ => ∃ d, ds = [d] ∧ CpX n d ∧ Q d
def w__law_copyX (n : Nat) : DS :=
  (wSq (wIfS (wTru (wIsi isLst (wVar 0))) (wRet (wLc (wSeq (wVar 0)) (stAll (gdN 1) (wFn (Spx_copy n) (wCons (wVar 1) wNil)) [1]) [1])) wNx)
  (wSq (wIfS (wTru (wIsi isTup (wVar 0))) (wRet (wTupF (wLc (wSeq (wVar 0)) (stAll (gdN 1) (wFn (Spx_copy n) (wCons (wVar 1) wNil)) [1]) [1]))) wNx)
  (wSq (wIfS (wTru (wIsi isDct (wVar 0))) (wRet (wDictF (wLc (wSeq (wLKeys (wVar 0))) (stAll (gdN 2) (wTup (wCons (wVar 2) (wCons (wFn (Spx_copy n) (wCons (wDGet (wVar 0) (wVar 2)) wNil)) wNil))) [2]) [2]))) wNx)
  (wRet (wN (wVar 0))))))
theorem lk_mem : ∀ {kps : Kps} {p : Key × PyData}, (kps.map (·.1)).Nodup → p ∈ kps → lk kps p.1 = some p.2
  | q :: kps, p, nd, h => by
    rw [List.map_cons, List.nodup_cons] at nd
    show (if q.1 = p.1 then some q.2 else lk kps p.1) = _
    rcases List.mem_cons.mp h with rfl | h
    · rw [if_pos rfl]
    · rw [if_neg (fun z : q.1 = p.1 => nd.1 (by rw [z]; exact List.mem_map_of_mem h)), lk_mem nd.2 h]
theorem dget_lk0 (k : Key) : ∀ kps : Kps, dget (kps.map encK) k = lk kps k
  | [] => rfl
  | q :: kps => by
    show (if keyEq (kd q.1) k = true then some q.2 else dget (kps.map encK) k) = (if q.1 = k then some q.2 else lk kps k)
    rw [keyEq_kd, dget_lk0 k kps]
    by_cases c : q.1 = k
    · rw [if_pos (decide_eq_true c), if_pos c]
    · rw [if_neg (by rw [decide_eq_false c]; exact Bool.false_ne_true), if_neg c]
theorem cpyX_lc {n : Nat} {ds : List PyData} {k : List PyData → Gm → Prop} {x2 : Sl} {d : PyData} (hc : ∀ x ∈ ds, CpX n x) (hk : k ds [.dat d, .no, x2]) : lcW (stAll (gdN 1) (wFn (Spx_copy n) (wCons (wVar 1) wNil)) [1]) ds [] [.dat d, .no, x2] k := by
  have h := lc_all (Γ := [.dat d, .no, x2]) (st := stAll (gdN 1) (wFn (Spx_copy n) (wCons (wVar 1) wNil)) [1]) (id : PyData → PyData) (id : PyData → PyData) (k := k) ds [] (fun x hx k' hk' => ⟨_, rfl, x, rfl, hc x hx, hk'⟩) (by rw [List.map_id]; exact hk)
  rw [List.map_id] at h
  exact h
theorem m__law_copyX (n : Nat) (ds : List PyData) (Q : PyData → Prop) (E : Str → Prop) (h : Spx_copy (n + 1) ds Q E) : w__law_copyX n (startG ["thing", "one", "name"] ds) (endO Q E) := by
  obtain ⟨d, rfl, hc, q⟩ := h
  show w__law_copyX n [.dat d, .no, .no] _
  cases d with
  | list l =>
    obtain ⟨hl, hc⟩ := hc
    exact ⟨_, rfl, _, rfl, _, rfl, _, rfl, by rw [sizeLine_eq]; omega, rfl, cpyX_lc hc q⟩
  | tuple l =>
    obtain ⟨hl, hc⟩ := hc
    exact ⟨_, rfl, _, rfl, _, rfl, _, rfl, _, rfl, _, rfl, by rw [sizeLine_eq]; omega, rfl, cpyX_lc hc ⟨_, rfl, q⟩⟩
  | dict ps =>
    obtain ⟨kps, e, nd, hs, hl, hn⟩ := hc
    rw [e] at q ⊢
    have dc : isDct (eD kps) = true := by
      cases kps with
      | nil => rfl
      | cons p r =>
        obtain ⟨k0, d0⟩ := p
        cases k0 <;> rfl
    refine ⟨_, rfl, _, rfl, _, rfl, _, rfl, _, rfl, _, rfl, ?_⟩
    rw [dc]
    refine ⟨_, rfl, kps, rfl, _, rfl, by rw [List.length_map, sizeLine_eq]; omega, rfl, ?_⟩
    refine lc_all (fun p : Key × PyData => kd p.1) (fun p => .tuple [kd p.1, p.2]) kps [] (fun p hp k' hk' => ?_) ?_
    · refine ⟨_, rfl, _, rfl, _, rfl, _, p.1, p.2, rfl, rfl, ?_, p.2, rfl, cpX_sc hn (hs p hp), by show 2 ≤ sizeLine; rw [sizeLine_eq]; decide, hk'⟩
      rw [dget_lk0]
      exact lk_mem nd hp
    · rw [List.nil_append]
      exact ⟨kps, rfl, nd, fun p hp => noL_sc (hs p hp), q⟩
  | none => exact ⟨_, rfl, _, rfl, _, rfl, _, rfl, _, rfl, _, rfl, _, rfl, rfl, q⟩
  | bool _ => exact ⟨_, rfl, _, rfl, _, rfl, _, rfl, _, rfl, _, rfl, _, rfl, rfl, q⟩
  | int _ => exact ⟨_, rfl, _, rfl, _, rfl, _, rfl, _, rfl, _, rfl, _, rfl, rfl, q⟩
  | str _ => exact ⟨_, rfl, _, rfl, _, rfl, _, rfl, _, rfl, _, rfl, _, rfl, rfl, q⟩
theorem copyX_n {P0 : Program} {w : World} {K : PySem.W.Frag} {mg : Str → Option Value} {base : Heap} {x : Str} {k : Nat} {ps : List Str} {P : PyData → Bool} {n : Nat} (h : Fok P0 w K mg base x k ps (spP K P (Spx_copy n))) : Fok P0 w K mg base x k ps (spP K P (Spn_copy n)) := by
  obtain ⟨fd, F, hb, hk, hm⟩ := h
  exact ⟨fd, F.imp fun vs H Q E ⟨S, ds, Qd, Ed, h1, h2, ⟨d, e, c, q⟩, h4⟩ => ⟨S, ds, Qd, Ed, h1, h2, ⟨d, e, cpX_of c, q⟩, h4⟩, hb, hk, hm⟩
end Dt

/-! Fat8: a thing spoiled, all through, dicts too. -/
namespace Dt
open PySem L2
def scV : V → Prop
  | .non => True
  | .bl _ => True
  | .int _ => True
  | .str _ => True
  | _ => False
mutual
inductive SdX (K : PySem.W.Frag) (P : Hd) (H : Hp) : V → PyData → Prop
  | non : SdX K P H .non .none
  | bl (b : Bool) : SdX K P H (.bl b) (.bool b)
  | int (i : Int) : SdX K P H (.int i) (.int i)
  | str (x : Str) : SdX K P H (.str x) (.str x)
  | lst {a : Addr} {xs : List V} {ds : List PyData} {k : Nat} : P a → H a = some (.lst (xs ++ List.replicate k lateV)) → SdLX K P H xs ds → SdX K P H (.ref a) (.list ds)
  | tup {a : Addr} {xs : List V} {ds : List PyData} : SqT K (off P H) a xs → SdLX K P H xs ds → SdX K P H (.ref a) (.tuple ds)
  | dic {a : Addr} {kvs : List (Key × V)} {ps : List (PyData × PyData)} : P a → H a = some (.dK kvs) → (∀ p ∈ kvs, scV p.2) → isX (.dict ps) = false → SdX K P H (.ref a) (.dict ps)
inductive SdLX (K : PySem.W.Frag) (P : Hd) (H : Hp) : List V → List PyData → Prop
  | nil : SdLX K P H [] []
  | cons {v : V} {vs : List V} {d : PyData} {ds : List PyData} : SdX K P H v d → SdLX K P H vs ds → SdLX K P H (v :: vs) (d :: ds)
end
structure ChgX (P : Hd) (c : Nat) (H H' : Hp) : Prop where
  keep : ∀ b o, ¬ P b → H b = some o → H' b = some o
  grow : ∀ b xs, P b → H b = some (.lst xs) → ∃ k, k ≤ c ∧ H' b = some (.lst (xs ++ List.replicate k lateV))
  dict : ∀ b kvs, P b → H b = some (.dK kvs) → ∃ kvs' : List (Key × V), H' b = some (.dK kvs') ∧ kvs'.length ≤ kvs.length + c ∧ (∀ p ∈ kvs', p ∈ kvs ∨ scV p.2) ∧ ∀ k, (valV kvs k).isSome = true → (valV kvs' k).isSome = true
theorem ChgX.refl {P : Hd} {H : Hp} (c : Nat) : ChgX P c H H := ⟨fun _ _ _ h => h, fun b xs _ h => ⟨0, Nat.zero_le _, by simpa using h⟩, fun b kvs _ h => ⟨kvs, h, by omega, fun p hp => .inl hp, fun _ z => z⟩⟩
theorem ChgX.trans {P : Hd} {c c' : Nat} {H H1 H2 : Hp} (a : ChgX P c H H1) (b : ChgX P c' H1 H2) : ChgX P (c + c') H H2 :=
  ⟨fun x o n h => b.keep x o n (a.keep x o n h), fun x xs p h => by
    obtain ⟨k, hk, h1⟩ := a.grow x xs p h
    obtain ⟨k', hk', h2⟩ := b.grow x _ p h1
    refine ⟨k + k', by omega, ?_⟩
    rw [h2, List.append_assoc, List.replicate_append_replicate], fun x kvs p h => by
    obtain ⟨k1, h1, l1, m1, v1⟩ := a.dict x kvs p h
    obtain ⟨k2, h2, l2, m2, v2⟩ := b.dict x k1 p h1
    exact ⟨k2, h2, by omega, fun q hq => (m2 q hq).elim (m1 q) .inr, fun k z => v2 k (v1 k z)⟩⟩
theorem ChgX.le {P : Hd} {c c' : Nat} {H H1 : Hp} (a : ChgX P c H H1) (h : c ≤ c') : ChgX P c' H H1 := ⟨a.keep, fun b xs p q => by
  obtain ⟨k, hk, e⟩ := a.grow b xs p q
  exact ⟨k, by omega, e⟩, fun b kvs p q => by
  obtain ⟨k1, h1, l1, m1, v1⟩ := a.dict b kvs p q
  exact ⟨k1, h1, by omega, m1, v1⟩⟩
mutual
theorem SdX.chg {K : PySem.W.Frag} {P : Hd} {c : Nat} {H H' : Hp} (e : ChgX P c H H') : ∀ {v : V} {d : PyData}, SdX K P H v d → SdX K P H' v d
  | _, _, .non => .non
  | _, _, .bl b => .bl b
  | _, _, .int i => .int i
  | _, _, .str x => .str x
  | _, _, .lst (k := k) p h r => by
    obtain ⟨k', _, h'⟩ := e.grow _ _ p h
    rw [List.append_assoc, List.replicate_append_replicate] at h'
    exact .lst p h' (SdLX.chg e r)
  | _, _, .tup h r => .tup (seqT (fun b o z => by
      obtain ⟨n, z⟩ := off_get z
      rw [off_in n]
      exact e.keep b o n z) h) (SdLX.chg e r)
  | _, _, .dic p h r x => by
    obtain ⟨k1, h1, _, m1, _⟩ := e.dict _ _ p h
    exact .dic p h1 (fun q hq => (m1 q hq).elim (r q) id) x
theorem SdLX.chg {K : PySem.W.Frag} {P : Hd} {c : Nat} {H H' : Hp} (e : ChgX P c H H') : ∀ {vs : List V} {ds : List PyData}, SdLX K P H vs ds → SdLX K P H' vs ds
  | _, _, .nil => .nil
  | _, _, .cons h t => .cons (SdX.chg e h) (SdLX.chg e t)
end
theorem SdX.ty {K : PySem.W.Frag} {P : Hd} {H : Hp} {v : V} {d : PyData} (h : SdX K P H v d) : TyX K H v (.type (tyD d)) := by
  cases h with
  | non => exact .base .non
  | bl b => exact .base (.bl b)
  | int i => exact .base (.int i)
  | str x => exact .base (.str x)
  | lst _ h _ => exact .base (.lst h)
  | tup h _ =>
    rcases h with (h | ⟨o, h⟩) | ⟨o, its, n, h1, h2, _⟩
    · exact .base (.tup (off_same _ _ h))
    · exact .fTuple (off_same _ _ h)
    · exact .kTuple h1 h2
  | dic _ h _ _ => exact .base (.dK h)
theorem SdLX.length {K : PySem.W.Frag} {P : Hd} {H : Hp} : ∀ {vs : List V} {ds : List PyData}, SdLX K P H vs ds → vs.length = ds.length
  | _, _, .nil => rfl
  | _, _, .cons _ t => by simp [SdLX.length t]
theorem SdLX.get {K : PySem.W.Frag} {P : Hd} {H : Hp} : ∀ {vs : List V} {ds : List PyData} {i : Nat} {d : PyData}, SdLX K P H vs ds → ds[i]? = some d → ∃ v, vs[i]? = some v ∧ SdX K P H v d
  | _, _, _, _, .nil, e => by simp at e
  | _, _, 0, _, .cons h _, e => by simp at e; subst e; exact ⟨_, rfl, h⟩
  | _, _, i + 1, d, .cons _ t, e => by
    obtain ⟨v, h1, h2⟩ := SdLX.get (i := i) (d := d) t (by simpa using e)
    exact ⟨v, by simpa using h1, h2⟩
theorem SdLX.lates {K : PySem.W.Frag} {P : Hd} {H : Hp} (k : Nat) : ∀ {vs : List V} {ds : List PyData}, SdLX K P H vs ds → SdLX K P H (vs ++ List.replicate k lateV) (ds ++ List.replicate k (.str "late"))
  | _, _, .nil => by
    induction k with
    | zero => exact .nil
    | succ k ih => exact .cons (.str _) ih
  | _, _, .cons h t => .cons h (SdLX.lates k t)
mutual
def nlX : PyData → Nat
  | .list ds => nlLX ds + 1
  | .tuple ds => nlLX ds
  | .dict _ => 1
  | _ => 0
def nlLX : List PyData → Nat
  | [] => 0
  | d :: ds => nlX d + nlLX ds
end
theorem nlLX_app : ∀ (a b : List PyData), nlLX (a ++ b) = nlLX a + nlLX b
  | [], b => by show nlLX b = 0 + nlLX b; omega
  | d :: a, b => by
    show nlX d + nlLX (a ++ b) = (nlX d + nlLX a) + nlLX b
    rw [nlLX_app a b]
    omega
theorem nlLX_late (k : Nat) : nlLX (List.replicate k (.str "late")) = 0 := by
  induction k with
  | zero => rfl
  | succ k ih =>
    rw [List.replicate_succ]
    unfold nlLX
    rw [ih]
    rfl
theorem nlLX_take {ds : List PyData} {i : Nat} {d : PyData} (h : ds[i]? = some d) : nlLX (ds.take (i + 1)) = nlLX (ds.take i) + nlX d := by
  obtain ⟨hi, e⟩ := List.getElem?_eq_some_iff.mp h
  rw [List.take_succ_eq_append_getElem hi, nlLX_app, e]
  rfl
theorem nlLX_take_le (ds : List PyData) (i : Nat) : nlLX (ds.take i) ≤ nlLX ds := by
  have := nlLX_app (ds.take i) (ds.drop i)
  rw [List.take_append_drop] at this
  omega
def dptX : Nat → PyData → Bool
  | 0, _ => false
  | 1, d => isSc d
  | n + 2, .list ds => decide (ds.length ≤ 100000) && ds.all (dptX (n + 1))
  | n + 2, .tuple ds => decide (ds.length ≤ 100000) && ds.all (dptX (n + 1))
  | _ + 2, .dict _ => true
  | _ + 2, d => isSc d
def BndX (P : Hd) (m : Nat) (H : Hp) : Prop := (∀ b xs, P b → H b = some (.lst xs) → xs.length ≤ m) ∧ ∀ b (kvs : List (Key × V)), P b → H b = some (.dK kvs) → kvs.length ≤ m
def KndP (P : Hd) (H : Hp) : Prop := ∀ b, P b → (∃ xs, H b = some (.lst xs)) ∨ ∃ kvs, H b = some (.dK kvs)
theorem KndP.chg {P : Hd} {c : Nat} {H H' : Hp} (h : KndP P H) (e : ChgX P c H H') : KndP P H' := fun b p => by
  rcases h b p with ⟨xs, q⟩ | ⟨kvs, q⟩
  · obtain ⟨k, _, q'⟩ := e.grow b xs p q
    exact .inl ⟨_, q'⟩
  · obtain ⟨k, q', _⟩ := e.dict b kvs p q
    exact .inr ⟨_, q'⟩
theorem BndX.chg {P : Hd} {m c : Nat} {H H' : Hp} (h : BndX P m H) (hp : KndP P H) (e : ChgX P c H H') : BndX P (m + c) H' := by
  refine ⟨fun b xs p q => ?_, fun b kvs p q => ?_⟩
  · rcases hp b p with ⟨ys, hy⟩ | ⟨ks, hy⟩
    · obtain ⟨k, hk, h'⟩ := e.grow b ys p hy
      rw [q] at h'
      cases h'
      have := h.1 b ys p hy
      rw [List.length_append, List.length_replicate]
      omega
    · obtain ⟨k, q', _⟩ := e.dict b ks p hy
      rw [q] at q'
      cases q'
  · rcases hp b p with ⟨ys, hy⟩ | ⟨ks, hy⟩
    · obtain ⟨k, hk, h'⟩ := e.grow b ys p hy
      rw [q] at h'
      cases h'
    · obtain ⟨k, q', hl, _⟩ := e.dict b ks p hy
      rw [q] at q'
      cases q'
      have := h.2 b ks p hy
      omega
def spSpx (K : PySem.W.Frag) (n : Nat) : Sp := fun vs H Q _ => ∃ (P : Hd) (v : V) (d : PyData) (m : Nat), vs = [v] ∧ KndP P H ∧ SdX K P H v d ∧ dptX n d = true ∧ BndX P m H ∧ m + nlX d ≤ 1000000 ∧ ∀ H', ChgX P (nlX d) H H' → Q .non H'
abbrev tSpxF (K : PySem.W.Frag) (E : XK) (n : Nat) : TS := tFor (iSeq K (tCB (rLof K) (tCons (tVar 0) tNil))) (gName 1) (tDrop (tCallS (spSpx K n) (WE (Wd E)) (tCons (tVar 1) tNil)))
abbrev tSpxD (K : PySem.W.Frag) (E : XK) (n : Nat) : TS := tSeq (tFor (iSeq K (tCB rListKv (tCons (tKeys (tVar 0)) tNil))) (gName 2) (tDrop (tCallS (spSpx K n) (WE (Wd E)) (tCons (tDGet (tVar 0) (tVar 2)) tNil)))) (sDPut (tVar 0) (tC (.str "late")) (tC (.int 1)))
abbrev tSpx (K : PySem.W.Frag) (E : XK) (n : Nat) : TS :=
  tSeq (tIfS (tOr (tIsi K "list") (tIsi K "tuple")) (tSpxF K E n) tNext)
  (tSeq (tIfS (tIsi K "list") (tDrop (tBM K "list" rAppend (tVar 0) (tCons (tC (.str "late")) tNil))) tNext)
  (tIfS (tIsi K "dict") (tSpxD K E n) tNext))
theorem isi_sdX {K : PySem.W.Frag} {P : Hd} {H : Hp} {v : V} {d : PyData} {T : String} {f : PyData → Bool} {σ : St} {Q : Bool → Hp → Prop} (hs : σ[0]? = some (some v)) (h : SdX K P H v d) (hf : kitB (tyD d) T = some (f d)) (q : Q (f d) H) : tIsi K T σ H Q :=
  ⟨v, hs, v, .ty T, _, _, f d, rfl, .ty T, h.ty, kit_ty hf, f d, rfl, q⟩
theorem SdX.nx {K : PySem.W.Frag} {P : Hd} {H : Hp} {v : V} {d : PyData} (h : SdX K P H v d) : isX d = false := by
  cases h with
  | dic _ _ _ x => exact x
  | _ => rfl
theorem KndP.free {P : Hd} {H : Hp} (hp : KndP P H) {l : Addr} (nl : H l = none) : ¬ P l := fun z => by
  rcases hp l z with ⟨xs, q⟩ | ⟨xs, q⟩ <;> (rw [q] at nl; cases nl)
theorem chgX_new {P : Hd} {H : Hp} {l : Addr} {o : HO} (nl : H l = none) : ChgX P 0 H (upd H l o) :=
  ⟨fun b o _ h => by rw [upd_ne (ne_of_none h nl)]; exact h, fun b xs p h => ⟨0, Nat.le_refl _, by rw [upd_ne (ne_of_none h nl)]; simpa using h⟩, fun b kvs p h => ⟨kvs, by rw [upd_ne (ne_of_none h nl)]; exact h, by omega, fun p hp => .inl hp, fun _ z => z⟩⟩
/-- the loop -/
theorem spx_loop {K : PySem.W.Frag} {E : XK} {n : Nat} {P : Hd} {H : Hp} {a : Addr} {ys : List V} {ds : List PyData} {m : Nat} {x1 x2 : Option V} {D : Ends} (hl : SqL K H a ys ∨ SqT K H a ys) (hp : KndP P H) (hs : SdLX K P H ys ds) (hd : ds.all (dptX n) = true) (hb : BndX P m H) (hm : m + nlLX ds ≤ 1000000)
    (k : ∀ x1 H', ChgX P (nlLX ds) H H' → D.nx [some (.ref a), x1, x2] H') : tSpxF K E n D [some (.ref a), x1, x2] H := by
  refine ⟨.ref a, rfl, a, ys, rfl, hl, fun l nl => ⟨l, rfl, .inl ⟨⟨ys, .of upd_same⟩, ?_⟩⟩⟩
  have npl : ¬ P l := hp.free nl
  have c0 : ChgX P 0 H (upd H l (.lst ys)) := chgX_new nl
  have len := hs.length
  refine ⟨fun i mm σ' H' => mm = ys.length - i ∧ i ≤ ys.length ∧ ∃ x1, σ' = [some (.ref a), x1, x2] ∧ ChgX P (nlLX (ds.take i)) H H' ∧ H' l = some (.lst ys), ⟨ys.length, rfl, Nat.zero_le _, x1, rfl, c0.le (Nat.zero_le _), upd_same⟩, ?_⟩
  rintro i mm σ' H' ⟨rfl, hi, x1, rfl, hc, hL⟩
  by_cases hlt : i < ys.length
  · right
    have hd1 : ds[i]? = some ds[i] := List.getElem?_eq_getElem (by omega)
    obtain ⟨y, hy, sy⟩ := (hs.chg hc).get hd1
    refine ⟨⟨ys, y, .of hL, hy⟩, fun σ'' H'' => ∃ x1, σ'' = [some (.ref a), x1, x2] ∧ ChgX P (nlLX (ds.take (i + 1))) H H'' ∧ H'' l = some (.lst ys), ?_, ?_⟩
    · rintro σ'' H'' ⟨x1, e1, e2, e3⟩
      exact ⟨ys.length - (i + 1), by omega, rfl, hlt, x1, e1, e2, e3⟩
    · rintro x H3 ⟨rfl, hx⟩
      have ex := hx ys (.of hL)
      rw [hy] at ex
      cases ex
      have tk := nlLX_take hd1
      have tle := nlLX_take_le ds (i + 1)
      refine ⟨_, rfl, P, y, ds[i], m + nlLX (ds.take i), rfl, hp.chg hc, sy, List.all_eq_true.mp hd _ (List.getElem_mem _), hb.chg hp hc, by omega, fun H4 h4 => ⟨some y, rfl, ?_, h4.keep l _ npl hL⟩⟩
      rw [tk]
      exact hc.trans h4
  · left
    have e : i = ys.length := by omega
    subst e
    rw [List.take_of_length_le (by omega)] at hc
    exact ⟨⟨ys, .of hL, Nat.le_refl _⟩, k x1 H' hc⟩
/-! dicts -/
theorem val_some {k : Key} {v : V} : ∀ {kvs : List (Key × V)}, (k, v) ∈ kvs → (valV kvs k).isSome = true
  | q :: r, h => by
    unfold valV
    rw [List.find?_cons]
    by_cases c : q.1 = k
    · rw [decide_eq_true c]; rfl
    · rw [decide_eq_false c]
      rcases List.mem_cons.mp h with z | z
      · exact absurd (by rw [← z]) c
      · exact val_some z
theorem val_mem {k : Key} {v : V} {kvs : List (Key × V)} (h : valV kvs k = some v) : ∃ k', (k', v) ∈ kvs := by
  unfold valV at h
  obtain ⟨p, hp, e⟩ := Option.map_eq_some_iff.mp h
  exact ⟨p.1, by rw [← e]; exact List.mem_of_find?_eq_some hp⟩
theorem put_mem {kvs : List (Key × V)} {k : Key} {v : V} {p : Key × V} (h : p ∈ putK kvs k v) : p ∈ kvs ∨ p.2 = v := by
  unfold putK at h
  split at h
  · obtain ⟨q, hq, rfl⟩ := List.mem_map.mp h
    by_cases c : q.1 = k
    · rw [if_pos c]; exact .inr rfl
    · rw [if_neg c]; exact .inl hq
  · rcases List.mem_append.mp h with z | z
    · exact .inl z
    · rw [List.mem_singleton.mp z]; exact .inr rfl
theorem put_le (kvs : List (Key × V)) (k : Key) (v : V) : (putK kvs k v).length ≤ kvs.length + 1 := by
  unfold putK
  split
  · rw [List.length_map]; omega
  · rw [List.length_append]; exact Nat.le_refl _
theorem some_mem {kvs : List (Key × V)} {k : Key} (h : (valV kvs k).isSome = true) : ∃ v, (k, v) ∈ kvs := by
  obtain ⟨v, e⟩ := Option.isSome_iff_exists.mp h
  unfold valV at e
  obtain ⟨p, hp, e2⟩ := Option.map_eq_some_iff.mp e
  have h1 := List.mem_of_find?_eq_some hp
  have h2 : p.1 = k := by
    have := List.find?_some (p := fun kv : Key × V => decide (kv.1 = k)) hp
    exact of_decide_eq_true this
  exact ⟨p.2, by rw [← h2]; exact h1⟩
theorem put_some {kvs : List (Key × V)} {k k' : Key} {v : V} (h : (valV kvs k').isSome = true) : (valV (putK kvs k v) k').isSome = true := by
  obtain ⟨u, hu⟩ := some_mem h
  unfold putK
  split
  · by_cases c : k' = k
    · exact val_some (v := v) (List.mem_map.mpr ⟨(k', u), hu, by rw [if_pos c]⟩)
    · exact val_some (v := u) (List.mem_map.mpr ⟨(k', u), hu, by rw [if_neg c]⟩)
  · exact val_some (List.mem_append.mpr (.inl hu))
theorem sc_sd {K : PySem.W.Frag} {P : Hd} {H : Hp} {v : V} (h : scV v) : ∃ d, SdX K P H v d ∧ isSc d = true ∧ nlX d = 0 := by
  cases v with
  | non => exact ⟨_, .non, rfl, rfl⟩
  | bl b => exact ⟨_, .bl b, rfl, rfl⟩
  | int i => exact ⟨_, .int i, rfl, rfl⟩
  | str x => exact ⟨_, .str x, rfl, rfl⟩
  | _ => exact h.elim
theorem spx_dict {K : PySem.W.Frag} {E : XK} {n : Nat} {P : Hd} {H : Hp} {a : Addr} {kvs : List (Key × V)} {m : Nat} {x1 x2 : Option V} {D : Ends} (pa : P a) (ha : H a = some (.dK kvs)) (hs : ∀ p ∈ kvs, scV p.2) (hp : KndP P H) (hb : BndX P m H) (hm : m + 1 ≤ 1000000)
    (k : ∀ x2 H', ChgX P 1 H H' → D.nx [some (.ref a), x1, x2] H') : tSpxD K E (n + 1) D [some (.ref a), x1, x2] H := by
  refine ⟨.ref a, rfl, a, kvs, rfl, ha, fun p1 hp1 => ⟨p1, a, kvs, rfl, upd_same, by rw [upd_ne (ne_of_none ha hp1)]; exact ha, fun l nl => ⟨l, rfl, .inl ⟨⟨_, .of upd_same⟩, ?_⟩⟩⟩⟩
  have c0 : ChgX P 0 H (upd H p1 (KvO a p1)) := chgX_new hp1
  have c1 : ChgX P 0 (upd H p1 (KvO a p1)) (upd (upd H p1 (KvO a p1)) l (.lst (kvs.map fun kv => kV kv.1))) := chgX_new nl
  have npl : ¬ P l := (hp.chg c0).free nl
  refine ⟨fun i mm σ' H' => mm = kvs.length - i ∧ i ≤ kvs.length ∧ ∃ x2, σ' = [some (.ref a), x1, x2] ∧ ChgX P 0 H H' ∧ H' l = some (.lst (kvs.map fun kv => kV kv.1)), ⟨kvs.length, rfl, Nat.zero_le _, x2, rfl, c0.trans c1, upd_same⟩, ?_⟩
  rintro i mm σ' H' ⟨rfl, hi, x2, rfl, hc, hL⟩
  by_cases hlt : i < kvs.length
  · right
    have hk : (kvs.map fun kv => kV kv.1)[i]? = some (kV kvs[i].1) := by rw [List.getElem?_map, List.getElem?_eq_getElem hlt]; rfl
    refine ⟨⟨_, _, .of hL, hk⟩, fun σ'' H'' => ∃ x2, σ'' = [some (.ref a), x1, x2] ∧ ChgX P 0 H H'' ∧ H'' l = some (.lst (kvs.map fun kv => kV kv.1)), ?_, ?_⟩
    · rintro σ'' H'' ⟨x2, e1, e2, e3⟩
      exact ⟨kvs.length - (i + 1), by omega, rfl, hlt, x2, e1, e2, e3⟩
    · rintro x H3 ⟨rfl, hx⟩
      have ex := hx _ (.of hL)
      rw [hk] at ex
      cases ex
      obtain ⟨kvs', h', l', m', v'⟩ := hc.dict a kvs pa ha
      obtain ⟨v, ev⟩ := Option.isSome_iff_exists.mp (v' kvs[i].1 (val_some (v := kvs[i].2) (List.getElem_mem hlt)))
      obtain ⟨k2, hk2⟩ := val_mem ev
      have sv : scV v := (m' _ hk2).elim (fun z => hs _ z) id
      obtain ⟨d, sd, isc, nd⟩ := sc_sd (K := K) (P := P) (H := H3) sv
      refine ⟨.ref a, rfl, _, rfl, a, v, rfl, by rw [← ev]; exact DGet.k h', P, v, d, m, rfl, hp.chg hc, sd, by cases n <;> (cases d <;> first | rfl | cases isc), by have := hb.chg hp hc; simpa using this, by omega, fun H4 h4 => ⟨_, rfl, ?_, h4.keep l _ npl hL⟩⟩
      rw [nd] at h4
      exact hc.trans h4
  · left
    have e : i = kvs.length := by omega
    subst e
    refine ⟨⟨_, .of hL, by rw [List.length_map]; exact Nat.le_refl _⟩, ?_⟩
    obtain ⟨kvs', h', l', m', v'⟩ := hc.dict a kvs pa ha
    have bl := hb.2 a kvs pa ha
    refine ⟨.ref a, rfl, a, _, rfl, DPut.k (k := .inr "late") h' (by rw [sizeLine_eq]; omega), ?_⟩
    refine k x2 _ ⟨fun b o nb hbo => ?_, fun b xs pb hbs => ?_, fun b ks pb hbs => ?_⟩
    · have : b ≠ a := by rintro rfl; exact nb pa
      rw [upd_ne this]
      exact hc.keep b o nb hbo
    · have : b ≠ a := by rintro rfl; rw [ha] at hbs; cases hbs
      obtain ⟨k2, hk2, h2⟩ := hc.grow b xs pb hbs
      exact ⟨k2, by omega, by rw [upd_ne this]; exact h2⟩
    · by_cases c : b = a
      · subst c
        rw [ha] at hbs
        cases hbs
        refine ⟨_, upd_same, ?_, fun p hpp => ?_, fun k z => put_some (v' k z)⟩
        · have := put_le kvs' (.inr "late") (.int 1)
          omega
        · rcases put_mem hpp with z | z
          · exact m' p z
          · exact .inr (by rw [z]; trivial)
      · obtain ⟨k1, h1, l1, m1, v1⟩ := hc.dict b ks pb hbs
        exact ⟨k1, by rw [upd_ne c]; exact h1, by omega, m1, v1⟩
theorem spx_rd {K : PySem.W.Frag} {E E' : XK} {n : Nat} {vs : List V} {H : Hp} {Q : VK} (h : spSpx K (n + 1) vs H Q E') : tSpx K E n { nx := fun _ H' => Q .non H', rt := Q } (L2.start ["thing", "one", "name"] vs) H := by
  obtain ⟨P, v, d, m, rfl, hp, sd, hd, hb, hm, q⟩ := h
  show tSpx K E n _ [some v, none, none] H
  have sc : (isSc d = true) → tSpx K E n { nx := fun _ H' => Q .non H', rt := Q } [some v, none, none] H := fun z => by
    have l0 : isLst d = false := by cases d <;> first | rfl | cases z
    have t0 : isTup d = false := by cases d <;> first | rfl | cases z
    have d0 : isDct d = false := by cases d <;> first | rfl | cases z
    refine isi_sdX rfl sd (kit_lst d sd.nx) ?_
    rw [l0]
    refine isi_sdX rfl sd (kit_tup d sd.nx) ?_
    rw [t0]
    refine isi_sdX rfl sd (kit_lst d sd.nx) ?_
    rw [l0]
    refine isi_sdX rfl sd (kit_dct d sd.nx) ?_
    rw [d0]
    exact q H (.refl _)
  cases n with
  | zero => exact sc hd
  | succ n =>
    cases sd with
    | non => exact sc rfl
    | bl b => exact sc rfl
    | int i => exact sc rfl
    | str x => exact sc rfl
    | @dic a kvs ps pa ha hs xx =>
      have sd : SdX K P H (.ref a) (.dict ps) := .dic pa ha hs xx
      have hm : m + 1 ≤ 1000000 := hm
      refine isi_sdX rfl sd (kit_lst _ sd.nx) ?_
      refine isi_sdX rfl sd (kit_tup _ sd.nx) ?_
      refine isi_sdX rfl sd (kit_lst _ sd.nx) ?_
      refine isi_sdX rfl sd (kit_dct _ sd.nx) ?_
      rw [show isDct (.dict ps) = true by
        cases ps with
        | nil => rfl
        | cons p r =>
          obtain ⟨k0, d0⟩ := p
          cases k0 <;> first | rfl | cases xx]
      exact spx_dict (m := m) pa ha hs hp hb hm fun x2 H' hc => q H' hc
    | @tup a xs ds ht hs =>
      have hd : (decide (ds.length ≤ 100000) && ds.all (dptX (n + 1))) = true := hd
      rw [Bool.and_eq_true] at hd
      have sd : SdX K P H (.ref a) (.tuple ds) := .tup ht hs
      refine isi_sdX rfl sd (kit_lst _ sd.nx) ?_
      refine isi_sdX rfl sd (kit_tup _ sd.nx) ?_
      refine spx_loop (ds := ds) (m := m) (.inr (seqT off_same ht)) hp hs hd.2 hb hm fun x1 H' hc => ?_
      have sd' := sd.chg hc
      refine isi_sdX rfl sd' (kit_lst _ sd'.nx) ?_
      refine isi_sdX rfl sd' (kit_dct _ sd'.nx) ?_
      exact q H' hc
    | @lst a xs ds k pa ha hs =>
      have hd : (decide (ds.length ≤ 100000) && ds.all (dptX (n + 1))) = true := hd
      rw [Bool.and_eq_true] at hd
      have sd : SdX K P H (.ref a) (.list ds) := .lst pa ha hs
      have e1 : nlLX (ds ++ List.replicate k (.str "late")) = nlLX ds := by rw [nlLX_app, nlLX_late]; rfl
      have hm : m + (nlLX ds + 1) ≤ 1000000 := hm
      refine isi_sdX rfl sd (kit_lst _ sd.nx) ?_
      refine spx_loop (ds := ds ++ List.replicate k (.str "late")) (m := m) (.inl (.of ha)) hp (hs.lates k) ?_ hb (by rw [e1]; omega) fun x1 H' hc => ?_
      · rw [List.all_append, hd.2, Bool.true_and, List.all_eq_true]
        intro y hy
        rw [(List.mem_replicate.mp hy).2]
        cases n <;> rfl
      rw [e1] at hc
      have sd' := sd.chg hc
      refine isi_sdX rfl sd' (kit_lst _ sd'.nx) ?_
      obtain ⟨k', hk', ha'⟩ := hc.grow _ _ pa ha
      have bl := hb.1 a _ pa ha
      refine ⟨_, rfl, .inl ⟨rfl, _, .of ha'⟩, a, _, lateV, rfl, rfl, ha', ?_, ?_⟩
      · rw [List.length_append, List.length_replicate, sizeLine_eq]
        omega
      have hc2 : ChgX P (nlLX ds + 1) H (upd H' a (.lst ((xs ++ List.replicate k lateV ++ List.replicate k' lateV) ++ [lateV]))) := by
        refine ⟨fun b o nb hbo => ?_, fun b ys pb hbs => ?_, fun b ks pb hbs => ?_⟩
        · have : b ≠ a := by rintro rfl; exact nb pa
          rw [upd_ne this]
          exact hc.keep b o nb hbo
        · by_cases e : b = a
          · subst e
            rw [ha] at hbs
            cases hbs
            refine ⟨k' + 1, by omega, ?_⟩
            rw [upd_same, List.replicate_succ', List.append_assoc, List.append_assoc]
          · obtain ⟨k2, hk2, h2⟩ := hc.grow b ys pb hbs
            exact ⟨k2, by omega, by rw [upd_ne e]; exact h2⟩
        · have : b ≠ a := by rintro rfl; rw [ha] at hbs; cases hbs
          obtain ⟨k1, h1, l1, m1, v1⟩ := hc.dict b ks pb hbs
          exact ⟨k1, by rw [upd_ne this]; exact h1, by omega, m1, v1⟩
      have sd2 := sd.chg hc2
      refine isi_sdX rfl sd2 (kit_dct _ sd2.nx) ?_
      exact q _ hc2
end Dt

/-! Fat9: lists compared in which a dict stands; benches kept. -/
namespace Dt
open PySem L2
/-! ### without dicts -/
mutual
theorem sdX_of {K : PySem.W.Frag} {P : Hd} {H : Hp} : ∀ {v : V} {d : PyData}, Sd K P H v d → SdX K P H v d
  | _, _, .non => .non
  | _, _, .bl b => .bl b
  | _, _, .int i => .int i
  | _, _, .str x => .str x
  | _, _, .lst p h r => .lst p h (sdLX_of r)
  | _, _, .tup h r => .tup h (sdLX_of r)
theorem sdLX_of {K : PySem.W.Frag} {P : Hd} {H : Hp} : ∀ {vs : List V} {ds : List PyData}, SdL K P H vs ds → SdLX K P H vs ds
  | _, _, .nil => .nil
  | _, _, .cons h t => .cons (sdX_of h) (sdLX_of t)
end
mutual
theorem nlX_sd {K : PySem.W.Frag} {P : Hd} {H : Hp} : ∀ {v : V} {d : PyData}, Sd K P H v d → nlX d = nlD d
  | _, _, .non => rfl
  | _, _, .bl b => rfl
  | _, _, .int i => rfl
  | _, _, .str x => rfl
  | _, _, .lst _ _ r => congrArg (· + 1) (nlLX_sd r)
  | _, _, .tup _ r => nlLX_sd r
theorem nlLX_sd {K : PySem.W.Frag} {P : Hd} {H : Hp} : ∀ {vs : List V} {ds : List PyData}, SdL K P H vs ds → nlLX ds = nlL ds
  | _, _, .nil => rfl
  | _, _, .cons (d := d) (ds := ds) h t => by
    show nlX d + nlLX ds = nlD d + nlL ds
    rw [nlX_sd h, nlLX_sd t]
end
theorem dptX_of : ∀ (n : Nat) (d : PyData), dpt n d = true → dptX n d = true
  | 0, _, h => h
  | 1, _, h => h
  | n + 2, .list ds, h => by
    have h : (decide (ds.length ≤ 100000) && ds.all (dpt (n + 1))) = true := h
    rw [Bool.and_eq_true] at h
    show (decide (ds.length ≤ 100000) && ds.all (dptX (n + 1))) = true
    rw [h.1, Bool.true_and, List.all_eq_true]
    exact fun x hx => dptX_of (n + 1) x (List.all_eq_true.mp h.2 x hx)
  | n + 2, .tuple ds, h => by
    have h : (decide (ds.length ≤ 100000) && ds.all (dpt (n + 1))) = true := h
    rw [Bool.and_eq_true] at h
    show (decide (ds.length ≤ 100000) && ds.all (dptX (n + 1))) = true
    rw [h.1, Bool.true_and, List.all_eq_true]
    exact fun x hx => dptX_of (n + 1) x (List.all_eq_true.mp h.2 x hx)
  | n + 2, .dict _, h => rfl
  | n + 2, .none, h => rfl
  | n + 2, .bool _, h => rfl
  | n + 2, .int _, h => rfl
  | n + 2, .str _, h => rfl
theorem spl_of {P0 : Program} {w : World} {K : PySem.W.Frag} {mg : Str → Option Value} {base : Heap} {x : Str} {k : Nat} {ps : List Str} {n : Nat} (h : Fok P0 w K mg base x k ps (spSpx K n)) : Fok P0 w K mg base x k ps (spSpl K n) := by
  obtain ⟨fd, F, hb, hk, hm⟩ := h
  refine ⟨fd, F.imp fun vs H Q E ⟨P, v, d, m, e, hp, sd, hd, hbd, hm, q⟩ => ⟨P, v, d, m, e, fun b p => .inl (hp b p), sdX_of sd, dptX_of n d hd, ⟨hbd, fun b kvs p z => ?_⟩, by rw [nlX_sd sd]; exact hm, fun H' c => q H' ?_⟩, hb, hk, hm⟩
  · obtain ⟨xs, y⟩ := hp b p
    rw [z] at y
    cases y
  · rw [nlX_sd sd] at c
    exact ⟨c.keep, c.grow⟩
/-! ### compared -/
inductive EqF1 (K : PySem.W.Frag) (H : Hp) : V → V → Prop
  | dat {x y : V} {d : PyData} : Dp K H x d → Dp K H y d → SeqAt.shaped d = true → PyData.eqv d d = true → EqF1 K H x y
  | dic {a b : Addr} {ks ls : List (Key × V)} : H a = some (.dK ks) → H b = some (.dK ls) → ks.length = ls.length → (∀ p ∈ ks, ∃ c, p.2 = .bl c ∧ valV ls p.1 = some (.bl c)) → EqF1 K H (.ref a) (.ref b)
inductive EqFL (K : PySem.W.Frag) (H : Hp) : List V → List V → Prop
  | nil : EqFL K H [] []
  | cons {x y : V} {xs ys : List V} : EqF1 K H x y → EqFL K H xs ys → EqFL K H (x :: xs) (y :: ys)
theorem EqFL.length {K : PySem.W.Frag} {H : Hp} : ∀ {xs ys : List V}, EqFL K H xs ys → xs.length = ys.length
  | _, _, .nil => rfl
  | _, _, .cons _ t => congrArg (· + 1) (EqFL.length t)
theorem EqFL.get {K : PySem.W.Frag} {H : Hp} : ∀ {xs ys : List V} {j : Nat} {x y : V}, EqFL K H xs ys → xs[j]? = some x → ys[j]? = some y → EqF1 K H x y
  | _, _, 0, _, _, .cons h _, e1, e2 => by cases e1; cases e2; exact h
  | _, _, j + 1, _, _, .cons _ t, e1, e2 => EqFL.get (j := j) t e1 e2
  | _, _, _, _, _, .nil, e1, _ => by simp at e1
def rEqF (K : PySem.W.Frag) : R2 := fun x y H Q => ∃ p q xs ys, x = .ref p ∧ y = .ref q ∧ H p = some (.lst xs) ∧ H q = some (.lst ys) ∧ EqFL K H xs ys ∧ Q (.bl true) H
section
variable {X : Cx}
theorem vals_get {xs : List V} {us : List Value} (r : Vals xs us) : ∀ {j : Nat} {u : Value}, us[j]? = some u → ∃ x, xs[j]? = some x ∧ RelV x u := by
  induction r with
  | nil => intro j u e; simp at e
  | cons h t ih =>
    intro j u e
    cases j with
    | zero => simp at e; subst e; exact ⟨_, rfl, h⟩
    | succ j => exact ih (by simpa using e)
theorem eqF1_tree {pins : List (Addr × Obj)} {s : Shared} {σ : St} {H : Hp} (I : Inv X pins σ H s) {x y : V} {v u : Value} (h : EqF1 X.K H x y) (rx : RelV x v) (ry : RelV y u) : PySem.W.EqTree X.prog X.w s 66 v u true := by
  cases h with
  | dat hd he sh ev =>
    obtain ⟨as, r1⟩ := Dp.reads I _ _ v hd rx
    obtain ⟨bs, r2⟩ := Dp.reads I _ _ u he ry
    refine .leaf fun A hu => ?_
    have z := SeqAt.eqAt_reads _ _ A s v u as bs r1 r2 (SeqAt.canLay_of_shaped sh) (SeqAt.canLay_of_shaped sh) (SeqAt.room_of_shaped sh (by omega))
    rw [ev] at z
    exact z
  | @dic a b ks ls ea eb hlen hp =>
    obtain rfl : v = Value.ref a := rx
    obtain rfl : u = Value.ref b := ry
    by_cases hab : a = b
    · subst hab
      exact .same
    obtain ⟨_, ya, va, ra, da⟩ := (show ObjOk X.prog X.w H s.heap a (.dK ks) from I.hok a _ ea)
    obtain ⟨_, yb, vb, rb, db⟩ := (show ObjOk X.prog X.w H s.heap b (.dK ls) from I.hok b _ eb)
    have mem : ∀ k v, (k, v) ∈ va → ∃ c, v = .bool c ∧ valueAt vb k = some (.bool c) := fun k v hm => by
      obtain ⟨j, hj, e⟩ := List.getElem_of_mem hm
      have : ∀ {ks : List (Key × V)} {va : List (Key × Value)}, KV ks va → ∀ q ∈ va, ∃ p ∈ ks, p.1 = q.1 ∧ RelV p.2 q.2 := fun r => by
        induction r with
        | nil => intro q hq; cases hq
        | cons h t ih =>
          intro q hq
          rcases List.mem_cons.mp hq with rfl | hq
          · exact ⟨_, List.mem_cons_self, h⟩
          · obtain ⟨p, hp, z⟩ := ih q hq
            exact ⟨p, List.mem_cons_of_mem _ hp, z⟩
      obtain ⟨p, hpm, e1, e2⟩ := this ra _ hm
      obtain ⟨c, ec, ev⟩ := hp p hpm
      rw [ec] at e2
      obtain ⟨w', hw, rw'⟩ := RelO.some_of (v := .bl c) (o := valueAt vb k) (by
        have z := rb.val k
        rw [show valV ls k = some (.bl c) by rw [← show p.1 = k from e1]; exact ev] at z
        exact z)
      have e3 : v = .bool c := e2
      have e4 : w' = .bool c := rw'
      rw [e4] at hw
      exact ⟨c, e3, hw⟩
    have t := PySem.W.EqTree.dicts (prog := X.prog) (w := X.w) (n := 65) (knd := mixKind X.prog X.w) (e := fun _ => true) hab ya yb da db (fun k v y hm hv => by
      obtain ⟨c, e1, e2⟩ := mem k v hm
      rw [e2] at hv
      cases hv
      rw [e1]
      exact .same)
    have e : (va.length == vb.length && va.all fun p => (valueAt vb p.1).isSome && true) = true := by
      rw [Bool.and_eq_true]
      refine ⟨?_, List.all_eq_true.mpr fun q hq => ?_⟩
      · rw [beq_iff_eq, ← ra.length, ← rb.length]
        exact hlen
      · obtain ⟨c, e1, e2⟩ := mem q.1 q.2 hq
        rw [e2]
        rfl
    rw [e] at t
    exact t
theorem op_eqF (hu : X.A.units + 67 < cLine) : OpR X (compareOp .Eq) (rEqF X.K) := by
  intro pins s σ H x y v u Q I rx ry h
  obtain ⟨p, q, xs, ys, rfl, rfl, hp, hq, hl, k⟩ := h
  obtain rfl : v = Value.ref p := rx
  obtain rfl : u = Value.ref q := ry
  obtain ⟨i1, r1, p1, _⟩ := I.list (.of hp)
  obtain ⟨i2, r2, p2, _⟩ := I.list (.of hq)
  have l1 := r1.length
  have l2 := r2.length
  have l3 := hl.length
  refine PySem.W.eq_listsT (n := 66) (e := fun _ => true) p1.isList p2.isList (by rw [List.size_toArray, List.size_toArray, ← l1, ← l2, l3]) (fun j h1 h2 => ?_) hu (fin_bl I k ?_)
  · rw [List.size_toArray] at h1 h2
    obtain ⟨x, hx, rx⟩ := vals_get r1 (List.getElem?_eq_getElem h1)
    obtain ⟨y, hy, ry⟩ := vals_get r2 (List.getElem?_eq_getElem h2)
    exact eqF1_tree I (hl.get hx hy) rx ry
  · exact (List.all_eq_true.mpr fun _ _ => rfl).symm
end
end Dt

/-! Fat10: what a bench told, changed, changes nothing in it, nor in another one. -/
namespace Dt
open PySem L2
theorem hu67 {A : Around} {k : Nat} (hr : Room k A) : A.units + 67 < cLine := by have := hr.un; omega
structure FaceD (d : PyData) (e0 e2 e3 e4 : PyData) (kps : Kps) : Prop where
  eq : d = .list [e0, eD kps, e2, e3, e4]
  s0 : SeqAt.shaped e0 = true ∧ PyData.eqv e0 e0 = true
  s2 : SeqAt.shaped e2 = true ∧ PyData.eqv e2 e2 = true
  s3 : SeqAt.shaped e3 = true ∧ PyData.eqv e3 e3 = true
  s4 : SeqAt.shaped e4 = true ∧ PyData.eqv e4 e4 = true
  nd : (kps.map (·.1)).Nodup
  bl : ∀ p ∈ kps, ∃ b, p.2 = .bool b
theorem dad_mem {K : PySem.W.Frag} {H : Hp} : ∀ {kvs : List (Key × V)} {kps : Kps}, DaD K H kvs (kps.map encK) → ∀ p ∈ kvs, ∃ q ∈ kps, q.1 = p.1 ∧ Da K H p.2 q.2
  | _, [], .nil, p, hp => by cases hp
  | _, q0 :: kps, h, p, hp => by
    obtain ⟨k0, d0⟩ := q0
    have h : DaD K H _ ((kd k0, d0) :: kps.map encK) := h
    generalize e : kd k0 = y at h
    cases h with
    | cons hv t =>
      rcases List.mem_cons.mp hp with rfl | hp
      · exact ⟨(k0, d0), List.mem_cons_self, kd_inj e, hv⟩
      · obtain ⟨q, hq, z⟩ := dad_mem t p hp
        exact ⟨q, List.mem_cons_of_mem _ hq, z⟩
theorem dad_len {K : PySem.W.Frag} {H : Hp} {kvs : List (Key × V)} {ps : List (PyData × PyData)} (h : DaD K H kvs ps) : kvs.length = ps.length := by
  have key : ∀ {kvs : List (Key × V)} {ps : List (PyData × PyData)}, DaD K H kvs ps → kvs.length = ps.length := fun {kvs ps} h => by
    induction ps generalizing kvs with
    | nil => cases h; rfl
    | cons p ps ih =>
      cases h with
      | cons _ t => simp [ih t]
  exact key h
theorem face_eq {K : PySem.W.Frag} {S : Hd} {H : Hp} {v u : V} {d e0 e2 e3 e4 : PyData} {kps : Kps} {Q : VK} (f : FaceD d e0 e2 e3 e4 kps) (hv : Da K (off S H) v d) (hu : Da K (off S H) u d) (q : Q (.bl true) H) : rEqF K v u H Q := by
  obtain ⟨rfl, s0, s2, s3, s4, nd, bl⟩ := f
  cases hv with
  | @lst p xs _ h1 h2 =>
    cases hu with
    | @lst p' ys _ g1 g2 =>
      refine ⟨p, p', xs, ys, rfl, rfl, (off_get h1).2, (off_get g1).2, ?_, q⟩
      have dd : ∀ {x y : V} {e : PyData}, Da K (off S H) x e → Da K (off S H) y e → (SeqAt.shaped e = true ∧ PyData.eqv e e = true) → EqF1 K H x y := fun a b s => .dat ((a.mono off_same).dp (SeqAt.canLay_of_shaped s.1)) ((b.mono off_same).dp (SeqAt.canLay_of_shaped s.1)) s.1 s.2
      cases h2 with
      | cons a0 h2 => cases h2 with
        | cons a1 h2 => cases h2 with
          | cons a2 h2 => cases h2 with
            | cons a3 h2 => cases h2 with
              | cons a4 h2 =>
                cases h2
                cases g2 with
                | cons b0 g2 => cases g2 with
                  | cons b1 g2 => cases g2 with
                    | cons b2 g2 => cases g2 with
                      | cons b3 g2 => cases g2 with
                        | cons b4 g2 =>
                          cases g2
                          refine .cons (dd a0 b0 s0) (.cons ?_ (.cons (dd a2 b2 s2) (.cons (dd a3 b3 s3) (.cons (dd a4 b4 s4) .nil))))
                          obtain ⟨a, ks, rfl, k1, k2⟩ := Dr.eD (S := S) (H := H) (.inl a1)
                          obtain ⟨b, ls, rfl, l1, l2⟩ := Dr.eD (S := S) (H := H) (.inl b1)
                          refine .dic k1 l1 (by rw [dad_len k2, dad_len l2]) fun p hp => ?_
                          obtain ⟨q, hq, eq, hd⟩ := dad_mem k2 p hp
                          obtain ⟨c, ec⟩ := bl q hq
                          rw [ec] at hd
                          have hpc : p.2 = .bl c := by
                            generalize p.2 = z at hd
                            cases hd
                            rfl
                          obtain ⟨w', hw, hwd⟩ := (DaD.val p.1 l2).1 q.2 (by rw [dget_lk0, ← eq]; exact lk_mem nd hq)
                          rw [ec] at hwd
                          cases hwd
                          exact ⟨c, hpc, hw⟩
mutual
theorem frX_sd {K : PySem.W.Frag} {B P : Hd} {h H : Hp} (hl : ∀ a xs, B a → h a = some (.lst xs) → xs.length ≤ 100000 → P a ∧ H a = some (.lst xs)) (hd : ∀ a (kvs : List (Key × V)), B a → h a = some (.dK kvs) → kvs.length ≤ 100000 → P a ∧ H a = some (.dK kvs)) (ht : ∀ a xs, SqT K h a xs → SqT K (off P H) a xs) : ∀ {v : V} {d : PyData} {n : Nat}, Fr K B h v d → CpX n d → SdX K P H v d
  | _, _, _, .non, _ => .non
  | _, _, _, .bl b, _ => .bl b
  | _, _, _, .int i, _ => .int i
  | _, _, _, .str x, _ => .str x
  | _, _, 0, .lst p h1 r, e => e.elim
  | _, _, n + 1, .lst (xs := xs) (ds := ds) p h1 r, e => by
    obtain ⟨e1, e2⟩ := e
    have hz := hl _ xs p h1 (by rw [r.da.length]; exact e1)
    exact .lst (k := 0) hz.1 (by rw [List.replicate_zero, List.append_nil]; exact hz.2) (frLX_sd hl hd ht r e2)
  | _, _, 0, .tup h1 r, e => e.elim
  | _, _, n + 1, .tup (ds := ds) h1 r, e => .tup (ht _ _ h1) (frLX_sd hl hd ht r e.2)
  | _, _, 0, .dic p h1 r, e => e.elim
  | _, _, n + 1, .dic (kvs := kvs) (ps := ps) p h1 r, e => by
    obtain ⟨kps, e1, e2, e3, e4, _⟩ := e
    have e1 := PyData.dict.inj e1
    subst e1
    have hz := hd _ kvs p h1 (by rw [dad_len r.da, List.length_map]; exact e4)
    refine .dic hz.1 hz.2 (fun q hq => ?_) (isX_eD kps)
    obtain ⟨q', hq', _, hda⟩ := dad_mem r.da q hq
    have := e3 q' hq'
    generalize q'.2 = y at hda this
    generalize q.2 = z at hda
    cases hda <;> first | trivial | cases this
theorem frLX_sd {K : PySem.W.Frag} {B P : Hd} {h H : Hp} (hl : ∀ a xs, B a → h a = some (.lst xs) → xs.length ≤ 100000 → P a ∧ H a = some (.lst xs)) (hd : ∀ a (kvs : List (Key × V)), B a → h a = some (.dK kvs) → kvs.length ≤ 100000 → P a ∧ H a = some (.dK kvs)) (ht : ∀ a xs, SqT K h a xs → SqT K (off P H) a xs) : ∀ {vs : List V} {ds : List PyData} {n : Nat}, FrL K B h vs ds → (∀ x ∈ ds, CpX n x) → SdLX K P H vs ds
  | _, _, _, .nil, _ => .nil
  | _, _, n, .cons h1 t, e => .cons (frX_sd hl hd ht h1 (e _ List.mem_cons_self)) (frLX_sd hl hd ht t fun x hx => e x (List.mem_cons_of_mem _ hx))
end
/-! ### two benches -/
structure FcOk (spf : VSp) (n : Nat) (r : Rs) (d : PyData) : Prop where
  ben : r.ben = true
  sp : spf r [] (fun e => e = d) (fun _ => False)
  cp : CpX n d
  dp : dptX n d = true
  nl : nlX d ≤ 100000
  fc : ∃ e0 e2 e3 e4 kps, FaceD d e0 e2 e3 e4 kps
def Sp_keptF (spf : VSp) (n : Nat) : NSp := fun As Q _ => ∃ a b r r' d d', As = [.vw a r, .vw b r'] ∧ FcOk spf n r d ∧ FcOk spf n r' d' ∧ Q (.bool true) As
abbrev tKept (K : PySem.W.Frag) (E : XK) (spf spc sps : Sp) : TS :=
  tSeq (tAsg (tCallS spc (WE (Wd E)) (tCons (tCallS spf (WE (Wd E)) (tCons (tVar 0) tNil)) tNil)) (gName 2))
  (tSeq (tAsg (tCallS spc (WE (Wd E)) (tCons (tCallS spf (WE (Wd E)) (tCons (tVar 1) tNil)) tNil)) (gName 3))
  (tSeq (tDrop (tCallS sps (WE (Wd E)) (tCons (tCallS spf (WE (Wd E)) (tCons (tVar 0) tNil)) tNil)))
  (tRet (tAndT K (tOp (rEqF K) (tCallS spf (WE (Wd E)) (tCons (tVar 0) tNil)) (tVar 2)) (tOp (rEqF K) (tCallS spf (WE (Wd E)) (tCons (tVar 1) tNil)) (tVar 3))))))
theorem kept_rd {K : PySem.W.Frag} {spf : VSp} {n : Nat} {vs : List V} {H : Hp} {Q : VK} {E E' : XK} (h : spN K (Sp_keptF spf n) vs H Q E') : tKept K E (spVP K tru spf) (spP K tru (Spx_copy n)) (spSpx K n) { nx := fun _ H' => Q .non H', rt := Q } (L2.start ["bench", "other", "due", "rest"] vs) H := by
  obtain ⟨S, T, tn, As, Qd, Ed, en, ⟨a, b, r, r', d, d', rfl, f1, f2, qt⟩, kq, _⟩ := h
  have hS := en.hid
  have hl := en.len
  rw [List.length_map] at hl
  obtain ⟨v0, v1, rfl⟩ : ∃ v0 v1, vs = [v0, v1] := by
    match vs, hl with
    | [v0, v1], _ => exact ⟨v0, v1, rfl⟩
  obtain ⟨ea, fp, ra, fa⟩ := en.rsv (i := 0) (s := .vw a r) rfl rfl
  obtain ⟨eb, fq, rb, fb⟩ := en.rsv (i := 1) (s := .vw b r') rfl rfl
  have ea2 : v0 = .ref a := by simpa using ea
  have eb2 : v1 = .ref b := by simpa using eb
  clear ea eb
  subst ea2
  subst eb2
  show tKept K E _ _ _ _ [some (.ref a), some (.ref b), none, none] H
  -- the benches stay
  have stay : ∀ {x : Addr} {y : Rs} {fx : List Addr} {H' : Hp}, RsOk K (off S H) H x y fx → Same H H' → RsOk K (off S H') H' x y fx := fun q s => q.stay (Le.off (Le.of s)) fun z hz => same_at s (q.here z hz)
  refine ⟨_, rfl, S, a, r, fp, [], [], _, _, hS, rfl, ra, f1.ben, fa, .nil, f1.sp, fun d1 v1 H1 e1 s1 hv1 ff1 => ?_, fun _ _ z => z.elim⟩
  subst e1
  refine ⟨S, [d1], _, _, hS.same s1, .cons hv1 .nil, ⟨d1, rfl, f1.cp, (rfl : d1 = d1)⟩, fun d2 v2 H2 e2 s2 hv2 ff2 => ?_, fun _ _ z => False.elim z⟩
  subst e2
  have s02 : Same H H2 := s1.trans s2
  refine ⟨_, rfl, S, b, r', fq, [], [], _, _, hS.same s02, rfl, stay rb s02, f2.ben, fb, .nil, f2.sp, fun d3 v3 H3 e3 s3 hv3 ff3 => ?_, fun _ _ z => z.elim⟩
  subst e3
  have s03 : Same H H3 := s02.trans s3
  refine ⟨S, [d3], _, _, hS.same s03, .cons hv3 .nil, ⟨d3, rfl, f2.cp, (rfl : d3 = d3)⟩, fun d4 v4 H4 e4 s4 hv4 ff4 => ?_, fun _ _ z => False.elim z⟩
  subst e4
  have s04 : Same H H4 := s03.trans s4
  refine ⟨_, rfl, S, a, r, fp, [], [], _, _, hS.same s04, rfl, stay ra s04, f1.ben, fa, .nil, f1.sp, fun d5 v5 H5 e5 s5 hv5 ff5 => ?_, fun _ _ z => z.elim⟩
  subst e5
  -- spoiled
  let P : Hd := fun x => H4 x = none ∧ ((∃ xs, H5 x = some (.lst xs) ∧ xs.length ≤ 100000) ∨ ∃ kvs : List (Key × V), H5 x = some (.dK kvs) ∧ kvs.length ≤ 100000)
  have sdf : SdX K P H5 v5 d5 := by
    refine frX_sd (fun x xs b q z => ?_) (fun x kvs b q z => ?_) (fun x xs q => ?_) (ff5 rfl) f1.cp
    · have q2 := (off_get q).2
      exact ⟨⟨b, .inl ⟨xs, q2, z⟩⟩, q2⟩
    · have q2 := (off_get q).2
      exact ⟨⟨b, .inr ⟨kvs, q2, z⟩⟩, q2⟩
    · rcases q with (q | ⟨o, q⟩) | q
      · refine .inl (.inl ?_)
        have q2 := (off_get q).2
        show off P H5 x = some (.tup xs)
        rw [off_in]
        · exact q2
        · rintro ⟨_, ⟨ys, y, _⟩ | ⟨ys, y, _⟩⟩ <;> (rw [y] at q2; cases q2)
      · refine .inl (.inr ⟨o, ?_⟩)
        have q2 := (off_get q).2
        show off P H5 x = some (.frz o (.tup xs))
        rw [off_in]
        · exact q2
        · rintro ⟨_, ⟨ys, y, _⟩ | ⟨ys, y, _⟩⟩ <;> (rw [y] at q2; cases q2)
      · exact .inr q
  refine ⟨P, v5, d5, 100000, rfl, fun x p => ?_, sdf, f1.dp, ⟨fun x xs p q => ?_, fun x kvs p q => ?_⟩, by have := f1.nl; omega, fun H6 c6 => ?_⟩
  · rcases p.2 with ⟨xs, q, _⟩ | ⟨xs, q, _⟩
    · exact .inl ⟨xs, q⟩
    · exact .inr ⟨xs, q⟩
  · rcases p.2 with ⟨ys, y, z⟩ | ⟨ys, y, z⟩
    · rw [q] at y; cases y; exact z
    · rw [q] at y; cases y
  · rcases p.2 with ⟨ys, y, z⟩ | ⟨ys, y, z⟩
    · rw [q] at y; cases y
    · rw [q] at y; cases y; exact z
  have k4 : ∀ x o, H4 x = some o → H6 x = some o := fun x o q => c6.keep x o (fun p => by rw [p.1] at q; cases q) (s5 x o q)
  let S6 : Hd := fun x => S x ∨ P x
  have hS6 : Hid S6 H6 := by
    rintro x (z | z) y
    · cases q : H x with
      | none => exact hS x z q
      | some o =>
        rw [k4 x o (s04 x o q)] at y
        cases y
    · rcases z.2 with ⟨xs, q, _⟩ | ⟨xs, q, _⟩
      · obtain ⟨kk, _, q'⟩ := c6.grow x xs z q
        rw [q'] at y
        cases y
      · obtain ⟨kk, q', _⟩ := c6.dict x xs z q
        rw [q'] at y
        cases y
  have e46 : Same (off S H4) (off S6 H6) := fun x o z => by
    obtain ⟨n1, z⟩ := off_get z
    rw [off_in (fun y => y.elim n1 fun y => by rw [y.1] at z; cases z)]
    exact k4 x o z
  have s06 : Same H H6 := fun x o z => k4 x o (s04 x o z)
  have e06 : Same (off S H) (off S6 H6) := fun x o z => e46 x o (Le.off (Le.of s04) x o z)
  have stay6 : ∀ {x : Addr} {y : Rs} {fx : List Addr} {H' : Hp}, RsOk K (off S H) H x y fx → Same H6 H' → RsOk K (off S6 H') H' x y fx := fun q s => (q.stay e06 fun z hz => same_at s06 (q.here z hz)).stay (Le.off (Le.of s)) fun z hz => same_at s (by
    intro w
    cases q2 : H z with
    | none => exact q.here z hz q2
    | some o => rw [s06 z o q2] at w; cases w)
  have due6 : Da K (off S6 H6) v2 d5 := ((hv2.mono (Le.off (Le.of s3))).mono (Le.off (Le.of s4))).mono e46
  have rest6 : Da K (off S6 H6) v4 d3 := hv4.mono e46
  obtain ⟨x0, x2, x3, x4, kp, fc⟩ := f1.fc
  obtain ⟨y0, y2, y3, y4, kq2, fc2⟩ := f2.fc
  refine ⟨_, rfl, S6, a, r, fp, [], [], _, _, hS6, rfl, stay6 ra (.refl H6), f1.ben, fun x hx => .inl (fa x hx), .nil, f1.sp, fun d7 v7 H7 e7 s7 hv7 ff7 => ?_, fun _ _ z => z.elim⟩
  subst e7
  refine ⟨_, rfl, face_eq fc hv7 (due6.mono (Le.off (Le.of s7))) ⟨true, rfl, ?_⟩⟩
  rw [if_pos rfl]
  refine ⟨_, rfl, S6, b, r', fq, [], [], _, _, hS6.same s7, rfl, stay6 rb s7, f2.ben, fun x hx => .inl (fb x hx), .nil, f2.sp, fun d8 v8 H8 e8 s8 hv8 ff8 => ?_, fun _ _ z => z.elim⟩
  subst e8
  refine ⟨_, rfl, face_eq fc2 hv8 ((rest6.mono (Le.off (Le.of s7))).mono (Le.off (Le.of s8))) ?_⟩
  exact kq _ _ _ S H8 qt (en.same ((s06.trans s7).trans s8)) (.bl true)
end Dt

/-! Siz: sizes of what is told. -/
namespace Sg
open PySem L2 Dt
/-! ### sizes -/
mutual
def lens : PyData → Bool
  | .list ds => decide (ds.length ≤ 100000) && lensL ds
  | .tuple ds => decide (ds.length ≤ 100000) && lensL ds
  | _ => true
def lensL : List PyData → Bool
  | [] => true
  | d :: ds => lens d && lensL ds
end
mutual
theorem cpy_of : ∀ (d : PyData) (k : Nat), d.canLay0 = true → d.depth ≤ k → lens d = true → cpy (k + 1) d = true ∧ dpt (k + 1) d = true
  | .none, k, _, _, _ => ⟨rfl, by cases k <;> rfl⟩
  | .bool _, k, _, _, _ => ⟨rfl, by cases k <;> rfl⟩
  | .int _, k, _, _, _ => ⟨rfl, by cases k <;> rfl⟩
  | .str _, k, _, _, _ => ⟨rfl, by cases k <;> rfl⟩
  | .dict _, k, h, _, _ => by unfold PyData.canLay0 at h; cases h
  | .list ds, 0, _, h, _ => by unfold PyData.depth at h; omega
  | .tuple ds, 0, _, h, _ => by unfold PyData.depth at h; omega
  | .list ds, k + 1, hc, hd, hl => by
    unfold PyData.canLay0 at hc
    unfold PyData.depth at hd
    unfold lens at hl
    rw [Bool.and_eq_true] at hl
    obtain ⟨a, b⟩ := cpyL_of ds k hc (by omega) hl.2
    refine ⟨?_, ?_⟩
    · show (decide (ds.length ≤ 100000) && ds.all (cpy (k + 1))) = true
      rw [hl.1, a]; rfl
    · show (decide (ds.length ≤ 100000) && ds.all (dpt (k + 1))) = true
      rw [hl.1, b]; rfl
  | .tuple ds, k + 1, hc, hd, hl => by
    unfold PyData.canLay0 at hc
    unfold PyData.depth at hd
    unfold lens at hl
    rw [Bool.and_eq_true] at hl
    obtain ⟨a, b⟩ := cpyL_of ds k hc (by omega) hl.2
    refine ⟨?_, ?_⟩
    · show (decide (ds.length ≤ 100000) && ds.all (cpy (k + 1))) = true
      rw [hl.1, a]; rfl
    · show (decide (ds.length ≤ 100000) && ds.all (dpt (k + 1))) = true
      rw [hl.1, b]; rfl
theorem cpyL_of : ∀ (ds : List PyData) (k : Nat), PyData.canLayAll0 ds = true → PyData.depthAll ds ≤ k → lensL ds = true → ds.all (cpy (k + 1)) = true ∧ ds.all (dpt (k + 1)) = true
  | [], _, _, _, _ => ⟨rfl, rfl⟩
  | d :: ds, k, hc, hd, hl => by
    unfold PyData.canLayAll0 at hc
    unfold PyData.depthAll at hd
    unfold lensL at hl
    rw [Bool.and_eq_true] at hc hl
    obtain ⟨a, b⟩ := cpy_of d k hc.1 (by omega) hl.1
    obtain ⟨a2, b2⟩ := cpyL_of ds k hc.2 (by omega) hl.2
    rw [List.all_cons, List.all_cons, a, b, a2, b2]
    exact ⟨rfl, rfl⟩
end
theorem lensL_of : ∀ {l : List PyData}, (∀ x ∈ l, lens x = true) → lensL l = true
  | [], _ => rfl
  | d :: ds, h => by
    unfold lensL
    rw [h d List.mem_cons_self, lensL_of fun x hx => h x (List.mem_cons_of_mem _ hx)]
    rfl
theorem lens_l {α : Type} {f : α → PyData} {l : List α} (hl : l.length ≤ 100000) (h : ∀ x ∈ l, lens (f x) = true) : lens (.list (l.map f)) = true := by
  unfold lens
  rw [List.length_map, decide_eq_true hl, Bool.true_and]
  exact lensL_of fun x hx => by obtain ⟨y, hy, rfl⟩ := List.mem_map.mp hx; exact h y hy
theorem lens_t {α : Type} {f : α → PyData} {l : List α} (hl : l.length ≤ 100000) (h : ∀ x ∈ l, lens (f x) = true) : lens (.tuple (l.map f)) = true := by
  unfold lens
  rw [List.length_map, decide_eq_true hl, Bool.true_and]
  exact lensL_of fun x hx => by obtain ⟨y, hy, rfl⟩ := List.mem_map.mp hx; exact h y hy
theorem lens_h (h : Hold) : lens (eH h) = true := rfl
theorem lens_w (w : Option Hold) : lens (eW w) = true := by cases w <;> rfl
theorem lens_sign {s : Sign} (h : s.length ≤ 100000) : lens (eSign s) = true := lens_t h fun w _ => lens_w w
theorem lens_row {s : List Bool} (h : s.length ≤ 100000) : lens (eRow s) = true := lens_t h fun w _ => rfl
theorem lens_rows {r : Rows} (h : r.length ≤ 100000) (h2 : ∀ x ∈ r, x.length ≤ 100000) : lens (eRows r) = true := lens_l h fun w hw => lens_row (h2 w hw)
theorem lens_ts {l : List Nat} (h : l.length ≤ 100000) : lens (eTs l) = true := lens_l h fun _ _ => rfl
/-! how many lists -/
mutual
theorem nl_noL : ∀ {d : PyData}, noL d = true → nlD d = 0
  | .none, _ => rfl
  | .bool _, _ => rfl
  | .int _, _ => rfl
  | .str _, _ => rfl
  | .list _, h => by unfold noL at h; cases h
  | .dict _, h => by unfold noL at h; cases h
  | .tuple ds, h => by unfold noL at h; exact nlL_noL h
theorem nlL_noL : ∀ {ds : List PyData}, noLs ds = true → nlL ds = 0
  | [], _ => rfl
  | d :: ds, h => by
    unfold noLs at h
    rw [Bool.and_eq_true] at h
    show nlD d + nlL ds = 0
    rw [nl_noL h.1, nlL_noL h.2]
end
theorem noL_h (h : Hold) : noL (eH h) = true := rfl
theorem noL_w (w : Option Hold) : noL (eW w) = true := by cases w <;> rfl
theorem noL_sign (s : Sign) : noL (eSign s) = true := noLs_map noL_w s
theorem noL_row (s : List Bool) : noL (eRow s) = true := noLs_map (fun _ => rfl) s
theorem all_map {α : Type} {f : α → PyData} {p : PyData → Bool} (h : ∀ x, p (f x) = true) (l : List α) : (l.map f).all p = true := List.all_eq_true.mpr fun x hx => by
  obtain ⟨y, _, rfl⟩ := List.mem_map.mp hx
  exact h y
theorem pL_map {α : Type} {f : α → PyData} (h : ∀ x, noL (f x) = true) (l : List α) : pL (.list (l.map f)) = true := all_map h l
theorem pL_ts (l : List Nat) : pL (eTs l) = true := pL_map (fun _ => rfl) l
theorem nl_map {α : Type} {f : α → PyData} (h : ∀ x, noL (f x) = true) (l : List α) : nlD (.list (l.map f)) = 1 := by
  show nlL (l.map f) + 1 = 1
  rw [nlL_noL (noLs_map h l)]
theorem nlL_map1 {α : Type} {f : α → PyData} (h : ∀ x, nlD (f x) = 1) : ∀ l : List α, nlL (l.map f) = l.length
  | [] => rfl
  | x :: l => by
    show nlD (f x) + nlL (l.map f) = l.length + 1
    rw [h x, nlL_map1 h l]
    omega
/-! ### what may be told -/
structure Rd90 (d : PyData) : Prop where
  sh : Sh 3 d
  ln : lens d = true
  nl : nlD d ≤ 1000
structure Ok90 (r : PyData) : Prop where
  c : cpy 8 r = true
  p : dpt 8 r = true
  n : nlD r ≤ 100000
  l : r.canLay0 = true
  s : SeqAt.shaped r = true
  e : PyData.eqv r r = true
theorem ok90_of {r : PyData} {k : Nat} (h : Sh k r) (hk : k ≤ 7) (hl : lens r = true) (hn : nlD r ≤ 100000) : Ok90 r := by
  obtain ⟨a, b⟩ := cpy_of r 7 h.1 (Nat.le_trans h.2 hk) hl
  exact ⟨a, b, hn, h.1, (h.up hk).ok, h.self⟩
def Fd (d : PyData) : PyData := .tuple [.str "found", d]
theorem ok_fd {d : PyData} (h : Rd90 d) : Ok90 (Fd d) := by
  refine ok90_of (k := 4) (.tup fun x hx => ?_) (by decide) ?_ ?_
  · rcases List.mem_cons.mp hx with rfl | hx
    · exact (sh_str (by decide +kernel)).up (by decide)
    · rw [List.mem_singleton.mp hx]; exact h.sh
  · show (true && (true && (lens d && true))) = true
    rw [h.ln]; rfl
  · show 0 + (nlD d + 0) ≤ _
    have := h.nl
    omega
theorem rd_noL {d : PyData} (h1 : Sh 3 d) (h2 : lens d = true) (h3 : noL d = true) : Rd90 d := ⟨h1, h2, by rw [nl_noL h3]; decide⟩
theorem rd_sign {s : Sign} (h : s.length ≤ 100000) : Rd90 (eSign s) := rd_noL ((sh_sign s).up (by decide)) (lens_sign h) (noL_sign s)
theorem rd_ts {l : List Nat} (h : l.length ≤ 100000) : Rd90 (eTs l) := ⟨(sh_ts l).up (by decide), lens_ts h, by rw [show nlD (eTs l) = 1 from nl_map (fun _ => rfl) l]; decide⟩
theorem rd_bool (b : Bool) : Rd90 (.bool b) := rd_noL ((Sh.bool b).up (by decide)) rfl rfl
theorem rd_none : Rd90 .none := rd_noL (Sh.none.up (by decide)) rfl rfl
end Sg

/-! Law91: chains and faces, over data. -/
namespace Sg
open PySem L2 Dt
/-! ### chained -/
def w_chainedF : DS := (wSq (wEx (wFn Sp_look_chain (wCons (wVar 0) (wCons (wVar 1) (wCons (wVar 2) wNil)))))
  (wRet (wLastP pLL (wFn Sp_reached (wCons (wVar 0) (wCons (wVar 1) (wCons (wVar 2) wNil)))))))
theorem m_chainedF (ds : List PyData) (Q : PyData → Prop) (E : Str → Prop) (h : Sp_chained ds Q E) : w_chainedF (startG ["rows", "signs", "gaps"] ds) (endO Q E) := by
  obtain ⟨d, x, y, rfl, h⟩ := h
  show w_chainedF [.dat d, .dat x, .dat y] _
  refine ⟨_, rfl, _, rfl, _, rfl, _, _, _, rfl, onChain_bind h fun rows m ss gs ed ex ey c q => ?_⟩
  subst ed ex ey
  refine ⟨_, rfl, _, rfl, _, rfl, rows, m, ss, gs, rfl, c, all_map (fun l => pL_ts l) _, ((List.range gs.length).map (levAt rows ss gs)).map eTs, eTs (levAt rows ss gs gs.length), ?_, q⟩
  unfold levM
  rw [List.range_succ, List.map_append, List.map_append]
  rfl
/-! ### one deed -/
theorem step_len (g : Int) (here : List Nat) (t : Nat) : (stepH g here t).length ≤ here.length + 1 := by
  unfold stepH
  split
  · split
    · rw [List.length_append]; exact Nat.le_refl _
    · show 1 ≤ _; omega
  · show 1 ≤ _; omega
theorem longL_len (g : Int) : ∀ (ts best here : List Nat), (longL g best here ts).length ≤ max best.length here.length + ts.length
  | [], best, here => by show best.length ≤ max best.length here.length + 0; omega
  | t :: ts, best, here => by
    have a := longL_len g ts (better best (stepH g here t)) (stepH g here t)
    have b := step_len g here t
    rw [better_len] at a
    show (longL g (better best (stepH g here t)) (stepH g here t) ts).length ≤ max best.length here.length + (ts.length + 1)
    omega
def R91 (rows : Rows) (ss : List Sign) (Q : PyData → Prop) : Nat → Prop
  | 0 => Q (eTs (levAt rows ss [2, 5] 2))
  | 1 => Q (eTO (witM rows ss [2, 5] (rows.length - 1)))
  | 2 => Q (eTs (longM 3 (ticksM rows (ss.getD 0 []))))
  | _ => False
def someX (rows : Rows) (ss : List Sign) : PyData := .list [eRows rows, eSigns ss, eGaps [2, 5]]
def Sp__law_one : DSp := fun ds Q _ => ∃ k rows m ss, ds = [eN k, someX rows ss] ∧ ChV rows m ss [2, 5] ∧ R91 rows ss Q k
def w__law_one : DS := (wSq (wAsg (wVar 1) (gdS 3 (gdCons (gdN 2) (gdCons (gdN 3) (gdCons (gdN 4) gdNil)))))
  (wSq (wIfS (wTst (wBin EqD (wVar 0) (wC (.int 0)))) (wRet (wP pL (wFn Sp_chained (wCons (wVar 2) (wCons (wVar 3) (wCons (wVar 4) wNil)))))) wNx)
  (wRet (wIf (wTst (wBin EqD (wVar 0) (wC (.int 1)))) (wP pL (wFn Sp_witness (wCons (wVar 2) (wCons (wVar 3) (wCons (wVar 4) (wCons (wBin SubD (wCall LenC (wCons (wVar 2) wNil)) (wC (.int 1))) wNil)))))) (wFnU Sp_longest (wCons (wVar 2) (wCons (wBin IxD (wVar 3) (wC (.int 0))) (wCons (wC (.int 3)) wNil))))))))
theorem pL_to (x : Option (List Nat)) : pL (eTO x) = true := by cases x with
  | none => rfl
  | some l => exact pL_ts l
theorem arg_rows {rows : Rows} (h : 1 ≤ rows.length) : argU (eRows rows) := by
  cases rows with
  | nil => cases h
  | cons r rs => exact .inr ⟨r.map .bool, rs.map eRow, rfl, noLs_map noL_row (r :: rs)⟩
theorem m__law_one (ds : List PyData) (Q : PyData → Prop) (E : Str → Prop) (h : Sp__law_one ds Q E) : w__law_one (startG ["kind", "some", "rows", "signs", "gaps"] ds) (endO Q E) := by
  obtain ⟨k, rows, m, ss, rfl, c, h⟩ := h
  show w__law_one [.dat (eN k), .dat (someX rows ss), .no, .no, .no] _
  have n1 := c.v.n1
  have n2 := c.v.n2
  have m2 := c.v.m2
  refine ⟨_, rfl, _, rfl, rfl, _, _, rfl, _, _, rfl, _, _, rfl, rfl, ?_⟩
  refine s_eq 0 rfl (fun e => ?_) fun c0 => ?_
  · subst e
    exact ⟨_, rfl, _, rfl, _, rfl, _, _, _, rfl, onChain_v c ⟨pL_ts _, h⟩⟩
  refine ⟨_, rfl, _, ⟨rfl, (sh_n _).ok, (Sh.int _).ok⟩, _, rfl, ?_⟩
  rw [show PyData.eqv (eN k) (.int 1) = decide (k = 1) from eqv_n k 1]
  refine iteB (fun e => ?_) fun e => ?_
  · have e := of_decide_eq_true e
    subst e
    refine ⟨_, rfl, _, rfl, _, rfl, _, rfl, _, ⟨_, _, rfl, rfl, rfl⟩, _, rfl, _, _, _, _, rfl, onChain_v c ?_⟩
    dsimp only
    rw [List.length_map, show ((rows.length : Nat) : Int) - 1 = ((rows.length - 1 : Nat) : Int) by omega]
    exact onTick_v (t := rows.length - 1) (by omega) ⟨pL_to _, h⟩
  · have e := of_decide_eq_false e
    have hk : k = 2 := by
      rcases k with _ | _ | _ | k
      · exact absurd rfl c0
      · exact absurd rfl e
      · rfl
      · exact h.elim
    subst hk
    have s0 := sign_at (k := 0) c.sm (by have := c.s1; omega)
    refine ⟨_, rfl, _, rfl, _, atI_map eSign ss 0 [] (by have := c.s1; omega), fun d hd => ?_, _, _, _, rfl, onRows_v c.v (onSign_v s0 m2 (onNum_v (by decide) (by decide) ⟨?_, h⟩))⟩
    · simp only [List.mem_cons, List.not_mem_nil, or_false] at hd
      rcases hd with rfl | rfl | rfl
      · exact arg_rows n1
      · exact .inl (noL_sign _)
      · exact .inl rfl
    · exact ⟨(longM 3 (ticksM rows (ss.getD 0 []))).map fun (i : Nat) => (i : Int), by unfold eTs; rw [List.map_map]; rfl⟩
theorem det91 {rows : Rows} {m : Nat} {ss : List Sign} (c : ChV rows m ss [2, 5]) : ∀ k : Nat, k < 3 → ∃ r, Ok90 r ∧ R91 rows ss (fun d => Fd d = r) k := by
  have n2 := c.v.n2
  intro k hk
  match k, hk with
  | 0, _ => exact ⟨_, ok_fd (rd_ts (Nat.le_trans (lev_len rows ss [2, 5] 2) (by omega))), rfl⟩
  | 1, _ =>
    refine ⟨_, ok_fd ?_, rfl⟩
    cases q : witM rows ss [2, 5] (rows.length - 1) with
    | none => exact rd_none
    | some l =>
      unfold witM at q
      split at q
      · cases q
        refine rd_ts ?_
        rw [List.length_map, List.length_range]
        decide
      · cases q
  | 2, _ =>
    refine ⟨_, ok_fd (rd_ts ?_), rfl⟩
    have a := longL_len 3 (ticksM rows (ss.getD 0 [])) [] []
    have b := ticks_len rows (ss.getD 0 [])
    have e : (longM 3 (ticksM rows (ss.getD 0 []))).length ≤ max 0 0 + (ticksM rows (ss.getD 0 [])).length := a
    omega
  | k + 3, h => omega
def Sp__law_told : DSp := Sp_toldF Sp__law_one S7.Sp__law_refusal ["BadRows", "BadSign", "BadTold", "BadNumber", "NoSign", "BadText", "Nothing"]
def Sp__law_again : DSp := Sp_againF Sp__law_told 8 8
theorem sh_signs (ss : List Sign) : Sh 2 (eSigns ss) := .list (sh_map sh_sign ss)
theorem sh_gaps (gs : List Int) : Sh 1 (eGaps gs) := .list (sh_map .int gs)
theorem sh_someX (rows : Rows) (ss : List Sign) : Sh 3 (someX rows ss) := .list fun x hx => by
  simp only [List.mem_cons, List.not_mem_nil, or_false] at hx
  rcases hx with rfl | rfl | rfl
  · exact sh_rows _
  · exact sh_signs _
  · exact (sh_gaps _).up (by decide)
theorem again_ok {rows : Rows} {m : Nat} {ss : List Sign} (c : ChV rows m ss [2, 5]) {k : Nat} (hk : k < 3) {Q : PyData → Prop} {E : Str → Prop} (q : Q (.bool true)) : Sp__law_again [eN k, someX rows ss] Q E := by
  obtain ⟨r, ok, h⟩ := det91 c k hk
  have so := sh_someX rows ss
  have m2 := c.v.m2
  have ls : lens (someX rows ss) = true := by
    show (true && (lens (eRows rows) && (lens (eSigns ss) && (lens (eGaps [2, 5]) && true)))) = true
    have n2 := c.v.n2
    have s2 := c.s2
    rw [lens_rows (by omega) fun x hx => by rw [c.v.ok x hx]; omega, show lens (eSigns ss) = true from lens_l (by omega) fun s hs => lens_sign (by rw [c.sm s hs]; omega)]
    rfl
  exact ⟨(k : Int), someX rows ss, r, rfl, (cpy_of _ 7 so.1 (Nat.le_trans so.2 (by decide)) ls).1, so.1, so.ok, so.self, ⟨⟨_, _, rfl⟩, k, rows, m, ss, rfl, c, h⟩, ok.c, ok.p, ok.n, ok.l, ok.s, ok.e, q⟩
/-! ### a bench's face -/
def faceD (m : Nat) (rows : Rows) (mk : Mks) : PyData := .list [eRows rows, eMd mk, .list ((fitM m rows mk).map eSign), eTs (unsM m rows mk), eON (askM m rows mk)]
def Sp__law_face : VSp := fun r ds Q _ => ∃ m rows mk bs ls, ds = [] ∧ Vw m rows mk bs ls r ∧ Q (faceD m rows mk)
def w__law_face : DS := (wRet (wLst (wCons (wP pL (wMV 0 Sp_seen wNil)) (wCons (wP pD (wMV 0 Sp_marks wNil)) (wCons (wP pL (wMV 0 Sp_fitting wNil)) (wCons (wP pL (wMV 0 Sp_unsure wNil)) (wCons (wN (wMV 0 Sp_ask wNil)) wNil)))))))
theorem pD_md (mk : Mks) : pD (eMd mk) = true := List.all_eq_true.mpr fun q hq => by
  obtain ⟨p, hp, rfl⟩ := List.mem_map.mp hq
  obtain ⟨x, hx, rfl⟩ := List.mem_map.mp hp
  rfl
theorem noL_on (x : Option Nat) : noL (eON x) = true := by cases x <;> rfl
theorem m__law_face (a : Addr) (r : Rs) (ds : List PyData) (Q : PyData → Prop) (E : Str → Prop) (hb : r.ben = true) (h : Sp__law_face r ds Q E) : w__law_face (startB ["bench"] (.vw a r) ds) (endO Q E) := by
  obtain ⟨m, rows, mk, bs, ls, rfl, V, q⟩ := h
  have V0 := V
  obtain ⟨rfl, n2, rok, m5, mv⟩ := V
  show w__law_face [.vw a (benS m rows mk bs ls)] _
  refine ⟨⟨a, _, ⟨_, rfl, rfl⟩, rfl⟩, a, _, ⟨⟨_, rfl, rfl⟩, rfl⟩, m, rows, mk, bs, ls, rfl, rfl, pL_map noL_row rows, ?_⟩
  refine ⟨⟨a, _, ⟨_, rfl, rfl⟩, rfl⟩, a, _, ⟨⟨_, rfl, rfl⟩, rfl⟩, m, rows, mk, bs, ls, rfl, rfl, ⟨_, mv⟩, pD_md mk, ?_⟩
  refine ⟨⟨a, _, ⟨_, rfl, rfl⟩, rfl⟩, a, _, ⟨⟨_, rfl, rfl⟩, rfl⟩, m, rows, mk, bs, ls, rfl, V0, pL_map noL_sign _, ?_⟩
  refine ⟨⟨a, _, ⟨_, rfl, rfl⟩, rfl⟩, a, _, ⟨⟨_, rfl, rfl⟩, rfl⟩, m, rows, mk, bs, ls, rfl, V0, pL_ts _, ?_⟩
  exact ⟨⟨a, _, ⟨_, rfl, rfl⟩, rfl⟩, a, _, ⟨⟨_, rfl, rfl⟩, rfl⟩, m, rows, mk, bs, ls, rfl, V0, noL_on _, lit_size rfl, q⟩
def Sp__law_is_kept : NSp := Sp_keptF Sp__law_face 8
/-! its size -/
theorem cpX_rd {d : PyData} {k : Nat} (h : Sh k d) (hk : k ≤ 5) (hl : lens d = true) : CpX 7 d ∧ dptX 7 d = true := by
  obtain ⟨a, b⟩ := cpy_of d 6 h.1 (Nat.le_trans h.2 (by omega)) hl
  exact ⟨cpX_of a, dptX_of _ _ b⟩
mutual
theorem nlX_noL : ∀ {d : PyData}, noL d = true → nlX d = 0
  | .none, _ => rfl
  | .bool _, _ => rfl
  | .int _, _ => rfl
  | .str _, _ => rfl
  | .list _, h => by unfold noL at h; cases h
  | .dict _, h => by unfold noL at h; cases h
  | .tuple ds, h => by unfold noL at h; exact nlLX_noL h
theorem nlLX_noL : ∀ {ds : List PyData}, noLs ds = true → nlLX ds = 0
  | [], _ => rfl
  | d :: ds, h => by
    unfold noLs at h
    rw [Bool.and_eq_true] at h
    show nlX d + nlLX ds = 0
    rw [nlX_noL h.1, nlLX_noL h.2]
end
theorem nlX_map {α : Type} {f : α → PyData} (h : ∀ x, noL (f x) = true) (l : List α) : nlX (.list (l.map f)) = 1 := by
  show nlLX (l.map f) + 1 = 1
  rw [nlLX_noL (noLs_map h l)]
theorem sh_on (x : Option Nat) : Sh 0 (eON x) := by cases x with
  | none => exact Sh.none
  | some t => exact sh_n t
theorem fc_ok {m : Nat} {rows : Rows} {mk : Mks} {bs ls : List PyData} {r : Rs} (V : Vw m rows mk bs ls r) : FcOk Sp__law_face 8 r (faceD m rows mk) := by
  have V0 := V
  obtain ⟨rfl, n2, rok, m5, mv⟩ := V
  have fl : (fitM m rows mk).length ≤ 3125 := Nat.le_trans (List.length_filter_le _ _) (srtA_len m5)
  have ul : (unsM m rows mk).length ≤ rows.length := Nat.le_trans (List.length_filter_le _ _) (opn_len rows mk)
  have ml := mk_len mv
  have a0 := cpX_rd (d := eRows rows) (sh_rows rows) (by decide) (lens_rows (by omega) fun x hx => by rw [rok x hx]; omega)
  have a2 := cpX_rd (d := .list ((fitM m rows mk).map eSign)) (.list (sh_map sh_sign _)) (by decide) (lens_l (by omega) fun s hs => lens_sign (by
    have := mem_allS.mp ((srtAll_perm m).mem_iff.mp (List.mem_filter.mp hs).1)
    omega))
  have a3 := cpX_rd (d := eTs (unsM m rows mk)) (sh_ts _) (by decide) (lens_ts (by omega))
  have a4 := cpX_rd (d := eON (askM m rows mk)) (sh_on _) (by decide) (by cases askM m rows mk <;> rfl)
  have a1 : CpX 7 (eMd mk) := by
    refine ⟨(kpM mk).map fun q => (q.1, .bool q.2), rfl, kp_nd mv, fun p hp => ?_, ?_, by decide⟩
    · obtain ⟨x, _, rfl⟩ := List.mem_map.mp hp
      rfl
    · unfold kpM
      rw [List.length_map, List.length_map]
      omega
  refine ⟨rfl, ⟨m, rows, mk, bs, ls, rfl, V0, rfl⟩, ⟨by show 5 ≤ 100000; decide, fun x hx => ?_⟩, ?_, ?_, eRows rows, .list ((fitM m rows mk).map eSign), eTs (unsM m rows mk), eON (askM m rows mk), (kpM mk).map fun q => (q.1, .bool q.2), rfl, ⟨(sh_rows _).ok, (sh_rows _).self⟩, ⟨(Sh.list (sh_map sh_sign _)).ok, (Sh.list (sh_map sh_sign _)).self⟩, ⟨(sh_ts _).ok, (sh_ts _).self⟩, ⟨(sh_on _).ok, (sh_on _).self⟩, kp_nd mv, fun p hp => ?_⟩
  · simp only [List.mem_cons, List.not_mem_nil, or_false] at hx
    rcases hx with rfl | rfl | rfl | rfl | rfl
    · exact a0.1
    · exact a1
    · exact a2.1
    · exact a3.1
    · exact a4.1
  · show (decide (5 ≤ 100000) && (dptX 7 (eRows rows) && (dptX 7 (eMd mk) && (dptX 7 (.list ((fitM m rows mk).map eSign)) && (dptX 7 (eTs (unsM m rows mk)) && (dptX 7 (eON (askM m rows mk)) && true)))))) = true
    rw [a0.2, a2.2, a3.2, a4.2]
    rfl
  · show (nlX (eRows rows) + (1 + (nlX (.list ((fitM m rows mk).map eSign)) + (nlX (eTs (unsM m rows mk)) + (nlX (eON (askM m rows mk)) + 0))))) + 1 ≤ _
    rw [show nlX (eRows rows) = 1 from nlX_map noL_row rows, nlX_map noL_sign, show nlX (eTs (unsM m rows mk)) = 1 from nlX_map (fun _ => rfl) _, nlX_noL (noL_on _)]
    decide
  · obtain ⟨x, _, rfl⟩ := List.mem_map.mp hp
    exact ⟨_, rfl⟩
end Sg

/-! Law91b: the law. -/
namespace Sg
open PySem L2 Dt
def w_law : DS := (wSq (wSet 2 (wBin AddD (wC (.int 1)) (wFnT 0 1 Sp__law_draw (wCons (wC (.int 2)) wNil))))
  (wSq (wSet 3 (wFnT 0 1 Sp__law_rows (wCons (wVar 2) (wCons (wC (.int 12)) wNil))))
  (wSq (wSet 4 (wLc (wRng Rng1 (wCons (wC (.int 3)) wNil)) (stAll (gdN 7) (wFnT 0 1 Sp__law_sign (wCons (wVar 2) wNil)) [7]) [7]))
  (wSq (wIfS (wTst (wBin NeD (wLc (wRng Rng1 (wCons (wC (.int 3)) wNil)) (stIf (gdN 8) (wtNot (wTru (wFn Sp__law_again (wCons (wVar 8) (wCons (wLst (wCons (wVar 3) (wCons (wVar 4) (wCons (wLst (wCons (wC (.int 2)) (wCons (wC (.int 5)) wNil))) wNil)))) wNil))))) (wVar 8) [8]) [8]) (wLst wNil))) (wRet (wC (.bool false))) wNx)
  (wSq (wNew 5 Sp___init__ (wCons (wVar 2) wNil))
  (wSq (wNew 6 Sp___init__ (wCons (wVar 2) wNil))
  (wSq (wFor (wRng Rng1 (wCons (wCall LenC (wCons (wVar 3) wNil)) wNil)) (gdN 7) (wSq (wMG 5 Sp_see (wCons (wBin IxD (wVar 3) (wVar 7)) wNil))
  (wSq (wMG 5 Sp_mark (wCons (wVar 7) (wCons (wBin EqD (wBin ModD (wVar 7) (wC (.int 2))) (wC (.int 0))) wNil)))
  (wIfS (wtOr (wtNot (wTru (wFnV [5, 6] Sp__law_is_kept))) (wtNot (wTru (wFnV [6, 5] Sp__law_is_kept)))) (wRet (wC (.bool false))) wNx))))
  (wRet (wAnd (wBin (IsBD false) (wMM 6 Sp_undo wNil) (wC (.bool false))) (wAnd (wBin EqD (wMV 6 Sp_seen wNil) (wLst wNil)) (wAnd (wBin (IsBD false) (wMM 5 Sp_undo wNil) (wC (.bool true))) (wBin EqD (wCall LenC (wCons (wMV 5 Sp_seen wNil) wNil)) (wCall LenC (wCons (wVar 3) wNil))))))))))))))
theorem take_one {rows : Rows} {t : Nat} (h : t < rows.length) : rows.take t ++ [rows.getD t []] = rows.take (t + 1) := by
  rw [List.take_succ_eq_append_getElem h, List.getD_eq_getElem?_getD, List.getElem?_eq_getElem h]
  rfl
theorem vw0 {m : Nat} (m2 : m ≤ 5) : Vw m [] [] [] [] (benS m [] [] [] []) := ⟨rfl, by show 0 ≤ _; omega, fun _ h => absurd h List.not_mem_nil, by omega, ⟨.nil, fun _ h => absurd h List.not_mem_nil⟩⟩
theorem m_law : w_law (startT ["script", "town", "many", "rows", "signs", "bench", "other", "k", "kind"] 0 []) endL := by
  show w_law [.scr, .twn 0, .no, .no, .no, .no, .no, .no, .no] endL
  refine ⟨rfl, ⟨_, rfl⟩, _, rfl, rfl, 2, rfl, by decide, by decide, fun d d0 d1 => ⟨_, rfl, ?_⟩⟩
  obtain ⟨m, hm⟩ : ∃ m : Nat, (1 : Int) + d = (m : Int) := ⟨(1 + d).toNat, by omega⟩
  rw [hm]
  have m1 : 1 ≤ m := by omega
  have m2 : m ≤ 2 := by omega
  refine ⟨rfl, ⟨_, rfl⟩, _, rfl, _, rfl, rfl, m, 12, rfl, m1, by omega, by decide, by decide, by decide, fun rows n r1 r2 rok hn => ?_⟩
  have v : RowsV rows m := ⟨r1, by omega, m1, by omega, rok⟩
  -- signs
  refine ⟨_, ⟨_, rfl, by decide, by decide, rfl⟩, ?_⟩
  rw [show rngL 0 3 = (List.range 3).map fun (i : Nat) => PyData.int (i : Int) from rngL_nat 3]
  refine ⟨lit_size rfl, rfl, ?_⟩
  refine lc_inv _ _ (fun pre acc Γ => ∃ (ss : List Sign) (N : Nat), acc = ss.map eSign ∧ ss.length = pre.length ∧ (∀ s ∈ ss, s.length = m) ∧ N ≤ 3000 + 10 * pre.length ∧ Γ = [.scr, .twn N, .dat (eN m), .dat (eRows rows), .no, .no, .no, .no, .no]) ?_ ?_ ⟨[], _, rfl, rfl, fun _ h => absurd h List.not_mem_nil, (by show n ≤ _; omega), rfl⟩
  · rintro pre x post acc Γ e ⟨ss, N, rfl, hs, hsm, hN, rfl⟩ k' hk
    have hl := prefix_lt e
    rw [List.length_range] at hl
    refine ⟨rfl, ⟨_, rfl⟩, _, rfl, _, rfl, rfl, m, rfl, by omega, by omega, fun s hs1 => ?_⟩
    refine hk _ _ ⟨ss ++ [s], N + m, ?_, ?_, ?_, ?_, rfl⟩
    · rw [List.map_append]; rfl
    · rw [List.length_append, List.length_append, hs]; rfl
    · intro s' hs'
      rcases List.mem_append.mp hs' with q | q
      · exact hsm s' q
      · rw [List.mem_singleton.mp q]; exact hs1
    · rw [List.length_append, List.length_singleton]; omega
  rintro acc Γ ⟨ss, N, rfl, hsl, hsm, hN, rfl⟩
  rw [List.length_range] at hsl hN
  have c : ChV rows m ss [2, 5] := ⟨v, by omega, by omega, hsm, by rw [hsl]; rfl, fun g hg => by
    rcases List.mem_cons.mp hg with rfl | hg
    · decide
    · rw [List.mem_singleton.mp hg]; decide⟩
  -- each twice
  refine ⟨_, ⟨_, rfl, by decide, by decide, rfl⟩, ?_⟩
  rw [show rngL 0 3 = (List.range 3).map fun (i : Nat) => PyData.int (i : Int) from rngL_nat 3]
  refine ⟨lit_size rfl, rfl, ?_⟩
  refine lc_inv _ _ (fun pre acc Γ => acc = [] ∧ Γ = [.scr, .twn N, .dat (eN m), .dat (eRows rows), .dat (eSigns ss), .no, .no, .no, .no]) ?_ ?_ ⟨rfl, rfl⟩
  · rintro pre x post acc Γ e ⟨rfl, rfl⟩ k' hk
    have hx : x < 3 := List.mem_range.mp (by rw [e]; simp)
    refine ⟨_, rfl, _, rfl, _, rfl, lit_size rfl, lit_size rfl, again_ok c hx ⟨_, rfl, ?_⟩⟩
    exact hk none _ ⟨rfl, rfl⟩
  rintro acc Γ ⟨rfl, rfl⟩
  refine ⟨Nat.zero_le _, _, ⟨rfl, sh_nil.ok, sh_nil.ok⟩, _, rfl, ?_⟩
  -- benches
  refine ⟨_, rfl, _, rfl, onNum_v (i := (m : Int)) (by omega) (by omega) fun b => ?_⟩
  rw [Int.toNat_natCast]
  refine ⟨_, rfl, _, rfl, onNum_v (i := (m : Int)) (by omega) (by omega) fun o => ?_⟩
  rw [Int.toNat_natCast]
  refine ⟨_, rfl, _, ⟨_, _, rfl, rfl, rfl⟩, _, ⟨_, rfl, by omega, by rw [List.length_map]; omega, rfl⟩, ?_⟩
  rw [List.length_map, rngL_nat]
  refine for_inv _ (List.range rows.length) (fun pre Γ => ∃ mk bs x7, MkV mk pre.length ∧ bs.length ≤ 2 * pre.length ∧ (pre = [] ∨ ∃ bs0 mk', bs = bs0 ++ [eNow (rows.take pre.length) mk']) ∧ Γ = [.scr, .twn N, .dat (eN m), .dat (eRows rows), .dat (eSigns ss), .rs b (benS m (rows.take pre.length) mk bs []), .rs o (benS m [] [] [] []), x7, .no]) ?_ ?_ ⟨[], [], _, ⟨.nil, fun _ h => absurd h List.not_mem_nil⟩, Nat.zero_le _, .inl rfl, rfl⟩
  · rintro pre t post Γ e ⟨mk, bs, x7, mv, hbs, _, rfl⟩ next hk
    obtain ⟨et, htl⟩ := prefix_rng e
    have hlr : (rows.getD t []).length = m := by
      rw [List.getD_eq_getElem?_getD, List.getElem?_eq_getElem htl]
      exact rok _ (List.getElem_mem htl)
    rw [← et] at mv hbs ⊢
    have tl : (rows.take t).length = t := by rw [List.length_take]; omega
    have tl1 : (rows.take (t + 1)).length = t + 1 := by rw [List.length_take]; omega
    refine ⟨⟨b, _, rfl, rfl⟩, _, rfl, _, rfl, _, atI_map eRow rows t [] htl, b, _, ⟨rfl, rfl⟩, rows.getD t [], m, rows.take t, mk, bs, [], rfl, rfl, hlr, by omega, by omega, by omega, ?_⟩
    rw [take_one htl]
    have V1 : Vw m (rows.take (t + 1)) mk (bs ++ [eNow (rows.take t) mk]) [] (benS m (rows.take (t + 1)) mk (bs ++ [eNow (rows.take t) mk]) []) := ⟨rfl, by omega, fun r hr => rok r (List.mem_of_mem_take hr), by omega, ⟨mv.up, fun p hp => by have := mv.lt p hp; omega⟩⟩
    refine ⟨⟨b, _, rfl, rfl⟩, _, rfl, _, rfl, _, ⟨(by show (0 : Int) < 2; decide), rfl⟩, _, ⟨rfl, (Sh.int _).ok, (Sh.int _).ok⟩, b, _, ⟨rfl, rfl⟩, t, _, m, rows.take (t + 1), mk, _, [], rfl, V1, by omega, by rw [List.length_append]; show _ + 1 < _; omega, fun out hp ho => ?_⟩
    rw [tl1] at ho
    have V2 : Vw m (rows.take (t + 1)) out (bs ++ [eNow (rows.take t) mk] ++ [eNow (rows.take (t + 1)) mk]) [] (benS m (rows.take (t + 1)) out (bs ++ [eNow (rows.take t) mk] ++ [eNow (rows.take (t + 1)) mk]) []) := ⟨rfl, by omega, fun r hr => rok r (List.mem_of_mem_take hr), by omega, by rw [tl1]; exact ho⟩
    have V0 : Vw m [] [] [] [] (benS m [] [] [] []) := vw0 (by omega)
    refine ⟨[.vw b _, .vw o _], ⟨⟨_, rfl, rfl, rfl⟩, ⟨_, rfl, rfl, rfl⟩, trivial⟩, by decide, rfl, b, o, _, _, _, _, rfl, fc_ok V2, fc_ok V0, _, rfl, ?_⟩
    refine ⟨[.vw o _, .vw b _], ⟨⟨_, rfl, rfl, rfl⟩, ⟨_, rfl, rfl, rfl⟩, trivial⟩, by decide, rfl, o, b, _, _, _, _, rfl, fc_ok V0, fc_ok V2, _, rfl, ?_⟩
    have lp : (pre ++ [t]).length = t + 1 := by rw [List.length_append, ← et]; rfl
    refine hk _ ⟨out, bs ++ [eNow (rows.take t) mk] ++ [eNow (rows.take (t + 1)) mk], .dat (.int (t : Int)), by rw [lp]; exact ho, ?_, .inr ⟨bs ++ [eNow (rows.take t) mk], mk, by rw [lp]⟩, by rw [lp]; rfl⟩
    rw [lp, List.length_append, List.length_append]
    show _ + 1 + 1 ≤ 2 * (t + 1)
    omega
  · rintro Γ ⟨mk, bs, x7, mv, hbs, hl, rfl⟩
    rw [List.length_range] at mv hbs hl ⊢
    rw [List.take_of_length_le (Nat.le_refl _)] at hl ⊢
    obtain ⟨bs0, mk', rfl⟩ : ∃ bs0 mk', bs = bs0 ++ [eNow rows mk'] := by
      rcases hl with z | z
      · have := congrArg List.length z
        rw [List.length_range] at this
        rw [this] at r1
        cases r1
      · exact z
    refine ⟨⟨o, _, rfl, rfl⟩, o, _, ⟨rfl, rfl⟩, rfl, by show (0 : Nat) < _; decide, fun _ => ?_, fun bs x z => absurd z (by show ([] : List PyData) ≠ _; simp)⟩
    refine ⟨_, ⟨false, false, rfl, rfl, rfl⟩, true, rfl, ?_⟩
    rw [if_pos rfl]
    refine ⟨⟨o, _, ⟨_, rfl, rfl⟩, rfl⟩, o, _, ⟨⟨_, rfl, rfl⟩, rfl⟩, m, [], [], _, _, rfl, rfl, Nat.zero_le _, _, ⟨rfl, sh_nil.ok, sh_nil.ok⟩, true, rfl, ?_⟩
    rw [if_pos rfl]
    refine ⟨⟨b, _, rfl, rfl⟩, b, _, ⟨rfl, rfl⟩, rfl, by show (0 : Nat) < _; decide, fun z => ?_, fun bs x z => ?_⟩
    · have z : bs0 ++ [eNow rows mk'] = [] := z
      simp at z
    · have z : bs0 ++ [eNow rows mk'] = bs ++ [x] := z
      obtain ⟨rfl, ex⟩ := List.append_inj' z rfl
      cases ex
      refine ⟨_, ⟨true, true, rfl, rfl, rfl⟩, true, rfl, ?_⟩
      rw [if_pos rfl]
      refine ⟨⟨b, _, ⟨_, rfl, rfl⟩, rfl⟩, b, _, ⟨⟨_, rfl, rfl⟩, rfl⟩, m, rows, mk', _, _, rfl, rfl, _, ⟨_, _, rfl, rfl, rfl⟩, _, rfl, _, ⟨_, _, rfl, rfl, rfl⟩, _, ⟨rfl, (Sh.int _).ok, (Sh.int _).ok⟩, ?_⟩
      rw [show ∀ i : Int, PyData.eqv (.int i) (.int i) = true from fun i => by rw [eqv_int, decide_eq_true rfl]]
      rfl
end Sg

/-! The walk: each def of the text, by its place, keeps what is said of it over data; the head. -/
namespace Lw
open PySem L2 Dt Sg
def topS (i : Nat) : Stmt := PySem.Challenge.pw_signlearn_k91_whole_again_more.main.body.getD i (.Pass ⟨0, 0, 0, 0⟩)
abbrev s_is_whole : Stmt := topS 14
abbrev s_are_levels : Stmt := topS 15
abbrev s_look_rows : Stmt := topS 16
abbrev s_look_tick : Stmt := topS 17
abbrev s_holding : Stmt := topS 18
abbrev s_is_sign : Stmt := topS 21
abbrev s_look_sign : Stmt := topS 22
abbrev s_fits : Stmt := topS 23
abbrev s_ticks_of : Stmt := topS 24
abbrev s_tells : Stmt := topS 25
abbrev s_order : Stmt := topS 26
abbrev s_look_chain : Stmt := topS 29
abbrev s_reached : Stmt := topS 30
abbrev s_chained : Stmt := topS 31
abbrev s_witness : Stmt := topS 32
abbrev s_longest : Stmt := topS 33
abbrev s_all_signs : Stmt := topS 35
abbrev s_in_order : Stmt := topS 36
abbrev s__law_cell : Stmt := topS 41
abbrev s__law_mix : Stmt := topS 42
abbrev s__law_draw : Stmt := topS 43
abbrev s__law_pick : Stmt := topS 44
abbrev s__law_refusal : Stmt := topS 45
abbrev s__law_rows : Stmt := topS 46
abbrev s__law_sign : Stmt := topS 47
abbrev s__law_copy : Stmt := topS 48
abbrev s__law_spoil : Stmt := topS 49
abbrev s__law_again : Stmt := topS 50
abbrev s__law_one : Stmt := topS 51
abbrev s__law_told : Stmt := topS 52
abbrev s__law_face : Stmt := topS 53
abbrev s__law_is_kept : Stmt := topS 54
abbrev s_law : Stmt := topS 55
def clsBody (s : Stmt) : List Stmt := match s with | .ClassDef _ _ _ b _ _ _ _ _ _ _ => b | _ => []
abbrev s___init__ : Stmt := (clsBody (topS 39)).getD 0 (.Pass ⟨0, 0, 0, 0⟩)
abbrev s_go : Stmt := (clsBody (topS 39)).getD 1 (.Pass ⟨0, 0, 0, 0⟩)
abbrev s_see : Stmt := (clsBody (topS 39)).getD 2 (.Pass ⟨0, 0, 0, 0⟩)
abbrev s_mark : Stmt := (clsBody (topS 39)).getD 3 (.Pass ⟨0, 0, 0, 0⟩)
abbrev s_undo : Stmt := (clsBody (topS 39)).getD 5 (.Pass ⟨0, 0, 0, 0⟩)
abbrev s_seen : Stmt := (clsBody (topS 39)).getD 7 (.Pass ⟨0, 0, 0, 0⟩)
abbrev s_marks : Stmt := (clsBody (topS 39)).getD 8 (.Pass ⟨0, 0, 0, 0⟩)
abbrev s_fitting : Stmt := (clsBody (topS 39)).getD 9 (.Pass ⟨0, 0, 0, 0⟩)
abbrev s_split : Stmt := (clsBody (topS 39)).getD 10 (.Pass ⟨0, 0, 0, 0⟩)
abbrev s_unsure : Stmt := (clsBody (topS 39)).getD 11 (.Pass ⟨0, 0, 0, 0⟩)
abbrev s_ask : Stmt := (clsBody (topS 39)).getD 12 (.Pass ⟨0, 0, 0, 0⟩)
structure Txt (w : World) (K : PySem.W.Frag) (mg : Str → Option Value) : Prop where
  ben : BenK K
  c_HOLDS : mg "HOLDS" = some (.ref (He.ga K "HOLDS")) ∧ ∀ H, Da K H (.ref (He.ga K "HOLDS")) g_HOLDS
  c_MOST_BENCH_LINES : ∃ t, mg "MOST_BENCH_LINES" = some (.int 3 t)
  c_MOST_CHAIN : ∃ t, mg "MOST_CHAIN" = some (.int 5 t)
  c_MOST_LINES : ∃ t, mg "MOST_LINES" = some (.int 5 t)
  c_MOST_ROWS : ∃ t, mg "MOST_ROWS" = some (.int 200 t)
  c_MOST_WITHIN : ∃ t, mg "MOST_WITHIN" = some (.int 200 t)
  g_SignError : mg "SignError" = some (.ref (He.ga K "SignError"))
  mkr : Mk K (He.ga K "Bench") (mAt K "__init__")
  g_Bench : mg "Bench" = some (.ref (He.ga K "Bench"))
  n_ValueError : mg "ValueError" = none
  n_all : mg "all" = none
  n_any : mg "any" = none
  n_bool : mg "bool" = none
  n_dict : mg "dict" = none
  n_int : mg "int" = none
  n_isinstance : mg "isinstance" = none
  n_len : mg "len" = none
  n_list : mg "list" = none
  n_max : mg "max" = none
  n_min : mg "min" = none
  n_range : mg "range" = none
  n_sorted : mg "sorted" = none
  n_str : mg "str" = none
  n_tuple : mg "tuple" = none
  u_HOLDS : GTup K mg "HOLDS" ["high", "low", "rise", "fall"]
  x_BadNumber : (PySem.W.excIn K (He.ga K "BadNumber") He.veBase "ValueError.__new__" = true ∧ PySem.W.keepIn K (.ref (He.ga K "BadNumber")) = true ∧ PySem.W.subIn K (.ref (He.ga K "BadNumber")) (.type "BaseException") = some true ∧ PySem.W.typeIn K (.ref (He.ga K "BadNumber")) = some (.type "type")) ∧ mg "BadNumber" = some (.ref (He.ga K "BadNumber"))
  x_BadRows : (PySem.W.excIn K (He.ga K "BadRows") He.veBase "ValueError.__new__" = true ∧ PySem.W.keepIn K (.ref (He.ga K "BadRows")) = true ∧ PySem.W.subIn K (.ref (He.ga K "BadRows")) (.type "BaseException") = some true ∧ PySem.W.typeIn K (.ref (He.ga K "BadRows")) = some (.type "type")) ∧ mg "BadRows" = some (.ref (He.ga K "BadRows"))
  x_BadSign : (PySem.W.excIn K (He.ga K "BadSign") He.veBase "ValueError.__new__" = true ∧ PySem.W.keepIn K (.ref (He.ga K "BadSign")) = true ∧ PySem.W.subIn K (.ref (He.ga K "BadSign")) (.type "BaseException") = some true ∧ PySem.W.typeIn K (.ref (He.ga K "BadSign")) = some (.type "type")) ∧ mg "BadSign" = some (.ref (He.ga K "BadSign"))
  x_BadText : (PySem.W.excIn K (He.ga K "BadText") He.veBase "ValueError.__new__" = true ∧ PySem.W.keepIn K (.ref (He.ga K "BadText")) = true ∧ PySem.W.subIn K (.ref (He.ga K "BadText")) (.type "BaseException") = some true ∧ PySem.W.typeIn K (.ref (He.ga K "BadText")) = some (.type "type")) ∧ mg "BadText" = some (.ref (He.ga K "BadText"))
  x_BadTold : (PySem.W.excIn K (He.ga K "BadTold") He.veBase "ValueError.__new__" = true ∧ PySem.W.keepIn K (.ref (He.ga K "BadTold")) = true ∧ PySem.W.subIn K (.ref (He.ga K "BadTold")) (.type "BaseException") = some true ∧ PySem.W.typeIn K (.ref (He.ga K "BadTold")) = some (.type "type")) ∧ mg "BadTold" = some (.ref (He.ga K "BadTold"))
  x_NoSign : (PySem.W.excIn K (He.ga K "NoSign") He.veBase "ValueError.__new__" = true ∧ PySem.W.keepIn K (.ref (He.ga K "NoSign")) = true ∧ PySem.W.subIn K (.ref (He.ga K "NoSign")) (.type "BaseException") = some true ∧ PySem.W.typeIn K (.ref (He.ga K "NoSign")) = some (.type "type")) ∧ mg "NoSign" = some (.ref (He.ga K "NoSign"))
  x_Nothing : (PySem.W.excIn K (He.ga K "Nothing") He.veBase "ValueError.__new__" = true ∧ PySem.W.keepIn K (.ref (He.ga K "Nothing")) = true ∧ PySem.W.subIn K (.ref (He.ga K "Nothing")) (.type "BaseException") = some true ∧ PySem.W.typeIn K (.ref (He.ga K "Nothing")) = some (.type "type")) ∧ mg "Nothing" = some (.ref (He.ga K "Nothing"))
  xf : XF K ["BadRows", "BadSign", "BadTold", "BadNumber", "NoSign", "BadText", "Nothing"]
  d_is_whole : DefAt K "is_whole" s_is_whole
  g_is_whole : mg "is_whole" = some (.ref (He.ga K "is_whole"))
  d_are_levels : DefAt K "are_levels" s_are_levels
  g_are_levels : mg "are_levels" = some (.ref (He.ga K "are_levels"))
  d_look_rows : DefAt K "look_rows" s_look_rows
  g_look_rows : mg "look_rows" = some (.ref (He.ga K "look_rows"))
  d_look_tick : DefAt K "look_tick" s_look_tick
  g_look_tick : mg "look_tick" = some (.ref (He.ga K "look_tick"))
  d_holding : DefAt K "holding" s_holding
  g_holding : mg "holding" = some (.ref (He.ga K "holding"))
  d_is_sign : DefAt K "is_sign" s_is_sign
  g_is_sign : mg "is_sign" = some (.ref (He.ga K "is_sign"))
  d_look_sign : DefAt K "look_sign" s_look_sign
  g_look_sign : mg "look_sign" = some (.ref (He.ga K "look_sign"))
  d_fits : DefAt K "fits" s_fits
  g_fits : mg "fits" = some (.ref (He.ga K "fits"))
  d_ticks_of : DefAt K "ticks_of" s_ticks_of
  g_ticks_of : mg "ticks_of" = some (.ref (He.ga K "ticks_of"))
  d_tells : DefAt K "tells" s_tells
  g_tells : mg "tells" = some (.ref (He.ga K "tells"))
  d_order : DefAt K "order" s_order
  g_order : mg "order" = some (.ref (He.ga K "order"))
  d_look_chain : DefAt K "look_chain" s_look_chain
  g_look_chain : mg "look_chain" = some (.ref (He.ga K "look_chain"))
  d_reached : DefAt K "reached" s_reached
  g_reached : mg "reached" = some (.ref (He.ga K "reached"))
  d_chained : DefAt K "chained" s_chained
  g_chained : mg "chained" = some (.ref (He.ga K "chained"))
  d_witness : DefAt K "witness" s_witness
  g_witness : mg "witness" = some (.ref (He.ga K "witness"))
  d_longest : DefAt K "longest" s_longest
  g_longest : mg "longest" = some (.ref (He.ga K "longest"))
  d_all_signs : DefAt K "all_signs" s_all_signs
  g_all_signs : mg "all_signs" = some (.ref (He.ga K "all_signs"))
  d_in_order : DefAt K "in_order" s_in_order
  g_in_order : mg "in_order" = some (.ref (He.ga K "in_order"))
  d__law_cell : DefAt K "_law_cell" s__law_cell
  g__law_cell : mg "_law_cell" = some (.ref (He.ga K "_law_cell"))
  d__law_mix : DefAt K "_law_mix" s__law_mix
  g__law_mix : mg "_law_mix" = some (.ref (He.ga K "_law_mix"))
  d__law_draw : DefAt K "_law_draw" s__law_draw
  g__law_draw : mg "_law_draw" = some (.ref (He.ga K "_law_draw"))
  d__law_pick : DefAt K "_law_pick" s__law_pick
  g__law_pick : mg "_law_pick" = some (.ref (He.ga K "_law_pick"))
  d__law_refusal : DefAt K "_law_refusal" s__law_refusal
  g__law_refusal : mg "_law_refusal" = some (.ref (He.ga K "_law_refusal"))
  d__law_rows : DefAt K "_law_rows" s__law_rows
  g__law_rows : mg "_law_rows" = some (.ref (He.ga K "_law_rows"))
  d__law_sign : DefAt K "_law_sign" s__law_sign
  g__law_sign : mg "_law_sign" = some (.ref (He.ga K "_law_sign"))
  d__law_copy : DefAt K "_law_copy" s__law_copy
  g__law_copy : mg "_law_copy" = some (.ref (He.ga K "_law_copy"))
  d__law_spoil : DefAt K "_law_spoil" s__law_spoil
  g__law_spoil : mg "_law_spoil" = some (.ref (He.ga K "_law_spoil"))
  d__law_again : DefAt K "_law_again" s__law_again
  g__law_again : mg "_law_again" = some (.ref (He.ga K "_law_again"))
  d__law_one : DefAt K "_law_one" s__law_one
  g__law_one : mg "_law_one" = some (.ref (He.ga K "_law_one"))
  d__law_told : DefAt K "_law_told" s__law_told
  g__law_told : mg "_law_told" = some (.ref (He.ga K "_law_told"))
  d__law_face : DefAt K "_law_face" s__law_face
  g__law_face : mg "_law_face" = some (.ref (He.ga K "_law_face"))
  d__law_is_kept : DefAt K "_law_is_kept" s__law_is_kept
  g__law_is_kept : mg "_law_is_kept" = some (.ref (He.ga K "_law_is_kept"))
  m___init__ : MAt K "__init__" "Bench.__init__" s___init__
  m_go : MAt K "go" "Bench.go" s_go
  y_go : Meth K (He.ga K "Bench") "go" (mAt K "go")
  m_see : MAt K "see" "Bench.see" s_see
  y_see : Meth K (He.ga K "Bench") "see" (mAt K "see")
  m_mark : MAt K "mark" "Bench.mark" s_mark
  y_mark : Meth K (He.ga K "Bench") "mark" (mAt K "mark")
  m_undo : MAt K "undo" "Bench.undo" s_undo
  y_undo : Meth K (He.ga K "Bench") "undo" (mAt K "undo")
  m_seen : MAt K "seen" "Bench.seen" s_seen
  y_seen : Meth K (He.ga K "Bench") "seen" (mAt K "seen")
  m_marks : MAt K "marks" "Bench.marks" s_marks
  y_marks : Meth K (He.ga K "Bench") "marks" (mAt K "marks")
  m_fitting : MAt K "fitting" "Bench.fitting" s_fitting
  y_fitting : Meth K (He.ga K "Bench") "fitting" (mAt K "fitting")
  m_split : MAt K "split" "Bench.split" s_split
  y_split : Meth K (He.ga K "Bench") "split" (mAt K "split")
  m_unsure : MAt K "unsure" "Bench.unsure" s_unsure
  y_unsure : Meth K (He.ga K "Bench") "unsure" (mAt K "unsure")
  m_ask : MAt K "ask" "Bench.ask" s_ask
  y_ask : Meth K (He.ga K "Bench") "ask" (mAt K "ask")
section
variable {P : Program} {w : World} {K : PySem.W.Frag} {mg : Str → Option Value} {base : Heap}
theorem sc_is_whole : FnScope ["thing", "low", "most"] ["thing", "low", "most"] (defScope s_is_whole) := ⟨rfl, rfl, rfl, by decide +kernel, rfl, by decide +kernel, by decide +kernel⟩
theorem f_is_whole (Tx : Txt w K mg)  : Fok P w K mg base "is_whole" 1 ["thing", "low", "most"] (spD K Sp_is_whole) :=
  fok_of (N := ["thing", "low", "most"]) Tx.d_is_whole Tx.g_is_whole (fun _ _ _ _ _ _ us hl => match us, hl with | [_, _, _], _ => rfl) sc_is_whole (by intro ds Q E h; first | (obtain ⟨_, rfl, _⟩ := h; rfl) | (obtain ⟨_, _, rfl, _⟩ := h; rfl) | (obtain ⟨_, _, _, rfl, _⟩ := h; rfl) | (obtain ⟨_, _, _, _, rfl, _⟩ := h; rfl) | (obtain ⟨_, _, _, _, _, rfl, _⟩ := h; rfl) | (obtain ⟨_, _, _, _, _, _, rfl, _⟩ := h; rfl) | (obtain ⟨_, _, _, _, _, _, _, rfl, _⟩ := h; rfl) | (obtain ⟨_, _, _, _, _, _, _, _, rfl, _⟩ := h; rfl)) w_is_whole (fun cdv A outer s H E hr =>
    (dss_one (ds_ret (de_and (de_isi kit_int (fun _ => rfl) (by decide) rfl Tx.n_isinstance (toR (de_var 0 (pv 0))) (pe_bltn (v := .ty "int") rfl Tx.n_int bt_int rfl)) (de_and (de_not (toR (de_isi kit_bool (fun _ => rfl) (by decide) rfl Tx.n_isinstance (toR (de_var 0 (pv 0))) (pe_bltn (v := .ty "bool") rfl Tx.n_bool bt_bool rfl)))) (de_one (de_chain op_le op_le ok_le ok_le (toR (de_var 1 (pv 1))) (toR (de_var 0 (pv 0))) (toR (de_var 2 (pv 2)))))))))) m_is_whole
theorem sc_are_levels : FnScope ["thing", "many", "one"] ["thing", "many"] (defScope s_are_levels) := ⟨rfl, rfl, rfl, by decide +kernel, rfl, by decide +kernel, by decide +kernel⟩
theorem f_are_levels (Tx : Txt w K mg)  : Fok P w K mg base "are_levels" 1 ["thing", "many"] (spD K Sp_are_levels) :=
  fok_of (N := ["thing", "many", "one"]) Tx.d_are_levels Tx.g_are_levels (fun _ _ _ _ _ _ us hl => match us, hl with | [_, _], _ => rfl) sc_are_levels (by intro ds Q E h; first | (obtain ⟨_, rfl, _⟩ := h; rfl) | (obtain ⟨_, _, rfl, _⟩ := h; rfl) | (obtain ⟨_, _, _, rfl, _⟩ := h; rfl) | (obtain ⟨_, _, _, _, rfl, _⟩ := h; rfl) | (obtain ⟨_, _, _, _, _, rfl, _⟩ := h; rfl) | (obtain ⟨_, _, _, _, _, _, rfl, _⟩ := h; rfl) | (obtain ⟨_, _, _, _, _, _, _, rfl, _⟩ := h; rfl) | (obtain ⟨_, _, _, _, _, _, _, _, rfl, _⟩ := h; rfl)) w_are_levels (fun cdv A outer s H E hr =>
    (dss_one (ds_ret (de_and (de_isi kit_tup (fun _ => rfl) (by decide) rfl Tx.n_isinstance (toR (de_var 0 (pv 0))) (pe_bltn (v := .ty "tuple") rfl Tx.n_tuple bt_tuple rfl)) (de_and (de_cmp (op_eqD hr.units) ok_eq (toR (de_cb call_len ok_len rfl Tx.n_len bt_len (dr_cons (toR (de_var 0 (pv 0))) dr_nil))) (toR (de_var 1 (pv 1))) (nomark _)) (de_one (de_cb (cr_all rfl) ok_all rfl Tx.n_all bt_all (dr_cons (toR (de_lc0 (own := [("one", 2)]) rfl sc_are_levels.nd (di_seq (de_var 0 (pv 0))) (blkOk_by (own := [("one", 2)]) (by first | rfl | decide +kernel)) (okg_name 2) (fun _ _ _ _ _ => (pg_name (i := 2) sc_are_levels.nd rfl (by first | exact Or.inl rfl | exact Or.inr rfl))) (fun _ _ _ _ _ => (de_isi kit_bool (fun _ => rfl) (by decide) rfl Tx.n_isinstance (toR (de_var 2 (pv 2))) (pe_bltn (v := .ty "bool") rfl Tx.n_bool bt_bool rfl))))) dr_nil)))))))) m_are_levels
theorem sc_look_rows : FnScope ["rows", "many", "row"] ["rows"] (defScope s_look_rows) := ⟨rfl, rfl, rfl, by decide +kernel, rfl, by decide +kernel, by decide +kernel⟩
theorem f_look_rows (Tx : Txt w K mg) (h_are_levels : Fok P w K mg base "are_levels" 1 ["thing", "many"] (spD K Sp_are_levels)) : Fok P w K mg base "look_rows" 2 ["rows"] (spD K Sp_look_rows) :=
  fok_of (N := ["rows", "many", "row"]) Tx.d_look_rows Tx.g_look_rows (fun _ _ _ _ _ _ us hl => match us, hl with | [_], _ => rfl) sc_look_rows (by intro ds Q E h; first | (obtain ⟨_, rfl, _⟩ := h; rfl) | (obtain ⟨_, _, rfl, _⟩ := h; rfl) | (obtain ⟨_, _, _, rfl, _⟩ := h; rfl) | (obtain ⟨_, _, _, _, rfl, _⟩ := h; rfl) | (obtain ⟨_, _, _, _, _, rfl, _⟩ := h; rfl) | (obtain ⟨_, _, _, _, _, _, rfl, _⟩ := h; rfl) | (obtain ⟨_, _, _, _, _, _, _, rfl, _⟩ := h; rfl) | (obtain ⟨_, _, _, _, _, _, _, _, rfl, _⟩ := h; rfl)) w_look_rows (fun cdv A outer s H E hr =>
    (dss_cons (ds_if (PW.pt (dt_or (dt_not (dt_tru (toR (de_isi kit_lst (fun _ => rfl) (by decide) rfl Tx.n_isinstance (toR (de_var 0 (pv 0))) (pe_bltn (v := .ty "list") rfl Tx.n_list bt_list rfl))) (by intro _; rfl))) (dt_or (dt_not (dt_chain op_le op_le ok_le ok_le (toR de_int) (toR (de_cb call_len ok_len rfl Tx.n_len bt_len (dr_cons (toR (de_var 0 (pv 0))) dr_nil))) (toR (de_gi Tx.c_MOST_ROWS)))) (dt_or1 (dt_not (dt_tru (toR (de_isi kit_tup (fun _ => rfl) (by decide) rfl Tx.n_isinstance (toR (de_ix ix_seq ok_ix (toR (de_var 0 (pv 0))) (toR de_int) (fun _ _ => rfl))) (pe_bltn (v := .ty "tuple") rfl Tx.n_tuple bt_tuple rfl))) (by intro _; rfl))))))) (dss_one (ds_raiseX rfl bTakes Tx.x_BadRows.1 Tx.x_BadRows.2 rfl)) dss_nil)
      (dss_cons (ds_set (i := 1) sc_look_rows.nd rfl (by first | exact Or.inl rfl | exact Or.inr rfl) (de_cb call_len ok_len rfl Tx.n_len bt_len (dr_cons (toR (de_ix ix_seq ok_ix (toR (de_var 0 (pv 0))) (toR de_int) (fun _ _ => rfl))) dr_nil)))
      (dss_one (ds_if (PW.pt (dt_or (dt_not (dt_chain op_le op_le ok_le ok_le (toR de_int) (toR (de_var 1 (pv 1))) (toR (de_gi Tx.c_MOST_LINES)))) (dt_or1 (dt_not (dt_tru (toR (de_cb (cr_all rfl) ok_all rfl Tx.n_all bt_all (dr_cons (toR (de_lc0 (own := [("row", 2)]) rfl sc_look_rows.nd (di_seq (de_var 0 (pv 0))) (blkOk_by (own := [("row", 2)]) (by first | rfl | decide +kernel)) (okg_name 2) (fun _ _ _ _ _ => (pg_name (i := 2) sc_look_rows.nd rfl (by first | exact Or.inl rfl | exact Or.inr rfl))) (fun _ _ _ _ _ => (de_fok h_are_levels hr (by decide) rfl takes0 (da_cons (de_var 2 (pv 2)) (da_cons (de_var 1 (pv 1)) da_nil)))))) dr_nil))) (by intro _; rfl)))))) (dss_one (ds_raiseX rfl bTakes Tx.x_BadRows.1 Tx.x_BadRows.2 rfl)) dss_nil))))) m_look_rows
theorem sc_look_tick : FnScope ["rows", "tick"] ["rows", "tick"] (defScope s_look_tick) := ⟨rfl, rfl, rfl, by decide +kernel, rfl, by decide +kernel, by decide +kernel⟩
theorem f_look_tick (Tx : Txt w K mg) (h_is_whole : Fok P w K mg base "is_whole" 1 ["thing", "low", "most"] (spD K Sp_is_whole)) : Fok P w K mg base "look_tick" 2 ["rows", "tick"] (spD K Sp_look_tick) :=
  fok_of (N := ["rows", "tick"]) Tx.d_look_tick Tx.g_look_tick (fun _ _ _ _ _ _ us hl => match us, hl with | [_, _], _ => rfl) sc_look_tick (by intro ds Q E h; first | (obtain ⟨_, rfl, _⟩ := h; rfl) | (obtain ⟨_, _, rfl, _⟩ := h; rfl) | (obtain ⟨_, _, _, rfl, _⟩ := h; rfl) | (obtain ⟨_, _, _, _, rfl, _⟩ := h; rfl) | (obtain ⟨_, _, _, _, _, rfl, _⟩ := h; rfl) | (obtain ⟨_, _, _, _, _, _, rfl, _⟩ := h; rfl) | (obtain ⟨_, _, _, _, _, _, _, rfl, _⟩ := h; rfl) | (obtain ⟨_, _, _, _, _, _, _, _, rfl, _⟩ := h; rfl)) w_look_tick (fun cdv A outer s H E hr =>
    (dss_one (ds_if (dt_not (dt_tru (toR (de_fok h_is_whole hr (by decide) rfl bTakes (da_cons (de_var 1 (pv 1)) (da_cons de_int (da_cons (de_bin op_sub ok_sub (toR (de_cb call_len ok_len rfl Tx.n_len bt_len (dr_cons (toR (de_var 0 (pv 0))) dr_nil))) (toR de_int)) da_nil))))) (by intro _; rfl))) (dss_one (ds_raiseX rfl bTakes Tx.x_BadTold.1 Tx.x_BadTold.2 rfl)) dss_nil))) m_look_tick
theorem sc_holding : FnScope ["rows", "tick", "line", "now", "found"] ["rows", "tick", "line"] (defScope s_holding) := ⟨rfl, rfl, rfl, by decide +kernel, rfl, by decide +kernel, by decide +kernel⟩
theorem fP_holding (Tx : Txt w K mg)  : Fok P w K mg base "holding" 1 ["rows", "tick", "line"] (spP K pL Sp_holding) :=
  fokP_of (N := ["rows", "tick", "line", "now", "found"]) Tx.d_holding Tx.g_holding (fun _ _ _ _ _ _ us hl => match us, hl with | [_, _, _], _ => rfl) sc_holding (by intro ds Q E h; first | (obtain ⟨_, rfl, _⟩ := h; rfl) | (obtain ⟨_, _, rfl, _⟩ := h; rfl) | (obtain ⟨_, _, _, rfl, _⟩ := h; rfl) | (obtain ⟨_, _, _, _, rfl, _⟩ := h; rfl) | (obtain ⟨_, _, _, _, _, rfl, _⟩ := h; rfl) | (obtain ⟨_, _, _, _, _, _, rfl, _⟩ := h; rfl) | (obtain ⟨_, _, _, _, _, _, _, rfl, _⟩ := h; rfl) | (obtain ⟨_, _, _, _, _, _, _, _, rfl, _⟩ := h; rfl)) w_holding (fun cdv A outer s H E hr =>
    (dss_cons (ds_set (i := 3) sc_holding.nd rfl (by first | exact Or.inl rfl | exact Or.inr rfl) (de_ix ix_seq ok_ix (toR (de_ix ix_seq ok_ix (toR (de_var 0 (pv 0))) (toR (de_var 1 (pv 1))) (fun _ _ => rfl))) (toR (de_var 2 (pv 2))) (fun _ _ => rfl)))
      (dss_cons (ds_setO (i := 4) sc_holding.nd rfl (by first | exact Or.inl rfl | exact Or.inr rfl) (df_lst (da_cons (de_if (dt_tru (toR (de_var 3 (pv 3))) (by intro _; rfl)) de_str de_str) da_nil)))
      (dss_cons (ds_if (PW.pt (dt_and (dt_cmp op_gt ok_gt (toR (de_var 1 (pv 1))) (toR de_int) (nomark _)) (dt_and1 (dt_cmp (op_neD hr.units) ok_ne (toR (de_ix ix_seq ok_ix (toR (de_ix ix_seq ok_ix (toR (de_var 0 (pv 0))) (toR (de_bin op_sub ok_sub (toR (de_var 1 (pv 1))) (toR de_int))) (fun _ _ => rfl))) (toR (de_var 2 (pv 2))) (fun _ _ => rfl))) (toR (de_var 3 (pv 3))) (nomark _))))) (dss_one (ds_app (pv 4) (de_if (dt_tru (toR (de_var 3 (pv 3))) (by intro _; rfl)) de_str de_str) (ps_expr (pe_bm PySem.F.plainAttrs_list PySem.F.slot_list_append PySem.F.type_list_append mt_append (pv 4) (pa_cons (de_if (dt_tru (toR (de_var 3 (pv 3))) (by intro _; rfl)) de_str de_str) pa_nil))))) dss_nil)
      (dss_one (ds_retO (fun _ h => h) (fun _ => rfl) (pv 4))))))) m_holding
theorem f_holding (Tx : Txt w K mg)  : Fok P w K mg base "holding" 1 ["rows", "tick", "line"] (spD K Sp_holding) := spP_D (fP_holding Tx )
theorem sc_is_sign : FnScope ["thing", "many", "one"] ["thing", "many"] (defScope s_is_sign) := ⟨rfl, rfl, rfl, by decide +kernel, rfl, by decide +kernel, by decide +kernel⟩
theorem f_is_sign (Tx : Txt w K mg)  : Fok P w K mg base "is_sign" 1 ["thing", "many"] (spD K Sp_is_sign) :=
  fok_of (N := ["thing", "many", "one"]) Tx.d_is_sign Tx.g_is_sign (fun _ _ _ _ _ _ us hl => match us, hl with | [_, _], _ => rfl) sc_is_sign (by intro ds Q E h; first | (obtain ⟨_, rfl, _⟩ := h; rfl) | (obtain ⟨_, _, rfl, _⟩ := h; rfl) | (obtain ⟨_, _, _, rfl, _⟩ := h; rfl) | (obtain ⟨_, _, _, _, rfl, _⟩ := h; rfl) | (obtain ⟨_, _, _, _, _, rfl, _⟩ := h; rfl) | (obtain ⟨_, _, _, _, _, _, rfl, _⟩ := h; rfl) | (obtain ⟨_, _, _, _, _, _, _, rfl, _⟩ := h; rfl) | (obtain ⟨_, _, _, _, _, _, _, _, rfl, _⟩ := h; rfl)) w_is_sign (fun cdv A outer s H E hr =>
    (dss_cons (ds_if (PW.pt (dt_or (dt_not (dt_tru (toR (de_isi kit_tup (fun _ => rfl) (by decide) rfl Tx.n_isinstance (toR (de_var 0 (pv 0))) (pe_bltn (v := .ty "tuple") rfl Tx.n_tuple bt_tuple rfl))) (by intro _; rfl))) (dt_or1 (dt_cmp (op_neD hr.units) ok_ne (toR (de_cb call_len ok_len rfl Tx.n_len bt_len (dr_cons (toR (de_var 0 (pv 0))) dr_nil))) (toR (de_var 1 (pv 1))) (nomark _))))) (dss_one (ds_ret de_bl)) dss_nil)
      (dss_one (ds_ret (de_cb (cr_all rfl) ok_all rfl Tx.n_all bt_all (dr_cons (toR (de_lc0 (own := [("one", 2)]) rfl sc_is_sign.nd (di_seq (de_var 0 (pv 0))) (blkOk_by (own := [("one", 2)]) (by first | rfl | decide +kernel)) (okg_name 2) (fun _ _ _ _ _ => (pg_name (i := 2) sc_is_sign.nd rfl (by first | exact Or.inl rfl | exact Or.inr rfl))) (fun _ _ _ _ _ => (de_or (de_cmp op_isN ok_isN (toR (de_var 2 (pv 2))) (toR de_non) (nomark _)) (de_one (de_and (de_isi kit_str (fun _ => rfl) (by decide) rfl Tx.n_isinstance (toR (de_var 2 (pv 2))) (pe_bltn (v := .ty "str") rfl Tx.n_str bt_str rfl)) (de_one (de_cmp (op_in2 (hu65 hr)) ok_in (toR (de_var 2 (pv 2))) (toR (de_gr Tx.c_HOLDS)) rfl)))))))) dr_nil)))))) m_is_sign
theorem sc_look_sign : FnScope ["sign", "many"] ["sign", "many"] (defScope s_look_sign) := ⟨rfl, rfl, rfl, by decide +kernel, rfl, by decide +kernel, by decide +kernel⟩
theorem f_look_sign (Tx : Txt w K mg) (h_is_sign : Fok P w K mg base "is_sign" 1 ["thing", "many"] (spD K Sp_is_sign)) : Fok P w K mg base "look_sign" 2 ["sign", "many"] (spD K Sp_look_sign) :=
  fok_of (N := ["sign", "many"]) Tx.d_look_sign Tx.g_look_sign (fun _ _ _ _ _ _ us hl => match us, hl with | [_, _], _ => rfl) sc_look_sign (by intro ds Q E h; first | (obtain ⟨_, rfl, _⟩ := h; rfl) | (obtain ⟨_, _, rfl, _⟩ := h; rfl) | (obtain ⟨_, _, _, rfl, _⟩ := h; rfl) | (obtain ⟨_, _, _, _, rfl, _⟩ := h; rfl) | (obtain ⟨_, _, _, _, _, rfl, _⟩ := h; rfl) | (obtain ⟨_, _, _, _, _, _, rfl, _⟩ := h; rfl) | (obtain ⟨_, _, _, _, _, _, _, rfl, _⟩ := h; rfl) | (obtain ⟨_, _, _, _, _, _, _, _, rfl, _⟩ := h; rfl)) w_look_sign (fun cdv A outer s H E hr =>
    (dss_one (ds_if (dt_not (dt_tru (toR (de_fok h_is_sign hr (by decide) rfl bTakes (da_cons (de_var 0 (pv 0)) (da_cons (de_var 1 (pv 1)) da_nil)))) (by intro _; rfl))) (dss_one (ds_raiseX rfl bTakes Tx.x_BadSign.1 Tx.x_BadSign.2 rfl)) dss_nil))) m_look_sign
theorem sc_fits : FnScope ["rows", "tick", "sign", "line"] ["rows", "tick", "sign"] (defScope s_fits) := ⟨rfl, rfl, rfl, by decide +kernel, rfl, by decide +kernel, by decide +kernel⟩
theorem f_fits (Tx : Txt w K mg) (h_holding : Fok P w K mg base "holding" 1 ["rows", "tick", "line"] (spD K Sp_holding)) : Fok P w K mg base "fits" 2 ["rows", "tick", "sign"] (spD K Sp_fits) :=
  fok_of (N := ["rows", "tick", "sign", "line"]) Tx.d_fits Tx.g_fits (fun _ _ _ _ _ _ us hl => match us, hl with | [_, _, _], _ => rfl) sc_fits (by intro ds Q E h; first | (obtain ⟨_, rfl, _⟩ := h; rfl) | (obtain ⟨_, _, rfl, _⟩ := h; rfl) | (obtain ⟨_, _, _, rfl, _⟩ := h; rfl) | (obtain ⟨_, _, _, _, rfl, _⟩ := h; rfl) | (obtain ⟨_, _, _, _, _, rfl, _⟩ := h; rfl) | (obtain ⟨_, _, _, _, _, _, rfl, _⟩ := h; rfl) | (obtain ⟨_, _, _, _, _, _, _, rfl, _⟩ := h; rfl) | (obtain ⟨_, _, _, _, _, _, _, _, rfl, _⟩ := h; rfl)) w_fits (fun cdv A outer s H E hr =>
    (dss_one (ds_ret (de_cb (cr_all rfl) ok_all rfl Tx.n_all bt_all (dr_cons (toR (de_lc0 (own := [("line", 3)]) rfl sc_fits.nd (di_rng1 rfl Tx.n_range (da_cons (de_cb call_len ok_len rfl Tx.n_len bt_len (dr_cons (toR (de_var 2 (pv 2))) dr_nil)) da_nil)) (blkOk_by (own := [("line", 3)]) (by first | rfl | decide +kernel)) (okg_name 3) (fun _ _ _ _ _ => (pg_name (i := 3) sc_fits.nd rfl (by first | exact Or.inl rfl | exact Or.inr rfl))) (fun _ _ _ _ _ => (de_or (de_cmp op_isN ok_isN (toR (de_ix ix_seq ok_ix (toR (de_var 2 (pv 2))) (toR (de_var 3 (pv 3))) (fun _ _ => rfl))) (toR de_non) (nomark _)) (de_one (de_cmp (op_in2 (hu65 hr)) ok_in (toR (de_ix ix_seq ok_ix (toR (de_var 2 (pv 2))) (toR (de_var 3 (pv 3))) (fun _ _ => rfl))) (toR (de_fok h_holding hr (by decide) rfl takes0 (da_cons (de_var 0 (pv 0)) (da_cons (de_var 1 (pv 1)) (da_cons (de_var 3 (pv 3)) da_nil))))) rfl)))))) dr_nil))))) m_fits
theorem sc_ticks_of : FnScope ["rows", "sign", "tick"] ["rows", "sign"] (defScope s_ticks_of) := ⟨rfl, rfl, rfl, by decide +kernel, rfl, by decide +kernel, by decide +kernel⟩
theorem fP_ticks_of (Tx : Txt w K mg) (h_fits : Fok P w K mg base "fits" 2 ["rows", "tick", "sign"] (spD K Sp_fits)) : Fok P w K mg base "ticks_of" 3 ["rows", "sign"] (spP K pL Sp_ticks_of) :=
  fokP_of (N := ["rows", "sign", "tick"]) Tx.d_ticks_of Tx.g_ticks_of (fun _ _ _ _ _ _ us hl => match us, hl with | [_, _], _ => rfl) sc_ticks_of (by intro ds Q E h; first | (obtain ⟨_, rfl, _⟩ := h; rfl) | (obtain ⟨_, _, rfl, _⟩ := h; rfl) | (obtain ⟨_, _, _, rfl, _⟩ := h; rfl) | (obtain ⟨_, _, _, _, rfl, _⟩ := h; rfl) | (obtain ⟨_, _, _, _, _, rfl, _⟩ := h; rfl) | (obtain ⟨_, _, _, _, _, _, rfl, _⟩ := h; rfl) | (obtain ⟨_, _, _, _, _, _, _, rfl, _⟩ := h; rfl) | (obtain ⟨_, _, _, _, _, _, _, _, rfl, _⟩ := h; rfl)) w_ticks_of (fun cdv A outer s H E hr =>
    (dss_one (ds_retR (fe_lc (fun _ h => h) (own := [("tick", 2)]) rfl sc_ticks_of.nd (di_rng1 rfl Tx.n_range (da_cons (de_cb call_len ok_len rfl Tx.n_len bt_len (dr_cons (toR (de_var 0 (pv 0))) dr_nil)) da_nil)) (blkOk_by (own := [("tick", 2)]) (by first | rfl | decide +kernel)) (okg_name 2) (fun _ _ _ _ _ => (pg_name (i := 2) sc_ticks_of.nd rfl (by first | exact Or.inl rfl | exact Or.inr rfl))) (fun _ _ _ _ _ => pts_one (dt_tru (toR (de_fok h_fits hr (by decide) rfl takes0 (da_cons (de_var 0 (pv 0)) (da_cons (de_var 2 (pv 2)) (da_cons (de_var 1 (pv 1)) da_nil))))) (by intro _; rfl))) (fun _ _ _ _ _ => (de_var 2 (pv 2))))))) m_ticks_of
theorem f_ticks_of (Tx : Txt w K mg) (h_fits : Fok P w K mg base "fits" 2 ["rows", "tick", "sign"] (spD K Sp_fits)) : Fok P w K mg base "ticks_of" 3 ["rows", "sign"] (spD K Sp_ticks_of) := spP_D (fP_ticks_of Tx h_fits)
theorem sc_tells : FnScope ["sign", "one"] ["sign"] (defScope s_tells) := ⟨rfl, rfl, rfl, by decide +kernel, rfl, by decide +kernel, by decide +kernel⟩
theorem f_tells (Tx : Txt w K mg)  : Fok P w K mg base "tells" 1 ["sign"] (spD K Sp_tells) :=
  fok_of (N := ["sign", "one"]) Tx.d_tells Tx.g_tells (fun _ _ _ _ _ _ us hl => match us, hl with | [_], _ => rfl) sc_tells (by intro ds Q E h; first | (obtain ⟨_, rfl, _⟩ := h; rfl) | (obtain ⟨_, _, rfl, _⟩ := h; rfl) | (obtain ⟨_, _, _, rfl, _⟩ := h; rfl) | (obtain ⟨_, _, _, _, rfl, _⟩ := h; rfl) | (obtain ⟨_, _, _, _, _, rfl, _⟩ := h; rfl) | (obtain ⟨_, _, _, _, _, _, rfl, _⟩ := h; rfl) | (obtain ⟨_, _, _, _, _, _, _, rfl, _⟩ := h; rfl) | (obtain ⟨_, _, _, _, _, _, _, _, rfl, _⟩ := h; rfl)) w_tells (fun cdv A outer s H E hr =>
    (dss_one (ds_ret (de_cb call_len ok_len rfl Tx.n_len bt_len (dr_cons (toR (de_lc (own := [("one", 1)]) rfl sc_tells.nd (di_seq (de_var 0 (pv 0))) (blkOk_by (own := [("one", 1)]) (by first | rfl | decide +kernel)) (okg_name 1) (fun _ _ _ _ _ => (pg_name (i := 1) sc_tells.nd rfl (by first | exact Or.inl rfl | exact Or.inr rfl))) (fun _ _ _ _ _ => pts_one (dt_cmp op_notN ok_notN (toR (de_var 1 (pv 1))) (toR de_non) (nomark _))) (fun _ _ _ _ _ => (de_var 1 (pv 1))))) dr_nil))))) m_tells
theorem sc_order : FnScope ["sign", "one"] ["sign"] (defScope s_order) := ⟨rfl, rfl, rfl, by decide +kernel, rfl, by decide +kernel, by decide +kernel⟩
theorem f_order (Tx : Txt w K mg)  : Fok P w K mg base "order" 1 ["sign"] (spD K Sp_order) :=
  fok_of (N := ["sign", "one"]) Tx.d_order Tx.g_order (fun _ _ _ _ _ _ us hl => match us, hl with | [_], _ => rfl) sc_order (by intro ds Q E h; first | (obtain ⟨_, rfl, _⟩ := h; rfl) | (obtain ⟨_, _, rfl, _⟩ := h; rfl) | (obtain ⟨_, _, _, rfl, _⟩ := h; rfl) | (obtain ⟨_, _, _, _, rfl, _⟩ := h; rfl) | (obtain ⟨_, _, _, _, _, rfl, _⟩ := h; rfl) | (obtain ⟨_, _, _, _, _, _, rfl, _⟩ := h; rfl) | (obtain ⟨_, _, _, _, _, _, _, rfl, _⟩ := h; rfl) | (obtain ⟨_, _, _, _, _, _, _, _, rfl, _⟩ := h; rfl)) w_order (fun cdv A outer s H E hr =>
    (dss_one (ds_ret (de_lc0 (own := [("one", 1)]) rfl sc_order.nd (di_seq (de_var 0 (pv 0))) (blkOk_by (own := [("one", 1)]) (by first | rfl | decide +kernel)) (okg_name 1) (fun _ _ _ _ _ => (pg_name (i := 1) sc_order.nd rfl (by first | exact Or.inl rfl | exact Or.inr rfl))) (fun _ _ _ _ _ => (de_if (dt_cmp op_notN ok_notN (toR (de_var 1 (pv 1))) (toR de_non) (nomark _)) (de_gidx (ys := ["high", "low", "rise", "fall"]) Tx.u_HOLDS (toR (de_var 1 (pv 1))) (pe_bm PySem.F.plainAttrs_tuple PySem.F.slot_tuple_index PySem.F.type_tuple_index mt_tup_index (pe_glob rfl Tx.u_HOLDS.glo rfl (by decide)) (pa_cons (toR (de_var 1 (pv 1))) pa_nil))) (de_cb call_len ok_len rfl Tx.n_len bt_len (dr_cons (toR (de_gr Tx.c_HOLDS)) dr_nil)))))))) m_order
theorem sc_look_chain : FnScope ["rows", "signs", "gaps", "sign", "gap"] ["rows", "signs", "gaps"] (defScope s_look_chain) := ⟨rfl, rfl, rfl, by decide +kernel, rfl, by decide +kernel, by decide +kernel⟩
theorem f_look_chain (Tx : Txt w K mg) (h_is_whole : Fok P w K mg base "is_whole" 1 ["thing", "low", "most"] (spD K Sp_is_whole)) (h_look_rows : Fok P w K mg base "look_rows" 2 ["rows"] (spD K Sp_look_rows)) (h_look_sign : Fok P w K mg base "look_sign" 2 ["sign", "many"] (spD K Sp_look_sign)) : Fok P w K mg base "look_chain" 3 ["rows", "signs", "gaps"] (spD K Sp_look_chain) :=
  fok_of (N := ["rows", "signs", "gaps", "sign", "gap"]) Tx.d_look_chain Tx.g_look_chain (fun _ _ _ _ _ _ us hl => match us, hl with | [_, _, _], _ => rfl) sc_look_chain (by intro ds Q E h; first | (obtain ⟨_, rfl, _⟩ := h; rfl) | (obtain ⟨_, _, rfl, _⟩ := h; rfl) | (obtain ⟨_, _, _, rfl, _⟩ := h; rfl) | (obtain ⟨_, _, _, _, rfl, _⟩ := h; rfl) | (obtain ⟨_, _, _, _, _, rfl, _⟩ := h; rfl) | (obtain ⟨_, _, _, _, _, _, rfl, _⟩ := h; rfl) | (obtain ⟨_, _, _, _, _, _, _, rfl, _⟩ := h; rfl) | (obtain ⟨_, _, _, _, _, _, _, _, rfl, _⟩ := h; rfl)) w_look_chain (fun cdv A outer s H E hr =>
    (dss_cons (ds_expr (de_fok h_look_rows hr (by decide) rfl bTakes (da_cons (de_var 0 (pv 0)) da_nil)))
      (dss_cons (ds_if (PW.pt (dt_or (dt_not (dt_tru (toR (de_isi kit_lst (fun _ => rfl) (by decide) rfl Tx.n_isinstance (toR (de_var 1 (pv 1))) (pe_bltn (v := .ty "list") rfl Tx.n_list bt_list rfl))) (by intro _; rfl))) (dt_or1 (dt_not (dt_chain op_le op_le ok_le ok_le (toR de_int) (toR (de_cb call_len ok_len rfl Tx.n_len bt_len (dr_cons (toR (de_var 1 (pv 1))) dr_nil))) (toR (de_gi Tx.c_MOST_CHAIN))))))) (dss_one (ds_raiseX rfl bTakes Tx.x_BadSign.1 Tx.x_BadSign.2 rfl)) dss_nil)
      (dss_cons (ds_for bPasses rfl (di_seq (de_var 1 (pv 1))) (pg_name (i := 3) sc_look_chain.nd rfl (by first | exact Or.inl rfl | exact Or.inr rfl)) (okg_name 3) (dss_one (ds_expr (de_fok h_look_sign hr (by decide) rfl bTakes (da_cons (de_var 3 (pv 3)) (da_cons (de_cb call_len ok_len rfl Tx.n_len bt_len (dr_cons (toR (de_ix ix_seq ok_ix (toR (de_var 0 (pv 0))) (toR de_int) (fun _ _ => rfl))) dr_nil)) da_nil))))))
      (dss_cons (ds_if (PW.pt (dt_or (dt_not (dt_tru (toR (de_isi kit_lst (fun _ => rfl) (by decide) rfl Tx.n_isinstance (toR (de_var 2 (pv 2))) (pe_bltn (v := .ty "list") rfl Tx.n_list bt_list rfl))) (by intro _; rfl))) (dt_or1 (dt_cmp (op_neD hr.units) ok_ne (toR (de_cb call_len ok_len rfl Tx.n_len bt_len (dr_cons (toR (de_var 2 (pv 2))) dr_nil))) (toR (de_bin op_sub ok_sub (toR (de_cb call_len ok_len rfl Tx.n_len bt_len (dr_cons (toR (de_var 1 (pv 1))) dr_nil))) (toR de_int))) (nomark _))))) (dss_one (ds_raiseX rfl bTakes Tx.x_BadNumber.1 Tx.x_BadNumber.2 rfl)) dss_nil)
      (dss_one (ds_if (dt_not (dt_tru (toR (de_cb (cr_all rfl) ok_all rfl Tx.n_all bt_all (dr_cons (toR (de_lc0 (own := [("gap", 4)]) rfl sc_look_chain.nd (di_seq (de_var 2 (pv 2))) (blkOk_by (own := [("gap", 4)]) (by first | rfl | decide +kernel)) (okg_name 4) (fun _ _ _ _ _ => (pg_name (i := 4) sc_look_chain.nd rfl (by first | exact Or.inl rfl | exact Or.inr rfl))) (fun _ _ _ _ _ => (de_fok h_is_whole hr (by decide) rfl takes0 (da_cons (de_var 4 (pv 4)) (da_cons de_int (da_cons (de_gi Tx.c_MOST_WITHIN) da_nil))))))) dr_nil))) (by intro _; rfl))) (dss_one (ds_raiseX rfl bTakes Tx.x_BadNumber.1 Tx.x_BadNumber.2 rfl)) dss_nil))))))) m_look_chain
theorem sc_reached : FnScope ["rows", "signs", "gaps", "found", "k", "some", "tick", "one"] ["rows", "signs", "gaps"] (defScope s_reached) := ⟨rfl, rfl, rfl, by decide +kernel, rfl, by decide +kernel, by decide +kernel⟩
theorem fP_reached (Tx : Txt w K mg) (h_ticks_of : Fok P w K mg base "ticks_of" 3 ["rows", "sign"] (spD K Sp_ticks_of)) (hp_ticks_of : Fok P w K mg base "ticks_of" 3 ["rows", "sign"] (spP K pL Sp_ticks_of)) : Fok P w K mg base "reached" 4 ["rows", "signs", "gaps"] (spP K pLL Sp_reached) := by
  obtain ⟨fd, F⟩ := Tx.d_reached
  exact ⟨fd, F.ok sc_reached (fun vs H Q E ⟨_, _, _, _, _, hv, ⟨_, _, _, _, e, _⟩, _⟩ => by subst e; rw [hv.length]; rfl) (fun cdv A outer s H vs Q E hr h => ⟨_, pss_cons (ps_set (i := 3) sc_reached.nd rfl (by first | exact Or.inl rfl | exact Or.inr rfl) (pe_lst (pa_cons (fe_fok hp_ticks_of hr (by decide) rfl bTakes (da_cons (de_var 0 (pv 0)) (da_cons (de_ix ix_seq ok_ix (toR (de_var 1 (pv 1))) (toR de_int) (fun _ _ => rfl)) da_nil))) pa_nil)))
    (pss_cons (ps_for bPasses rfl (di_rng1 rfl Tx.n_range (da_cons (de_cb call_len ok_len rfl Tx.n_len bt_len (dr_cons (toR (de_var 2 (pv 2))) dr_nil)) da_nil)) (pg_name (i := 4) sc_reached.nd rfl (by first | exact Or.inl rfl | exact Or.inr rfl)) (pss_cons (ps_set (i := 5) sc_reached.nd rfl (by first | exact Or.inl rfl | exact Or.inr rfl) (de_fok h_ticks_of hr (by decide) rfl bTakes (da_cons (de_var 0 (pv 0)) (da_cons (de_ix ix_seq ok_ix (toR (de_var 1 (pv 1))) (toR (de_bin op_add4 ok_add (toR (de_var 4 (pv 4))) (toR de_int))) (fun _ _ => rfl)) da_nil)))) (pss_one (ps_expr (pe_bm PySem.F.plainAttrs_list PySem.F.slot_list_append PySem.F.type_list_append mt_append (pv 3) (pa_cons (fe_lc (fun _ h => h) (own := [("tick", 6)]) rfl sc_reached.nd (di_seq (de_var 5 (pv 5))) (blkOk_by (own := [("tick", 6)]) (by first | rfl | decide +kernel)) (okg_name 6) (fun _ _ _ _ _ => (pg_name (i := 6) sc_reached.nd rfl (by first | exact Or.inl rfl | exact Or.inr rfl))) (fun _ _ _ _ _ => pts_one (dt_tru (toR (de_cb (cr_any rfl) ok_any rfl Tx.n_any bt_any (dr_cons (toR (de_lc0 (own := [("one", 7)]) rfl sc_reached.nd (di_seq (de_ix ix_seq ok_ix (de_pk 3 (pv 3)) (toR (de_un un_neg ok_neg (toR de_int))) (fun _ _ => rfl))) (blkOk_by (own := [("one", 7)]) (by first | rfl | decide +kernel)) (okg_name 7) (fun _ _ _ _ _ => (pg_name (i := 7) sc_reached.nd rfl (by first | exact Or.inl rfl | exact Or.inr rfl))) (fun _ _ _ _ _ => (de_chain op_lt op_le ok_lt ok_le (toR de_int) (toR (de_bin op_sub ok_sub (toR (de_var 6 (pv 6))) (toR (de_var 7 (pv 7))))) (toR (de_ix ix_seq ok_ix (toR (de_var 2 (pv 2))) (toR (de_var 4 (pv 4))) (fun _ _ => rfl))))))) dr_nil))) (by intro _; rfl))) (fun _ _ _ _ _ => (de_var 6 (pv 6)))) pa_nil))))))
    (pss_one (ps_ret (pv 3)))), reach_rd (sp := Sp_reached) (w0 := (wFn Sp_ticks_of (wCons (wVar 0) (wCons (wBin IxD (wVar 1) (wC (.int 0))) wNil)))) (wi := (wRng Rng1 (wCons (wCall LenC (wCons (wVar 2) wNil)) wNil))) (w1 := (wFn Sp_ticks_of (wCons (wVar 0) (wCons (wBin IxD (wVar 1) (wBin AddD (wVar 4) (wC (.int 1)))) wNil)))) (w2 := (wLc (wSeq (wVar 5)) (stIf (gdN 6) (wTru (wCall AnyC (wCons (wLc (wSeq (wBin IxD (wPk 3) (wUn NegD (wC (.int 1))))) (stAll (gdN 7) (wChain LtD LeD (wC (.int 0)) (wBin SubD (wVar 6) (wVar 7)) (wBin IxD (wVar 2) (wVar 4))) [7]) [7]) wNil))) (wVar 6) [6]) [6])) m_reached (by decide) h⟩), F.bindsN (fun _ _ _ _ _ _ us hl => match us, hl with | [_, _, _], _ => rfl), F.kp, Tx.g_reached⟩
theorem f_reached (Tx : Txt w K mg) (h_ticks_of : Fok P w K mg base "ticks_of" 3 ["rows", "sign"] (spD K Sp_ticks_of)) (hp_ticks_of : Fok P w K mg base "ticks_of" 3 ["rows", "sign"] (spP K pL Sp_ticks_of)) : Fok P w K mg base "reached" 4 ["rows", "signs", "gaps"] (spD K Sp_reached) := spP_D (fP_reached Tx h_ticks_of hp_ticks_of)
theorem sc_chained : FnScope ["rows", "signs", "gaps"] ["rows", "signs", "gaps"] (defScope s_chained) := ⟨rfl, rfl, rfl, by decide +kernel, rfl, by decide +kernel, by decide +kernel⟩
theorem fP_chained (Tx : Txt w K mg) (h_look_chain : Fok P w K mg base "look_chain" 3 ["rows", "signs", "gaps"] (spD K Sp_look_chain)) (hp_reached : Fok P w K mg base "reached" 4 ["rows", "signs", "gaps"] (spP K pLL Sp_reached)) : Fok P w K mg base "chained" 5 ["rows", "signs", "gaps"] (spP K pL Sp_chained) :=
  fokP_of (N := ["rows", "signs", "gaps"]) Tx.d_chained Tx.g_chained (fun _ _ _ _ _ _ us hl => match us, hl with | [_, _, _], _ => rfl) sc_chained (by intro ds Q E h; first | (obtain ⟨_, rfl, _⟩ := h; rfl) | (obtain ⟨_, _, rfl, _⟩ := h; rfl) | (obtain ⟨_, _, _, rfl, _⟩ := h; rfl) | (obtain ⟨_, _, _, _, rfl, _⟩ := h; rfl) | (obtain ⟨_, _, _, _, _, rfl, _⟩ := h; rfl) | (obtain ⟨_, _, _, _, _, _, rfl, _⟩ := h; rfl) | (obtain ⟨_, _, _, _, _, _, _, rfl, _⟩ := h; rfl) | (obtain ⟨_, _, _, _, _, _, _, _, rfl, _⟩ := h; rfl)) w_chainedF (fun cdv A outer s H E hr =>
    (dss_cons (ds_expr (de_fok h_look_chain hr (by decide) rfl bTakes (da_cons (de_var 0 (pv 0)) (da_cons (de_var 1 (pv 1)) (da_cons (de_var 2 (pv 2)) da_nil)))))
      (dss_one (ds_retR (fe_last (fe_fok hp_reached hr (by decide) rfl bTakes (da_cons (de_var 0 (pv 0)) (da_cons (de_var 1 (pv 1)) (da_cons (de_var 2 (pv 2)) da_nil))))))))) m_chainedF
theorem f_chained (Tx : Txt w K mg) (h_look_chain : Fok P w K mg base "look_chain" 3 ["rows", "signs", "gaps"] (spD K Sp_look_chain)) (hp_reached : Fok P w K mg base "reached" 4 ["rows", "signs", "gaps"] (spP K pLL Sp_reached)) : Fok P w K mg base "chained" 5 ["rows", "signs", "gaps"] (spD K Sp_chained) := spP_D (fP_chained Tx h_look_chain hp_reached)
theorem sc_witness : FnScope ["rows", "signs", "gaps", "tick", "levels", "good", "k", "found", "one", "later"] ["rows", "signs", "gaps", "tick"] (defScope s_witness) := ⟨rfl, rfl, rfl, by decide +kernel, rfl, by decide +kernel, by decide +kernel⟩
theorem fP_witness (Tx : Txt w K mg) (h_look_chain : Fok P w K mg base "look_chain" 3 ["rows", "signs", "gaps"] (spD K Sp_look_chain)) (h_look_tick : Fok P w K mg base "look_tick" 2 ["rows", "tick"] (spD K Sp_look_tick)) (h_reached : Fok P w K mg base "reached" 4 ["rows", "signs", "gaps"] (spD K Sp_reached)) : Fok P w K mg base "witness" 5 ["rows", "signs", "gaps", "tick"] (spP K pL Sp_witness) :=
  fokP_of (N := ["rows", "signs", "gaps", "tick", "levels", "good", "k", "found", "one", "later"]) Tx.d_witness Tx.g_witness (fun _ _ _ _ _ _ us hl => match us, hl with | [_, _, _, _], _ => rfl) sc_witness (by intro ds Q E h; first | (obtain ⟨_, rfl, _⟩ := h; rfl) | (obtain ⟨_, _, rfl, _⟩ := h; rfl) | (obtain ⟨_, _, _, rfl, _⟩ := h; rfl) | (obtain ⟨_, _, _, _, rfl, _⟩ := h; rfl) | (obtain ⟨_, _, _, _, _, rfl, _⟩ := h; rfl) | (obtain ⟨_, _, _, _, _, _, rfl, _⟩ := h; rfl) | (obtain ⟨_, _, _, _, _, _, _, rfl, _⟩ := h; rfl) | (obtain ⟨_, _, _, _, _, _, _, _, rfl, _⟩ := h; rfl)) w_witness (fun cdv A outer s H E hr =>
    (dss_cons (ds_expr (de_fok h_look_chain hr (by decide) rfl bTakes (da_cons (de_var 0 (pv 0)) (da_cons (de_var 1 (pv 1)) (da_cons (de_var 2 (pv 2)) da_nil)))))
      (dss_cons (ds_expr (de_fok h_look_tick hr (by decide) rfl bTakes (da_cons (de_var 0 (pv 0)) (da_cons (de_var 3 (pv 3)) da_nil))))
      (dss_cons (ds_set (i := 4) sc_witness.nd rfl (by first | exact Or.inl rfl | exact Or.inr rfl) (de_fok h_reached hr (by decide) rfl bTakes (da_cons (de_var 0 (pv 0)) (da_cons (de_var 1 (pv 1)) (da_cons (de_var 2 (pv 2)) da_nil)))))
      (dss_cons (ds_if (dt_cmp (op_notIn2 (hu65 hr)) ok_notIn (toR (de_var 3 (pv 3))) (toR (de_ix ix_seq ok_ix (toR (de_var 4 (pv 4))) (toR (de_un un_neg ok_neg (toR de_int))) (fun _ _ => rfl))) rfl) (dss_one (ds_retR fe_non)) dss_nil)
      (dss_cons (ds_set (i := 5) sc_witness.nd rfl (by first | exact Or.inl rfl | exact Or.inr rfl) (de_lst (da_cons (de_lst (da_cons (de_var 3 (pv 3)) da_nil)) da_nil)))
      (dss_cons (ds_for bPasses rfl (di_seq (de_rev (toR (de_lrg1 rfl rfl Tx.n_list rfl Tx.n_range (de_cb call_len ok_len rfl Tx.n_len bt_len (dr_cons (toR (de_var 2 (pv 2))) dr_nil)))))) (pg_name (i := 6) sc_witness.nd rfl (by first | exact Or.inl rfl | exact Or.inr rfl)) (okg_name 6) (dss_one (ds_set (i := 5) sc_witness.nd rfl (by first | exact Or.inl rfl | exact Or.inr rfl) (de_bin op_add4 ok_add (toR (de_lst (da_cons (de_lc (own := [("one", 8)]) rfl sc_witness.nd (di_seq (de_ix ix_seq ok_ix (toR (de_var 4 (pv 4))) (toR (de_var 6 (pv 6))) (fun _ _ => rfl))) (blkOk_by (own := [("one", 8)]) (by first | rfl | decide +kernel)) (okg_name 8) (fun _ _ _ _ _ => (pg_name (i := 8) sc_witness.nd rfl (by first | exact Or.inl rfl | exact Or.inr rfl))) (fun _ _ _ _ _ => pts_one (dt_tru (toR (de_cb (cr_any rfl) ok_any rfl Tx.n_any bt_any (dr_cons (toR (de_lc0 (own := [("later", 9)]) rfl sc_witness.nd (di_seq (de_ix ix_seq ok_ix (toR (de_var 5 (pv 5))) (toR de_int) (fun _ _ => rfl))) (blkOk_by (own := [("later", 9)]) (by first | rfl | decide +kernel)) (okg_name 9) (fun _ _ _ _ _ => (pg_name (i := 9) sc_witness.nd rfl (by first | exact Or.inl rfl | exact Or.inr rfl))) (fun _ _ _ _ _ => (de_chain op_lt op_le ok_lt ok_le (toR de_int) (toR (de_bin op_sub ok_sub (toR (de_var 9 (pv 9))) (toR (de_var 8 (pv 8))))) (toR (de_ix ix_seq ok_ix (toR (de_var 2 (pv 2))) (toR (de_var 6 (pv 6))) (fun _ _ => rfl))))))) dr_nil))) (by intro _; rfl))) (fun _ _ _ _ _ => (de_var 8 (pv 8)))) da_nil))) (toR (de_var 5 (pv 5)))))))
      (dss_cons (ds_setO (i := 7) sc_witness.nd rfl (by first | exact Or.inl rfl | exact Or.inr rfl) (df_lst (da_cons (de_ix ix_seq ok_ix (toR (de_ix ix_seq ok_ix (toR (de_var 5 (pv 5))) (toR de_int) (fun _ _ => rfl))) (toR de_int) (fun _ _ => rfl)) da_nil)))
      (dss_cons (ds_for bPasses rfl (di_rng1 rfl Tx.n_range (da_cons (de_cb call_len ok_len rfl Tx.n_len bt_len (dr_cons (toR (de_var 2 (pv 2))) dr_nil)) da_nil)) (pg_name (i := 6) sc_witness.nd rfl (by first | exact Or.inl rfl | exact Or.inr rfl)) (okg_name 6) (dss_one (ds_app (pv 7) (de_ix ix_seq ok_ix (toR (de_lc (own := [("one", 8)]) rfl sc_witness.nd (di_seq (de_ix ix_seq ok_ix (toR (de_var 5 (pv 5))) (toR (de_bin op_add4 ok_add (toR (de_var 6 (pv 6))) (toR de_int))) (fun _ _ => rfl))) (blkOk_by (own := [("one", 8)]) (by first | rfl | decide +kernel)) (okg_name 8) (fun _ _ _ _ _ => (pg_name (i := 8) sc_witness.nd rfl (by first | exact Or.inl rfl | exact Or.inr rfl))) (fun _ _ _ _ _ => pts_one (dt_chain op_lt op_le ok_lt ok_le (toR de_int) (toR (de_bin op_sub ok_sub (toR (de_var 8 (pv 8))) (toR (de_ix ix_seq ok_ix (de_pk 7 (pv 7)) (toR (de_un un_neg ok_neg (toR de_int))) (fun _ _ => rfl))))) (toR (de_ix ix_seq ok_ix (toR (de_var 2 (pv 2))) (toR (de_var 6 (pv 6))) (fun _ _ => rfl))))) (fun _ _ _ _ _ => (de_var 8 (pv 8))))) (toR de_int) (fun _ _ => rfl)) (ps_expr (pe_bm PySem.F.plainAttrs_list PySem.F.slot_list_append PySem.F.type_list_append mt_append (pv 7) (pa_cons (de_ix ix_seq ok_ix (toR (de_lc (own := [("one", 8)]) rfl sc_witness.nd (di_seq (de_ix ix_seq ok_ix (toR (de_var 5 (pv 5))) (toR (de_bin op_add4 ok_add (toR (de_var 6 (pv 6))) (toR de_int))) (fun _ _ => rfl))) (blkOk_by (own := [("one", 8)]) (by first | rfl | decide +kernel)) (okg_name 8) (fun _ _ _ _ _ => (pg_name (i := 8) sc_witness.nd rfl (by first | exact Or.inl rfl | exact Or.inr rfl))) (fun _ _ _ _ _ => pts_one (dt_chain op_lt op_le ok_lt ok_le (toR de_int) (toR (de_bin op_sub ok_sub (toR (de_var 8 (pv 8))) (toR (de_ix ix_seq ok_ix (de_pk 7 (pv 7)) (toR (de_un un_neg ok_neg (toR de_int))) (fun _ _ => rfl))))) (toR (de_ix ix_seq ok_ix (toR (de_var 2 (pv 2))) (toR (de_var 6 (pv 6))) (fun _ _ => rfl))))) (fun _ _ _ _ _ => (de_var 8 (pv 8))))) (toR de_int) (fun _ _ => rfl)) pa_nil))))))
      (dss_one (ds_retO (fun _ h => h) (fun _ => rfl) (pv 7)))))))))))) m_witness
theorem f_witness (Tx : Txt w K mg) (h_look_chain : Fok P w K mg base "look_chain" 3 ["rows", "signs", "gaps"] (spD K Sp_look_chain)) (h_look_tick : Fok P w K mg base "look_tick" 2 ["rows", "tick"] (spD K Sp_look_tick)) (h_reached : Fok P w K mg base "reached" 4 ["rows", "signs", "gaps"] (spD K Sp_reached)) : Fok P w K mg base "witness" 5 ["rows", "signs", "gaps", "tick"] (spD K Sp_witness) := spP_D (fP_witness Tx h_look_chain h_look_tick h_reached)
theorem sc_longest : FnScope ["rows", "sign", "gap", "best", "here", "tick"] ["rows", "sign", "gap"] (defScope s_longest) := ⟨rfl, rfl, rfl, by decide +kernel, rfl, by decide +kernel, by decide +kernel⟩
theorem f_longest (Tx : Txt w K mg) (h_is_whole : Fok P w K mg base "is_whole" 1 ["thing", "low", "most"] (spD K Sp_is_whole)) (h_look_rows : Fok P w K mg base "look_rows" 2 ["rows"] (spD K Sp_look_rows)) (h_look_sign : Fok P w K mg base "look_sign" 2 ["sign", "many"] (spD K Sp_look_sign)) (h_ticks_of : Fok P w K mg base "ticks_of" 3 ["rows", "sign"] (spD K Sp_ticks_of)) : Fok P w K mg base "longest" 4 ["rows", "sign", "gap"] (spD K Sp_longest) :=
  fok_of (N := ["rows", "sign", "gap", "best", "here", "tick"]) Tx.d_longest Tx.g_longest (fun _ _ _ _ _ _ us hl => match us, hl with | [_, _, _], _ => rfl) sc_longest (by intro ds Q E h; first | (obtain ⟨_, rfl, _⟩ := h; rfl) | (obtain ⟨_, _, rfl, _⟩ := h; rfl) | (obtain ⟨_, _, _, rfl, _⟩ := h; rfl) | (obtain ⟨_, _, _, _, rfl, _⟩ := h; rfl) | (obtain ⟨_, _, _, _, _, rfl, _⟩ := h; rfl) | (obtain ⟨_, _, _, _, _, _, rfl, _⟩ := h; rfl) | (obtain ⟨_, _, _, _, _, _, _, rfl, _⟩ := h; rfl) | (obtain ⟨_, _, _, _, _, _, _, _, rfl, _⟩ := h; rfl)) w_longest (fun cdv A outer s H E hr =>
    (dss_cons (ds_expr (de_fok h_look_rows hr (by decide) rfl bTakes (da_cons (de_var 0 (pv 0)) da_nil)))
      (dss_cons (ds_expr (de_fok h_look_sign hr (by decide) rfl bTakes (da_cons (de_var 1 (pv 1)) (da_cons (de_cb call_len ok_len rfl Tx.n_len bt_len (dr_cons (toR (de_ix ix_seq ok_ix (toR (de_var 0 (pv 0))) (toR de_int) (fun _ _ => rfl))) dr_nil)) da_nil))))
      (dss_cons (ds_if (dt_not (dt_tru (toR (de_fok h_is_whole hr (by decide) rfl bTakes (da_cons (de_var 2 (pv 2)) (da_cons de_int (da_cons (de_gi Tx.c_MOST_WITHIN) da_nil))))) (by intro _; rfl))) (dss_one (ds_raiseX rfl bTakes Tx.x_BadNumber.1 Tx.x_BadNumber.2 rfl)) dss_nil)
      (dss_cons (ds_set (i := 3) sc_longest.nd rfl (by first | exact Or.inl rfl | exact Or.inr rfl) (de_lst da_nil))
      (dss_cons (ds_set (i := 4) sc_longest.nd rfl (by first | exact Or.inl rfl | exact Or.inr rfl) (de_lst da_nil))
      (dss_cons (ds_for bPasses rfl (di_seq (de_fok h_ticks_of hr (by decide) rfl bTakes (da_cons (de_var 0 (pv 0)) (da_cons (de_var 1 (pv 1)) da_nil)))) (pg_name (i := 5) sc_longest.nd rfl (by first | exact Or.inl rfl | exact Or.inr rfl)) (okg_name 5) (dss_cons (ds_set (i := 4) sc_longest.nd rfl (by first | exact Or.inl rfl | exact Or.inr rfl) (de_if (PW.pt (dt_and (dt_tru (toR (de_var 4 (pv 4))) (by intro _; rfl)) (dt_and1 (dt_cmp op_le ok_le (toR (de_bin op_sub ok_sub (toR (de_var 5 (pv 5))) (toR (de_ix ix_seq ok_ix (toR (de_var 4 (pv 4))) (toR (de_un un_neg ok_neg (toR de_int))) (fun _ _ => rfl))))) (toR (de_var 2 (pv 2))) (nomark _))))) (de_bin op_add4 ok_add (toR (de_var 4 (pv 4))) (toR (de_lst (da_cons (de_var 5 (pv 5)) da_nil)))) (de_lst (da_cons (de_var 5 (pv 5)) da_nil))))
      (dss_one (ds_set (i := 3) sc_longest.nd rfl (by first | exact Or.inl rfl | exact Or.inr rfl) (de_if (dt_cmp op_gt ok_gt (toR (de_cb call_len ok_len rfl Tx.n_len bt_len (dr_cons (toR (de_var 4 (pv 4))) dr_nil))) (toR (de_cb call_len ok_len rfl Tx.n_len bt_len (dr_cons (toR (de_var 3 (pv 3))) dr_nil))) (nomark _)) (de_var 4 (pv 4)) (de_var 3 (pv 3)))))))
      (dss_one (ds_ret (de_var 3 (pv 3))))))))))) m_longest
theorem sc_all_signs : FnScope ["menus", "found", "menu", "longer", "row", "one"] ["menus"] (defScope s_all_signs) := ⟨rfl, rfl, rfl, by decide +kernel, rfl, by decide +kernel, by decide +kernel⟩
theorem f_all_signs (Tx : Txt w K mg)  : Fok P w K mg base "all_signs" 1 ["menus"] (spD K Sp_all_signs) :=
  fok_of (N := ["menus", "found", "menu", "longer", "row", "one"]) Tx.d_all_signs Tx.g_all_signs (fun _ _ _ _ _ _ us hl => match us, hl with | [_], _ => rfl) sc_all_signs (by intro ds Q E h; first | (obtain ⟨_, rfl, _⟩ := h; rfl) | (obtain ⟨_, _, rfl, _⟩ := h; rfl) | (obtain ⟨_, _, _, rfl, _⟩ := h; rfl) | (obtain ⟨_, _, _, _, rfl, _⟩ := h; rfl) | (obtain ⟨_, _, _, _, _, rfl, _⟩ := h; rfl) | (obtain ⟨_, _, _, _, _, _, rfl, _⟩ := h; rfl) | (obtain ⟨_, _, _, _, _, _, _, rfl, _⟩ := h; rfl) | (obtain ⟨_, _, _, _, _, _, _, _, rfl, _⟩ := h; rfl)) w_all_signs (fun cdv A outer s H E hr =>
    (dss_cons (ds_set (i := 1) sc_all_signs.nd rfl (by first | exact Or.inl rfl | exact Or.inr rfl) (de_lst (da_cons (de_tup da_nil) da_nil)))
      (dss_cons (ds_for bPasses rfl (di_seq (de_var 0 (pv 0))) (pg_name (i := 2) sc_all_signs.nd rfl (by first | exact Or.inl rfl | exact Or.inr rfl)) (okg_name 2) (dss_cons (ds_setO (i := 3) sc_all_signs.nd rfl (by first | exact Or.inl rfl | exact Or.inr rfl) (df_lst da_nil))
      (dss_cons (ds_for bPasses rfl (di_seq (de_var 1 (pv 1))) (pg_name (i := 4) sc_all_signs.nd rfl (by first | exact Or.inl rfl | exact Or.inr rfl)) (okg_name 4) (dss_one (ds_ext (pv 3) (de_lc0 (own := [("one", 5)]) rfl sc_all_signs.nd (di_seq (de_var 2 (pv 2))) (blkOk_by (own := [("one", 5)]) (by first | rfl | decide +kernel)) (okg_name 5) (fun _ _ _ _ _ => (pg_name (i := 5) sc_all_signs.nd rfl (by first | exact Or.inl rfl | exact Or.inr rfl))) (fun _ _ _ _ _ => (de_bin op_add4 ok_add (toR (de_var 4 (pv 4))) (toR (de_tup (da_cons (de_var 5 (pv 5)) da_nil)))))) (ps_expr (pe_bm PySem.F.plainAttrs_list PySem.F.slot_list_extend PySem.F.type_list_extend mt_extend (pv 3) (pa_cons (de_lc0 (own := [("one", 5)]) rfl sc_all_signs.nd (di_seq (de_var 2 (pv 2))) (blkOk_by (own := [("one", 5)]) (by first | rfl | decide +kernel)) (okg_name 5) (fun _ _ _ _ _ => (pg_name (i := 5) sc_all_signs.nd rfl (by first | exact Or.inl rfl | exact Or.inr rfl))) (fun _ _ _ _ _ => (de_bin op_add4 ok_add (toR (de_var 4 (pv 4))) (toR (de_tup (da_cons (de_var 5 (pv 5)) da_nil)))))) pa_nil))))))
      (dss_one (ds_rel 3 (ds_set (i := 1) sc_all_signs.nd rfl (by first | exact Or.inl rfl | exact Or.inr rfl) (de_var 3 (pv 3))))))))
      (dss_one (ds_ret (de_var 1 (pv 1))))))) m_all_signs
theorem sc_in_order : FnScope ["signs", "turn", "many", "row", "k"] ["signs"] (defScope s_in_order) := ⟨rfl, rfl, rfl, by decide +kernel, rfl, by decide +kernel, by decide +kernel⟩
theorem f_in_order (Tx : Txt w K mg) (h_order : Fok P w K mg base "order" 1 ["sign"] (spD K Sp_order)) (h_tells : Fok P w K mg base "tells" 1 ["sign"] (spD K Sp_tells)) : Fok P w K mg base "in_order" 2 ["signs"] (spD K Sp_in_order) :=
  fok_of (N := ["signs", "turn", "many", "row", "k"]) Tx.d_in_order Tx.g_in_order (fun _ _ _ _ _ _ us hl => match us, hl with | [_], _ => rfl) sc_in_order (by intro ds Q E h; first | (obtain ⟨_, rfl, _⟩ := h; rfl) | (obtain ⟨_, _, rfl, _⟩ := h; rfl) | (obtain ⟨_, _, _, rfl, _⟩ := h; rfl) | (obtain ⟨_, _, _, _, rfl, _⟩ := h; rfl) | (obtain ⟨_, _, _, _, _, rfl, _⟩ := h; rfl) | (obtain ⟨_, _, _, _, _, _, rfl, _⟩ := h; rfl) | (obtain ⟨_, _, _, _, _, _, _, rfl, _⟩ := h; rfl) | (obtain ⟨_, _, _, _, _, _, _, _, rfl, _⟩ := h; rfl)) w_in_order (fun cdv A outer s H E hr =>
    (dss_cons (ds_set (i := 1) sc_in_order.nd rfl (by first | exact Or.inl rfl | exact Or.inr rfl) (de_cb (cr_sortD (hu65 hr)) ok_sort rfl Tx.n_sorted bt_sorted (dr_cons (toR (de_lc0 (own := [("k", 4)]) rfl sc_in_order.nd (di_rng1 rfl Tx.n_range (da_cons (de_cb call_len ok_len rfl Tx.n_len bt_len (dr_cons (toR (de_var 0 (pv 0))) dr_nil)) da_nil)) (blkOk_by (own := [("k", 4)]) (by first | rfl | decide +kernel)) (okg_name 4) (fun _ _ _ _ _ => (pg_name (i := 4) sc_in_order.nd rfl (by first | exact Or.inl rfl | exact Or.inr rfl))) (fun _ _ _ _ _ => (de_tup (da_cons (de_fok h_tells hr (by decide) rfl takes0 (da_cons (de_ix ix_seq ok_ix (toR (de_var 0 (pv 0))) (toR (de_var 4 (pv 4))) (fun _ _ => rfl)) da_nil)) (da_cons (de_fok h_order hr (by decide) rfl takes0 (da_cons (de_ix ix_seq ok_ix (toR (de_var 0 (pv 0))) (toR (de_var 4 (pv 4))) (fun _ _ => rfl)) da_nil)) (da_cons (de_var 4 (pv 4)) da_nil))))))) dr_nil)))
      (dss_one (ds_ret (de_lc0 (own := [("many", 2), ("row", 3), ("k", 4)]) rfl sc_in_order.nd (di_seq (de_var 1 (pv 1))) (blkOk_by (own := [("many", 2), ("row", 3), ("k", 4)]) (by first | rfl | decide +kernel)) (okg_tup (okg_cons (okg_name 2) (okg_cons (okg_name 3) (okg_cons (okg_name 4) okg_nil)))) (fun _ _ _ _ _ => (pg_tup rfl (pgs_cons (pg_name (i := 2) sc_in_order.nd rfl (by first | exact Or.inl rfl | exact Or.inr rfl)) (pgs_cons (pg_name (i := 3) sc_in_order.nd rfl (by first | exact Or.inl rfl | exact Or.inr rfl)) (pgs_cons (pg_name (i := 4) sc_in_order.nd rfl (by first | exact Or.inl rfl | exact Or.inr rfl)) pgs_nil))))) (fun _ _ _ _ _ => (de_ix ix_seq ok_ix (toR (de_var 0 (pv 0))) (toR (de_var 4 (pv 4))) (fun _ _ => rfl)))))))) m_in_order
theorem sc__law_cell : FnScope ["script", "k"] ["script", "k"] (defScope s__law_cell) := ⟨rfl, rfl, rfl, by decide +kernel, rfl, by decide +kernel, by decide +kernel⟩
theorem f__law_cell (Tx : Txt w K mg) : Fok P w K mg base "_law_cell" 1 ["script", "k"] (spCellS K) := by
  obtain ⟨fd, F⟩ := Tx.d__law_cell
  refine ⟨fd, F.ok sc__law_cell (fun vs H Q E ⟨v, k, e, _⟩ => by rw [e]; rfl) (fun cdv A outer s H vs Q E hr h => ⟨_, pss_cons (ps_if (pt_truth (pv 0) (by intro _; rfl)) (pss_one (ps_ret (pe_ix ix_list (pv 0) (pe_op op_mod (pv 1) (pe_callB call_len_seq (by rfl) Tx.n_len bt_len (pa_cons (pv 0) pa_nil))) (fun _ _ => rfl)))) pss_nil) (pss_one (ps_ret pe_int)), ?_⟩), F.bindsN (fun _ _ _ _ _ _ us hl => match us, hl with | [_, _], _ => rfl), F.kp, Tx.g__law_cell⟩
  obtain ⟨v, k, rfl, ⟨a, ns, rfl, hS⟩, q⟩ := h
  refine ⟨_, rfl, _, .inl ⟨_, hS, rfl⟩, ?_⟩
  cases ns with
  | nil => exact q 0
  | cons x r =>
    have hp : (0 : Int) < (((x :: r).map V.int).length : Nat) := by rw [List.length_map, List.length_cons]; omega
    have h0 := Int.emod_nonneg k (show (((((x :: r).map V.int).length : Nat) : Int)) ≠ 0 by omega)
    have h1 := Int.emod_lt_of_pos k hp
    obtain ⟨j, hj⟩ : ∃ j : Nat, k % (((x :: r).map V.int).length : Nat) = (j : Int) := ⟨(k % (((x :: r).map V.int).length : Nat)).toNat, by omega⟩
    have hjl : j < (x :: r).length := by rw [hj, List.length_map] at h1; omega
    refine ⟨_, rfl, _, rfl, _, rfl, a, _, rfl, .inl hS, _, _, rfl, rfl, hp, a, _, _, _, rfl, rfl, hS, ?_, q ((x :: r)[j])⟩
    show atI ((x :: r).map V.int) (k % (((x :: r).map V.int).length : Nat)) = _
    rw [hj]
    refine atI_nat ?_
    rw [List.getElem?_map, List.getElem?_eq_getElem hjl]
    rfl
theorem sc__law_mix : FnScope ["script", "k", "number"] ["script", "k"] (defScope s__law_mix) := ⟨rfl, rfl, rfl, by decide +kernel, rfl, by decide +kernel, by decide +kernel⟩
theorem f__law_mix (Tx : Txt w K mg) (h__law_cell : Fok P w K mg base "_law_cell" 1 ["script", "k"] (spCellS K)) : Fok P w K mg base "_law_mix" 2 ["script", "k"] (spMixS K) := by
  obtain ⟨fd, F⟩ := Tx.d__law_mix
  obtain ⟨fc, Fc, bc, kc, mc⟩ := h__law_cell
  refine ⟨fd, F.ok sc__law_mix (fun vs H Q E ⟨v, k, e, _⟩ => by rw [e]; rfl) (fun cdv A outer s H vs Q E hr h => ⟨_, pss_cons (ps_set (i := 2) sc__law_mix.nd rfl (Or.inl rfl) (pe_op op_mod (pe_op op_add (pe_callS (E := WE (Wd E)) Fc hr rfl mc kc bc (fun σ => passAt bTakes σ) (pa_cons (pv 0) (pa_cons (pv 1) pa_nil))) (pe_op op_mul pe_int (pe_op op_add (pv 1) pe_int))) pe_int))
    (pss_cons (ps_set (i := 2) sc__law_mix.nd rfl (Or.inl rfl) (pe_op op_mod (pe_op op_pow (pv 2) pe_int) pe_int))
    (pss_one (ps_ret (pe_op op_mod (pe_op op_add (pe_op op_mul (pe_op op_fdiv (pv 2) pe_int) pe_int) (pv 2)) pe_int)))), ?_⟩), F.bindsN (fun _ _ _ _ _ _ us hl => match us, hl with | [_, _], _ => rfl), F.kp, Tx.g__law_mix⟩
  obtain ⟨v, k, rfl, hS, k0, k1, q⟩ := h
  refine ⟨v, rfl, .int k, rfl, v, k, rfl, hS, fun i => ?_⟩
  refine ⟨.int k, rfl, _, _, rfl, rfl, _, _, rfl, rfl, .inl ⟨by decide, by decide⟩, _, _, rfl, rfl, _, _, rfl, rfl, (by show (0 : Int) < 4294967291; decide), ?_⟩
  have a0 := Int.emod_nonneg (i + 104729 * (k + 1)) (show (4294967291 : Int) ≠ 0 by decide)
  have a1 := Int.emod_lt_of_pos (i + 104729 * (k + 1)) (show (0 : Int) < 4294967291 by decide)
  refine ⟨.int ((i + 104729 * (k + 1)) % 4294967291), rfl, _, _, rfl, rfl, ⟨by decide, by decide, by omega⟩, _, _, rfl, rfl, (by show (0 : Int) < 4294967279; decide), ?_⟩
  refine ⟨.int (((i + 104729 * (k + 1)) % 4294967291) ^ (5 : Int).toNat % 4294967279), rfl, _, _, rfl, rfl, ⟨by decide, by decide⟩, _, _, rfl, rfl, .inr ⟨by decide, by decide⟩, .int (((i + 104729 * (k + 1)) % 4294967291) ^ (5 : Int).toNat % 4294967279), rfl, _, _, rfl, rfl, _, _, rfl, rfl, (by show (0 : Int) < 4294967231; decide), ?_⟩
  exact q _ (Int.emod_nonneg _ (by decide))
theorem sc__law_draw : FnScope ["script", "town", "many"] ["script", "town", "many"] (defScope s__law_draw) := ⟨rfl, rfl, rfl, by decide +kernel, rfl, by decide +kernel, by decide +kernel⟩
theorem f__law_draw (Tx : Txt w K mg) (h__law_mix : Fok P w K mg base "_law_mix" 2 ["script", "k"] (spMixS K)) : Fok P w K mg base "_law_draw" 3 ["script", "town", "many"] (spT K Sp__law_draw) := by
  obtain ⟨fd, F⟩ := Tx.d__law_draw
  obtain ⟨fc, Fc, bc, kc, mc⟩ := h__law_mix
  refine ⟨fd, F.ok sc__law_draw (fun vs H Q E ⟨S, t, us, n, v0, vs', ds, Qd, _, _, _, _, e, _, hv, ⟨m, em, _⟩, _⟩ => ?_) (fun cdv A outer s H vs Q E hr h => ⟨_, pss_cons (ps_expr (pe_bm PySem.F.plainAttrs_list PySem.F.slot_list_append PySem.F.type_list_append mt_append (pv 1) (pa_cons pe_int pa_nil)))
    (pss_one (ps_ret (pe_op op_mod (pe_op op_fdiv (pe_callS (E := WE (Wd E)) Fc hr rfl mc kc bc (fun σ => passAt bTakes σ) (pa_cons (pv 0) (pa_cons (pe_callB call_len_seq (by rfl) Tx.n_len bt_len (pa_cons (pv 1) pa_nil)) pa_nil))) pe_int) (pv 2)))), ?_⟩), F.bindsN (fun _ _ _ _ _ _ us hl => match us, hl with | [_, _, _], _ => rfl), F.kp, Tx.g__law_draw⟩
  · subst em
    obtain ⟨u, rfl, _⟩ := hv.one
    rw [e]
    rfl
  obtain ⟨S, t, us, n, v0, vs', ds, Qd, hS, ht, hu, hl, rfl, h0, hv, ⟨m, rfl, hm, hn, hq⟩, kq⟩ := h
  obtain ⟨u, rfl, hu1⟩ := hv.one
  cases hu1
  have keep : ∀ b o, b ≠ t → H b = some o → upd H t (.lst (us ++ [.int 0])) b = some o := fun b o nb hb => by rw [upd_ne nb]; exact hb
  have hsc : Scr K (upd H t (.lst (us ++ [.int 0]))) v0 := by
    refine Scr.mono (fun b o hb => ?_) h0
    obtain ⟨nb, hb⟩ := off_get hb
    exact keep b o (fun z => nb (by rw [z]; exact ht)) hb
  refine ⟨_, rfl, .inl ⟨rfl, _, .of hu⟩, t, us, .int 0, rfl, rfl, hu, by rw [sizeLine_eq]; omega, ?_⟩
  refine ⟨v0, rfl, _, rfl, t, _, rfl, .inl (.of upd_same), v0, _, rfl, hsc, by omega, by rw [List.length_append]; show ((us.length + 1 : Nat) : Int) ≤ _; omega, fun r hr0 => ?_⟩
  refine ⟨_, _, rfl, rfl, ⟨by decide, by decide⟩, .int m, rfl, _, _, rfl, rfl, hm, ?_⟩
  exact kq (.int (r / 8 % m)) (n + 1) _ _ _ (hq _ (Int.emod_nonneg _ (by omega)) (Int.emod_lt_of_pos _ hm)) keep upd_same (by rw [List.length_append]; show us.length + 1 ≤ _; omega) (.int _)
theorem sc__law_pick : FnScope ["script", "town", "some"] ["script", "town", "some"] (defScope s__law_pick) := ⟨rfl, rfl, rfl, by decide +kernel, rfl, by decide +kernel, by decide +kernel⟩
theorem f__law_pick (Tx : Txt w K mg) (h__law_draw : Fok P w K mg base "_law_draw" 3 ["script", "town", "many"] (spT K Sp__law_draw)) : Fok P w K mg base "_law_pick" 4 ["script", "town", "some"] (spT K Sp__law_pick) :=
  fokT_of (N := ["script", "town", "some"]) Tx.d__law_pick Tx.g__law_pick (fun _ _ _ _ _ _ us hl => match us, hl with | [_, _, _], _ => rfl) sc__law_pick (by intro n ds Q h; first | (obtain ⟨_, rfl, _⟩ := h; rfl) | (obtain ⟨_, _, rfl, _⟩ := h; rfl) | (obtain ⟨_, _, _, rfl, _⟩ := h; rfl) | (obtain ⟨_, _, _, _, rfl, _⟩ := h; rfl) | (obtain ⟨_, _, _, _, _, rfl, _⟩ := h; rfl) | (obtain ⟨_, _, _, _, _, _, rfl, _⟩ := h; rfl) | (obtain ⟨_, _, _, _, _, _, _, rfl, _⟩ := h; rfl) | (obtain ⟨_, _, _, _, _, _, _, _, rfl, _⟩ := h; rfl)) w__law_pick (fun cdv A outer s H E hr =>
    (dss_one (ds_ret (de_ix ix_seq ok_ix (toR (de_var 2 (pv 2))) (toR (de_fokT h__law_draw hr (by decide) rfl bTakes (pv 0) (pv 1) (da_cons (de_cb call_len ok_len rfl Tx.n_len bt_len (dr_cons (toR (de_var 2 (pv 2))) dr_nil)) da_nil))) (fun _ _ => rfl))))) m__law_pick
theorem sc__law_refusal : FnScope ["caught", "kinds"] ["caught"] (defScope s__law_refusal) := ⟨rfl, rfl, rfl, by decide +kernel, rfl, by decide +kernel, by decide +kernel⟩
theorem f__law_refusal (Tx : Txt w K mg)  : Fok P w K mg base "_law_refusal" 1 ["caught"] (spD K S7.Sp__law_refusal) :=
  fok_of (N := ["caught", "kinds"]) Tx.d__law_refusal Tx.g__law_refusal (fun _ _ _ _ _ _ us hl => match us, hl with | [_], _ => rfl) sc__law_refusal (by intro ds Q E h; rcases h with ⟨_, rfl, _⟩ | ⟨rfl, _⟩ <;> rfl) S7.w__law_refusal (fun cdv A outer s H E hr =>
    (dss_cons (ds_if (dt_cmp op_isN ok_isN (toR (de_var 0 (pv 0))) (toR de_non) (nomark _)) (dss_one (ds_ret (de_tup (da_cons de_str da_nil)))) dss_nil)
      (dss_cons (ds_setO (i := 1) sc__law_refusal.nd rfl (by first | exact Or.inl rfl | exact Or.inr rfl) (df_lst (da_cons (de_isx (C := "BadRows") Tx.xf (by decide +kernel) rfl Tx.n_isinstance (toR (de_var 0 (pv 0))) rfl Tx.x_BadRows.2) (da_cons (de_isx (C := "BadSign") Tx.xf (by decide +kernel) rfl Tx.n_isinstance (toR (de_var 0 (pv 0))) rfl Tx.x_BadSign.2) (da_cons (de_isx (C := "BadTold") Tx.xf (by decide +kernel) rfl Tx.n_isinstance (toR (de_var 0 (pv 0))) rfl Tx.x_BadTold.2) da_nil)))))
      (dss_cons (ds_setO (i := 1) sc__law_refusal.nd rfl (by first | exact Or.inl rfl | exact Or.inr rfl) (df_cat (de_pk 1 (pv 1)) (toR (de_lst (da_cons (de_isx (C := "BadNumber") Tx.xf (by decide +kernel) rfl Tx.n_isinstance (toR (de_var 0 (pv 0))) rfl Tx.x_BadNumber.2) (da_cons (de_isx (C := "NoSign") Tx.xf (by decide +kernel) rfl Tx.n_isinstance (toR (de_var 0 (pv 0))) rfl Tx.x_NoSign.2) (da_cons (de_isx (C := "BadText") Tx.xf (by decide +kernel) rfl Tx.n_isinstance (toR (de_var 0 (pv 0))) rfl Tx.x_BadText.2) da_nil)))))))
      (dss_cons (ds_app (pv 1) (de_isx (C := "Nothing") Tx.xf (by decide +kernel) rfl Tx.n_isinstance (toR (de_var 0 (pv 0))) rfl Tx.x_Nothing.2) (ps_expr (pe_bm PySem.F.plainAttrs_list PySem.F.slot_list_append PySem.F.type_list_append mt_append (pv 1) (pa_cons (de_isx (C := "Nothing") Tx.xf (by decide +kernel) rfl Tx.n_isinstance (toR (de_var 0 (pv 0))) rfl Tx.x_Nothing.2) pa_nil))))
      (dss_cons (ds_if (PW.pt (dt_or (dt_cmp (op_neD hr.units) ok_ne (toR (de_lcnt hr (de_pk 1 (pv 1)) (toR de_bl) (pe_bm PySem.F.plainAttrs_list PySem.F.slot_list_count PySem.F.type_list_count (mt_countD (hu65 hr)) (de_pk 1 (pv 1)) (pa_cons (toR de_bl) pa_nil)))) (toR de_int) (nomark _)) (dt_or1 (dt_not (dt_tru (toR (de_isv Tx.xf rfl Tx.n_isinstance (toR (de_var 0 (pv 0))) (pe_bltn (v := .ty "ValueError") rfl Tx.n_ValueError bt_ValueError rfl))) (by intro _; rfl)))))) (dss_one (ds_ret (de_tup (da_cons de_str da_nil)))) dss_nil)
      (dss_one (ds_ret (de_tup (da_cons de_str (da_cons (de_ix ix_seq ok_ix (toR (de_lst (da_cons de_str (da_cons de_str (da_cons de_str (da_cons de_str (da_cons de_str (da_cons de_str (da_cons de_str da_nil))))))))) (toR (de_lidx hr (de_pk 1 (pv 1)) (toR de_bl) (pe_bm PySem.F.plainAttrs_list PySem.F.slot_list_index PySem.F.type_list_index (mt_indexD (hu65 hr)) (de_pk 1 (pv 1)) (pa_cons (toR de_bl) pa_nil)))) (fun _ _ => rfl)) da_nil))))))))))) S7.m__law_refusal
theorem sc__law_rows : FnScope ["script", "town", "many", "most", "rows", "slow", "k", "here", "one"] ["script", "town", "many", "most"] (defScope s__law_rows) := ⟨rfl, rfl, rfl, by decide +kernel, rfl, by decide +kernel, by decide +kernel⟩
theorem f__law_rows (Tx : Txt w K mg) (h__law_draw : Fok P w K mg base "_law_draw" 3 ["script", "town", "many"] (spT K Sp__law_draw)) (h__law_pick : Fok P w K mg base "_law_pick" 4 ["script", "town", "some"] (spT K Sp__law_pick)) : Fok P w K mg base "_law_rows" 5 ["script", "town", "many", "most"] (spT K Sp__law_rows) :=
  fokT_of (N := ["script", "town", "many", "most", "rows", "slow", "k", "here", "one"]) Tx.d__law_rows Tx.g__law_rows (fun _ _ _ _ _ _ us hl => match us, hl with | [_, _, _, _], _ => rfl) sc__law_rows (by intro n ds Q h; first | (obtain ⟨_, rfl, _⟩ := h; rfl) | (obtain ⟨_, _, rfl, _⟩ := h; rfl) | (obtain ⟨_, _, _, rfl, _⟩ := h; rfl) | (obtain ⟨_, _, _, _, rfl, _⟩ := h; rfl) | (obtain ⟨_, _, _, _, _, rfl, _⟩ := h; rfl) | (obtain ⟨_, _, _, _, _, _, rfl, _⟩ := h; rfl) | (obtain ⟨_, _, _, _, _, _, _, rfl, _⟩ := h; rfl) | (obtain ⟨_, _, _, _, _, _, _, _, rfl, _⟩ := h; rfl)) w__law_rows (fun cdv A outer s H E hr =>
    (dss_cons (ds_setO (i := 4) sc__law_rows.nd rfl (by first | exact Or.inl rfl | exact Or.inr rfl) (df_lst (da_cons (de_ct call_tuple_of ok_tuple rfl Tx.n_tuple bt_tuple (dr_cons (toR (de_lc0 (own := [("k", 6)]) rfl sc__law_rows.nd (di_rng1 rfl Tx.n_range (da_cons (de_var 2 (pv 2)) da_nil)) (blkOk_by (own := [("k", 6)]) (by first | rfl | decide +kernel)) (okg_name 6) (fun _ _ _ _ _ => (pg_name (i := 6) sc__law_rows.nd rfl (by first | exact Or.inl rfl | exact Or.inr rfl))) (fun _ _ _ _ _ => (de_cmp (op_eqD hr.units) ok_eq (toR (de_fokT h__law_draw hr (by decide) rfl takes0 (pv 0) (pv 1) (da_cons de_int da_nil))) (toR de_int) (nomark _))))) dr_nil)) da_nil)))
      (dss_cons (ds_set (i := 5) sc__law_rows.nd rfl (by first | exact Or.inl rfl | exact Or.inr rfl) (de_fokT h__law_pick hr (by decide) rfl bTakes (pv 0) (pv 1) (da_cons (de_lst (da_cons de_int (da_cons de_int (da_cons de_int da_nil)))) da_nil)))
      (dss_cons (ds_for bPasses rfl (di_rng1 rfl Tx.n_range (da_cons (de_fokT h__law_draw hr (by decide) rfl bTakes (pv 0) (pv 1) (da_cons (de_var 3 (pv 3)) da_nil)) da_nil)) (pg_name (i := 6) sc__law_rows.nd rfl (by first | exact Or.inl rfl | exact Or.inr rfl)) (okg_name 6) (dss_cons (ds_set (i := 7) sc__law_rows.nd rfl (by first | exact Or.inl rfl | exact Or.inr rfl) (de_ix ix_seq ok_ix (de_pk 4 (pv 4)) (toR (de_bin op_sub ok_sub (toR (de_cb call_len ok_len rfl Tx.n_len bt_len (dr_cons (de_pk 4 (pv 4)) dr_nil))) (toR de_int))) (fun _ _ => rfl)))
      (dss_one (ds_app (pv 4) (de_ct call_tuple_of ok_tuple rfl Tx.n_tuple bt_tuple (dr_cons (toR (de_lc0 (own := [("one", 8)]) rfl sc__law_rows.nd (di_seq (de_var 7 (pv 7))) (blkOk_by (own := [("one", 8)]) (by first | rfl | decide +kernel)) (okg_name 8) (fun _ _ _ _ _ => (pg_name (i := 8) sc__law_rows.nd rfl (by first | exact Or.inl rfl | exact Or.inr rfl))) (fun _ _ _ _ _ => (de_cmp (op_neD hr.units) ok_ne (toR (de_var 8 (pv 8))) (toR (de_cmp (op_eqD hr.units) ok_eq (toR (de_fokT h__law_draw hr (by decide) rfl takes0 (pv 0) (pv 1) (da_cons (de_var 5 (pv 5)) da_nil))) (toR de_int) (nomark _))) (nomark _))))) dr_nil)) (ps_expr (pe_bm PySem.F.plainAttrs_list PySem.F.slot_list_append PySem.F.type_list_append mt_append (pv 4) (pa_cons (de_ct call_tuple_of ok_tuple rfl Tx.n_tuple bt_tuple (dr_cons (toR (de_lc0 (own := [("one", 8)]) rfl sc__law_rows.nd (di_seq (de_var 7 (pv 7))) (blkOk_by (own := [("one", 8)]) (by first | rfl | decide +kernel)) (okg_name 8) (fun _ _ _ _ _ => (pg_name (i := 8) sc__law_rows.nd rfl (by first | exact Or.inl rfl | exact Or.inr rfl))) (fun _ _ _ _ _ => (de_cmp (op_neD hr.units) ok_ne (toR (de_var 8 (pv 8))) (toR (de_cmp (op_eqD hr.units) ok_eq (toR (de_fokT h__law_draw hr (by decide) rfl takes0 (pv 0) (pv 1) (da_cons (de_var 5 (pv 5)) da_nil))) (toR de_int) (nomark _))) (nomark _))))) dr_nil)) pa_nil)))))))
      (dss_one (ds_rel 4 (ds_ret (de_var 4 (pv 4))))))))) m__law_rows
theorem sc__law_sign : FnScope ["script", "town", "many", "k"] ["script", "town", "many"] (defScope s__law_sign) := ⟨rfl, rfl, rfl, by decide +kernel, rfl, by decide +kernel, by decide +kernel⟩
theorem f__law_sign (Tx : Txt w K mg) (h__law_pick : Fok P w K mg base "_law_pick" 4 ["script", "town", "some"] (spT K Sp__law_pick)) : Fok P w K mg base "_law_sign" 5 ["script", "town", "many"] (spT K Sp__law_sign) :=
  fokT_of (N := ["script", "town", "many", "k"]) Tx.d__law_sign Tx.g__law_sign (fun _ _ _ _ _ _ us hl => match us, hl with | [_, _, _], _ => rfl) sc__law_sign (by intro n ds Q h; first | (obtain ⟨_, rfl, _⟩ := h; rfl) | (obtain ⟨_, _, rfl, _⟩ := h; rfl) | (obtain ⟨_, _, _, rfl, _⟩ := h; rfl) | (obtain ⟨_, _, _, _, rfl, _⟩ := h; rfl) | (obtain ⟨_, _, _, _, _, rfl, _⟩ := h; rfl) | (obtain ⟨_, _, _, _, _, _, rfl, _⟩ := h; rfl) | (obtain ⟨_, _, _, _, _, _, _, rfl, _⟩ := h; rfl) | (obtain ⟨_, _, _, _, _, _, _, _, rfl, _⟩ := h; rfl)) w__law_sign (fun cdv A outer s H E hr =>
    (dss_one (ds_ret (de_ct call_tuple_of ok_tuple rfl Tx.n_tuple bt_tuple (dr_cons (toR (de_lc0 (own := [("k", 3)]) rfl sc__law_sign.nd (di_rng1 rfl Tx.n_range (da_cons (de_var 2 (pv 2)) da_nil)) (blkOk_by (own := [("k", 3)]) (by first | rfl | decide +kernel)) (okg_name 3) (fun _ _ _ _ _ => (pg_name (i := 3) sc__law_sign.nd rfl (by first | exact Or.inl rfl | exact Or.inr rfl))) (fun _ _ _ _ _ => (de_fokT h__law_pick hr (by decide) rfl takes0 (pv 0) (pv 1) (da_cons (de_lst (da_cons de_non (da_cons de_non (da_cons de_str (da_cons de_str (da_cons de_str (da_cons de_str da_nil))))))) da_nil))))) dr_nil))))) m__law_sign
theorem sc__law_copy : FnScope ["thing", "one", "name"] ["thing"] (defScope s__law_copy) := ⟨rfl, rfl, rfl, by decide +kernel, rfl, by decide +kernel, by decide +kernel⟩
theorem f__law_copy_n (Tx : Txt w K mg) : ∀ n : Nat, Fok P w K mg base "_law_copy" (n + 1) ["thing"] (spP K tru (Spx_copy n))
  | 0 => fok_bot Tx.d__law_copy Tx.g__law_copy (fun _ _ _ _ _ _ us hl => match us, hl with | [_], _ => rfl) (fun vs H Q E ⟨_, _, _, _, _, _, ⟨_, _, z, _⟩, _⟩ => z.elim)
  | n + 1 => by
    have hp__law_copy := f__law_copy_n Tx n
    have h__law_copy := spP_D hp__law_copy
    exact fokP_of (N := ["thing", "one", "name"]) Tx.d__law_copy Tx.g__law_copy (fun _ _ _ _ _ _ us hl => match us, hl with | [_], _ => rfl) sc__law_copy (by intro ds Q E h; obtain ⟨_, rfl, _⟩ := h; rfl) (w__law_copyX n) (fun cdv A outer s H E hr =>
    (dss_cons (ds_if (dt_tru (toR (de_isi kit_lst (fun _ => rfl) (by decide) rfl Tx.n_isinstance (toR (de_var 0 (pv 0))) (pe_bltn (v := .ty "list") rfl Tx.n_list bt_list rfl))) (by intro _; rfl)) (dss_one (ds_retR (fe_lcP tru_ok (own := [("one", 1)]) rfl sc__law_copy.nd (di_seq (de_var 0 (pv 0))) (blkOk_by (own := [("one", 1)]) (by first | rfl | decide +kernel)) (okg_name 1) (fun _ _ _ _ _ => (pg_name (i := 1) sc__law_copy.nd rfl (by first | exact Or.inl rfl | exact Or.inr rfl))) (fun _ _ _ _ _ => (fe_fok hp__law_copy hr (Nat.le_refl _) rfl takes0 (da_cons (de_var 1 (pv 1)) da_nil)))))) dss_nil)
      (dss_cons (ds_if (dt_tru (toR (de_isi kit_tup (fun _ => rfl) (by decide) rfl Tx.n_isinstance (toR (de_var 0 (pv 0))) (pe_bltn (v := .ty "tuple") rfl Tx.n_tuple bt_tuple rfl))) (by intro _; rfl)) (dss_one (ds_retR (fe_tupof (fun _ _ => rfl) rfl Tx.n_tuple (fe_lcP tru_ok (own := [("one", 1)]) rfl sc__law_copy.nd (di_seq (de_var 0 (pv 0))) (blkOk_by (own := [("one", 1)]) (by first | rfl | decide +kernel)) (okg_name 1) (fun _ _ _ _ _ => (pg_name (i := 1) sc__law_copy.nd rfl (by first | exact Or.inl rfl | exact Or.inr rfl))) (fun _ _ _ _ _ => (fe_fok hp__law_copy hr (Nat.le_refl _) rfl takes0 (da_cons (de_var 1 (pv 1)) da_nil))))))) dss_nil)
      (dss_cons (ds_if (dt_tru (toR (de_isi kit_dct (fun _ => rfl) (by decide) rfl Tx.n_isinstance (toR (de_var 0 (pv 0))) (pe_bltn (v := .ty "dict") rfl Tx.n_dict bt_dict rfl))) (by intro _; rfl)) (dss_one (ds_retR (fe_dictP rfl rfl Tx.n_dict (toR (de_lc0 (own := [("name", 2)]) rfl sc__law_copy.nd (di_seq (de_lkeys rfl rfl Tx.n_list (toR (de_var 0 (pv 0))))) (blkOk_by (own := [("name", 2)]) (by first | rfl | decide +kernel)) (okg_name 2) (fun _ _ _ _ _ => (pg_name (i := 2) sc__law_copy.nd rfl (by first | exact Or.inl rfl | exact Or.inr rfl))) (fun _ _ _ _ _ => (de_tup (da_cons (de_var 2 (pv 2)) (da_cons (de_fok h__law_copy hr (Nat.le_refl _) rfl takes0 (da_cons (de_dget hr (toR (de_var 0 (pv 0))) (toR (de_var 2 (pv 2))) (fun _ _ => rfl)) da_nil)) da_nil))))))))) dss_nil)
      (dss_one (ds_retR (fe_n (de_var 0 (pv 0))))))))) (m__law_copyX n)
theorem fX__law_copy (Tx : Txt w K mg) : Fok P w K mg base "_law_copy" 9 ["thing"] (spP K tru (Spx_copy 8)) := f__law_copy_n Tx 8
theorem fP__law_copy (Tx : Txt w K mg) : Fok P w K mg base "_law_copy" 9 ["thing"] (spP K tru (Spn_copy 8)) := copyX_n (fX__law_copy Tx)
theorem sc__law_spoil : FnScope ["thing", "one", "name"] ["thing"] (defScope s__law_spoil) := ⟨rfl, rfl, rfl, by decide +kernel, rfl, by decide +kernel, by decide +kernel⟩
theorem f__law_spoil_n (Tx : Txt w K mg) : ∀ n : Nat, Fok P w K mg base "_law_spoil" (n + 1) ["thing"] (spSpx K n)
  | 0 => fok_bot Tx.d__law_spoil Tx.g__law_spoil (fun _ _ _ _ _ _ us hl => match us, hl with | [_], _ => rfl) (fun vs H Q E ⟨_, _, _, _, _, _, _, z, _⟩ => by cases z)
  | n + 1 => by
    obtain ⟨f1, F1, b1, k1, m1⟩ := f__law_spoil_n Tx n
    obtain ⟨fd, F⟩ := Tx.d__law_spoil
    exact ⟨fd, F.ok sc__law_spoil (fun vs H Q E ⟨_, _, _, _, e, _⟩ => by rw [e]; rfl) (fun cdv A outer s H vs Q E hr h => ⟨_, pss_cons (ps_if (PW.pt (pw_or (pt_truth (pe_callB call_isi rfl Tx.n_isinstance (by decide +kernel) (pa_cons (pv 0) (pa_cons (pe_bltn (v := .ty "list") rfl Tx.n_list bt_list rfl) pa_nil))) (by intro _; rfl)) (pw_or1 (pt_truth (pe_callB call_isi rfl Tx.n_isinstance (by decide +kernel) (pa_cons (pv 0) (pa_cons (pe_bltn (v := .ty "tuple") rfl Tx.n_tuple bt_tuple rfl) pa_nil))) (by intro _; rfl))))) (pss_one (ps_for bPasses rfl (pi_seq (pe_callTy call_list_of rfl Tx.n_list bt_list (pa_cons (pv 0) pa_nil))) (pg_name (i := 1) sc__law_spoil.nd rfl (by first | exact Or.inl rfl | exact Or.inr rfl))
      (pss_one (ps_expr (pe_callS (E := WE (Wd E)) F1 (hr.mono (Nat.le_refl _)) rfl m1 k1 b1 (fun σ => passAt bTakes σ) (pa_cons (pv 1) pa_nil)))))) pss_nil)
    (pss_cons (ps_if (pt_truth (pe_callB call_isi rfl Tx.n_isinstance (by decide +kernel) (pa_cons (pv 0) (pa_cons (pe_bltn (v := .ty "list") rfl Tx.n_list bt_list rfl) pa_nil))) (by intro _; rfl)) (pss_one (ps_expr (pe_bm PySem.F.plainAttrs_list PySem.F.slot_list_append PySem.F.type_list_append mt_append (pv 0) (pa_cons pe_str pa_nil)))) pss_nil)
    (pss_one (ps_if (pt_truth (pe_callB call_isi rfl Tx.n_isinstance (by decide +kernel) (pa_cons (pv 0) (pa_cons (pe_bltn (v := .ty "dict") rfl Tx.n_dict bt_dict rfl) pa_nil))) (by intro _; rfl)) (pss_cons (ps_for bPasses rfl (pi_seq (pe_callTy (cr_listKv rfl) rfl Tx.n_list bt_list (pa_cons (pe_keys (pv 0)) pa_nil))) (pg_name (i := 2) sc__law_spoil.nd rfl (by first | exact Or.inl rfl | exact Or.inr rfl))
      (pss_one (ps_expr (pe_callS (E := WE (Wd E)) F1 (hr.mono (Nat.le_refl _)) rfl m1 k1 b1 (fun σ => passAt bTakes σ) (pa_cons (pe_dget (hu_of hr) (pv 0) (pv 2) (fun _ _ => rfl)) pa_nil))))) (pss_one (ps_dput (hu_of hr) (pv 0) pe_str pe_int rfl))) pss_nil))), spx_rd h⟩), F.bindsN (fun _ _ _ _ _ _ us hl => match us, hl with | [_], _ => rfl), F.kp, Tx.g__law_spoil⟩
theorem fX__law_spoil (Tx : Txt w K mg) : Fok P w K mg base "_law_spoil" 9 ["thing"] (spSpx K 8) := f__law_spoil_n Tx 8
theorem f__law_spoil (Tx : Txt w K mg) : Fok P w K mg base "_law_spoil" 9 ["thing"] (spSpl K 8) := spl_of (fX__law_spoil Tx)
theorem sc__law_again : FnScope ["kind", "some", "before", "found", "due"] ["kind", "some"] (defScope s__law_again) := ⟨rfl, rfl, rfl, by decide +kernel, rfl, by decide +kernel, by decide +kernel⟩
theorem f__law_again (Tx : Txt w K mg) (h__law_spoil : Fok P w K mg base "_law_spoil" 9 ["thing"] (spSpl K 8)) (hp__law_copy : Fok P w K mg base "_law_copy" 9 ["thing"] (spP K tru (Spn_copy 8))) (hp__law_told : Fok P w K mg base "_law_told" 7 ["kind", "some"] (spP K tru Sp__law_told)) : Fok P w K mg base "_law_again" 10 ["kind", "some"] (spD K Sp__law_again) := by
  obtain ⟨fd, F⟩ := Tx.d__law_again
  obtain ⟨f1, F1, b1, k1, m1⟩ := hp__law_copy
  obtain ⟨f2, F2, b2, k2, m2⟩ := hp__law_told
  obtain ⟨f3, F3, b3, k3, m3⟩ := h__law_spoil
  refine ⟨fd, F.ok sc__law_again (fun vs H Q E ⟨_, _, _, _, _, hv, ⟨_, _, _, e, _⟩, _⟩ => by subst e; rw [hv.length]; rfl) (fun cdv A outer s H vs Q E hr h => ⟨_, pss_cons (ps_set (i := 2) sc__law_again.nd rfl (by first | exact Or.inl rfl | exact Or.inr rfl) (pe_callS (E := WE (Wd E)) F1 (hr.mono (by decide)) rfl m1 k1 b1 (fun σ => passAt bTakes σ) (pa_cons (pv 1) pa_nil))) (pss_cons (ps_set (i := 3) sc__law_again.nd rfl (by first | exact Or.inl rfl | exact Or.inr rfl) (pe_callS (E := WE (Wd E)) F2 (hr.mono (by decide)) rfl m2 k2 b2 (fun σ => passAt bTakes σ) (pa_cons (pv 0) (pa_cons (pv 1) pa_nil)))) (pss_cons (ps_set (i := 4) sc__law_again.nd rfl (by first | exact Or.inl rfl | exact Or.inr rfl) (pe_callS (E := WE (Wd E)) F1 (hr.mono (by decide)) rfl m1 k1 b1 (fun σ => passAt bTakes σ) (pa_cons (pv 3) pa_nil))) (pss_cons (ps_expr (pe_callS (E := WE (Wd E)) F3 (hr.mono (by decide)) rfl m3 k3 b3 (fun σ => passAt bTakes σ) (pa_cons (pv 3) pa_nil)))
    (pss_one (ps_ret (pe_andT (pe_cmpR (op_eqD hr.units) (pv 1) (pv 2) (nomark _)) (pe_andT (pe_cmpR (op_eqD hr.units) (pe_callS (E := WE (Wd E)) F2 (hr.mono (by decide)) rfl m2 k2 b2 (fun σ => passAt bTakes σ) (pa_cons (pv 0) (pa_cons (pv 1) pa_nil))) (pv 4) (nomark _)) (pe_one (pe_cmpR (op_eqD hr.units) (pv 1) (pv 2) (nomark _)))))))))), again_rd h⟩), F.bindsN (fun _ _ _ _ _ _ us hl => match us, hl with | [_, _], _ => rfl), F.kp, Tx.g__law_again⟩
theorem sc__law_one : FnScope ["kind", "some", "rows", "signs", "gaps"] ["kind", "some"] (defScope s__law_one) := ⟨rfl, rfl, rfl, by decide +kernel, rfl, by decide +kernel, by decide +kernel⟩
theorem fP__law_one (Tx : Txt w K mg) (h_longest : Fok P w K mg base "longest" 4 ["rows", "sign", "gap"] (spD K Sp_longest)) (hp_chained : Fok P w K mg base "chained" 5 ["rows", "signs", "gaps"] (spP K pL Sp_chained)) (hp_witness : Fok P w K mg base "witness" 5 ["rows", "signs", "gaps", "tick"] (spP K pL Sp_witness)) : Fok P w K mg base "_law_one" 6 ["kind", "some"] (spP K tru Sp__law_one) :=
  fokP_of (N := ["kind", "some", "rows", "signs", "gaps"]) Tx.d__law_one Tx.g__law_one (fun _ _ _ _ _ _ us hl => match us, hl with | [_, _], _ => rfl) sc__law_one (by intro ds Q E h; first | (obtain ⟨_, rfl, _⟩ := h; rfl) | (obtain ⟨_, _, rfl, _⟩ := h; rfl) | (obtain ⟨_, _, _, rfl, _⟩ := h; rfl) | (obtain ⟨_, _, _, _, rfl, _⟩ := h; rfl) | (obtain ⟨_, _, _, _, _, rfl, _⟩ := h; rfl) | (obtain ⟨_, _, _, _, _, _, rfl, _⟩ := h; rfl) | (obtain ⟨_, _, _, _, _, _, _, rfl, _⟩ := h; rfl) | (obtain ⟨_, _, _, _, _, _, _, _, rfl, _⟩ := h; rfl)) w__law_one (fun cdv A outer s H E hr =>
    (dss_cons (ds_asg (de_var 1 (pv 1)) (pg_lst rfl (pgs_cons (pg_name (i := 2) sc__law_one.nd rfl (by first | exact Or.inl rfl | exact Or.inr rfl)) (pgs_cons (pg_name (i := 3) sc__law_one.nd rfl (by first | exact Or.inl rfl | exact Or.inr rfl)) (pgs_cons (pg_name (i := 4) sc__law_one.nd rfl (by first | exact Or.inl rfl | exact Or.inr rfl)) pgs_nil)))) (okg_lst (okg_cons (okg_name 2) (okg_cons (okg_name 3) (okg_cons (okg_name 4) okg_nil)))))
      (dss_cons (ds_if (dt_cmp (op_eqD hr.units) ok_eq (toR (de_var 0 (pv 0))) (toR de_int) (nomark _)) (dss_one (ds_retR (fe_up (fe_fok hp_chained hr (by decide) rfl bTakes (da_cons (de_var 2 (pv 2)) (da_cons (de_var 3 (pv 3)) (da_cons (de_var 4 (pv 4)) da_nil))))))) dss_nil)
      (dss_one (ds_retR (fe_if (dt_cmp (op_eqD hr.units) ok_eq (toR (de_var 0 (pv 0))) (toR de_int) (nomark _)) (fe_up (fe_fok hp_witness hr (by decide) rfl bTakes (da_cons (de_var 2 (pv 2)) (da_cons (de_var 3 (pv 3)) (da_cons (de_var 4 (pv 4)) (da_cons (de_bin op_sub ok_sub (toR (de_cb call_len ok_len rfl Tx.n_len bt_len (dr_cons (toR (de_var 2 (pv 2))) dr_nil))) (toR de_int)) da_nil)))))) (fe_un h_longest hr (by decide) rfl bTakes (da_cons (de_var 2 (pv 2)) (da_cons (de_ix ix_seq ok_ix (toR (de_var 3 (pv 3))) (toR de_int) (fun _ _ => rfl)) (da_cons de_int da_nil)))))))))) m__law_one
theorem f__law_one (Tx : Txt w K mg) (h_longest : Fok P w K mg base "longest" 4 ["rows", "sign", "gap"] (spD K Sp_longest)) (hp_chained : Fok P w K mg base "chained" 5 ["rows", "signs", "gaps"] (spP K pL Sp_chained)) (hp_witness : Fok P w K mg base "witness" 5 ["rows", "signs", "gaps", "tick"] (spP K pL Sp_witness)) : Fok P w K mg base "_law_one" 6 ["kind", "some"] (spD K Sp__law_one) := spP_D (fP__law_one Tx h_longest hp_chained hp_witness)
theorem sc__law_told : FnScope ["kind", "some", "caught", "found", "e"] ["kind", "some"] (defScope s__law_told) := ⟨rfl, rfl, rfl, by decide +kernel, rfl, by decide +kernel, by decide +kernel⟩
theorem fP__law_told (Tx : Txt w K mg) (h__law_refusal : Fok P w K mg base "_law_refusal" 1 ["caught"] (spD K S7.Sp__law_refusal)) (hp__law_one : Fok P w K mg base "_law_one" 6 ["kind", "some"] (spP K tru Sp__law_one)) : Fok P w K mg base "_law_told" 7 ["kind", "some"] (spP K tru Sp__law_told) := by
  obtain ⟨fd, F⟩ := Tx.d__law_told
  obtain ⟨f1, F1, b1, k1, m1⟩ := hp__law_one
  obtain ⟨f2, F2, b2, k2, m2⟩ := h__law_refusal
  refine ⟨fd, F.ok sc__law_told (fun vs H Q E ⟨_, _, _, _, _, hv, ⟨⟨_, _, e⟩, _⟩, _⟩ => by subst e; rw [hv.length]; rfl) (fun cdv A outer s H vs Q E hr h => ⟨_, pss_cons (ps_set (i := 2) sc__law_told.nd rfl (by first | exact Or.inl rfl | exact Or.inr rfl) pe_non) (pss_cons (ps_set (i := 3) sc__law_told.nd rfl (by first | exact Or.inl rfl | exact Or.inr rfl) pe_non)
    (pss_cons (ps_try_keep (c := .ref (He.ga K "SignError")) (tb := fun W => tAsg (tCallS (spP K tru Sp__law_one) (WE W) (tCons (tVar 0) (tCons (tVar 1) tNil))) (gName 3)) (ts := fun _ => tAsg (tVar 4) (gName 2)) rfl rfl rfl sc__law_told.nd rfl rfl ⟨rfl, by decide +kernel, .inl Tx.g_SignError⟩
      (fun W pn xe tk hp => pss_one (ps_set (i := 3) sc__law_told.nd rfl (by first | exact Or.inl rfl | exact Or.inr rfl) (pe_callS (E := WE W) F1 (hr.mono (by decide)) rfl m1 k1 b1 (fun σ => passAt tk σ) (pa_cons (pv 0) (pa_cons (pv 1) pa_nil))))) (fun a pn => pss_one (ps_set (i := 2) sc__law_told.nd rfl (by first | exact Or.inl rfl | exact Or.inr rfl) (pv 4))))
    (pss_one (ps_ret (pe_ifExp (pt_cmpR op_isN (pv 2) pe_non (nomark _)) (pe_tup (pa_cons pe_str (pa_cons (pv 3) pa_nil))) (pe_callS (E := WE (Wd E)) F2 (hr.mono (by decide)) rfl m2 k2 b2 (fun σ => passAt bTakes σ) (pa_cons (pv 2) pa_nil))))))), toldF_rd Tx.xf h⟩), F.bindsN (fun _ _ _ _ _ _ us hl => match us, hl with | [_, _], _ => rfl), F.kp, Tx.g__law_told⟩
theorem sc___init__ : FnScope ["self", "many"] ["self", "many"] (defScope s___init__) := ⟨rfl, rfl, rfl, by decide +kernel, rfl, by decide +kernel, by decide +kernel⟩
theorem f___init__ (Tx : Txt w K mg) (h_all_signs : Fok P w K mg base "all_signs" 1 ["menus"] (spD K Sp_all_signs)) (h_in_order : Fok P w K mg base "in_order" 2 ["signs"] (spD K Sp_in_order)) (h_is_whole : Fok P w K mg base "is_whole" 1 ["thing", "low", "most"] (spD K Sp_is_whole)) : Iok P w K mg base 3 ["self", "many"] (spI K Sp___init__) := by
  obtain ⟨fd, F⟩ := Tx.m___init__
  refine ⟨fd, F.ok sc___init__ (fun vs H Q E ⟨S, a, dx, vs', ds, Qd, Ed, _, e, _, _, _, _, _, hv, h, _⟩ => by
      obtain ⟨_, ed, _⟩ := h
      subst ed
      obtain ⟨_, rfl, _⟩ := hv.one
      rw [e]; rfl) (fun cdv A outer s H vs Q E hr h => ⟨_, pss_cons (ps_if (dt_not (dt_tru (toR (de_fok h_is_whole hr (by decide) rfl bTakes (da_cons (de_var 1 (pv 1)) (da_cons de_int (da_cons (de_gi Tx.c_MOST_BENCH_LINES) da_nil))))) (by intro _; rfl))) (pss_one (ds_raiseX rfl bTakes Tx.x_BadNumber.1 Tx.x_BadNumber.2 rfl)) pss_nil) (pss_cons (ps_fld (pv 0) (pv 1) rfl) (pss_cons (ps_fld (pv 0) (de_fok h_in_order hr (by decide) rfl bTakes (da_cons (de_fok h_all_signs hr (by decide) rfl bTakes (da_cons (de_bin op_mul3 ok_mul (toR (de_lst (da_cons (de_bin op_add4 ok_add (toR (de_lst (da_cons de_non da_nil))) (toR (de_ct call_list_of ok_list rfl Tx.n_list bt_list (dr_cons (toR (de_gr Tx.c_HOLDS)) dr_nil)))) da_nil))) (toR (de_var 1 (pv 1)))) da_nil)) da_nil)) rfl)
    (pss_cons (ps_fld (pv 0) (pe_tup (pa_cons (pe_tup pa_nil) (pa_cons (pe_tupX pa_nil) pa_nil))) rfl) (pss_cons (ps_fld (pv 0) (pe_lst pa_nil) rfl) (pss_one (ps_fld (pv 0) (pe_lst pa_nil) rfl)))))), init_rd Tx.ben m_init h⟩), F.bindsN (fun _ _ _ _ _ _ us hl => match us, hl with | [_, _], _ => rfl), Tx.mkr, Tx.g_Bench⟩
theorem sc_go : FnScope ["self", "seen", "marked"] ["self", "seen", "marked"] (defScope s_go) := ⟨rfl, rfl, rfl, by decide +kernel, rfl, by decide +kernel, by decide +kernel⟩
theorem f_go (Tx : Txt w K mg) : Mok P w K mg base "go" 1 ["self", "seen", "marked"] (spX K Sp_go) := by
  obtain ⟨fd, F⟩ := Tx.m_go
  refine ⟨fd, F.ok sc_go (fun vs H Q E ⟨S, a, r, fp, v1, v2, d1, d2, Qd, Ed, _, e, _⟩ => by rw [e]; rfl) (fun cdv A outer s H vs Q E hr h => ⟨_, pss_cons (ps_expr (pe_bm PySem.F.plainAttrs_list PySem.F.slot_list_append PySem.F.type_list_append mt_append (pe_fld (pv 0) rfl) (pa_cons (pe_fld (pv 0) rfl) pa_nil)))
    (pss_cons (ps_fld (pv 0) (pe_lst pa_nil) rfl) (pss_one (ps_fld (pv 0) (pe_tup (pa_cons (pv 1) (pa_cons (pv 2) pa_nil))) rfl))), go_rd Tx.ben h⟩), F.bindsN (fun _ _ _ _ _ _ us hl => match us, hl with | [_, _, _], _ => rfl), Tx.y_go⟩
theorem sc_see : FnScope ["self", "levels"] ["self", "levels"] (defScope s_see) := ⟨rfl, rfl, rfl, by decide +kernel, rfl, by decide +kernel, by decide +kernel⟩
theorem f_see (Tx : Txt w K mg) (h_are_levels : Fok P w K mg base "are_levels" 1 ["thing", "many"] (spD K Sp_are_levels)) (hm_go : Mok P w K mg base "go" 1 ["self", "seen", "marked"] (spX K Sp_go)) : Mok P w K mg base "see" 2 ["self", "levels"] (spG K Sp_see) :=
  mokG_of (N := ["self", "levels"]) Tx.m_see Tx.y_see (fun _ _ _ _ _ _ us hl => match us, hl with | [_, _], _ => rfl) sc_see (by intro r ds Q E h; first | (obtain ⟨_, rfl, _⟩ := h; rfl) | (obtain ⟨_, _, rfl, _⟩ := h; rfl) | (obtain ⟨_, _, _, rfl, _⟩ := h; rfl) | (obtain ⟨_, _, _, _, rfl, _⟩ := h; rfl) | (obtain ⟨_, _, _, _, _, rfl, _⟩ := h; rfl) | (obtain ⟨_, _, _, _, _, _, rfl, _⟩ := h; rfl) | (obtain ⟨_, _, _, _, _, _, _, rfl, _⟩ := h; rfl) | (obtain ⟨_, _, _, _, _, _, _, _, rfl, _⟩ := h; rfl)) w_see (fun cdv A outer s H E hr =>
    (dss_cons (ds_if (PW.pt (dt_or (dt_not (dt_tru (toR (de_fok h_are_levels hr (by decide) rfl bTakes (da_cons (de_var 1 (pv 1)) (da_cons (de_fld 0 .many Tx.ben (pv 0)) da_nil)))) (by intro _; rfl))) (dt_or1 (dt_cmp (op_eqD hr.units) ok_eq (toR (de_cb call_len ok_len rfl Tx.n_len bt_len (dr_cons (toR (de_ix ix_seq ok_ix (toR (de_fld 0 .now Tx.ben (pv 0))) (toR de_int) (fun _ _ => rfl))) dr_nil))) (toR (de_gi Tx.c_MOST_ROWS)) (nomark _))))) (dss_one (ds_raiseX rfl bTakes Tx.x_BadRows.1 Tx.x_BadRows.2 rfl)) dss_nil)
      (dss_one (ds_go hm_go Tx.ben hr (by decide) bTakes (pv 0) (de_bin op_add4 ok_add (toR (de_ix ix_seq ok_ix (toR (de_fld 0 .now Tx.ben (pv 0))) (toR de_int) (fun _ _ => rfl))) (toR (de_tup (da_cons (de_var 1 (pv 1)) da_nil)))) (dx_now Tx.ben (pv 0)) (pl := _))))) m_see
theorem sc_mark : FnScope ["self", "tick", "is_wanted", "rest", "one"] ["self", "tick", "is_wanted"] (defScope s_mark) := ⟨rfl, rfl, rfl, by decide +kernel, rfl, by decide +kernel, by decide +kernel⟩
theorem f_mark (Tx : Txt w K mg) (h_look_tick : Fok P w K mg base "look_tick" 2 ["rows", "tick"] (spD K Sp_look_tick)) (hm_go : Mok P w K mg base "go" 1 ["self", "seen", "marked"] (spX K Sp_go)) : Mok P w K mg base "mark" 3 ["self", "tick", "is_wanted"] (spG K Sp_mark) :=
  mokG_of (N := ["self", "tick", "is_wanted", "rest", "one"]) Tx.m_mark Tx.y_mark (fun _ _ _ _ _ _ us hl => match us, hl with | [_, _, _], _ => rfl) sc_mark (by intro r ds Q E h; first | (obtain ⟨_, rfl, _⟩ := h; rfl) | (obtain ⟨_, _, rfl, _⟩ := h; rfl) | (obtain ⟨_, _, _, rfl, _⟩ := h; rfl) | (obtain ⟨_, _, _, _, rfl, _⟩ := h; rfl) | (obtain ⟨_, _, _, _, _, rfl, _⟩ := h; rfl) | (obtain ⟨_, _, _, _, _, _, rfl, _⟩ := h; rfl) | (obtain ⟨_, _, _, _, _, _, _, rfl, _⟩ := h; rfl) | (obtain ⟨_, _, _, _, _, _, _, _, rfl, _⟩ := h; rfl)) w_mark (fun cdv A outer s H E hr =>
    (dss_cons (ds_expr (de_fok h_look_tick hr (by decide) rfl bTakes (da_cons (de_ix ix_seq ok_ix (toR (de_fld 0 .now Tx.ben (pv 0))) (toR de_int) (fun _ _ => rfl)) (da_cons (de_var 1 (pv 1)) da_nil))))
      (dss_cons (ds_if (dt_not (dt_tru (toR (de_isi kit_bool (fun _ => rfl) (by decide) rfl Tx.n_isinstance (toR (de_var 2 (pv 2))) (pe_bltn (v := .ty "bool") rfl Tx.n_bool bt_bool rfl))) (by intro _; rfl))) (dss_one (ds_raiseX rfl bTakes Tx.x_BadNumber.1 Tx.x_BadNumber.2 rfl)) dss_nil)
      (dss_cons (ds_lcIf (i := 3) (own := [("one", 4)]) rfl sc_mark.nd rfl rfl (sw_true rfl rfl rfl (by decide +kernel)) (di_seq (de_ix ix_seq ok_ix (toR (de_fld 0 .now Tx.ben (pv 0))) (toR de_int) (fun _ _ => rfl))) (blkOk_by (own := [("one", 4)]) (by first | rfl | decide +kernel)) (okg_name 4) (fun _ _ _ _ _ => (pg_name (i := 4) sc_mark.nd rfl (by first | exact Or.inl rfl | exact Or.inr rfl))) (fun _ _ _ _ _ => pts_one (dt_cmp (op_neD hr.units) ok_ne (toR (de_ix ix_seq ok_ix (toR (de_var 4 (pv 4))) (toR de_int) (fun _ _ => rfl))) (toR (de_var 1 (pv 1))) (nomark _))) (fun _ _ _ _ _ => (de_var 4 (pv 4))))
      (dss_one (ds_go hm_go Tx.ben hr (by decide) bTakes (pv 0) (de_ix ix_seq ok_ix (toR (de_fld 0 .now Tx.ben (pv 0))) (toR de_int) (fun _ _ => rfl)) (dx_tup rfl Tx.n_tuple (toR (de_cb (cr_sortD (hu65 hr)) ok_sort rfl Tx.n_sorted bt_sorted (dr_cons (toR (de_bin op_add4 ok_add (toR (de_var 3 (pv 3))) (toR (de_lst (da_cons (de_tup (da_cons (de_var 1 (pv 1)) (da_cons (de_var 2 (pv 2)) da_nil))) da_nil))))) dr_nil)))) (pl := _))))))) m_mark
theorem sc_undo : FnScope ["self"] ["self"] (defScope s_undo) := ⟨rfl, rfl, rfl, by decide +kernel, rfl, by decide +kernel, by decide +kernel⟩
theorem f_undo (Tx : Txt w K mg) : Mok P w K mg base "undo" 1 ["self"] (spM K Sp_undo) := by
  obtain ⟨fd, F⟩ := Tx.m_undo
  refine ⟨fd, F.ok sc_undo (fun vs H Q E ⟨S, a, r, fp, vs', ds, Qd, Ed, _, e, _, _, _, hv, ⟨ed, _⟩, _⟩ => by subst ed; cases hv; rw [e]; rfl) (fun cdv A outer s H vs Q E hr h => ⟨_, pss_cons (ps_if (pt_not (pt_truth (pe_fld (pv 0) rfl) (by intro _; rfl))) (pss_one (ps_ret pe_bl)) pss_nil) (pss_cons (ps_expr (pe_bm PySem.F.plainAttrs_list PySem.F.slot_list_append PySem.F.type_list_append mt_append (pe_fld (pv 0) rfl) (pa_cons (pe_fld (pv 0) rfl) pa_nil)))
    (pss_cons (ps_fld (pv 0) (pe_bm0 PySem.F.plainAttrs_list PySem.F.slot_list_pop PySem.F.type_list_pop mt_pop (pe_fld (pv 0) rfl)) rfl) (pss_one (ps_ret pe_bl)))), undo_rd Tx.ben h⟩), F.bindsN (fun _ _ _ _ _ _ us hl => match us, hl with | [_], _ => rfl), Tx.y_undo⟩
theorem sc_seen : FnScope ["self"] ["self"] (defScope s_seen) := ⟨rfl, rfl, rfl, by decide +kernel, rfl, by decide +kernel, by decide +kernel⟩
theorem fMP_seen (Tx : Txt w K mg)  : Mok P w K mg base "seen" 1 ["self"] (spVP K pL Sp_seen) :=
  mokVP_of (N := ["self"]) Tx.m_seen Tx.y_seen (fun _ _ _ _ _ _ us hl => match us, hl with | [_], _ => rfl) sc_seen (by intro r ds Q E h; first | (obtain ⟨_, rfl, _⟩ := h; rfl) | (obtain ⟨_, _, rfl, _⟩ := h; rfl) | (obtain ⟨_, _, _, rfl, _⟩ := h; rfl) | (obtain ⟨_, _, _, _, rfl, _⟩ := h; rfl) | (obtain ⟨_, _, _, _, _, rfl, _⟩ := h; rfl) | (obtain ⟨_, _, _, _, _, _, rfl, _⟩ := h; rfl) | (obtain ⟨_, _, _, _, _, _, _, rfl, _⟩ := h; rfl) | (obtain ⟨_, _, _, _, _, _, _, _, rfl, _⟩ := h; rfl)) w_seen (fun cdv A outer s H E hr =>
    (dss_one (ds_retR (fe_lof (fun _ h => h) rfl Tx.n_list (toR (de_ix ix_seq ok_ix (toR (de_fld 0 .now Tx.ben (pv 0))) (toR de_int) (fun _ _ => rfl))))))) m_seen
theorem f_seen (Tx : Txt w K mg)  : Mok P w K mg base "seen" 1 ["self"] (spV K Sp_seen) := mokVP_V (fMP_seen Tx )
theorem sc_marks : FnScope ["self"] ["self"] (defScope s_marks) := ⟨rfl, rfl, rfl, by decide +kernel, rfl, by decide +kernel, by decide +kernel⟩
theorem fMP_marks (Tx : Txt w K mg)  : Mok P w K mg base "marks" 1 ["self"] (spVP K pD Sp_marks) :=
  mokVP_of (N := ["self"]) Tx.m_marks Tx.y_marks (fun _ _ _ _ _ _ us hl => match us, hl with | [_], _ => rfl) sc_marks (by intro r ds Q E h; first | (obtain ⟨_, rfl, _⟩ := h; rfl) | (obtain ⟨_, _, rfl, _⟩ := h; rfl) | (obtain ⟨_, _, _, rfl, _⟩ := h; rfl) | (obtain ⟨_, _, _, _, rfl, _⟩ := h; rfl) | (obtain ⟨_, _, _, _, _, rfl, _⟩ := h; rfl) | (obtain ⟨_, _, _, _, _, _, rfl, _⟩ := h; rfl) | (obtain ⟨_, _, _, _, _, _, _, rfl, _⟩ := h; rfl) | (obtain ⟨_, _, _, _, _, _, _, _, rfl, _⟩ := h; rfl)) w_marks (fun cdv A outer s H E hr =>
    (dss_one (ds_retR (fe_dictX rfl rfl Tx.n_dict (dx_now Tx.ben (pv 0)))))) m_marks
theorem f_marks (Tx : Txt w K mg)  : Mok P w K mg base "marks" 1 ["self"] (spV K Sp_marks) := mokVP_V (fMP_marks Tx )
theorem sc_fitting : FnScope ["self", "rows", "sign", "tick", "good"] ["self"] (defScope s_fitting) := ⟨rfl, rfl, rfl, by decide +kernel, rfl, by decide +kernel, by decide +kernel⟩
theorem fMP_fitting (Tx : Txt w K mg) (h_fits : Fok P w K mg base "fits" 2 ["rows", "tick", "sign"] (spD K Sp_fits)) : Mok P w K mg base "fitting" 3 ["self"] (spVP K pL Sp_fitting) :=
  mokVP_of (N := ["self", "rows", "sign", "tick", "good"]) Tx.m_fitting Tx.y_fitting (fun _ _ _ _ _ _ us hl => match us, hl with | [_], _ => rfl) sc_fitting (by intro r ds Q E h; first | (obtain ⟨_, rfl, _⟩ := h; rfl) | (obtain ⟨_, _, rfl, _⟩ := h; rfl) | (obtain ⟨_, _, _, rfl, _⟩ := h; rfl) | (obtain ⟨_, _, _, _, rfl, _⟩ := h; rfl) | (obtain ⟨_, _, _, _, _, rfl, _⟩ := h; rfl) | (obtain ⟨_, _, _, _, _, _, rfl, _⟩ := h; rfl) | (obtain ⟨_, _, _, _, _, _, _, rfl, _⟩ := h; rfl) | (obtain ⟨_, _, _, _, _, _, _, _, rfl, _⟩ := h; rfl)) w_fitting (fun cdv A outer s H E hr =>
    (dss_cons (ds_set (i := 1) sc_fitting.nd rfl (by first | exact Or.inl rfl | exact Or.inr rfl) (de_ix ix_seq ok_ix (toR (de_fld 0 .now Tx.ben (pv 0))) (toR de_int) (fun _ _ => rfl)))
      (dss_one (ds_retR (fe_lc (fun _ h => h) (own := [("sign", 2)]) rfl sc_fitting.nd (di_seq (de_fld 0 .signs Tx.ben (pv 0))) (blkOk_by (own := [("sign", 2)]) (by first | rfl | decide +kernel)) (okg_name 2) (fun _ _ _ _ _ => (pg_name (i := 2) sc_fitting.nd rfl (by first | exact Or.inl rfl | exact Or.inr rfl))) (fun _ _ _ _ _ => pts_one (dt_tru (toR (de_cb (cr_all rfl) ok_all rfl Tx.n_all bt_all (dr_cons (toR (de_lc0 (own := [("tick", 3), ("good", 4)]) rfl sc_fitting.nd (di_seq (de_ix ix_seq ok_ix (toR (de_fld 0 .now Tx.ben (pv 0))) (toR de_int) (fun _ _ => rfl))) (blkOk_by (own := [("tick", 3), ("good", 4)]) (by first | rfl | decide +kernel)) (okg_tup (okg_cons (okg_name 3) (okg_cons (okg_name 4) okg_nil))) (fun _ _ _ _ _ => (pg_tup rfl (pgs_cons (pg_name (i := 3) sc_fitting.nd rfl (by first | exact Or.inl rfl | exact Or.inr rfl)) (pgs_cons (pg_name (i := 4) sc_fitting.nd rfl (by first | exact Or.inl rfl | exact Or.inr rfl)) pgs_nil)))) (fun _ _ _ _ _ => (de_cmp (op_eqD hr.units) ok_eq (toR (de_fok h_fits hr (by decide) rfl takes0 (da_cons (de_var 1 (pv 1)) (da_cons (de_var 3 (pv 3)) (da_cons (de_var 2 (pv 2)) da_nil))))) (toR (de_var 4 (pv 4))) (nomark _))))) dr_nil))) (by intro _; rfl))) (fun _ _ _ _ _ => (de_var 2 (pv 2)))))))) m_fitting
theorem f_fitting (Tx : Txt w K mg) (h_fits : Fok P w K mg base "fits" 2 ["rows", "tick", "sign"] (spD K Sp_fits)) : Mok P w K mg base "fitting" 3 ["self"] (spV K Sp_fitting) := mokVP_V (fMP_fitting Tx h_fits)
theorem sc_split : FnScope ["self", "some", "marked", "found", "tick", "many", "one", "sign"] ["self"] (defScope s_split) := ⟨rfl, rfl, rfl, by decide +kernel, rfl, by decide +kernel, by decide +kernel⟩
theorem f_split (Tx : Txt w K mg) (h_fits : Fok P w K mg base "fits" 2 ["rows", "tick", "sign"] (spD K Sp_fits)) (hm_fitting : Mok P w K mg base "fitting" 3 ["self"] (spV K Sp_fitting)) : Mok P w K mg base "split" 4 ["self"] (spV K Sp_split) :=
  mokV_of (N := ["self", "some", "marked", "found", "tick", "many", "one", "sign"]) Tx.m_split Tx.y_split (fun _ _ _ _ _ _ us hl => match us, hl with | [_], _ => rfl) sc_split (by intro r ds Q E h; first | (obtain ⟨_, rfl, _⟩ := h; rfl) | (obtain ⟨_, _, rfl, _⟩ := h; rfl) | (obtain ⟨_, _, _, rfl, _⟩ := h; rfl) | (obtain ⟨_, _, _, _, rfl, _⟩ := h; rfl) | (obtain ⟨_, _, _, _, _, rfl, _⟩ := h; rfl) | (obtain ⟨_, _, _, _, _, _, rfl, _⟩ := h; rfl) | (obtain ⟨_, _, _, _, _, _, _, rfl, _⟩ := h; rfl) | (obtain ⟨_, _, _, _, _, _, _, _, rfl, _⟩ := h; rfl)) w_split (fun cdv A outer s H E hr =>
    (dss_cons (ds_set (i := 1) sc_split.nd rfl (by first | exact Or.inl rfl | exact Or.inr rfl) (de_mV0 hm_fitting Tx.ben hr (by decide) bTakes (by decide +kernel) (pv 0) (pl := _)))
      (dss_cons (ds_lcAll (i := 2) (own := [("one", 6)]) rfl sc_split.nd rfl rfl (sw_true rfl rfl rfl (by decide +kernel)) (di_seq (de_ix ix_seq ok_ix (toR (de_fld 0 .now Tx.ben (pv 0))) (toR de_int) (fun _ _ => rfl))) (blkOk_by (own := [("one", 6)]) (by first | rfl | decide +kernel)) (okg_name 6) (fun _ _ _ _ _ => (pg_name (i := 6) sc_split.nd rfl (by first | exact Or.inl rfl | exact Or.inr rfl))) (fun _ _ _ _ _ => (de_ix ix_seq ok_ix (toR (de_var 6 (pv 6))) (toR de_int) (fun _ _ => rfl))))
      (dss_cons (ds_setO (i := 3) sc_split.nd rfl (by first | exact Or.inl rfl | exact Or.inr rfl) (df_lst da_nil))
      (dss_cons (ds_for bPasses rfl (di_rng1 rfl Tx.n_range (da_cons (de_cb call_len ok_len rfl Tx.n_len bt_len (dr_cons (toR (de_ix ix_seq ok_ix (toR (de_fld 0 .now Tx.ben (pv 0))) (toR de_int) (fun _ _ => rfl))) dr_nil)) da_nil)) (pg_name (i := 4) sc_split.nd rfl (by first | exact Or.inl rfl | exact Or.inr rfl)) (okg_name 4) (dss_one (ds_if (dt_cmp (op_notIn2 (hu65 hr)) ok_notIn (toR (de_var 4 (pv 4))) (toR (de_var 2 (pv 2))) rfl) (dss_cons (ds_set (i := 5) sc_split.nd rfl (by first | exact Or.inl rfl | exact Or.inr rfl) (de_cb call_len ok_len rfl Tx.n_len bt_len (dr_cons (toR (de_lc (own := [("sign", 7)]) rfl sc_split.nd (di_seq (de_var 1 (pv 1))) (blkOk_by (own := [("sign", 7)]) (by first | rfl | decide +kernel)) (okg_name 7) (fun _ _ _ _ _ => (pg_name (i := 7) sc_split.nd rfl (by first | exact Or.inl rfl | exact Or.inr rfl))) (fun _ _ _ _ _ => pts_one (dt_tru (toR (de_fok h_fits hr (by decide) rfl takes0 (da_cons (de_ix ix_seq ok_ix (toR (de_fld 0 .now Tx.ben (pv 0))) (toR de_int) (fun _ _ => rfl)) (da_cons (de_var 4 (pv 4)) (da_cons (de_var 7 (pv 7)) da_nil))))) (by intro _; rfl))) (fun _ _ _ _ _ => (de_var 7 (pv 7))))) dr_nil)))
      (dss_one (ds_app (pv 3) (de_tup (da_cons (de_var 4 (pv 4)) (da_cons (de_var 5 (pv 5)) (da_cons (de_bin op_sub ok_sub (toR (de_cb call_len ok_len rfl Tx.n_len bt_len (dr_cons (toR (de_var 1 (pv 1))) dr_nil))) (toR (de_var 5 (pv 5)))) da_nil)))) (ps_expr (pe_bm PySem.F.plainAttrs_list PySem.F.slot_list_append PySem.F.type_list_append mt_append (pv 3) (pa_cons (de_tup (da_cons (de_var 4 (pv 4)) (da_cons (de_var 5 (pv 5)) (da_cons (de_bin op_sub ok_sub (toR (de_cb call_len ok_len rfl Tx.n_len bt_len (dr_cons (toR (de_var 1 (pv 1))) dr_nil))) (toR (de_var 5 (pv 5)))) da_nil)))) pa_nil)))))) dss_nil)))
      (dss_one (ds_rel 3 (ds_ret (de_var 3 (pv 3)))))))))) m_split
theorem sc_unsure : FnScope ["self", "tick", "many", "rest"] ["self"] (defScope s_unsure) := ⟨rfl, rfl, rfl, by decide +kernel, rfl, by decide +kernel, by decide +kernel⟩
theorem fMP_unsure (Tx : Txt w K mg) (hm_split : Mok P w K mg base "split" 4 ["self"] (spV K Sp_split)) : Mok P w K mg base "unsure" 5 ["self"] (spVP K pL Sp_unsure) :=
  mokVP_of (N := ["self", "tick", "many", "rest"]) Tx.m_unsure Tx.y_unsure (fun _ _ _ _ _ _ us hl => match us, hl with | [_], _ => rfl) sc_unsure (by intro r ds Q E h; first | (obtain ⟨_, rfl, _⟩ := h; rfl) | (obtain ⟨_, _, rfl, _⟩ := h; rfl) | (obtain ⟨_, _, _, rfl, _⟩ := h; rfl) | (obtain ⟨_, _, _, _, rfl, _⟩ := h; rfl) | (obtain ⟨_, _, _, _, _, rfl, _⟩ := h; rfl) | (obtain ⟨_, _, _, _, _, _, rfl, _⟩ := h; rfl) | (obtain ⟨_, _, _, _, _, _, _, rfl, _⟩ := h; rfl) | (obtain ⟨_, _, _, _, _, _, _, _, rfl, _⟩ := h; rfl)) w_unsure (fun cdv A outer s H E hr =>
    (dss_one (ds_retR (fe_lc (fun _ h => h) (own := [("tick", 1), ("many", 2), ("rest", 3)]) rfl sc_unsure.nd (di_seq (de_mV0 hm_split Tx.ben hr (by decide) bTakes (by decide +kernel) (pv 0) (pl := _))) (blkOk_by (own := [("tick", 1), ("many", 2), ("rest", 3)]) (by first | rfl | decide +kernel)) (okg_tup (okg_cons (okg_name 1) (okg_cons (okg_name 2) (okg_cons (okg_name 3) okg_nil)))) (fun _ _ _ _ _ => (pg_tup rfl (pgs_cons (pg_name (i := 1) sc_unsure.nd rfl (by first | exact Or.inl rfl | exact Or.inr rfl)) (pgs_cons (pg_name (i := 2) sc_unsure.nd rfl (by first | exact Or.inl rfl | exact Or.inr rfl)) (pgs_cons (pg_name (i := 3) sc_unsure.nd rfl (by first | exact Or.inl rfl | exact Or.inr rfl)) pgs_nil))))) (fun _ _ _ _ _ => pts_one (PW.pt (dt_and (dt_cmp op_gt ok_gt (toR (de_var 2 (pv 2))) (toR de_int) (nomark _)) (dt_and1 (dt_cmp op_gt ok_gt (toR (de_var 3 (pv 3))) (toR de_int) (nomark _)))))) (fun _ _ _ _ _ => (de_var 1 (pv 1))))))) m_unsure
theorem f_unsure (Tx : Txt w K mg) (hm_split : Mok P w K mg base "split" 4 ["self"] (spV K Sp_split)) : Mok P w K mg base "unsure" 5 ["self"] (spV K Sp_unsure) := mokVP_V (fMP_unsure Tx hm_split)
theorem sc_ask : FnScope ["self", "some", "tick", "many", "rest"] ["self"] (defScope s_ask) := ⟨rfl, rfl, rfl, by decide +kernel, rfl, by decide +kernel, by decide +kernel⟩
theorem f_ask (Tx : Txt w K mg) (hm_split : Mok P w K mg base "split" 4 ["self"] (spV K Sp_split)) : Mok P w K mg base "ask" 5 ["self"] (spV K Sp_ask) :=
  mokV_of (N := ["self", "some", "tick", "many", "rest"]) Tx.m_ask Tx.y_ask (fun _ _ _ _ _ _ us hl => match us, hl with | [_], _ => rfl) sc_ask (by intro r ds Q E h; first | (obtain ⟨_, rfl, _⟩ := h; rfl) | (obtain ⟨_, _, rfl, _⟩ := h; rfl) | (obtain ⟨_, _, _, rfl, _⟩ := h; rfl) | (obtain ⟨_, _, _, _, rfl, _⟩ := h; rfl) | (obtain ⟨_, _, _, _, _, rfl, _⟩ := h; rfl) | (obtain ⟨_, _, _, _, _, _, rfl, _⟩ := h; rfl) | (obtain ⟨_, _, _, _, _, _, _, rfl, _⟩ := h; rfl) | (obtain ⟨_, _, _, _, _, _, _, _, rfl, _⟩ := h; rfl)) w_ask (fun cdv A outer s H E hr =>
    (dss_cons (ds_lcIf (i := 1) (own := [("tick", 2), ("many", 3), ("rest", 4)]) rfl sc_ask.nd rfl rfl (sw_true rfl rfl rfl (by decide +kernel)) (di_seq (de_mV0 hm_split Tx.ben hr (by decide) bTakes (by decide +kernel) (pv 0) (pl := _))) (blkOk_by (own := [("tick", 2), ("many", 3), ("rest", 4)]) (by first | rfl | decide +kernel)) (okg_tup (okg_cons (okg_name 2) (okg_cons (okg_name 3) (okg_cons (okg_name 4) okg_nil)))) (fun _ _ _ _ _ => (pg_tup rfl (pgs_cons (pg_name (i := 2) sc_ask.nd rfl (by first | exact Or.inl rfl | exact Or.inr rfl)) (pgs_cons (pg_name (i := 3) sc_ask.nd rfl (by first | exact Or.inl rfl | exact Or.inr rfl)) (pgs_cons (pg_name (i := 4) sc_ask.nd rfl (by first | exact Or.inl rfl | exact Or.inr rfl)) pgs_nil))))) (fun _ _ _ _ _ => pts_one (PW.pt (dt_and (dt_cmp op_gt ok_gt (toR (de_var 3 (pv 3))) (toR de_int) (nomark _)) (dt_and1 (dt_cmp op_gt ok_gt (toR (de_var 4 (pv 4))) (toR de_int) (nomark _)))))) (fun _ _ _ _ _ => (de_tup (da_cons (de_cb (call_max2 rfl) ok_max2 rfl Tx.n_max bt_max (dr_cons (toR (de_var 3 (pv 3))) (dr_cons (toR (de_var 4 (pv 4))) dr_nil))) (da_cons (de_var 2 (pv 2)) da_nil)))))
      (dss_one (ds_ret (de_if (dt_tru (toR (de_var 1 (pv 1))) (by intro _; rfl)) (de_ix ix_seq ok_ix (toR (de_cb (cr_minD rfl (hu65 hr)) ok_best rfl Tx.n_min bt_min (dr_cons (toR (de_var 1 (pv 1))) dr_nil))) (toR de_int) (fun _ _ => rfl)) de_non))))) m_ask
theorem sc__law_face : FnScope ["bench"] ["bench"] (defScope s__law_face) := ⟨rfl, rfl, rfl, by decide +kernel, rfl, by decide +kernel, by decide +kernel⟩
theorem f__law_face (Tx : Txt w K mg) (hm_ask : Mok P w K mg base "ask" 5 ["self"] (spV K Sp_ask)) (hmp_fitting : Mok P w K mg base "fitting" 3 ["self"] (spVP K pL Sp_fitting)) (hmp_marks : Mok P w K mg base "marks" 1 ["self"] (spVP K pD Sp_marks)) (hmp_seen : Mok P w K mg base "seen" 1 ["self"] (spVP K pL Sp_seen)) (hmp_unsure : Mok P w K mg base "unsure" 5 ["self"] (spVP K pL Sp_unsure)) : Fok P w K mg base "_law_face" 6 ["bench"] (spVP K tru Sp__law_face) :=
  fokVP_of (N := ["bench"]) Tx.d__law_face Tx.g__law_face (fun _ _ _ _ _ _ us hl => match us, hl with | [_], _ => rfl) sc__law_face (by intro r ds Q E h; first | (obtain ⟨_, rfl, _⟩ := h; rfl) | (obtain ⟨_, _, rfl, _⟩ := h; rfl) | (obtain ⟨_, _, _, rfl, _⟩ := h; rfl) | (obtain ⟨_, _, _, _, rfl, _⟩ := h; rfl) | (obtain ⟨_, _, _, _, _, rfl, _⟩ := h; rfl) | (obtain ⟨_, _, _, _, _, _, rfl, _⟩ := h; rfl) | (obtain ⟨_, _, _, _, _, _, _, rfl, _⟩ := h; rfl) | (obtain ⟨_, _, _, _, _, _, _, _, rfl, _⟩ := h; rfl)) w__law_face (fun cdv A outer s H E hr =>
    (dss_one (ds_retR (fe_lstF (fa_cons (fe_up (fe_mV0 hmp_seen Tx.ben hr (by decide) bTakes (by decide +kernel) (pv 0) (pl := _))) (fa_cons (fe_up (fe_mV0 hmp_marks Tx.ben hr (by decide) bTakes (by decide +kernel) (pv 0) (pl := _))) (fa_cons (fe_up (fe_mV0 hmp_fitting Tx.ben hr (by decide) bTakes (by decide +kernel) (pv 0) (pl := _))) (fa_cons (fe_up (fe_mV0 hmp_unsure Tx.ben hr (by decide) bTakes (by decide +kernel) (pv 0) (pl := _))) (fa_cons (fe_n (de_mV0 hm_ask Tx.ben hr (by decide) bTakes (by decide +kernel) (pv 0) (pl := _))) fa_nil))))))))) m__law_face
theorem sc__law_is_kept : FnScope ["bench", "other", "due", "rest"] ["bench", "other"] (defScope s__law_is_kept) := ⟨rfl, rfl, rfl, by decide +kernel, rfl, by decide +kernel, by decide +kernel⟩
theorem f__law_is_kept (Tx : Txt w K mg) (h__law_face : Fok P w K mg base "_law_face" 6 ["bench"] (spVP K tru Sp__law_face)) (hx__law_copy : Fok P w K mg base "_law_copy" 9 ["thing"] (spP K tru (Spx_copy 8))) (hx__law_spoil : Fok P w K mg base "_law_spoil" 9 ["thing"] (spSpx K 8)) : Fok P w K mg base "_law_is_kept" 10 ["bench", "other"] (spN K Sp__law_is_kept) := by
  obtain ⟨fd, F⟩ := Tx.d__law_is_kept
  obtain ⟨f0, F0, b0, k0, m0⟩ := h__law_face
  obtain ⟨f1, F1, b1, k1, m1⟩ := hx__law_copy
  obtain ⟨f3, F3, b3, k3, m3⟩ := hx__law_spoil
  refine ⟨fd, F.ok sc__law_is_kept (fun vs H Q E ⟨_, _, _, As, _, _, en, ⟨_, _, _, _, _, _, e, _⟩, _⟩ => by have hl := en.len; rw [List.length_map] at hl; rw [← hl, e]; rfl) (fun cdv A outer s H vs Q E hr h => ⟨_, pss_cons (ps_set (i := 2) sc__law_is_kept.nd rfl (by first | exact Or.inl rfl | exact Or.inr rfl) (pe_callS (E := WE (Wd E)) F1 (hr.mono (by decide)) rfl m1 k1 b1 (fun σ => passAt bTakes σ) (pa_cons (pe_callS (E := WE (Wd E)) F0 (hr.mono (by decide)) rfl m0 k0 b0 (fun σ => passAt bTakes σ) (pa_cons (pv 0) pa_nil)) pa_nil))) (pss_cons (ps_set (i := 3) sc__law_is_kept.nd rfl (by first | exact Or.inl rfl | exact Or.inr rfl) (pe_callS (E := WE (Wd E)) F1 (hr.mono (by decide)) rfl m1 k1 b1 (fun σ => passAt bTakes σ) (pa_cons (pe_callS (E := WE (Wd E)) F0 (hr.mono (by decide)) rfl m0 k0 b0 (fun σ => passAt bTakes σ) (pa_cons (pv 1) pa_nil)) pa_nil))) (pss_cons (ps_expr (pe_callS (E := WE (Wd E)) F3 (hr.mono (by decide)) rfl m3 k3 b3 (fun σ => passAt bTakes σ) (pa_cons (pe_callS (E := WE (Wd E)) F0 (hr.mono (by decide)) rfl m0 k0 b0 (fun σ => passAt bTakes σ) (pa_cons (pv 0) pa_nil)) pa_nil)))
    (pss_one (ps_ret (pe_andT (pe_cmpR (op_eqF (hu67 hr)) (pe_callS (E := WE (Wd E)) F0 (hr.mono (by decide)) rfl m0 k0 b0 (fun σ => passAt bTakes σ) (pa_cons (pv 0) pa_nil)) (pv 2) (nomark _)) (pe_one (pe_cmpR (op_eqF (hu67 hr)) (pe_callS (E := WE (Wd E)) F0 (hr.mono (by decide)) rfl m0 k0 b0 (fun σ => passAt bTakes σ) (pa_cons (pv 1) pa_nil)) (pv 3) (nomark _)))))))), kept_rd h⟩), F.bindsN (fun _ _ _ _ _ _ us hl => match us, hl with | [_, _], _ => rfl), F.kp, Tx.g__law_is_kept⟩
theorem sc_law : FnScope ["script", "town", "many", "rows", "signs", "bench", "other", "k", "kind"] ["script"] (defScope s_law) := ⟨rfl, rfl, rfl, by decide +kernel, rfl, by decide +kernel, by decide +kernel⟩
theorem f_law {f : Addr} {fd : FuncData} (Tx : Txt w K mg) (h__law_again : Fok P w K mg base "_law_again" 10 ["kind", "some"] (spD K Sp__law_again)) (h__law_draw : Fok P w K mg base "_law_draw" 3 ["script", "town", "many"] (spT K Sp__law_draw)) (h__law_is_kept : Fok P w K mg base "_law_is_kept" 10 ["bench", "other"] (spN K Sp__law_is_kept)) (h__law_rows : Fok P w K mg base "_law_rows" 5 ["script", "town", "many", "most"] (spT K Sp__law_rows)) (h__law_sign : Fok P w K mg base "_law_sign" 5 ["script", "town", "many"] (spT K Sp__law_sign)) (hi_Bench : Iok P w K mg base 3 ["self", "many"] (spI K Sp___init__)) (hm_mark : Mok P w K mg base "mark" 3 ["self", "tick", "is_wanted"] (spG K Sp_mark)) (hm_see : Mok P w K mg base "see" 2 ["self", "levels"] (spG K Sp_see)) (hm_seen : Mok P w K mg base "seen" 1 ["self"] (spV K Sp_seen)) (hm_undo : Mok P w K mg base "undo" 1 ["self"] (spM K Sp_undo)) (F : FunD K "law" "law" (defArgs s_law) (defBody s_law) (defScope s_law) [] [] f fd) : FnOk P w K mg base CX0 11 f fd ["script"] (spLaw K) :=
  fn_law (N := ["script", "town", "many", "rows", "signs", "bench", "other", "k", "kind"]) F sc_law w_law rfl (fun _ _ => rfl) (fun cdv A outer s H E => ps_set (i := 1) sc_law.nd rfl (by first | exact Or.inl rfl | exact Or.inr rfl) (pe_lst pa_nil)) (fun cdv A outer s H E hr =>
    (dss_cons (ds_set (i := 2) sc_law.nd rfl (by first | exact Or.inl rfl | exact Or.inr rfl) (de_bin op_add4 ok_add (toR de_int) (toR (de_fokT h__law_draw hr (by decide) rfl takes0 (pv 0) (pv 1) (da_cons de_int da_nil)))))
      (dss_cons (ds_set (i := 3) sc_law.nd rfl (by first | exact Or.inl rfl | exact Or.inr rfl) (de_fokT h__law_rows hr (by decide) rfl takes0 (pv 0) (pv 1) (da_cons (de_var 2 (pv 2)) (da_cons de_int da_nil))))
      (dss_cons (ds_set (i := 4) sc_law.nd rfl (by first | exact Or.inl rfl | exact Or.inr rfl) (de_lc0 (own := [("k", 7)]) rfl sc_law.nd (di_rng1 rfl Tx.n_range (da_cons de_int da_nil)) (blkOk_by (own := [("k", 7)]) (by first | rfl | decide +kernel)) (okg_name 7) (fun _ _ _ _ _ => (pg_name (i := 7) sc_law.nd rfl (by first | exact Or.inl rfl | exact Or.inr rfl))) (fun _ _ _ _ _ => (de_fokT h__law_sign hr (by decide) rfl takes0 (pv 0) (pv 1) (da_cons (de_var 2 (pv 2)) da_nil)))))
      (dss_cons (ds_if (dt_cmp (op_neD hr.units) ok_ne (toR (de_lc (own := [("kind", 8)]) rfl sc_law.nd (di_rng1 rfl Tx.n_range (da_cons de_int da_nil)) (blkOk_by (own := [("kind", 8)]) (by first | rfl | decide +kernel)) (okg_name 8) (fun _ _ _ _ _ => (pg_name (i := 8) sc_law.nd rfl (by first | exact Or.inl rfl | exact Or.inr rfl))) (fun _ _ _ _ _ => pts_one (dt_not (dt_tru (toR (de_fok h__law_again hr (by decide) rfl takes0 (da_cons (de_var 8 (pv 8)) (da_cons (de_lst (da_cons (de_var 3 (pv 3)) (da_cons (de_var 4 (pv 4)) (da_cons (de_lst (da_cons de_int (da_cons de_int da_nil))) da_nil)))) da_nil)))) (by intro _; rfl)))) (fun _ _ _ _ _ => (de_var 8 (pv 8))))) (toR (de_lst da_nil)) (nomark _)) (dss_one (ds_ret de_bl)) dss_nil)
      (dss_cons (ds_new hi_Bench hr (by decide) sc_law.nd rfl (by first | exact Or.inl rfl | exact Or.inr rfl) (by rfl) (da_cons (de_var 2 (pv 2)) da_nil))
      (dss_cons (ds_new hi_Bench hr (by decide) sc_law.nd rfl (by first | exact Or.inl rfl | exact Or.inr rfl) (by rfl) (da_cons (de_var 2 (pv 2)) da_nil))
      (dss_cons (ds_for PassesOwn.never rfl (di_rng1 rfl Tx.n_range (da_cons (de_cb call_len ok_len rfl Tx.n_len bt_len (dr_cons (toR (de_var 3 (pv 3))) dr_nil)) da_nil)) (pg_name (i := 7) sc_law.nd rfl (by first | exact Or.inl rfl | exact Or.inr rfl)) (okg_name 7) (dss_cons (ds_mG hm_see Tx.ben hr (by decide) takes0 (by decide +kernel) (pv 5) (da_cons (de_ix ix_seq ok_ix (toR (de_var 3 (pv 3))) (toR (de_var 7 (pv 7))) (fun _ _ => rfl)) da_nil) (pl := _))
      (dss_cons (ds_mG hm_mark Tx.ben hr (by decide) takes0 (by decide +kernel) (pv 5) (da_cons (de_var 7 (pv 7)) (da_cons (de_cmp (op_eqD hr.units) ok_eq (toR (de_bin op_mod ok_mod (toR (de_var 7 (pv 7))) (toR de_int))) (toR de_int) (nomark _)) da_nil)) (pl := _))
      (dss_one (ds_if (PW.pt (dt_or (dt_not (dt_tru (toR (de_fnV h__law_is_kept hr (by decide) rfl takes0 (pa_cons (pv 5) (pa_cons (pv 6) pa_nil)))) (by intro _; rfl))) (dt_or1 (dt_not (dt_tru (toR (de_fnV h__law_is_kept hr (by decide) rfl takes0 (pa_cons (pv 6) (pa_cons (pv 5) pa_nil)))) (by intro _; rfl)))))) (dss_one (ds_ret de_bl)) dss_nil)))))
      (dss_one (ds_ret (de_and (de_cmp op_isB ok_isB (toR (de_mM0 hm_undo Tx.ben hr (by decide) takes0 (by decide +kernel) (pv 6) (pl := _))) (toR de_bl) (nomark _)) (de_and (de_cmp (op_eqD hr.units) ok_eq (toR (de_mV0 hm_seen Tx.ben hr (by decide) takes0 (by decide +kernel) (pv 6) (pl := _))) (toR (de_lst da_nil)) (nomark _)) (de_and (de_cmp op_isB ok_isB (toR (de_mM0 hm_undo Tx.ben hr (by decide) takes0 (by decide +kernel) (pv 5) (pl := _))) (toR de_bl) (nomark _)) (de_one (de_cmp (op_eqD hr.units) ok_eq (toR (de_cb call_len ok_len rfl Tx.n_len bt_len (dr_cons (toR (de_mV0 hm_seen Tx.ben hr (by decide) takes0 (by decide +kernel) (pv 5) (pl := _))) dr_nil))) (toR (de_cb call_len ok_len rfl Tx.n_len bt_len (dr_cons (toR (de_var 3 (pv 3))) dr_nil))) (nomark _)))))))))))))))) m_law
end
def de_is_whole : He.DefD := ⟨("is_whole", none), "is_whole", "is_whole", defArgs s_is_whole, defBody s_is_whole, defScope s_is_whole, [], []⟩
def de_are_levels : He.DefD := ⟨("are_levels", none), "are_levels", "are_levels", defArgs s_are_levels, defBody s_are_levels, defScope s_are_levels, [], []⟩
def de_look_rows : He.DefD := ⟨("look_rows", none), "look_rows", "look_rows", defArgs s_look_rows, defBody s_look_rows, defScope s_look_rows, [], []⟩
def de_look_tick : He.DefD := ⟨("look_tick", none), "look_tick", "look_tick", defArgs s_look_tick, defBody s_look_tick, defScope s_look_tick, [], []⟩
def de_holding : He.DefD := ⟨("holding", none), "holding", "holding", defArgs s_holding, defBody s_holding, defScope s_holding, [], []⟩
def de_is_sign : He.DefD := ⟨("is_sign", none), "is_sign", "is_sign", defArgs s_is_sign, defBody s_is_sign, defScope s_is_sign, [], []⟩
def de_look_sign : He.DefD := ⟨("look_sign", none), "look_sign", "look_sign", defArgs s_look_sign, defBody s_look_sign, defScope s_look_sign, [], []⟩
def de_fits : He.DefD := ⟨("fits", none), "fits", "fits", defArgs s_fits, defBody s_fits, defScope s_fits, [], []⟩
def de_ticks_of : He.DefD := ⟨("ticks_of", none), "ticks_of", "ticks_of", defArgs s_ticks_of, defBody s_ticks_of, defScope s_ticks_of, [], []⟩
def de_tells : He.DefD := ⟨("tells", none), "tells", "tells", defArgs s_tells, defBody s_tells, defScope s_tells, [], []⟩
def de_order : He.DefD := ⟨("order", none), "order", "order", defArgs s_order, defBody s_order, defScope s_order, [], []⟩
def de_look_chain : He.DefD := ⟨("look_chain", none), "look_chain", "look_chain", defArgs s_look_chain, defBody s_look_chain, defScope s_look_chain, [], []⟩
def de_reached : He.DefD := ⟨("reached", none), "reached", "reached", defArgs s_reached, defBody s_reached, defScope s_reached, [], []⟩
def de_chained : He.DefD := ⟨("chained", none), "chained", "chained", defArgs s_chained, defBody s_chained, defScope s_chained, [], []⟩
def de_witness : He.DefD := ⟨("witness", none), "witness", "witness", defArgs s_witness, defBody s_witness, defScope s_witness, [], []⟩
def de_longest : He.DefD := ⟨("longest", none), "longest", "longest", defArgs s_longest, defBody s_longest, defScope s_longest, [], []⟩
def de_all_signs : He.DefD := ⟨("all_signs", none), "all_signs", "all_signs", defArgs s_all_signs, defBody s_all_signs, defScope s_all_signs, [], []⟩
def de_in_order : He.DefD := ⟨("in_order", none), "in_order", "in_order", defArgs s_in_order, defBody s_in_order, defScope s_in_order, [], []⟩
def de__law_cell : He.DefD := ⟨("_law_cell", none), "_law_cell", "_law_cell", defArgs s__law_cell, defBody s__law_cell, defScope s__law_cell, [], []⟩
def de__law_mix : He.DefD := ⟨("_law_mix", none), "_law_mix", "_law_mix", defArgs s__law_mix, defBody s__law_mix, defScope s__law_mix, [], []⟩
def de__law_draw : He.DefD := ⟨("_law_draw", none), "_law_draw", "_law_draw", defArgs s__law_draw, defBody s__law_draw, defScope s__law_draw, [], []⟩
def de__law_pick : He.DefD := ⟨("_law_pick", none), "_law_pick", "_law_pick", defArgs s__law_pick, defBody s__law_pick, defScope s__law_pick, [], []⟩
def de__law_refusal : He.DefD := ⟨("_law_refusal", none), "_law_refusal", "_law_refusal", defArgs s__law_refusal, defBody s__law_refusal, defScope s__law_refusal, [], []⟩
def de__law_rows : He.DefD := ⟨("_law_rows", none), "_law_rows", "_law_rows", defArgs s__law_rows, defBody s__law_rows, defScope s__law_rows, [], []⟩
def de__law_sign : He.DefD := ⟨("_law_sign", none), "_law_sign", "_law_sign", defArgs s__law_sign, defBody s__law_sign, defScope s__law_sign, [], []⟩
def de__law_copy : He.DefD := ⟨("_law_copy", none), "_law_copy", "_law_copy", defArgs s__law_copy, defBody s__law_copy, defScope s__law_copy, [], []⟩
def de__law_spoil : He.DefD := ⟨("_law_spoil", none), "_law_spoil", "_law_spoil", defArgs s__law_spoil, defBody s__law_spoil, defScope s__law_spoil, [], []⟩
def de__law_again : He.DefD := ⟨("_law_again", none), "_law_again", "_law_again", defArgs s__law_again, defBody s__law_again, defScope s__law_again, [], []⟩
def de__law_one : He.DefD := ⟨("_law_one", none), "_law_one", "_law_one", defArgs s__law_one, defBody s__law_one, defScope s__law_one, [], []⟩
def de__law_told : He.DefD := ⟨("_law_told", none), "_law_told", "_law_told", defArgs s__law_told, defBody s__law_told, defScope s__law_told, [], []⟩
def de__law_face : He.DefD := ⟨("_law_face", none), "_law_face", "_law_face", defArgs s__law_face, defBody s__law_face, defScope s__law_face, [], []⟩
def de__law_is_kept : He.DefD := ⟨("_law_is_kept", none), "_law_is_kept", "_law_is_kept", defArgs s__law_is_kept, defBody s__law_is_kept, defScope s__law_is_kept, [], []⟩
def de_law : He.DefD := ⟨("law", none), "law", "law", defArgs s_law, defBody s_law, defScope s_law, [], []⟩
def de___init__ : He.DefD := ⟨("Bench", some "__init__"), "__init__", "Bench.__init__", defArgs s___init__, defBody s___init__, defScope s___init__, [], []⟩
def de_go : He.DefD := ⟨("Bench", some "go"), "go", "Bench.go", defArgs s_go, defBody s_go, defScope s_go, [], []⟩
def de_see : He.DefD := ⟨("Bench", some "see"), "see", "Bench.see", defArgs s_see, defBody s_see, defScope s_see, [], []⟩
def de_mark : He.DefD := ⟨("Bench", some "mark"), "mark", "Bench.mark", defArgs s_mark, defBody s_mark, defScope s_mark, [], []⟩
def de_undo : He.DefD := ⟨("Bench", some "undo"), "undo", "Bench.undo", defArgs s_undo, defBody s_undo, defScope s_undo, [], []⟩
def de_seen : He.DefD := ⟨("Bench", some "seen"), "seen", "Bench.seen", defArgs s_seen, defBody s_seen, defScope s_seen, [], []⟩
def de_marks : He.DefD := ⟨("Bench", some "marks"), "marks", "Bench.marks", defArgs s_marks, defBody s_marks, defScope s_marks, [], []⟩
def de_fitting : He.DefD := ⟨("Bench", some "fitting"), "fitting", "Bench.fitting", defArgs s_fitting, defBody s_fitting, defScope s_fitting, [], []⟩
def de_split : He.DefD := ⟨("Bench", some "split"), "split", "Bench.split", defArgs s_split, defBody s_split, defScope s_split, [], []⟩
def de_unsure : He.DefD := ⟨("Bench", some "unsure"), "unsure", "Bench.unsure", defArgs s_unsure, defBody s_unsure, defScope s_unsure, [], []⟩
def de_ask : He.DefD := ⟨("Bench", some "ask"), "ask", "Bench.ask", defArgs s_ask, defBody s_ask, defScope s_ask, [], []⟩
def fn : List He.DefD := [de_is_whole, de_are_levels, de_look_rows, de_look_tick, de_holding, de_is_sign, de_look_sign, de_fits, de_ticks_of, de_tells, de_order, de_look_chain, de_reached, de_chained, de_witness, de_longest, de_all_signs, de_in_order, de__law_cell, de__law_mix, de__law_draw, de__law_pick, de__law_refusal, de__law_rows, de__law_sign, de__law_copy, de__law_spoil, de__law_again, de__law_one, de__law_told, de__law_face, de__law_is_kept, de___init__, de_go, de_see, de_mark, de_undo, de_seen, de_marks, de_fitting, de_split, de_unsure, de_ask, de_law]
def fa0 : List He.Fa := [.cls "Bench", .noat "Bench" "many", .noat "Bench" "signs", .noat "Bench" "now", .noat "Bench" "before", .noat "Bench" "later", .glo "HOLDS", .int "MOST_BENCH_LINES" 3, .int "MOST_CHAIN" 5, .int "MOST_LINES" 5, .int "MOST_ROWS" 200, .int "MOST_WITHIN" 200, .glo "SignError", .mkr "Bench", .glo "Bench", .free "ValueError", .free "all", .free "any", .free "bool", .free "dict", .free "int", .free "isinstance", .free "len", .free "list", .free "max", .free "min", .free "range", .free "sorted", .free "str", .free "tuple"]
def fa1 : List He.Fa := [.exc "BadNumber", .glo "BadNumber", .exc "BadRows", .glo "BadRows", .exc "BadSign", .glo "BadSign", .exc "BadText", .glo "BadText", .exc "BadTold", .glo "BadTold", .exc "NoSign", .glo "NoSign", .exc "Nothing", .glo "Nothing", .glo "is_whole", .glo "are_levels", .glo "look_rows", .glo "look_tick", .glo "holding", .glo "is_sign", .glo "look_sign", .glo "fits", .glo "ticks_of", .glo "tells", .glo "order", .glo "look_chain", .glo "reached", .glo "chained", .glo "witness", .glo "longest"]
def fa2 : List He.Fa := [.glo "all_signs", .glo "in_order", .glo "_law_cell", .glo "_law_mix", .glo "_law_draw", .glo "_law_pick", .glo "_law_refusal", .glo "_law_rows", .glo "_law_sign", .glo "_law_copy", .glo "_law_spoil", .glo "_law_again", .glo "_law_one", .glo "_law_told", .glo "_law_face", .glo "_law_is_kept", .meth "Bench" "go", .meth "Bench" "see", .meth "Bench" "mark", .meth "Bench" "undo", .meth "Bench" "seen", .meth "Bench" "marks", .meth "Bench" "fitting", .meth "Bench" "split", .meth "Bench" "unsure", .meth "Bench" "ask", .glo "law"]
def fa : List He.Fa := fa0 ++ fa1 ++ fa2
def ts : List He.Tab := []
def exB (K : PySem.W.Frag) : Bool := (He.tupB K "HOLDS" [He.Dv.str "high", He.Dv.str "low", He.Dv.str "rise", He.Dv.str "fall"]) && (tupN K "HOLDS" ["high", "low", "rise", "fall"]) && (xfB K ["BadRows", "BadSign", "BadTold", "BadNumber", "NoSign", "BadText", "Nothing"])
abbrev R : PySem.W.OpenRow := PySem.W.OpenLaw.row PySem.Challenge.rw_signlearn_k91_whole_again_more
abbrev hk : PySem.W.Hook := He.hookX 5 fa fn ts [] exB
def ob (s : PySem.W.SharedT) : He.AlX := He.obsX 5 fa fn ts [] exB (HandSHeadRun.getT s)
theorem ob_eq (s : PySem.W.SharedT) : ob s = hk.obs s.abs := He.obsX_eq (HandSHeadRun.getT_eq s)
def lo0 : List PySem.Str := ["_wall", "SignError", "BadRows", "BadSign", "BadTold", "BadNumber", "NoSign", "BadText", "Nothing", "MOST_LINES", "MOST_ROWS", "HOLDS", "is_whole", "are_levels", "look_rows", "look_tick", "holding", "MOST_WITHIN", "is_sign", "look_sign", "fits", "ticks_of", "tells", "order", "MOST_CHAIN", "look_chain", "reached", "chained", "witness", "longest"]
def lo1 : List PySem.Str := ["all_signs", "in_order", "MOST_BENCH_LINES", "Bench", "_law_cell", "_law_mix", "_law_draw", "_law_pick", "_law_refusal", "_law_rows", "_law_sign", "_law_copy", "_law_spoil", "_law_again", "_law_one", "_law_told", "_law_face", "_law_is_kept"]
abbrev lo : List PySem.Str := lo0 ++ lo1
theorem run (w : World) : HandSHeadRun.RunEq R (PySem.W.view R.prog [55]) hk ob 6000 lo w := by
  intro os
  kernel_rfl
theorem txt {w : World} {K : PySem.W.Frag} {h : Heap} {mg : Str → Option Value} (X : K.In h) (G : h.Ns mainGlobals mg) (cx : He.SaysX fa fn ts [] exB w h K) : Txt w K mg := by
  have c := cx.t.d
  have exA := cx.more
  unfold exB at exA
  simp only [Bool.and_eq_true] at exA
  have ex2 := exA.2
  have ex1 := exA.1.2
  have ex0 := exA.1.1
  exact {
    ben := ⟨He.cls_ok (c.fact 0 (f := .cls "Bench") rfl), fun f hf => by
      simp only [List.mem_cons, List.not_mem_nil, or_false] at hf
      rcases hf with rfl | rfl | rfl | rfl | rfl
      · exact He.noat_ok (c.fact 1 (f := .noat "Bench" "many") rfl)
      · exact He.noat_ok (c.fact 2 (f := .noat "Bench" "signs") rfl)
      · exact He.noat_ok (c.fact 3 (f := .noat "Bench" "now") rfl)
      · exact He.noat_ok (c.fact 4 (f := .noat "Bench" "before") rfl)
      · exact He.noat_ok (c.fact 5 (f := .noat "Bench" "later") rfl)⟩
    c_HOLDS := ⟨He.glo_ok X G (c.fact 6 (f := .glo "HOLDS") rfl), fun H => .tup (He.tupB_ok (vs := [He.Dv.str "high", He.Dv.str "low", He.Dv.str "rise", He.Dv.str "fall"]) ex0 H) (.cons (.str _) (.cons (.str _) (.cons (.str _) (.cons (.str _) .nil))))⟩
    c_MOST_BENCH_LINES := He.int_ok X G (c.fact 7 (f := .int "MOST_BENCH_LINES" 3) rfl)
    c_MOST_CHAIN := He.int_ok X G (c.fact 8 (f := .int "MOST_CHAIN" 5) rfl)
    c_MOST_LINES := He.int_ok X G (c.fact 9 (f := .int "MOST_LINES" 5) rfl)
    c_MOST_ROWS := He.int_ok X G (c.fact 10 (f := .int "MOST_ROWS" 200) rfl)
    c_MOST_WITHIN := He.int_ok X G (c.fact 11 (f := .int "MOST_WITHIN" 200) rfl)
    g_SignError := He.glo_ok X G (c.fact 12 (f := .glo "SignError") rfl)
    mkr := He.mkr_ok (c.fact 13 (f := .mkr "Bench") rfl)
    g_Bench := He.glo_ok X G (c.fact 14 (f := .glo "Bench") rfl)
    n_ValueError := He.free_ok X G (c.fact 15 (f := .free "ValueError") rfl)
    n_all := He.free_ok X G (c.fact 16 (f := .free "all") rfl)
    n_any := He.free_ok X G (c.fact 17 (f := .free "any") rfl)
    n_bool := He.free_ok X G (c.fact 18 (f := .free "bool") rfl)
    n_dict := He.free_ok X G (c.fact 19 (f := .free "dict") rfl)
    n_int := He.free_ok X G (c.fact 20 (f := .free "int") rfl)
    n_isinstance := He.free_ok X G (c.fact 21 (f := .free "isinstance") rfl)
    n_len := He.free_ok X G (c.fact 22 (f := .free "len") rfl)
    n_list := He.free_ok X G (c.fact 23 (f := .free "list") rfl)
    n_max := He.free_ok X G (c.fact 24 (f := .free "max") rfl)
    n_min := He.free_ok X G (c.fact 25 (f := .free "min") rfl)
    n_range := He.free_ok X G (c.fact 26 (f := .free "range") rfl)
    n_sorted := He.free_ok X G (c.fact 27 (f := .free "sorted") rfl)
    n_str := He.free_ok X G (c.fact 28 (f := .free "str") rfl)
    n_tuple := He.free_ok X G (c.fact 29 (f := .free "tuple") rfl)
    u_HOLDS := tupN_ok (He.glo_ok X G (c.fact 6 (f := .glo "HOLDS") rfl)) ex1
    x_BadNumber := ⟨He.exc_ok (c.fact 30 (f := .exc "BadNumber") rfl), He.glo_ok X G (c.fact 31 (f := .glo "BadNumber") rfl)⟩
    x_BadRows := ⟨He.exc_ok (c.fact 32 (f := .exc "BadRows") rfl), He.glo_ok X G (c.fact 33 (f := .glo "BadRows") rfl)⟩
    x_BadSign := ⟨He.exc_ok (c.fact 34 (f := .exc "BadSign") rfl), He.glo_ok X G (c.fact 35 (f := .glo "BadSign") rfl)⟩
    x_BadText := ⟨He.exc_ok (c.fact 36 (f := .exc "BadText") rfl), He.glo_ok X G (c.fact 37 (f := .glo "BadText") rfl)⟩
    x_BadTold := ⟨He.exc_ok (c.fact 38 (f := .exc "BadTold") rfl), He.glo_ok X G (c.fact 39 (f := .glo "BadTold") rfl)⟩
    x_NoSign := ⟨He.exc_ok (c.fact 40 (f := .exc "NoSign") rfl), He.glo_ok X G (c.fact 41 (f := .glo "NoSign") rfl)⟩
    x_Nothing := ⟨He.exc_ok (c.fact 42 (f := .exc "Nothing") rfl), He.glo_ok X G (c.fact 43 (f := .glo "Nothing") rfl)⟩
    xf := xfB_ok ex2
    d_is_whole := c.def_ 0 (d := de_is_whole) rfl
    g_is_whole := He.glo_ok X G (c.fact 44 (f := .glo "is_whole") rfl)
    d_are_levels := c.def_ 1 (d := de_are_levels) rfl
    g_are_levels := He.glo_ok X G (c.fact 45 (f := .glo "are_levels") rfl)
    d_look_rows := c.def_ 2 (d := de_look_rows) rfl
    g_look_rows := He.glo_ok X G (c.fact 46 (f := .glo "look_rows") rfl)
    d_look_tick := c.def_ 3 (d := de_look_tick) rfl
    g_look_tick := He.glo_ok X G (c.fact 47 (f := .glo "look_tick") rfl)
    d_holding := c.def_ 4 (d := de_holding) rfl
    g_holding := He.glo_ok X G (c.fact 48 (f := .glo "holding") rfl)
    d_is_sign := c.def_ 5 (d := de_is_sign) rfl
    g_is_sign := He.glo_ok X G (c.fact 49 (f := .glo "is_sign") rfl)
    d_look_sign := c.def_ 6 (d := de_look_sign) rfl
    g_look_sign := He.glo_ok X G (c.fact 50 (f := .glo "look_sign") rfl)
    d_fits := c.def_ 7 (d := de_fits) rfl
    g_fits := He.glo_ok X G (c.fact 51 (f := .glo "fits") rfl)
    d_ticks_of := c.def_ 8 (d := de_ticks_of) rfl
    g_ticks_of := He.glo_ok X G (c.fact 52 (f := .glo "ticks_of") rfl)
    d_tells := c.def_ 9 (d := de_tells) rfl
    g_tells := He.glo_ok X G (c.fact 53 (f := .glo "tells") rfl)
    d_order := c.def_ 10 (d := de_order) rfl
    g_order := He.glo_ok X G (c.fact 54 (f := .glo "order") rfl)
    d_look_chain := c.def_ 11 (d := de_look_chain) rfl
    g_look_chain := He.glo_ok X G (c.fact 55 (f := .glo "look_chain") rfl)
    d_reached := c.def_ 12 (d := de_reached) rfl
    g_reached := He.glo_ok X G (c.fact 56 (f := .glo "reached") rfl)
    d_chained := c.def_ 13 (d := de_chained) rfl
    g_chained := He.glo_ok X G (c.fact 57 (f := .glo "chained") rfl)
    d_witness := c.def_ 14 (d := de_witness) rfl
    g_witness := He.glo_ok X G (c.fact 58 (f := .glo "witness") rfl)
    d_longest := c.def_ 15 (d := de_longest) rfl
    g_longest := He.glo_ok X G (c.fact 59 (f := .glo "longest") rfl)
    d_all_signs := c.def_ 16 (d := de_all_signs) rfl
    g_all_signs := He.glo_ok X G (c.fact 60 (f := .glo "all_signs") rfl)
    d_in_order := c.def_ 17 (d := de_in_order) rfl
    g_in_order := He.glo_ok X G (c.fact 61 (f := .glo "in_order") rfl)
    d__law_cell := c.def_ 18 (d := de__law_cell) rfl
    g__law_cell := He.glo_ok X G (c.fact 62 (f := .glo "_law_cell") rfl)
    d__law_mix := c.def_ 19 (d := de__law_mix) rfl
    g__law_mix := He.glo_ok X G (c.fact 63 (f := .glo "_law_mix") rfl)
    d__law_draw := c.def_ 20 (d := de__law_draw) rfl
    g__law_draw := He.glo_ok X G (c.fact 64 (f := .glo "_law_draw") rfl)
    d__law_pick := c.def_ 21 (d := de__law_pick) rfl
    g__law_pick := He.glo_ok X G (c.fact 65 (f := .glo "_law_pick") rfl)
    d__law_refusal := c.def_ 22 (d := de__law_refusal) rfl
    g__law_refusal := He.glo_ok X G (c.fact 66 (f := .glo "_law_refusal") rfl)
    d__law_rows := c.def_ 23 (d := de__law_rows) rfl
    g__law_rows := He.glo_ok X G (c.fact 67 (f := .glo "_law_rows") rfl)
    d__law_sign := c.def_ 24 (d := de__law_sign) rfl
    g__law_sign := He.glo_ok X G (c.fact 68 (f := .glo "_law_sign") rfl)
    d__law_copy := c.def_ 25 (d := de__law_copy) rfl
    g__law_copy := He.glo_ok X G (c.fact 69 (f := .glo "_law_copy") rfl)
    d__law_spoil := c.def_ 26 (d := de__law_spoil) rfl
    g__law_spoil := He.glo_ok X G (c.fact 70 (f := .glo "_law_spoil") rfl)
    d__law_again := c.def_ 27 (d := de__law_again) rfl
    g__law_again := He.glo_ok X G (c.fact 71 (f := .glo "_law_again") rfl)
    d__law_one := c.def_ 28 (d := de__law_one) rfl
    g__law_one := He.glo_ok X G (c.fact 72 (f := .glo "_law_one") rfl)
    d__law_told := c.def_ 29 (d := de__law_told) rfl
    g__law_told := He.glo_ok X G (c.fact 73 (f := .glo "_law_told") rfl)
    d__law_face := c.def_ 30 (d := de__law_face) rfl
    g__law_face := He.glo_ok X G (c.fact 74 (f := .glo "_law_face") rfl)
    d__law_is_kept := c.def_ 31 (d := de__law_is_kept) rfl
    g__law_is_kept := He.glo_ok X G (c.fact 75 (f := .glo "_law_is_kept") rfl)
    m___init__ := c.def_ 32 (d := de___init__) rfl
    m_go := c.def_ 33 (d := de_go) rfl
    y_go := He.meth_ok (c.fact 76 (f := .meth "Bench" "go") rfl)
    m_see := c.def_ 34 (d := de_see) rfl
    y_see := He.meth_ok (c.fact 77 (f := .meth "Bench" "see") rfl)
    m_mark := c.def_ 35 (d := de_mark) rfl
    y_mark := He.meth_ok (c.fact 78 (f := .meth "Bench" "mark") rfl)
    m_undo := c.def_ 36 (d := de_undo) rfl
    y_undo := He.meth_ok (c.fact 79 (f := .meth "Bench" "undo") rfl)
    m_seen := c.def_ 37 (d := de_seen) rfl
    y_seen := He.meth_ok (c.fact 80 (f := .meth "Bench" "seen") rfl)
    m_marks := c.def_ 38 (d := de_marks) rfl
    y_marks := He.meth_ok (c.fact 81 (f := .meth "Bench" "marks") rfl)
    m_fitting := c.def_ 39 (d := de_fitting) rfl
    y_fitting := He.meth_ok (c.fact 82 (f := .meth "Bench" "fitting") rfl)
    m_split := c.def_ 40 (d := de_split) rfl
    y_split := He.meth_ok (c.fact 83 (f := .meth "Bench" "split") rfl)
    m_unsure := c.def_ 41 (d := de_unsure) rfl
    y_unsure := He.meth_ok (c.fact 84 (f := .meth "Bench" "unsure") rfl)
    m_ask := c.def_ 42 (d := de_ask) rfl
    y_ask := He.meth_ok (c.fact 85 (f := .meth "Bench" "ask") rfl) }
theorem facts {P : Program} {w : World} {K : PySem.W.Frag} {h : Heap} {mg : Str → Option Value} {f : Addr} (X : K.In h) (G : h.Ns mainGlobals mg) (hfa : mg ("law" : Str) = some (.ref f)) (cx : He.SaysX fa fn ts [] exB w h K) :
    ∃ fd : FuncData, (∀ (s : Shared) (v : Value), BindsTo s fd ⟨[v], []⟩ [("script", v)]) ∧ ∀ base : Heap, K.In base → base.Ns mainGlobals mg → FnOk P w K mg base CX0 11 f fd ["script"] (spLaw K) := by
  have Tx := txt X G cx
  have c := cx.t.d
  obtain ⟨fd, F⟩ := c.def_ 43 (d := de_law) rfl
  have e := hfa.symm.trans (He.glo_ok X G (c.fact 86 (f := .glo "law") rfl))
  cases e
  have b := FunD.bindsA (ps := ["script"]) F fun _ _ _ _ _ _ us hl => match us, hl with | [_], _ => rfl
  refine ⟨fd, fun s v => b s [v] rfl, fun base _ _ => ?_⟩
  have h__law_spoil := f__law_spoil (P := P) (w := w) (base := base) Tx 
  have hp__law_copy := fP__law_copy (P := P) (w := w) (base := base) Tx 
  have h__law_refusal := f__law_refusal (P := P) (w := w) (base := base) Tx 
  have h_is_whole := f_is_whole (P := P) (w := w) (base := base) Tx 
  have h_are_levels := f_are_levels (P := P) (w := w) (base := base) Tx 
  have h_look_rows := f_look_rows (P := P) (w := w) (base := base) Tx h_are_levels
  have h_is_sign := f_is_sign (P := P) (w := w) (base := base) Tx 
  have h_look_sign := f_look_sign (P := P) (w := w) (base := base) Tx h_is_sign
  have h_holding := f_holding (P := P) (w := w) (base := base) Tx 
  have h_fits := f_fits (P := P) (w := w) (base := base) Tx h_holding
  have h_ticks_of := f_ticks_of (P := P) (w := w) (base := base) Tx h_fits
  have h_longest := f_longest (P := P) (w := w) (base := base) Tx h_is_whole h_look_rows h_look_sign h_ticks_of
  have h_look_chain := f_look_chain (P := P) (w := w) (base := base) Tx h_is_whole h_look_rows h_look_sign
  have hp_ticks_of := fP_ticks_of (P := P) (w := w) (base := base) Tx h_fits
  have hp_reached := fP_reached (P := P) (w := w) (base := base) Tx h_ticks_of hp_ticks_of
  have hp_chained := fP_chained (P := P) (w := w) (base := base) Tx h_look_chain hp_reached
  have h_look_tick := f_look_tick (P := P) (w := w) (base := base) Tx h_is_whole
  have h_reached := f_reached (P := P) (w := w) (base := base) Tx h_ticks_of hp_ticks_of
  have hp_witness := fP_witness (P := P) (w := w) (base := base) Tx h_look_chain h_look_tick h_reached
  have hp__law_one := fP__law_one (P := P) (w := w) (base := base) Tx h_longest hp_chained hp_witness
  have hp__law_told := fP__law_told (P := P) (w := w) (base := base) Tx h__law_refusal hp__law_one
  have h__law_again := f__law_again (P := P) (w := w) (base := base) Tx h__law_spoil hp__law_copy hp__law_told
  have h__law_cell := f__law_cell (P := P) (w := w) (base := base) Tx 
  have h__law_mix := f__law_mix (P := P) (w := w) (base := base) Tx h__law_cell
  have h__law_draw := f__law_draw (P := P) (w := w) (base := base) Tx h__law_mix
  have hm_fitting := f_fitting (P := P) (w := w) (base := base) Tx h_fits
  have hm_split := f_split (P := P) (w := w) (base := base) Tx h_fits hm_fitting
  have hm_ask := f_ask (P := P) (w := w) (base := base) Tx hm_split
  have hmp_fitting := fMP_fitting (P := P) (w := w) (base := base) Tx h_fits
  have hmp_marks := fMP_marks (P := P) (w := w) (base := base) Tx 
  have hmp_seen := fMP_seen (P := P) (w := w) (base := base) Tx 
  have hmp_unsure := fMP_unsure (P := P) (w := w) (base := base) Tx hm_split
  have h__law_face := f__law_face (P := P) (w := w) (base := base) Tx hm_ask hmp_fitting hmp_marks hmp_seen hmp_unsure
  have hx__law_copy := fX__law_copy (P := P) (w := w) (base := base) Tx
  have hx__law_spoil := fX__law_spoil (P := P) (w := w) (base := base) Tx
  have h__law_is_kept := f__law_is_kept (P := P) (w := w) (base := base) Tx h__law_face hx__law_copy hx__law_spoil
  have h__law_pick := f__law_pick (P := P) (w := w) (base := base) Tx h__law_draw
  have h__law_rows := f__law_rows (P := P) (w := w) (base := base) Tx h__law_draw h__law_pick
  have h__law_sign := f__law_sign (P := P) (w := w) (base := base) Tx h__law_pick
  have h_all_signs := f_all_signs (P := P) (w := w) (base := base) Tx 
  have h_order := f_order (P := P) (w := w) (base := base) Tx 
  have h_tells := f_tells (P := P) (w := w) (base := base) Tx 
  have h_in_order := f_in_order (P := P) (w := w) (base := base) Tx h_order h_tells
  have hi_Bench := f___init__ (P := P) (w := w) (base := base) Tx h_all_signs h_in_order h_is_whole
  have hm_go := f_go (P := P) (w := w) (base := base) Tx 
  have hm_mark := f_mark (P := P) (w := w) (base := base) Tx h_look_tick hm_go
  have hm_see := f_see (P := P) (w := w) (base := base) Tx h_are_levels hm_go
  have hm_seen := f_seen (P := P) (w := w) (base := base) Tx 
  have hm_undo := f_undo (P := P) (w := w) (base := base) Tx 
  exact f_law Tx h__law_again h__law_draw h__law_is_kept h__law_rows h__law_sign hi_Bench hm_mark hm_see hm_seen hm_undo F
end Lw
open PySem PySem.W PySem.Calls PyProof.Rows
theorem PySem.Challenge.cw_signlearn_k91_whole_again_more_holds : PySem.Challenge.rw_signlearn_k91_whole_again_more.Holds := by
  w_on; o_law
  refine HandSHeadRun.head_any (r := OpenLaw.row PySem.Challenge.rw_signlearn_k91_whole_again_more) (q := view (OpenLaw.row PySem.Challenge.rw_signlearn_k91_whole_again_more).prog [55]) (H := Lw.hk) (ob := Lw.ob) (M := 6000) (loose := Lw.lo) (d := HandSHeadRun.topDef (OpenLaw.row PySem.Challenge.rw_signlearn_k91_whole_again_more).prog 55) (kwd := []) Lw.ob_eq
    (by kernel_rfl) (fun s => by kernel_rfl) Lw.run (by kernel_rfl) (by kernel_rfl) (by kernel_rfl) (by rfl) (by first | assumption | decide +kernel) (by decide +kernel) ⟨rfl, rfl, rfl, rfl, rfl, by decide +kernel⟩ ?hw ?hc
  case hw => w_witness2
  case hc =>
    refine L2.walk_ofE (l := PySem.Challenge.rw_signlearn_k91_whole_again_more) (n := 63) (k := 11) (x := "script") (CX := L2.CX0) rfl (by decide) (by kernel_rfl) ⟨rfl, by decide, by decide⟩ ?F (fun _ _ _ _ z => z)
    intro w mg fa h Y G hmg0
    obtain ⟨K, KX, c⟩ := Y
    have hmg : mg ("law" : PySem.Str) = some (.ref fa) := by
      have e : (HandSHeadRun.topDef (OpenLaw.row PySem.Challenge.rw_signlearn_k91_whole_again_more).prog 55).name = ("law" : PySem.Str) := by kernel_rfl
      rw [← e]
      exact hmg0
    obtain ⟨fd, hb, hF⟩ := Lw.facts (P := (PySem.Challenge.rw_signlearn_k91_whole_again_more).prog) (w := w) KX G hmg c
    exact ⟨K, fd, Dt.spLaw K, KX, hb, fun H a ns hl _ hS => ⟨a, ns, rfl, hS, fun _ => rfl⟩, hF⟩
