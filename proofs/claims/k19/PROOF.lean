import PyProof.Rows.All
import Wide.All
import OpenK.AllK
import Wide.FinOn
import HandS.ForMost
import HandS.ForExc
import HandS.TryMany
import HandS.ExcIs
import HandS.ExcField
import HandS.IsInst
import HandS.TupAny
import HandS.Wide
import HandS.CallSlots
import KE.SortData
import HandS.TupSets
import KE.DataMinMax
import HandS.TupMul
import KE.DataCmp
import PyProof.P3In
import PyProof.NeData
import PyProof.ReprRoads
import HandS.RaiseMore
import HandS.Rev
import HandS.Conv
import HandS.More
import HandS.Walk
import KE.GoesEnum
import HandS.TryOnly
import HandS.Iter
import HandS.Zip
import HandS.DictComp
import HandS.Comp
import HandS.Exc
import HandS.ExcOwn
import HandS.Defaults
import HandS.HeadHook2
import KE.KDictZip
import HandS.ListItems
import KE.KExcSuper
import KE.KSuper
import HandS.ExcInit
import KE.KExcIs
import HandS.HeadEnd
import HandS.Head2
import KE.KStateDown
import PySem.Challenge.RW_wherewordsbegin_k19_whole_main_away_on_t
set_option Elab.async false
set_option linter.all false
set_option maxRecDepth 100000
set_option maxHeartbeats 0
/-! Ma1: plain values, the plain heap, how they stand for the abstract ones. -/
namespace MP
open PySem PySem.Spec PyProof.Rows L2

/-- a plain value: tuples by value, all that changes by its address -/
inductive D where
  | non | bl (b : Bool) | int (i : Int) | str (x : Str) | tup (xs : List D) | ref (a : Addr)
  /-- a list that is never written (the script) -/
  | lro (xs : List D)

/-- what stands at an address -/
inductive MO where
  | lst (xs : List D)
  | dct (kvs : List (D × D))
abbrev MH := Addr → Option MO
abbrev ME := List (Option D)
def mup (h : MH) (a : Addr) (o : MO) : MH := fun b => if b = a then some o else h b
@[simp] theorem mup_same {h : MH} {a : Addr} {o : MO} : mup h a o a = some o := if_pos rfl
theorem mup_ne {h : MH} {a b : Addr} {o : MO} (e : b ≠ a) : mup h a o b = h b := if_neg e

/-- a list that is never written: locked, or the module's -/
def SqF (K : PySem.W.Frag) (H : Hp) (a : Addr) (xs : List V) : Prop :=
  (∃ o, H a = some (.frz o (.lst xs))) ∨
    ∃ (o : Obj) (its : Array Value) (n : Nat), K.lookup a = some o ∧ o.cls = .type "list" ∧ o.dict = none ∧ o.data = .seq its n ∧ its.size ≤ sizeLine ∧ Vals xs its.toList
theorem SqF.seq {K : PySem.W.Frag} {H : Hp} {a : Addr} {xs : List V} (s : SqF K H a xs) : SqL K H a xs := by
  rcases s with s | s
  · exact .inl (.inr s)
  · exact .inr s
/-- what never changes stays -/
structure Kp (H H' : Hp) : Prop where
  tup : ∀ a xs, H a = some (.tup xs) → H' a = some (.tup xs)
  frz : ∀ a o u, H a = some (.frz o u) → H' a = some (.frz o u)
theorem Kp.rd {H H' : Hp} (k : Kp H H') {a : Addr} {xs : List V} (r : Rd H a (.tup xs)) : Rd H' a (.tup xs) := by
  rcases r with r | ⟨o, r⟩
  · exact .inl (k.tup _ _ r)
  · exact .inr ⟨o, k.frz _ _ _ r⟩
theorem Kp.refl (H : Hp) : Kp H H := ⟨fun _ _ e => e, fun _ _ _ e => e⟩
theorem Kp.trans {H H1 H2 : Hp} (a : Kp H H1) (b : Kp H1 H2) : Kp H H2 := ⟨fun c x e => b.tup _ _ (a.tup c x e), fun c o u e => b.frz _ _ _ (a.frz c o u e)⟩

mutual
def RV (K : PySem.W.Frag) (H : Hp) : D → V → Prop
  | .non, v => v = .non
  | .bl b, v => v = .bl b
  | .int i, v => v = .int i
  | .str x, v => v = .str x
  | .ref a, v => v = .ref a
  | .tup ds, v => ∃ a xs, v = .ref a ∧ H a = some (.tup xs) ∧ RVs K H ds xs ∧ ds.length ≤ sizeLine
  | .lro ds, v => ∃ a xs, v = .ref a ∧ SqF K H a xs ∧ RVs K H ds xs ∧ ds.length ≤ sizeLine
def RVs (K : PySem.W.Frag) (H : Hp) : List D → List V → Prop
  | [], vs => vs = []
  | d :: ds, vs => ∃ x r, vs = x :: r ∧ RV K H d x ∧ RVs K H ds r
end

/-- a key, plainly -/
def kD : Key → D
  | .inl i => .int i
  | .inr x => .str x
def RO (K : PySem.W.Frag) (H : Hp) (a : Addr) : MO → Prop
  | .lst ds => ds.length ≤ sizeLine ∧ ∃ xs, H a = some (.lst xs) ∧ RVs K H ds xs
  | .dct kvs => kvs.length ≤ sizeLine ∧ ((∃ kk : List (Key × V), H a = some (.dK kk) ∧ Paired (fun (p : D × D) (q : Key × V) => p.1 = kD q.1 ∧ RV K H p.2 q.2) kvs kk) ∨
      ∃ kk : List (List Key × V), H a = some (.dT kk) ∧ Paired (fun (p : D × D) (q : List Key × V) => p.1 = .tup (q.1.map kD) ∧ RV K H p.2 q.2) kvs kk)
def R (K : PySem.W.Frag) (h : MH) (H : Hp) : Prop := ∀ a o, h a = some o → RO K H a o

/-- what stays: what never changes; what is not the plain heap's -/
structure Ext (h : MH) (H : Hp) (h' : MH) (H' : Hp) : Prop where
  kp : Kp H H'
  tmp : ∀ a o, H a = some o → h a = none → H' a = some o ∧ h' a = none
  dom : ∀ a o, h a = some o → ∃ o', h' a = some o'
theorem Ext.refl (h : MH) (H : Hp) : Ext h H h H := ⟨.refl _, fun _ _ e n => ⟨e, n⟩, fun _ o e => ⟨o, e⟩⟩
theorem Ext.trans {h h1 h2 : MH} {H H1 H2 : Hp} (a : Ext h H h1 H1) (b : Ext h1 H1 h2 H2) : Ext h H h2 H2 :=
  ⟨a.kp.trans b.kp, fun c o e n => let ⟨e1, n1⟩ := a.tmp c o e n; b.tmp c o e1 n1, fun c o e => let ⟨_, e1⟩ := a.dom c o e; b.dom c _ e1⟩
theorem Ext.back {h h' : MH} {H H' : Hp} (e : Ext h H h' H') {a : Addr} (n : H' a = none) (n' : h' a = none) : H a = none ∧ h a = none := by
  have hn : h a = none := by
    cases q : h a with
    | none => rfl
    | some o => obtain ⟨o', z⟩ := e.dom a o q; rw [n'] at z; cases z
  refine ⟨?_, hn⟩
  cases q : H a with
  | none => rfl
  | some o => obtain ⟨z, _⟩ := e.tmp a o q hn; rw [n] at z; cases z

section
variable {K : PySem.W.Frag} {h h' : MH} {H H' : Hp}
theorem SqT.ext {a : Addr} {xs : List V} (t : Kp H H') (s : SqT K H a xs) : SqT K H' a xs := by
  rcases s with s | s
  · exact .inl (t.rd s)
  · exact .inr s
theorem SqF.ext {a : Addr} {xs : List V} (t : Kp H H') (s : SqF K H a xs) : SqF K H' a xs := by
  rcases s with ⟨o, s⟩ | s
  · exact .inl ⟨o, t.frz _ _ _ s⟩
  · exact .inr s
mutual
theorem RV.ext (t : Kp H H') : ∀ {d : D} {v : V}, RV K H d v → RV K H' d v
  | .non, _, r => by rw [RV] at *; exact r
  | .bl _, _, r => by rw [RV] at *; exact r
  | .int _, _, r => by rw [RV] at *; exact r
  | .str _, _, r => by rw [RV] at *; exact r
  | .ref _, _, r => by rw [RV] at *; exact r
  | .tup ds, v, r => by
    rw [RV] at *
    obtain ⟨a, xs, e, s, q, z⟩ := r
    exact ⟨a, xs, e, t.tup _ _ s, RVs.ext t q, z⟩
  | .lro ds, v, r => by
    rw [RV] at *
    obtain ⟨a, xs, e, s, q, z⟩ := r
    exact ⟨a, xs, e, SqF.ext t s, RVs.ext t q, z⟩
theorem RVs.ext (t : Kp H H') : ∀ {ds : List D} {vs : List V}, RVs K H ds vs → RVs K H' ds vs
  | [], _, r => by rw [RVs] at *; exact r
  | d :: ds, vs, r => by
    rw [RVs] at *
    obtain ⟨x, q, e, r1, r2⟩ := r
    exact ⟨x, q, e, RV.ext t r1, RVs.ext t r2⟩
end
theorem RV.mono (e : Ext h H h' H') {d : D} {v : V} (r : RV K H d v) : RV K H' d v := RV.ext e.kp r
theorem RVs.mono (e : Ext h H h' H') {ds : List D} {vs : List V} (r : RVs K H ds vs) : RVs K H' ds vs := RVs.ext e.kp r

theorem RV.non : RV K H .non .non := by rw [RV]
theorem RV.bl {b : Bool} : RV K H (.bl b) (.bl b) := by rw [RV]
theorem RV.int {i : Int} : RV K H (.int i) (.int i) := by rw [RV]
theorem RV.str {x : Str} : RV K H (.str x) (.str x) := by rw [RV]
theorem RV.ref {a : Addr} : RV K H (.ref a) (.ref a) := by rw [RV]
theorem RV.tup {a : Addr} {ds : List D} {xs : List V} (s : H a = some (.tup xs)) (r : RVs K H ds xs) (z : ds.length ≤ sizeLine) : RV K H (.tup ds) (.ref a) := by
  rw [RV]; exact ⟨a, xs, rfl, s, r, z⟩
theorem RV.eq_non {v : V} (r : RV K H .non v) : v = .non := by rw [RV] at r; exact r
theorem RV.eq_bl {b : Bool} {v : V} (r : RV K H (.bl b) v) : v = .bl b := by rw [RV] at r; exact r
theorem RV.eq_int {i : Int} {v : V} (r : RV K H (.int i) v) : v = .int i := by rw [RV] at r; exact r
theorem RV.eq_str {x : Str} {v : V} (r : RV K H (.str x) v) : v = .str x := by rw [RV] at r; exact r
theorem RV.eq_ref {a : Addr} {v : V} (r : RV K H (.ref a) v) : v = .ref a := by rw [RV] at r; exact r
theorem RV.eq_tup {ds : List D} {v : V} (r : RV K H (.tup ds) v) : ∃ a xs, v = .ref a ∧ H a = some (.tup xs) ∧ RVs K H ds xs ∧ ds.length ≤ sizeLine := by rw [RV] at r; exact r
theorem RV.lro {a : Addr} {ds : List D} {xs : List V} (s : SqF K H a xs) (r : RVs K H ds xs) (z : ds.length ≤ sizeLine) : RV K H (.lro ds) (.ref a) := by
  rw [RV]; exact ⟨a, xs, rfl, s, r, z⟩
theorem RV.eq_lro {ds : List D} {v : V} (r : RV K H (.lro ds) v) : ∃ a xs, v = .ref a ∧ SqF K H a xs ∧ RVs K H ds xs ∧ ds.length ≤ sizeLine := by rw [RV] at r; exact r
theorem RVs.nil : RVs K H [] [] := by rw [RVs]
theorem RVs.cons {d : D} {ds : List D} {x : V} {xs : List V} (r : RV K H d x) (q : RVs K H ds xs) : RVs K H (d :: ds) (x :: xs) := by
  rw [RVs]; exact ⟨x, xs, rfl, r, q⟩
theorem RVs.eq_nil {vs : List V} (r : RVs K H [] vs) : vs = [] := by rw [RVs] at r; exact r
theorem RVs.eq_cons {d : D} {ds : List D} {vs : List V} (r : RVs K H (d :: ds) vs) : ∃ x xs, vs = x :: xs ∧ RV K H d x ∧ RVs K H ds xs := by rw [RVs] at r; exact r
theorem RVs.length : ∀ {ds : List D} {vs : List V}, RVs K H ds vs → vs.length = ds.length
  | [], _, r => by rw [r.eq_nil]; rfl
  | d :: ds, _, r => by
    obtain ⟨x, xs, rfl, _, q⟩ := r.eq_cons
    rw [List.length_cons, List.length_cons, RVs.length q]
theorem RVs.get : ∀ {ds : List D} {vs : List V} {i : Nat} {v : V}, RVs K H ds vs → vs[i]? = some v → ∃ d, ds[i]? = some d ∧ RV K H d v
  | [], _, _, _, r, e => by rw [r.eq_nil] at e; simp at e
  | d :: ds, _, i, v, r, e => by
    obtain ⟨x, xs, rfl, r1, q⟩ := r.eq_cons
    cases i with
    | zero => simp at e; subst e; exact ⟨d, rfl, r1⟩
    | succ i => simpa using RVs.get (i := i) q (by simpa using e)
theorem RVs.getD : ∀ {ds : List D} {vs : List V} {i : Nat} {d : D}, RVs K H ds vs → ds[i]? = some d → ∃ v, vs[i]? = some v ∧ RV K H d v
  | [], _, _, _, r, e => by simp at e
  | d :: ds, _, i, d', r, e => by
    obtain ⟨x, xs, rfl, r1, q⟩ := r.eq_cons
    cases i with
    | zero => simp at e; subst e; exact ⟨x, rfl, r1⟩
    | succ i => simpa using RVs.getD (i := i) q (by simpa using e)
theorem RVs.append : ∀ {ds es : List D} {vs ws : List V}, RVs K H ds vs → RVs K H es ws → RVs K H (ds ++ es) (vs ++ ws)
  | [], _, _, _, r, q => by rw [r.eq_nil]; exact q
  | d :: ds, _, _, _, r, q => by
    obtain ⟨x, xs, rfl, r1, r2⟩ := r.eq_cons
    exact .cons r1 (RVs.append r2 q)
theorem RVs.take : ∀ {ds : List D} {vs : List V} (n : Nat), RVs K H ds vs → RVs K H (ds.take n) (vs.take n)
  | [], _, n, r => by rw [r.eq_nil]; simp; exact .nil
  | d :: ds, _, 0, r => by simp; exact .nil
  | d :: ds, _, n + 1, r => by
    obtain ⟨x, xs, rfl, r1, r2⟩ := r.eq_cons
    exact .cons r1 (RVs.take n r2)
theorem RVs.drop : ∀ {ds : List D} {vs : List V} (n : Nat), RVs K H ds vs → RVs K H (ds.drop n) (vs.drop n)
  | [], _, n, r => by rw [r.eq_nil]; simp; exact .nil
  | d :: ds, _, 0, r => r
  | d :: ds, _, n + 1, r => by
    obtain ⟨x, xs, rfl, r1, r2⟩ := r.eq_cons
    exact RVs.drop n r2
theorem RVs.set : ∀ {ds : List D} {vs : List V} (n : Nat) {d : D} {v : V}, RVs K H ds vs → RV K H d v → RVs K H (ds.set n d) (vs.set n v)
  | [], _, n, _, _, r, _ => by rw [r.eq_nil]; simp; exact .nil
  | d :: ds, _, 0, _, _, r, q => by
    obtain ⟨x, xs, rfl, r1, r2⟩ := r.eq_cons
    exact .cons q r2
  | d :: ds, _, n + 1, _, _, r, q => by
    obtain ⟨x, xs, rfl, r1, r2⟩ := r.eq_cons
    exact .cons r1 (RVs.set n r2 q)
theorem RVs.reverse : ∀ {ds : List D} {vs : List V}, RVs K H ds vs → RVs K H ds.reverse vs.reverse
  | [], _, r => by rw [r.eq_nil]; exact .nil
  | d :: ds, _, r => by
    obtain ⟨x, xs, rfl, r1, r2⟩ := r.eq_cons
    rw [List.reverse_cons, List.reverse_cons]
    exact (RVs.reverse r2).append (.cons r1 .nil)
theorem RVs.ints : ∀ {ns : List Int} {vs : List V}, RVs K H (ns.map D.int) vs → vs = ns.map V.int
  | [], _, r => r.eq_nil
  | n :: ns, _, r => by
    obtain ⟨x, xs, rfl, r1, r2⟩ := r.eq_cons
    rw [r1.eq_int, RVs.ints r2]; rfl
theorem RVs.of_ints : ∀ (ns : List Int), RVs K H (ns.map D.int) (ns.map V.int)
  | [] => .nil
  | n :: ns => .cons .int (RVs.of_ints ns)

/-! ### the plain heap keeps its things -/
theorem RO.no_tup {a : Addr} {o : MO} (r : RO K H a o) {xs : List V} : H a ≠ some (.tup xs) := by
  cases o with
  | lst ds => obtain ⟨_, ys, e, _⟩ := r; intro q; rw [e] at q; cases q
  | dct kvs => rcases r.2 with ⟨kk, e, _⟩ | ⟨kk, e, _⟩ <;> (intro q; rw [e] at q; cases q)
theorem RO.no_frz {a : Addr} {o : MO} (r : RO K H a o) {ob : Obj} {u : HO} : H a ≠ some (.frz ob u) := by
  cases o with
  | lst ds => obtain ⟨_, ys, e, _⟩ := r; intro q; rw [e] at q; cases q
  | dct kvs => rcases r.2 with ⟨kk, e, _⟩ | ⟨kk, e, _⟩ <;> (intro q; rw [e] at q; cases q)
theorem RO.there {a : Addr} {o : MO} (r : RO K H a o) : ∃ u, H a = some u := by
  cases o with
  | lst ds => obtain ⟨_, ys, e, _⟩ := r; exact ⟨_, e⟩
  | dct kvs => rcases r.2 with ⟨kk, e, _⟩ | ⟨kk, e, _⟩ <;> exact ⟨_, e⟩
theorem Paired.mp {α β : Type} {F G : α → β → Prop} (f : ∀ a b, F a b → G a b) : ∀ {l₁ : List α} {l₂ : List β}, Paired F l₁ l₂ → Paired G l₁ l₂
  | _, _, .nil => .nil
  | _, _, .cons r t => .cons (f _ _ r) (Paired.mp f t)
theorem RO.ext {a : Addr} {o : MO} (t : Kp H H') (e : ∀ u, H a = some u → H' a = some u) (r : RO K H a o) : RO K H' a o := by
  cases o with
  | lst ds =>
    obtain ⟨z, ys, q, s⟩ := r
    exact ⟨z, ys, e _ q, s.ext t⟩
  | dct kvs =>
    obtain ⟨z, q⟩ := r
    refine ⟨z, ?_⟩
    rcases q with ⟨kk, q, s⟩ | ⟨kk, q, s⟩
    · exact .inl ⟨kk, e _ q, Paired.mp (fun p q r => ⟨r.1, r.2.ext t⟩) s⟩
    · exact .inr ⟨kk, e _ q, Paired.mp (fun p q r => ⟨r.1, r.2.ext t⟩) s⟩
/-- a new thing, at p -/
theorem kp_new {p : Addr} {o : HO} (n : H p = none) : Kp H (upd H p o) :=
  ⟨fun a xs r => by rw [upd_ne (ne_of_none r n)]; exact r, fun a u v r => by rw [upd_ne (ne_of_none r n)]; exact r⟩
theorem R.new {p : Addr} {o : HO} (r : R K h H) (n : H p = none) : R K h (upd H p o) := fun a u e =>
  (r a u e).ext (kp_new n) fun v q => by rw [upd_ne (ne_of_none q n)]; exact q
theorem Ext.new {p : Addr} {o : HO} (n : H p = none) : Ext h H h (upd H p o) :=
  ⟨kp_new n, fun a u e q => ⟨by rw [upd_ne (ne_of_none e n)]; exact e, q⟩, fun _ o e => ⟨o, e⟩⟩
/-- the thing at p, not yet in the plain heap, comes in -/
theorem R.put {p : Addr} {o : MO} (r : R K h H) (q : RO K H p o) : R K (mup h p o) H := fun a u e => by
  by_cases hp : a = p
  · subst hp; rw [mup_same] at e; cases e; exact q
  · rw [mup_ne hp] at e; exact r a u e
theorem Ext.put {p : Addr} {o : MO} {h0 : MH} {H0 : Hp} (e : Ext h0 H0 h H) (n : H0 p = none) : Ext h0 H0 (mup h p o) H :=
  ⟨e.kp, fun a u q z => by
    obtain ⟨e1, e2⟩ := e.tmp a u q z
    have hp : a ≠ p := ne_of_none q n
    exact ⟨e1, by rw [mup_ne hp]; exact e2⟩, fun a u q => by
    by_cases hp : a = p
    · exact ⟨o, by rw [hp, mup_same]⟩
    · obtain ⟨u', q'⟩ := e.dom a u q; exact ⟨u', by rw [mup_ne hp]; exact q'⟩⟩
/-- the thing at p is changed -/
theorem kp_upd {p : Addr} {o : MO} {u : HO} (r : R K h H) (e : h p = some o) : Kp H (upd H p u) :=
  ⟨fun a xs q => by
    have hp : a ≠ p := fun z => (r p o e).no_tup (z ▸ q)
    rw [upd_ne hp]; exact q,
   fun a ob v q => by
    have hp : a ≠ p := fun z => (r p o e).no_frz (z ▸ q)
    rw [upd_ne hp]; exact q⟩
theorem R.upd {p : Addr} {o o' : MO} {u : HO} (r : R K h H) (e : h p = some o) (q : RO K (L2.upd H p u) p o') : R K (mup h p o') (L2.upd H p u) := fun a v z => by
  by_cases hp : a = p
  · subst hp; rw [mup_same] at z; cases z; exact q
  · rw [mup_ne hp] at z
    exact (r a v z).ext (kp_upd r e) fun w y => by rw [upd_ne hp]; exact y
theorem Ext.upd {p : Addr} {o o' : MO} {u : HO} (r : R K h H) (e : h p = some o) : Ext h H (mup h p o') (L2.upd H p u) :=
  ⟨kp_upd r e, fun a v q z => by
    have hp : a ≠ p := fun y => by rw [y, e] at z; cases z
    exact ⟨by rw [upd_ne hp]; exact q, by rw [mup_ne hp]; exact z⟩, fun a v q => by
    by_cases hp : a = p
    · exact ⟨o', by rw [hp, mup_same]⟩
    · exact ⟨v, by rw [mup_ne hp]; exact q⟩⟩
theorem R.free {p : Addr} (r : R K h H) (n : H p = none) : h p = none := by
  cases e : h p with
  | none => rfl
  | some o =>
    obtain ⟨u, q⟩ := (r p o e).there
    rw [n] at q; cases q
end

/-! ### slots -/
structure RE (K : PySem.W.Frag) (H : Hp) (σm : ME) (σ : L2.St) : Prop where
  len : σm.length = σ.length
  at' : ∀ (i : Nat) (d : D), σm[i]? = some (some d) → ∃ v, σ[i]? = some (some v) ∧ RV K H d v
section
variable {K : PySem.W.Frag} {h h' : MH} {H H' : Hp} {σm : ME} {σ : L2.St}
theorem RE.mono (e : Ext h H h' H') (r : RE K H σm σ) : RE K H' σm σ := ⟨r.len, fun i d q => let ⟨v, a, b⟩ := r.at' i d q; ⟨v, a, b.mono e⟩⟩
theorem RE.set (r : RE K H σm σ) {i : Nat} {d : D} {v : V} (q : RV K H d v) : RE K H (σm.set i (some d)) (σ.set i (some v)) := by
  refine ⟨by simp [r.len], fun j e hj => ?_⟩
  by_cases hij : i = j
  · subst hij
    have hi : i < σm.length := by
      by_cases hi : i < σm.length
      · exact hi
      · rw [List.getElem?_eq_none (by simpa using hi)] at hj; cases hj
    rw [List.getElem?_set_self hi] at hj
    cases hj
    exact ⟨v, List.getElem?_set_self (by rw [← r.len]; exact hi), q⟩
  · rw [List.getElem?_set_ne hij] at hj
    rw [List.getElem?_set_ne hij]
    exact r.at' j e hj
def wipeM (σ : ME) : List Nat → ME
  | [] => σ
  | v :: vs => (wipeM σ vs).set v none
theorem RE.clear (r : RE K H σm σ) (i : Nat) : RE K H (σm.set i none) (σ.set i none) := by
  refine ⟨by simp [r.len], fun j e hj => ?_⟩
  by_cases hij : i = j
  · subst hij
    have hi : i < σm.length := by
      by_cases hi : i < σm.length
      · exact hi
      · rw [List.getElem?_eq_none (by simpa using hi)] at hj; cases hj
    rw [List.getElem?_set_self hi] at hj
    cases hj
  · rw [List.getElem?_set_ne hij] at hj
    rw [List.getElem?_set_ne hij]
    exact r.at' j e hj
theorem RE.wipe (r : RE K H σm σ) : ∀ vs : List Nat, RE K H (wipeM σm vs) (L2.wipe σ vs)
  | [] => r
  | v :: vs => by unfold wipeM L2.wipe; exact (RE.wipe r vs).clear v
end
end MP

/-! Ma2: the small language and what its phrases want. -/
namespace MP
open PySem L2

inductive Bf where
  | len | int | abs | repr | max2 | min2 | str | bool
inductive Bl where
  | tuple | all | any | sum | min | max | len
inductive Mt where
  | app | pop | popi | idx | rem | cnt | get1 | get2 | setd | ins
inductive Ty where
  | tuple | int | bool | str | list | dict
mutual
inductive E where
  | c (d : D) | v (i : Nat) | g (k : Nat)
  | tup (es : Es) | nw (l : L)
  | bin (op : Operator) (a b : E) | neg (a : E)
  | not (a : E) | and (a b : E) | or (a b : E) | ife (t : C) (a b : E)
  | cmp (op : CmpOp) (a b : E) | chn (op op' : CmpOp) (a b c : E)
  | idx (a b : E) | sl (a : E) (lo hi : O) | slb (a : E)
  | call (k : Nat) (es : Es)
  | blt (f : Bf) (es : Es) | bls (f : Bl) (l : L)
  | mth (m : Mt) (o : E) (es : Es) | extl (o : E) (l : L)
  | dnew | dcmp (k x : E) (t : T) (own : List Nat) (it : I)
  | isi (e : E) (ts : List Ty)
  | xis (i : Nat) (cs : List Nat) | xfl (i : Nat) (f : Str)
inductive Es where
  | nil | cons (e : E) (es : Es)
inductive O where
  | no | so (e : E)
inductive C where
  | e (e : E) | not (c : C) | and (a b : C) | or (a b : C)
inductive L where
  | of (e : E) | lst (es : Es) | cmp (x : E) (t : T) (own : List Nat) (it : I) (cs : C)
  | cat (a b : L) | rep (a : L) (n : E) | srt (a : L) | sset (a : L) | srtd (e : E) | lis (a : L) | lrev (a : L) | lzip (a b : L)
inductive I where
  | sq (l : L) | rng (es : Es) | enm (l : L) | zip (a b : L) | rev (l : L)
inductive T where
  | nm (i : Nat) | tp (ts : Ts)
inductive Ts where
  | nil | cons (t : T) (ts : Ts)
end
mutual
inductive S where
  | asg (t : T) (e : E) | sub (o i e : E) | par (is : List Nat) (es : Es)
  | aug (i : Nat) (op : Operator) (e : E)
  | ex (e : E) | ret (e : E) | retN
  | ite (t : C) (a b : Ss) | whl (t : C) (b : Ss) | for (t : T) (it : I) (b : Ss)
  | brk | cnt | pas
  | rse (c : Nat) (es : Es) | try (b : Ss) (hs : Hs)
inductive Ss where
  | nil | cons (s : S) (ss : Ss)
inductive Hs where
  | nil | cons (cs : List Nat) (i : Option Nat) (b : Ss) (hs : Hs)
end
def L.fresh : L → Bool
  | .of _ => false
  | _ => true

abbrev Sg := List (Option D)
/-- the classes by their numbers; their fields -/
def clsNm : Nat → Str
  | 0 => "WordError" | 1 => "Unfit" | 2 => "TooMany" | 3 => "BadText" | 4 => "Refused" | 5 => "BadLog" | 6 => "NothingToUndo" | _ => "ValueError"
def fldNm : Nat → Str
  | 2 => "limit" | 3 => "place" | 4 => "word" | 5 => "place" | _ => ""
def subNm (i j : Nat) : Bool := decide (i = j) || decide (j = 0) || decide (j = 7)
/-- an exception: its class's number, its field -/
structure Exn where
  cls : Nat
  fld : Option D
abbrev DK := D → MH → Prop
/-- what a def tells: arguments, heap, what is wanted of its value, of its exception -/
abbrev MSp := List D → MH → DK → (Exn → MH → Prop) → Prop
structure Cn where
  fn : Nat → MSp
  gc : Nat → D
  sub : Nat → Nat → Bool
  xm : Exn → Sg → MH → Prop
  cur : Option (Nat × Exn × Addr) := none
structure MEnds where
  nx : Sg → MH → Prop
  rt : DK
  bk : Sg → MH → Prop := fun _ _ => False
  ct : Sg → MH → Prop := fun _ _ => False

/-! ### data -/
mutual
def pdW (f : Addr → Option PyData) : D → Option PyData
  | .non => some .none
  | .bl b => some (.bool b)
  | .int i => some (.int i)
  | .str x => if PyData.strOk x = true then some (.str x) else none
  | .tup ds => (pdWs f ds).map .tuple
  | .lro ds => (pdWs f ds).map .list
  | .ref a => f a
def pdWs (f : Addr → Option PyData) : List D → Option (List PyData)
  | [] => some []
  | d :: ds => (pdW f d).bind fun p => (pdWs f ds).map fun ps => p :: ps
end
def pdR (h : MH) : Nat → Addr → Option PyData
  | 0, _ => none
  | n + 1, a => match h a with
    | some (.lst ds) => (pdWs (pdR h n) ds).map .list
    | _ => none
/-- a value as data, lists read through -/
def pd (h : MH) (d : D) : Option PyData := (pdW (pdR h 6) d).bind fun p => if p.depth ≤ 64 then some p else none
def pds (h : MH) : List D → Option (List PyData)
  | [] => some []
  | d :: ds => (pd h d).bind fun p => (pds h ds).map fun ps => p :: ps

def seqOf (h : MH) : D → Option (Bool × List D)
  | .tup ds => some (false, ds)
  | .lro ds => some (true, ds)
  | .ref a => match h a with
    | some (.lst ds) => some (true, ds)
    | _ => none
  | _ => none
def dctOf (h : MH) : D → Option (List (D × D))
  | .ref a => match h a with
    | some (.dct kvs) => some kvs
    | _ => none
  | _ => none

def isT : D → Bool
  | .tup _ => true
  | _ => false
def truD (h : MH) : D → Option Bool
  | .non => some false
  | .bl b => some b
  | .int i => some (i != 0)
  | .str x => if x.length ≤ sizeLine then some ((x.length : Int) != 0) else none
  | .tup ds => some (!ds.isEmpty)
  | .lro ds => some (!ds.isEmpty)
  | .ref a => match h a with
    | some (.lst ds) => some (!ds.isEmpty)
    | some (.dct kvs) => if (kvs.all fun p => !isT p.1) = true then some (!kvs.isEmpty) else none
    | _ => none

/-- a value as a flat key, as a key -/
def keyF : D → Option Key
  | .int i => some (.inl i)
  | .str x => some (.inr x)
  | _ => none
def keyFs : List D → Option (List Key)
  | [] => some []
  | d :: ds => (keyF d).bind fun k => (keyFs ds).map fun ks => k :: ks
abbrev KeyS := Sum Key (List Key)
def keyS : D → Option KeyS
  | .tup ds => (keyFs ds).map .inr
  | d => (keyF d).map .inl
/-- what stands at a key -/
def lookD (kvs : List (D × D)) (k : D) : Option D := (kvs.find? fun p => decide (keyS p.1 = keyS k)).map (·.2)
def putD (kvs : List (D × D)) (k v : D) : List (D × D) :=
  if (kvs.any fun p => decide (keyS p.1 = keyS k)) = true then kvs.map (fun p => if keyS p.1 = keyS k then (p.1, v) else p) else kvs ++ [(k, v)]
/-- keys of one kind -/
def keyOk (kvs : List (D × D)) (k : D) : Prop := (keyS k).isSome = true ∧ ∀ p ∈ kvs, isT p.1 = isT k

/-! ### operators -/
/-- a new list comes into the heap -/
def newL (h : MH) (ds : List D) (Q : DK) : Prop := ds.length ≤ sizeLine ∧ ∀ p, h p = none → Q (.ref p) (mup h p (.lst ds))
def addD : D → D → MH → DK → Prop
  | .int i, .int j, h, Q => Q (.int (i + j)) h
  | .tup xs, .tup ys, h, Q => xs.length + ys.length ≤ sizeLine ∧ Q (.tup (xs ++ ys)) h
  | .str x, .str y, h, Q => x.length + y.length ≤ sizeLine ∧ Q (.str (x ++ y)) h
  | .ref a, .ref b, h, Q => ∃ xs ys, h a = some (.lst xs) ∧ h b = some (.lst ys) ∧ newL h (xs ++ ys) Q
  | _, _, _, _ => False
def subD : D → D → MH → DK → Prop
  | .int i, .int j, h, Q => Q (.int (i - j)) h
  | _, _, _, _ => False
def mulD : D → D → MH → DK → Prop
  | .int i, .int j, h, Q => CMul i j ∧ Q (.int (i * j)) h
  | .tup xs, .int j, h, Q => -(2 ^ 62) < j ∧ j ≤ 1000 ∧ xs.length ≤ 1000 ∧ Q (.tup (List.replicate j.toNat xs).flatten) h
  | .ref a, .int j, h, Q => ∃ xs, h a = some (.lst xs) ∧ j < 2 ^ 62 ∧ -(2 ^ 62) < j ∧ newL h (List.replicate j.toNat xs).flatten Q
  | _, _, _, _ => False
def fdivD : D → D → MH → DK → Prop
  | .int i, .int j, h, Q => CDivN i j ∧ Q (.int (i.fdiv j)) h
  | _, _, _, _ => False
def modD : D → D → MH → DK → Prop
  | .int i, .int j, h, Q => j ≠ 0 ∧ Q (.int (i.fmod j)) h
  | _, _, _, _ => False
def powD : D → D → MH → DK → Prop
  | .int i, .int j, h, Q => CPow i j ∧ Q (.int (i ^ j.toNat)) h
  | _, _, _, _ => False
def binD : Operator → D → D → MH → DK → Prop
  | .Add => addD
  | .Sub => subD
  | .Mult => mulD
  | .FloorDiv => fdivD
  | .Mod => modD
  | .Pow => powD
  | _ => fun _ _ _ _ => False
def eqD (neg : Bool) (x y : D) (h : MH) (Q : DK) : Prop := (∃ a b, x = .str a ∧ y = .str b ∧ Q (.bl (neg ^^ decide (a = b))) h) ∨ ∃ p q, pd h x = some p ∧ pd h y = some q ∧ Q (.bl (neg ^^ PyData.eqv p q)) h
/-- an order: sw: the right one first; ng: not -/
def ltD (sw ng : Bool) (x y : D) (h : MH) (Q : DK) : Prop := ∃ p q, pd h x = some p ∧ pd h y = some q ∧ PySem.W.alike p q = true ∧ p ≠ .none ∧
  Q (.bl (ng ^^ (if sw = true then PySem.W.dataLt q p else PySem.W.dataLt p q))) h
def inD (neg : Bool) (x y : D) (h : MH) (Q : DK) : Prop :=
  match dctOf h y with
  | some kvs => keyOk kvs x ∧ Q (.bl (neg ^^ (lookD kvs x).isSome)) h
  | none => ∃ k ds p qs, seqOf h y = some (k, ds) ∧ pd h x = some p ∧ pds h ds = some qs ∧ Q (.bl (neg ^^ qs.any fun q => PyData.eqv q p)) h
def isN : D → Bool
  | .non => true
  | _ => false
def isD (neg : Bool) (x y : D) (h : MH) (Q : DK) : Prop := isN y = true ∧ Q (.bl (neg ^^ isN x)) h
def cmpD : CmpOp → D → D → MH → DK → Prop
  | .Eq => eqD false
  | .NotEq => eqD true
  | .Lt => ltD false false
  | .LtE => ltD true true
  | .Gt => ltD true false
  | .GtE => ltD false true
  | .In => inD false
  | .NotIn => inD true
  | .Is => isD false
  | .IsNot => isD true
def idxD (x y : D) (h : MH) (Q : DK) : Prop :=
  match dctOf h x with
  | some kvs => keyOk kvs y ∧ ∃ d, lookD kvs y = some d ∧ Q d h
  | none => match seqOf h x, y with
    | some (_, ds), .int i => ∃ d, atI ds i = some d ∧ Q d h
    | _, _ => False
def cutD (xs : List D) (lo hi : Option Int) : List D := (xs.drop (HT.sIx xs.length 0 lo)).take (HT.sIx xs.length xs.length hi - HT.sIx xs.length 0 lo)
def slD (x : D) (lo hi : Option Int) (h : MH) (Q : DK) : Prop :=
  match seqOf h x with
  | some (false, ds) => Q (.tup (cutD ds lo hi)) h
  | some (true, ds) => newL h (cutD ds lo hi) Q
  | none => False
def slbD (x : D) (h : MH) (Q : DK) : Prop :=
  match seqOf h x with
  | some (false, ds) => Q (.tup ds.reverse) h
  | some (true, ds) => newL h ds.reverse Q
  | none => False
def negD : D → MH → DK → Prop
  | .int i, h, Q => Q (.int (-i)) h
  | _, _, _ => False

/-! ### built-ins -/
def intsD : List D → Option (List Int)
  | [] => some []
  | .int i :: r => (intsD r).map fun is => i :: is
  | _ :: _ => none
def boolsD : List D → Option (List Bool)
  | [] => some []
  | .bl b :: r => (boolsD r).map fun bs => b :: bs
  | _ :: _ => none
/-- lists that can be put in order; data of which one is the least -/
def SrtOk (ps : List PyData) : Prop := PySem.W.AllAlike ps ∧ PySem.W.Sortable ps
def MinOk (ps : List PyData) : Prop := PySem.W.AlikeAll ps
/-- pure data, as data -/
def toP (d : D) : PyData := (pdW (fun _ => none) d).getD .none
/-- least first -/
def sortDs (ds : List D) : List D := ds.mergeSort (PySem.W.dataLe false toP)
def pure0 (d : D) : Bool := match pdW (fun _ => none) d with
  | some p => decide (p.depth ≤ 64)
  | none => false
def minD (x : D) (xs : List D) : D := xs.foldl (fun a y => if PySem.W.dataLt (toP y) (toP a) then y else a) x
def maxD (x : D) (xs : List D) : D := xs.foldl (fun a y => if PySem.W.dataLt (toP a) (toP y) then y else a) x
/-- unlike ones, each at its first place -/
def unlike : List D → List D → List D
  | acc, [] => acc.reverse
  | acc, d :: ds => if acc.any (fun e => PyData.eqv (toP e) (toP d)) = true then unlike acc ds else unlike (d :: acc) ds
def bltD (f : Bf) (ds : List D) (h : MH) (Q : DK) : Prop :=
  match f, ds with
  | .len, [d] => (match dctOf h d with
    | some kvs => (kvs.all fun p => !isT p.1) = true ∧ Q (.int kvs.length) h
    | none => match seqOf h d, d with
      | some (_, xs), _ => Q (.int xs.length) h
      | none, .str x => x.length ≤ sizeLine ∧ Q (.int x.length) h
      | _, _ => False)
  | .int, [.int i] => Q (.int i) h
  | .int, [.bl b] => Q (.int (if b then 1 else 0)) h
  | .abs, [.int i] => Q (.int (if i < 0 then -i else i)) h
  | .repr, [d] => ∃ p, pd h d = some p ∧ p.showable = true ∧ p.shown.length ≤ sizeLine ∧ Q (.str p.shown) h
  | .max2, [.int i, .int j] => Q (.int (if j > i then j else i)) h
  | .min2, [.int i, .int j] => Q (.int (if j < i then j else i)) h
  | .str, [.int i] => i.natAbs.log2 < 1920 ∧ Q (.str (toString i)) h
  | .bool, [.int i] => Q (.bl (i != 0)) h
  | .bool, [.bl b] => Q (.bl b) h
  | _, _ => False
def blsD (f : Bl) (k : Bool) (ds : List D) (h : MH) (Q : DK) : Prop :=
  match f with
  | .tuple => Q (.tup ds) h
  | .all => k = true ∧ ∃ bs, boolsD ds = some bs ∧ Q (.bl (bs.all id)) h
  | .any => k = true ∧ ∃ bs, boolsD ds = some bs ∧ Q (.bl (bs.any id)) h
  | .sum => k = true ∧ ∃ is, intsD ds = some is ∧ Q (.int is.sum) h
  | .min => match ds with
    | x :: xs => (∀ d ∈ x :: xs, pure0 d = true) ∧ MinOk ((x :: xs).map toP) ∧ Q (minD x xs) h
    | [] => False
  | .max => match ds with
    | x :: xs => (∀ d ∈ x :: xs, pure0 d = true) ∧ MinOk ((x :: xs).map toP) ∧ Q (maxD x xs) h
    | [] => False
  | .len => Q (.int ds.length) h
def setD (o i v : D) (h : MH) (Q : MH → Prop) : Prop :=
  match o with
  | .ref a => match h a with
    | some (.lst xs) => ∃ n j, i = .int n ∧ ixN xs.length n = some j ∧ Q (mup h a (.lst (xs.set j v)))
    | some (.dct kvs) => keyOk kvs i ∧ (putD kvs i v).length ≤ sizeLine ∧ kvs.length < sizeLine ∧ Q (mup h a (.dct (putD kvs i v)))
    | none => False
  | _ => False
def mthD (m : Mt) (o : D) (as : List D) (h : MH) (Q : DK) : Prop :=
  match o with
  | .ref a => match h a, m, as with
    | some (.lst xs), .app, [d] => xs.length < sizeLine ∧ Q .non (mup h a (.lst (xs ++ [d])))
    | some (.lst xs), .pop, [] => ∃ d, xs[xs.length - 1]? = some d ∧ Q d (mup h a (.lst xs.dropLast))
    | some (.lst xs), .popi, [.int i] => ∃ k d, -(2 ^ 63) ≤ i ∧ i < 2 ^ 63 ∧ seqIndex? i xs.length = some k ∧ xs[k]? = some d ∧ Q d (mup h a (.lst (xs.eraseIdx k)))
    | some (.dct kvs), .get1, [k] => keyOk kvs k ∧ Q ((lookD kvs k).getD .non) h
    | some (.dct kvs), .get2, [k, d] => keyOk kvs k ∧ Q ((lookD kvs k).getD d) h
    | _, _, _ => False
  | _ => False
/-- what a method's object must be -/
def onT (m : Mt) (o : D) (h : MH) : Prop :=
  match m with
  | .get1 | .get2 | .setd => ∃ a kvs, o = .ref a ∧ h a = some (.dct kvs)
  | _ => ∃ a xs, o = .ref a ∧ h a = some (.lst xs)
def extD (o : D) (ds : List D) (h : MH) (Q : DK) : Prop :=
  match o with
  | .ref a => match h a with
    | some (.lst xs) => xs.length + ds.length ≤ sizeLine ∧ Q .non (mup h a (.lst (xs ++ ds)))
    | _ => False
  | _ => False
def isTy (h : MH) (d : D) : Ty → Bool
  | .tuple => (match d with | .tup _ => true | _ => false)
  | .int => (match d with | .int _ => true | .bl _ => true | _ => false)
  | .bool => (match d with | .bl _ => true | _ => false)
  | .str => (match d with | .str _ => true | _ => false)
  | .list => (match d with | .lro _ => true | .ref a => (match h a with | some (.lst _) => true | _ => false) | _ => false)
  | .dict => (match d with | .ref a => (match h a with | some (.dct _) => true | _ => false) | _ => false)
def knownTy (h : MH) : D → Bool
  | .ref a => (h a).isSome
  | .lro _ => false
  | _ => true

/-! ### targets -/
mutual
def tgt (h : MH) : T → D → Sg → Option Sg
  | .nm i, d, σ => some (σ.set i (some d))
  | .tp ts, d, σ => match d with
    | .tup ds => tgts h ts ds σ
    | .ref a => (match h a with
      | some (.lst ds) => tgts h ts ds σ
      | _ => none)
    | _ => none
def tgts (h : MH) : Ts → List D → Sg → Option Sg
  | .nil, [], σ => some σ
  | .cons t ts, d :: ds, σ => (tgt h t d σ).bind fun σ1 => tgts h ts ds σ1
  | _, _, _ => none
end
def setAll (σ : Sg) : List Nat → List D → Sg
  | i :: is, d :: ds => setAll (σ.set i (some d)) is ds
  | _, _ => σ

/-! ### loops -/
/-- a loop over items that stand while st: J by the turn -/
def loopW {α : Type} (items : List D) (st : MH → Prop) (turn : D → α → MH → (α → MH → Prop) → Prop) (a : α) (h : MH) (Q : α → MH → Prop) : Prop :=
  ∃ J : Nat → α → MH → Prop, J 0 a h ∧ ∀ i a h, J i a h → i ≤ items.length ∧ st h ∧ match items[i]? with
    | none => Q a h
    | some x => turn x a h (J (i + 1))
def rngL (lo : Int) (n : Nat) : List D := (List.range n).map fun (i : Nat) => D.int (lo + i)
def rngS (lo c : Int) (n : Nat) : List D := (List.range n).map fun (i : Nat) => D.int (lo + i * c)
def b62 (i : Int) : Prop := -(2 ^ 62) ≤ i ∧ i < 2 ^ 62
/-- how many turns range(i, j, c) takes -/
def rngN (i j c : Int) : Nat := if c > 0 then ((j - i + c - 1) / c).toNat else ((i - j + (-c) - 1) / (-c)).toNat
def rngI (ds : List D) (Q : List D → Prop) : Prop :=
  match ds with
  | [.int j] => b62 j ∧ Q (rngL 0 j.toNat)
  | [.int i, .int j] => b62 i ∧ b62 j ∧ Q (rngL i (j - i).toNat)
  | [.int i, .int j, .int c] => b62 i ∧ b62 j ∧ c ≠ 0 ∧ c.natAbs < 1073741824 ∧ (Builtin.Range.small i j c = true ∧ Builtin.Range.rangeSize i j c = rngN i j c) ∧ Q (rngS i c (rngN i j c))
  | _ => False
def enmL (ds : List D) : List D := ds.zipIdx.map fun p => D.tup [.int p.2, p.1]
def zipL (xs ys : List D) : List D := (xs.zip ys).map fun p => D.tup [p.1, p.2]

def noX : Exn → Sg → MH → Prop := fun _ _ _ => False

mutual
def wE : E → Cn → Sg → MH → DK → Prop
  | .c d, _, _, h, Q => Q d h
  | .v i, _, σ, h, Q => ∃ d, σ[i]? = some (some d) ∧ Q d h
  | .g k, c, _, h, Q => Q (c.gc k) h
  | .tup es, c, σ, h, Q => wEs es c σ h fun ds h1 => ds.length ≤ sizeLine ∧ Q (.tup ds) h1
  | .nw l, c, σ, h, Q => l.fresh = true ∧ wL l c σ h fun ds _ _ h1 => newL h1 ds Q
  | .bin op a b, c, σ, h, Q => wE a c σ h fun x h1 => wE b c σ h1 fun y h2 => binD op x y h2 Q
  | .neg a, c, σ, h, Q => wE a c σ h fun x h1 => negD x h1 Q
  | .not a, c, σ, h, Q => wE a c σ h fun x h1 => ∃ k, x = .bl k ∧ Q (.bl (!k)) h1
  | .and a b, c, σ, h, Q => wE a c σ h fun x h1 => ∃ k, x = .bl k ∧ if k = true then wE b c σ h1 Q else Q (.bl false) h1
  | .or a b, c, σ, h, Q => wE a c σ h fun x h1 => ∃ k, x = .bl k ∧ if k = true then Q (.bl true) h1 else wE b c σ h1 Q
  | .ife t a b, c, σ, h, Q => wC t c σ h fun k h1 => if k = true then wE a c σ h1 Q else wE b c σ h1 Q
  | .cmp op a b, c, σ, h, Q => wE a c σ h fun x h1 => wE b c σ h1 fun y h2 => cmpD op x y h2 Q
  | .chn op op' a b d, c, σ, h, Q => wE a c σ h fun x h1 => wE b c σ h1 fun y h2 => cmpD op x y h2 fun r h3 => ∃ k, r = .bl k ∧
      if k = true then wE d c σ h3 fun z h4 => cmpD op' y z h4 Q else Q (.bl false) h3
  | .idx a b, c, σ, h, Q => wE a c σ h fun x h1 => wE b c σ h1 fun y h2 => idxD x y h2 Q
  | .sl a lo hi, c, σ, h, Q => wE a c σ h fun x h1 => wO lo c σ h1 fun l h2 => wO hi c σ h2 fun u h3 => slD x l u h3 Q
  | .slb a, c, σ, h, Q => wE a c σ h fun x h1 => slbD x h1 Q
  | .call k es, c, σ, h, Q => wEs es c σ h fun ds h1 => c.fn k ds h1 Q fun e h2 => c.xm e σ h2
  | .blt f es, c, σ, h, Q => wEs es c σ h fun ds h1 => bltD f ds h1 Q
  | .bls f l, c, σ, h, Q => wL l c σ h fun ds k _ h1 => blsD f k ds h1 Q
  | .mth m o es, c, σ, h, Q => wE o c σ h fun x h1 => onT m x h1 ∧ wEs es c σ h1 fun ds h2 => mthD m x ds h2 Q
  | .extl o l, c, σ, h, Q => wE o c σ h fun x h1 => onT .app x h1 ∧ wL l c σ h1 fun ds k _ h2 => k = true ∧ extD x ds h2 Q
  | .dnew, _, _, h, Q => ∀ p, h p = none → Q (.ref p) (mup h p (.dct []))
  | .dcmp k x t own it, c, σ, h, Q => wI it c σ h fun items st h1 => items.length ≤ sizeLine ∧
      loopW items st (fun d acc h2 K => acc.length < sizeLine ∧ ∃ σ2, tgt h2 t d (wipeM σ own) = some σ2 ∧
        wE k { c with xm := noX } σ2 h2 fun kd h3 => wE x { c with xm := noX } σ2 h3 fun vd h4 => keyOk acc kd ∧ isT kd = true ∧ K (putD acc kd vd) h4) [] h1
      fun acc h2 => ∀ p, h2 p = none → Q (.ref p) (mup h2 p (.dct acc))
  | .isi e ts, c, σ, h, Q => wE e c σ h fun d h1 => knownTy h1 d = true ∧ Q (.bl (ts.any (isTy h1 d))) h1
  | .xis i cs, c, σ, h, Q => ∃ e a, c.cur = some (i, e, a) ∧ σ[i]? = some (some (.ref a)) ∧ Q (.bl (cs.any (c.sub e.cls))) h
  | .xfl i f, c, σ, h, Q => ∃ e a d, c.cur = some (i, e, a) ∧ σ[i]? = some (some (.ref a)) ∧ fldNm e.cls = f ∧ e.fld = some d ∧ Q d h
def wEs : Es → Cn → Sg → MH → (List D → MH → Prop) → Prop
  | .nil, _, _, h, Q => Q [] h
  | .cons e es, c, σ, h, Q => wE e c σ h fun d h1 => wEs es c σ h1 fun ds h2 => Q (d :: ds) h2
def wO : O → Cn → Sg → MH → (Option Int → MH → Prop) → Prop
  | .no, _, _, h, Q => Q none h
  | .so e, c, σ, h, Q => wE e c σ h fun d h1 => ∃ i, d = .int i ∧ Q (some i) h1
def wC : C → Cn → Sg → MH → (Bool → MH → Prop) → Prop
  | .e e, c, σ, h, Q => wE e c σ h fun d h1 => ∃ k, truD h1 d = some k ∧ Q k h1
  | .not t, c, σ, h, Q => wC t c σ h fun k h1 => Q (!k) h1
  | .and a b, c, σ, h, Q => wC a c σ h fun k h1 => if k = true then wC b c σ h1 Q else Q false h1
  | .or a b, c, σ, h, Q => wC a c σ h fun k h1 => if k = true then Q true h1 else wC b c σ h1 Q
def wL : L → Cn → Sg → MH → (List D → Bool → (MH → Prop) → MH → Prop) → Prop
  | .of e, c, σ, h, Q => wE e c σ h fun d h1 => ∃ k ds, seqOf h1 d = some (k, ds) ∧ Q ds k (fun h2 => seqOf h2 d = some (k, ds)) h1
  | .lst es, c, σ, h, Q => wEs es c σ h fun ds h1 => ds.length ≤ sizeLine ∧ Q ds true (fun _ => True) h1
  | .cmp x t own it cs, c, σ, h, Q => wI it c σ h fun items st h1 => items.length ≤ sizeLine ∧
      loopW items st (fun d acc h2 K => acc.length < sizeLine ∧ ∃ σ2, tgt h2 t d (wipeM σ own) = some σ2 ∧
        wC cs { c with xm := noX } σ2 h2 fun k h3 => if k = true then wE x { c with xm := noX } σ2 h3 fun y h4 => K (acc ++ [y]) h4 else K acc h3) [] h1
      fun acc h2 => Q acc true (fun _ => True) h2
  | .cat a b, c, σ, h, Q => wL a c σ h fun xs k sa h1 => k = true ∧ wL b c σ h1 fun ys k' sb h2 => k' = true ∧ sa h2 ∧ xs.length + ys.length ≤ sizeLine ∧ Q (xs ++ ys) true (fun _ => True) h2
  | .rep a n, c, σ, h, Q => wL a c σ h fun xs k sa h1 => k = true ∧ wE n c σ h1 fun d h2 => sa h2 ∧ ∃ j, d = .int j ∧ j < 2 ^ 62 ∧ -(2 ^ 62) < j ∧ xs.length * j.toNat ≤ sizeLine ∧
      Q (List.replicate j.toNat xs).flatten true (fun _ => True) h2
  | .srt a, c, σ, h, Q => wL a c σ h fun xs k _ h1 => k = true ∧ (∀ d ∈ xs, pure0 d = true) ∧ SrtOk (xs.map toP) ∧ Q (sortDs xs) true (fun _ => True) h1
  | .sset a, c, σ, h, Q => wL a c σ h fun xs k _ h1 => k = true ∧ ∃ (ks : List (List Int)) (d : Nat) (M : Int), xs = ks.map (fun k => D.tup (k.map D.int)) ∧ ks.length < 64 ∧ 1 ≤ d ∧ (∀ k ∈ ks, k.length = d ∧ TS.Bd M k) ∧
      ∀ out : List (List Int), out.Nodup → (∀ k, k ∈ out ↔ k ∈ ks) → out.Pairwise (fun a b => TS.code M a ≤ TS.code M b) → Q (out.map fun k => D.tup (k.map D.int)) true (fun _ => True) h1
  | .lis a, c, σ, h, Q => wL a c σ h fun xs _ _ h1 => Q xs true (fun _ => True) h1
  | .srtd e, c, σ, h, Q => wE e c σ h fun d h1 => ∃ kvs, dctOf h1 d = some kvs ∧ kvs ≠ [] ∧ (∀ p ∈ kvs, pure0 p.1 = true ∧ isT p.1 = true) ∧ SrtOk (kvs.map fun p => toP p.1) ∧ Q (sortDs (kvs.map (·.1))) true (fun _ => True) h1
  | .lrev a, c, σ, h, Q => wL a c σ h fun xs k _ h1 => k = true ∧ Q xs.reverse true (fun _ => True) h1
  | .lzip a b, c, σ, h, Q => wL a c σ h fun xs k sa h1 => k = true ∧ wL b c σ h1 fun ys k' _ h2 => k' = true ∧ sa h2 ∧ Q (zipL xs ys) true (fun _ => True) h2
def wI : I → Cn → Sg → MH → (List D → (MH → Prop) → MH → Prop) → Prop
  | .sq l, c, σ, h, Q => wL l c σ h fun ds _ st h1 => Q ds st h1
  | .rng es, c, σ, h, Q => wEs es c σ h fun ds h1 => rngI ds fun items => Q items (fun _ => True) h1
  | .enm l, c, σ, h, Q => wL l c σ h fun ds _ st h1 => Q (enmL ds) st h1
  | .zip a b, c, σ, h, Q => wL a c σ h fun xs k sa h1 => wL b c σ h1 fun ys k' sb h2 => k = true ∧ k' = true ∧ sa h2 ∧ Q (zipL xs ys) (fun h => sa h ∧ sb h) h2
  | .rev l, c, σ, h, Q => wL l c σ h fun ds k st h1 => k = true ∧ Q ds.reverse st h1
end

mutual
def wS : S → Cn → MEnds → Sg → MH → Prop
  | .asg t e, c, F, σ, h => wE e c σ h fun d h1 => ∃ σ2, tgt h1 t d σ = some σ2 ∧ F.nx σ2 h1
  | .sub o i e, c, F, σ, h => wE e c σ h fun d h1 => wE o c σ h1 fun x h2 => wE i c σ h2 fun y h3 => setD x y d h3 fun h4 => F.nx σ h4
  | .par is es, c, F, σ, h => wEs es c σ h fun ds h1 => ds.length = is.length ∧ F.nx (setAll σ is.reverse ds.reverse) h1
  | .aug i op e, c, F, σ, h => ∃ x, σ[i]? = some (some x) ∧ wE e c σ h fun y h1 => ∃ a b, x = .int a ∧ y = .int b ∧ binD op x y h1 fun z h2 => F.nx (σ.set i (some z)) h2
  | .ex e, c, F, σ, h => wE e c σ h fun _ h1 => F.nx σ h1
  | .ret e, c, F, σ, h => wE e c σ h F.rt
  | .retN, _, F, _, h => F.rt .non h
  | .ite t a b, c, F, σ, h => wC t c σ h fun k h1 => if k = true then wSs a c F σ h1 else wSs b c F σ h1
  | .whl t b, c, F, σ, h => ∃ W : Nat → Sg → MH → Prop, (∃ m, W m σ h) ∧ ∀ m σ h, W m σ h → wC t c σ h fun k h1 => if k = true then
      wSs b c { F with nx := fun σ' h' => ∃ m', m' < m ∧ W m' σ' h', ct := fun σ' h' => ∃ m', m' < m ∧ W m' σ' h', bk := F.nx } σ h1 else F.nx σ h1
  | .for t it b, c, F, σ, h => wI it c σ h fun items st h1 => loopW items st (fun d σ h2 K => ∃ σ2, tgt h2 t d σ = some σ2 ∧ wSs b c { F with nx := K, ct := K, bk := F.nx } σ2 h2) σ h1 F.nx
  | .brk, _, F, σ, h => F.bk σ h
  | .cnt, _, F, σ, h => F.ct σ h
  | .pas, _, F, σ, h => F.nx σ h
  | .rse k es, c, _, σ, h => wEs es c σ h fun ds h1 => c.xm ⟨k, ds.head?⟩ σ h1
  | .try b hs, c, F, σ, h => wSs b { c with xm := fun e σ' h' => wHs hs c F e σ' h' } F σ h
def wSs : Ss → Cn → MEnds → Sg → MH → Prop
  | .nil, _, F, σ, h => F.nx σ h
  | .cons s ss, c, F, σ, h => wS s c { F with nx := fun σ1 h1 => wSs ss c F σ1 h1 } σ h
def wHs : Hs → Cn → MEnds → Exn → Sg → MH → Prop
  | .nil, c, _, e, σ, h => c.xm e σ h
  | .cons cs i b hs, c, F, e, σ, h => if cs.any (c.sub e.cls) = true then
      (match i with
      | none => wSs b { c with xm := noX } F σ h
      | some i => ∀ a, h a = none → wSs b { c with xm := noX, cur := some (i, e, a) } { F with nx := fun σ' h' => F.nx (σ'.set i none) h', bk := fun σ' h' => F.bk (σ'.set i none) h', ct := fun σ' h' => F.ct (σ'.set i none) h' } (σ.set i (some (.ref a))) h)
      else wHs hs c F e σ h
end
end MP

/-! Ma3: what a phrase wants, as a reading of HandS; expressions' rules. -/
namespace MP
open PySem PySem.Spec PyProof.Rows L2

structure Rl (K : PySem.W.Frag) (B : MH × Hp) (σm : Sg) (σ : L2.St) (h : MH) (H : Hp) : Prop where
  re : RE K H σm σ
  r : R K h H
  ex : Ext B.1 B.2 h H
theorem Rl.step {K : PySem.W.Frag} {B : MH × Hp} {σm : Sg} {σ : L2.St} {h h' : MH} {H H' : Hp} (l : Rl K B σm σ h H) (r : R K h' H') (e : Ext h H h' H') : Rl K B σm σ h' H' := ⟨l.re.mono e, r, l.ex.trans e⟩

abbrev WE := Sg → MH → DK → Prop
abbrev WEs := Sg → MH → (List D → MH → Prop) → Prop
abbrev WO := Sg → MH → (Option Int → MH → Prop) → Prop
abbrev WC := Sg → MH → (Bool → MH → Prop) → Prop
abbrev WL := Sg → MH → (List D → Bool → (MH → Prop) → MH → Prop) → Prop
abbrev WI := Sg → MH → (List D → (MH → Prop) → MH → Prop) → Prop

/-- the sequence at v holds ds as long as st -/
structure Sq (K : PySem.W.Frag) (h : MH) (H : Hp) (v : V) (ds : List D) (k : Bool) (st : MH → Prop) : Prop where
  now : st h
  at' : ∃ a, v = .ref a ∧ ∀ h2 H2, Ext h H h2 H2 → R K h2 H2 → st h2 → ds.length ≤ sizeLine ∧ ∃ xs, (if k = true then SqL K H2 a xs else H2 a = some (.tup xs)) ∧ RVs K H2 ds xs

def lE (K : PySem.W.Frag) (B : MH × Hp) (m : WE) : TE := fun σ H Q => ∃ σm h P, Rl K B σm σ h H ∧ m σm h P ∧ ∀ d h' H' v, P d h' → R K h' H' → Ext h H h' H' → RV K H' d v → Q v H'
def lEs (K : PySem.W.Frag) (B : MH × Hp) (m : WEs) : TA := fun σ H Q => ∃ σm h P, Rl K B σm σ h H ∧ m σm h P ∧ ∀ ds h' H' vs, P ds h' → R K h' H' → Ext h H h' H' → RVs K H' ds vs → Q vs H'
def lO (K : PySem.W.Frag) (B : MH × Hp) (m : WO) : TO := fun σ H Q => ∃ σm h P, Rl K B σm σ h H ∧ m σm h P ∧ ∀ o h' H', P o h' → R K h' H' → Ext h H h' H' → Q o H'
def lC (K : PySem.W.Frag) (B : MH × Hp) (m : WC) : TT := fun σ H Q => ∃ σm h P, Rl K B σm σ h H ∧ m σm h P ∧ ∀ b h' H', P b h' → R K h' H' → Ext h H h' H' → Q b H'
/-- any sequence -/
def lL (K : PySem.W.Frag) (B : MH × Hp) (m : WL) : TE := fun σ H Q => ∃ σm h P, Rl K B σm σ h H ∧ m σm h P ∧ ∀ ds k st h' H' v, P ds k st h' → R K h' H' → Ext h H h' H' → Sq K h' H' v ds k st → Q v H'
/-- a new list -/
def lN (K : PySem.W.Frag) (B : MH × Hp) (m : WL) : TE := fun σ H Q => ∃ σm h P, Rl K B σm σ h H ∧ m σm h P ∧
  ∀ ds h' H' a xs, P ds true (fun _ => True) h' → R K h' H' → Ext h H h' H' → H a = none → h' a = none → H' a = some (.lst xs) → RVs K H' ds xs → ds.length ≤ sizeLine → Q (.ref a) H'

end MP
namespace L2
open PySem PySem.Spec PyProof.Rows
theorem PE.imp {X : Cx} {e : Expr} {t t' : TE} (p : PE X e t) (f : ∀ σ H Q, t' σ H Q → t σ H Q) : PE X e t' := ⟨fun pins s σ H Q I h => p.run pins s σ H Q I (f σ H Q h)⟩
theorem PT.imp {X : Cx} {e : Expr} {t t' : TT} (p : PT X e t) (f : ∀ σ H Q, t' σ H Q → t σ H Q) : PT X e t' := ⟨fun pins s σ H Q I h => p.run pins s σ H Q I (f σ H Q h)⟩
theorem PW.imp {X : Cx} {e : Expr} {t t' : TT} (p : PW X e t) (f : ∀ σ H Q, t' σ H Q → t σ H Q) : PW X e t' := ⟨fun w pins s σ H Q I h => p.run w pins s σ H Q I (f σ H Q h)⟩
theorem PA.imp {X : Cx} {es : List Expr} {t t' : TA} (p : PA X es t) (f : ∀ σ H Q, t' σ H Q → t σ H Q) : PA X es t' := ⟨fun pos pins s σ H Q I h => p.run pos pins s σ H Q I (f σ H Q h)⟩
theorem PO.imp {X : Cx} {e : Option Expr} {t t' : TO} (p : PO X e t) (f : ∀ σ H Q, t' σ H Q → t σ H Q) : PO X e t' := ⟨fun pins s σ H Q I h => p.run pins s σ H Q I (f σ H Q h)⟩
theorem PS.imp {X : Cx} {st : Stmt} {t t' : TS} (p : PS X st t) (f : ∀ D σ H, t' D σ H → t D σ H) : PS X st t' := ⟨fun pins s σ H D I h => p.run pins s σ H D I (f D σ H h)⟩
theorem PSs.imp {X : Cx} {st : List Stmt} {t t' : TS} (p : PSs X st t) (f : ∀ D σ H, t' D σ H → t D σ H) : PSs X st t' := ⟨fun pins s σ H D I h => p.run pins s σ H D I (f D σ H h)⟩

end L2
namespace MP
open PySem PySem.Spec PyProof.Rows L2
section
variable {X : Cx} {B : MH × Hp} {c : Cn} {pos : Pos}

/-! ### constants, names -/
theorem r_c {e : Expr} {d : D} {v : V} (p : PE X e (tC v)) (r : ∀ H, RV X.K H d v) : PE X e (lE X.K B (wE (.c d) c)) := p.imp fun σ H Q ⟨σm, h, P, l, w, k⟩ => by
  rw [wE] at w
  exact k d h H v w l.r (.refl _ _) (r H)
theorem r_g {e : Expr} {i : Nat} {v : V} (p : PE X e (tC v)) (r : ∀ H, RV X.K H (c.gc i) v) : PE X e (lE X.K B (wE (.g i) c)) := p.imp fun σ H Q ⟨σm, h, P, l, w, k⟩ => by
  rw [wE] at w
  exact k _ h H v w l.r (.refl _ _) (r H)
theorem r_v {e : Expr} {i : Nat} (p : PE X e (tVar i)) : PE X e (lE X.K B (wE (.v i) c)) := p.imp fun σ H Q ⟨σm, h, P, l, w, k⟩ => by
  rw [wE] at w
  obtain ⟨d, e, q⟩ := w
  obtain ⟨v, e2, rv⟩ := l.re.at' i d e
  exact ⟨v, e2, k d h H v q l.r (.refl _ _) rv⟩

/-! ### rows of expressions -/
theorem r_nil : PA X [] (lEs X.K B (wEs .nil c)) := pa_nil.imp fun σ H Q ⟨σm, h, P, l, w, k⟩ => by
  rw [wEs] at w
  exact k [] h H [] w l.r (.refl _ _) .nil
theorem r_cons {e : Expr} {es : List Expr} {m : E} {ms : Es} (he : PE X e (lE X.K B (wE m c))) (hes : PA X es (lEs X.K B (wEs ms c))) (hs : starEach (e :: es) X.env = (false, eval e X.env) :: starEach es X.env) :
    PA X (e :: es) (lEs X.K B (wEs (.cons m ms) c)) := (pa_cons he hes hs).imp fun σ H Q ⟨σm, h, P, l, w, k⟩ => by
  rw [wEs] at w
  refine ⟨σm, h, _, l, w, fun d h1 H1 v q r1 e1 rv => ⟨σm, h1, _, l.step r1 e1, q, fun ds h2 H2 vs q2 r2 e2 rvs => ?_⟩⟩
  exact k (d :: ds) h2 H2 (v :: vs) q2 r2 (e1.trans e2) (.cons (rv.mono e2) rvs)

/-! ### displays -/
theorem r_tup {es : List Expr} {ms : Es} {x1 : Nat} (hes : PA X es (lEs X.K B (wEs ms c))) : PE X (.Tuple es x1 pos) (lE X.K B (wE (.tup ms) c)) := (pe_tup hes).imp fun σ H Q ⟨σm, h, P, l, w, k⟩ => by
  rw [wE] at w
  refine ⟨σm, h, _, l, w, fun ds h1 H1 vs q r1 e1 rvs => ⟨by rw [rvs.length]; exact q.1, fun p n => ?_⟩⟩
  exact k (.tup ds) h1 _ _ q.2 (r1.new n) (e1.trans (.new n)) (.tup upd_same (rvs.mono (.new (h := h1) n)) q.1)
theorem r_lst {es : List Expr} {ms : Es} (hes : PA X es (lEs X.K B (wEs ms c))) : PE X (.List es pos) (lN X.K B (wL (.lst ms) c)) := (pe_lst hes).imp fun σ H Q ⟨σm, h, P, l, w, k⟩ => by
  rw [wL] at w
  refine ⟨σm, h, _, l, w, fun ds h1 H1 vs q r1 e1 rvs => ⟨by rw [rvs.length]; exact q.1, fun p n => ?_⟩⟩
  exact k ds h1 _ p vs q.2 (r1.new n) (e1.trans (.new n)) (e1.back n (r1.free n)).1 (r1.free n) upd_same (rvs.mono (.new (h := h1) n)) q.1
end
end MP

/-! Ma4: operators by plain values. -/
namespace MP
open PySem PySem.Spec PyProof.Rows L2

def lR2 (K : PySem.W.Frag) (f : D → D → MH → DK → Prop) : R2 := fun x y H Q => ∃ h d1 d2 P, R K h H ∧ RV K H d1 x ∧ RV K H d2 y ∧ f d1 d2 h P ∧
  ∀ d h' H' v, P d h' → R K h' H' → Ext h H h' H' → RV K H' d v → Q v H'
def lR1 (K : PySem.W.Frag) (f : D → MH → DK → Prop) : V → Hp → VK → Prop := fun x H Q => ∃ h d1 P, R K h H ∧ RV K H d1 x ∧ f d1 h P ∧
  ∀ d h' H' v, P d h' → R K h' H' → Ext h H h' H' → RV K H' d v → Q v H'
section
variable {X : Cx} {B : MH × Hp} {c : Cn} {pos : Pos}
theorem lR2_of {f : D → D → MH → DK → Prop} {a b : E} {σ : L2.St} {H : Hp} {Q : VK} {m : WE} (hm : ∀ σ h Q, m σ h Q → wE a c σ h fun x h1 => wE b c σ h1 fun y h2 => f x y h2 Q)
    (q : lE X.K B m σ H Q) : tOp (lR2 X.K f) (lE X.K B (wE a c)) (lE X.K B (wE b c)) σ H Q := by
  obtain ⟨σm, h, P, l, w, k⟩ := q
  refine ⟨σm, h, _, l, hm _ _ _ w, fun x h1 H1 u q1 r1 e1 rx => ⟨σm, h1, _, l.step r1 e1, q1, fun y h2 H2 v q2 r2 e2 ry => ?_⟩⟩
  exact ⟨h2, x, y, P, r2, rx.mono e2, ry, q2, fun d h3 H3 z p r3 e3 rz => k d h3 H3 z p r3 ((e1.trans e2).trans e3) rz⟩
theorem r_bin {op : Operator} {a b : Expr} {ma mb : E} (ho : OpR X (binaryOp op) (lR2 X.K (binD op))) (ha : PE X a (lE X.K B (wE ma c))) (hb : PE X b (lE X.K B (wE mb c))) :
    PE X (.BinOp a op b pos) (lE X.K B (wE (.bin op ma mb) c)) := (pe_op ho ha hb).imp fun σ H Q q => lR2_of (fun _ _ _ w => by rw [wE] at w; exact w) q
theorem r_cmp {op : CmpOp} {a b : Expr} {ma mb : E} (ho : OpR X (compareOp op) (lR2 X.K (cmpD op))) (ha : PE X a (lE X.K B (wE ma c))) (hb : PE X b (lE X.K B (wE mb c))) (hm : behindInMarks op b = false) :
    PE X (.Compare a [op] [b] pos) (lE X.K B (wE (.cmp op ma mb) c)) := (pe_cmpR ho ha hb hm).imp fun σ H Q q => lR2_of (fun _ _ _ w => by rw [wE] at w; exact w) q

/-! ### heaps with a new list -/
theorem new_lst {K : PySem.W.Frag} {h : MH} {H : Hp} {p : Addr} {ds : List D} {vs : List V} (r : R K h H) (n : H p = none) (rvs : RVs K H ds vs) (z : ds.length ≤ sizeLine) :
    R K (mup h p (.lst ds)) (upd H p (.lst vs)) ∧ Ext h H (mup h p (.lst ds)) (upd H p (.lst vs)) ∧ h p = none :=
  ⟨(r.new n).put ⟨z, vs, upd_same, rvs.mono (.new (h := h) n)⟩, Ext.put (.new n) n, r.free n⟩
theorem lst_at {K : PySem.W.Frag} {h : MH} {H : Hp} {a : Addr} {ds : List D} (r : R K h H) (e : h a = some (.lst ds)) : ds.length ≤ sizeLine ∧ ∃ xs, H a = some (.lst xs) ∧ RVs K H ds xs := r a _ e
theorem set_lst {K : PySem.W.Frag} {h : MH} {H : Hp} {p : Addr} {o : MO} {ds : List D} {vs : List V} (r : R K h H) (e : h p = some o) (rvs : RVs K H ds vs) (z : ds.length ≤ sizeLine) :
    R K (mup h p (.lst ds)) (upd H p (.lst vs)) ∧ Ext h H (mup h p (.lst ds)) (upd H p (.lst vs)) :=
  ⟨r.upd e ⟨z, vs, upd_same, rvs.ext (kp_upd r e)⟩, Ext.upd r e⟩
theorem new_tup {K : PySem.W.Frag} {h : MH} {H : Hp} {p : Addr} {ds : List D} {vs : List V} (r : R K h H) (n : H p = none) (rvs : RVs K H ds vs) (z : ds.length ≤ sizeLine) :
    R K h (upd H p (.tup vs)) ∧ Ext h H h (upd H p (.tup vs)) ∧ RV K (upd H p (.tup vs)) (.tup ds) (.ref p) :=
  ⟨r.new n, .new n, .tup upd_same (rvs.mono (.new (h := h) n)) z⟩

/-! ### a tuple times an int -/
theorem tuple_mul1 (l : Addr) (items : Array Value) (n : Nat) (dd : Option Addr) (sl : Array (Option Value)) (x : Int) (u : Tok) (c0 : (decide (x < -(2 ^ 63)) || decide (x ≥ 2 ^ 63)) = false) (c1 : (items.isEmpty || x == 1) = true) :
    Meets (Builtin.«tuple.__mul__» ⟨[.ref l, .int x u], []⟩) (fun _ R s => s.heap.get? l = some { cls := .type "tuple", dict := dd, data := .seq items n, slots := sl } ∧ R (.ok (.ret (Value.ref l))) s) :=
  .of_wp fun prog w A R s h => by
    obtain ⟨hp, g, d, tk, os⟩ := s
    obtain ⟨hl, h⟩ := h
    have f1 := AutoSeq1.idx_int
    wp_walk using wpAny_loadPart' hl
    repeat (first
      | (refine wpAny_ite_false (decide_eq_false (by rw [c0]; exact Bool.false_ne_true)) ?_; wp_walk using wpAny_loadPart' hl)
      | (refine wpAny_ite_true (decide_eq_true (by rw [c1])) ?_; wp_walk using wpAny_loadPart' hl))
    exact ⟨_, rfl, h⟩
theorem tuple_mul0 (l : Addr) (items : Array Value) (n : Nat) (dd : Option Addr) (sl : Array (Option Value)) (x : Int) (u : Tok) (c0 : (decide (x < -(2 ^ 63)) || decide (x ≥ 2 ^ 63)) = false) (c1 : (items.isEmpty || x == 1) = false) (c2 : (decide (x ≤ 0) || items.isEmpty) = true) :
    Meets (Builtin.«tuple.__mul__» ⟨[.ref l, .int x u], []⟩) (fun _ R s => s.heap.get? l = some { cls := .type "tuple", dict := dd, data := .seq items n, slots := sl } ∧
      R (.ok (.ret (Value.ref s.heap.objs.size))) { s with heap := s.heap.push { cls := Value.type "tuple", data := Data.seq #[] }, toks := s.toks }) :=
  .of_wp fun prog w A R s h => by
    obtain ⟨hp, g, d, tk, os⟩ := s
    obtain ⟨hl, h⟩ := h
    have f1 := AutoSeq1.idx_int
    wp_walk using wpAny_loadPart' hl
    repeat (first
      | (refine wpAny_ite_false (decide_eq_false (by rw [c0]; exact Bool.false_ne_true)) ?_; wp_walk using wpAny_loadPart' hl)
      | (refine wpAny_ite_false (decide_eq_false (by rw [c1]; exact Bool.false_ne_true)) ?_; wp_walk using wpAny_loadPart' hl)
      | (refine wpAny_ite_true (decide_eq_true (by rw [c2])) ?_; wp_walk using wpAny_loadPart' hl))
    exact ⟨_, rfl, h⟩
end

section
variable {X : Cx}
theorem rvs_rep {K : PySem.W.Frag} {H : Hp} {ds : List D} {vs : List V} (r : RVs K H ds vs) : ∀ k : Nat, RVs K H (List.replicate k ds).flatten (List.replicate k vs).flatten
  | 0 => .nil
  | k + 1 => by
    rw [List.replicate_succ, List.replicate_succ, List.flatten_cons, List.flatten_cons]
    exact r.append (rvs_rep r k)
theorem RVs.nil_iff {K : PySem.W.Frag} {H : Hp} {ds : List D} {vs : List V} (r : RVs K H ds vs) : vs = [] ↔ ds = [] := by
  rw [← List.length_eq_zero_iff, ← List.length_eq_zero_iff, r.length]
theorem len_rep_flat {α : Type} (k : Nat) (xs : List α) : (List.replicate k xs).flatten.length = k * xs.length := by
  induction k with
  | zero => simp
  | succ k ih => rw [List.replicate_succ, List.flatten_cons, List.length_append, ih]; rw [Nat.succ_mul]; omega
/-- tuple * int -/
theorem op_repA : OpR X (binaryOp .Mult) (fun x y H Q => ∃ l k xs, x = .ref l ∧ y = .int k ∧ SqT X.K H l xs ∧ -(2 ^ 62) < k ∧ k ≤ 1000 ∧ xs.length ≤ 1000 ∧
    (xs = [] ∨ k = 1 → Q (.ref l) H) ∧ (xs ≠ [] → k ≤ 0 → ∀ p, H p = none → Q (.ref p) (upd H p (.tup []))) ∧ (xs ≠ [] → 2 ≤ k → ∀ p, H p = none → Q (.ref p) (upd H p (.tup (List.replicate k.toNat xs).flatten)))) := by
  intro pins s σ H x y v u Q I rx ry h
  obtain ⟨l, k, xs, rfl, rfl, hT, h0, h2, hz, q1, q2, q3⟩ := h
  by_cases hc : xs ≠ [] ∧ 2 ≤ k
  · exact op_repT pins s σ H _ _ v u Q I rx ry ⟨l, k, xs, rfl, rfl, hT, hc.1, hc.2, h2, hz, q3 hc.1 hc.2⟩
  · cases rx
    obtain ⟨t, rfl⟩ := ry
    obtain ⟨its, r, ⟨⟨cls, dd, data, sl⟩, ho, hcl, n, hd⟩, hs⟩ := I.tuple hT
    simp only at hcl hd
    subst hcl hd
    have c0 : (decide (k < -(2 ^ 63)) || decide (k ≥ 2 ^ 63)) = false := by
      rw [decide_eq_false (by omega), decide_eq_false (by omega)] <;> rfl
    by_cases h1 : xs = [] ∨ k = 1
    · have c1 : (its.toArray.isEmpty || k == 1) = true := by
        rcases h1 with e | e
        · subst e; cases r; rfl
        · subst e; simp
      refine wpAny_binaryOp_repeat_ref (T := "tuple") (U := "int") (by decide) ⟨_, ho, rfl⟩ (fun s' => typeIs_int s' k t) noFill_tuple_mul F.fills_int_mul F.slot_int_rmul repeat_tuple F.slot_int_index.lookup
        (call_meets F.slot_int_rmul (typeIs_int s k t) F.entry_int_rmul (F.args_int_rmul_2 _ _) (int_rmul_tuple k t l its.toArray n dd sl)
          ⟨ho, rfl, ⟨_, ho, rfl⟩, call_meets F.slot_tuple_mul ⟨_, ho, rfl⟩ F.entry_tuple_mul (F.args_tuple_mul_2 _ _) (tuple_mul1 l its.toArray n dd sl k t c0 c1) ⟨ho, ?_⟩⟩)
      exact ⟨.ref l, H, I, rfl, q1 h1⟩
    · have hne : xs ≠ [] := fun e => h1 (.inl e)
      have hk : k ≤ 0 := by
        have : ¬ 2 ≤ k := fun e => hc ⟨hne, e⟩
        have : k ≠ 1 := fun e => h1 (.inr e)
        omega
      have hi : its.toArray.isEmpty = false := by
        cases its with
        | nil => cases r; exact absurd rfl hne
        | cons a b => rfl
      have c1 : (its.toArray.isEmpty || k == 1) = false := by
        rw [hi, Bool.false_or]
        exact beq_eq_false_iff_ne.mpr (by omega)
      have c2 : (decide (k ≤ 0) || its.toArray.isEmpty) = true := by
        rw [decide_eq_true hk]; rfl
      refine wpAny_binaryOp_repeat_ref (T := "tuple") (U := "int") (by decide) ⟨_, ho, rfl⟩ (fun s' => typeIs_int s' k t) noFill_tuple_mul F.fills_int_mul F.slot_int_rmul repeat_tuple F.slot_int_index.lookup
        (call_meets F.slot_int_rmul (typeIs_int s k t) F.entry_int_rmul (F.args_int_rmul_2 _ _) (int_rmul_tuple k t l its.toArray n dd sl)
          ⟨ho, rfl, ⟨_, ho, rfl⟩, call_meets F.slot_tuple_mul ⟨_, ho, rfl⟩ F.entry_tuple_mul (F.args_tuple_mul_2 _ _) (tuple_mul0 l its.toArray n dd sl k t c0 c1 c2) ⟨ho, ?_⟩⟩)
      refine ⟨.ref s.heap.objs.size, _, I.laid (t' := s.toks) (o := .tup []) (fun b ob q => Heap.get?_push_of_some _ q) (Nat.le_refl _) ?_, rfl, q2 hne hk _ (I.hok.fresh (Nat.le_refl _))⟩
      exact ⟨Nat.zero_le _, [], .nil, IsTup.new _ _⟩

theorem o_add : OpR X (binaryOp .Add) (lR2 X.K addD) := by
  intro pins s σ H x y u v Q I rx ry h
  obtain ⟨h, d1, d2, P, r, r1, r2, w, k⟩ := h
  unfold addD at w
  split at w
  · cases r1.eq_int; cases r2.eq_int
    exact op_add pins s σ H _ _ u v Q I rx ry ⟨_, _, rfl, rfl, k _ _ _ _ w r (.refl _ _) .int⟩
  · obtain ⟨a, xs, rfl, ea, qa, za⟩ := r1.eq_tup
    obtain ⟨b, ys, rfl, eb, qb, zb⟩ := r2.eq_tup
    obtain ⟨z, w⟩ := w
    refine op_catA pins s σ H _ _ u v Q I rx ry ⟨a, b, xs, ys, rfl, rfl, SqT.of ea, SqT.of eb, by rw [qa.length, qb.length]; exact z, fun e => ?_, fun e e2 => ?_, fun _ _ p n => ?_⟩
    · have := qa.nil_iff.mp e; subst this
      exact k _ _ _ _ w r (.refl _ _) (.tup eb qb zb)
    · have := qb.nil_iff.mp e2; subst this
      rw [List.append_nil] at w
      exact k _ _ _ _ w r (.refl _ _) (.tup ea qa za)
    · obtain ⟨a1, a2, a3⟩ := new_tup r n (qa.append qb) (by rw [List.length_append]; exact z)
      exact k _ _ _ _ w a1 a2 a3
  · cases r1.eq_str; cases r2.eq_str
    exact op_add_str pins s σ H _ _ u v Q I rx ry ⟨_, _, rfl, rfl, w.1, k _ _ _ _ w.2 r (.refl _ _) .str⟩
  · cases r1.eq_ref; cases r2.eq_ref
    obtain ⟨xs, ys, ea, eb, z, q⟩ := w
    obtain ⟨za, vs, e1, q1⟩ := lst_at r ea
    obtain ⟨zb, ws, e2, q2⟩ := lst_at r eb
    rw [List.length_append] at z
    refine op_cat pins s σ H _ _ u v Q I rx ry ⟨_, _, vs, ws, rfl, rfl, e1, e2, by rw [q1.length, q2.length]; exact z, fun p n => ?_⟩
    obtain ⟨a1, a2, a3⟩ := new_lst r n (q1.append q2) (by rw [List.length_append]; exact z)
    exact k _ _ _ _ (q p a3) a1 a2 .ref
  · exact w.elim
theorem o_sub : OpR X (binaryOp .Sub) (lR2 X.K subD) := by
  intro pins s σ H x y u v Q I rx ry h
  obtain ⟨h, d1, d2, P, r, r1, r2, w, k⟩ := h
  unfold subD at w
  split at w
  · cases r1.eq_int; cases r2.eq_int
    exact op_sub pins s σ H _ _ u v Q I rx ry ⟨_, _, rfl, rfl, k _ _ _ _ w r (.refl _ _) .int⟩
  · exact w.elim
theorem o_mul : OpR X (binaryOp .Mult) (lR2 X.K mulD) := by
  intro pins s σ H x y u v Q I rx ry h
  obtain ⟨h, d1, d2, P, r, r1, r2, w, k⟩ := h
  unfold mulD at w
  split at w
  · cases r1.eq_int; cases r2.eq_int
    exact op_mul pins s σ H _ _ u v Q I rx ry ⟨_, _, rfl, rfl, w.1, k _ _ _ _ w.2 r (.refl _ _) .int⟩
  · rename_i ds j
    obtain ⟨a, xs, rfl, ea, qa, za⟩ := r1.eq_tup
    cases r2.eq_int
    obtain ⟨z1, z2, z3, w⟩ := w
    have hl : (List.replicate j.toNat ds).flatten.length ≤ sizeLine := by
      rw [len_rep_flat, sizeLine_eq]
      have a1 : j.toNat * ds.length ≤ 1000 * 1000 := Nat.mul_le_mul (by omega) z3
      omega
    refine op_repA pins s σ H _ _ u v Q I rx ry ⟨a, j, xs, rfl, rfl, SqT.of ea, z1, z2, by rw [qa.length]; exact z3, fun e => ?_, fun ne hk p n => ?_, fun ne hk p n => ?_⟩
    · have e1 : (List.replicate j.toNat ds).flatten = ds := by
        rcases e with e | e
        · have := qa.nil_iff.mp e; subst this
          simp
        · subst e; simp
      rw [e1] at w
      exact k _ _ _ _ w r (.refl _ _) (.tup ea qa za)
    · have e1 : (List.replicate j.toNat ds).flatten = [] := by
        have : j.toNat = 0 := by omega
        rw [this]; rfl
      rw [e1] at w
      obtain ⟨a1, a2, a3⟩ := new_tup (ds := []) r n .nil (Nat.zero_le _)
      exact k _ _ _ _ w a1 a2 a3
    · obtain ⟨a1, a2, a3⟩ := new_tup r n (rvs_rep qa j.toNat) hl
      exact k _ _ _ _ w a1 a2 a3
  · cases r1.eq_ref; cases r2.eq_int
    obtain ⟨xs, ea, z1, z2, z3, q⟩ := w
    obtain ⟨za, vs, e1, q1⟩ := lst_at r ea
    refine op_rep pins s σ H _ _ u v Q I rx ry ⟨_, _, vs, rfl, rfl, e1, by omega, by omega, ?_, fun p n => ?_⟩
    · rw [len_rep_flat, Nat.mul_comm] at z3; rw [q1.length]; exact z3
    · obtain ⟨a1, a2, a3⟩ := new_lst r n (rvs_rep q1 _) z3
      exact k _ _ _ _ (q p a3) a1 a2 .ref
  · exact w.elim
theorem o_fdiv : OpR X (binaryOp .FloorDiv) (lR2 X.K fdivD) := by
  intro pins s σ H x y u v Q I rx ry h
  obtain ⟨h, d1, d2, P, r, r1, r2, w, k⟩ := h
  unfold fdivD at w
  split at w
  · cases r1.eq_int; cases r2.eq_int
    exact op_fdivN pins s σ H _ _ u v Q I rx ry ⟨_, _, rfl, rfl, w.1, k _ _ _ _ w.2 r (.refl _ _) .int⟩
  · exact w.elim
theorem o_mod : OpR X (binaryOp .Mod) (lR2 X.K modD) := by
  intro pins s σ H x y u v Q I rx ry h
  obtain ⟨h, d1, d2, P, r, r1, r2, w, k⟩ := h
  unfold modD at w
  split at w
  · cases r1.eq_int; cases r2.eq_int
    exact op_modN pins s σ H _ _ u v Q I rx ry ⟨_, _, rfl, rfl, w.1, k _ _ _ _ w.2 r (.refl _ _) .int⟩
  · exact w.elim
theorem o_pow : OpR X (binaryOp .Pow) (lR2 X.K powD) := by
  intro pins s σ H x y u v Q I rx ry h
  obtain ⟨h, d1, d2, P, r, r1, r2, w, k⟩ := h
  unfold powD at w
  split at w
  · cases r1.eq_int; cases r2.eq_int
    exact op_pow pins s σ H _ _ u v Q I rx ry ⟨_, _, rfl, rfl, w.1, k _ _ _ _ w.2 r (.refl _ _) .int⟩
  · exact w.elim
theorem o_bin (op : Operator) : OpR X (binaryOp op) (lR2 X.K (binD op)) := by
  cases op with
  | Add => exact o_add
  | Sub => exact o_sub
  | Mult => exact o_mul
  | FloorDiv => exact o_fdiv
  | Mod => exact o_mod
  | Pow => exact o_pow
  | _ => exact fun pins s σ H x y u v Q I rx ry ⟨h, d1, d2, P, r, r1, r2, w, k⟩ => w.elim
end

/-! ### values as data -/
section
variable {X : Cx} {pins : List (Addr × Obj)} {σ : L2.St} {h : MH} {H : Hp} {s : Shared}
mutual
theorem readsW (I : Inv X pins σ H s) {f : Addr → Option PyData} (hf : ∀ a p, f a = some p → ∃ as, Reads s.heap (.ref a) p as) :
    ∀ {d : D} {v : V} {u : Value} {p : PyData}, pdW f d = some p → RV X.K H d v → RelV v u → ∃ as, Reads s.heap u p as
  | .non, v, u, p, e, r, q => by
    rw [pdW] at e; cases e; cases r.eq_non; cases q; exact ⟨[], .none⟩
  | .bl b, v, u, p, e, r, q => by
    rw [pdW] at e; cases e; cases r.eq_bl; cases q; exact ⟨[], .bool b⟩
  | .int i, v, u, p, e, r, q => by
    rw [pdW] at e; cases e; cases r.eq_int; obtain ⟨t, rfl⟩ := q; exact ⟨[], .int i t⟩
  | .str x, v, u, p, e, r, q => by
    rw [pdW] at e
    split at e
    · cases e; cases r.eq_str; obtain ⟨t, rfl⟩ := q; exact ⟨[], .str x t⟩
    · cases e
  | .tup ds, v, u, p, e, r, q => by
    rw [pdW] at e
    obtain ⟨ps, e1, e2⟩ := Option.map_eq_some_iff.mp e
    subst e2
    obtain ⟨a, xs, rfl, ea, ra, _⟩ := r.eq_tup
    cases q
    obtain ⟨its, rv, ⟨o, ho, hc, n, hd⟩, _⟩ := I.tuple (SqT.of (K := X.K) ea)
    obtain ⟨as, w⟩ := readsWs I hf e1 ra rv
    exact ⟨as, .tuple ho hc hd (by simpa using w)⟩
  | .lro ds, v, u, p, e, r, q => by
    rw [pdW] at e
    obtain ⟨ps, e1, e2⟩ := Option.map_eq_some_iff.mp e
    subst e2
    obtain ⟨a, xs, rfl, ea, ra, _⟩ := r.eq_lro
    cases q
    obtain ⟨its, rv, ⟨o, n, ho, hc, _, hd⟩, _⟩ := I.list ea.seq
    obtain ⟨as, w⟩ := readsWs I hf e1 ra rv
    exact ⟨a :: as, .list ho hc hd (by simpa using w)⟩
  | .ref a, v, u, p, e, r, q => by
    rw [pdW] at e; cases r.eq_ref; cases q; exact hf a p e
theorem readsWs (I : Inv X pins σ H s) {f : Addr → Option PyData} (hf : ∀ a p, f a = some p → ∃ as, Reads s.heap (.ref a) p as) :
    ∀ {ds : List D} {vs : List V} {us : List Value} {ps : List PyData}, pdWs f ds = some ps → RVs X.K H ds vs → Vals vs us → ∃ as, ReadsAll s.heap us ps as
  | [], vs, us, ps, e, r, q => by
    rw [pdWs] at e; cases e; cases r.eq_nil; cases q; exact ⟨[], .nil⟩
  | d :: ds, vs, us, ps, e, r, q => by
    rw [pdWs] at e
    obtain ⟨p, e1, e2⟩ := Option.bind_eq_some_iff.mp e
    obtain ⟨ps', e3, e4⟩ := Option.map_eq_some_iff.mp e2
    subst e4
    obtain ⟨x, xs, rfl, r1, r2⟩ := r.eq_cons
    cases q with
    | cons q1 q2 =>
      obtain ⟨as, w1⟩ := readsW I hf e1 r1 q1
      obtain ⟨bs, w2⟩ := readsWs I hf e3 r2 q2
      exact ⟨as ++ bs, .cons w1 w2⟩
end
theorem readsR (I : Inv X pins σ H s) (r : R X.K h H) : ∀ (n : Nat) (a : Addr) (p : PyData), pdR h n a = some p → ∃ as, Reads s.heap (.ref a) p as
  | 0, a, p, e => by rw [pdR] at e; cases e
  | n + 1, a, p, e => by
    rw [pdR] at e
    split at e
    · rename_i ds ea
      obtain ⟨ps, e1, e2⟩ := Option.map_eq_some_iff.mp e
      subst e2
      obtain ⟨z, xs, eb, ra⟩ := lst_at r ea
      obtain ⟨its, n', rv, ho, _⟩ := I.lst eb
      obtain ⟨as, w⟩ := readsWs I (readsR I r n) e1 ra rv
      exact ⟨a :: as, .list ho rfl rfl (by simpa using w)⟩
    · cases e
mutual
theorem layW {f : Addr → Option PyData} (hf : ∀ a p, f a = some p → p.canLay0 = true) : ∀ {d : D} {p : PyData}, pdW f d = some p → p.canLay0 = true
  | .non, p, e => by rw [pdW] at e; cases e; simp [PyData.canLay0]
  | .bl b, p, e => by rw [pdW] at e; cases e; simp [PyData.canLay0]
  | .int i, p, e => by rw [pdW] at e; cases e; simp [PyData.canLay0]
  | .str x, p, e => by
    rw [pdW] at e
    split at e
    · rename_i hs; cases e; simpa [PyData.canLay0] using hs
    · cases e
  | .tup ds, p, e => by
    rw [pdW] at e
    obtain ⟨ps, e1, e2⟩ := Option.map_eq_some_iff.mp e
    subst e2
    simpa [PyData.canLay0] using layWs hf e1
  | .lro ds, p, e => by
    rw [pdW] at e
    obtain ⟨ps, e1, e2⟩ := Option.map_eq_some_iff.mp e
    subst e2
    simpa [PyData.canLay0] using layWs hf e1
  | .ref a, p, e => by rw [pdW] at e; exact hf a p e
theorem layWs {f : Addr → Option PyData} (hf : ∀ a p, f a = some p → p.canLay0 = true) : ∀ {ds : List D} {ps : List PyData}, pdWs f ds = some ps → PyData.canLayAll0 ps = true
  | [], ps, e => by rw [pdWs] at e; cases e; simp [PyData.canLayAll0]
  | d :: ds, ps, e => by
    rw [pdWs] at e
    obtain ⟨p, e1, e2⟩ := Option.bind_eq_some_iff.mp e
    obtain ⟨ps', e3, e4⟩ := Option.map_eq_some_iff.mp e2
    subst e4
    simp only [PyData.canLayAll0, Bool.and_eq_true]
    exact ⟨layW hf e1, layWs hf e3⟩
end
theorem layR (h : MH) : ∀ (n : Nat) (a : Addr) (p : PyData), pdR h n a = some p → p.canLay0 = true
  | 0, a, p, e => by rw [pdR] at e; cases e
  | n + 1, a, p, e => by
    rw [pdR] at e
    split at e
    · obtain ⟨ps, e1, e2⟩ := Option.map_eq_some_iff.mp e
      subst e2
      simpa [PyData.canLay0] using layWs (layR h n) e1
    · cases e
theorem pd_eq {h : MH} {d : D} {p : PyData} (e : pd h d = some p) : pdW (pdR h 6) d = some p ∧ p.depth ≤ 64 := by
  unfold pd at e
  obtain ⟨q, e1, e2⟩ := Option.bind_eq_some_iff.mp e
  split at e2
  · rename_i hd; cases e2; exact ⟨e1, hd⟩
  · cases e2
theorem reads_pd (I : Inv X pins σ H s) (r : R X.K h H) {d : D} {v : V} {u : Value} {p : PyData} (e : pd h d = some p) (rv : RV X.K H d v) (q : RelV v u) : (∃ as, Reads s.heap u p as) ∧ p.canLay0 = true ∧ p.depth ≤ 64 :=
  ⟨readsW I (readsR I r 6) (pd_eq e).1 rv q, layW (layR h 6) (pd_eq e).1, (pd_eq e).2⟩
theorem pds_eq {h : MH} : ∀ {ds : List D} {ps : List PyData}, pds h ds = some ps → pdWs (pdR h 6) ds = some ps ∧ PyData.depthAll ps ≤ 64
  | [], ps, e => by rw [pds] at e; cases e; exact ⟨by rw [pdWs], by simp [PyData.depthAll]⟩
  | d :: ds, ps, e => by
    rw [pds] at e
    obtain ⟨p, e1, e2⟩ := Option.bind_eq_some_iff.mp e
    obtain ⟨ps', e3, e4⟩ := Option.map_eq_some_iff.mp e2
    subst e4
    obtain ⟨w1, w2⟩ := pds_eq e3
    obtain ⟨w3, w4⟩ := pd_eq e1
    refine ⟨by rw [pdWs, w3, Option.bind_some, w1]; rfl, ?_⟩
    simp only [PyData.depthAll]
    omega
end

section
variable {X : Cx}
theorem o_eq (hu : X.A.units + 100 < cLine) : OpR X (compareOp .Eq) (lR2 X.K (eqD false)) := by
  intro pins s σ H x y u v Q I rx ry h
  obtain ⟨h, d1, d2, P, r, r1, r2, w, k⟩ := h
  rcases w with ⟨a, b, rfl, rfl, w⟩ | ⟨p, q, e1, e2, w⟩
  · cases r1.eq_str; cases r2.eq_str
    refine op_eq pins s σ H _ _ u v Q I rx ry ⟨rfl, ?_⟩
    rw [Bool.false_xor] at w
    have e : decide (V.str a = V.str b) = decide (a = b) := by rw [Bool.eq_iff_iff]; simp
    rw [e]
    exact k _ _ _ _ w r (.refl _ _) .bl
  obtain ⟨⟨as, ra⟩, l1, z1⟩ := reads_pd I r e1 r1 rx
  obtain ⟨⟨bs, rb⟩, l2, z2⟩ := reads_pd I r e2 r2 ry
  refine PySem.SeqAt.compareEq_reads ra rb l1 l2 (by omega) ⟨.bl (PyData.eqv p q), H, I, rfl, ?_⟩
  rw [Bool.false_xor] at w
  exact k _ _ _ _ w r (.refl _ _) .bl
theorem o_ne (hu : X.A.units + 100 < cLine) : OpR X (compareOp .NotEq) (lR2 X.K (eqD true)) := by
  intro pins s σ H x y u v Q I rx ry h
  obtain ⟨h, d1, d2, P, r, r1, r2, w, k⟩ := h
  rcases w with ⟨a, b, rfl, rfl, w⟩ | ⟨p, q, e1, e2, w⟩
  · cases r1.eq_str; cases r2.eq_str
    refine op_ne pins s σ H _ _ u v Q I rx ry ⟨rfl, ?_⟩
    rw [Bool.true_xor] at w
    have e : decide (V.str a = V.str b) = decide (a = b) := by rw [Bool.eq_iff_iff]; simp
    rw [e]
    exact k _ _ _ _ w r (.refl _ _) .bl
  obtain ⟨⟨as, ra⟩, l1, z1⟩ := reads_pd I r e1 r1 rx
  obtain ⟨⟨bs, rb⟩, l2, z2⟩ := reads_pd I r e2 r2 ry
  refine PySem.SeqAt.compareNe_reads ra rb l1 l2 (by omega) ⟨.bl (!PyData.eqv p q), H, I, rfl, ?_⟩
  rw [Bool.true_xor] at w
  exact k _ _ _ _ w r (.refl _ _) .bl
theorem o_lt (hu : X.A.units + 100 < cLine) : OpR X (compareOp .Lt) (lR2 X.K (ltD false false)) := by
  intro pins s σ H x y u v Q I rx ry h
  obtain ⟨h, d1, d2, P, r, r1, r2, ⟨p, q, e1, e2, al, nn, w⟩, k⟩ := h
  obtain ⟨⟨as, ra⟩, l1, z1⟩ := reads_pd I r e1 r1 rx
  obtain ⟨⟨bs, rb⟩, l2, z2⟩ := reads_pd I r e2 r2 ry
  refine PySem.W.rcLt_alike p q X.A s u v as bs ra rb al nn (by omega) _ _ _ _ ⟨.bl (PySem.W.dataLt p q), H, I, rfl, ?_⟩
  exact k _ _ _ _ (by simpa using w) r (.refl _ _) .bl
theorem o_le (hu : X.A.units + 100 < cLine) : OpR X (compareOp .LtE) (lR2 X.K (ltD true true)) := by
  intro pins s σ H x y u v Q I rx ry h
  obtain ⟨h, d1, d2, P, r, r1, r2, ⟨p, q, e1, e2, al, nn, w⟩, k⟩ := h
  obtain ⟨⟨as, ra⟩, l1, z1⟩ := reads_pd I r e1 r1 rx
  obtain ⟨⟨bs, rb⟩, l2, z2⟩ := reads_pd I r e2 r2 ry
  refine PySem.W.rcLe_alike p q X.A s u v as bs ra rb al nn (by omega) _ _ _ _ ⟨.bl (!PySem.W.dataLt q p), H, I, rfl, ?_⟩
  exact k _ _ _ _ (by simpa using w) r (.refl _ _) .bl
theorem o_gt (hu : X.A.units + 100 < cLine) : OpR X (compareOp .Gt) (lR2 X.K (ltD true false)) := by
  intro pins s σ H x y u v Q I rx ry h
  obtain ⟨h, d1, d2, P, r, r1, r2, ⟨p, q, e1, e2, al, nn, w⟩, k⟩ := h
  obtain ⟨⟨as, ra⟩, l1, z1⟩ := reads_pd I r e1 r1 rx
  obtain ⟨⟨bs, rb⟩, l2, z2⟩ := reads_pd I r e2 r2 ry
  refine PySem.W.rcGt_alike p q X.A s u v as bs ra rb al nn (by omega) _ _ _ _ ⟨.bl (PySem.W.dataLt q p), H, I, rfl, ?_⟩
  exact k _ _ _ _ (by simpa using w) r (.refl _ _) .bl
theorem o_ge (hu : X.A.units + 100 < cLine) : OpR X (compareOp .GtE) (lR2 X.K (ltD false true)) := by
  intro pins s σ H x y u v Q I rx ry h
  obtain ⟨h, d1, d2, P, r, r1, r2, ⟨p, q, e1, e2, al, nn, w⟩, k⟩ := h
  obtain ⟨⟨as, ra⟩, l1, z1⟩ := reads_pd I r e1 r1 rx
  obtain ⟨⟨bs, rb⟩, l2, z2⟩ := reads_pd I r e2 r2 ry
  refine PySem.W.rcGe_alike p q X.A s u v as bs ra rb al nn (by omega) _ _ _ _ ⟨.bl (!PySem.W.dataLt p q), H, I, rfl, ?_⟩
  exact k _ _ _ _ (by simpa using w) r (.refl _ _) .bl
theorem isN_iff {K : PySem.W.Frag} {H : Hp} {d : D} {v : V} (r : RV K H d v) : isN d = decide (v = .non) := by
  cases d with
  | non => cases r.eq_non; rfl
  | bl b => cases r.eq_bl; rfl
  | int i => cases r.eq_int; rfl
  | str x => cases r.eq_str; rfl
  | ref a => cases r.eq_ref; rfl
  | tup ds => obtain ⟨a, xs, rfl, _⟩ := r.eq_tup; rfl
  | lro ds => obtain ⟨a, xs, rfl, _⟩ := r.eq_lro; rfl
theorem o_is : OpR X (compareOp .Is) (lR2 X.K (isD false)) := by
  intro pins s σ H x y u v Q I rx ry h
  obtain ⟨h, d1, d2, P, r, r1, r2, ⟨hn, w⟩, k⟩ := h
  refine op_isN pins s σ H x y u v Q I rx ry ⟨?_, ?_⟩
  · rw [isN_iff r2] at hn; exact of_decide_eq_true hn
  · rw [← isN_iff r1]; exact k _ _ _ _ (by simpa using w) r (.refl _ _) .bl
theorem o_isnot : OpR X (compareOp .IsNot) (lR2 X.K (isD true)) := by
  intro pins s σ H x y u v Q I rx ry h
  obtain ⟨h, d1, d2, P, r, r1, r2, ⟨hn, w⟩, k⟩ := h
  refine op_notN pins s σ H x y u v Q I rx ry ⟨?_, ?_⟩
  · rw [isN_iff r2] at hn; exact of_decide_eq_true hn
  · rw [← isN_iff r1]; exact k _ _ _ _ (by simpa using w) r (.refl _ _) .bl
end
end MP

/-! Ma5: dicts, sequences: in, subscripts, slices, stores. -/
namespace MP
open PySem PySem.Spec PyProof.Rows L2

/-! ### keys -/
section
variable {K : PySem.W.Frag} {h : MH} {H : Hp}
theorem keyF_V {d : D} {k : Key} {v : V} (e : keyF d = some k) (r : RV K H d v) : v = kV k ∧ d = kD k := by
  unfold keyF at e
  split at e
  · cases e; exact ⟨r.eq_int, rfl⟩
  · cases e; exact ⟨r.eq_str, rfl⟩
  · cases e
theorem keyF_kD (k : Key) : keyF (kD k) = some k := by cases k <;> rfl
theorem keyFs_kD : ∀ ks : List Key, keyFs (ks.map kD) = some ks
  | [] => rfl
  | k :: ks => by rw [List.map_cons, keyFs, keyF_kD, Option.bind_some, keyFs_kD ks]; rfl
theorem keyFs_V : ∀ {ds : List D} {ks : List Key} {vs : List V}, keyFs ds = some ks → RVs K H ds vs → vs = ks.map kV ∧ ds = ks.map kD
  | [], ks, vs, e, r => by rw [keyFs] at e; cases e; exact ⟨r.eq_nil, rfl⟩
  | d :: ds, ks, vs, e, r => by
    rw [keyFs] at e
    obtain ⟨k, e1, e2⟩ := Option.bind_eq_some_iff.mp e
    obtain ⟨ks', e3, e4⟩ := Option.map_eq_some_iff.mp e2
    subst e4
    obtain ⟨x, xs, rfl, r1, r2⟩ := r.eq_cons
    obtain ⟨a1, a2⟩ := keyF_V e1 r1
    obtain ⟨b1, b2⟩ := keyFs_V e3 r2
    exact ⟨by rw [a1, b1]; rfl, by rw [a2]; rw [List.map_cons, ← b2]⟩
theorem keyS_kD (k : Key) : keyS (kD k) = some (.inl k) := by cases k <;> rfl
theorem keyS_tD (ks : List Key) : keyS (.tup (ks.map kD)) = some (.inr ks) := by show (keyFs (ks.map kD)).map Sum.inr = _; rw [keyFs_kD]; rfl
theorem keyS_l {d : D} {k : Key} {v : V} (e : keyS d = some (.inl k)) (r : RV K H d v) : v = kV k ∧ d = kD k ∧ isT d = false := by
  unfold keyS at e
  split at e
  · obtain ⟨ks, _, e2⟩ := Option.map_eq_some_iff.mp e; cases e2
  · rename_i hn
    obtain ⟨k', e1, e2⟩ := Option.map_eq_some_iff.mp e
    cases e2
    obtain ⟨a, b⟩ := keyF_V e1 r
    exact ⟨a, b, by rw [b]; cases k <;> rfl⟩
theorem keyS_r {d : D} {ks : List Key} {v : V} (e : keyS d = some (.inr ks)) (r : RV K H d v) : d = .tup (ks.map kD) ∧ isT d = true ∧ ∃ b, v = .ref b ∧ H b = some (.tup (ks.map kV)) := by
  unfold keyS at e
  split at e
  · obtain ⟨ks', e1, e2⟩ := Option.map_eq_some_iff.mp e; cases e2
    obtain ⟨b, xs, rfl, eb, q, _⟩ := r.eq_tup
    obtain ⟨a1, a2⟩ := keyFs_V e1 q
    subst a1
    exact ⟨by rw [a2], rfl, b, rfl, eb⟩
  · obtain ⟨k', e1, e2⟩ := Option.map_eq_some_iff.mp e; cases e2

/-- a dict's table beside its plain one -/
abbrev PK1 (K : PySem.W.Frag) (H : Hp) : List (D × D) → List (Key × V) → Prop := Paired fun p q => p.1 = kD q.1 ∧ RV K H p.2 q.2
abbrev PT1 (K : PySem.W.Frag) (H : Hp) : List (D × D) → List (List Key × V) → Prop := Paired fun p q => p.1 = .tup (q.1.map kD) ∧ RV K H p.2 q.2
theorem lookK1 {kvs : List (D × D)} {kk : List (Key × V)} {d : D} {k : Key} (r : PK1 K H kvs kk) (e : keyS d = some (.inl k)) :
    (∀ x, lookD kvs d = some x → ∃ v, valV kk k = some v ∧ RV K H x v) ∧ (lookD kvs d = none → valV kk k = none) := by
  induction r with
  | nil => exact ⟨fun _ q => (by cases q), fun _ => rfl⟩
  | @cons p q ps qs h1 t ih =>
    obtain ⟨a, b⟩ := h1
    have hk : keyS p.1 = some (.inl q.1) := by rw [a, keyS_kD]
    by_cases c : q.1 = k
    · have c' : lookD (p :: ps) d = some p.2 := by unfold lookD; rw [List.find?_cons, hk, e, c]; simp
      rw [valV_pos c, c']
      exact ⟨fun x z => (by cases z; exact ⟨_, rfl, b⟩), fun z => (by cases z)⟩
    · have c' : lookD (p :: ps) d = lookD ps d := by
        unfold lookD
        rw [List.find?_cons, hk, e]
        have : decide (some (Sum.inl q.1 : KeyS) = some (Sum.inl k)) = false := decide_eq_false (fun z => c (Sum.inl.inj (Option.some.inj z)))
        rw [this]
      rw [valV_neg c, c']
      exact ih
theorem lookT1 {kvs : List (D × D)} {kk : List (List Key × V)} {d : D} {k : List Key} (r : PT1 K H kvs kk) (e : keyS d = some (.inr k)) :
    (∀ x, lookD kvs d = some x → ∃ v, valV kk k = some v ∧ RV K H x v) ∧ (lookD kvs d = none → valV kk k = none) := by
  induction r with
  | nil => exact ⟨fun _ q => (by cases q), fun _ => rfl⟩
  | @cons p q ps qs h1 t ih =>
    obtain ⟨a, b⟩ := h1
    have hk : keyS p.1 = some (.inr q.1) := by rw [a, keyS_tD]
    by_cases c : q.1 = k
    · have c' : lookD (p :: ps) d = some p.2 := by unfold lookD; rw [List.find?_cons, hk, e, c]; simp
      rw [valV_pos c, c']
      exact ⟨fun x z => (by cases z; exact ⟨_, rfl, b⟩), fun z => (by cases z)⟩
    · have c' : lookD (p :: ps) d = lookD ps d := by
        unfold lookD
        rw [List.find?_cons, hk, e]
        have : decide (some (Sum.inr q.1 : KeyS) = some (Sum.inr k)) = false := decide_eq_false (fun z => c (Sum.inr.inj (Option.some.inj z)))
        rw [this]
      rw [valV_neg c, c']
      exact ih
theorem any_K1 {kvs : List (D × D)} {kk : List (Key × V)} {d : D} {k : Key} (r : PK1 K H kvs kk) (e : keyS d = some (.inl k)) :
    (kvs.any fun p => decide (keyS p.1 = keyS d)) = (kk.any fun p => decide (p.1 = k)) := by
  induction r with
  | nil => rfl
  | @cons p q ps qs h1 t ih =>
    have hk : keyS p.1 = some (.inl q.1) := by rw [h1.1, keyS_kD]
    rw [List.any_cons, List.any_cons, ih, hk, e]
    congr 1
    by_cases c : q.1 = k
    · rw [c]; simp
    · rw [decide_eq_false c]; exact decide_eq_false (fun z => c (Sum.inl.inj (Option.some.inj z)))
theorem any_T1 {kvs : List (D × D)} {kk : List (List Key × V)} {d : D} {k : List Key} (r : PT1 K H kvs kk) (e : keyS d = some (.inr k)) :
    (kvs.any fun p => decide (keyS p.1 = keyS d)) = (kk.any fun p => decide (p.1 = k)) := by
  induction r with
  | nil => rfl
  | @cons p q ps qs h1 t ih =>
    have hk : keyS p.1 = some (.inr q.1) := by rw [h1.1, keyS_tD]
    rw [List.any_cons, List.any_cons, ih, hk, e]
    congr 1
    by_cases c : q.1 = k
    · rw [c]; simp
    · rw [decide_eq_false c]; exact decide_eq_false (fun z => c (Sum.inr.inj (Option.some.inj z)))
theorem replK1 {kvs : List (D × D)} {kk : List (Key × V)} {d x : D} {v : V} {k : Key} (r : PK1 K H kvs kk) (e : keyS d = some (.inl k)) (rx : RV K H x v) :
    PK1 K H (kvs.map fun p => if keyS p.1 = keyS d then (p.1, x) else p) (kk.map fun kv => if kv.1 = k then (kv.1, v) else kv) := by
  induction r with
  | nil => exact .nil
  | @cons p q ps qs h1 t ih =>
    have hk : keyS p.1 = some (.inl q.1) := by rw [h1.1, keyS_kD]
    rw [List.map_cons, List.map_cons, hk, e]
    rw [e] at ih
    refine .cons ?_ ih
    by_cases c : q.1 = k
    · rw [if_pos c, if_pos (by rw [c])]; exact ⟨h1.1, rx⟩
    · rw [if_neg c, if_neg (fun z => c (Sum.inl.inj (Option.some.inj z)))]; exact h1
theorem putK1 {kvs : List (D × D)} {kk : List (Key × V)} {d x : D} {v : V} {k : Key} (r : PK1 K H kvs kk) (e : keyS d = some (.inl k)) (ed : d = kD k) (rx : RV K H x v) : PK1 K H (putD kvs d x) (putK kk k v) := by
  unfold putD putK
  rw [any_K1 r e]
  split
  · exact replK1 r e rx
  · exact Paired.snoc r ⟨ed, rx⟩
theorem replT1 {kvs : List (D × D)} {kk : List (List Key × V)} {d x : D} {v : V} {k : List Key} (r : PT1 K H kvs kk) (e : keyS d = some (.inr k)) (rx : RV K H x v) :
    PT1 K H (kvs.map fun p => if keyS p.1 = keyS d then (p.1, x) else p) (kk.map fun kv => if kv.1 = k then (kv.1, v) else kv) := by
  induction r with
  | nil => exact .nil
  | @cons p q ps qs h1 t ih =>
    have hk : keyS p.1 = some (.inr q.1) := by rw [h1.1, keyS_tD]
    rw [List.map_cons, List.map_cons, hk, e]
    rw [e] at ih
    refine .cons ?_ ih
    by_cases c : q.1 = k
    · rw [if_pos c, if_pos (by rw [c])]; exact ⟨h1.1, rx⟩
    · rw [if_neg c, if_neg (fun z => c (Sum.inr.inj (Option.some.inj z)))]; exact h1
theorem putT1 {kvs : List (D × D)} {kk : List (List Key × V)} {d x : D} {v : V} {k : List Key} (r : PT1 K H kvs kk) (e : keyS d = some (.inr k)) (ed : d = .tup (k.map kD)) (rx : RV K H x v) : PT1 K H (putD kvs d x) (putK kk k v) := by
  unfold putD putK
  rw [any_T1 r e]
  split
  · exact replT1 r e rx
  · exact Paired.snoc r ⟨ed, rx⟩
end

/-- an empty dict is of both sorts -/
theorem dk_dt {X : Cx} {pins : List (Addr × Obj)} {σ : L2.St} {H : Hp} {s : Shared} {a : Addr} (I : Inv X pins σ H s) (e : H a = some (.dK [])) : Inv X pins σ (upd H a (.dT [])) s := by
  obtain ⟨z, hd, vs, rel, o, es, ep, h1, h2, h3, _, h4, _⟩ := dk_of I.hok e
  cases rel
  have h4' : es.toList = [] := by cases hq : es.toList with
    | nil => rfl
    | cons a b => rw [hq] at h4; cases h4
  exact I.write (x := a) (e := a) (t' := s.toks) (h' := s.heap) (by rw [e]; exact True.intro) (.inl rfl) (fun b u _ q => q) ⟨_, h1⟩
    ⟨Nat.zero_le _, hd, [], .nil, o, es, ep, h1, h2, h3, by rw [h4']; rfl, List.nodup_nil⟩
theorem dt_dk {X : Cx} {pins : List (Addr × Obj)} {σ : L2.St} {H : Hp} {s : Shared} {a : Addr} (I : Inv X pins σ H s) (e : H a = some (.dT [])) : Inv X pins σ (upd H a (.dK [])) s := by
  obtain ⟨z, hd, xs, rel, o, es, ep, h1, h2, h3, h4, _⟩ := (show ObjOk X.prog X.w H s.heap a (.dT []) from I.hok a _ e)
  cases rel
  have h4' : es.toList = [] := h4
  exact I.write (x := a) (e := a) (t' := s.toks) (h' := s.heap) (by rw [e]; exact True.intro) (.inl rfl) (fun b u _ q => q) ⟨_, h1⟩
    ⟨Nat.zero_le _, hd, [], .nil, o, es, ep, h1, h2, h3, fun en hen => (by rw [← Array.mem_toList_iff, h4'] at hen; cases hen), by rw [h4']; exact .nil, List.nodup_nil⟩

section
variable {X : Cx} {pins : List (Addr × Obj)} {σ : L2.St} {h : MH} {H : Hp} {s : Shared} {a : Addr} {kvs : List (D × D)} {k : D} {x : V}
/-- a dict in its right sort for a key -/
theorem dict_as (I : Inv X pins σ H s) (r : R X.K h H) (e : h a = some (.dct kvs)) (ok : keyOk kvs k) (rk : RV X.K H k x) :
    ∃ H1, Inv X pins σ H1 s ∧ R X.K h H1 ∧ Ext h H h H1 ∧
      ((∃ key kk, keyS k = some (.inl key) ∧ x = kV key ∧ k = kD key ∧ H1 a = some (.dK kk) ∧ PK1 X.K H1 kvs kk) ∨
       (∃ key kk b, keyS k = some (.inr key) ∧ x = .ref b ∧ k = .tup (key.map kD) ∧ H1 b = some (.tup (key.map kV)) ∧ H1 a = some (.dT kk) ∧ PT1 X.K H1 kvs kk)) := by
  obtain ⟨o1, o2⟩ := ok
  obtain ⟨z, q⟩ := r a _ e
  have ext : ∀ o', Ext h H h (upd H a o') := fun o' => ⟨kp_upd r e, fun c u q n => by
    have hc : c ≠ a := fun y => by rw [y, e] at n; cases n
    exact ⟨by rw [upd_ne hc]; exact q, n⟩, fun _ o e => ⟨o, e⟩⟩
  have rr : ∀ o', RO X.K (upd H a o') a (.dct kvs) → R X.K h (upd H a o') := fun o' w c v y => by
    by_cases hc : c = a
    · subst hc; rw [e] at y; cases y; exact w
    · exact (r c v y).ext (kp_upd r e) fun w' y' => by rw [upd_ne hc]; exact y'
  cases hs : keyS k with
  | none => rw [hs] at o1; cases o1
  | some ks =>
    cases ks with
    | inl key =>
      obtain ⟨a1, a2, a3⟩ := keyS_l hs rk
      rcases q with ⟨kk, eH, p⟩ | ⟨kk, eH, p⟩
      · exact ⟨H, I, r, .refl _ _, .inl ⟨key, kk, rfl, a1, a2, eH, p⟩⟩
      · cases p with
        | nil =>
          have w : RO X.K (upd H a (.dK [])) a (.dct []) := ⟨z, .inl ⟨[], upd_same, .nil⟩⟩
          exact ⟨_, dt_dk I eH, rr _ w, ext _, .inl ⟨key, [], rfl, a1, a2, upd_same, .nil⟩⟩
        | @cons p1 q1 ps qs hp t =>
          have := o2 p1 List.mem_cons_self
          rw [a3, hp.1] at this
          cases this
    | inr key =>
      obtain ⟨a1, a2, b, a3, a4⟩ := keyS_r hs rk
      rcases q with ⟨kk, eH, p⟩ | ⟨kk, eH, p⟩
      · cases p with
        | nil =>
          have w : RO X.K (upd H a (.dT [])) a (.dct []) := ⟨z, .inr ⟨[], upd_same, .nil⟩⟩
          exact ⟨_, dk_dt I eH, rr _ w, ext _, .inr ⟨key, [], b, rfl, a3, a1, (kp_upd r e).tup _ _ a4, upd_same, .nil⟩⟩
        | @cons p1 q1 ps qs hp t =>
          have := o2 p1 List.mem_cons_self
          rw [a2, hp.1] at this
          cases hq : q1.1 <;> rw [hq] at this <;> cases this
      · exact ⟨H, I, r, .refl _ _, .inr ⟨key, kk, b, rfl, a3, a1, a4, eH, p⟩⟩
/-- what it holds there -/
theorem dict_get (I : Inv X pins σ H s) (r : R X.K h H) (e : h a = some (.dct kvs)) (ok : keyOk kvs k) (rk : RV X.K H k x) :
    ∃ H1 o, Inv X pins σ H1 s ∧ R X.K h H1 ∧ Ext h H h H1 ∧ DGet H1 a x o ∧ (∀ d, lookD kvs k = some d → ∃ v, o = some v ∧ RV X.K H1 d v) ∧ (lookD kvs k = none → o = none) := by
  obtain ⟨H1, I1, r1, e1, q⟩ := dict_as I r e ok rk
  rcases q with ⟨key, kk, c1, c2, c3, c4, c5⟩ | ⟨key, kk, b, c1, c2, c3, c4, c5, c6⟩
  · obtain ⟨l1, l2⟩ := lookK1 c5 c1
    subst c2
    exact ⟨H1, _, I1, r1, e1, .k c4, l1, l2⟩
  · obtain ⟨l1, l2⟩ := lookT1 c6 c1
    subst c2
    exact ⟨H1, _, I1, r1, e1, .t c5 c4, l1, l2⟩
theorem length_putD (kvs : List (D × D)) (k v : D) : kvs.length ≤ (putD kvs k v).length ∧ (putD kvs k v).length ≤ kvs.length + 1 := by
  unfold putD
  split
  · rw [List.length_map]; omega
  · rw [List.length_append]; simp
theorem length_putK1 {kk : List (Key × V)} {key : Key} {v : V} {K : PySem.W.Frag} {d x : D} (r : PK1 K H kvs kk) (e : keyS d = some (.inl key)) (z : (putD kvs d x).length ≤ sizeLine) (ed : d = kD key) (rx : RV K H x v) : (putK kk key v).length ≤ sizeLine := by
  rw [← Paired.length (putK1 r e ed rx)]; exact z
end
end MP

/-! Ma6: in, subscripts, slices, built-ins. -/
namespace MP
open PySem PySem.Spec PyProof.Rows L2

section
variable {X : Cx} {pins : List (Addr × Obj)} {σ : L2.St} {h : MH} {H : Hp} {s : Shared}
theorem dctOf_eq {d : D} {kvs : List (D × D)} (e : dctOf h d = some kvs) : ∃ a, d = .ref a ∧ h a = some (.dct kvs) := by
  unfold dctOf at e
  split at e
  · rename_i a
    split at e
    · rename_i kvs' ea; cases e; exact ⟨a, rfl, ea⟩
    · cases e
  · cases e
theorem seqOf_eq {d : D} {k : Bool} {ds : List D} (e : seqOf h d = some (k, ds)) : (d = .tup ds ∧ k = false) ∨ (d = .lro ds ∧ k = true) ∨ ∃ a, d = .ref a ∧ k = true ∧ h a = some (.lst ds) := by
  unfold seqOf at e
  split at e
  · cases e; exact .inl ⟨rfl, rfl⟩
  · cases e; exact .inr (.inl ⟨rfl, rfl⟩)
  · rename_i a
    split at e
    · rename_i ds' ea; cases e; exact .inr (.inr ⟨a, rfl, rfl, ea⟩)
    · cases e
  · cases e
/-- a sequence, by HandS's words -/
theorem seq_V (r : R X.K h H) {d : D} {k : Bool} {ds : List D} {v : V} (e : seqOf h d = some (k, ds)) (rv : RV X.K H d v) :
    ds.length ≤ sizeLine ∧ ∃ a xs, v = .ref a ∧ RVs X.K H ds xs ∧ (if k = true then SqL X.K H a xs else H a = some (.tup xs)) := by
  rcases seqOf_eq e with ⟨rfl, rfl⟩ | ⟨rfl, rfl⟩ | ⟨a, rfl, rfl, ea⟩
  · obtain ⟨a, xs, rfl, ea, q, z⟩ := rv.eq_tup
    exact ⟨z, a, xs, rfl, q, by rw [if_neg Bool.false_ne_true]; exact ea⟩
  · obtain ⟨a, xs, rfl, ea, q, z⟩ := rv.eq_lro
    exact ⟨z, a, xs, rfl, q, by rw [if_pos rfl]; exact ea.seq⟩
  · cases rv.eq_ref
    obtain ⟨z, xs, eb, q⟩ := lst_at r ea
    exact ⟨z, a, xs, rfl, q, by rw [if_pos rfl]; exact SqL.of eb⟩
theorem seq_Sq (r : R X.K h H) {d : D} {k : Bool} {ds : List D} {v : V} (e : seqOf h d = some (k, ds)) (rv : RV X.K H d v) : Sq X.K h H v ds k (fun h2 => seqOf h2 d = some (k, ds)) := by
  refine ⟨e, ?_⟩
  obtain ⟨_, a, xs, rfl, _, _⟩ := seq_V r e rv
  refine ⟨a, rfl, fun h2 H2 x2 r2 e2 => ?_⟩
  obtain ⟨z, a', xs', ea, q, s'⟩ := seq_V r2 e2 (rv.mono x2)
  cases ea
  exact ⟨z, xs', s', q⟩
theorem seq_reads (I : Inv X pins σ H s) {v : V} {u : Value} {k : Bool} {ds : List D} {xs : List V} {a : Addr} {qs : List PyData} (q : RVs X.K H ds xs) (c : if k = true then SqL X.K H a xs else H a = some (.tup xs))
    (r : R X.K h H) (e : pdWs (pdR h 6) ds = some qs) : ∃ as, Reads s.heap (.ref a) (if k = true then .list qs else .tuple qs) as := by
  cases k with
  | true =>
    rw [if_pos rfl] at c
    rw [if_pos rfl]
    obtain ⟨its, rv, ⟨o, n, ho, hc, _, hd⟩, _⟩ := I.list c
    obtain ⟨as, w⟩ := readsWs I (readsR I r 6) e q rv
    exact ⟨a :: as, .list ho hc hd (by simpa using w)⟩
  | false =>
    rw [if_neg Bool.false_ne_true] at c
    rw [if_neg Bool.false_ne_true]
    obtain ⟨its, rv, ⟨o, ho, hc, n, hd⟩, _⟩ := I.tuple (SqT.of (K := X.K) c)
    obtain ⟨as, w⟩ := readsWs I (readsR I r 6) e q rv
    exact ⟨as, .tuple ho hc hd (by simpa using w)⟩
end
section
variable {X : Cx} {B : MH × Hp} {c : Cn} {pos : Pos}
theorem o_in (hu : X.A.units + 100 < cLine) : OpR X (compareOp .In) (lR2 X.K (inD false)) := by
  intro pins s σ H x y u v Q I rx ry hh
  obtain ⟨h, d1, d2, P, r, r1, r2, w, k⟩ := hh
  unfold inD at w
  split at w
  · rename_i kvs ed
    obtain ⟨ok, w⟩ := w
    obtain ⟨a, rfl, ea⟩ := dctOf_eq ed
    cases r2.eq_ref; cases ry
    obtain ⟨H1, o, I1, rr, e1, g, l1, l2⟩ := dict_get I r ea ok r1
    refine d_in (by omega) I1 g rx fun s' I' => ⟨.bl o.isSome, H1, I', rfl, ?_⟩
    have : o.isSome = (lookD kvs d1).isSome := by
      cases hl : lookD kvs d1 with
      | none => rw [l2 hl]; rfl
      | some d => obtain ⟨v', e2, _⟩ := l1 d hl; rw [e2]; rfl
    rw [this]
    rw [Bool.false_xor] at w
    exact k _ _ _ _ w rr e1 .bl
  · obtain ⟨kk, ds, p, qs, e1, e2, e3, w⟩ := w
    obtain ⟨z, a, xs, rfl, q, c'⟩ := seq_V r e1 r2
    cases ry
    obtain ⟨f1, f2⟩ := pds_eq e3
    obtain ⟨as, w1⟩ := seq_reads (v := .ref a) (u := .ref a) I q c' r f1
    obtain ⟨⟨bs, w2⟩, l1, z1⟩ := reads_pd I r e2 r1 rx
    have lq := layWs (layR h 6) f1
    rw [Bool.false_xor] at w
    have fin : EP X pins σ Q (.bool (qs.any fun y => PyData.eqv y p)) s := ⟨.bl _, H, I, rfl, k _ _ _ _ w r (.refl _ _) .bl⟩
    cases kk with
    | true => exact PySem.SeqAt.in_list_reads w1 w2 lq l1 (by omega) fin
    | false => exact PySem.SeqAt.in_tuple_reads w1 w2 lq l1 (by omega) fin
theorem o_notin (hu : X.A.units + 100 < cLine) : OpR X (compareOp .NotIn) (lR2 X.K (inD true)) := by
  intro pins s σ H x y u v Q I rx ry hh
  obtain ⟨h, d1, d2, P, r, r1, r2, w, k⟩ := hh
  unfold inD at w
  split at w
  · rename_i kvs ed
    obtain ⟨ok, w⟩ := w
    obtain ⟨a, rfl, ea⟩ := dctOf_eq ed
    cases r2.eq_ref; cases ry
    obtain ⟨H1, o, I1, rr, e1, g, l1, l2⟩ := dict_get I r ea ok r1
    refine d_notIn (by omega) I1 g rx fun s' I' => ⟨.bl (!o.isSome), H1, I', rfl, ?_⟩
    have : o.isSome = (lookD kvs d1).isSome := by
      cases hl : lookD kvs d1 with
      | none => rw [l2 hl]; rfl
      | some d => obtain ⟨v', e2, _⟩ := l1 d hl; rw [e2]; rfl
    rw [this]
    rw [Bool.true_xor] at w
    exact k _ _ _ _ w rr e1 .bl
  · obtain ⟨kk, ds, p, qs, e1, e2, e3, w⟩ := w
    obtain ⟨z, a, xs, rfl, q, c'⟩ := seq_V r e1 r2
    cases ry
    obtain ⟨f1, f2⟩ := pds_eq e3
    obtain ⟨as, w1⟩ := seq_reads (v := .ref a) (u := .ref a) I q c' r f1
    obtain ⟨⟨bs, w2⟩, l1, z1⟩ := reads_pd I r e2 r1 rx
    have lq := layWs (layR h 6) f1
    rw [Bool.true_xor] at w
    have fin : EP X pins σ Q (.bool (!qs.any fun y => PyData.eqv y p)) s := ⟨.bl _, H, I, rfl, k _ _ _ _ w r (.refl _ _) .bl⟩
    cases kk with
    | true => exact PySem.SeqAt.notIn_list_reads w1 w2 lq l1 (by omega) fin
    | false => exact PySem.SeqAt.notIn_tuple_reads w1 w2 lq l1 (by omega) fin
theorem o_cmp (hu : X.A.units + 100 < cLine) (op : CmpOp) : OpR X (compareOp op) (lR2 X.K (cmpD op)) := by
  cases op with
  | Eq => exact o_eq hu
  | NotEq => exact o_ne hu
  | Lt => exact o_lt hu
  | LtE => exact o_le hu
  | Gt => exact o_gt hu
  | GtE => exact o_ge hu
  | In => exact o_in hu
  | NotIn => exact o_notin hu
  | Is => exact o_is
  | IsNot => exact o_isnot
theorem r_chn {op op' : CmpOp} {a b d : Expr} {ma mb md : E} (hu : X.A.units + 100 < cLine) (ha : PE X a (lE X.K B (wE ma c))) (hb : PE X b (lE X.K B (wE mb c))) (hd : PE X d (lE X.K B (wE md c))) (hm : lastMarks [op, op'] [b, d] = false) :
    PE X (.Compare a [op, op'] [b, d] pos) (lE X.K B (wE (.chn op op' ma mb md) c)) := (pe_chain (o_cmp hu op) (o_cmp hu op') ha hb hd (hm := hm)).imp fun σ H Q ⟨σm, h, P, l, w, k⟩ => by
  rw [wE] at w
  refine ⟨σm, h, _, l, w, fun x h1 H1 u q1 r1 e1 rx => ⟨σm, h1, _, l.step r1 e1, q1, fun y h2 H2 v q2 r2 e2 ry => ?_⟩⟩
  refine ⟨h2, x, y, _, r2, rx.mono e2, ry, q2, fun t h3 H3 z q3 r3 e3 rz => ?_⟩
  obtain ⟨b', e', q3⟩ := q3
  subst e'
  refine ⟨b', rz.eq_bl, ?_⟩
  cases b' with
  | true =>
    rw [if_pos rfl] at q3 ⊢
    refine ⟨σm, h3, _, ((l.step r1 e1).step r2 e2).step r3 e3, q3, fun t h4 H4 v4 q4 r4 e4 r4v => ?_⟩
    exact ⟨h4, y, t, P, r4, (ry.mono e3).mono e4, r4v, q4, fun d5 h5 H5 v5 q5 r5 e5 rv5 => k d5 h5 H5 v5 q5 r5 ((((e1.trans e2).trans e3).trans e4).trans e5) rv5⟩
  | false =>
    rw [if_neg Bool.false_ne_true] at q3 ⊢
    exact k _ _ _ _ q3 r3 ((e1.trans e2).trans e3) .bl

/-! ### a[b] -/
theorem r_idx {a b : Expr} {ma mb : E} (hu : X.A.units + 100 < cLine) (ha : PE X a (lE X.K B (wE ma c))) (hb : PE X b (lE X.K B (wE mb c))) (hs : PlainIx b) : PE X (.Subscript a b pos) (lE X.K B (wE (.idx ma mb) c)) := by
  refine ⟨fun pins s σ H Q I hh => ?_⟩
  have hh : tOp (lR2 X.K idxD) (lE X.K B (wE ma c)) (lE X.K B (wE mb c)) σ H Q := lR2_of (fun _ _ _ w => by rw [wE] at w; exact w) hh
  refine Subscript_ (binT ha hb I hh fun v u s2 x y H2 I2 rx ry q => ?_)
  obtain ⟨h, d1, d2, P, r, r1, r2, w, k⟩ := q
  unfold idxD at w
  split at w
  · rename_i kvs ed
    obtain ⟨ok, d, ld, w⟩ := w
    obtain ⟨p, rfl, ea⟩ := dctOf_eq ed
    cases r1.eq_ref; cases rx
    obtain ⟨H1, o, I1, rr, e1, g, l1, l2⟩ := dict_get I2 r ea ok r2
    obtain ⟨z, rfl, rz⟩ := l1 d ld
    exact tail_any (dict_typeIs I1 g) PySem.F.slot_dict_getitem.lookup (d_getItem (by omega) I1 g ry fun w' s' I' rw' => ⟨z, H1, I', rw', k _ _ _ _ w rr e1 rz⟩) (hs _ _)
  · split at w
    · rename_i kk ds i es
      obtain ⟨d, ed, w⟩ := w
      obtain ⟨z, p, xs, rfl, q, c'⟩ := seq_V r es r1
      cases r2.eq_int
      unfold atI at ed
      obtain ⟨j, ej, ed⟩ := Option.bind_eq_some_iff.mp ed
      obtain ⟨t, et, rt⟩ := q.getD ed
      have at' : atI xs i = some t := by unfold atI; rw [q.length, ej]; exact et
      have fin := k _ _ _ _ w r (.refl _ _) rt
      cases kk with
      | true => exact ix_list a b pins s2 σ H2 _ _ v u Q I2 rx ry ⟨p, xs, i, t, rfl, rfl, by simpa using c', at', fin⟩ (hs _ _)
      | false => exact ix_tup a b pins s2 σ H2 _ _ v u Q I2 rx ry ⟨p, xs, i, t, rfl, rfl, SqT.of (by simpa using c'), at', fin⟩ (hs _ _)
    · exact w.elim

/-! ### slices -/
theorem cutV_D {K : PySem.W.Frag} {H : Hp} {ds : List D} {xs : List V} (q : RVs K H ds xs) (lo hi : Option Int) : RVs K H (cutD ds lo hi) (cutV xs lo hi) := by
  unfold cutD cutV
  rw [q.length]
  exact (q.drop _).take _
theorem cutD_length (ds : List D) (lo hi : Option Int) : (cutD ds lo hi).length ≤ ds.length := by
  unfold cutD
  rw [List.length_take, List.length_drop]; omega
def lSl (K : PySem.W.Frag) : V → Option Int → Option Int → Hp → VK → Prop := fun x lo hi H Q => ∃ h d P, R K h H ∧ RV K H d x ∧ slD d lo hi h P ∧ ∀ d h' H' v, P d h' → R K h' H' → Ext h H h' H' → RV K H' d v → Q v H'
theorem o_sl : SlR X (lSl X.K) := by
  intro pins s σ H x v vl vu lo hi sl Q I rx hs pl pu hh
  obtain ⟨h, d, P, r, rv, w, k⟩ := hh
  unfold slD at w
  split at w
  · rename_i ds es
    obtain ⟨z, a, xs, rfl, q, c'⟩ := seq_V r es rv
    rw [if_neg Bool.false_ne_true] at c'
    refine sl_tupA pins s σ H _ v vl vu lo hi sl Q I rx hs pl pu ⟨a, xs, rfl, SqT.of c', fun hw => ?_, fun hw p n => ?_⟩
    · have e : cutD ds lo hi = ds := by
        unfold cutD
        rw [← q.length, hw.1, hw.2, List.drop_zero]
        exact List.take_of_length_le (by rw [q.length]; omega)
      rw [e] at w
      exact k _ _ _ _ w r (.refl _ _) (.tup c' q z)
    · obtain ⟨a1, a2, a3⟩ := new_tup r n (cutV_D q lo hi) (Nat.le_trans (cutD_length ds lo hi) z)
      exact k _ _ _ _ w a1 a2 a3
  · rename_i ds es
    obtain ⟨z, a, xs, rfl, q, c'⟩ := seq_V r es rv
    rw [if_pos rfl] at c'
    refine sl_list pins s σ H _ v vl vu lo hi sl Q I rx hs pl pu ⟨a, xs, rfl, c', fun p n => ?_⟩
    obtain ⟨a1, a2, a3⟩ := new_lst r n (cutV_D q lo hi) (Nat.le_trans (cutD_length ds lo hi) z)
    exact k _ _ _ _ (w.2 p a3) a1 a2 .ref
  · exact w.elim
theorem r_no : PO X none (lO X.K B (wO .no c)) := po_none.imp fun σ H Q ⟨σm, h, P, l, w, k⟩ => by
  rw [wO] at w
  exact k none h H w l.r (.refl _ _)
theorem r_so {e : Expr} {m : E} (he : PE X e (lE X.K B (wE m c))) : PO X (some e) (lO X.K B (wO (.so m) c)) := (po_some he).imp fun σ H Q ⟨σm, h, P, l, w, k⟩ => by
  rw [wO] at w
  refine ⟨σm, h, _, l, w, fun d h1 H1 v q r1 e1 rv => ?_⟩
  obtain ⟨i, rfl, q⟩ := q
  exact ⟨i, rv.eq_int, k _ _ _ q r1 e1⟩
theorem r_sl {e : Expr} {lo hi : Option Expr} {m : E} {ml mh : O} {p2 : Pos} (he : PE X e (lE X.K B (wE m c))) (hl : PO X lo (lO X.K B (wO ml c))) (hh : PO X hi (lO X.K B (wO mh c))) :
    PE X (.Subscript e (.Slice lo hi none p2) pos) (lE X.K B (wE (.sl m ml mh) c)) := (pe_slice o_sl he hl hh).imp fun σ H Q ⟨σm, h, P, l, w, k⟩ => by
  rw [wE] at w
  refine ⟨σm, h, _, l, w, fun d h1 H1 v q1 r1 e1 rv => ⟨σm, h1, _, l.step r1 e1, q1, fun lo' h2 H2 q2 r2 e2 => ⟨σm, h2, _, (l.step r1 e1).step r2 e2, q2, fun hi' h3 H3 q3 r3 e3 => ?_⟩⟩⟩
  exact ⟨h3, d, P, r3, (rv.mono e2).mono e3, q3, fun d' h4 H4 v4 q4 r4 e4 rv4 => k d' h4 H4 v4 q4 r4 (((e1.trans e2).trans e3).trans e4) rv4⟩
end
end MP

/-! Ma7: signs, logic, tests, calls of built-ins. -/
namespace MP
open PySem PySem.Spec PyProof.Rows L2

/-! ### rows without stars -/
def noStar : Expr → Bool
  | .Starred _ _ => false
  | _ => true
theorem star1 {e : Expr} {es : List Expr} {env : Env} (h : noStar e = true) : starEach (e :: es) env = (false, eval e env) :: starEach es env := by
  cases e <;> first | rfl | (simp [noStar] at h)
theorem starAll {env : Env} : ∀ {es : List Expr}, es.all noStar = true → ∀ x ∈ starEach es env, x.1 = false
  | [], _, x, m => by simp [starEach] at m
  | e :: es, h, x, m => by
    rw [List.all_cons, Bool.and_eq_true] at h
    rw [star1 h.1] at m
    rcases List.mem_cons.mp m with rfl | m
    · rfl
    · exact starAll h.2 x m
theorem starAny {env : Env} {es : List Expr} {pos : Pos} (h : es.all noStar = true) : (backTo pos (starEach es env)).any (·.1) = false := by
  rw [List.any_eq_false]
  intro x m
  obtain ⟨y, m', rfl⟩ := List.mem_map.mp m
  have := starAll h y m'
  obtain ⟨a, b⟩ := y
  simp only at this
  subst this
  simp
theorem starFew {env : Env} {es : List Expr} {pos : Pos} (h : es.all noStar = true) (hl : es.length < 30) : ((backTo pos (starEach es env)).all (fun x => !x.1) && (backToKw pos (keywordEach [] env)).all (fun x => x.1.isSome)
      && decide (es.length + ([] : List Keyword).length + (if ([] : List Keyword).isEmpty then 0 else 1) < 30)) = true := by
  have h1 : (backTo pos (starEach es env)).all (fun x => !x.1) = true := by
    rw [List.all_eq_true]
    intro x m
    obtain ⟨y, m', rfl⟩ := List.mem_map.mp m
    have := starAll h y m'
    obtain ⟨a, b⟩ := y
    simp only at this
    subst this
    rfl
  rw [h1]
  simp [keywordEach, backToKw]
  exact hl

section
variable {X : Cx} {B : MH × Hp} {c : Cn} {pos p : Pos}

/-! ### -a, not a, and, or, if else -/
theorem r_neg {a : Expr} {ma : E} (ha : PE X a (lE X.K B (wE ma c))) : PE X (.UnaryOp .USub a pos) (lE X.K B (wE (.neg ma) c)) := (pe_un un_neg ha).imp fun σ H Q ⟨σm, h, P, l, w, k⟩ => by
  rw [wE] at w
  refine ⟨σm, h, _, l, w, fun d h1 H1 v q r1 e1 rv => ?_⟩
  unfold negD at q
  split at q
  · exact ⟨_, rv.eq_int, k _ _ _ _ q r1 e1 .int⟩
  · exact q.elim
theorem r_not {a : Expr} {ma : E} (ha : PE X a (lE X.K B (wE ma c))) : PE X (.UnaryOp .Not a pos) (lE X.K B (wE (.not ma) c)) := (pe_not ha).imp fun σ H Q ⟨σm, h, P, l, w, k⟩ => by
  rw [wE] at w
  refine ⟨σm, h, _, l, w, fun d h1 H1 v q r1 e1 rv => ?_⟩
  obtain ⟨b, rfl, q⟩ := q
  exact ⟨_, rv.eq_bl, k _ _ _ _ q r1 e1 .bl⟩
theorem r_and {a b : Expr} {rest : List Expr} {ma mb : E} (ha : PE X a (lE X.K B (wE ma c))) (hb : PE X (.BoolOp .And (b :: rest) pos) (lE X.K B (wE mb c))) : PE X (.BoolOp .And (a :: b :: rest) pos) (lE X.K B (wE (.and ma mb) c)) := (pe_and ha hb).imp fun σ H Q ⟨σm, h, P, l, w, k⟩ => by
  rw [wE] at w
  refine ⟨σm, h, _, l, w, fun d h1 H1 v q r1 e1 rv => ?_⟩
  obtain ⟨b', rfl, q⟩ := q
  refine ⟨_, rv.eq_bl, ?_⟩
  cases b' with
  | true =>
    rw [if_pos rfl] at q ⊢
    exact ⟨σm, h1, _, l.step r1 e1, q, fun d2 h2 H2 v2 q2 r2 e2 rv2 => k _ _ _ _ q2 r2 (e1.trans e2) rv2⟩
  | false =>
    rw [if_neg Bool.false_ne_true] at q ⊢
    exact k _ _ _ _ q r1 e1 .bl
theorem r_or {a b : Expr} {rest : List Expr} {ma mb : E} (ha : PE X a (lE X.K B (wE ma c))) (hb : PE X (.BoolOp .Or (b :: rest) pos) (lE X.K B (wE mb c))) : PE X (.BoolOp .Or (a :: b :: rest) pos) (lE X.K B (wE (.or ma mb) c)) := (pe_or ha hb).imp fun σ H Q ⟨σm, h, P, l, w, k⟩ => by
  rw [wE] at w
  refine ⟨σm, h, _, l, w, fun d h1 H1 v q r1 e1 rv => ?_⟩
  obtain ⟨b', rfl, q⟩ := q
  refine ⟨_, rv.eq_bl, ?_⟩
  cases b' with
  | true =>
    rw [if_pos rfl] at q ⊢
    exact k _ _ _ _ q r1 e1 .bl
  | false =>
    rw [if_neg Bool.false_ne_true] at q ⊢
    exact ⟨σm, h1, _, l.step r1 e1, q, fun d2 h2 H2 v2 q2 r2 e2 rv2 => k _ _ _ _ q2 r2 (e1.trans e2) rv2⟩
theorem r_ife {t a b : Expr} {mt : C} {ma mb : E} (ht : PT X t (lC X.K B (wC mt c))) (ha : PE X a (lE X.K B (wE ma c))) (hb : PE X b (lE X.K B (wE mb c))) : PE X (.IfExp t a b pos) (lE X.K B (wE (.ife mt ma mb) c)) := (pe_ifExp ht ha hb).imp fun σ H Q ⟨σm, h, P, l, w, k⟩ => by
  rw [wE] at w
  refine ⟨σm, h, _, l, w, fun b' h1 H1 q r1 e1 => ?_⟩
  cases b' with
  | true =>
    rw [if_pos rfl] at q ⊢
    exact ⟨σm, h1, _, l.step r1 e1, q, fun d2 h2 H2 v2 q2 r2 e2 rv2 => k _ _ _ _ q2 r2 (e1.trans e2) rv2⟩
  | false =>
    rw [if_neg Bool.false_ne_true] at q ⊢
    exact ⟨σm, h1, _, l.step r1 e1, q, fun d2 h2 H2 v2 q2 r2 e2 rv2 => k _ _ _ _ q2 r2 (e1.trans e2) rv2⟩

/-! ### tests -/
theorem cmpD_bl {op : CmpOp} {x y : D} {h : MH} {Q : DK} (w : cmpD op x y h Q) : cmpD op x y h fun d h1 => (∃ b, d = .bl b) ∧ Q d h1 := by
  have eqq : ∀ n, eqD n x y h Q → eqD n x y h fun d h1 => (∃ b, d = .bl b) ∧ Q d h1 := fun n w => by
    rcases w with ⟨a, b, e1, e2, w⟩ | ⟨p, q, a, b, w⟩
    · exact .inl ⟨a, b, e1, e2, ⟨_, rfl⟩, w⟩
    · exact .inr ⟨p, q, a, b, ⟨_, rfl⟩, w⟩
  have ltt : ∀ n m, ltD n m x y h Q → ltD n m x y h fun d h1 => (∃ b, d = .bl b) ∧ Q d h1 := fun n m w => by
    obtain ⟨p, q, a, b, a', b', w⟩ := w
    exact ⟨p, q, a, b, a', b', ⟨_, rfl⟩, w⟩
  have inn : ∀ n, inD n x y h Q → inD n x y h fun d h1 => (∃ b, d = .bl b) ∧ Q d h1 := fun n w => by
    unfold inD at w ⊢
    split at w
    · rename_i kvs e
      simp only [e]
      exact ⟨w.1, ⟨_, rfl⟩, w.2⟩
    · rename_i e
      simp only [e]
      obtain ⟨k, ds, p, qs, a, b, a', w⟩ := w
      exact ⟨k, ds, p, qs, a, b, a', ⟨_, rfl⟩, w⟩
  have iss : ∀ n, isD n x y h Q → isD n x y h fun d h1 => (∃ b, d = .bl b) ∧ Q d h1 := fun n w => ⟨w.1, ⟨_, rfl⟩, w.2⟩
  cases op with
  | Eq => exact eqq _ w
  | NotEq => exact eqq _ w
  | Lt => exact ltt _ _ w
  | LtE => exact ltt _ _ w
  | Gt => exact ltt _ _ w
  | GtE => exact ltt _ _ w
  | In => exact inn _ w
  | NotIn => exact inn _ w
  | Is => exact iss _ w
  | IsNot => exact iss _ w
theorem t_cmp {op : CmpOp} {a b : Expr} {ma mb : E} (hu : X.A.units + 100 < cLine) (ha : PE X a (lE X.K B (wE ma c))) (hb : PE X b (lE X.K B (wE mb c))) (hm : behindInMarks op b = false) :
    PT X (.Compare a [op] [b] pos) (lC X.K B (wC (.e (.cmp op ma mb)) c)) := (pt_cmpR (o_cmp hu op) ha hb hm).imp fun σ H Q ⟨σm, h, P, l, w, k⟩ => by
  rw [wC, wE] at w
  refine ⟨σm, h, _, l, w, fun x h1 H1 u q1 r1 e1 rx => ⟨σm, h1, _, l.step r1 e1, q1, fun y h2 H2 v q2 r2 e2 ry => ?_⟩⟩
  refine ⟨h2, x, y, _, r2, rx.mono e2, ry, cmpD_bl q2, fun d h3 H3 z p r3 e3 rz => ?_⟩
  obtain ⟨⟨b', rfl⟩, k', ek, p⟩ := p
  cases ek
  exact ⟨b', rz.eq_bl, k _ h3 H3 p r3 ((e1.trans e2).trans e3)⟩
theorem t_chn {op op' : CmpOp} {a b d : Expr} {ma mb md : E} (hu : X.A.units + 100 < cLine) (ha : PE X a (lE X.K B (wE ma c))) (hb : PE X b (lE X.K B (wE mb c))) (hd : PE X d (lE X.K B (wE md c))) (hm : lastMarks [op, op'] [b, d] = false) :
    PT X (.Compare a [op, op'] [b, d] pos) (lC X.K B (wC (.e (.chn op op' ma mb md)) c)) := (pt_chain (o_cmp hu op) (o_cmp hu op') ha hb hd (hm := hm)).imp fun σ H Q ⟨σm, h, P, l, w, k⟩ => by
  rw [wC, wE] at w
  refine ⟨σm, h, _, l, w, fun x h1 H1 u q1 r1 e1 rx => ⟨σm, h1, _, l.step r1 e1, q1, fun y h2 H2 v q2 r2 e2 ry => ?_⟩⟩
  refine ⟨h2, x, y, _, r2, rx.mono e2, ry, q2, fun t h3 H3 z q3 r3 e3 rz => ?_⟩
  obtain ⟨b', e', q3⟩ := q3
  subst e'
  refine ⟨b', rz.eq_bl, ?_⟩
  cases b' with
  | true =>
    rw [if_pos rfl] at q3 ⊢
    refine ⟨σm, h3, _, ((l.step r1 e1).step r2 e2).step r3 e3, q3, fun t h4 H4 v4 q4 r4 e4 r4v => ?_⟩
    refine ⟨h4, y, t, _, r4, (ry.mono e3).mono e4, r4v, cmpD_bl q4, fun d5 h5 H5 v5 q5 r5 e5 rv5 => ?_⟩
    obtain ⟨⟨b5, rfl⟩, k', ek, p⟩ := q5
    cases ek
    exact ⟨b5, rv5.eq_bl, k _ h5 H5 p r5 ((((e1.trans e2).trans e3).trans e4).trans e5)⟩
  | false =>
    rw [if_neg Bool.false_ne_true] at q3 ⊢
    obtain ⟨k', ek, p⟩ := q3
    cases ek
    exact ⟨false, rfl, k _ _ _ p r3 ((e1.trans e2).trans e3)⟩
/-- forms whose test is not their value's truth -/
def testy : Expr → Bool
  | .UnaryOp .Not _ _ => true
  | .BoolOp _ _ _ => true
  | .IfExp _ _ _ _ => true
  | .Compare _ _ _ _ => true
  | _ => false
theorem isTrue_val {e : Expr} (h : testy e = false) {env : Env} (whole : Sem Value) : isTrue e env whole = (do let v ← whole; standAt e.pos; holding [v] (truthy v)) := by
  cases e with
  | UnaryOp op x p => cases op <;> first | rfl | (simp [testy] at h)
  | _ => first | rfl | (simp [testy] at h)
theorem RVs.isE {K : PySem.W.Frag} {H : Hp} {ds : List D} {vs : List V} (r : RVs K H ds vs) : (!ds.isEmpty) = !vs.isEmpty := by
  have := r.length
  cases ds <;> cases vs <;> first | rfl | (simp at this)
theorem keyOk0 {kvs : List (D × D)} (h : (kvs.all fun p => !isT p.1) = true) : keyOk kvs (.int 0) := ⟨rfl, fun p m => by
  have := List.all_eq_true.mp h p m
  show isT p.1 = false
  simpa using this⟩
/-- a dict without tuples for keys -/
theorem dict_plain {σ : L2.St} {pins : List (Addr × Obj)} {H : Hp} {h : MH} {s : Shared} (I : Inv X pins σ H s) (r : R X.K h H) {a : Addr} {kvs : List (D × D)} (e : h a = some (.dct kvs)) (ok : (kvs.all fun p => !isT p.1) = true) :
    ∃ H1 kk, Inv X pins σ H1 s ∧ R X.K h H1 ∧ Ext h H h H1 ∧ H1 a = some (.dK kk) ∧ kk.length = kvs.length := by
  obtain ⟨H1, I1, r1, e1, q⟩ := dict_as (x := .int 0) I r e (keyOk0 ok) .int
  rcases q with ⟨key, kk, c1, c2, c3, c4, c5⟩ | ⟨key, kk, b, c1, c2, c3, c4, c5, c6⟩
  · exact ⟨H1, kk, I1, r1, e1, c4, (Paired.length c5).symm⟩
  · cases c2
theorem truD_V {σ : L2.St} {pins : List (Addr × Obj)} {H : Hp} {h : MH} {s : Shared} (I : Inv X pins σ H s) (r : R X.K h H) {d : D} {v : V} {b : Bool} (e : truD h d = some b) (rv : RV X.K H d v) {u : Value} (ru : RelV v u)
    {Q : Bool → Hp → Prop} (q : ∀ H', R X.K h H' → Ext h H h H' → Q b H') : wpAny (model X.prog X.w) X.A (truthy u) (TP X pins σ Q) X.xe s := by
  unfold truD at e
  have q0 := q H r (.refl _ _)
  have go : TruV X.K v H b → wpAny (model X.prog X.w) X.A (truthy u) (TP X pins σ Q) X.xe s := fun t => tru_ok pins s σ H v u Q I ru ⟨b, t, q0⟩
  split at e
  · cases rv.eq_non; cases e; exact go rfl
  · cases rv.eq_bl; cases e; exact go rfl
  · cases rv.eq_int; cases e; exact go rfl
  · cases rv.eq_str
    split at e
    · rename_i z; cases e; exact go ⟨z, rfl⟩
    · cases e
  · rename_i ds
    obtain ⟨a, xs, rfl, ea, rs, z⟩ := rv.eq_tup
    cases e
    refine go (.inr (.inl ⟨xs, SqT.of ea, ?_⟩))
    exact rs.isE
  · rename_i ds
    obtain ⟨a, xs, rfl, ea, rs, z⟩ := rv.eq_lro
    cases e
    refine go (.inl ⟨xs, ea.seq, ?_⟩)
    exact rs.isE
  · rename_i a
    cases rv.eq_ref
    split at e
    · rename_i ds ea
      obtain ⟨z, xs, eb, rs⟩ := lst_at r ea
      cases e
      refine go (.inl ⟨xs, SqL.of eb, ?_⟩)
      exact rs.isE
    · rename_i kvs ea
      split at e
      · rename_i ok
        cases e
        obtain ⟨H1, kk, I1, r1, e1, ek, el⟩ := dict_plain I r ea ok
        cases ru
        refine d_truth I1 (.inl ek) fun s' I' => ⟨H1, I', ?_⟩
        have : (!kvs.isEmpty) = !kk.isEmpty := by cases kvs <;> cases kk <;> first | rfl | (simp at el)
        rw [← this]
        exact q H1 r1 e1
      · cases e
    · cases e
theorem t_val {e : Expr} {m : E} (he : PE X e (lE X.K B (wE m c))) (h : testy e = false) : PT X e (lC X.K B (wC (.e m) c)) := by
  refine ⟨fun pins s σ H Q I ⟨σm, hh, P, l, w, k⟩ => ?_⟩
  rw [wC] at w
  refine isTrue_plain (thn (he.run pins s σ H (fun v H1 => ∃ h1 d b, R X.K h1 H1 ∧ Ext hh H h1 H1 ∧ RV X.K H1 d v ∧ truD h1 d = some b ∧ P b h1) I ⟨σm, hh, _, l, w, fun d h1 H1 v q r1 e1 rv => ?_⟩) fun v s1 q => ?_) (isTrue_val h _)
  · obtain ⟨b, eb, q⟩ := q
    exact ⟨h1, d, b, r1, e1, rv, eb, q⟩
  · obtain ⟨x, H1, I1, rx, h1, d, b, r1, e1, rv, eb, q⟩ := q
    exact truD_V I1 r1 eb rv rx fun H2 r2 e2 => k b h1 H2 q r2 (e1.trans e2)
theorem t_not {t : Expr} {m : C} (ht : PT X t (lC X.K B (wC m c))) : PT X (.UnaryOp .Not t pos) (lC X.K B (wC (.not m) c)) := (pt_not ht).imp fun σ H Q ⟨σm, h, P, l, w, k⟩ => by
  rw [wC] at w
  exact ⟨σm, h, _, l, w, fun b h1 H1 q r1 e1 => k _ h1 H1 q r1 e1⟩
theorem w_and1 {t : Expr} {m : C} (ht : PT X t (lC X.K B (wC m c))) : PW X (.BoolOp .And [t] pos) (lC X.K B (wC m c)) := pw_and1 ht
theorem w_or1 {t : Expr} {m : C} (ht : PT X t (lC X.K B (wC m c))) : PW X (.BoolOp .Or [t] pos) (lC X.K B (wC m c)) := pw_or1 ht
theorem w_and {a b : Expr} {rest : List Expr} {ma mb : C} (ha : PT X a (lC X.K B (wC ma c))) (hb : PW X (.BoolOp .And (b :: rest) pos) (lC X.K B (wC mb c))) : PW X (.BoolOp .And (a :: b :: rest) pos) (lC X.K B (wC (.and ma mb) c)) := (pw_and ha hb).imp fun σ H Q ⟨σm, h, P, l, w, k⟩ => by
  rw [wC] at w
  refine ⟨σm, h, _, l, w, fun b' h1 H1 q r1 e1 => ?_⟩
  cases b' with
  | true =>
    rw [if_pos rfl] at q ⊢
    exact ⟨σm, h1, _, l.step r1 e1, q, fun b2 h2 H2 q2 r2 e2 => k _ _ _ q2 r2 (e1.trans e2)⟩
  | false =>
    rw [if_neg Bool.false_ne_true] at q ⊢
    exact k _ _ _ q r1 e1
theorem w_or {a b : Expr} {rest : List Expr} {ma mb : C} (ha : PT X a (lC X.K B (wC ma c))) (hb : PW X (.BoolOp .Or (b :: rest) pos) (lC X.K B (wC mb c))) : PW X (.BoolOp .Or (a :: b :: rest) pos) (lC X.K B (wC (.or ma mb) c)) := (pw_or ha hb).imp fun σ H Q ⟨σm, h, P, l, w, k⟩ => by
  rw [wC] at w
  refine ⟨σm, h, _, l, w, fun b' h1 H1 q r1 e1 => ?_⟩
  cases b' with
  | true =>
    rw [if_pos rfl] at q ⊢
    exact k _ _ _ q r1 e1
  | false =>
    rw [if_neg Bool.false_ne_true] at q ⊢
    exact ⟨σm, h1, _, l.step r1 e1, q, fun b2 h2 H2 q2 r2 e2 => k _ _ _ q2 r2 (e1.trans e2)⟩
end
end MP

/-! Ma8: calls of built-ins by plain values. -/
namespace MP
open PySem PySem.Spec PyProof.Rows L2

def lF (K : PySem.W.Frag) (f : List D → MH → DK → Prop) : List V → Hp → VK → Prop := fun vs H Q => ∃ h ds P, R K h H ∧ RVs K H ds vs ∧ f ds h P ∧
  ∀ d h' H' v, P d h' → R K h' H' → Ext h H h' H' → RV K H' d v → Q v H'
/-- one sequence -/
def lFL (K : PySem.W.Frag) (f : Bool → List D → MH → DK → Prop) : List V → Hp → VK → Prop := fun vs H Q => ∃ h v ds k st P, vs = [v] ∧ R K h H ∧ Sq K h H v ds k st ∧ f k ds h P ∧
  ∀ d h' H' v, P d h' → R K h' H' → Ext h H h' H' → RV K H' d v → Q v H'
/-- one sequence, a new list -/
def lFN (K : PySem.W.Frag) (f : Bool → List D → (List D → Prop) → Prop) : List V → Hp → VK → Prop := fun vs H Q => ∃ h v ds k st P, vs = [v] ∧ R K h H ∧ Sq K h H v ds k st ∧ f k ds P ∧
  ∀ ds' H' a xs, P ds' → R K h H' → Ext h H h H' → H a = none → H' a = some (.lst xs) → RVs K H' ds' xs → ds'.length ≤ sizeLine → Q (.ref a) H'

theorem bltF {f : Bf} {ds : List D} {h : MH} {Q : DK} (w : bltD f ds h Q) : (∃ d, ds = [d]) ∨ ∃ d e, ds = [d, e] := by
  cases ds with
  | nil => cases f <;> exact (show False from w).elim
  | cons a t =>
    cases t with
    | nil => exact .inl ⟨a, rfl⟩
    | cons b t =>
      cases t with
      | nil => exact .inr ⟨a, b, rfl⟩
      | cons e t => cases f <;> cases a <;> first | exact (show False from w).elim | (cases b <;> exact (show False from w).elim)
theorem Sq.get {K : PySem.W.Frag} {h : MH} {H : Hp} {v : V} {ds : List D} {k : Bool} {st : MH → Prop} (q : Sq K h H v ds k st) (r : R K h H) :
    ds.length ≤ sizeLine ∧ ∃ a xs, v = .ref a ∧ (if k = true then SqL K H a xs else H a = some (.tup xs)) ∧ RVs K H ds xs := by
  obtain ⟨a, e, f⟩ := q.at'
  obtain ⟨z, xs, c, rs⟩ := f h H (.refl _ _) r q.now
  exact ⟨z, a, xs, e, c, rs⟩

section
variable {X : Cx}
theorem c_len : CallR X (.builtin "len") (lF X.K (bltD .len)) := by
  intro pins s σ H xs us Q I rs hh
  obtain ⟨h, ds, P, r, rv, w, k⟩ := hh
  rcases bltF w with ⟨d, rfl⟩ | ⟨d, e, rfl⟩
  · obtain ⟨v, t, rfl, rv1, rt⟩ := rv.eq_cons
    cases rt.eq_nil
    unfold bltD at w
    simp only at w
    split at w
    · rename_i kvs ed
      obtain ⟨ok, w⟩ := w
      obtain ⟨a, rfl, ea⟩ := dctOf_eq ed
      cases rv1.eq_ref
      obtain ⟨H1, kk, I1, r1, e1, ek, el⟩ := dict_plain I r ea ok
      rw [Vals.ref1 rs]
      refine d_len I1 (.inl ek) fun t s' I' => ⟨.int kk.length, H1, I', ⟨_, rfl⟩, ?_⟩
      rw [el]
      exact k _ _ _ _ w r1 e1 .int
    · split at w
      · rename_i kk xs1 _ es
        obtain ⟨z, a, ys, rfl, q, c'⟩ := seq_V r es rv1
        refine call_len_seq pins s σ H _ us Q I rs ⟨a, ys, rfl, ?_, by rw [q.length]; exact k _ _ _ _ w r (.refl _ _) .int⟩
        cases kk with
        | true => exact .inl (by simpa using c')
        | false => exact .inr (SqT.of (by simpa using c'))
      · cases rv1.eq_str
        exact call_len_str pins s σ H _ us Q I rs ⟨_, rfl, w.1, k _ _ _ _ w.2 r (.refl _ _) .int⟩
      · exact w.elim
  · exact (show False from w).elim
theorem rvs1 {K : PySem.W.Frag} {H : Hp} {d : D} {vs : List V} (r : RVs K H [d] vs) : ∃ v, vs = [v] ∧ RV K H d v := by
  obtain ⟨v, t, rfl, a, b⟩ := r.eq_cons
  cases b.eq_nil
  exact ⟨v, rfl, a⟩
theorem rvs2 {K : PySem.W.Frag} {H : Hp} {d e : D} {vs : List V} (r : RVs K H [d, e] vs) : ∃ v u, vs = [v, u] ∧ RV K H d v ∧ RV K H e u := by
  obtain ⟨v, t, rfl, a, b⟩ := r.eq_cons
  obtain ⟨u, rfl, b'⟩ := rvs1 b
  exact ⟨v, u, rfl, a, b'⟩
theorem c_int : CallR X (.type "int") (lF X.K (bltD .int)) := by
  intro pins s σ H xs us Q I rs hh
  obtain ⟨h, ds, P, r, rv, w, k⟩ := hh
  refine call_int1 pins s σ H xs us Q I rs ?_
  rcases bltF w with ⟨d, rfl⟩ | ⟨d, e, rfl⟩
  · obtain ⟨v, rfl, rv1⟩ := rvs1 rv
    cases d <;> first | exact (show False from w).elim | skip
    · cases rv1.eq_bl; exact .inr ⟨_, rfl, k _ _ _ _ w r (.refl _ _) .int⟩
    · cases rv1.eq_int; exact .inl ⟨_, rfl, k _ _ _ _ w r (.refl _ _) .int⟩
  · cases d <;> exact (show False from w).elim
theorem c_abs : CallR X (.builtin "abs") (lF X.K (bltD .abs)) := by
  intro pins s σ H xs us Q I rs hh
  obtain ⟨h, ds, P, r, rv, w, k⟩ := hh
  refine call_abs pins s σ H xs us Q I rs ?_
  rcases bltF w with ⟨d, rfl⟩ | ⟨d, e, rfl⟩
  · obtain ⟨v, rfl, rv1⟩ := rvs1 rv
    cases d <;> first | exact (show False from w).elim | skip
    cases rv1.eq_int; exact ⟨_, rfl, k _ _ _ _ w r (.refl _ _) .int⟩
  · cases d <;> exact (show False from w).elim
theorem c_str : CallR X (.type "str") (lF X.K (bltD .str)) := by
  intro pins s σ H xs us Q I rs hh
  obtain ⟨h, ds, P, r, rv, w, k⟩ := hh
  refine call_str_int pins s σ H xs us Q I rs ?_
  rcases bltF w with ⟨d, rfl⟩ | ⟨d, e, rfl⟩
  · obtain ⟨v, rfl, rv1⟩ := rvs1 rv
    cases d <;> first | exact (show False from w).elim | skip
    cases rv1.eq_int; exact ⟨_, rfl, w.1, k _ _ _ _ w.2 r (.refl _ _) .str⟩
  · cases d <;> exact (show False from w).elim
theorem c_bool : CallR X (.type "bool") (lF X.K (bltD .bool)) := by
  intro pins s σ H xs us Q I rs hh
  obtain ⟨h, ds, P, r, rv, w, k⟩ := hh
  refine call_bool1 pins s σ H xs us Q I rs ?_
  rcases bltF w with ⟨d, rfl⟩ | ⟨d, e, rfl⟩
  · obtain ⟨v, rfl, rv1⟩ := rvs1 rv
    cases d <;> first | exact (show False from w).elim | skip
    · cases rv1.eq_bl; exact .inr ⟨_, rfl, k _ _ _ _ w r (.refl _ _) .bl⟩
    · cases rv1.eq_int; exact .inl ⟨_, rfl, k _ _ _ _ w r (.refl _ _) .bl⟩
  · cases d <;> exact (show False from w).elim
theorem c_max2 (hc : X.calm = true) : CallR X (.builtin "max") (lF X.K (bltD .max2)) := by
  intro pins s σ H xs us Q I rs hh
  obtain ⟨h, ds, P, r, rv, w, k⟩ := hh
  refine call_max2 hc pins s σ H xs us Q I rs ?_
  rcases bltF w with ⟨d, rfl⟩ | ⟨d, e, rfl⟩
  · cases d <;> exact (show False from w).elim
  · obtain ⟨v, u, rfl, rv1, rv2⟩ := rvs2 rv
    cases d <;> first | exact (show False from w).elim | skip
    cases e <;> first | exact (show False from w).elim | skip
    cases rv1.eq_int; cases rv2.eq_int; exact ⟨_, _, rfl, k _ _ _ _ w r (.refl _ _) .int⟩
theorem c_min2 (hc : X.calm = true) : CallR X (.builtin "min") (lF X.K (bltD .min2)) := by
  intro pins s σ H xs us Q I rs hh
  obtain ⟨h, ds, P, r, rv, w, k⟩ := hh
  refine call_min2 hc pins s σ H xs us Q I rs ?_
  rcases bltF w with ⟨d, rfl⟩ | ⟨d, e, rfl⟩
  · cases d <;> exact (show False from w).elim
  · obtain ⟨v, u, rfl, rv1, rv2⟩ := rvs2 rv
    cases d <;> first | exact (show False from w).elim | skip
    cases e <;> first | exact (show False from w).elim | skip
    cases rv1.eq_int; cases rv2.eq_int; exact ⟨_, _, rfl, k _ _ _ _ w r (.refl _ _) .int⟩
theorem c_repr (hu : X.A.units + 100 < cLine) (hg : X.A.guards = some []) : CallR X (.builtin "repr") (lF X.K (bltD .repr)) := by
  intro pins s σ H xs us Q I rs hh
  obtain ⟨h, ds, P, r, rv, w, k⟩ := hh
  rcases bltF w with ⟨d, rfl⟩ | ⟨d, e, rfl⟩
  · obtain ⟨v, rfl, rv1⟩ := rvs1 rv
    obtain ⟨u, rfl, ru⟩ := vals1 rs
    obtain ⟨p, e1, e2, e3, w⟩ := w
    have q := k _ _ H (.str p.shown) w r (.refl _ _) .str
    obtain ⟨⟨as, rd⟩, cl, dp⟩ := reads_pd I r e1 rv1 ru
    have viaRef : ∀ a, u = .ref a → wpAny (model X.prog X.w) X.A (call (.builtin "repr") [u]) (EP X pins σ Q) X.xe s := fun a e => by
      subst e
      exact repr_of_reads' rd e2 (PySem.PyData.noDict_hsm (PySem.PyData.hasDict_of_canLay p cl)) hg (by omega) (fun _ _ e => e) (fun h' t' tk hk => ⟨.str _, H, I.kept hk, ⟨_, rfl⟩, q⟩) e3
    have pw := (pd_eq e1).1
    cases d with
    | non => cases rv1.eq_non; cases ru; rw [pdW] at pw; cases pw; exact PySem.P.repr_of_none ⟨.str _, H, I.tok _, ⟨_, by rw [PySem.PyData.shown_none]⟩, q⟩
    | bl b => cases rv1.eq_bl; cases ru; rw [pdW] at pw; cases pw; exact PySem.P.repr_of_bool ⟨.str _, H, I.tok _, ⟨_, by rw [PySem.PyData.shown_bool]⟩, q⟩
    | int i =>
      cases rv1.eq_int; obtain ⟨t, rfl⟩ := ru; rw [pdW] at pw; cases pw
      exact PySem.P.repr_of_int (by simpa [PyData.showable] using e2) ⟨.str _, H, I.tok _, ⟨_, by rw [PySem.PyData.shown_int]⟩, q⟩
    | str x =>
      cases rv1.eq_str; obtain ⟨t, rfl⟩ := ru; rw [pdW] at pw
      split at pw
      · cases pw
        exact PySem.P.repr_of_str ⟨.str _, H, I.tok _, ⟨_, by rw [PySem.PyData.shown_str]⟩, q⟩ (by rw [← PySem.PyData.shown_str]; exact e3)
      · cases pw
    | tup ds => obtain ⟨a, _, rfl, _⟩ := rv1.eq_tup; exact viaRef a ru
    | lro ds => obtain ⟨a, _, rfl, _⟩ := rv1.eq_lro; exact viaRef a ru
    | ref a => cases rv1.eq_ref; exact viaRef a ru
  · exact (show False from w).elim

/-! ### one sequence -/
theorem c_tuple : CallR X (.type "tuple") (lFL X.K fun k ds h Q => blsD .tuple k ds h Q) := by
  intro pins s σ H xs us Q I rs hh
  obtain ⟨h, v, ds, k', st, P, rfl, r, sq, w, k⟩ := hh
  obtain ⟨z, a, ys, rfl, c, rv⟩ := sq.get r
  refine call_tuple_of pins s σ H _ us Q I rs ⟨a, ys, rfl, ?_⟩
  cases k' with
  | true =>
    refine .inl ⟨by simpa using c, fun l n => ?_⟩
    obtain ⟨a1, a2, a3⟩ := new_tup r n rv z
    exact k _ _ _ _ w a1 a2 a3
  | false =>
    have c : H a = some (.tup ys) := by simpa using c
    exact .inr ⟨SqT.of c, k _ _ _ _ w r (.refl _ _) (.tup c rv z)⟩
theorem c_lens : CallR X (.builtin "len") (lFL X.K fun k ds h Q => blsD .len k ds h Q) := by
  intro pins s σ H xs us Q I rs hh
  obtain ⟨h, v, ds, k', st, P, rfl, r, sq, w, k⟩ := hh
  obtain ⟨z, a, ys, rfl, c, rv⟩ := sq.get r
  refine call_len_seq pins s σ H _ us Q I rs ⟨a, ys, rfl, ?_, by rw [rv.length]; exact k _ _ _ _ w r (.refl _ _) .int⟩
  cases k' with
  | true => exact .inl (by simpa using c)
  | false => exact .inr (SqT.of (by simpa using c))
theorem bools_V {K : PySem.W.Frag} {H : Hp} : ∀ {ds : List D} {bs : List Bool} {vs : List V}, boolsD ds = some bs → RVs K H ds vs → vs = bs.map V.bl
  | [], bs, vs, e, r => by rw [boolsD] at e; cases e; cases r.eq_nil; rfl
  | d :: ds, bs, vs, e, r => by
    obtain ⟨v, t, rfl, a, b⟩ := r.eq_cons
    cases d <;> rw [boolsD] at e <;> first | (cases e; done) | skip
    · obtain ⟨bs', e1, rfl⟩ := Option.map_eq_some_iff.mp e
      cases a.eq_bl
      rw [bools_V e1 b]; rfl
    all_goals (intro x y; cases y)
theorem ints_V {K : PySem.W.Frag} {H : Hp} : ∀ {ds : List D} {is : List Int} {vs : List V}, intsD ds = some is → RVs K H ds vs → vs = is.map V.int
  | [], bs, vs, e, r => by rw [intsD] at e; cases e; cases r.eq_nil; rfl
  | d :: ds, bs, vs, e, r => by
    obtain ⟨v, t, rfl, a, b⟩ := r.eq_cons
    cases d <;> rw [intsD] at e <;> first | (cases e; done) | skip
    · obtain ⟨bs', e1, rfl⟩ := Option.map_eq_some_iff.mp e
      cases a.eq_int
      rw [ints_V e1 b]; rfl
    all_goals (intro x y; cases y)
theorem c_all (hc : X.calm = true) : CallR X (.builtin "all") (lFL X.K fun k ds h Q => blsD .all k ds h Q) := by
  intro pins s σ H xs us Q I rs hh
  obtain ⟨h, v, ds, k', st, P, rfl, r, sq, w, k⟩ := hh
  obtain ⟨rfl, bs, e, w⟩ := w
  obtain ⟨z, a, ys, rfl, c, rv⟩ := sq.get r
  cases bools_V e rv
  exact cr_all hc pins s σ H _ us Q I rs ⟨a, bs, rfl, by simpa using c, k _ _ _ _ w r (.refl _ _) .bl⟩
theorem c_any (hc : X.calm = true) : CallR X (.builtin "any") (lFL X.K fun k ds h Q => blsD .any k ds h Q) := by
  intro pins s σ H xs us Q I rs hh
  obtain ⟨h, v, ds, k', st, P, rfl, r, sq, w, k⟩ := hh
  obtain ⟨rfl, bs, e, w⟩ := w
  obtain ⟨z, a, ys, rfl, c, rv⟩ := sq.get r
  cases bools_V e rv
  exact cr_any hc pins s σ H _ us Q I rs ⟨a, bs, rfl, by simpa using c, k _ _ _ _ w r (.refl _ _) .bl⟩
theorem c_sum (hc : X.calm = true) : CallR X (.builtin "sum") (lFL X.K fun k ds h Q => blsD .sum k ds h Q) := by
  intro pins s σ H xs us Q I rs hh
  obtain ⟨h, v, ds, k', st, P, rfl, r, sq, w, k⟩ := hh
  obtain ⟨rfl, is, e, w⟩ := w
  obtain ⟨z, a, ys, rfl, c, rv⟩ := sq.get r
  cases ints_V e rv
  exact cr_sum hc pins s σ H _ us Q I rs ⟨a, is, rfl, by simpa using c, k _ _ _ _ w r (.refl _ _) .int⟩
end
end MP

/-! Ma9: built-ins over sequences, new lists. -/
namespace MP
open PySem PySem.Spec PyProof.Rows L2

section
variable {X : Cx} {B : MH × Hp} {c : Cn} {pos p : Pos}

/-! ### calls -/
theorem r_bltB {f : Bf} {x : Str} {id : String} {e : Expr} {es : List Expr} {ms : Es} (hc : CallR X (.builtin id) (lF X.K (bltD f))) (hg : Gl X x) (hm : X.mg x = none) (hv : bootBuiltins x = some (.builtin id)) (ha : PA X (e :: es) (lEs X.K B (wEs ms c)))
    (hs : (e :: es).all noStar = true) (hn : x ≠ "__name__") (hdb : (x == ("__debug__" : Str)) = false) : PE X (.Call (.Name x p) (e :: es) [] pos) (lE X.K B (wE (.blt f ms) c)) := by
  rw [List.all_cons, Bool.and_eq_true] at hs
  refine (pe_callB hc hg hm hv ha hn hdb (star1 hs.1) (starAny hs.2)).imp fun σ H Q ⟨σm, h, P, l, w, k⟩ => ?_
  rw [wE] at w
  exact ⟨σm, h, _, l, w, fun ds h1 H1 vs q r1 e1 rv => ⟨h1, ds, P, r1, rv, q, fun d h2 H2 v q2 r2 e2 rv2 => k d h2 H2 v q2 r2 (e1.trans e2) rv2⟩⟩
theorem r_bltT {f : Bf} {x : Str} {T : String} {e : Expr} {es : List Expr} {ms : Es} (hc : CallR X (.type T) (lF X.K (bltD f))) (hg : Gl X x) (hm : X.mg x = none) (hv : bootBuiltins x = some (.type T)) (ha : PA X (e :: es) (lEs X.K B (wEs ms c)))
    (hs : (e :: es).all noStar = true) (hn : x ≠ "__name__") (hdb : (x == ("__debug__" : Str)) = false) : PE X (.Call (.Name x p) (e :: es) [] pos) (lE X.K B (wE (.blt f ms) c)) := by
  rw [List.all_cons, Bool.and_eq_true] at hs
  refine (pe_callTy hc hg hm hv ha hn hdb (star1 hs.1) (starAny hs.2)).imp fun σ H Q ⟨σm, h, P, l, w, k⟩ => ?_
  rw [wE] at w
  exact ⟨σm, h, _, l, w, fun ds h1 H1 vs q r1 e1 rv => ⟨h1, ds, P, r1, rv, q, fun d h2 H2 v q2 r2 e2 rv2 => k d h2 H2 v q2 r2 (e1.trans e2) rv2⟩⟩
/-- one argument -/
def tOne (t : TE) : TA := fun σ H Q => t σ H fun v H1 => Q [v] H1
theorem pa_one {e : Expr} {t : TE} (he : PE X e t) (hs : noStar e = true) : PA X [e] (tOne t) := (pa_cons he pa_nil (star1 hs)).imp fun σ H Q h => h
theorem r_blsB {f : Bl} {x : Str} {id : String} {e : Expr} {m : L} (hc : CallR X (.builtin id) (lFL X.K fun k ds h Q => blsD f k ds h Q)) (hg : Gl X x) (hm : X.mg x = none) (hv : bootBuiltins x = some (.builtin id)) (ha : PE X e (lL X.K B (wL m c)))
    (hs : noStar e = true) (hn : x ≠ "__name__") (hdb : (x == ("__debug__" : Str)) = false) : PE X (.Call (.Name x p) [e] [] pos) (lE X.K B (wE (.bls f m) c)) := by
  refine (pe_callB hc hg hm hv (pa_one ha hs) hn hdb (star1 hs) rfl).imp fun σ H Q ⟨σm, h, P, l, w, k⟩ => ?_
  rw [wE] at w
  exact ⟨σm, h, _, l, w, fun ds k' st h1 H1 v q r1 e1 sq => ⟨h1, v, ds, k', st, P, rfl, r1, sq, q, fun d h2 H2 v q2 r2 e2 rv2 => k d h2 H2 v q2 r2 (e1.trans e2) rv2⟩⟩
theorem r_blsT {f : Bl} {x : Str} {T : String} {e : Expr} {m : L} (hc : CallR X (.type T) (lFL X.K fun k ds h Q => blsD f k ds h Q)) (hg : Gl X x) (hm : X.mg x = none) (hv : bootBuiltins x = some (.type T)) (ha : PE X e (lL X.K B (wL m c)))
    (hs : noStar e = true) (hn : x ≠ "__name__") (hdb : (x == ("__debug__" : Str)) = false) : PE X (.Call (.Name x p) [e] [] pos) (lE X.K B (wE (.bls f m) c)) := by
  refine (pe_callTy hc hg hm hv (pa_one ha hs) hn hdb (star1 hs) rfl).imp fun σ H Q ⟨σm, h, P, l, w, k⟩ => ?_
  rw [wE] at w
  exact ⟨σm, h, _, l, w, fun ds k' st h1 H1 v q r1 e1 sq => ⟨h1, v, ds, k', st, P, rfl, r1, sq, q, fun d h2 H2 v q2 r2 e2 rv2 => k d h2 H2 v q2 r2 (e1.trans e2) rv2⟩⟩
theorem r_newB {x : Str} {id : String} {e : Expr} {m ml : L} {f : Bool → List D → (List D → Prop) → Prop} (hc : CallR X (.builtin id) (lFN X.K f)) (hw : ∀ σ h Q, wL ml c σ h Q → wL m c σ h fun ds k _ h1 => f k ds fun ds' => Q ds' true (fun _ => True) h1)
    (hg : Gl X x) (hm : X.mg x = none) (hv : bootBuiltins x = some (.builtin id)) (ha : PE X e (lL X.K B (wL m c)))
    (hs : noStar e = true) (hn : x ≠ "__name__") (hdb : (x == ("__debug__" : Str)) = false) : PE X (.Call (.Name x p) [e] [] pos) (lN X.K B (wL ml c)) := by
  refine (pe_callB hc hg hm hv (pa_one ha hs) hn hdb (star1 hs) rfl).imp fun σ H Q ⟨σm, h, P, l, w, k⟩ => ?_
  exact ⟨σm, h, _, l, hw _ _ _ w, fun ds k' st h1 H1 v q r1 e1 sq => ⟨h1, v, ds, k', st, _, rfl, r1, sq, q, fun ds' H2 a xs q2 r2 e2 n ea rv z => k ds' h1 H2 a xs q2 r2 (e1.trans e2) (e1.back n (r1.free n)).1 (r1.free n) ea rv z⟩⟩
theorem r_newT {x : Str} {T : String} {e : Expr} {m ml : L} {f : Bool → List D → (List D → Prop) → Prop} (hc : CallR X (.type T) (lFN X.K f)) (hw : ∀ σ h Q, wL ml c σ h Q → wL m c σ h fun ds k _ h1 => f k ds fun ds' => Q ds' true (fun _ => True) h1)
    (hg : Gl X x) (hm : X.mg x = none) (hv : bootBuiltins x = some (.type T)) (ha : PE X e (lL X.K B (wL m c)))
    (hs : noStar e = true) (hn : x ≠ "__name__") (hdb : (x == ("__debug__" : Str)) = false) : PE X (.Call (.Name x p) [e] [] pos) (lN X.K B (wL ml c)) := by
  refine (pe_callTy hc hg hm hv (pa_one ha hs) hn hdb (star1 hs) rfl).imp fun σ H Q ⟨σm, h, P, l, w, k⟩ => ?_
  exact ⟨σm, h, _, l, hw _ _ _ w, fun ds k' st h1 H1 v q r1 e1 sq => ⟨h1, v, ds, k', st, _, rfl, r1, sq, q, fun ds' H2 a xs q2 r2 e2 n ea rv z => k ds' h1 H2 a xs q2 r2 (e1.trans e2) (e1.back n (r1.free n)).1 (r1.free n) ea rv z⟩⟩

/-! ### a new list as any list, as a value -/
theorem r_up {e : Expr} {m : L} (he : PE X e (lN X.K B (wL m c))) : PE X e (lL X.K B (wL m c)) := he.imp fun σ H Q ⟨σm, h, P, l, w, k⟩ => by
  refine ⟨σm, h, P, l, w, fun ds h' H' a xs q r e1 n n' ea rv z => k ds true (fun _ => True) h' H' (.ref a) q r e1 ⟨trivial, a, rfl, fun h2 H2 e2 r2 _ => ⟨z, xs, ?_, rv.mono e2⟩⟩⟩
  rw [if_pos rfl]
  exact SqL.of (e2.tmp a _ ea n').1
theorem r_nw {e : Expr} {m : L} (he : PE X e (lN X.K B (wL m c))) : PE X e (lE X.K B (wE (.nw m) c)) := he.imp fun σ H Q ⟨σm, h, P, l, w, k⟩ => by
  rw [wE] at w
  refine ⟨σm, h, _, l, w.2, fun ds h' H' a xs q r e1 n n' ea rv z => ?_⟩
  have r2 : R X.K (mup h' a (.lst ds)) H' := r.put ⟨z, xs, ea, rv⟩
  have e2 : Ext h H (mup h' a (.lst ds)) H' := e1.put n
  exact k (.ref a) _ H' (.ref a) (q.2 a n') r2 e2 .ref
theorem r_of {e : Expr} {m : E} (he : PE X e (lE X.K B (wE m c))) : PE X e (lL X.K B (wL (.of m) c)) := he.imp fun σ H Q ⟨σm, h, P, l, w, k⟩ => by
  rw [wL] at w
  refine ⟨σm, h, _, l, w, fun d h1 H1 v q r1 e1 rv => ?_⟩
  obtain ⟨k', ds, es, q⟩ := q
  exact k ds k' _ h1 H1 v q r1 e1 (seq_Sq r1 es rv)

/-! ### list(x), sorted(x) -/
theorem c_lis : CallR X (.type "list") (lFN X.K fun k ds P => P ds) := by
  intro pins s σ H xs us Q I rs hh
  obtain ⟨h, v, ds, k', st, P, rfl, r, sq, w, k⟩ := hh
  obtain ⟨z, a, ys, rfl, cc, rv⟩ := sq.get r
  refine call_list_of pins s σ H _ us Q I rs ⟨a, ys, rfl, ?_, fun l n => k ds _ l ys w (r.new n) (.new n) n upd_same (rv.mono (.new (h := h) n)) z⟩
  cases k' with
  | true => exact .inl (by simpa using cc)
  | false => exact .inr (SqT.of (by simpa using cc))

theorem each_of {K : PySem.W.Frag} {H : Hp} : ∀ {ds : List D} {vs : List V} {us : List Value}, RVs K H ds vs → Vals vs us → PySem.W.EachIs (fun u (b : D × V) => RelV b.2 u ∧ RV K H b.1 b.2) us (ds.zip vs)
  | [], vs, us, r, q => by cases r.eq_nil; cases q; exact .nil
  | d :: ds, vs, us, r, q => by
    obtain ⟨x, xs, rfl, r1, r2⟩ := r.eq_cons
    cases q with
    | cons q1 q2 => exact .cons ⟨q1, r1⟩ (each_of r2 q2)
theorem of_each {K : PySem.W.Frag} {H : Hp} : ∀ {us : List Value} {bs : List (D × V)}, PySem.W.EachIs (fun u (b : D × V) => RelV b.2 u ∧ RV K H b.1 b.2) us bs → RVs K H (bs.map (·.1)) (bs.map (·.2)) ∧ Vals (bs.map (·.2)) us
  | _, _, .nil => ⟨.nil, .nil⟩
  | _, _, .cons q t => ⟨.cons q.2 (of_each t).1, .cons q.1 (of_each t).2⟩
theorem pure0_eq {d : D} (h : pure0 d = true) : pdW (fun _ => none) d = some (toP d) ∧ (toP d).depth ≤ 64 := by
  unfold pure0 at h
  unfold toP
  split at h
  · rename_i p e
    rw [e]
    exact ⟨rfl, by simpa using h⟩
  · cases h
theorem c_srt (hu : X.A.units + 100 < cLine) : CallR X (.builtin "sorted") (lFN X.K fun k ds P => k = true ∧ (∀ d ∈ ds, pure0 d = true) ∧ SrtOk (ds.map toP) ∧ P (sortDs ds)) := by
  intro pins s σ H xs us Q I rs hh
  obtain ⟨h, v, ds, k', st, P, rfl, r, sq, w, k⟩ := hh
  obtain ⟨rfl, pu, ⟨al, so⟩, w⟩ := w
  obtain ⟨z, a, ys, rfl, cc, rv⟩ := sq.get r
  have cc : SqL X.K H a ys := by simpa using cc
  obtain ⟨its, rv2, hl, _⟩ := I.list cc
  rw [Vals.ref1 rs]
  have em : (ds.zip ys).map (fun b : D × V => toP b.1) = ds.map toP := by
    have : (ds.zip ys).map (fun b : D × V => b.1) = ds := List.map_fst_zip (by rw [rv.length]; exact Nat.le_refl _)
    show List.map (toP ∘ fun b : D × V => b.1) (ds.zip ys) = _
    rw [← List.map_map, this]
  have hm : ∀ b ∈ ds.zip ys, b.1 ∈ ds := fun b hb => (List.of_mem_zip (a := b.1) (b := b.2) hb).1
  have E := each_of rv rv2
  have hlz : (ds.zip ys).length = ds.length := by rw [List.length_zip, rv.length, Nat.min_self]
  refine PySem.W.sorted_data (β := D × V) (enc := fun b => toP b.1) (bs := ds.zip ys) hl.isList E ?_ (by rw [em]; exact al) (by rw [em]; exact so) (by rw [hlz]; exact z) (fun b hb => ?_) fun out ho eo => ?_
  · have E2 : PySem.W.EachIs (fun u (b : D × V) => (RelV b.2 u ∧ RV X.K H b.1 b.2) ∧ b ∈ ds.zip ys) its (ds.zip ys) := PySem.W.each_mem E
    refine E2.mono fun u b q => ?_
    exact readsW I (f := fun _ => none) (fun _ _ e => by cases e) (pure0_eq (pu _ (hm b q.2))).1 q.1.2 q.1.1
  · have := (pure0_eq (pu _ (hm b hb))).2
    omega
  · obtain ⟨rv3, vl3⟩ := of_each eo
    have es : ((ds.zip ys).mergeSort (PySem.W.dataLe false fun b : D × V => toP b.1)).map (·.1) = sortDs ds := by
      have q : ((ds.zip ys).mergeSort (fun a b : D × V => PySem.W.dataLe false toP a.1 b.1)).map (fun b : D × V => b.1) = ((ds.zip ys).map (fun b : D × V => b.1)).mergeSort (PySem.W.dataLe false toP) := List.map_mergeSort (fun a _ b _ => rfl)
      rw [List.map_fst_zip (by rw [rv.length]; exact Nat.le_refl _)] at q
      exact q
    rw [es] at rv3
    have hlen : (sortDs ds).length ≤ sizeLine := by unfold sortDs; rw [List.length_mergeSort]; exact z
    obtain ⟨ep, he'⟩ := PyProof.Rows.sortedAll_at s.heap its out.toArray
    have n : H (s.heap.objs.size + 1) = none := I.hok.fresh (Nat.le_succ _)
    refine ⟨.ref _, upd H (s.heap.objs.size + 1) (.lst (((ds.zip ys).mergeSort (PySem.W.dataLe false fun b : D × V => toP b.1)).map (·.2))), I.laid (t' := s.toks) (fun _ _ => PyProof.Rows.sortedAll_old) (Nat.le_succ _) ⟨by rw [rv3.length]; exact hlen, out, ep, vl3, he'⟩, rfl, ?_⟩
    exact k (sortDs ds) _ _ _ w (r.new n) (.new n) n upd_same (rv3.mono (.new (h := h) n)) hlen
end
end MP

/-! Ma10: list(reversed(list)), sorted(set(list)), methods. -/
namespace MP
open PySem PySem.Spec PyProof.Rows L2

section
variable {prog : Program} {w : World} {A : Around} {E : Value → Shared → Prop} {s : Shared}
theorem ext_rev {R : Result → Shared → Prop} {it l S : Addr} {items : Array Value} (res : Value) (c₀ : Nat) (hh : A.handled = none) (hit : s.heap.IsRevIter it l ((items.size : Int) - 1)) (hl : s.heap.IsList l items) (hne : l ≠ it) (hn : items.size ≤ sizeLine)
    (hSi : S ≠ it) (hSl : S ≠ l) (hS : s.heap.get? S = some { cls := .type "list", data := .seq #[] c₀ })
    (hR : ∀ h' tk acc' c', (∀ b o, b ≠ S → b ≠ it → s.heap.get? b = some o → h'.get? b = some o) → h'.get? S = some { cls := .type "list", dict := none, data := .seq acc' c', slots := #[] } →
      ItemsOf (fun i v => items[items.size - 1 - i]? = some v) acc' items.size → R (.ok (.ret res)) { s with heap := h', toks := tk }) :
    wpAny (model prog w) A.in1 (Builtin.List.listExtendWith (.ref S) (.ref it) res)
      (fun fin s' => match fin with | .done f => R (.ok f) s' | .again c' => c'.quiet = true ∧ codeAny (model prog w) A c' R s') (fun e s' => R (.error e) s') s := by
  have W := (Walks.listRev (prog := prog) (w := w) (A := A.in1) hh it l hne items).toS
  have hSf : S ∉ [it, l] := by simp only [List.mem_cons, List.not_mem_nil, or_false, not_or]; exact ⟨hSi, hSl⟩
  have hT : s.TypeIs (.ref it) "list_reverseiterator" := hit.typeIs
  have h1 : Builtin.List.listSameRef (.ref S) (.ref it) = false := by simp [Builtin.List.listSameRef, hSi]
  unfold Builtin.List.listExtendWith
  refine wpAny_bind (wpAny_typeOf hT ?_)
  rw [if_neg (by rw [h1]; decide)]
  refine wpAny_bind (wpAny_pyIter_revIter hit ?_)
  refine wpAny_bind (wpAny_holding ?_)
  unfold Builtin.List.listLengthHint
  refine wpAny_bind (wpAny_specialOf hT RT.nolen_lri ?_)
  show wpAny _ A.in1 (specialOf (Value.ref it) (Str.ofString "__length_hint__") >>= _) _ _ _
  refine wpAny_bind (wpAny_specialOf hT RT.hint_lri ?_)
  generalize hid : ("list_reverseiterator.__length_hint__" : String) = id0
  wp_delta
  rw [show splitId id0 = some ("list_reverseiterator", "__length_hint__") from by subst hid; decide +kernel]
  subst hid
  refine wpAny_bind (wpAny_isInstance (b := true) hT (by rw [isSubtype_type]; kernel_rfl) ?_)
  refine wpAny_pure ?_
  rw [if_neg (by decide)]
  have e0 : ((items.size : Nat) : Int) - 1 - ((0 : Nat) : Int) = (items.size : Int) - 1 := by omega
  refine wpAny_pure ⟨plainId_quiet F.plain_extend_loop _, codeAny_extend_loopS W hn _ hSf res items.size 0 _ _ _ rfl (Nat.zero_le _) ⟨Nat.zero_le _, by rw [e0]; exact hit, hl⟩ hS (ItemsOf.nil _) fun s' acc' c' hm hS' hacc => ?_⟩
  rw [Moved.eq_with hm]
  refine hR s'.heap s'.toks acc' c' (fun b o hb hb2 e => hm.heap b o (fun hmem => ?_) e) hS' hacc
  rcases List.mem_cons.mp hmem with e' | hmem
  · exact hb e'
  · exact hb2 (List.mem_singleton.mp hmem)
theorem call_list_rev {it l : Addr} {items : Array Value} {Q : Value → Shared → Prop} (hh : A.handled = none) (hit : s.heap.IsRevIter it l ((items.size : Int) - 1)) (hl : s.heap.IsList l items) (hne : l ≠ it) (hn : items.size ≤ sizeLine)
    (hQ : ∀ h' tk acc' c', (∀ b o, b ≠ it → s.heap.get? b = some o → h'.get? b = some o) → h'.get? s.heap.objs.size = some { cls := .type "list", dict := none, data := .seq acc' c', slots := #[] } →
      ItemsOf (fun i v => items[items.size - 1 - i]? = some v) acc' items.size → Q (.ref s.heap.objs.size) { s with heap := h', toks := tk }) :
    wpAny (model prog w) A (call (.type "list") [.ref it]) Q E s := by
  refine callType_codes (Q₁ := fun obj s₁ => obj = .ref s.heap.objs.size ∧ s₁ = { s with heap := s.heap.push { cls := .type "list", data := .seq #[] } }) F.called_list (F.typeCall_list_1 _) F.entry_list_init
    (code_list_new _ ⟨rfl, rfl⟩) fun obj s₁ h₁ => ?_
  obtain ⟨rfl, rfl⟩ := h₁
  have hS : (s.heap.push { cls := .type "list", data := .seq #[] }).get? s.heap.objs.size = some { cls := .type "list", data := .seq #[] } := Heap.get?_push_size _ rfl
  obtain ⟨oi, hoi, _⟩ := id hit
  obtain ⟨ol, hol, _⟩ := id hl
  have hSi : s.heap.objs.size ≠ it := Nat.ne_of_gt (Heap.lt_size hoi)
  have hSl : s.heap.objs.size ≠ l := Nat.ne_of_gt (Heap.lt_size hol)
  refine ⟨⟨_, hS, rfl⟩, F.args_list_init_2 _ _, ?_⟩
  show wpAny _ A.in1.in1 (do let old ← Builtin.List.listItems (.ref s.heap.objs.size); Builtin.List.listUpdate (.ref s.heap.objs.size) (fun _ => #[]); letGo old.toList.reverse; Builtin.List.listExtendWith (.ref s.heap.objs.size) (.ref it) .none) _ _ _
  refine wpAny_bind ?_
  unfold Builtin.List.listItems
  refine wpAny_bind (wpAny_seqItems hS rfl (wpAny_pure ?_))
  show wpAny _ A.in1.in1 (updateSeq s.heap.objs.size (fun _ => #[]) >>= fun _ => letGo (#[] : Array Value).toList.reverse >>= fun _ => Builtin.List.listExtendWith (.ref s.heap.objs.size) (.ref it) .none) _ _ _
  refine wpAny_bind (wpAny_updateSeq hS rfl ?_)
  have hS₂ := Heap.get?_update_self (Obj.mapSeq (fun _ => (#[] : Array Value))) hS rfl
  have oth : ∀ b o, b ≠ s.heap.objs.size → s.heap.get? b = some o → ((s.heap.push { cls := .type "list", data := .seq #[] }).update s.heap.objs.size (Obj.mapSeq (fun _ => (#[] : Array Value)))).get? b = some o :=
    fun b o hb e => (Heap.get?_update_other _ _ (Ne.symm hb)).trans (Heap.get?_push_of_some _ e)
  refine wpAny_bind (wpAny_letGo ?_)
  refine ext_rev (A := A.in1) .none _ hh (hit.at fun o e => oth it o (Ne.symm hSi) e) ((hl.push _).at fun o e => (Heap.get?_update_other _ _ hSl).trans e) hne hn hSi hSl hS₂ fun h' tk acc' c' hk hS' hacc => ?_
  exact ⟨rfl, hQ h' tk acc' c' (fun b o hb e => hk b o (Nat.ne_of_lt (Heap.lt_size e)) hb (oth b o (Nat.ne_of_lt (Heap.lt_size e)) e)) hS' hacc⟩
end
section
variable {X : Cx} {B : MH × Hp} {c : Cn} {pos pos2 p p2 : Pos}
/-- list(reversed(a list)) -/
theorem r_lrev {e : Expr} {m : L} (hc : X.calm = true) (hg : Gl X "list") (hm : X.mg "list" = none) (hg2 : Gl X "reversed") (hm2 : X.mg "reversed" = none) (ha : PE X e (lL X.K B (wL m c))) (hs : noStar e = true) :
    PE X (.Call (.Name "list" p) [.Call (.Name "reversed" p2) [e] [] pos2] [] pos) (lN X.K B (wL (.lrev m) c)) := by
  refine ⟨fun pins s σ H Q I ⟨σm, h, P, l, w, k⟩ => ?_⟩
  rw [wL] at w
  have hs1 : starEach [e] X.env = (false, eval e X.env) :: starEach [] X.env := star1 hs
  refine Call_ (ld_blt I hg hm boot_list (PyProof.Rows.callWith_type1 (args_cons (Call_ (ld_blt I hg2 hm2 PyProof.Rows.boot_reversed (PyProof.Rows.callWith_type1 (args_cons (thn (ha.run pins s σ H (fun v H1 => ∃ ds k' st h1, (k' = true ∧ P ds.reverse true (fun _ => True) h1) ∧ R X.K h1 H1 ∧ Ext h H h1 H1 ∧ Sq X.K h1 H1 v ds k' st) I ⟨σm, h, _, l, w, fun ds k' st h1 H1 v q r1 e1 sq => ⟨ds, k', st, h1, q, r1, e1, sq⟩⟩) fun u s1 ⟨v, H1, I1, r1, q1⟩ => args_nil ?_) hs1) hs1 rfl))) rfl) rfl rfl))
  obtain ⟨ds, k', st, h1, ⟨rfl, q⟩, rr, e1, sq⟩ := q1
  obtain ⟨z, a, xs, rfl, cc, rv0⟩ := sq.get rr
  have cc : SqL X.K H1 a xs := by simpa using cc
  obtain rfl : u = Value.ref a := r1
  obtain ⟨its, rv, p', hz⟩ := I1.list cc
  refine call_reversed_list p'.isList (args_nil ?_)
  have k0 : ∀ b o, s1.heap.get? b = some o → (s1.heap.push (revObj a ((its.toArray.size : Int) - 1))).get? b = some o := fun b o e => Heap.get?_push_of_some _ e
  have I2 : Inv X pins σ H1 { s1 with heap := s1.heap.push (revObj a ((its.toArray.size : Int) - 1)) } := I1.kept (t' := s1.toks) k0
  obtain ⟨f0, f1, f2, f3, f4, f5⟩ := I1.fpOk (H' := H1) (b := s1.heap.objs.size) (Nat.le_refl _) (I1.hok.fresh (Nat.le_refl _))
  have hl := p'.isList
  obtain ⟨ol, hol, _⟩ := id hl
  have hne : a ≠ s1.heap.objs.size := Nat.ne_of_lt (Heap.lt_size hol)
  have hn : its.toArray.size ≤ sizeLine := by rw [List.size_toArray, ← rv.length]; exact hz
  refine call_list_rev (s := { s1 with heap := s1.heap.push (revObj a ((its.toArray.size : Int) - 1)) }) (I1.ok.hd hc) ⟨_, Heap.get?_push_size _ rfl, rfl, rfl⟩ (hl.push _) hne hn fun h' tk acc c' hk hS hi => ?_
  have hn2 : H1 (s1.heap.push (revObj a ((its.toArray.size : Int) - 1))).objs.size = none := I1.hok.fresh (by rw [Heap.size_push]; exact Nat.le_succ _)
  refine ⟨.ref _, upd H1 (s1.heap.push (revObj a ((its.toArray.size : Int) - 1))).objs.size (.lst xs.reverse), ?_, rfl, ?_⟩
  · refine I2.turnedNew (t' := tk) (ch := [s1.heap.objs.size]) (fun b o hb e => hk b o (fun z => hb (by simp [z])) e) (fun b hb => by rw [List.mem_singleton.mp hb]; exact ⟨f0, f1, f2, f3, f4, f5⟩) (Nat.le_refl _)
      (show ObjOk X.prog X.w _ _ _ (.lst xs.reverse) from ⟨by rw [List.length_reverse]; exact hz, acc.toList, c', RT.vals_rev rv hi, ?_⟩)
    rw [Array.toArray_toList]; exact hS
  · exact k ds.reverse h1 _ _ xs.reverse q (rr.new hn2) (e1.trans (.new hn2)) (e1.back hn2 (rr.free hn2)).1 (rr.free hn2) upd_same (rv0.reverse.mono (.new (h := h1) hn2)) (by rw [List.length_reverse]; exact z)

/-! ### sorted(set(a list of tuples of ints)) -/
theorem tups_V {K : PySem.W.Frag} {H : Hp} : ∀ {ks : List (List Int)} {vs : List V}, RVs K H (ks.map fun k => D.tup (k.map D.int)) vs → ∃ ps : List (Addr × List Int), ps.map (·.2) = ks ∧ vs = ps.map (fun p => V.ref p.1) ∧ ∀ p ∈ ps, H p.1 = some (.tup (p.2.map V.int)) ∧ p.2.length ≤ sizeLine
  | [], vs, r => by cases r.eq_nil; exact ⟨[], rfl, rfl, by simp⟩
  | k :: ks, vs, r => by
    obtain ⟨x, xs, rfl, r1, r2⟩ := r.eq_cons
    obtain ⟨a, ys, rfl, ea, q, z⟩ := r1.eq_tup
    obtain ⟨ps, e1, rfl, e3⟩ := tups_V r2
    refine ⟨(a, k) :: ps, by rw [List.map_cons, e1], rfl, fun p hp => ?_⟩
    rcases List.mem_cons.mp hp with rfl | hp
    · rw [q.ints] at ea; exact ⟨ea, by simpa using z⟩
    · exact e3 p hp
theorem V_tups {K : PySem.W.Frag} {H : Hp} : ∀ {ps : List (Addr × List Int)}, (∀ p ∈ ps, H p.1 = some (.tup (p.2.map V.int)) ∧ p.2.length ≤ sizeLine) → RVs K H ((ps.map (·.2)).map fun k => D.tup (k.map D.int)) (ps.map fun p => V.ref p.1)
  | [], _ => .nil
  | p :: ps, h => .cons (.tup (h p List.mem_cons_self).1 (RVs.of_ints _) (by rw [List.length_map]; exact (h p List.mem_cons_self).2)) (V_tups fun q hq => h q (List.mem_cons_of_mem _ hq))
theorem r_sset {e : Expr} {m : L} (hc : X.calm = true) (hu : X.A.units + 100 < cLine) (hg : Gl X "sorted") (hm : X.mg "sorted" = none) (hg2 : Gl X "set") (hm2 : X.mg "set" = none) (ha : PE X e (lL X.K B (wL m c))) (hs : noStar e = true) :
    PE X (.Call (.Name "sorted" p) [.Call (.Name "set" p2) [e] [] pos2] [] pos) (lN X.K B (wL (.sset m) c)) := by
  refine (pe_callB (cr_sortedT hc) hg hm boot_sorted (pa_one (pe_callTy (cr_setOfT hc (by omega)) hg2 hm2 boot_set (pa_one ha hs) (by decide) (by decide) (star1 hs) rfl) rfl) (by decide) (by decide) rfl rfl).imp fun σ H Q ⟨σm, h, P, l, w, k⟩ => ?_
  rw [wL] at w
  refine ⟨σm, h, _, l, w, fun ds k' st h1 H1 v q r1 e1 sq => ?_⟩
  obtain ⟨rfl, ks, d, M, rfl, z64, hd, hb, q⟩ := q
  obtain ⟨z, a, xs, rfl, cc, rv⟩ := sq.get r1
  have cc : SqL X.K H1 a xs := by simpa using cc
  obtain ⟨ps, e2, rfl, e3⟩ := tups_V rv
  subst e2
  refine ⟨a, ps, rfl, cc, fun p hp => SqT.of (e3 p hp).1, by rw [List.length_map] at z64; exact z64, fun b L nb sub all => ?_⟩
  have x1 : Ext h1 H1 h1 (upd H1 b (SetTO X.prog X.w b L)) := .new nb
  have tups : ∀ p ∈ L, (upd H1 b (SetTO X.prog X.w b L)) p.1 = some (.tup (p.2.map V.int)) := fun p hp => x1.kp.tup _ _ (e3 p (sub p hp)).1
  refine ⟨b, L, d, M, rfl, upd_same, fun p hp => SqT.of (tups p hp), hd, fun p hp => hb p.2 (List.mem_map_of_mem (sub p hp)), fun L' q' pm nd few pw nq => ?_⟩
  have x2 := x1.trans (Ext.new (o := .lst (L'.map fun q => V.ref q.1)) (h := h1) nq)
  have nq1 : H1 q' = none := (x1.back nq ((r1.new nb).free nq)).1
  have rv' : RVs X.K (upd (upd H1 b (SetTO X.prog X.w b L)) q' (.lst (L'.map fun q => V.ref q.1))) ((L'.map (·.2)).map fun k => D.tup (k.map D.int)) (L'.map fun q => V.ref q.1) := V_tups fun p hp => by
    have hp' := pm.mem_iff.mp hp
    exact ⟨x2.kp.tup _ _ (e3 p (sub p hp')).1, (e3 p (sub p hp')).2⟩
  refine k _ h1 _ q' _ (q (L'.map (·.2)) nd (fun kk => ?_) ?_) ((r1.new nb).new nq) (e1.trans x2) (e1.back nq1 (r1.free nq1)).1 (r1.free nq1) upd_same rv' (by rw [List.length_map, List.length_map, sizeLine_eq]; omega)
  · constructor
    · intro hk
      obtain ⟨p, hp, rfl⟩ := List.mem_map.mp hk
      exact List.mem_map_of_mem (sub p (pm.mem_iff.mp hp))
    · intro hk
      obtain ⟨p, hp, rfl⟩ := List.mem_map.mp hk
      have := all p hp
      obtain ⟨p', hp', e'⟩ := List.mem_map.mp this
      rw [← e']
      exact List.mem_map_of_mem (pm.mem_iff.mpr hp')
  · rw [List.pairwise_map]; exact pw
end
end MP

/-! Ma11: methods, sorted(dict). -/
namespace MP
open PySem PySem.Spec PyProof.Rows L2

def lM (K : PySem.W.Frag) (m : Mt) : V → List V → Hp → VK → Prop := fun x vs H Q => ∃ h d ds P, R K h H ∧ RV K H d x ∧ RVs K H ds vs ∧ mthD m d ds h P ∧
  ∀ d h' H' v, P d h' → R K h' H' → Ext h H h' H' → RV K H' d v → Q v H'
theorem mth_ref {m : Mt} {o : D} {as : List D} {h : MH} {Q : DK} (w : mthD m o as h Q) : ∃ a, o = .ref a := by
  cases o <;> first | exact ⟨_, rfl⟩ | exact (show False from w).elim
theorem rvs_dropLast {K : PySem.W.Frag} {H : Hp} : ∀ {ds : List D} {vs : List V}, RVs K H ds vs → RVs K H ds.dropLast vs.dropLast
  | [], _, r => by cases r.eq_nil; exact .nil
  | [d], _, r => by obtain ⟨v, rfl, a⟩ := rvs1 r; exact .nil
  | d :: e :: ds, _, r => by
    obtain ⟨x, xs, rfl, r1, r2⟩ := r.eq_cons
    have := rvs_dropLast r2
    obtain ⟨y, ys, rfl, r3, r4⟩ := r2.eq_cons
    exact .cons r1 this
theorem rvs_erase {K : PySem.W.Frag} {H : Hp} : ∀ {ds : List D} {vs : List V} (k : Nat), RVs K H ds vs → RVs K H (ds.eraseIdx k) (vs.eraseIdx k)
  | [], _, _, r => by cases r.eq_nil; exact .nil
  | d :: ds, _, 0, r => by
    obtain ⟨x, xs, rfl, r1, r2⟩ := r.eq_cons
    exact r2
  | d :: ds, _, k + 1, r => by
    obtain ⟨x, xs, rfl, r1, r2⟩ := r.eq_cons
    exact .cons r1 (rvs_erase k r2)
section
variable {X : Cx} {B : MH × Hp} {c : Cn} {pos p apos cpos : Pos}
theorem m_app : MtR X "list.append" (lM X.K .app) := by
  intro pins s σ H x vs v us Q I rx rv hh
  obtain ⟨h, d, ds, P, r, r1, r2, w, k⟩ := hh
  refine mt_append pins s σ H x vs v us Q I rx rv ?_
  obtain ⟨a, rfl⟩ := mth_ref w
  cases r1.eq_ref
  unfold mthD at w
  simp only at w
  split at w
  · rename_i _ xs d1 ea _
    obtain ⟨z, ys, eH, q⟩ := lst_at r ea
    obtain ⟨u, rfl, ru⟩ := rvs1 r2
    obtain ⟨a1, a2⟩ := set_lst r ea (q.append (.cons ru .nil)) (by rw [List.length_append]; simp; omega)
    exact ⟨a, ys, u, rfl, rfl, eH, by rw [q.length]; exact w.1, k _ _ _ _ w.2 a1 a2 .non⟩
  all_goals first | (rename_i e; cases e; done) | exact w.elim
theorem m_pop : MtR X "list.pop" (lM X.K .pop) := by
  intro pins s σ H x vs v us Q I rx rv hh
  obtain ⟨h, d, ds, P, r, r1, r2, w, k⟩ := hh
  refine mt_pop pins s σ H x vs v us Q I rx rv ?_
  obtain ⟨a, rfl⟩ := mth_ref w
  cases r1.eq_ref
  unfold mthD at w
  simp only at w
  split at w
  all_goals first | (rename_i e; cases e; done) | skip
  · rename_i _ xs ea _
    obtain ⟨z, ys, eH, q⟩ := lst_at r ea
    cases r2.eq_nil
    obtain ⟨d, ed, w⟩ := w
    obtain ⟨y, ey, ry⟩ := q.getD ed
    obtain ⟨a1, a2⟩ := set_lst r ea (rvs_dropLast q) (by rw [List.length_dropLast]; omega)
    exact ⟨a, ys, y, rfl, rfl, eH, by rw [q.length]; exact ey, k _ _ _ _ w a1 a2 (ry.ext (kp_upd r ea))⟩
  · exact w.elim
theorem m_popi : MtR X "list.pop" (lM X.K .popi) := by
  intro pins s σ H x vs v us Q I rx rv hh
  obtain ⟨h, d, ds, P, r, r1, r2, w, k⟩ := hh
  refine mt_popAt pins s σ H x vs v us Q I rx rv ?_
  obtain ⟨a, rfl⟩ := mth_ref w
  cases r1.eq_ref
  unfold mthD at w
  simp only at w
  split at w
  all_goals first | (rename_i e; cases e; done) | skip
  · rename_i _ xs i ea _
    obtain ⟨z, ys, eH, q⟩ := lst_at r ea
    obtain ⟨u, rfl, ru⟩ := rvs1 r2
    cases ru.eq_int
    obtain ⟨j, d, b1, b2, ej, ed, w⟩ := w
    obtain ⟨y, ey, ry⟩ := q.getD ed
    obtain ⟨a1, a2⟩ := set_lst r ea (rvs_erase j q) (by have := len_erase xs j; omega)
    exact ⟨a, ys, i, j, y, rfl, rfl, eH, b1, b2, by rw [q.length]; exact ej, ey, k _ _ _ _ w a1 a2 (ry.ext (kp_upd r ea))⟩
  · exact w.elim
theorem m_get1 (hu : X.A.units + 100 < cLine) : MtR X "dict.get" (lM X.K .get1) := by
  intro pins s σ H x vs v us Q I rx rv hh
  obtain ⟨h, d, ds, P, r, r1, r2, w, k⟩ := hh
  obtain ⟨a, rfl⟩ := mth_ref w
  cases r1.eq_ref
  unfold mthD at w
  simp only at w
  split at w
  all_goals first | (rename_i e; cases e; done) | skip
  · rename_i _ kvs kd ea _
    obtain ⟨u, rfl, ru⟩ := rvs1 r2
    obtain ⟨u', rfl, ry⟩ := vals1 rv
    cases rx
    obtain ⟨ok, w⟩ := w
    obtain ⟨H1, o, I1, rr, e1, g, l1, l2⟩ := dict_get I r ea ok ru
    refine d_get1 (by omega) I1 g ry fun w' s' I' rw' => ⟨o.getD .non, H1, I', rw', ?_⟩
    cases hl : lookD kvs kd with
    | none => rw [l2 hl]; rw [hl] at w; exact k _ _ _ _ w rr e1 .non
    | some d => obtain ⟨v', e2, rv'⟩ := l1 d hl; rw [e2]; rw [hl] at w; exact k _ _ _ _ w rr e1 rv'
  · exact w.elim
theorem m_get2 (hu : X.A.units + 100 < cLine) : MtR X "dict.get" (lM X.K .get2) := by
  intro pins s σ H x vs v us Q I rx rv hh
  obtain ⟨h, d, ds, P, r, r1, r2, w, k⟩ := hh
  obtain ⟨a, rfl⟩ := mth_ref w
  cases r1.eq_ref
  unfold mthD at w
  simp only at w
  split at w
  all_goals first | (rename_i e; cases e; done) | skip
  · rename_i _ kvs kd df ea _
    obtain ⟨u, z, rfl, ru, rz⟩ := rvs2 r2
    obtain ⟨u', z', rfl, ry, rz'⟩ := vals2 rv
    cases rx
    obtain ⟨ok, w⟩ := w
    obtain ⟨H1, o, I1, rr, e1, g, l1, l2⟩ := dict_get I r ea ok ru
    refine d_get2 (by omega) I1 g ry rz' fun w' s' I' rw' => ⟨o.getD z, H1, I', rw', ?_⟩
    cases hl : lookD kvs kd with
    | none => rw [l2 hl]; rw [hl] at w; exact k _ _ _ _ w rr e1 (rz.mono e1)
    | some d => obtain ⟨v', e2, rv'⟩ := l1 d hl; rw [e2]; rw [hl] at w; exact k _ _ _ _ w rr e1 rv'
  · exact w.elim
theorem onT_tyL {m : Mt} {K : PySem.W.Frag} {h : MH} {H : Hp} {d : D} {v : V} (r : R K h H) (rv : RV K H d v) (t : onT m d h) : (match m with | .get1 | .get2 | .setd => tyV K "dict" v H | _ => tyV K "list" v H) := by
  have lst : (∃ a xs, d = .ref a ∧ h a = some (.lst xs)) → tyV K "list" v H := fun ⟨a, xs, e, ea⟩ => by
    subst e; cases rv.eq_ref
    obtain ⟨z, ys, eH, q⟩ := lst_at r ea
    exact .inl ⟨rfl, ys, SqL.of eH⟩
  have dct : (∃ a kvs, d = .ref a ∧ h a = some (.dct kvs)) → tyV K "dict" v H := fun ⟨a, xs, e, ea⟩ => by
    subst e; cases rv.eq_ref
    refine .inr (.inr (.inl ⟨rfl, ?_⟩))
    rcases (r a _ ea).2 with ⟨kk, e, _⟩ | ⟨kk, e, _⟩
    · exact .inl ⟨kk, e⟩
    · exact .inr ⟨kk, e⟩
  cases m <;> first | exact lst t | exact dct t
theorem r_mth {m : Mt} {T id : String} {name : Str} {o e : Expr} {es : List Expr} {mo : E} {ms : Es} (ht : ∀ {h : MH} {H : Hp} {d : D} {v : V}, R X.K h H → RV X.K H d v → onT m d h → tyV X.K T v H)
    (pa : PlainAttrs T) (slot : Slot T name id) (hty : typeOf (.builtin id) = pure (.type "method_descriptor")) (hm : MtR X id (lM X.K m)) (ho : PE X o (lE X.K B (wE mo c))) (ha : PA X (e :: es) (lEs X.K B (wEs ms c)))
    (hs : (e :: es).all noStar = true) (hn : (e :: es).length < 30) (hb : attributeBase o name X.env (eval o X.env) = eval o X.env) (hl : (apos.endLine == cpos.line) = true) :
    PE X (.Call (.Attribute o name apos) (e :: es) [] cpos) (lE X.K B (wE (.mth m mo ms) c)) := by
  have hs' := hs
  rw [List.all_cons, Bool.and_eq_true] at hs
  refine (pe_bm pa slot hty hm ho ha hb (starFew hs' hn) hl (star1 hs.1) (starAny hs.2)).imp fun σ H Q ⟨σm, h, P, l, w, k⟩ => ?_
  rw [wE] at w
  refine ⟨σm, h, _, l, w, fun d h1 H1 v q r1 e1 rv => ⟨ht r1 rv q.1, σm, h1, _, l.step r1 e1, q.2, fun ds h2 H2 vs q2 r2 e2 rvs => ?_⟩⟩
  exact ⟨h2, d, ds, P, r2, rv.mono e2, rvs, q2, fun d3 h3 H3 v3 q3 r3 e3 rv3 => k d3 h3 H3 v3 q3 r3 ((e1.trans e2).trans e3) rv3⟩
theorem r_mth0 {m : Mt} {T id : String} {name : Str} {o : Expr} {mo : E} (ht : ∀ {h : MH} {H : Hp} {d : D} {v : V}, R X.K h H → RV X.K H d v → onT m d h → tyV X.K T v H)
    (pa : PlainAttrs T) (slot : Slot T name id) (hty : typeOf (.builtin id) = pure (.type "method_descriptor")) (hm : MtR X id (lM X.K m)) (ho : PE X o (lE X.K B (wE mo c)))
    (hb : attributeBase o name X.env (eval o X.env) = eval o X.env) (hl : (apos.endLine == cpos.line) = true) :
    PE X (.Call (.Attribute o name apos) [] [] cpos) (lE X.K B (wE (.mth m mo .nil) c)) := by
  refine (pe_bm0 pa slot hty hm ho hb hl).imp fun σ H Q ⟨σm, h, P, l, w, k⟩ => ?_
  rw [wE] at w
  refine ⟨σm, h, _, l, w, fun d h1 H1 v q r1 e1 rv => ⟨ht r1 rv q.1, ?_⟩⟩
  have q2 := q.2
  rw [wEs] at q2
  exact ⟨h1, d, [], P, r1, rv, .nil, q2, fun d3 h3 H3 v3 q3 r3 e3 rv3 => k d3 h3 H3 v3 q3 r3 (e1.trans e3) rv3⟩
theorem r_dnew : PE X (.Dict [] [] pos) (lE X.K B (wE .dnew c)) := pe_dnewK.imp fun σ H Q ⟨σm, h, P, l, w, k⟩ p n => by
  rw [wE] at w
  have r2 : R X.K (mup h p (.dct [])) (upd H p (.dK [])) := (l.r.new n).put ⟨Nat.zero_le _, .inl ⟨[], upd_same, .nil⟩⟩
  exact k (.ref p) _ _ _ (w p (l.r.free n)) r2 (Ext.put (.new n) n) .ref
/-- o[i] = v -/
def lSet (K : PySem.W.Frag) : TSet := fun o i v H Q => ∃ h d e f P, R K h H ∧ RV K H d o ∧ RV K H e i ∧ RV K H f v ∧ setD d e f h P ∧ ∀ h' H', P h' → R K h' H' → Ext h H h' H' → Q H'
theorem p_set (hu : X.A.units + 100 < cLine) : PSet X (lSet X.K) := by
  intro pins s σ H x y z ov iv vv Q I qo qi qz hh
  obtain ⟨h, o, i, v, P, r, ro, ri, rz, w, hq⟩ := hh
  unfold setD at w
  split at w
  · rename_i a
    cases ro.eq_ref
    split at w
    · rename_i xs ea
      obtain ⟨n, j, rfl, ej, w⟩ := w
      obtain ⟨zz, ys, eH, q⟩ := lst_at r ea
      cases ri.eq_int
      obtain ⟨a1, a2⟩ := set_lst r ea (q.set j rz) (by rw [List.length_set]; exact zz)
      exact set_list pins s σ H _ _ z ov iv vv Q I qo qi qz ⟨a, ys, n, j, rfl, rfl, eH, by rw [q.length]; exact ej, hq _ _ w a1 a2⟩
    · rename_i kvs ea
      obtain ⟨ok, zz, zz2, w⟩ := w
      cases qo
      obtain ⟨H1, I1, r1, e1, q⟩ := dict_as I r ea ok ri
      have rz1 := rz.mono e1
      rcases q with ⟨key, kk, c1, c2, c3, c4, c5⟩ | ⟨key, kk, b, c1, c2, c3, c4, c5, c6⟩
      · subst c2
        have pp := putK1 c5 c1 c3 rz1
        have hl : kk.length < sizeLine := by rw [← Paired.length c5]; exact zz2
        have ro' : RO X.K (upd H1 a (.dK (putK kk key z))) a (.dct (putD kvs i v)) := ⟨zz, .inl ⟨_, upd_same, Paired.mp (fun p q hp => ⟨hp.1, hp.2.ext (kp_upd r1 ea)⟩) pp⟩⟩
        refine d_setItem (by omega) I1 (.k c4 hl) qi qz fun s' I' => ⟨_, I', hq _ _ w (r1.upd ea ro') (e1.trans (Ext.upd r1 ea))⟩
      · subst c2
        have pp := putT1 c6 c1 c3 rz1
        have hl : kk.length < sizeLine := by rw [← Paired.length c6]; exact zz2
        have ro' : RO X.K (upd H1 a (.dT (putK kk key z))) a (.dct (putD kvs i v)) := ⟨zz, .inr ⟨_, upd_same, Paired.mp (fun p q hp => ⟨hp.1, hp.2.ext (kp_upd r1 ea)⟩) pp⟩⟩
        refine d_setItem (by omega) I1 (.t c5 c4 hl) qi qz fun s' I' => ⟨_, I', hq _ _ w (r1.upd ea ro') (e1.trans (Ext.upd r1 ea))⟩
    · exact w.elim
  · exact w.elim

/-! ### sorted(a dict with tuples for keys) -/
theorem kDs_V {K : PySem.W.Frag} {H : Hp} : ∀ l : List Key, RVs K H (l.map kD) (l.map kV)
  | [] => .nil
  | k :: l => .cons (by cases k <;> first | exact .int | exact .str) (kDs_V l)
theorem keysV {K : PySem.W.Frag} {H : Hp} : ∀ {kvs : List (D × D)} {kk : List (List Key × V)} {bs : List Addr}, PT1 K H kvs kk → IsKeys H kk bs → (∀ b xs, H b = some (.tup xs) → xs.length ≤ sizeLine) → RVs K H (kvs.map (·.1)) (bs.map V.ref)
  | [], _, _, .nil, .nil, _ => .nil
  | p :: kvs, q :: kk, b :: bs, .cons hp t, .cons hq u, z => by
    refine .cons ?_ (keysV t u z)
    show RV K H p.1 (V.ref b)
    rw [hp.1]
    have zz := z b _ hq
    exact .tup hq (kDs_V _) (by rw [List.length_map] at zz ⊢; exact zz)
theorem reads_keys {h : Heap} : ∀ {ks : List Key} {ps : List PyData} {us : List Value}, pdWs (fun _ => none) (ks.map kD) = some ps → Vals (ks.map kV) us → ReadsAll h us ps []
  | [], ps, us, e, q => by rw [List.map_nil, pdWs] at e; cases e; cases q; exact .nil
  | k :: ks, ps, us, e, q => by
    rw [List.map_cons, pdWs] at e
    obtain ⟨p, e1, e2⟩ := Option.bind_eq_some_iff.mp e
    obtain ⟨ps', e3, e4⟩ := Option.map_eq_some_iff.mp e2
    subst e4
    cases q with
    | cons q1 q2 =>
      have w := reads_keys (h := h) e3 q2
      cases k with
      | inl i =>
        rw [show kD (.inl i) = D.int i from rfl, pdW] at e1
        obtain ⟨t, rfl⟩ := q1
        cases e1
        exact .cons (as := []) (.int _ _) w
      | inr x =>
        rw [show kD (.inr x) = D.str x from rfl, pdW] at e1
        obtain ⟨t, rfl⟩ := q1
        split at e1
        · cases e1
          exact .cons (as := []) (.str _ _) w
        · cases e1
theorem c_srtd (hc : X.calm = true) (hu : X.A.units + 100 < cLine) : CallR X (.builtin "sorted") (fun vs H Q => ∃ (h : MH) (a : Addr) (kvs : List (D × D)) (P : List D → Prop), vs = [.ref a] ∧ R X.K h H ∧ h a = some (.dct kvs) ∧ kvs ≠ [] ∧ (∀ p ∈ kvs, pure0 p.1 = true ∧ isT p.1 = true) ∧ SrtOk (kvs.map fun p => toP p.1) ∧ P (sortDs (kvs.map (·.1))) ∧
    ∀ ds' H' b xs, P ds' → R X.K h H' → Ext h H h H' → H b = none → H' b = some (.lst xs) → RVs X.K H' ds' xs → ds'.length ≤ sizeLine → Q (.ref b) H') := by
  intro pins s σ H xs us Q I rs hh
  obtain ⟨h, d, kvs, P, rfl, r, ed, ne, pu, ⟨al, so⟩, w, k⟩ := hh
  rw [Vals.ref1 rs]
  obtain ⟨z0, q⟩ := r d _ ed
  have q : ∃ kk, H d = some (.dT kk) ∧ PT1 X.K H kvs kk := by
    rcases q with ⟨kk, eH, p⟩ | ⟨kk, eH, p⟩
    · cases p with
      | nil => exact absurd rfl ne
      | @cons p1 q1 ps qs hp t =>
        have := (pu p1 List.mem_cons_self).2
        rw [hp.1] at this
        cases hq : q1.1 <;> rw [hq] at this <;> cases this
    · exact ⟨kk, eH, p⟩
  obtain ⟨kk, eH, pt⟩ := q
  obtain ⟨z, hs, ks, pr, o, es, ep, ho, hx, hdt, he, hn⟩ := (show ObjOk X.prog X.w H s.heap d (.dT kk) from I.hok d _ eH)
  have l1 : es.size = ks.length := size_of_entries he
  have l2 : kk.length = ks.length := Paired.length pr
  have l3 : kvs.length = kk.length := Paired.length pt
  have ik := isKeys_of pr
  have rv : RVs X.K H (kvs.map (·.1)) ((ks.map fun x => x.2.1).map V.ref) := keysV pt ik fun b xs e => by
    obtain ⟨its, r', pl, hz⟩ := I.tuple (SqT.of e)
    exact hz
  refine Calls.call_function_entry PyProof.Rows.kind_sorted PyProof.Rows.plain_sorted PyProof.Rows.entry_sorted (PyProof.Rows.args_sorted1 _) ?_
  unfold Builtin.«sorted»
  refine wpAny_bind (m := checkCount "sorted" 1 1 _) (wpAny_pure ?_)
  refine wpAny_bind (PySem.W.kdu_collect (A := X.A.in1) (kdl_raw hs hx hdt) (I.ok.hd hc) ho (by omega) fun h' tk acc hk it => ?_)
  have hal : acc.toList.length = ks.length := by rw [Array.length_toList, it.1]; exact l1
  have ea : acc.toList = ks.map fun x => Value.ref x.2.1 := by
    apply List.ext_getElem?
    intro j
    rw [List.getElem?_map]
    cases hj : acc.toList[j]? with
    | none =>
      have h1 := List.getElem?_eq_none_iff.mp hj
      rw [List.getElem?_eq_none (by omega)]
      all_goals rfl
    | some v =>
      obtain ⟨en, hen, hv⟩ := it.2 j v (by rw [← Array.getElem?_toList]; exact hj)
      have qe := entry_at he j
      rw [hen] at qe
      cases hb : ks[j]? with
      | none =>
        rw [hb] at qe
        exact nomatch (show some en = none from qe)
      | some b =>
        rw [hb] at qe
        have e2 : en = entryOfKey (tupleKind (mixKind X.prog X.w)) b := Option.some.inj qe
        rw [hv, e2]
        all_goals rfl
  have eb : acc.toList = (ks.map fun x => x.2.1).map Value.ref := by rw [ea, List.map_map]; all_goals rfl
  have vl : Vals ((ks.map fun x => x.2.1).map V.ref) acc.toList := by rw [eb]; exact vals_refs _
  have I1 : Inv X pins σ H { s with heap := h', toks := tk } := I.kept hk
  refine wpAny_bind (wpAny_newList ?_ (by rw [hal]; omega))
  have hoL : (h'.push (seqObj "list" acc.toList.toArray 0)).get? h'.objs.size = some (seqObj "list" acc.toList.toArray 0) := Heap.get?_push_size _ rfl
  show wpAny _ _ _ _ _ { s with heap := h'.push (seqObj "list" acc.toList.toArray 0), toks := tk }
  have E := each_of rv vl
  have hlen0 : (kvs.map (·.1)).length ≤ sizeLine := by rw [List.length_map]; exact z0
  have em : ((kvs.map (·.1)).zip ((ks.map fun x => x.2.1).map V.ref)).map (fun b : D × V => toP b.1) = kvs.map fun p => toP p.1 := by
    have : ((kvs.map (·.1)).zip ((ks.map fun x => x.2.1).map V.ref)).map (fun b : D × V => b.1) = kvs.map (·.1) := List.map_fst_zip (by rw [rv.length]; exact Nat.le_refl _)
    show List.map (toP ∘ fun b : D × V => b.1) _ = _
    rw [← List.map_map, this, List.map_map]
    rfl
  have hm : ∀ b ∈ (kvs.map (·.1)).zip ((ks.map fun x => x.2.1).map V.ref), pure0 b.1 = true ∧ isT b.1 = true := fun b hb => by
    have := (List.of_mem_zip (a := b.1) (b := b.2) hb).1
    obtain ⟨p, hp, e⟩ := List.mem_map.mp this
    rw [← e]
    exact pu p hp
  have hlz : ((kvs.map (·.1)).zip ((ks.map fun x => x.2.1).map V.ref)).length = kvs.length := by rw [List.length_zip, rv.length, Nat.min_self, List.length_map]
  have I2 : Inv X pins σ H { s with heap := h'.push (seqObj "list" acc.toList.toArray 0), toks := tk } := I1.kept (t' := tk) fun b o e => Heap.get?_push_of_some _ e
  refine wpAny_bind (wpAny_holding (PySem.W.list_sort_data (A := X.A.in1) (β := D × V) (enc := fun b => toP b.1) (bs := (kvs.map (·.1)).zip ((ks.map fun x => x.2.1).map V.ref)) hoL E ?_ (by rw [em]; exact al) (by rw [em]; exact so) (by rw [hlz]; exact z0) (fun b hb => ?_) fun out hout eo => ?_))
  · have E2 : PySem.W.EachIs (fun u (b : D × V) => (RelV b.2 u ∧ RV X.K H b.1 b.2) ∧ b ∈ (kvs.map (·.1)).zip ((ks.map fun x => x.2.1).map V.ref)) acc.toList ((kvs.map (·.1)).zip ((ks.map fun x => x.2.1).map V.ref)) := PySem.W.each_mem E
    refine E2.mono fun u b q => ?_
    obtain ⟨p1, p2⟩ := hm b q.2
    have pe := (pure0_eq p1).1
    obtain ⟨p, hp, ep'⟩ := List.mem_map.mp (List.of_mem_zip (a := b.1) (b := b.2) q.2).1
    obtain ⟨key, e2⟩ : ∃ key : List Key, p.1 = .tup (key.map kD) := by
      have : ∀ {l : List (D × D)} {m : List (List Key × V)}, PT1 X.K H l m → ∀ p ∈ l, ∃ key : List Key, p.1 = .tup (key.map kD) := by
        intro l m q
        induction q with
        | nil => intro p m; cases m
        | cons h t ih =>
          intro p m
          rcases List.mem_cons.mp m with rfl | m
          · exact ⟨_, h.1⟩
          · exact ih p m
      exact this pt p hp
    have eb1 : b.1 = .tup (key.map kD) := by rw [← ep']; exact e2
    have rb := q.1.2
    rw [eb1] at rb pe ⊢
    obtain ⟨c', ys, ev, ec, qs, zz⟩ := rb.eq_tup
    have hu' := q.1.1
    rw [ev] at hu'
    cases hu'
    rw [pdW] at pe
    obtain ⟨ps, e5, e6⟩ := Option.map_eq_some_iff.mp pe
    obtain ⟨its, r', pl, hz⟩ := I2.tuple (SqT.of ec)
    obtain ⟨o', ho', hc', n', hd'⟩ := pl
    have ys_eq : ys = key.map kV := by
      have : ∀ {l : List Key} {v : List V}, RVs X.K H (l.map kD) v → v = l.map kV := by
        intro l
        induction l with
        | nil => intro v q; exact q.eq_nil
        | cons k l ih =>
          intro v q
          obtain ⟨x, xs, rfl, a, b⟩ := q.eq_cons
          rw [ih b]
          cases k with
          | inl i => cases (show RV X.K H (.int i) x from a).eq_int; rfl
          | inr y => cases (show RV X.K H (.str y) x from a).eq_str; rfl
      exact this qs
    rw [ys_eq] at r'
    refine ⟨[], ?_, by simp⟩
    rw [← e6]
    exact .tuple ho' hc' hd' (by simpa using reads_keys e5 r')
  · have := (pure0_eq (hm b hb).1).2
    have e1 : X.A.in1.units = X.A.units + 1 := rfl
    omega
  · obtain ⟨rv3, vl3⟩ := of_each eo
    have es' : ((((kvs.map (·.1)).zip ((ks.map fun x => x.2.1).map V.ref))).mergeSort (PySem.W.dataLe false fun b : D × V => toP b.1)).map (·.1) = sortDs (kvs.map (·.1)) := by
      have q : ((((kvs.map (·.1)).zip ((ks.map fun x => x.2.1).map V.ref))).mergeSort (fun a b : D × V => PySem.W.dataLe false toP a.1 b.1)).map (fun b : D × V => b.1) = ((((kvs.map (·.1)).zip ((ks.map fun x => x.2.1).map V.ref))).map (fun b : D × V => b.1)).mergeSort (PySem.W.dataLe false toP) := List.map_mergeSort (fun a _ b _ => rfl)
      rw [List.map_fst_zip (by rw [rv.length]; exact Nat.le_refl _)] at q
      exact q
    rw [es'] at rv3
    have hlen : (sortDs (kvs.map (·.1))).length ≤ sizeLine := by unfold sortDs; rw [List.length_mergeSort]; exact hlen0
    obtain ⟨ep', he'⟩ := PyProof.Rows.sortedHeap_at (vs := acc.toList) (out := out.toArray) hoL
    have n : H h'.objs.size = none := I1.hok.fresh (Nat.le_refl _)
    refine wpAny_pure ⟨_, rfl, .ref h'.objs.size, upd H h'.objs.size (.lst ((((kvs.map (·.1)).zip ((ks.map fun x => x.2.1).map V.ref)).mergeSort (PySem.W.dataLe false fun b : D × V => toP b.1)).map (·.2))), I1.laid (t' := tk) (fun b u e => ?_) (Nat.le_refl _) ⟨by rw [rv3.length]; exact hlen, out, ep', vl3, he'⟩, rfl, ?_⟩
    · have hb : b ≠ h'.objs.size := Nat.ne_of_lt (Heap.lt_size e)
      have e' := Heap.get?_push_of_some (seqObj "list" acc.toList.toArray 0) e
      rw [PyProof.Rows.sortedHeap_old hb (Heap.lt_size e')]
      exact e'
    · exact k (sortDs (kvs.map (·.1))) _ _ _ w (r.new n) (.new n) n upd_same (rv3.mono (.new (h := h) n)) hlen
theorem r_srtd {e : Expr} {m : E} (hc : X.calm = true) (hu : X.A.units + 100 < cLine) (hg : Gl X "sorted") (hm : X.mg "sorted" = none) (ha : PE X e (lE X.K B (wE m c))) (hs : noStar e = true) :
    PE X (.Call (.Name "sorted" p) [e] [] pos) (lN X.K B (wL (.srtd m) c)) := by
  refine (pe_callB (c_srtd hc hu) hg hm boot_sorted (pa_one ha hs) (by decide) (by decide) (star1 hs) rfl).imp fun σ H Q ⟨σm, h, P, l, w, k⟩ => ?_
  rw [wL] at w
  refine ⟨σm, h, _, l, w, fun d h1 H1 v q r1 e1 rv => ?_⟩
  obtain ⟨kvs, ed, ne, pu, so, q⟩ := q
  obtain ⟨a, rfl, ea⟩ := dctOf_eq ed
  cases rv.eq_ref
  exact ⟨h1, a, kvs, fun ds => P ds true (fun _ => True) h1, rfl, r1, ea, ne, pu, so, q, fun ds' H2 b xs q2 r2 e2 n eb rv2 z => k ds' h1 H2 b xs q2 r2 (e1.trans e2) (e1.back n (r1.free n)).1 (r1.free n) eb rv2 z⟩
end
end MP

/-! Me1: enumerate(tuple). -/
namespace PySem
open Sem (wp)
theorem meets_enum_B1 {v : Value} {o : Obj} {H : Heap → Prop} (B : Begins v o H) :
    Meets (Builtin.«enumerate.__new__» ⟨[.type "enumerate", v], []⟩) (fun _ R s => H s.heap ∧
      R (.ok (.ret (.ref (s.heap.push o).objs.size))) { s with heap := (s.heap.push o).push { cls := .type "enumerate", data := .fields #[.none, .bool false, .ref s.heap.objs.size, rawInt 0, .none, .none] } }) :=
  .of_wp fun prog w A R s h => by
    obtain ⟨hp, g, d, tk, os⟩ := s; obtain ⟨h1, h⟩ := h
    have hsub := sub_enumerate
    have q1 : ∀ {A' : Around} {E : Value → Shared → Prop} {Q : Value → Shared → Prop}, Q (.ref hp.objs.size) ⟨hp.push o, g, d, tk, os⟩ → wpAny (model prog w) A' (pyIter v) Q E ⟨hp, g, d, tk, os⟩ :=
      fun q => B.iter prog w _ _ ⟨hp, g, d, tk, os⟩ _ h1 q
    wp_walk using q1
    refine wpAny_stack_any fun st => wpAny_pure ?_
    split
    · rename_i c _ _ _ _ _
      cases (c == Value.type "enumerate")
      · wp_walk using q1
        exact ⟨_, rfl, h⟩
      · wp_walk using q1
        exact ⟨_, rfl, h⟩
    · wp_walk using q1
      exact ⟨_, rfl, h⟩
section
variable {prog : Program} {w : World} {A : Around} {E : Value → Shared → Prop} {s : Shared}
theorem call_enum_tuple {t : Addr} {items : Array Value} {Q : Value → Shared → Prop} (ht : s.heap.IsTuple t items)
    (h : ∀ h', IsEnum h' (s.heap.objs.size + 1) s.heap.objs.size 0 .none → h'.IsTupleIter s.heap.objs.size t 0 → h'.objs.size = s.heap.objs.size + 2 →
      (∀ b o, s.heap.get? b = some o → h'.get? b = some o) → Q (.ref (s.heap.objs.size + 1)) { s with heap := h' }) :
    wpAny (model prog w) A (call (.type "enumerate") [.ref t]) Q E s := by
  refine callType_new F.called_enumerate (by decide) (F.typeCall_enumerate_1 _) (F.newCall_enumerate_1 _) (fun obj => F.args_object_init_2 obj _) F.entry_enumerate_new
    (meets_enum_B1 (begins_tuple t items)) ⟨ht, ?_⟩
  have hz : (s.heap.push { cls := .type "tuple_iterator", data := .fields #[.ref t, .int 0 0] }).objs.size = s.heap.objs.size + 1 := Heap.size_push ..
  show _ ∧ _
  rw [hz]
  have he : IsEnum ((s.heap.push { cls := .type "tuple_iterator", data := .fields #[.ref t, .int 0 0] }).push
      { cls := .type "enumerate", data := .fields #[.none, .bool false, .ref s.heap.objs.size, rawInt 0, .none, .none] }) (s.heap.objs.size + 1) s.heap.objs.size 0 .none := by
    have := Heap.get?_push_size (s.heap.push { cls := .type "tuple_iterator", data := .fields #[.ref t, .int 0 0] })
      (o := { cls := .type "enumerate", data := .fields #[.none, .bool false, .ref s.heap.objs.size, rawInt 0, .none, .none] }) rfl
    rw [hz] at this; exact this
  refine ⟨⟨_, he, rfl⟩, h _ he ⟨_, Heap.get?_push_of_some _ (Heap.get?_push_size _ rfl), rfl, rfl⟩ (by rw [Heap.size_push, hz]) fun b o x => Heap.get?_push_of_some _ (Heap.get?_push_of_some _ x)⟩
theorem next_enum_endT {e it t : Addr} {j : Nat} {items : Array Value} {i : Int} {old : Value} {Q : Option Value → Shared → Prop} (hh : A.in1.handled = none)
    (he : IsEnum s.heap e it i old) (hit : s.heap.IsTupleIter it t j) (ht : s.heap.IsTuple t items) (hx : items[j]? = none)
    (hQ : ∀ h', Heap.ExtBut it s.heap h' → Q none { s with heap := h' }) : wpAny (model prog w) A (pyNext (.ref e)) Q E s := by
  have hT : s.TypeIs (.ref e) "enumerate" := ⟨_, he, rfl⟩
  unfold pyNext
  refine wpAny_bind (wpAny_attempt (wpAny_callSpecial?_slot (name := Str.ofString "__next__") hT F.slot_enumerate_next
    (wpAny_call_entry F.slot_enumerate_next hT F.entry_enumerate_next ?_ (F.args_enumerate_next_1 _))))
  show wpAny _ _ (field (.ref e) 2 >>= _) _ _ _
  refine wpAny_bind (wpAny_field he rfl (x := .ref it) rfl ?_)
  refine wpAny_bind (wpAny_nextOf_tuple_end hh hit ht hx fun h' x he' hx' => ?_)
  obtain ⟨o, ho, hc⟩ := hx'
  refine wpAny_bind (wpAny_isInstance (T := "StopIteration") (b := true) ⟨o, ho, hc⟩ isSubtype_stop ?_)
  exact wpAny_pure (hQ _ he')
end
end PySem
namespace L2
open PySem PySem.Spec PyProof.Rows
def IteT (K : PySem.W.Frag) (a : Addr) : It :=
  ⟨fun i H => ∃ (xs : List V) (x : V), SqT K H a xs ∧ xs[i]? = some x, fun i H v H' => ∃ T x, v = .ref T ∧ H T = none ∧ H' = upd H T (.tup [.int (i : Nat), x]) ∧ ∀ xs, SqT K H a xs → xs[i]? = some x, fun i H => ∃ xs : List V, SqT K H a xs ∧ xs.length ≤ i⟩
theorem turn_enumT {P : Program} {w : World} {K : PySem.W.Frag} {elts : List Expr} {kk : Nat} {tpos : Pos} (a e it : Addr) :
    Turn P w K (.Tuple elts kk tpos) (IteT K a) [e, it] e (fun i h => (∃ old, IsEnum h e it ((i : Nat) : Int) old) ∧ h.IsTupleIter it a i ∧ e ≠ it) where
  mem := by simp
  obj := fun i h st b hb => by
    obtain ⟨⟨old, he⟩, ⟨o, ho, hc, hd⟩, _⟩ := st
    have e' : b = e ∨ b = it := by simpa using hb
    rcases e' with z | z
    · rw [z]; exact ⟨_, he, fun v q => nomatch q⟩
    · rw [z]; exact ⟨o, ho, fun v q => by rw [hd] at q; cases q⟩
  keep := fun i h h' st k => let ⟨⟨old, he⟩, hi, hne⟩ := st; ⟨⟨old, k e (by simp) _ he⟩, hi.at fun o q => k it (by simp) o q, hne⟩
  item := by
    intro X hP hw hK hc i pins s σ H E I hf st hg
    subst hP hw hK
    obtain ⟨⟨old, he⟩, hit, hne⟩ := st
    obtain ⟨xs, x, hq, hx⟩ := hg
    obtain ⟨its, rv, p, hz⟩ := I.tuple hq
    have pt : s.heap.IsTuple a its.toArray := by obtain ⟨o, e, c, n, d⟩ := p; exact ⟨o, e, c, n, d⟩
    obtain ⟨u, hu, ru⟩ := rv.get hx
    have hel : e < s.heap.objs.size := Heap.lt_size he
    have hil : it < s.heap.objs.size := by obtain ⟨_, q, _⟩ := hit; exact Heap.lt_size q
    have hai : a ≠ it := fun z => by
      obtain ⟨o, ho, hc, _⟩ := hit
      obtain ⟨o', ho', hc', _⟩ := pt
      rw [z, ho] at ho'; cases ho'
      rw [hc] at hc'; exact absurd hc' (by decide)
    have hae : a ≠ e := fun z => by
      obtain ⟨o', ho', hc', _⟩ := pt
      rw [z, he] at ho'; cases ho'
      exact absurd (show Value.type "enumerate" = .type "tuple" from hc') (by decide)
    have hil2 : i < its.toArray.size := by
      have := (List.getElem?_eq_some_iff.mp hu).1
      simpa using this
    refine wpAny_pyNext_enum_itemC (Draws.tuple (A := X.A.in1) (I.ok.hd hc) it a hai its.toArray) he ⟨hit, pt⟩ hil2 hne (by simp [hne, Ne.symm hae]) fun x' h' tk hP ho hit' hT hsz hk => ?_
    have ex : x' = u := by
      have : its.toArray[i]? = some x' := hP
      have h2 : its[i]? = some x' := by simpa using this
      rw [hu] at h2; exact (Option.some.inj h2).symm
    subst ex
    refine ⟨_, rfl, wpAny_letOwnedTupleGo_enum (s := { s with heap := h', toks := tk + 1 }) ho fun h'' he' sb => ?_⟩
    have hT2 : h''.get? s.heap.objs.size = some { cls := .type "tuple", data := .seq #[.int i tk, x'] } := (sb.2 _ (Nat.ne_of_gt hel)).trans hT
    have new : ObjOk X.prog X.w (upd H s.heap.objs.size (.tup [.int (i : Nat), x])) h'' s.heap.objs.size (.tup [.int (i : Nat), x]) :=
      ⟨by show 2 ≤ sizeLine; decide, [.int i tk, x'], .cons ⟨_, rfl⟩ (.cons ru .nil), ⟨_, hT2, rfl, _, rfl⟩⟩
    have I1 : Inv X pins σ (upd H s.heap.objs.size (.tup [.int (i : Nat), x])) { s with heap := h'', toks := tk + 1 } :=
      I.turnedNew (ch := [e, it]) (fun b ob hb q => (sb.2 b (fun z => hb (by simp [z]))).trans (hk b ob (fun z => hb (by simp [z])) (fun z => hb (by simp [z])) q)) hf (Nat.le_refl _) new
    refine ⟨.ref s.heap.objs.size, _, I1, rfl, ⟨_, x, rfl, I.hok.fresh (Nat.le_refl _), rfl, fun ys hy => by rw [I.tuple_inj hy hq]; exact hx⟩, ⟨⟨x', ?_⟩, hit'.1.at fun o q => (sb.2 it (Ne.symm hne)).trans q, hne⟩, fun b hb => ?_⟩
    · have e1 : ((i + 1 : Nat) : Int) = (i : Int) + 1 := by omega
      rw [e1]; exact he'
    · have hb' : b < s.heap.objs.size := by
        have e' : b = e ∨ b = it := by simpa using hb
        rcases e' with z | z
        · rw [z]; exact hel
        · rw [z]; exact hil
      rw [upd_ne (Nat.ne_of_lt hb')]
      exact (hf b hb).1
  done := by
    intro X hP hw hK hc i pins s σ H E I hf st hg
    subst hP hw hK
    obtain ⟨⟨old, he⟩, hit, hne⟩ := st
    obtain ⟨xs, hq, hx⟩ := hg
    obtain ⟨its, rv, p, hz⟩ := I.tuple hq
    have pt : s.heap.IsTuple a its.toArray := by obtain ⟨o, e, c, n, d⟩ := p; exact ⟨o, e, c, n, d⟩
    obtain ⟨f0, f1, f2, f3, f4, f5⟩ := hf it (by simp)
    have hl := rv.length
    have hai : a ≠ it := fun z => by
      obtain ⟨o, ho, hc, _⟩ := hit
      obtain ⟨o', ho', hc', _⟩ := pt
      rw [z, ho] at ho'; cases ho'
      rw [hc] at hc'; exact absurd hc' (by decide)
    exact next_enum_endT (I.ok.hd hc) he hit pt (by simp; omega) fun h' eb => ⟨rfl, I.turned (t' := s.toks) (fun b o hb q => eb b o hb q) f0 f1 f3 f4 f5⟩
  self := fun A i s Q E st h => let ⟨⟨_, he⟩, _⟩ := st; wpAny_pyIter_enum he h
def iEnumT (K : PySem.W.Frag) (ta : TA) : TI := fun σ H R => ta σ H fun vs H1 => ∃ a xs, vs = [.ref a] ∧ ((SqL K H1 a xs ∧ R (Ite K a) H1) ∨ (SqT K H1 a xs ∧ R (IteT K a) H1))
theorem pi_enumT {X : Cx} {e : Expr} {ta : TA} {p pos tpos : Pos} {elts : List Expr} {kk : Nat} (hg : Gl X "enumerate") (hm : X.mg "enumerate" = none) (ha : PA X [e] ta) (hs : starEach [e] X.env = [(false, eval e X.env)] := by rfl) :
    PI X (.Tuple elts kk tpos) (.Call (.Name "enumerate" p) [e] [] pos) (iEnumT X.K ta) := by
  refine ⟨fun pins s σ H R I h => ?_⟩
  refine Call_ (ld_blt I hg hm boot_enumerate (PyProof.Rows.callWith_type1 (thn (ha.run pos pins s σ H _ I h) fun us s1 ⟨vs, H1, I1, r1, q1⟩ => ?_) hs rfl))
  obtain ⟨a, xs, ex, q⟩ := q1
  subst ex
  cases r1 with
  | cons r rr =>
    cases rr
    cases r
    have fr : ∀ b, b = s1.heap.objs.size + 1 ∨ b = s1.heap.objs.size → s1.heap.objs.size ≤ b := fun b e' => by
      rcases e' with z | z
      · rw [z]; exact Nat.le_add_right _ _
      · rw [z]; exact Nat.le_refl _
    rcases q with ⟨hq, q⟩ | ⟨hq, q⟩
    · obtain ⟨its, rv, p', hz⟩ := I1.list hq
      refine call_enumerate_list p'.isList fun h' he hit hsz hk => wpAny_pyIter_enum he ?_
      have I2 : Inv X pins σ H1 { s1 with heap := h' } := I1.kept (t' := s1.toks) hk
      refine ⟨s1.heap.objs.size + 1, [s1.heap.objs.size + 1, s1.heap.objs.size], _, _, H1, rfl, I2, turn_enum a (s1.heap.objs.size + 1) s1.heap.objs.size, ⟨⟨.none, he⟩, hit, Nat.succ_ne_self _⟩, fun b hb => ?_, q⟩
      exact I1.fpOk (fr b (by simpa using hb)) (I1.hok.fresh (fr b (by simpa using hb)))
    · obtain ⟨its, rv, p', hz⟩ := I1.tuple hq
      have pt : s1.heap.IsTuple a its.toArray := by obtain ⟨o, e, c, n, d⟩ := p'; exact ⟨o, e, c, n, d⟩
      refine call_enum_tuple pt fun h' he hit hsz hk => wpAny_pyIter_enum he ?_
      have I2 : Inv X pins σ H1 { s1 with heap := h' } := I1.kept (t' := s1.toks) hk
      refine ⟨s1.heap.objs.size + 1, [s1.heap.objs.size + 1, s1.heap.objs.size], _, _, H1, rfl, I2, turn_enumT a (s1.heap.objs.size + 1) s1.heap.objs.size, ⟨⟨.none, he⟩, hit, Nat.succ_ne_self _⟩, fun b hb => ?_, q⟩
      exact I1.fpOk (fr b (by simpa using hb)) (I1.hok.fresh (fr b (by simpa using hb)))
end L2

/-! Ma12: targets, what a loop walks. -/
namespace MP
open PySem PySem.Spec PyProof.Rows L2

mutual
def T.slots : T → List Nat
  | .nm i => [i]
  | .tp ts => ts.slots
def Ts.slots : Ts → List Nat
  | .nil => []
  | .cons t ts => t.slots ++ ts.slots
end
def Ts.len : Ts → Nat
  | .nil => 0
  | .cons _ ts => ts.len + 1
theorem tgts_len {h : MH} : ∀ {ts : Ts} {ds : List D} {σ σ2 : Sg}, tgts h ts ds σ = some σ2 → ds.length = ts.len
  | .nil, [], _, _, _ => rfl
  | .nil, _ :: _, _, _, e => by rw [tgts] at e <;> first | cases e | (intros; simp_all)
  | .cons t ts, [], _, _, e => by rw [tgts] at e <;> first | cases e | (intros; simp_all)
  | .cons t ts, d :: ds, σ, σ2, e => by
    rw [tgts] at e
    obtain ⟨σ1, e1, e2⟩ := Option.bind_eq_some_iff.mp e
    rw [Ts.len, List.length_cons, tgts_len e2]

theorem wipe_set {σ : L2.St} {i : Nat} {x : Option V} : ∀ {vs : List Nat}, i ∈ vs → L2.wipe (σ.set i x) vs = L2.wipe σ vs
  | [], h => by simp at h
  | v :: vs, h => by
    unfold L2.wipe
    by_cases hv : i ∈ vs
    · rw [wipe_set hv]
    · have e : i = v := by
        rcases List.mem_cons.mp h with e | e
        · exact e
        · exact absurd e hv
      subst e
      have : ∀ vs : List Nat, i ∉ vs → L2.wipe (σ.set i x) vs = (L2.wipe σ vs).set i x := by
        intro vs
        induction vs with
        | nil => intro _; rfl
        | cons w ws ih =>
          intro hw
          rw [List.mem_cons, not_or] at hw
          unfold L2.wipe
          rw [ih hw.2, List.set_comm _ _ hw.1]
      rw [this vs hv, List.set_set]

def lG (K : PySem.W.Frag) (B : MH × Hp) (t : T) : TG := fun v σ H Q => ∃ σm h d σ2, Rl K B σm σ h H ∧ RV K H d v ∧ tgt h t d σm = some σ2 ∧
  ∀ σ', RE K H σ2 σ' → (∀ vs : List Nat, (∀ j ∈ t.slots, j ∈ vs) → L2.wipe σ' vs = L2.wipe σ vs) → Q σ' H
def lGs (K : PySem.W.Frag) (B : MH × Hp) (ts : Ts) : TGs := fun xs σ H Q => ∃ σm h ds σ2, Rl K B σm σ h H ∧ RVs K H ds xs ∧ tgts h ts ds σm = some σ2 ∧
  ∀ σ', RE K H σ2 σ' → (∀ vs : List Nat, (∀ j ∈ ts.slots, j ∈ vs) → L2.wipe σ' vs = L2.wipe σ vs) → Q σ' H
theorem asg1 {e : Expr} {es : List Expr} {env : Env} (h : noStar e = true) : assignEach (e :: es) env = (false, assign e env) :: assignEach es env := by
  cases e <;> first | rfl | (simp [noStar] at h)
theorem asgLen {env : Env} : ∀ {es : List Expr}, es.all noStar = true → (assignEach es env).length = es.length
  | [], _ => rfl
  | e :: es, h => by
    rw [List.all_cons, Bool.and_eq_true] at h
    rw [asg1 h.1, List.length_cons, List.length_cons, asgLen h.2]
theorem asgNo {env : Env} : ∀ {es : List Expr}, es.all noStar = true → (assignEach es env).findIdx? (·.1) = none
  | [], _ => rfl
  | e :: es, h => by
    rw [List.all_cons, Bool.and_eq_true] at h
    rw [asg1 h.1, List.findIdx?_cons]
    simp [asgNo h.2]
section
variable {X : Cx} {B : MH × Hp} {c : Cn} {pos p : Pos}
theorem g_nm {i : Nat} {x : Str} (hN : X.N.Nodup) (hi : X.N[i]? = some x) (hx : Loc X.env.scope x) (hf : X.fn x = true ∨ X.env.scope.names.lookup x = some .local) : PG X (.Name x pos) (lG X.K B (.nm i)) := by
  refine ⟨fun pins s σ H v u Q I r hh => (pg_name hN hi hx hf).run pins s σ H v u Q I r ?_⟩
  obtain ⟨σm, h, d, σ2, l, rv, e, k⟩ := hh
  rw [tgt] at e
  cases e
  exact k _ (l.re.set rv) fun vs hv => wipe_set (hv i (by simp [T.slots]))
theorem gs_nil : PGs X [] (lGs X.K B .nil) := by
  refine ⟨fun pins s σ H vs us Q I r hh => pgs_nil.run pins s σ H vs us Q I r ?_⟩
  obtain ⟨σm, h, ds, σ2, l, rv, e, k⟩ := hh
  have hl := tgts_len e
  cases ds with
  | nil =>
    rw [tgts] at e
    cases e
    exact ⟨rv.eq_nil, k σ l.re fun _ _ => rfl⟩
  | cons a b => simp [Ts.len] at hl
theorem gs_cons {e : Expr} {es : List Expr} {t : T} {ts : Ts} (h1 : PG X e (lG X.K B t)) (h2 : PGs X es (lGs X.K B ts)) (hs : noStar e = true) : PGs X (e :: es) (lGs X.K B (.cons t ts)) := by
  refine ⟨fun pins s σ H vs us Q I r hh => (pgs_cons h1 h2 (by rw [asg1 hs]; rfl)).run pins s σ H vs us Q I r ?_⟩
  obtain ⟨σm, h, ds, σ2, l, rv, e, k⟩ := hh
  have hl := tgts_len e
  cases ds with
  | nil => simp [Ts.len] at hl
  | cons d ds =>
    obtain ⟨x, xs, rfl, r1, r2⟩ := rv.eq_cons
    rw [tgts] at e
    obtain ⟨σ1, e1, e2⟩ := Option.bind_eq_some_iff.mp e
    refine ⟨x, xs, rfl, σm, h, d, σ1, l, r1, e1, fun σ' re w1 => ⟨σ1, h, ds, σ2, ⟨re, l.r, l.ex⟩, r2, e2, fun σ'' re2 w2 => k σ'' re2 fun vs hv => ?_⟩⟩
    rw [w2 vs (fun j hj => hv j (by rw [Ts.slots]; exact List.mem_append_right _ hj)), w1 vs fun j hj => hv j (by rw [Ts.slots]; exact List.mem_append_left _ hj)]
theorem g_tp {es : List Expr} {k : Nat} {ts : Ts} (hc : X.calm = true) (h : PGs X es (lGs X.K B ts)) (hs : es.all noStar = true) (hl : es.length = ts.len) : PG X (.Tuple es k pos) (lG X.K B (.tp ts)) := by
  refine ⟨fun pins s σ H v u Q I r hh => ?_⟩
  obtain ⟨σm, hm, d, σ2, l, rv, e, kk⟩ := hh
  cases d with
  | tup ds =>
    rw [tgt] at e
    obtain ⟨a, xs, rfl, ea, q, z⟩ := rv.eq_tup
    exact (pg_tup hc h (by rw [asgLen hs, hl]) (asgNo hs)).run pins s σ H _ u Q I r ⟨a, xs, rfl, SqT.of ea, by rw [q.length, tgts_len e], σm, hm, ds, σ2, l, q, e, fun σ' re w => kk σ' re w⟩
  | ref a =>
    rw [tgt] at e
    cases rv.eq_ref
    split at e
    · rename_i ds ea
      obtain ⟨z, xs, eH, q⟩ := lst_at l.r ea
      exact (pg_lst hc h (by rw [asgLen hs, hl]) (asgNo hs)).run pins s σ H _ u Q I r ⟨a, xs, rfl, SqL.of eH, by rw [q.length, tgts_len e], σm, hm, ds, σ2, l, q, e, fun σ' re w => kk σ' re w⟩
    · cases e
  | _ => simp [tgt] at e

/-! ### what a loop walks -/
def Tr (K : PySem.W.Frag) (h : MH) (H : Hp) (J : It) (items : List D) (st : MH → Prop) : Prop := ∀ i h2 H2, Ext h H h2 H2 → R K h2 H2 → st h2 →
  (∀ d, items[i]? = some d → J.go i H2 ∧ ∀ x H3, J.yld i H2 x H3 → R K h2 H3 ∧ Ext h2 H2 h2 H3 ∧ RV K H3 d x) ∧ (items[i]? = none → J.stop i H2)
def lI (K : PySem.W.Frag) (B : MH × Hp) (m : WI) : TI := fun σ H Rr => ∃ σm h P, Rl K B σm σ h H ∧ m σm h P ∧ ∀ items st h' H' J, P items st h' → R K h' H' → Ext h H h' H' → Tr K h' H' J items st → Rr J H'
theorem seq_T {K : PySem.W.Frag} {h : MH} {H : Hp} {v : V} {ds : List D} {k : Bool} {st : MH → Prop} (sq : Sq K h H v ds k st) : ∃ a, v = .ref a ∧ Tr K h H (if k = true then Itl K a else Itt K a) ds st := by
  obtain ⟨a, e, f⟩ := sq.at'
  refine ⟨a, e, fun i h2 H2 e2 r2 s2 => ?_⟩
  obtain ⟨z, xs, cc, rv⟩ := f h2 H2 e2 r2 s2
  cases k with
  | true =>
    rw [if_pos rfl] at cc ⊢
    refine ⟨fun d ed => ?_, fun ed => ⟨xs, cc, ?_⟩⟩
    · obtain ⟨x, ex, rx⟩ := rv.getD ed
      refine ⟨⟨xs, x, cc, ex⟩, fun y H3 q => ?_⟩
      obtain ⟨rfl, q⟩ := q
      have := q xs cc
      rw [ex] at this
      cases this
      exact ⟨r2, .refl _ _, rx⟩
    · rw [rv.length]; exact List.getElem?_eq_none_iff.mp ed
  | false =>
    rw [if_neg Bool.false_ne_true] at cc ⊢
    have cc := SqT.of (K := K) cc
    refine ⟨fun d ed => ?_, fun ed => ⟨xs, cc, ?_⟩⟩
    · obtain ⟨x, ex, rx⟩ := rv.getD ed
      refine ⟨⟨xs, x, cc, ex⟩, fun y H3 q => ?_⟩
      obtain ⟨rfl, q⟩ := q
      have := q xs cc
      rw [ex] at this
      cases this
      exact ⟨r2, .refl _ _, rx⟩
    · rw [rv.length]; exact List.getElem?_eq_none_iff.mp ed
theorem i_sq {tg e : Expr} {m : L} (he : PE X e (lL X.K B (wL m c))) : PI X tg e (lI X.K B (wI (.sq m) c)) := by
  refine ⟨fun pins s σ H Rr I ⟨σm, h, P, l, w, k⟩ => ?_⟩
  rw [wI] at w
  refine thn (he.run pins s σ H (fun v H1 => ∃ ds k' st h1, P ds st h1 ∧ R X.K h1 H1 ∧ Ext h H h1 H1 ∧ Sq X.K h1 H1 v ds k' st) I ⟨σm, h, _, l, w, fun ds k' st h1 H1 v q r1 e1 sq => ⟨ds, k', st, h1, q, r1, e1, sq⟩⟩) fun v s1 q1 => ?_
  obtain ⟨x, H1, I1, rx, ds, k', st, h1, q, r1, e1, sq⟩ := q1
  obtain ⟨a, rfl, tr⟩ := seq_T sq
  have q2 := k ds st h1 H1 _ q r1 e1 tr
  obtain ⟨z, a', xs, ea, cc, rv⟩ := sq.get r1
  cases ea
  cases rx
  cases k' with
  | true =>
    rw [if_pos rfl] at q2 cc
    obtain ⟨its, rv, p, hz⟩ := I1.list cc
    refine wpAny_pyIter_list p.isList ?_
    refine ⟨s1.heap.objs.size, [s1.heap.objs.size], _, _, H1, rfl, I1.kept (t' := s1.toks) fun b o e => Heap.get?_push_of_some _ e, turn_list a _, ⟨_, Heap.get?_push_size _ rfl, rfl, rfl⟩, fun b hb => ?_, q2⟩
    have e : b = s1.heap.objs.size := by simpa using hb
    subst e
    exact I1.fpOk (Nat.le_refl _) (I1.hok.fresh (Nat.le_refl _))
  | false =>
    rw [if_neg Bool.false_ne_true] at q2 cc
    obtain ⟨its, rv, p, hz⟩ := I1.tuple (SqT.of cc)
    refine wpAny_pyIter_tuple (show s1.heap.IsTuple a its.toArray from p) ?_
    refine ⟨s1.heap.objs.size, [s1.heap.objs.size], _, _, H1, rfl, I1.kept (t' := s1.toks) fun b o e => Heap.get?_push_of_some _ e, turn_tuple a _, ⟨_, Heap.get?_push_size _ rfl, rfl, rfl⟩, fun b hb => ?_, q2⟩
    have e : b = s1.heap.objs.size := by simpa using hb
    subst e
    exact I1.fpOk (Nat.le_refl _) (I1.hok.fresh (Nat.le_refl _))
theorem rng_T {K : PySem.W.Frag} {h : MH} {H : Hp} (lo : Int) (n : Nat) : Tr K h H (Itr lo n) (rngL lo n) (fun _ => True) := fun i h2 H2 e2 r2 _ => by
  unfold rngL
  rw [List.getElem?_map]
  by_cases hi : i < n
  · rw [List.getElem?_range hi]
    refine ⟨fun d ed => ⟨hi, fun x H3 q => ?_⟩, fun e => by simp at e⟩
    obtain ⟨rfl, rfl⟩ := q
    simp only [Option.map_some, Option.some.injEq] at ed
    subst ed
    exact ⟨r2, .refl _ _, .int⟩
  · rw [List.getElem?_eq_none (by rw [List.length_range]; omega)]
    exact ⟨fun d ed => by simp at ed, fun _ => Nat.le_of_not_lt hi⟩
theorem rngS_T {K : PySem.W.Frag} {h : MH} {H : Hp} (lo k : Int) (n : Nat) : Tr K h H (Itc lo k n) (rngS lo k n) (fun _ => True) := fun i h2 H2 e2 r2 _ => by
  unfold rngS
  rw [List.getElem?_map]
  by_cases hi : i < n
  · rw [List.getElem?_range hi]
    refine ⟨fun d ed => ⟨hi, fun x H3 q => ?_⟩, fun e => by simp at e⟩
    obtain ⟨rfl, rfl⟩ := q
    simp only [Option.map_some, Option.some.injEq] at ed
    subst ed
    exact ⟨r2, .refl _ _, .int⟩
  · rw [List.getElem?_eq_none (by rw [List.length_range]; omega)]
    exact ⟨fun d ed => by simp at ed, fun _ => Nat.le_of_not_lt hi⟩
theorem i_rng1 {tg a : Expr} {m : E} (hg : Gl X "range") (hm : X.mg "range" = none) (ha : PE X a (lE X.K B (wE m c))) (hs : noStar a = true) :
    PI X tg (.Call (.Name "range" p) [a] [] pos) (lI X.K B (wI (.rng (.cons m .nil)) c)) := by
  refine ⟨fun pins s σ H Rr I ⟨σm, h, P, l, w, k⟩ => (pi_range1 hg hm (pa_one ha hs) (by rw [star1 hs]; rfl)).run pins s σ H Rr I ?_⟩
  rw [wI, wEs] at w
  refine ⟨σm, h, _, l, w, fun d h1 H1 v q r1 e1 rv => ?_⟩
  rw [wEs] at q
  cases d <;> first | exact (show False from q).elim | skip
  cases rv.eq_int
  obtain ⟨⟨b1, b2⟩, q⟩ := q
  exact ⟨_, rfl, b1, b2, k _ _ _ _ _ q r1 e1 (rng_T _ _)⟩
theorem i_rng2 {tg a b : Expr} {m m2 : E} (hg : Gl X "range") (hm : X.mg "range" = none) (ha : PE X a (lE X.K B (wE m c))) (hb : PE X b (lE X.K B (wE m2 c))) (hs : noStar a = true) (hs2 : noStar b = true) :
    PI X tg (.Call (.Name "range" p) [a, b] [] pos) (lI X.K B (wI (.rng (.cons m (.cons m2 .nil))) c)) := by
  refine ⟨fun pins s σ H Rr I ⟨σm, h, P, l, w, k⟩ => (pi_range2 hg hm (pa_cons ha (pa_one hb hs2) (star1 hs)) (by rw [star1 hs, star1 hs2]; rfl) (by rw [star1 hs2]; rfl)).run pins s σ H Rr I ?_⟩
  rw [wI, wEs] at w
  refine ⟨σm, h, _, l, w, fun d h1 H1 v q r1 e1 rv => ?_⟩
  rw [wEs] at q
  refine ⟨σm, h1, _, l.step r1 e1, q, fun d2 h2 H2 v2 q r2 e2 rv2 => ?_⟩
  rw [wEs] at q
  cases d <;> first | exact (show False from q).elim | skip
  cases d2 <;> first | exact (show False from q).elim | skip
  cases rv.eq_int; cases rv2.eq_int
  obtain ⟨⟨b1, b2⟩, ⟨b3, b4⟩, q⟩ := q
  exact ⟨_, _, rfl, ⟨b1, b2, b3, b4⟩, k _ _ _ _ _ q r2 (e1.trans e2) (rng_T _ _)⟩
theorem i_rng3 {tg a b d : Expr} {m m2 m3 : E} (hg : Gl X "range") (hm : X.mg "range" = none) (ha : PE X a (lE X.K B (wE m c))) (hb : PE X b (lE X.K B (wE m2 c))) (hd : PE X d (lE X.K B (wE m3 c))) (hs : noStar a = true) (hs2 : noStar b = true) (hs3 : noStar d = true) :
    PI X tg (.Call (.Name "range" p) [a, b, d] [] pos) (lI X.K B (wI (.rng (.cons m (.cons m2 (.cons m3 .nil)))) c)) := by
  refine ⟨fun pins s σ H Rr I ⟨σm, h, P, l, w, k⟩ => (pi_range3 hg hm (pa_cons ha (pa_cons hb (pa_one hd hs3) (star1 hs2)) (star1 hs)) (star1 hs) (starAny (by simp [hs2, hs3]))).run pins s σ H Rr I ?_⟩
  rw [wI, wEs] at w
  refine ⟨σm, h, _, l, w, fun d h1 H1 v q r1 e1 rv => ?_⟩
  rw [wEs] at q
  refine ⟨σm, h1, _, l.step r1 e1, q, fun d2 h2 H2 v2 q r2 e2 rv2 => ?_⟩
  rw [wEs] at q
  refine ⟨σm, h2, _, (l.step r1 e1).step r2 e2, q, fun d3 h3 H3 v3 q r3 e3 rv3 => ?_⟩
  rw [wEs] at q
  cases d <;> first | exact (show False from q).elim | skip
  cases d2 <;> first | exact (show False from q).elim | skip
  cases d3 <;> first | exact (show False from q).elim | skip
  cases rv.eq_int; cases rv2.eq_int; cases rv3.eq_int
  obtain ⟨⟨b1, b2⟩, ⟨b3, b4⟩, c0, c1, c2, q⟩ := q
  exact ⟨_, _, _, _, rfl, ⟨c0, c1, c2.1, c2.2⟩, k _ _ _ _ _ q r3 ((e1.trans e2).trans e3) (rngS_T _ _ _)⟩
theorem i_enm {es : List Expr} {kk : Nat} {tpos : Pos} {e : Expr} {m : L} (hg : Gl X "enumerate") (hm : X.mg "enumerate" = none) (he : PE X e (lL X.K B (wL m c))) (hs : noStar e = true) :
    PI X (.Tuple es kk tpos) (.Call (.Name "enumerate" p) [e] [] pos) (lI X.K B (wI (.enm m) c)) := by
  refine ⟨fun pins s σ H Rr I ⟨σm, h, P, l, w, k⟩ => (pi_enumT hg hm (pa_one he hs) (by rw [star1 hs]; rfl)).run pins s σ H Rr I ?_⟩
  rw [wI] at w
  refine ⟨σm, h, _, l, w, fun ds k' st h1 H1 v q r1 e1 sq => ?_⟩
  obtain ⟨a, rfl, f⟩ := sq.at'
  obtain ⟨_, a', xs, ea, cc, _⟩ := sq.get r1
  cases ea
  have el : ∀ i : Nat, (enmL ds)[i]? = (ds[i]?).map fun d => D.tup [.int i, d] := fun i => by
    unfold enmL
    rw [List.getElem?_map, List.getElem?_zipIdx]
    cases ds[i]? <;> simp
  cases k' with
  | true =>
    refine ⟨a, xs, rfl, .inl ⟨by simpa using cc, k (enmL ds) st h1 H1 _ q r1 e1 fun i h2 H2 e2 r2 s2 => ?_⟩⟩
    obtain ⟨z, ys, c2, rv2⟩ := f h2 H2 e2 r2 s2
    have c2 : SqL X.K H2 a ys := by simpa using c2
    rw [el]
    refine ⟨fun d ed => ?_, fun ed => ⟨ys, c2, ?_⟩⟩
    · obtain ⟨d0, e0, rfl⟩ := Option.map_eq_some_iff.mp ed
      obtain ⟨x, ex, rx⟩ := rv2.getD e0
      refine ⟨⟨ys, x, c2, ex⟩, fun y H3 q => ?_⟩
      obtain ⟨T, x', rfl, n, rfl, q⟩ := q
      have := q ys c2
      rw [ex] at this
      cases this
      exact new_tup r2 n (.cons .int (.cons rx .nil)) (by rw [sizeLine_eq]; simp)
    · rw [rv2.length]
      simp at ed
      exact ed
  | false =>
    have cc : H1 a = some (.tup xs) := by simpa using cc
    refine ⟨a, xs, rfl, .inr ⟨SqT.of cc, k (enmL ds) st h1 H1 _ q r1 e1 fun i h2 H2 e2 r2 s2 => ?_⟩⟩
    obtain ⟨z, ys, c2, rv2⟩ := f h2 H2 e2 r2 s2
    have c2 : SqT X.K H2 a ys := SqT.of (by simpa using c2)
    rw [el]
    refine ⟨fun d ed => ?_, fun ed => ⟨ys, c2, ?_⟩⟩
    · obtain ⟨d0, e0, rfl⟩ := Option.map_eq_some_iff.mp ed
      obtain ⟨x, ex, rx⟩ := rv2.getD e0
      refine ⟨⟨ys, x, c2, ex⟩, fun y H3 q => ?_⟩
      obtain ⟨T, x', rfl, n, rfl, q⟩ := q
      have := q ys c2
      rw [ex] at this
      cases this
      exact new_tup r2 n (.cons .int (.cons rx .nil)) (by rw [sizeLine_eq]; simp)
    · rw [rv2.length]
      simp at ed
      exact ed
theorem i_zip {es : List Expr} {kk : Nat} {tpos : Pos} {a b : Expr} {m m2 : L} (hg : Gl X "zip") (hm : X.mg "zip" = none) (ha : PE X a (lL X.K B (wL m c))) (hb : PE X b (lL X.K B (wL m2 c))) (hs : noStar a = true) (hs2 : noStar b = true) :
    PI X (.Tuple es kk tpos) (.Call (.Name "zip" p) [a, b] [] pos) (lI X.K B (wI (.zip m m2) c)) := by
  refine ⟨fun pins s σ H Rr I ⟨σm, h, P, l, w, k⟩ => (pi_zip hg hm (pa_cons ha (pa_one hb hs2) (star1 hs)) (star1 hs) (starAny (by simp [hs2]))).run pins s σ H Rr I ?_⟩
  rw [wI] at w
  refine ⟨σm, h, _, l, w, fun ds k' st h1 H1 v q r1 e1 sq => ⟨σm, h1, _, l.step r1 e1, q, fun ds2 k2 st2 h2 H2 v2 q2 r2 e2 sq2 => ?_⟩⟩
  obtain ⟨rfl, rfl, q0, q⟩ := q2
  obtain ⟨a, rfl, f⟩ := sq.at'
  obtain ⟨b, rfl, f2⟩ := sq2.at'
  obtain ⟨_, xs, cc, _⟩ := f h2 H2 e2 r2 q0
  obtain ⟨_, b', ys, eb, cc2, _⟩ := sq2.get r2
  cases eb
  refine ⟨a, b, xs, ys, rfl, by simpa using cc, by simpa using cc2, k (zipL ds ds2) _ h2 H2 _ q r2 (e1.trans e2) fun i h3 H3 e3 r3 s3 => ?_⟩
  obtain ⟨_, xs3, c3, rv3⟩ := f h3 H3 (e2.trans e3) r3 s3.1
  obtain ⟨_, ys3, d3, rw3⟩ := f2 h3 H3 e3 r3 s3.2
  have c3 : SqL X.K H3 a xs3 := by simpa using c3
  have d3 : SqL X.K H3 b ys3 := by simpa using d3
  unfold zipL
  rw [List.getElem?_map]
  refine ⟨fun d ed => ?_, fun ed => ⟨xs3, ys3, c3, d3, ?_⟩⟩
  · obtain ⟨p, e0, rfl⟩ := Option.map_eq_some_iff.mp ed
    rw [List.getElem?_zip_eq_some] at e0
    obtain ⟨x, ex, rx⟩ := rv3.getD e0.1
    obtain ⟨y, ey, ry⟩ := rw3.getD e0.2
    refine ⟨⟨xs3, ys3, x, y, c3, d3, ex, ey⟩, fun u H4 q => ?_⟩
    obtain ⟨T, x', y', rfl, n, rfl, q, q'⟩ := q
    have h1 := q xs3 c3
    have h2 := q' ys3 d3
    rw [ex] at h1
    rw [ey] at h2
    cases h1; cases h2
    exact new_tup r3 n (.cons rx (.cons ry .nil)) (by rw [sizeLine_eq]; simp)
  · rw [rv3.length, rw3.length]
    simp at ed
    omega
end
end MP

/-! Ma13: comprehensions. dc_coreT follows HandS.DictComp's dc_core, for tuples as keys. -/
namespace L2
open PySem PySem.Spec PyProof.Rows
theorem d_dictSetT {X : Cx} {pins : List (Addr × Obj)} {σ : St} {H : Hp} {s : Shared} {E : Value → Shared → Prop} {D b : Addr} {kvs : List (List Key × V)} {k : List Key} {v : V} {u r : Value} {Q : Unit → Shared → Prop} (hu : X.A.units + 1 < cLine) (I : Inv X pins σ H s) (e : H D = some (.dT kvs)) (eb : H b = some (.tup (k.map kV))) (l : kvs.length < sizeLine)
    (ry : RelV (.ref b) u) (rv : RelV v r) (h : ∀ s', Inv X pins σ (upd H D (.dT (putK kvs k v))) s' → Q () s') : wpAny (model X.prog X.w) X.A (dictSet D u r) Q E s := by
  cases (show u = Value.ref b from ry)
  obtain ⟨z, hd, xs, rel, dd⟩ := dt_of I.hok e
  have hz : xs.length ≤ sizeLine := by rw [← Paired.length rel]; exact z
  have hl : (putK kvs k v).length ≤ sizeLine := by have := length_putK kvs k v; omega
  refine wpAny_dictSet_heap (hsz := hz) (show X.A.units < cLine from by omega) (key_of I.hok eb) dd fun h' dd' hs => h _ ?_
  obtain ⟨q, es, ep, hq, h2, h3, h4, _, h5⟩ := dd'
  refine d_write I (by rw [e]; exact True.intro) hs ⟨q, hq⟩ ⟨hl, hd, _, (rel.put k eb rv).keeps fun c ys ec => ?_, q, es, ep, hq, h2, h3, h4, h5⟩
  rw [upd_ne (ne_of ec e (fun z => nomatch z))]
  exact ec
section
variable {X : Cx}
def tDcT (wi : TI) (g : TG) (tt : TT) (tk tv : TE) (vs : List Nat) : TE := fun σ H Q => wi σ H fun J H1 => ∀ D, H1 D = none → ∃ W : Nat → Nat → Hp → Prop, (∃ m, W 0 m (upd H1 D (.dT []))) ∧ ∀ i m H, W i m H →
  (J.stop i H ∧ Q (.ref D) H) ∨ (J.go i H ∧ ∃ Nx : Hp → Prop, (∀ H', Nx H' → ∃ m', m' < m ∧ W (i + 1) m' H') ∧ ∀ x H', J.yld i H x H' → g x (wipe σ vs) H' fun σ2 H2 => wipe σ2 vs = wipe σ vs ∧ tt σ2 H2 fun b H3 =>
    if b = true then tk σ2 H3 fun y H4 => tv σ2 H4 fun z H5 => ∃ kvs k q, y = .ref q ∧ H5 q = some (.tup (k.map kV)) ∧ H5 D = some (.dT kvs) ∧ kvs.length < sizeLine ∧ Nx (upd H5 D (.dT (putK kvs k z))) else Nx H3)
theorem dc_coreT {pins : List (Addr × Obj)} {s : Shared} {σ : St} {H : Hp} {Q : VK} {kx vx tg iter : Expr} {ifs : List Expr} {scope : Scope} {own : List (Str × Nat)} {pos pos' : Pos} {wi : TI} {g : TG} {tt : TT} {tk tv : TE} {use : Option (Value → Sem Unit)} {Qf : Value → Shared → Prop}
    (hc : X.calm = true) (hu : X.A.units + 1 < cLine) (hN : X.N.Nodup) (I : Inv X pins σ H s) (hi : PI X tg iter wi) (ok : BlkOk X.N X.env.scope scope own)
    (hg : ∀ (s : Shared) (H : Hp) (C : Addr) (cl : List (Str × Addr)) (fp : List Addr), PG (X.blk s H scope (compEnvC scope cl C X.env) fp) tg g) (ht : ∀ (s : Shared) (H : Hp) (C : Addr) (cl : List (Str × Addr)) (fp : List Addr), PTs (X.blk s H scope (compEnvC scope cl C X.env) fp) ifs tt)
    (hk : ∀ (s : Shared) (H : Hp) (C : Addr) (cl : List (Str × Addr)) (fp : List Addr), PE (X.blk s H scope (compEnvC scope cl C X.env) fp) kx tk)
    (he : ∀ (s : Shared) (H : Hp) (C : Addr) (cl : List (Str × Addr)) (fp : List Addr), PE (X.blk s H scope (compEnvC scope cl C X.env) fp) vx tv) (hs : ∀ x, foldedSetIterable iter X.env x = pure x)
    (h : tDcT wi g tt tk tv (own.map (·.2)) σ H Q)
    (hRR : ∀ D C s' m H', Inv X pins σ H' s' → Q (.ref D) H' → s'.heap.Ns C m → FpOk X pins H' C → compPost (model X.prog X.w) X.A X.xe use Qf (.ref D) C (.ok .next) s') :
    wpAny (model X.prog X.w) X.A (comprehension (.DictComp kx vx [⟨tg, iter, ifs, 0⟩] scope pos) scope X.env pos' newDict false (eval iter X.env) use) Qf X.xe s := by
  have hfree : ∀ y ∈ scope.names, y.2 = .free → ∃ c, X.env.cells.lookup y.1 = some c := fun y hy e => by
    rcases ok.free y hy e with k | k
    · exact I.ok.has _ (.inl k)
    · exact I.ok.has _ (.inr k)
  refine wpAny_comprehension_free (use := use) rfl hs (closure_ok hfree) ok.kind (fun y hy e => by rw [ok.uniq y hy, e])
    (thn (hi.run pins s σ H _ I h) fun xv s1 hx => thn hx fun itv s2 h2 => ?_)
  obtain ⟨it, fp, tn, J, H2, e, I2, T, st2, f2, q⟩ := h2
  subst e
  refine wpAny_newObj_type (newEnv_comp ?_)
  generalize hD : s2.heap.objs.size = D
  have hDn : H2 D = none := I2.hok.fresh (Nat.le_of_eq hD)
  obtain ⟨W, ⟨m0, w0⟩, turn⟩ := q D hDn
  -- the new list
  generalize hs3 : ({ s2 with heap := s2.heap.push { cls := .type "dict", data := .dict #[] } } : Shared) = s3
  have I3 : Inv X pins σ (upd H2 D (.dT [])) s3 := by
    rw [← hs3]
    refine I2.laid (t' := s2.toks) (fun b o e => Heap.get?_push_of_some _ e) (Nat.le_of_eq hD) ?_
    rw [← hD]
    exact dt_empty s2.heap I2.big
  have h3 : s3.heap = s2.heap.push { cls := .type "dict", data := .dict #[] } := by rw [← hs3]
  have sz : ∀ b ∈ fp, b < s2.heap.objs.size := fun b hb => by
    obtain ⟨o, e, _⟩ := T.obj _ _ st2 b hb
    exact Heap.lt_size e
  have f3 : ∀ b ∈ fp, FpOk X pins (upd H2 D (.dT [])) b ∧ b < s3.heap.objs.size := fun b hb => by
    have hlt := sz b hb
    refine ⟨⟨?_, (f2 b hb).2⟩, by rw [h3, Heap.size_push]; exact Nat.lt_succ_of_lt hlt⟩
    rw [upd_ne (by rw [← hD]; exact Nat.ne_of_lt hlt)]
    exact (f2 b hb).1
  have st3 : tn 0 s3.heap := T.keep _ _ _ st2 fun b _ o e => by rw [h3]; exact Heap.get?_push_of_some _ e
  have I4 := block_start I3 ok hN f3
  have pg := hg s3 (upd H2 D (.dT [])) s3.heap.objs.size (cellsFrom (s3.heap.objs.size + 1) scope.names (cloFrom X.env.cells scope.names [])) fp
  have pt := ht s3 (upd H2 D (.dT [])) s3.heap.objs.size (cellsFrom (s3.heap.objs.size + 1) scope.names (cloFrom X.env.cells scope.names [])) fp
  have pk := hk s3 (upd H2 D (.dT [])) s3.heap.objs.size (cellsFrom (s3.heap.objs.size + 1) scope.names (cloFrom X.env.cells scope.names [])) fp
  have pe := he s3 (upd H2 D (.dT [])) s3.heap.objs.size (cellsFrom (s3.heap.objs.size + 1) scope.names (cloFrom X.env.cells scope.names [])) fp
  show codeAny _ _ (.compStart (.DictComp kx vx [⟨tg, iter, ifs, 0⟩] scope pos) 0 (.ref it) (.ref D) (compEnvC scope (cellsFrom (s3.heap.objs.size + 1) scope.names (cloFrom X.env.cells scope.names [])) s3.heap.objs.size X.env)) (compPost (model X.prog X.w) X.A X.xe use Qf (.ref D) s3.heap.objs.size) { s3 with heap := pushCells (s3.heap.push { cls := .type "dict", data := .dict #[] }) scope.names }
  have nfp : ∀ b ∈ fp, (upd H2 D (.dT [])) b = none := fun b hb => (f3 b hb).1.1
  generalize hce : compEnvC scope (cellsFrom (s3.heap.objs.size + 1) scope.names (cloFrom X.env.cells scope.names [])) s3.heap.objs.size X.env = ce at I4 pg pt pk pe ⊢
  have cL : ce.locals = s3.heap.objs.size := by subst hce; rfl
  generalize hH3 : upd H2 D (.dT []) = H3 at I3 I4 pg pt pk pe w0 nfp f3
  generalize hs4 : ({ s3 with heap := pushCells (s3.heap.push { cls := .type "dict", data := .dict #[] }) scope.names } : Shared) = s4 at I4 ⊢
  have st4 : tn 0 s4.heap := T.keep _ _ _ st3 fun b _ o e => by rw [← hs4]; exact pushCells_keeps _ _ _ _ (Heap.get?_push_of_some _ e)
  have stat : ∀ {σ' : St} {H' : Hp} {s' : Shared}, Inv (X.blk s3 H3 scope ce fp) [] σ' H' s' → (∀ b ∈ fp, H' b = none) → ∀ b ∈ fp, FpOk (X.blk s3 H3 scope ce fp) [] H' b := fun {σ' H' s'} I' hn b hb =>
    ⟨hn b hb, (I'.ok.exf b hb).1, I'.ok.exfs b hb, .inl hb, fun x c e => (I'.ok.exf b hb).2 x c e, fun p hp => absurd (show p ∈ ([] : List (Addr × Obj)) ++ [] from hp) (by simp)⟩
  have loop : codeAny (model X.prog X.w) X.A (.compLoop (.DictComp kx vx [⟨tg, iter, ifs, 0⟩] scope pos) 0 (.ref it) (.ref D) ce) (compPost (model X.prog X.w) X.A X.xe use Qf (.ref D) s3.heap.objs.size) s4 := by
    refine compLoop_anyD (fun n s' => ∃ i H', Inv (X.blk s3 H3 scope ce fp) [] (wipe σ (own.map (·.2))) H' s' ∧ tn i s'.heap ∧ (∀ b ∈ fp, H' b = none) ∧ W i n H') ?_ m0 ⟨0, H3, I4, st4, nfp, w0⟩
    rintro n s5 ⟨i, H5, I5, st5, n5, w5⟩
    rcases turn i n H5 w5 with ⟨stop, qq⟩ | ⟨go, Nx, hNx, step⟩
    · have td := T.done (X.blk s3 H3 scope ce fp) rfl rfl rfl hc i [] s5 _ H5 (fun _ _ => False) I5 (stat I5 n5) st5 stop
      refine thnF td fun r s6 ⟨hr, I6⟩ => ?_
      subst hr
      -- back in the def's context
      have I7 : Inv X pins σ H5 s6 := I3.call' (ch := fp) I6.os I6.base I6.hok I6.bare fun b hb => ⟨(f3 b hb).1.2.2.2.1, (f3 b hb).1.2.1, (f3 b hb).1.2.2.2.2.1, (f3 b hb).1.2.2.2.2.2⟩
      have nC : H5 s3.heap.objs.size = none := by
        have z : H5 ce.locals = none := I6.free
        rw [cL] at z
        exact z
      obtain ⟨m, hn, _⟩ := I6.loc
      have hn : s6.heap.Ns ce.locals m := hn
      rw [cL] at hn
      exact hRR D s3.heap.objs.size s6 m H5 I7 qq hn (I3.fpOk (Nat.le_refl _) nC)
    · have ti := T.item (X.blk s3 H3 scope ce fp) rfl rfl rfl hc i [] s5 _ H5 (fun _ _ => False) I5 (stat I5 n5) st5 go
      refine thnF ti fun r s6 ⟨u, hr, h6⟩ => ?_
      subst hr
      refine thnF h6 fun _ s7 ⟨x, H7, I7, r7, y7, st7, n7⟩ => ?_
      have I7' := I7.pinned (stat I7 n7) (T.obj _ _ st7)
      refine thnF (pg.run _ s7 _ H7 x u _ I7' r7 (step x H7 y7)) fun _ s8 ⟨σ8, H8, I8, hw8, q8⟩ => ?_
      refine thnF (pt.run _ s8 σ8 H8 _ I8 q8) fun b s9 ⟨H9, I9, q9⟩ => ?_
      -- the turn's end
      have fin : ∀ {s' : Shared} {H' : Hp}, Inv (X.blk s3 H3 scope ce fp) ([] ++ pinsAt fp s7.heap) σ8 H' s' → Nx H' → ∃ m, m < n ∧ ∃ i H', Inv (X.blk s3 H3 scope ce fp) [] (wipe σ (own.map (·.2))) H' s' ∧ tn i s'.heap ∧ (∀ b ∈ fp, H' b = none) ∧ W i m H' := fun {s' H'} I' nx => by
        obtain ⟨m', hm, w'⟩ := hNx H' nx
        have pin' : ∀ b ∈ fp, ∀ o, s7.heap.get? b = some o → s'.heap.get? b = some o ∧ H' b = none := fun b hb o e =>
          let z := I'.pin (b, o) (List.mem_append_right _ (List.mem_append_right _ (mem_pinsAt hb e)))
          ⟨z.1, z.2.1⟩
        have hl : (wipe σ (own.map (·.2))).length = σ8.length := by rw [← hw8, wipe_length]
        refine ⟨m', hm, i + 1, H', (I'.unpinned (pins := [])).weak hl (fun j v e => ?_), T.keep _ _ _ st7 fun b hb o e => (pin' b hb o e).1, fun b hb => ?_, w'⟩
        · rw [← hw8] at e
          exact (wipe_some e).1
        · obtain ⟨o, e, _⟩ := T.obj _ _ st7 b hb
          exact (pin' b hb o e).2
      cases b with
      | false =>
        simp only [Bool.false_eq_true, if_false] at q9 ⊢
        exact fin I9 q9
      | true =>
        simp only [if_true] at q9 ⊢
        refine thnF (pk.run _ s9 σ8 H9 _ I9 q9) fun z s10 ⟨yk, H10, I10, r10, q10⟩ => ?_
        refine thnF (pe.run _ s10 σ8 H10 _ I10 q10) fun z2 s11 ⟨yv, H11, I11, r11, kvs, k, bq, ek, eb11, hD11, hz11, nx⟩ => ?_
        subst ek
        exact d_dictSetT (X := X.blk s3 H3 scope ce fp) hu I11 hD11 eb11 hz11 r10 r11 fun s12 I12 => fin I12 nx
  exact codeAny_compStart_dict loop (T.self X.A 0 _ _ _ st4 loop)
theorem pe_dcT {kx vx tg iter : Expr} {ifs : List Expr} {scope : Scope} {own : List (Str × Nat)} {pos : Pos} {wi : TI} {g : TG} {tt : TT} {tk tv : TE} (hc : X.calm = true) (hu : X.A.units + 1 < cLine) (hN : X.N.Nodup) (hi : PI X tg iter wi) (ok : BlkOk X.N X.env.scope scope own)
    (hg : ∀ (s : Shared) (H : Hp) (C : Addr) (cl : List (Str × Addr)) (fp : List Addr), PG (X.blk s H scope (compEnvC scope cl C X.env) fp) tg g) (ht : ∀ (s : Shared) (H : Hp) (C : Addr) (cl : List (Str × Addr)) (fp : List Addr), PTs (X.blk s H scope (compEnvC scope cl C X.env) fp) ifs tt)
    (hk : ∀ (s : Shared) (H : Hp) (C : Addr) (cl : List (Str × Addr)) (fp : List Addr), PE (X.blk s H scope (compEnvC scope cl C X.env) fp) kx tk)
    (he : ∀ (s : Shared) (H : Hp) (C : Addr) (cl : List (Str × Addr)) (fp : List Addr), PE (X.blk s H scope (compEnvC scope cl C X.env) fp) vx tv) (hs : ∀ x, foldedSetIterable iter X.env x = pure x) :
    PE X (.DictComp kx vx [⟨tg, iter, ifs, 0⟩] scope pos) (tDcT wi g tt tk tv (own.map (·.2))) := by
  refine ⟨fun pins s σ H Q I h => ?_⟩
  rw [arm_eval_DictComp]
  refine dc_coreT hc hu hN I hi ok hg ht hk he hs h fun D C s' m H' I' q hn f => ⟨m, hn, fun h'' sb => ?_⟩
  obtain ⟨f0, f1, f2, f3, f4, f5⟩ := f
  exact ⟨.ref D, H', I'.turned (t' := s'.toks) (fun b o hb e => (sb.2 b hb).trans e) f0 f1 f3 f4 f5, rfl, q⟩
end
end L2
namespace MP
open PySem PySem.Spec PyProof.Rows L2
theorem wipe_get {σ : L2.St} {i : Nat} : ∀ {vs : List Nat}, (L2.wipe σ vs)[i]? = if i ∈ vs ∧ i < σ.length then some none else σ[i]?
  | [] => by simp [L2.wipe]
  | v :: vs => by
    unfold L2.wipe
    by_cases hv : v = i
    · subst hv
      by_cases hl : v < σ.length
      · rw [List.getElem?_set_self (by rw [wipe_length]; exact hl)]
        simp [hl]
      · rw [List.getElem?_eq_none (by rw [List.length_set, wipe_length]; omega)]
        simp [hl]
    · rw [List.getElem?_set_ne hv, wipe_get]
      have : (i ∈ v :: vs) ↔ i ∈ vs := by simp [Ne.symm hv]
      simp only [this]
theorem wipe_twice {σ : L2.St} {vs : List Nat} : L2.wipe (L2.wipe σ vs) vs = L2.wipe σ vs := by
  apply List.ext_getElem?
  intro i
  rw [wipe_get, wipe_get, wipe_length]
  split <;> simp_all
/-- an object that may change: neither a tuple nor frozen -/
def Loose (o : HO) : Prop := (∃ xs, o = .lst xs) ∨ (∃ kk, o = .dT kk) ∨ ∃ kk, o = .dK kk
theorem Loose.kp {H : Hp} {p : Addr} {o u : HO} (e : H p = some o) (l : Loose o) : Kp H (upd H p u) :=
  ⟨fun a xs q => by
    have hp : a ≠ p := fun z => by
      rw [z, e] at q
      rcases l with ⟨_, rfl⟩ | ⟨_, rfl⟩ | ⟨_, rfl⟩ <;> cases q
    rw [upd_ne hp]; exact q,
   fun a ob v q => by
    have hp : a ≠ p := fun z => by
      rw [z, e] at q
      rcases l with ⟨_, rfl⟩ | ⟨_, rfl⟩ | ⟨_, rfl⟩ <;> cases q
    rw [upd_ne hp]; exact q⟩
section
variable {K : PySem.W.Frag} {h h' : MH} {H H' : Hp} {p : Addr} {o u : HO}
theorem R.poke (r : R K h H) (n : h p = none) (e : H p = some o) (l : Loose o) : R K h (L2.upd H p u) := fun a v q =>
  (r a v q).ext (l.kp e) fun w y => by
    have hp : a ≠ p := fun z => by rw [z, n] at q; cases q
    rw [upd_ne hp]; exact y
theorem Ext.poke (x : Ext h H h' H') (n : H p = none) (e : H' p = some o) (l : Loose o) : Ext h H h' (L2.upd H' p u) :=
  ⟨x.kp.trans (l.kp e), fun a v q z => by
    obtain ⟨e1, e2⟩ := x.tmp a v q z
    have hp : a ≠ p := ne_of_none q n
    exact ⟨by rw [upd_ne hp]; exact e1, e2⟩, x.dom⟩
end
section
variable {X : Cx} {B : MH × Hp} {c : Cn} {pos p : Pos}
theorem lc_read {mi : I} {t : T} {mc : C} {me : E} {own : List Nat} (ho : ∀ j ∈ t.slots, j ∈ own) {σ : L2.St} {H : Hp} {Q : VK} (q : lN X.K B (wL (.cmp me t own mi mc) c) σ H Q) :
    tLc (lI X.K B (wI mi c)) (lG X.K B t) (lC X.K B (wC mc { c with xm := noX })) (lE X.K B (wE me { c with xm := noX })) own σ H Q := by
  obtain ⟨σm, h, P, l, w, k⟩ := q
  rw [wL] at w
  refine ⟨σm, h, _, l, w, fun items st h1 H1 J q r1 e1 tr Dd nD => ?_⟩
  obtain ⟨z, Jm, j0, jt⟩ := q
  refine ⟨fun i mm H' => mm = items.length - i ∧ ∃ acc hh accv, Jm i acc hh ∧ R X.K hh H' ∧ Ext h1 H1 hh H' ∧ H' Dd = some (.lst accv) ∧ hh Dd = none ∧ RVs X.K H' acc accv ∧ acc.length ≤ sizeLine, ⟨items.length, by simp, [], h1, [], j0, r1.new nD, .new nD, upd_same, r1.free nD, .nil, Nat.zero_le _⟩, ?_⟩
  rintro i mm H2 ⟨rfl, acc, h2, accv, j, r2, e2, eD, n2, rv, za⟩
  obtain ⟨hi', s2, q⟩ := jt i acc h2 j
  obtain ⟨tr1, tr2⟩ := tr i h2 H2 e2 r2 s2
  cases hx : items[i]? with
  | none =>
    rw [hx] at q
    exact .inl ⟨tr2 hx, k acc h2 H2 Dd accv q r2 (e1.trans e2) (e1.back nD (r1.free nD)).1 n2 eD rv za⟩
  | some d =>
    rw [hx] at q
    obtain ⟨zacc, σ2, et, q⟩ := q
    obtain ⟨g, y⟩ := tr1 d hx
    have hlt : i < items.length := by
      by_cases hl : i < items.length
      · exact hl
      · rw [List.getElem?_eq_none (by omega)] at hx; cases hx
    refine .inr ⟨g, fun H' => ∃ acc' hh accv', Jm (i + 1) acc' hh ∧ R X.K hh H' ∧ Ext h1 H1 hh H' ∧ H' Dd = some (.lst accv') ∧ hh Dd = none ∧ RVs X.K H' acc' accv' ∧ acc'.length ≤ sizeLine, fun H' q' => ⟨items.length - (i + 1), by omega, rfl, q'⟩, fun x H3 yx => ?_⟩
    obtain ⟨r3, e3, rx⟩ := y x H3 yx
    have x3 : Ext h H h2 H3 := (e1.trans e2).trans e3
    have l3 : Rl X.K B (wipeM σm own) (L2.wipe σ own) h2 H3 := ⟨(l.re.mono x3).wipe own, r3, l.ex.trans x3⟩
    obtain ⟨eD3, n3⟩ := e3.tmp Dd _ eD n2
    refine ⟨wipeM σm own, h2, d, σ2, l3, rx, et, fun σ' re wv => ⟨?_, σ2, h2, _, ⟨re, r3, l3.ex⟩, q, fun b h4 H4 q4 r4 e4 => ?_⟩⟩
    · rw [wv own ho]
      exact wipe_twice
    · obtain ⟨eD4, n4⟩ := e4.tmp Dd _ eD3 n3
      cases b with
      | true =>
        rw [if_pos rfl] at q4 ⊢
        refine ⟨σ2, h4, _, ⟨re.mono e4, r4, l3.ex.trans e4⟩, q4, fun yd h5 H5 v q5 r5 e5 rv5 => ?_⟩
        obtain ⟨eD5, n5⟩ := e5.tmp Dd _ eD4 n4
        have kp := Loose.kp (u := .lst (accv ++ [v])) eD5 (.inl ⟨_, rfl⟩)
        have rva : RVs X.K H5 acc accv := ((rv.mono e3).mono e4).mono e5
        refine ⟨accv, eD5, by rw [rv.length]; exact zacc, acc ++ [yd], h5, accv ++ [v], q5, r5.poke n5 eD5 (.inl ⟨_, rfl⟩), ((((e2.trans e3).trans e4).trans e5).poke nD eD5 (.inl ⟨_, rfl⟩)), upd_same, n5, (rva.append (.cons rv5 .nil)).ext kp, by rw [List.length_append]; simp; omega⟩
      | false =>
        rw [if_neg Bool.false_ne_true] at q4 ⊢
        exact ⟨acc, h4, accv, q4, r4, (e2.trans e3).trans e4, eD4, n4, (rv.mono e3).mono e4, za⟩
theorem ifs_nil : PTs X [] (lC X.K B (wC (.e (.c (.bl true))) c)) := by
  refine ⟨fun pins s σ H Q I q => pts_nil.run pins s σ H Q I ?_⟩
  obtain ⟨σm, h, P, l, w, k⟩ := q
  rw [wC, wE] at w
  obtain ⟨b, e, w⟩ := w
  cases e
  exact k true h H w l.r (.refl _ _)
theorem r_lc {elt tg iter : Expr} {ifs : List Expr} {scope : Scope} {own : List (Str × Nat)} {mi : I} {t : T} {mc : C} {me : E} (hc : X.calm = true) (hN : X.N.Nodup) (hi : PI X tg iter (lI X.K B (wI mi c))) (ok : BlkOk X.N X.env.scope scope own)
    (hg : ∀ (s : Shared) (H : Hp) (C : Addr) (cl : List (Str × Addr)) (fp : List Addr), PG (X.blk s H scope (compEnvC scope cl C X.env) fp) tg (lG X.K B t))
    (ht : ∀ (s : Shared) (H : Hp) (C : Addr) (cl : List (Str × Addr)) (fp : List Addr), PTs (X.blk s H scope (compEnvC scope cl C X.env) fp) ifs (lC X.K B (wC mc { c with xm := noX })))
    (he : ∀ (s : Shared) (H : Hp) (C : Addr) (cl : List (Str × Addr)) (fp : List Addr), PE (X.blk s H scope (compEnvC scope cl C X.env) fp) elt (lE X.K B (wE me { c with xm := noX }))) (hs : ∀ x, foldedSetIterable iter X.env x = pure x)
    (ho : ∀ j ∈ t.slots, j ∈ own.map (·.2)) : PE X (.ListComp elt [⟨tg, iter, ifs, 0⟩] scope pos) (lN X.K B (wL (.cmp me t (own.map (·.2)) mi mc) c)) :=
  (pe_lc hc hN hi ok hg ht he hs).imp fun σ H Q q => lc_read ho q
theorem dc_read {mi : I} {t : T} {mk me : E} {own : List Nat} (ho : ∀ j ∈ t.slots, j ∈ own) {σ : L2.St} {H : Hp} {Q : VK} (q : lE X.K B (wE (.dcmp mk me t own mi) c) σ H Q) :
    tDcT (lI X.K B (wI mi c)) (lG X.K B t) tYes (lE X.K B (wE mk { c with xm := noX })) (lE X.K B (wE me { c with xm := noX })) own σ H Q := by
  obtain ⟨σm, h, P, l, w, k⟩ := q
  rw [wE] at w
  refine ⟨σm, h, _, l, w, fun items st h1 H1 J q r1 e1 tr Dd nD => ?_⟩
  obtain ⟨z, Jm, j0, jt⟩ := q
  refine ⟨fun i mm H' => mm = items.length - i ∧ ∃ acc hh kk, Jm i acc hh ∧ R X.K hh H' ∧ Ext h1 H1 hh H' ∧ H' Dd = some (.dT kk) ∧ hh Dd = none ∧ PT1 X.K H' acc kk ∧ acc.length ≤ sizeLine, ⟨items.length, by simp, [], h1, [], j0, r1.new nD, .new nD, upd_same, r1.free nD, .nil, Nat.zero_le _⟩, ?_⟩
  rintro i mm H2 ⟨rfl, acc, h2, kk, j, r2, e2, eD, n2, rv, za⟩
  obtain ⟨hi', s2, q⟩ := jt i acc h2 j
  obtain ⟨tr1, tr2⟩ := tr i h2 H2 e2 r2 s2
  cases hx : items[i]? with
  | none =>
    rw [hx] at q
    have rr : R X.K (mup h2 Dd (.dct acc)) H2 := r2.put ⟨za, .inr ⟨kk, eD, rv⟩⟩
    refine .inl ⟨tr2 hx, k (.ref Dd) _ H2 (.ref Dd) (q Dd n2) rr ?_ .ref⟩
    exact (e1.trans e2).put (e1.back nD (r1.free nD)).1
  | some d =>
    rw [hx] at q
    obtain ⟨zacc, σ2, et, q⟩ := q
    obtain ⟨g, y⟩ := tr1 d hx
    have hlt : i < items.length := by
      by_cases hl : i < items.length
      · exact hl
      · rw [List.getElem?_eq_none (by omega)] at hx; cases hx
    refine .inr ⟨g, fun H' => ∃ acc' hh kk', Jm (i + 1) acc' hh ∧ R X.K hh H' ∧ Ext h1 H1 hh H' ∧ H' Dd = some (.dT kk') ∧ hh Dd = none ∧ PT1 X.K H' acc' kk' ∧ acc'.length ≤ sizeLine, fun H' q' => ⟨items.length - (i + 1), by omega, rfl, q'⟩, fun x H3 yx => ?_⟩
    obtain ⟨r3, e3, rx⟩ := y x H3 yx
    have x3 : Ext h H h2 H3 := (e1.trans e2).trans e3
    have l3 : Rl X.K B (wipeM σm own) (L2.wipe σ own) h2 H3 := ⟨(l.re.mono x3).wipe own, r3, l.ex.trans x3⟩
    obtain ⟨eD3, n3⟩ := e3.tmp Dd _ eD n2
    refine ⟨wipeM σm own, h2, d, σ2, l3, rx, et, fun σ' re wv => ⟨by rw [wv own ho]; exact wipe_twice, ?_⟩⟩
    unfold tYes
    simp only [if_true]
    refine ⟨σ2, h2, _, ⟨re, r3, l3.ex⟩, q, fun kd h4 H4 kv q4 r4 e4 rk4 => ⟨σ2, h4, _, ⟨re.mono e4, r4, l3.ex.trans e4⟩, q4, fun vd h5 H5 vv q5 r5 e5 rv5 => ?_⟩⟩
    obtain ⟨eD4, n4⟩ := e4.tmp Dd _ eD3 n3
    obtain ⟨eD5, n5⟩ := e5.tmp Dd _ eD4 n4
    obtain ⟨ok, it, q5⟩ := q5
    have rk5 := rk4.mono e5
    obtain ⟨ok1, ok2⟩ := ok
    cases hs : keyS kd with
    | none => rw [hs] at ok1; cases ok1
    | some ks =>
      cases ks with
      | inl key =>
        obtain ⟨a1, a2, a3⟩ := keyS_l hs rk5
        rw [a3] at it; cases it
      | inr key =>
        obtain ⟨a1, a2, b, a3, a4⟩ := keyS_r hs rk5
        have kp := Loose.kp (u := .dT (putK kk key vv)) eD5 (.inr (.inl ⟨_, rfl⟩))
        have pt5 : PT1 X.K H5 acc kk := Paired.mp (fun p q hp => ⟨hp.1, ((hp.2.mono e3).mono e4).mono e5⟩) rv
        have pt6 := putT1 pt5 hs a1 rv5
        have hl := length_putD acc kd vd
        refine ⟨kk, key, b, a3, a4, eD5, by rw [← Paired.length rv]; omega, putD acc kd vd, h5, _, q5, r5.poke n5 eD5 (.inr (.inl ⟨_, rfl⟩)), ((((e2.trans e3).trans e4).trans e5).poke nD eD5 (.inr (.inl ⟨_, rfl⟩))), upd_same, n5, Paired.mp (fun p q hp => ⟨hp.1, hp.2.ext kp⟩) pt6, by omega⟩
theorem r_dc {kx vx tg iter : Expr} {scope : Scope} {own : List (Str × Nat)} {mi : I} {t : T} {mk me : E} (hc : X.calm = true) (hu : X.A.units + 100 < cLine) (hN : X.N.Nodup) (hi : PI X tg iter (lI X.K B (wI mi c))) (ok : BlkOk X.N X.env.scope scope own)
    (hg : ∀ (s : Shared) (H : Hp) (C : Addr) (cl : List (Str × Addr)) (fp : List Addr), PG (X.blk s H scope (compEnvC scope cl C X.env) fp) tg (lG X.K B t))
    (hk : ∀ (s : Shared) (H : Hp) (C : Addr) (cl : List (Str × Addr)) (fp : List Addr), PE (X.blk s H scope (compEnvC scope cl C X.env) fp) kx (lE X.K B (wE mk { c with xm := noX })))
    (he : ∀ (s : Shared) (H : Hp) (C : Addr) (cl : List (Str × Addr)) (fp : List Addr), PE (X.blk s H scope (compEnvC scope cl C X.env) fp) vx (lE X.K B (wE me { c with xm := noX }))) (hs : ∀ x, foldedSetIterable iter X.env x = pure x)
    (ho : ∀ j ∈ t.slots, j ∈ own.map (·.2)) : PE X (.DictComp kx vx [⟨tg, iter, [], 0⟩] scope pos) (lE X.K B (wE (.dcmp mk me t (own.map (·.2)) mi) c)) :=
  (pe_dcT hc (by omega) hN hi ok hg (fun _ _ _ _ _ => pts_nil) hk he hs).imp fun σ H Q q => dc_read ho q
end
end MP

/-! Ma14: statements. -/
namespace MP
open PySem PySem.Spec PyProof.Rows L2

abbrev WS := MEnds → Sg → MH → Prop
structure Eo (K : PySem.W.Frag) (B : MH × Hp) (h : MH) (H : Hp) (F : MEnds) (D : Ends) : Prop where
  nx : ∀ σm' h' σ' H', F.nx σm' h' → Rl K B σm' σ' h' H' → Ext h H h' H' → D.nx σ' H'
  rt : ∀ d h' H' v, F.rt d h' → R K h' H' → Ext B.1 B.2 h' H' → RV K H' d v → D.rt v H'
  bk : ∀ σm' h' σ' H', F.bk σm' h' → Rl K B σm' σ' h' H' → Ext h H h' H' → D.bk σ' H'
  ct : ∀ σm' h' σ' H', F.ct σm' h' → Rl K B σm' σ' h' H' → Ext h H h' H' → D.ct σ' H'
def lS (K : PySem.W.Frag) (B : MH × Hp) (m : WS) : TS := fun D σ H => ∃ σm h F, Rl K B σm σ h H ∧ m F σm h ∧ Eo K B h H F D
theorem Eo.after {K : PySem.W.Frag} {B : MH × Hp} {h h1 : MH} {H H1 : Hp} {F : MEnds} {D : Ends} (e : Eo K B h H F D) (x : Ext h H h1 H1) : Eo K B h1 H1 F D :=
  ⟨fun σm' h' σ' H' q l y => e.nx _ _ _ _ q l (x.trans y), e.rt, fun σm' h' σ' H' q l y => e.bk _ _ _ _ q l (x.trans y), fun σm' h' σ' H' q l y => e.ct _ _ _ _ q l (x.trans y)⟩
section
variable {X : Cx} {B : MH × Hp} {c : Cn} {pos p : Pos}
theorem s_nil : PSs X [] (lS X.K B (wSs .nil c)) := pss_nil.imp fun D σ H ⟨σm, h, F, l, w, e⟩ => by
  rw [wSs] at w
  exact e.nx σm h σ H w l (.refl _ _)
theorem s_cons {s : Stmt} {ss : List Stmt} {m : S} {ms : Ss} (h1 : PS X s (lS X.K B (wS m c))) (h2 : PSs X ss (lS X.K B (wSs ms c))) : PSs X (s :: ss) (lS X.K B (wSs (.cons m ms) c)) := (pss_cons h1 h2).imp fun D σ H ⟨σm, h, F, l, w, e⟩ => by
  rw [wSs] at w
  exact ⟨σm, h, _, l, w, fun σm1 h1 σ1 H1 q l1 x => ⟨σm1, h1, F, l1, q, e.after x⟩, e.rt, e.bk, e.ct⟩
theorem s_pas : PS X (.Pass pos) (lS X.K B (wS .pas c)) := ps_pass.imp fun D σ H ⟨σm, h, F, l, w, e⟩ => by
  rw [wS] at w
  exact e.nx σm h σ H w l (.refl _ _)
theorem s_brk : PS X (.Break pos) (lS X.K B (wS .brk c)) := ps_break.imp fun D σ H ⟨σm, h, F, l, w, e⟩ => by
  rw [wS] at w
  exact e.bk σm h σ H w l (.refl _ _)
theorem s_cnt : PS X (.Continue pos) (lS X.K B (wS .cnt c)) := ps_continue.imp fun D σ H ⟨σm, h, F, l, w, e⟩ => by
  rw [wS] at w
  exact e.ct σm h σ H w l (.refl _ _)
theorem s_ex {e : Expr} {m : E} (he : PE X e (lE X.K B (wE m c))) (hs : swapsWith e none pos.line X.env = pure false) : PS X (.Expr e pos) (lS X.K B (wS (.ex m) c)) := (ps_expr he hs).imp fun D σ H ⟨σm, h, F, l, w, eo⟩ => by
  rw [wS] at w
  exact ⟨σm, h, _, l, w, fun d h1 H1 v q r1 e1 rv => eo.nx _ _ _ _ q (l.step r1 e1) e1⟩
theorem s_ret {e : Expr} {m : E} (he : PE X e (lE X.K B (wE m c))) : PS X (.Return (some e) pos) (lS X.K B (wS (.ret m) c)) := (ps_ret he).imp fun D σ H ⟨σm, h, F, l, w, eo⟩ => by
  rw [wS] at w
  exact ⟨σm, h, _, l, w, fun d h1 H1 v q r1 e1 rv => eo.rt _ _ _ _ q r1 (l.ex.trans e1) rv⟩
theorem s_retN : PS X (.Return none pos) (lS X.K B (wS .retN c)) := ps_retN.imp fun D σ H ⟨σm, h, F, l, w, eo⟩ => by
  rw [wS] at w
  exact eo.rt _ _ _ _ w l.r l.ex .non
theorem s_ite {t : Expr} {a b : List Stmt} {mt : C} {ma mb : Ss} (ht : PT X t (lC X.K B (wC mt c))) (ha : PSs X a (lS X.K B (wSs ma c))) (hb : PSs X b (lS X.K B (wSs mb c))) : PS X (.If t a b pos) (lS X.K B (wS (.ite mt ma mb) c)) := (ps_if ht ha hb).imp fun D σ H ⟨σm, h, F, l, w, eo⟩ => by
  rw [wS] at w
  refine ⟨σm, h, _, l, w, fun k h1 H1 q r1 e1 => ?_⟩
  cases k with
  | true => rw [if_pos rfl] at q ⊢; exact ⟨σm, h1, F, l.step r1 e1, q, eo.after e1⟩
  | false => rw [if_neg Bool.false_ne_true] at q ⊢; exact ⟨σm, h1, F, l.step r1 e1, q, eo.after e1⟩
theorem s_whl {t : Expr} {b : List Stmt} {mt : C} {mb : Ss} (hp : PassesOwn (model X.prog X.w) X.A X.env X.xe) (ht : PT X t (lC X.K B (wC mt c))) (hb : PSs X b (lS X.K B (wSs mb c))) : PS X (.While t b [] pos) (lS X.K B (wS (.whl mt mb) c)) := (ps_while hp ht hb).imp fun D σ H ⟨σm, h, F, l, w, eo⟩ => by
  rw [wS] at w
  obtain ⟨Wm, ⟨m0, w0⟩, turn⟩ := w
  refine ⟨fun m σ' H' => ∃ σm' h', Wm m σm' h' ∧ Rl X.K B σm' σ' h' H' ∧ Ext h H h' H', ⟨m0, σm, h, w0, l, .refl _ _⟩, ?_⟩
  rintro m σ1 H1 ⟨σm1, h1, w1, l1, x1⟩
  refine ⟨σm1, h1, _, l1, turn m σm1 h1 w1, fun k h2 H2 q r2 e2 => ?_⟩
  cases k with
  | true =>
    rw [if_pos rfl] at q ⊢
    refine ⟨fun σ' H' => ∃ m', m' < m ∧ ∃ σm' h', Wm m' σm' h' ∧ Rl X.K B σm' σ' h' H' ∧ Ext h H h' H', fun _ _ q => q, σm1, h2, _, l1.step r2 e2, q, ?_⟩
    refine ⟨fun σm' h' σ' H' q l' x => ?_, eo.rt, fun σm' h' σ' H' q l' x => eo.nx _ _ _ _ q l' ((x1.trans e2).trans x), fun σm' h' σ' H' q l' x => ?_⟩
    · obtain ⟨m', hm, q⟩ := q; exact ⟨m', hm, σm', h', q, l', (x1.trans e2).trans x⟩
    · obtain ⟨m', hm, q⟩ := q; exact ⟨m', hm, σm', h', q, l', (x1.trans e2).trans x⟩
  | false =>
    rw [if_neg Bool.false_ne_true] at q ⊢
    exact eo.nx _ _ _ _ q (l1.step r2 e2) (x1.trans e2)
theorem s_for {tg iter : Expr} {b : List Stmt} {mi : I} {t : T} {mb : Ss} (hp : PassesOwn (model X.prog X.w) X.A X.env X.xe) (hc : X.calm = true) (hi : PI X tg iter (lI X.K B (wI mi c))) (hg : PG X tg (lG X.K B t)) (hb : PSs X b (lS X.K B (wSs mb c)))
    (hs : ∀ x, foldedSetIterable iter X.env x = pure x) : PS X (.For tg iter b [] pos) (lS X.K B (wS (.for t mi mb) c)) := (ps_for hp hc hi hg hb hs).imp fun D σ H ⟨σm, h, F, l, w, eo⟩ => by
  rw [wS] at w
  refine ⟨σm, h, _, l, w, fun items st h1 H1 J q r1 e1 tr => ?_⟩
  obtain ⟨Jm, j0, jt⟩ := q
  refine ⟨fun i m σ' H' => m = items.length - i ∧ ∃ σm' h', Jm i σm' h' ∧ Rl X.K B σm' σ' h' H' ∧ Ext h1 H1 h' H', ⟨items.length, by simp, σm, h1, j0, l.step r1 e1, .refl _ _⟩, ?_⟩
  rintro i m σ2 H2 ⟨rfl, σm2, h2, j, l2, x2⟩
  obtain ⟨hi', s2, q⟩ := jt i σm2 h2 j
  obtain ⟨tr1, tr2⟩ := tr i h2 H2 x2 l2.r s2
  cases hx : items[i]? with
  | none =>
    rw [hx] at q
    exact .inl ⟨tr2 hx, eo.nx _ _ _ _ q l2 (e1.trans x2)⟩
  | some d =>
    rw [hx] at q
    obtain ⟨σm3, et, q⟩ := q
    obtain ⟨g, y⟩ := tr1 d hx
    have hlt : i < items.length := by
      by_cases hl : i < items.length
      · exact hl
      · rw [List.getElem?_eq_none (by omega)] at hx; cases hx
    refine .inr ⟨g, fun σ' H' => ∃ σm' h', Jm (i + 1) σm' h' ∧ Rl X.K B σm' σ' h' H' ∧ Ext h1 H1 h' H', fun σ' H' q' => ⟨items.length - (i + 1), by omega, rfl, q'⟩, fun x H3 yx => ?_⟩
    obtain ⟨r3, e3, rx⟩ := y x H3 yx
    have l3 := l2.step r3 e3
    refine ⟨σm2, h2, d, σm3, l3, rx, et, fun σ' re _ => ⟨σm3, h2, _, ⟨re, r3, l3.ex⟩, q, ?_⟩⟩
    refine ⟨fun σm' h' σ' H' q l' x => ⟨σm', h', q, l', (x2.trans e3).trans x⟩, eo.rt, fun σm' h' σ' H' q l' x => eo.nx _ _ _ _ q l' (((e1.trans x2).trans e3).trans x), fun σm' h' σ' H' q l' x => ⟨σm', h', q, l', (x2.trans e3).trans x⟩⟩
theorem s_asg {tg e : Expr} {t : T} {m : E} (he : PE X e (lE X.K B (wE m c))) (hg : PG X tg (lG X.K B t)) (hs : swapsWithSole [tg] e pos.line X.env = pure false) (hw : swappedStores [tg] e X.env = pure none) (hst : noStar tg = true) :
    PS X (.Assign [tg] e pos) (lS X.K B (wS (.asg t m) c)) := (ps_asg he hg hs hw (by rw [asg1 hst]; rfl)).imp fun D σ H ⟨σm, h, F, l, w, eo⟩ => by
  rw [wS] at w
  refine ⟨σm, h, _, l, w, fun d h1 H1 v q r1 e1 rv => ?_⟩
  obtain ⟨σ2, et, q⟩ := q
  exact ⟨σm, h1, d, σ2, l.step r1 e1, rv, et, fun σ' re _ => eo.nx _ _ _ _ q ⟨re, r1, l.ex.trans e1⟩ e1⟩
/-- name = [..] on one line -/
theorem s_setLc {i : Nat} {y : Str} {py : Pos} {elt tg iter : Expr} {ifs : List Expr} {scope : Scope} {own : List (Str × Nat)} {spos : Pos} {mi : I} {t : T} {mc : C} {me : E} (hc : X.calm = true) (hN : X.N.Nodup) (hy : X.N[i]? = some y) (hyl : X.env.scope.names.lookup y = some .local)
    (hsw : swapsWith (.ListComp elt [⟨tg, iter, ifs, 0⟩] scope pos) (some (.Name y py)) spos.line X.env = pure true) (hi : PI X tg iter (lI X.K B (wI mi c))) (ok : BlkOk X.N X.env.scope scope own)
    (hg : ∀ (s : Shared) (H : Hp) (C : Addr) (cl : List (Str × Addr)) (fp : List Addr), PG (X.blk s H scope (compEnvC scope cl C X.env) fp) tg (lG X.K B t))
    (ht : ∀ (s : Shared) (H : Hp) (C : Addr) (cl : List (Str × Addr)) (fp : List Addr), PTs (X.blk s H scope (compEnvC scope cl C X.env) fp) ifs (lC X.K B (wC mc { c with xm := noX })))
    (he : ∀ (s : Shared) (H : Hp) (C : Addr) (cl : List (Str × Addr)) (fp : List Addr), PE (X.blk s H scope (compEnvC scope cl C X.env) fp) elt (lE X.K B (wE me { c with xm := noX }))) (hs : ∀ x, foldedSetIterable iter X.env x = pure x)
    (ho : ∀ j ∈ t.slots, j ∈ own.map (·.2)) : PS X (.Assign [.Name y py] (.ListComp elt [⟨tg, iter, ifs, 0⟩] scope pos) spos) (lS X.K B (wS (.asg (.nm i) (.nw (.cmp me t (own.map (·.2)) mi mc))) c)) :=
  (ps_setLc hc hN hy hyl hsw hi ok hg ht he hs).imp fun D σ H ⟨σm, h, F, l, w, eo⟩ => by
    rw [wS, wE] at w
    refine lc_read ho (Q := fun x H1 => gName i x σ H1 D.nx) ⟨σm, h, _, l, w.2, fun ds h' H' a xs q r e1 n n' ea rv z => ?_⟩
    have r2 : R X.K (mup h' a (.lst ds)) H' := r.put ⟨z, xs, ea, rv⟩
    have e2 : Ext h H (mup h' a (.lst ds)) H' := e1.put n
    obtain ⟨σ2, et, q⟩ := q.2 a n'
    rw [tgt] at et
    cases et
    have l2 := l.step r2 e2
    exact eo.nx _ _ _ _ q ⟨l2.re.set .ref, r2, l2.ex⟩ e2
theorem s_sub {o i e : Expr} {mo mi m : E} {tpos : Pos} (hu : X.A.units + 100 < cLine) (he : PE X e (lE X.K B (wE m c))) (ho : PE X o (lE X.K B (wE mo c))) (hi : PE X i (lE X.K B (wE mi c))) (hs : swapsWithSole [.Subscript o i tpos] e pos.line X.env = pure false) (hw : swappedStores [.Subscript o i tpos] e X.env = pure none)
    (ha : ∀ v, assign (.Subscript o i tpos) X.env v = (do
      let ov ← holding [v] (eval o X.env)
      let iv ← holding [v, ov] (eval i X.env)
      standAt tpos
      holding [v, ov, iv] (setItem ov iv v)
      release [v, ov, iv] [])) : PS X (.Assign [.Subscript o i tpos] e pos) (lS X.K B (wS (.sub mo mi m) c)) :=
  (ps_asg he (pg_sub ho hi (p_set hu) ha) hs hw rfl).imp fun D σ H ⟨σm, h, F, l, w, eo⟩ => by
    rw [wS] at w
    refine ⟨σm, h, _, l, w, fun d h1 H1 v q r1 e1 rv => ⟨σm, h1, _, l.step r1 e1, q, fun x h2 H2 xv q2 r2 e2 rx => ⟨σm, h2, _, (l.step r1 e1).step r2 e2, q2, fun y h3 H3 yv q3 r3 e3 ry => ?_⟩⟩⟩
    refine ⟨h3, x, y, d, _, r3, rx.mono e3, ry, (rv.mono e2).mono e3, q3, fun h4 H4 q4 r4 e4 => ?_⟩
    exact eo.nx _ _ _ _ q4 ((((l.step r1 e1).step r2 e2).step r3 e3).step r4 e4) (((e1.trans e2).trans e3).trans e4)
end
end MP

/-! Ma15: a, b, c = x, y, z by swapped stores. -/
namespace L2
open PySem PySem.Spec PyProof.Rows
def setV (σ : St) : List Nat → List V → St
  | i :: is, v :: vs => setV (σ.set i (some v)) is vs
  | _, _ => σ
section
variable {X : Cx}
theorem store_all {pins : List (Addr × Obj)} (hN : X.N.Nodup) {Q : Unit → Shared → Prop} {H : Hp} : ∀ (ps : List (Nat × Str)) (vs : List V) (us : List Value) (σ : St) (s : Shared), (∀ p ∈ ps, X.N[p.1]? = some p.2 ∧ X.env.scope.names.lookup p.2 = some .local) → vs.length = ps.length → Vals vs us →
    Inv X pins σ H s → (∀ s', Inv X pins (setV σ (ps.map (·.1)) vs) H s' → Q () s') → wpAny (model X.prog X.w) X.A (assignInOrder (ps.map fun p v => bindName X.env p.2 v) us) Q X.xe s
  | [], [], _, σ, s, _, _, .nil, I, h => assignInOrder_nil (h s I)
  | p :: ps, v :: vs, u :: us, σ, s, hp, hl, .cons r rr, I, h => by
    obtain ⟨h1, h2⟩ := hp p List.mem_cons_self
    refine assignInOrder_cons (wpAny_bindName (store_ok I hN h1 (.inl h2) r (fun s2 I2 => ?_) (.inr h2)))
    exact store_all hN ps vs us _ s2 (fun q hq => hp q (List.mem_cons_of_mem _ hq)) (by simpa using hl) rr I2 h
  | [], _ :: _, _, _, _, _, hl, _, _, _ => by simp at hl
  | _ :: _, [], _, _, _, _, hl, _, _, _ => by simp at hl
def tParN (is : List Nat) (ta : TA) : TS := fun D σ H => ta σ H fun vs H1 => vs.length = is.length ∧ vs.length ≤ 64 ∧ D.nx (setV σ is.reverse vs.reverse) H1
theorem ps_parN {ps : List (Nat × Str)} {ns es : List Expr} {ta : TA} {pos pt pt2 : Pos} {kt k2 : Nat} (hc : X.calm = true) (hN : X.N.Nodup) (hp : ∀ p ∈ ps, X.N[p.1]? = some p.2 ∧ X.env.scope.names.lookup p.2 = some .local) (ha : PA X es ta)
    (hw : swappedStores [.Tuple ns kt pt] (.Tuple es k2 pt2) X.env = pure (some (ps.map (·.2)))) (hs : swapsWithSole [.Tuple ns kt pt] (.Tuple es k2 pt2) pos.line X.env = pure false) :
    PS X (.Assign [.Tuple ns kt pt] (.Tuple es k2 pt2) pos) (tParN (ps.map (·.1)) ta) := by
  refine ⟨fun pins s σ H D I h => ?_⟩
  rw [exec_Assign_arm]
  refine wpAny_bind (wpAny_standAt ?_)
  rw [hs]
  refine wpAny_bind (wpAny_pure ?_)
  rw [if_neg (by decide)]
  refine wpAny_bind (Tuple_ (thn (ha.run _ pins s σ H _ I h) fun us s1 ⟨vs, H1, I1, r1, hl, h64, q1⟩ => ?_))
  rw [List.length_map] at hl
  have hlu : us.length = ps.length := by rw [← r1.length]; exact hl
  refine wpAny_newObj_type ?_ (by simp only [sizeOk, List.size_toArray, sizeLine_eq]; omega)
  have I2 : Inv X pins σ H1 { s1 with heap := s1.heap.push { cls := .type "tuple", data := .seq us.toArray } } := I1.kept (t' := s1.toks) fun b o e => Heap.get?_push_of_some _ e
  rw [hw]
  refine wpAny_bind (wpAny_pure ?_)
  simp only [assignStores]
  have el : (ps.map (·.2)).length = us.toArray.size := by rw [List.length_map, List.size_toArray, hlu]
  rw [el]
  refine wpAny_bind (wpAny_rule (wpAny_bind (unpackItems_tuple (items := us.toArray) (I.ok.hd hc) (IsTup.new s1.heap _) fun h' hx' => ?_)))
  have I3 := I2.kept (h' := h') (t' := s1.toks) fun b o e => hx' b o (Nat.ne_of_lt (Heap.lt_size e)) e
  have em : ((ps.map (·.2)).reverse.map fun n => bindName X.env n) = ps.reverse.map fun p v => bindName X.env p.2 v := by
    rw [← List.map_reverse, List.map_map]; rfl
  rw [em]
  refine wpAny_bind (store_all hN ps.reverse vs.reverse _ σ _ (fun p hp' => hp p (List.mem_reverse.mp hp')) (by rw [List.length_reverse, List.length_reverse, hl]) (by simpa using Vals.reverse r1) I3 fun s' I' => wpAny_pure ⟨_, H1, I', ?_⟩)
  rw [List.map_reverse]
  exact q1
end
end L2
namespace MP
open PySem PySem.Spec PyProof.Rows L2
theorem setAll_V {K : PySem.W.Frag} {H : Hp} : ∀ {is : List Nat} {ds : List D} {vs : List V} {σm : Sg} {σ : L2.St}, RVs K H ds vs → RE K H σm σ → RE K H (setAll σm is ds) (setV σ is vs)
  | [], ds, vs, σm, σ, r, e => by cases ds <;> cases vs <;> exact e
  | i :: is, [], vs, σm, σ, r, e => by cases r.eq_nil; exact e
  | i :: is, d :: ds, vs, σm, σ, r, e => by
    obtain ⟨x, xs, rfl, r1, r2⟩ := r.eq_cons
    show RE K H (setAll (σm.set i (some d)) is ds) (setV (σ.set i (some x)) is xs)
    exact setAll_V r2 (e.set r1)
section
variable {X : Cx} {B : MH × Hp} {c : Cn} {pos p : Pos}
theorem s_par {ps : List (Nat × Str)} {ns es : List Expr} {ms : Es} {pt pt2 : Pos} {kt k2 : Nat} (hc : X.calm = true) (hN : X.N.Nodup) (hp : ∀ p ∈ ps, X.N[p.1]? = some p.2 ∧ X.env.scope.names.lookup p.2 = some .local) (ha : PA X es (lEs X.K B (wEs ms c))) (h64 : ps.length ≤ 64)
    (hw : swappedStores [.Tuple ns kt pt] (.Tuple es k2 pt2) X.env = pure (some (ps.map (·.2)))) (hs : swapsWithSole [.Tuple ns kt pt] (.Tuple es k2 pt2) pos.line X.env = pure false) :
    PS X (.Assign [.Tuple ns kt pt] (.Tuple es k2 pt2) pos) (lS X.K B (wS (.par (ps.map (·.1)) ms) c)) := (ps_parN hc hN hp ha hw hs).imp fun D σ H ⟨σm, h, F, l, w, eo⟩ => by
  rw [wS] at w
  refine ⟨σm, h, _, l, w, fun ds h1 H1 vs q r1 e1 rv => ⟨by rw [rv.length]; exact q.1, by rw [rv.length, q.1, List.length_map]; exact h64, ?_⟩⟩
  have l2 := l.step r1 e1
  exact eo.nx _ _ _ _ q.2 ⟨setAll_V rv.reverse l2.re, r1, l2.ex⟩ e1
end
end MP

/-! Ma16: defs that run with no guard above them (repr of lists wants that), calls. -/
namespace L2
open PySem PySem.Spec PyProof.Rows
structure FnG (P : Program) (w : World) (K : PySem.W.Frag) (mg : Str → Option Value) (base : Heap) (CX : CXT) (k : Nat) (f : Addr) (fd : FuncData) (ps : List Str) (sp : Sp) : Prop where
  len : ∀ vs H Q E, sp vs H Q E → vs.length = ps.length
  run : ∀ (A : Around) (outer : List Env) (s : Shared) (H : Hp) (args : Args) (us : List Value) (vs : List V) (Q : VK) (E : XK), Room k A → A.guards = some [] → Env0 P w K mg base A outer s H → BindsTo s fd args (ps.zip us) → Vals vs us → sp vs H Q E →
    codeAny (model P w) A (.call (.ref f) args) (CR CX outer P w H s Q E) s
theorem fn_ofG {CX : CXT} {P : Program} {w : World} {K : PySem.W.Frag} {mg : Str → Option Value} {base : Heap} {k : Nat} {f : Addr} {name qual : Str} {params : Arguments} {body : List Stmt} {scope : Scope} {dV kV doc pm cdv ct oc : Value} {an od : Option Addr}
    {osl : Array (Option Value)} {N ps : List Str} {sp : Sp} (lk : K.lookup f = some ⟨oc, od, .func (PySem.W.fnOf name qual params body scope dV kV doc pm an cdv ct), osl⟩) (hcd : PySem.W.codeIn K cdv qual = true) (S : FnScope N ps scope)
    (len : ∀ vs H Q E, sp vs H Q E → vs.length = ps.length)
    (hbody : ∀ (A : Around) (outer : List Env) (s : Shared) (H : Hp) (vs : List V) (Q : VK) (E : XK), A.guards = some [] → Room k (A.deeper (envOfC qual scope s.heap.objs.size f cdv)) → sp vs H Q E →
      ∃ t, PSs (cxOf CX P w K mg base N qual scope f cdv A outer s H E) body t ∧ t { nx := fun _ H' => Q .non H', rt := Q } (start N vs) H) :
    FnG P w K mg base CX (k + 1) f (PySem.W.fnOf name qual params body scope dV kV doc pm an cdv ct) ps sp := by
  refine ⟨len, fun A outer s H args us vs Q E hr hgd e0 hb r hsp => ?_⟩
  have hl := len _ _ _ _ hsp
  have KX : K.In s.heap := e0.mod.kin.keeps fun b o e => (e0.bs b o e).1
  have lim : s.heap.NoLimit := e0.mod.nolimit.keeps fun b o e => (e0.bs b o e).1
  have hkind : ∀ y ∈ ps.zip us, scope.names.lookup y.1 = some .local ∨ (scope.names.lookup y.1 = some .cell ∧ ((cellsFrom (s.heap.objs.size + 1) scope.names []).lookup y.1).isSome = true) := fun ⟨n, v⟩ hy => by
    rcases S.par n (List.of_mem_zip hy).1 with q | q
    · exact .inl q
    · exact .inr ⟨q, PySem.W.cellsFrom_some _ _ _ (.inl q)⟩
  refine codeAny_call_function hr.depth (KX _ _ lk) rfl S.co S.gen rfl (PySem.W.codeRec_of KX hcd) (hb _ _ _ _ ?_)
  refine wpAny_newFunctionEnv_cells S.kind hkind fun env he s1 x => ?_
  subst he
  refine ⟨lim.keeps x.toInCall.keep, codeAny_func ?_⟩
  obtain ⟨t, ht, hq⟩ := hbody A outer s H vs Q E hgd (hr.deeper _) hsp
  have I : Inv (cxOf CX P w K mg base N qual scope f cdv A outer s H E) [] (start N vs) H s1 := inv_start S hr.hd e0 hl r x
  refine wpAny_mono (ht.run [] s1 (start N vs) H _ I hq) (fun fl s' hs => ?_) fun e s' hs => hs
  have fin : ∀ {σ' : St} {H' : Hp} {v : V} {u : Value}, Inv (cxOf CX P w K mg base N qual scope f cdv A outer s H E) [] σ' H' s' → RelV v u → Q v H' → CE outer P w H s Q u s' :=
    fun {σ' H' v u} J rv q => ⟨v, H', J.os, J.bare, J.base, J.hok, rv, q⟩
  cases fl with
  | ret u =>
    obtain ⟨v, σ', H', J, rv, q⟩ := hs
    exact fin J rv q
  | next =>
    obtain ⟨σ', H', J, q⟩ := hs
    exact fin (v := V.non) (u := Value.none) J rfl q
  | brk =>
    obtain ⟨_, _, _, q⟩ := hs
    exact False.elim q
  | cont =>
    obtain ⟨_, _, _, q⟩ := hs
    exact False.elim q
section
variable {X : Cx} {CX : CXT} {k : Nat} {f : Addr} {fd : FuncData} {ps : List Str} {sp : Sp} {E : St → XK} {x : Str}
theorem run_fnG {pins : List (Addr × Obj)} {σ : St} {H : Hp} {s : Shared} {Q : VK} {us : List Value} {args : Args} {vs : List V} (F : FnG X.prog X.w X.K X.mg X.base CX k f fd ps sp) (hr : Room k X.A) (hgd : X.A.guards = some []) (hx : PassesAt CX X σ (E σ))
    (I : Inv X pins σ H s) (hb : BindsTo s fd args (ps.zip us)) (r : Vals vs us) (h : sp vs H Q (E σ)) : wpAny (model X.prog X.w) X.A (call (.ref f) args.pos args.kw) (EP X pins σ Q) X.xe s := by
  refine wpAny_call (codeAny_mono (F.run X.A X.stack s H args us vs Q (E σ) hr hgd I.env0 hb r h) fun r s' hq => ?_)
  cases r with
  | error e => exact hx pins H s e s' I hq
  | ok fl =>
    cases fl with
    | ret u => exact I.after hq
    | next => exact False.elim hq
    | brk => exact False.elim hq
    | cont => exact False.elim hq
end
end L2
namespace MP
open PySem PySem.Spec PyProof.Rows L2
/-- where a class stands, its field -/
structure XT where
  ct : Nat → Addr
  ps : List Nat
def XR (K : PySem.W.Frag) (H : Hp) (t : XT) (e : Exn) (cls : Value) (d : Option Addr) : Prop := e.cls ∈ t.ps ∧ cls = .ref (t.ct e.cls) ∧ (e.fld = none ∧ d = none ∨ ∃ dv dd v, e.fld = some dv ∧ d = some dd ∧ H dd = some (.xd [(fldNm e.cls, v)]) ∧ RV K H dv v)
def lSp (K : PySem.W.Frag) (t : XT) (n : Nat) (m : MSp) : Sp := fun vs H Q E => ∃ h ds PQ PE, R K h H ∧ RVs K H ds vs ∧ ds.length = n ∧ m ds h PQ PE ∧ (∀ d h' H' v, PQ d h' → R K h' H' → Ext h H h' H' → RV K H' d v → Q v H') ∧
  ∀ e h' H' cls d, PE e h' → R K h' H' → Ext h H h' H' → XR K H' t e cls d → E cls d H'
def lW (K : PySem.W.Frag) (B : MH × Hp) (t : XT) (xm : Exn → Sg → MH → Prop) : WX := fun cls d σ H => ∃ σm h e, Rl K B σm σ h H ∧ xm e σm h ∧ XR K H t e cls d
theorem lSp_len {K : PySem.W.Frag} {t : XT} {n : Nat} {m : MSp} {vs : List V} {H : Hp} {Q : VK} {E : XK} (h : lSp K t n m vs H Q E) : vs.length = n := by
  obtain ⟨h, ds, PQ, PE, r, rv, e, _⟩ := h
  rw [rv.length, e]
section
variable {X : Cx} {B : MH × Hp} {c : Cn} {pos p : Pos} {t : XT} {f : Addr} {fd : FuncData} {ps : List Str} {j k : Nat} {x : Str}
theorem sp_call {σm : Sg} {σ : L2.St} {h h1 : MH} {H H1 : Hp} {P : DK} {Q : VK} {ds : List D} {vs : List V} (l : Rl X.K B σm σ h H) (kk : ∀ d h' H' v, P d h' → R X.K h' H' → Ext h H h' H' → RV X.K H' d v → Q v H') (hlen : ∀ ds h PQ PE, c.fn k ds h PQ PE → ds.length = ps.length)
    (q : c.fn k ds h1 P fun e h2 => c.xm e σm h2) (r1 : R X.K h1 H1) (e1 : Ext h H h1 H1) (rv : RVs X.K H1 ds vs) : lSp X.K t ps.length (c.fn k) vs H1 Q (L2.WE (lW X.K B t c.xm) σ) :=
  ⟨h1, ds, P, _, r1, rv, hlen _ _ _ _ q, q, fun d h' H' v q2 r2 e2 rv2 => kk d h' H' v q2 r2 (e1.trans e2) rv2, fun e h' H' cls d q2 r2 e2 xr => ⟨σm, h', e, (l.step r1 e1).step r2 e2, q2, xr⟩⟩
theorem r_call {e : Expr} {es : List Expr} {ms : Es} (F : FnG X.prog X.w X.K X.mg X.base (L2.CX X.prog X.w) j f fd ps (lSp X.K t ps.length (c.fn k))) (hlen : ∀ ds h PQ PE, c.fn k ds h PQ PE → ds.length = ps.length) (hr : Room j X.A) (hgd : X.A.guards = some []) (hg : Gl X x) (hm : X.mg x = some (.ref f)) (hk : PySem.W.keepIn X.K (.ref f) = true)
    (hb : Binds X.K fd ps []) (tk : Takes X (lW X.K B t c.xm)) (ha : PA X (e :: es) (lEs X.K B (wEs ms c))) (hs : (e :: es).all noStar = true) (hdb : (x == ("__debug__" : Str)) = false) : PE X (.Call (.Name x p) (e :: es) [] pos) (lE X.K B (wE (.call k ms) c)) := by
  rw [List.all_cons, Bool.and_eq_true] at hs
  refine ⟨fun pins s σ H Q I ⟨σm, h, P, l, w, kk⟩ => ?_⟩
  rw [wE] at w
  refine wpAny_Call_Name_kw (ld_glob I hg hm ?_ hdb)
  refine PySem.W.callWith_K (h₀ := X.base) I.ok.mod.kin hk (thn (ha.run pos pins s σ H (fun vs H1 => ∃ ds h1, (c.fn k ds h1 P fun e h2 => c.xm e σm h2) ∧ R X.K h1 H1 ∧ Ext h H h1 H1 ∧ RVs X.K H1 ds vs) I ⟨σm, h, _, l, w, fun ds h1 H1 vs q r1 e1 rv => ⟨ds, h1, q, r1, e1, rv⟩⟩) fun us s1 ⟨vs, H1, I1, r, q⟩ => ⟨I1.kIn, ?_⟩) (star1 hs.1) (starAny hs.2)
  obtain ⟨ds, h1, q, r1, e1, rv⟩ := q
  have hl : (us ++ []).length = ps.length := by rw [List.append_nil, ← r.length, rv.length]; exact hlen _ _ _ _ q
  have hb' := hb s1 us I1.kIn hl
  rw [List.append_nil] at hb'
  exact run_fnG (args := ⟨us, []⟩) F hr hgd (passAt tk σ) I1 hb' r (sp_call l kk hlen q r1 e1 rv)
theorem r_call0 (F : FnG X.prog X.w X.K X.mg X.base (L2.CX X.prog X.w) j f fd ps (lSp X.K t ps.length (c.fn k))) (hlen : ∀ ds h PQ PE, c.fn k ds h PQ PE → ds.length = ps.length) (hr : Room j X.A) (hgd : X.A.guards = some []) (hg : Gl X x) (hm : X.mg x = some (.ref f)) (hk : PySem.W.keepIn X.K (.ref f) = true)
    (hb : Binds X.K fd ps []) (tk : Takes X (lW X.K B t c.xm)) (hdb : (x == ("__debug__" : Str)) = false) : PE X (.Call (.Name x p) [] [] pos) (lE X.K B (wE (.call k .nil) c)) := by
  refine ⟨fun pins s σ H Q I ⟨σm, h, P, l, w, kk⟩ => ?_⟩
  rw [wE, wEs] at w
  refine wpAny_Call_Name_kw (ld_glob I hg hm ?_ hdb)
  have hl := hlen _ _ _ _ w
  have hb' := hb s [] I.kIn (by simpa using hl)
  exact PySem.W.callWith_K0 I.kIn hk (run_fnG (args := ⟨[], []⟩) (us := []) F hr hgd (passAt tk σ) I (by simpa using hb') .nil (sp_call (ds := []) l kk hlen w l.r (.refl _ _) .nil))
/-- names of keywords, all there -/
def kwNames : List Keyword → List Str
  | [] => []
  | ⟨some n, _, _⟩ :: r => n :: kwNames r
  | ⟨none, _, _⟩ :: r => kwNames r
def kwAll : List Keyword → Bool
  | [] => true
  | ⟨some _, _, _⟩ :: r => kwAll r
  | ⟨none, _, _⟩ :: _ => false
def kwVals : List Keyword → List Expr
  | [] => []
  | ⟨_, v, _⟩ :: r => v :: kwVals r
theorem kw_some {env : Env} {pos : Pos} : ∀ {kws : List Keyword}, kwAll kws = true → (backToKw pos (keywordEach kws env)).all (·.1.isSome) = true ∧ (backToKw pos (keywordEach kws env)).filterMap (·.1) = kwNames kws ∧ (backToKw pos (keywordEach kws env)).any (·.1.isNone) = false
  | [], _ => ⟨rfl, rfl, rfl⟩
  | ⟨some n, v, kp⟩ :: r, h => by
    obtain ⟨a, b, d⟩ := kw_some (env := env) (pos := pos) (kws := r) h
    refine ⟨?_, ?_, ?_⟩
    · show (true && (backToKw pos (keywordEach r env)).all (·.1.isSome)) = true
      rw [a]; rfl
    · show n :: (backToKw pos (keywordEach r env)).filterMap (·.1) = n :: kwNames r
      rw [b]
    · show (false || (backToKw pos (keywordEach r env)).any (·.1.isNone)) = false
      rw [d]; rfl
  | ⟨none, v, kp⟩ :: r, h => by simp [kwAll] at h
theorem PK.imp {X : Cx} {kws : List Keyword} {t t' : TA} (p : PK X kws t) (f : ∀ σ H Q, t' σ H Q → t σ H Q) : PK X kws t' := ⟨fun pos pins s σ H Q I h => p.run pos pins s σ H Q I (f σ H Q h)⟩
theorem kw_nil : PK X [] (lEs X.K B (wEs .nil c)) := PK.imp pk_nil fun σ H Q ⟨σm, h, P, l, w, k⟩ => by
  rw [wEs] at w
  exact k [] h H [] w l.r (.refl _ _) .nil
theorem kw_cons {nm : Option Str} {e : Expr} {kpos : Pos} {kws : List Keyword} {m : E} {ms : Es} (he : PE X e (lE X.K B (wE m c))) (hes : PK X kws (lEs X.K B (wEs ms c))) : PK X (⟨nm, e, kpos⟩ :: kws) (lEs X.K B (wEs (.cons m ms) c)) := PK.imp (pk_cons he hes) fun σ H Q ⟨σm, h, P, l, w, k⟩ => by
  rw [wEs] at w
  refine ⟨σm, h, _, l, w, fun d h1 H1 v q r1 e1 rv => ⟨σm, h1, _, l.step r1 e1, q, fun ds h2 H2 vs q2 r2 e2 rvs => ?_⟩⟩
  exact k (d :: ds) h2 H2 (v :: vs) q2 r2 (e1.trans e2) (.cons (rv.mono e2) rvs)
theorem r_callK {kws : List Keyword} {ms : Es} (F : FnG X.prog X.w X.K X.mg X.base (L2.CX X.prog X.w) j f fd ps (lSp X.K t ps.length (c.fn k))) (hlen : ∀ ds h PQ PE, c.fn k ds h PQ PE → ds.length = ps.length) (hr : Room j X.A) (hgd : X.A.guards = some []) (hg : Gl X x) (hm : X.mg x = some (.ref f)) (hk : PySem.W.keepIn X.K (.ref f) = true)
    (hb : ∀ ws : List Value, ws.length = ps.length → bindArgs fd ⟨[], ps.zip ws⟩ = pure (ps.zip ws)) (tk : Takes X (lW X.K B t c.xm)) (ha : PK X kws (lEs X.K B (wEs ms c))) (hs : kwAll kws = true) (hn : kwNames kws = ps) (hdb : (x == ("__debug__" : Str)) = false) :
    PE X (.Call (.Name x p) [] kws pos) (lE X.K B (wE (.call k ms) c)) := by
  refine ⟨fun pins s σ H Q I ⟨σm, h, P, l, w, kk⟩ => ?_⟩
  rw [wE] at w
  obtain ⟨k1, k2, k3⟩ := kw_some (env := X.env) (pos := pos) hs
  refine wpAny_Call_Name_kw (ld_glob I hg hm ?_ hdb)
  refine PySem.W.callWith_KW0 (h₀ := X.base) I.ok.mod.kin hk k1 (thn (ha.run pos pins s σ H (fun vs H1 => ∃ ds h1, (c.fn k ds h1 P fun e h2 => c.xm e σm h2) ∧ R X.K h1 H1 ∧ Ext h H h1 H1 ∧ RVs X.K H1 ds vs) I ⟨σm, h, _, l, w, fun ds h1 H1 vs q r1 e1 rv => ⟨ds, h1, q, r1, e1, rv⟩⟩) fun us s1 ⟨vs, H1, I1, r, q⟩ => ⟨I1.kIn, ?_⟩) (by rw [k3]; rfl)
  obtain ⟨ds, h1, q, r1, e1, rv⟩ := q
  rw [k2, hn]
  have hl : us.length = ps.length := by rw [← r.length, rv.length]; exact hlen _ _ _ _ q
  exact run_fnG (args := ⟨[], ps.zip us⟩) F hr hgd (passAt tk σ) I1 (.of_eq (hb us hl)) r (sp_call l kk hlen q r1 e1 rv)
end
end MP

/-! Ma17: what a printed walk names. -/
namespace MP
open PySem PySem.Spec PyProof.Rows L2
/-- a callee -/
structure Cal (P : Program) (w : World) (K : PySem.W.Frag) (mg : Str → Option Value) (base : Heap) (t : XT) (fn : Nat → MSp) (k j : Nat) (x : Str) (ps : List Str) : Prop where
  ex : ∃ f fd, FnG P w K mg base (L2.CX P w) j f fd ps (lSp K t ps.length (fn k)) ∧ mg x = some (.ref f) ∧ PySem.W.keepIn K (.ref f) = true ∧ Binds K fd ps [] ∧ ∀ ws : List Value, ws.length = ps.length → bindArgs fd ⟨[], ps.zip ws⟩ = pure (ps.zip ws)
  len : ∀ ds h PQ PE, fn k ds h PQ PE → ds.length = ps.length
section
variable {X : Cx} {B : MH × Hp} {c : Cn} {pos p : Pos} {t : XT} {ps : List Str} {j k n : Nat} {x : Str}
theorem q_call {e : Expr} {es : List Expr} {ms : Es} (F : Cal X.prog X.w X.K X.mg X.base t c.fn k j x ps) (hr : Room n X.A) (hj : j ≤ n) (hgd : X.A.guards = some []) (hg : Gl X x) (tk : Takes X (lW X.K B t c.xm)) (ha : PA X (e :: es) (lEs X.K B (wEs ms c))) (hs : (e :: es).all noStar = true := by rfl) (hdb : (x == ("__debug__" : Str)) = false := by decide) :
    PE X (.Call (.Name x p) (e :: es) [] pos) (lE X.K B (wE (.call k ms) c)) := by
  obtain ⟨f, fd, F1, hm, hk, hb, _⟩ := F.ex
  exact r_call F1 F.len (hr.mono hj) hgd hg hm hk hb tk ha hs hdb
theorem q_call0 (F : Cal X.prog X.w X.K X.mg X.base t c.fn k j x ps) (hr : Room n X.A) (hj : j ≤ n) (hgd : X.A.guards = some []) (hg : Gl X x) (tk : Takes X (lW X.K B t c.xm)) (hdb : (x == ("__debug__" : Str)) = false := by decide) :
    PE X (.Call (.Name x p) [] [] pos) (lE X.K B (wE (.call k .nil) c)) := by
  obtain ⟨f, fd, F1, hm, hk, hb, _⟩ := F.ex
  exact r_call0 F1 F.len (hr.mono hj) hgd hg hm hk hb tk hdb
theorem q_callK {kws : List Keyword} {ms : Es} (F : Cal X.prog X.w X.K X.mg X.base t c.fn k j x ps) (hr : Room n X.A) (hj : j ≤ n) (hgd : X.A.guards = some []) (hg : Gl X x) (tk : Takes X (lW X.K B t c.xm)) (ha : PK X kws (lEs X.K B (wEs ms c))) (hs : kwAll kws = true := by rfl) (hn : kwNames kws = ps := by rfl) (hdb : (x == ("__debug__" : Str)) = false := by decide) :
    PE X (.Call (.Name x p) [] kws pos) (lE X.K B (wE (.call k ms) c)) := by
  obtain ⟨f, fd, F1, hm, hk, _, hb⟩ := F.ex
  exact r_callK F1 F.len (hr.mono hj) hgd hg hm hk hb tk ha hs hn hdb
/-- a global int -/
theorem q_gi {i : Int} (hg : Gl X x) (h : ∃ u, X.mg x = some u ∧ RelV (.int i) u) (hdb : (x == ("__debug__" : Str)) = false := by decide) : PE X (.Name x pos) (lE X.K B (wE (.c (.int i)) c)) := by
  obtain ⟨u, hm, r⟩ := h
  exact r_c (pe_glob hg hm r hdb) fun _ => .int
end
theorem takesN {X : Cx} {K : PySem.W.Frag} {B : MH × Hp} {t : XT} : Takes X (lW K B t noX) := fun _ _ ⟨_, _, _, _, _, _, _, _, _, _, _, _, _, _, _, _, w⟩ => by
  obtain ⟨_, _, _, _, w, _⟩ := w
  exact w.elim
theorem hu_room {k : Nat} {A : Around} (r : Room k A) : A.units + 100 < cLine := by have := r.un; omega
def blkB (N : List Str) (sc scope : Scope) (own : List (Str × Nat)) : Bool :=
  decide (scope.kind = .function) && scope.names.all (fun y => decide (scope.names.lookup y.1 = some y.2)) && own.all (fun p => decide (N[p.2]? = some p.1)) &&
  scope.names.all (fun y => !decide (y.2 = .free) || decide (sc.names.lookup y.1 = some .cell) || decide (sc.names.lookup y.1 = some .free)) &&
  scope.names.all (fun y => !(decide (y.2 = .local) || decide (y.2 = .cell)) || (own.map (·.1)).contains y.1 || !N.contains y.1)
theorem blk_ok {N : List Str} {sc scope : Scope} {own : List (Str × Nat)} (h : blkB N sc scope own = true) : BlkOk N sc scope own := by
  simp only [blkB, Bool.and_eq_true, List.all_eq_true, decide_eq_true_eq, Bool.or_eq_true, Bool.not_eq_true', decide_eq_false_iff_not, List.contains_iff_mem, Bool.not_eq_false'] at h
  obtain ⟨⟨⟨⟨h1, h2⟩, h3⟩, h4⟩, h5⟩ := h
  refine ⟨h1, h2, h3, fun y m e => ?_, fun y m e => ?_⟩
  · rcases h4 y m with (z | z) | z
    · exact absurd e z
    · exact .inl z
    · exact .inr z
  · rcases h5 y m with (z | z) | z
    · exact absurd e (by simpa using z)
    · exact .inl (by simpa using z)
    · exact .inr (by simpa using z)

/-! ### a def -/
def startM (n : Nat) (ds : List D) : Sg := ds.map some ++ List.replicate (n - ds.length) none
theorem RE.start {K : PySem.W.Frag} {H : Hp} {N : List Str} {ds : List D} {vs : List V} (r : RVs K H ds vs) : RE K H (startM N.length ds) (L2.start N vs) := by
  unfold startM L2.start
  have hl := r.length
  refine ⟨by simp [hl], fun i d e => ?_⟩
  by_cases hi : i < ds.length
  · rw [List.getElem?_append_left (by simpa using hi), List.getElem?_map] at e
    obtain ⟨d', e1, e2⟩ := Option.map_eq_some_iff.mp e
    cases e2
    obtain ⟨v, ev, rv⟩ := r.getD e1
    exact ⟨v, by rw [List.getElem?_append_left (by simp [hl, hi]), List.getElem?_map, ev]; rfl, rv⟩
  · rw [List.getElem?_append_right (by simp; omega)] at e
    rw [List.getElem?_replicate] at e
    split at e <;> cases e
theorem fn_mkG {P : Program} {w : World} {K : PySem.W.Frag} {mg : Str → Option Value} {base : Heap} {t : XT} {x qual : Str} {params : Arguments} {body : List Stmt} {sc : Scope} {f : Addr} {fd : FuncData} {N ps : List Str} {k : Nat} {m : MSp} {b : Ss} {c : (Exn → MH → Prop) → Cn}
    (F : FunD K x qual params body sc [] [] f fd) (S : FnScope N ps sc) (hlen : ∀ ds h PQ PE, m ds h PQ PE → ds.length = ps.length)
    (walk : ∀ (cdv : Value) (A : Around) (outer : List Env) (s : Shared) (H : Hp) (E : XK) (B : MH × Hp) (PE : Exn → MH → Prop), Room k (A.deeper (envOfC qual sc s.heap.objs.size f cdv)) → (A.deeper (envOfC qual sc s.heap.objs.size f cdv)).guards = some [] →
      Takes (cxOf (L2.CX P w) P w K mg base N qual sc f cdv A outer s H E) (lW K B t (fun e _ h => PE e h)) → PSs (cxOf (L2.CX P w) P w K mg base N qual sc f cdv A outer s H E) body (lS K B (wSs b (c PE))))
    (vc : ∀ ds h PQ PE, m ds h PQ PE → wSs b (c PE) { nx := fun _ h' => PQ .non h', rt := PQ } (startM N.length ds) h) : FnG P w K mg base (L2.CX P w) (k + 1) f fd ps (lSp K t ps.length m) := by
  obtain ⟨oc, od, dV, kV, doc, pm, an, cdv, ct, osl, rfl, lk, hcd, _, _⟩ := F.ex
  refine fn_ofG lk hcd S (fun vs H Q E h => lSp_len h) fun A outer s H vs Q E hgd hr hsp => ?_
  obtain ⟨h, ds, PQ, PE, r, rv, hl, hm, hq, he⟩ := hsp
  refine ⟨_, walk cdv A outer s H E (h, H) PE hr hgd ?_, startM N.length ds, h, _, ⟨RE.start rv, r, .refl _ _⟩, vc ds h PQ PE hm, ?_⟩
  · refine (takes_of (E := E) (X := cxOf (L2.CX P w) P w K mg base N qual sc f cdv A outer s H E) rfl rfl rfl rfl).imp fun cls d σ' H' q => ?_
    obtain ⟨σm', h', e, l, p, xr⟩ := q
    exact he e h' H' cls d p l.r l.ex xr
  · exact ⟨fun σm' h' σ' H' q l x => hq .non h' H' .non q l.r l.ex .non, fun d h' H' v q r x rv => hq d h' H' v q r x rv, fun _ _ _ _ q _ _ => q.elim, fun _ _ _ _ q _ _ => q.elim⟩
theorem cx_po {P : Program} {w : World} {K : PySem.W.Frag} {mg : Str → Option Value} {base : Heap} {N : List Str} {qual : Str} {sc : Scope} {f : Addr} {cdv : Value} {A : Around} {outer : List Env} {s : Shared} {H : Hp} {E : XK} :
    PassesOwn (model P w) (cxOf (L2.CX P w) P w K mg base N qual sc f cdv A outer s H E).A (cxOf (L2.CX P w) P w K mg base N qual sc f cdv A outer s H E).env (cxOf (L2.CX P w) P w K mg base N qual sc f cdv A outer s H E).xe := PassesOwn.leaving
end MP

/-! Ma18: short rules for printed walks. -/
namespace MP
open PySem PySem.Spec PyProof.Rows L2
def parB (N : List Str) (sc : Scope) (ps : List (Nat × Str)) : Bool := ps.all fun p => decide (N[p.1]? = some p.2) && decide (sc.names.lookup p.2 = some .local)
theorem par_ok {N : List Str} {sc : Scope} {ps : List (Nat × Str)} (h : parB N sc ps = true) : ∀ p ∈ ps, N[p.1]? = some p.2 ∧ sc.names.lookup p.2 = some .local := fun p hp => by
  have := List.all_eq_true.mp h p hp
  simpa using this
section
variable {X : Cx} {B : MH × Hp} {c : Cn} {pos p apos cpos : Pos} {e o : Expr} {es : List Expr} {m : L} {ms : Es} {mo : E}
theorem q_tuples (hg : Gl X "tuple") (hm : X.mg "tuple" = none) (ha : PE X e (lL X.K B (wL m c))) (hs : noStar e = true) : PE X (.Call (.Name "tuple" p) [e] [] pos) (lE X.K B (wE (.bls .tuple m) c)) := r_blsT c_tuple hg hm boot_tuple ha hs (by decide) (by decide)
theorem q_lens (hg : Gl X "len") (hm : X.mg "len" = none) (ha : PE X e (lL X.K B (wL m c))) (hs : noStar e = true) : PE X (.Call (.Name "len" p) [e] [] pos) (lE X.K B (wE (.bls .len m) c)) := r_blsB c_lens hg hm boot_len ha hs (by decide) (by decide)
theorem q_alls (hc : X.calm = true) (hg : Gl X "all") (hm : X.mg "all" = none) (ha : PE X e (lL X.K B (wL m c))) (hs : noStar e = true) : PE X (.Call (.Name "all" p) [e] [] pos) (lE X.K B (wE (.bls .all m) c)) := r_blsB (c_all hc) hg hm (by decide +kernel) ha hs (by decide) (by decide)
theorem q_anys (hc : X.calm = true) (hg : Gl X "any") (hm : X.mg "any" = none) (ha : PE X e (lL X.K B (wL m c))) (hs : noStar e = true) : PE X (.Call (.Name "any" p) [e] [] pos) (lE X.K B (wE (.bls .any m) c)) := r_blsB (c_any hc) hg hm (by decide +kernel) ha hs (by decide) (by decide)
theorem q_sums (hc : X.calm = true) (hg : Gl X "sum") (hm : X.mg "sum" = none) (ha : PE X e (lL X.K B (wL m c))) (hs : noStar e = true) : PE X (.Call (.Name "sum" p) [e] [] pos) (lE X.K B (wE (.bls .sum m) c)) := r_blsB (c_sum hc) hg hm (by decide +kernel) ha hs (by decide) (by decide)
theorem q_lis (hg : Gl X "list") (hm : X.mg "list" = none) (ha : PE X e (lL X.K B (wL m c))) (hs : noStar e = true) : PE X (.Call (.Name "list" p) [e] [] pos) (lN X.K B (wL (.lis m) c)) := r_newT c_lis (fun _ _ _ w => by rw [wL] at w; exact w) hg hm boot_list ha hs (by decide) (by decide)
theorem q_srt (hu : X.A.units + 100 < cLine) (hg : Gl X "sorted") (hm : X.mg "sorted" = none) (ha : PE X e (lL X.K B (wL m c))) (hs : noStar e = true) : PE X (.Call (.Name "sorted" p) [e] [] pos) (lN X.K B (wL (.srt m) c)) := r_newB (c_srt hu) (fun _ _ _ w => by rw [wL] at w; exact w) hg hm boot_sorted ha hs (by decide) (by decide)
theorem q_len (hg : Gl X "len") (hm : X.mg "len" = none) (ha : PA X (e :: es) (lEs X.K B (wEs ms c))) (hs : (e :: es).all noStar = true) : PE X (.Call (.Name "len" p) (e :: es) [] pos) (lE X.K B (wE (.blt .len ms) c)) := r_bltB c_len hg hm boot_len ha hs (by decide) (by decide)
theorem q_abs (hg : Gl X "abs") (hm : X.mg "abs" = none) (ha : PA X (e :: es) (lEs X.K B (wEs ms c))) (hs : (e :: es).all noStar = true) : PE X (.Call (.Name "abs" p) (e :: es) [] pos) (lE X.K B (wE (.blt .abs ms) c)) := r_bltB c_abs hg hm boot_abs ha hs (by decide) (by decide)
theorem q_repr (hu : X.A.units + 100 < cLine) (hgd : X.A.guards = some []) (hg : Gl X "repr") (hm : X.mg "repr" = none) (ha : PA X (e :: es) (lEs X.K B (wEs ms c))) (hs : (e :: es).all noStar = true) : PE X (.Call (.Name "repr" p) (e :: es) [] pos) (lE X.K B (wE (.blt .repr ms) c)) := r_bltB (c_repr hu hgd) hg hm boot_repr ha hs (by decide) (by decide)
theorem q_int (hg : Gl X "int") (hm : X.mg "int" = none) (ha : PA X (e :: es) (lEs X.K B (wEs ms c))) (hs : (e :: es).all noStar = true) : PE X (.Call (.Name "int" p) (e :: es) [] pos) (lE X.K B (wE (.blt .int ms) c)) := r_bltT c_int hg hm boot_int ha hs (by decide) (by decide)
theorem q_str (hg : Gl X "str") (hm : X.mg "str" = none) (ha : PA X (e :: es) (lEs X.K B (wEs ms c))) (hs : (e :: es).all noStar = true) : PE X (.Call (.Name "str" p) (e :: es) [] pos) (lE X.K B (wE (.blt .str ms) c)) := r_bltT c_str hg hm boot_str ha hs (by decide) (by decide)
theorem q_bool (hg : Gl X "bool") (hm : X.mg "bool" = none) (ha : PA X (e :: es) (lEs X.K B (wEs ms c))) (hs : (e :: es).all noStar = true) : PE X (.Call (.Name "bool" p) (e :: es) [] pos) (lE X.K B (wE (.blt .bool ms) c)) := r_bltT c_bool hg hm boot_bool ha hs (by decide) (by decide)
theorem q_max2 (hc : X.calm = true) (hg : Gl X "max") (hm : X.mg "max" = none) (ha : PA X (e :: es) (lEs X.K B (wEs ms c))) (hs : (e :: es).all noStar = true) : PE X (.Call (.Name "max" p) (e :: es) [] pos) (lE X.K B (wE (.blt .max2 ms) c)) := r_bltB (c_max2 hc) hg hm boot_max ha hs (by decide) (by decide)
theorem q_min2 (hc : X.calm = true) (hg : Gl X "min") (hm : X.mg "min" = none) (ha : PA X (e :: es) (lEs X.K B (wEs ms c))) (hs : (e :: es).all noStar = true) : PE X (.Call (.Name "min" p) (e :: es) [] pos) (lE X.K B (wE (.blt .min2 ms) c)) := r_bltB (c_min2 hc) hg hm boot_min ha hs (by decide) (by decide)
theorem q_app (ho : PE X o (lE X.K B (wE mo c))) (ha : PA X (e :: es) (lEs X.K B (wEs ms c))) (hs : (e :: es).all noStar = true) (hb : attributeBase o "append" X.env (eval o X.env) = eval o X.env) (hl : (apos.endLine == cpos.line) = true) (hn : (e :: es).length < 30 := by simp) :
    PE X (.Call (.Attribute o "append" apos) (e :: es) [] cpos) (lE X.K B (wE (.mth .app mo ms) c)) := r_mth (fun r rv t => onT_tyL r rv t) F.plainAttrs_list F.slot_list_append F.type_list_append m_app ho ha hs hn hb hl
theorem q_popi (ho : PE X o (lE X.K B (wE mo c))) (ha : PA X (e :: es) (lEs X.K B (wEs ms c))) (hs : (e :: es).all noStar = true) (hb : attributeBase o "pop" X.env (eval o X.env) = eval o X.env) (hl : (apos.endLine == cpos.line) = true) (hn : (e :: es).length < 30 := by simp) :
    PE X (.Call (.Attribute o "pop" apos) (e :: es) [] cpos) (lE X.K B (wE (.mth .popi mo ms) c)) := r_mth (fun r rv t => onT_tyL r rv t) F.plainAttrs_list F.slot_list_pop F.type_list_pop m_popi ho ha hs hn hb hl
theorem q_pop (ho : PE X o (lE X.K B (wE mo c))) (hb : attributeBase o "pop" X.env (eval o X.env) = eval o X.env) (hl : (apos.endLine == cpos.line) = true) :
    PE X (.Call (.Attribute o "pop" apos) [] [] cpos) (lE X.K B (wE (.mth .pop mo .nil) c)) := r_mth0 (fun r rv t => onT_tyL r rv t) F.plainAttrs_list F.slot_list_pop F.type_list_pop m_pop ho hb hl
theorem q_get1 (hu : X.A.units + 100 < cLine) (ho : PE X o (lE X.K B (wE mo c))) (ha : PA X (e :: es) (lEs X.K B (wEs ms c))) (hs : (e :: es).all noStar = true) (hb : attributeBase o "get" X.env (eval o X.env) = eval o X.env) (hl : (apos.endLine == cpos.line) = true) (hn : (e :: es).length < 30 := by simp) :
    PE X (.Call (.Attribute o "get" apos) (e :: es) [] cpos) (lE X.K B (wE (.mth .get1 mo ms) c)) := r_mth (fun r rv t => onT_tyL r rv t) F.plainAttrs_dict F.slot_dict_get F.type_dict_get (m_get1 hu) ho ha hs hn hb hl
theorem q_get2 (hu : X.A.units + 100 < cLine) (ho : PE X o (lE X.K B (wE mo c))) (ha : PA X (e :: es) (lEs X.K B (wEs ms c))) (hs : (e :: es).all noStar = true) (hb : attributeBase o "get" X.env (eval o X.env) = eval o X.env) (hl : (apos.endLine == cpos.line) = true) (hn : (e :: es).length < 30 := by simp) :
    PE X (.Call (.Attribute o "get" apos) (e :: es) [] cpos) (lE X.K B (wE (.mth .get2 mo ms) c)) := r_mth (fun r rv t => onT_tyL r rv t) F.plainAttrs_dict F.slot_dict_get F.type_dict_get (m_get2 hu) ho ha hs hn hb hl
end
end MP

/-! Ma19: list(zip(a, b)). -/
namespace MP
open PySem PySem.Spec PyProof.Rows L2

/-- the tuples of a zip, laid one after another -/
structure ZG (xs ys : Array Value) (lo : Addr) (h : Heap) (as : List Addr) : Prop where
  rise : as.Pairwise (· < ·)
  above : ∀ a ∈ as, lo < a
  pairs : ∀ (j : Nat) (a : Addr), as[j]? = some a → ∃ x y, xs[j]? = some x ∧ ys[j]? = some y ∧ h.get? a = some { cls := .type "tuple", data := .seq #[x, y] }
theorem ZG.there {xs ys : Array Value} {lo : Addr} {h : Heap} {as : List Addr} (g : ZG xs ys lo h as) {a : Addr} (ha : a ∈ as) : a < h.objs.size := by
  obtain ⟨j, hj⟩ := List.mem_iff_getElem?.mp ha
  obtain ⟨_, _, _, _, e⟩ := g.pairs j a hj
  exact Heap.lt_size e
def ZSt (h : Heap) (z TI TO i1 i2 l1 l2 S : Addr) (xs ys : Array Value) (i : Nat) : Prop :=
  IsPair h TI (.ref i1) (.ref i2) ∧ h.IsListIter i1 l1 i ∧ h.IsListIter i2 l2 i ∧ h.IsList l1 xs ∧ h.IsList l2 ys ∧
    ((IsZip h z TI TO .none ∧ ∃ a b, IsPair h TO a b) ∨ ∃ T f oT, IsZipHeld h z TI TO T f ∧ h.get? T = some oT ∧ T ≠ z ∧ T ≠ i1 ∧ T ≠ i2 ∧ T ≠ S)
structure ZLow (z TI TO i1 i2 l1 l2 S : Addr) : Prop where
  z : z ≠ S
  TI : TI ≠ S
  TO : TO ≠ S
  i1 : i1 ≠ S
  i2 : i2 ≠ S
  l1 : l1 ≠ S
  l2 : l2 ≠ S
theorem ZSt.keep {h h' : Heap} {z TI TO i1 i2 l1 l2 S : Addr} {xs ys : Array Value} {i : Nat} (x : ZSt h z TI TO i1 i2 l1 l2 S xs ys i) (L : ZLow z TI TO i1 i2 l1 l2 S) (hk : ∀ b o, b ≠ S → h.get? b = some o → h'.get? b = some o) : ZSt h' z TI TO i1 i2 l1 l2 S xs ys i := by
  obtain ⟨hTI, h1, h2, hl1, hl2, hz⟩ := x
  refine ⟨hk _ _ L.TI hTI, h1.at fun o e => hk _ o L.i1 e, h2.at fun o e => hk _ o L.i2 e, hl1.at fun o e => hk _ o L.l1 e, hl2.at fun o e => hk _ o L.l2 e, ?_⟩
  rcases hz with ⟨hz, a, b, hTO⟩ | ⟨T, f, oT, hz, hT, r1, r2, r3, r4⟩
  · exact .inl ⟨hk _ _ L.z hz, a, b, hk _ _ L.TO hTO⟩
  · exact .inr ⟨T, f, oT, hk _ _ L.z hz, hk _ _ r4 hT, r1, r2, r3, r4⟩
section
variable {prog : Program} {w : World} {A : Around} {E : Value → Shared → Prop} {s : Shared} {R : Result → Shared → Prop} {z TI TO i1 i2 l1 l2 S : Addr} {xs ys : Array Value}
theorem lz_item {i : Nat} {x y : Value} {Q : Option Value → Shared → Prop} (D : ZipApart z TI TO i1 i2 l1 l2) (st : ZSt s.heap z TI TO i1 i2 l1 l2 S xs ys i) (hS : S < s.heap.objs.size) (hx : xs[i]? = some x) (hy : ys[i]? = some y)
    (hQ : ∀ h', ZSt h' z TI TO i1 i2 l1 l2 S xs ys (i + 1) → h'.get? s.heap.objs.size = some { cls := .type "tuple", data := .seq #[x, y] } →
      (∀ b o, b ≠ z → b ≠ TO → b ≠ i1 → b ≠ i2 → s.heap.get? b = some o → h'.get? b = some o) → Q (some (.ref s.heap.objs.size)) { s with heap := h' }) :
    wpAny (model prog w) A (pyNext (.ref z)) Q E s := by
  obtain ⟨hTI, h1, h2, hl1, hl2, hz⟩ := st
  have lt : ∀ {c o}, s.heap.get? c = some o → s.heap.objs.size ≠ c := fun e => Nat.ne_of_gt (Heap.lt_size e)
  have n1 : s.heap.objs.size ≠ i1 := let ⟨_, e, _⟩ := h1; lt e
  have n2 : s.heap.objs.size ≠ i2 := let ⟨_, e, _⟩ := h2; lt e
  rcases hz with ⟨hz, a, b, hTO⟩ | ⟨T, f, oT, hz, hT, r1, r2, r3, r4⟩
  · refine wpAny_pyNext_zip_item D hz hTI hTO h1 h2 hl1 hl2 hx hy fun h' a1 a2 a3 a4 a5 a6 hk => hQ h' ?_ a5 hk
    exact ⟨hk _ _ D.TIz D.TITO D.TIi1 D.TIi2 hTI, a3, a4, hl1.at fun o e => hk _ o D.l1z D.l1TO D.l1i1 D.l1i2 e, hl2.at fun o e => hk _ o D.l2z D.l2TO D.l2i1 D.l2i2 e,
      .inr ⟨s.heap.objs.size, false, _, a1, a5, lt hz, n1, n2, Nat.ne_of_gt hS⟩⟩
  · refine wpAny_pyNext_zip_item_held D hz hT hTI h1 h2 hl1 hl2 hx hy fun h' a1 a3 a4 a5 a6 hk => hQ h' ?_ a5 fun b o b1 _ b3 b4 e => hk b o b1 b3 b4 e
    exact ⟨hk _ _ D.TIz D.TIi1 D.TIi2 hTI, a3, a4, hl1.at fun o e => hk _ o D.l1z D.l1i1 D.l1i2 e, hl2.at fun o e => hk _ o D.l2z D.l2i1 D.l2i2 e,
      .inr ⟨T, true, oT, a1, hk _ _ r1 r2 r3 hT, r1, r2, r3, r4⟩⟩
theorem lz_done {i : Nat} {Q : Option Value → Shared → Prop} (hh : A.handled = none) (D : ZipApart z TI TO i1 i2 l1 l2) (st : ZSt s.heap z TI TO i1 i2 l1 l2 S xs ys i) (hend : xs[i]? = none ∨ ys[i]? = none)
    (hQ : ∀ h', (∀ b o, b ≠ z → b ≠ TO → b ≠ i1 → b ≠ i2 → s.heap.get? b = some o → h'.get? b = some o) → Q none { s with heap := h' }) :
    wpAny (model prog w) A (pyNext (.ref z)) Q E s := by
  obtain ⟨hTI, h1, h2, hl1, hl2, hz⟩ := st
  rcases hz with ⟨hz, a, b, hTO⟩ | ⟨T, f, oT, hz, hT, r1, r2, r3, r4⟩
  · exact wpAny_pyNext_zip_end hh D hz hTI hTO h1 h2 hl1 hl2 hend fun h' hk => hQ h' hk
  · exact wpAny_pyNext_zip_end_held hh D hz hT hTI h1 h2 hl1 hl2 hend fun h' hk => hQ h' fun b o b1 _ b3 b4 e => hk b o b1 b3 b4 e

theorem lz_loop (hh : A.handled = none) (D : ZipApart z TI TO i1 i2 l1 l2) (L : ZLow z TI TO i1 i2 l1 l2 S) (lz : z < S) (lTO : TO < S) (li1 : i1 < S) (li2 : i2 < S) (hn : min xs.size ys.size ≤ sizeLine) (res : Value) {h₁ : Heap}
    (hR : ∀ h' tk acc c as, (∀ b o, b ≠ S → b ≠ z → b ≠ TO → b ≠ i1 → b ≠ i2 → h₁.get? b = some o → h'.get? b = some o) → h'.get? S = some { cls := .type "list", dict := none, data := .seq acc c, slots := #[] } → as.length = min xs.size ys.size → ZG xs ys S h' as →
      acc.toList = as.map Value.ref → R (.ok (.ret res)) { s with heap := h', toks := tk }) :
    ∀ (k i : Nat) (h : Heap) (tk c : Nat) (acc : Array Value) (as : List Addr), min xs.size ys.size - i = k → i ≤ min xs.size ys.size → ZSt h z TI TO i1 i2 l1 l2 S xs ys i → (∀ b o, b ≠ S → b ≠ z → b ≠ TO → b ≠ i1 → b ≠ i2 → h₁.get? b = some o → h.get? b = some o) →
      h.get? S = some { cls := .type "list", dict := none, data := .seq acc c, slots := #[] } → acc.toList = as.map Value.ref → as.length = i → ZG xs ys S h as →
      codeAny (model prog w) A (.builtin "list.extend.loop" ⟨[.ref S, .ref z, res], []⟩) R { s with heap := h, toks := tk } := by
  intro k
  induction k with
  | zero =>
    intro i h tk c acc as hk hi hst hkeep hS hacc hal hG
    have hin : i = min xs.size ys.size := by omega
    have hend : xs[i]? = none ∨ ys[i]? = none := by
      rcases Nat.le_total xs.size ys.size with h | h
      · exact .inl (Array.getElem?_eq_none (by omega))
      · exact .inr (Array.getElem?_eq_none (by omega))
    refine codeAny_builtin PySem.F.entry_extend_loop ?_
    rw [Around.under_plainId PySem.F.plain_extend_loop _]
    show wpAny _ A.in1 (pyNext (.ref z) >>= _) _ _ _
    refine wpAny_bind (lz_done (s := { s with heap := h, toks := tk }) (A := A.in1) hh D hst hend fun h' he => ?_)
    refine wpAny_pure (hR h' tk acc c as (fun b o h1 h2 h3 h4 h5 e => he b o h2 h3 h4 h5 (hkeep b o h1 h2 h3 h4 h5 e)) (he S _ L.z.symm L.TO.symm L.i1.symm L.i2.symm hS) (by omega) ⟨hG.rise, hG.above, fun j a hj => ?_⟩ hacc)
    obtain ⟨x, y, e1, e2, e3⟩ := hG.pairs j a hj
    have ha := hG.above a (List.mem_of_getElem? hj)
    exact ⟨x, y, e1, e2, he a _ (Nat.ne_of_gt (Nat.lt_trans lz ha)) (Nat.ne_of_gt (Nat.lt_trans lTO ha)) (Nat.ne_of_gt (Nat.lt_trans li1 ha)) (Nat.ne_of_gt (Nat.lt_trans li2 ha)) e3⟩
  | succ k ih =>
    intro i h tk c acc as hk hi hst hkeep hS hacc hal hG
    have hlt : i < min xs.size ys.size := by omega
    have hix : i < xs.size := by omega
    have hiy : i < ys.size := by omega
    have hsz : acc.size = i := by rw [← Array.length_toList, hacc, List.length_map, hal]
    refine codeAny_builtin PySem.F.entry_extend_loop ?_
    rw [Around.under_plainId PySem.F.plain_extend_loop _]
    show wpAny _ A.in1 (pyNext (.ref z) >>= _) _ _ _
    refine wpAny_bind (lz_item (s := { s with heap := h, toks := tk }) D hst (Heap.lt_size hS) (Array.getElem?_eq_getElem hix) (Array.getElem?_eq_getElem hiy) fun h' hst' ht hkp => ?_)
    dsimp only at ht hkp ⊢
    have hS' := hkp S _ L.z.symm L.TO.symm L.i1.symm L.i2.symm hS
    have up : ∀ b o, b ≠ S → h'.get? b = some o → (h'.update S (Obj.mapSeq (·.push (Value.ref h.objs.size)))).get? b = some o := fun b o hb e => (Heap.get?_update_other _ _ (Ne.symm hb)).trans e
    have hSl : S < h.objs.size := Heap.lt_size hS
    show wpAny _ A.in1 (updateSeq S (·.push (Value.ref h.objs.size)) >>= _) _ _ _
    refine wpAny_bind ?_
    refine wpAny_updateSeq hS' rfl (wpAny_pure ⟨plainId_quiet PySem.F.plain_extend_loop _, ih (i + 1) _ tk _ (acc.push (Value.ref h.objs.size)) (as ++ [h.objs.size]) (by omega) hlt (hst'.keep L up)
      (fun b o h1 h2 h3 h4 h5 e => up b o h1 (hkp b o h2 h3 h4 h5 (hkeep b o h1 h2 h3 h4 h5 e))) (Heap.get?_update_self _ hS' rfl) (by rw [Array.toList_push, hacc, List.map_append]; rfl) (by rw [List.length_append, hal]; rfl) ⟨?_, ?_, ?_⟩⟩) (by rw [hsz]; omega) (by show (acc.push (Value.ref h.objs.size)).size ≤ sizeLine + 1; rw [Array.size_push, hsz]; omega)
    · refine List.pairwise_append.mpr ⟨hG.rise, List.pairwise_singleton _ _, fun a ha b hb => ?_⟩
      rw [List.mem_singleton.mp hb]
      exact hG.there ha
    · intro a ha
      rcases List.mem_append.mp ha with ha | ha
      · exact hG.above a ha
      · rw [List.mem_singleton.mp ha]; exact hSl
    · intro j b hj
      rcases Nat.lt_trichotomy j as.length with h1 | h1 | h1
      · rw [List.getElem?_append_left h1] at hj
        obtain ⟨x', y', e1, e2, e3⟩ := hG.pairs j b hj
        have hb := hG.above b (List.mem_of_getElem? hj)
        exact ⟨x', y', e1, e2, up b _ (Nat.ne_of_gt hb) (hkp b _ (Nat.ne_of_gt (Nat.lt_trans lz hb)) (Nat.ne_of_gt (Nat.lt_trans lTO hb)) (Nat.ne_of_gt (Nat.lt_trans li1 hb)) (Nat.ne_of_gt (Nat.lt_trans li2 hb)) e3)⟩
      · subst h1
        have hb : h.objs.size = b := by simpa using hj
        subst hb
        exact ⟨_, _, by rw [hal]; exact Array.getElem?_eq_getElem hix, by rw [hal]; exact Array.getElem?_eq_getElem hiy, up _ _ (Nat.ne_of_gt hSl) ht⟩
      · have hnone : (as ++ [h.objs.size])[j]? = none := List.getElem?_eq_none (by rw [List.length_append, List.length_singleton]; omega)
        rw [hnone] at hj; cases hj
theorem zip_no_len : typeLookup (.type "zip") "__len__" = pure none := by rw [typeLookup_type, builtinLookup_eq_fast]; kernel_rfl
theorem zip_no_hint : typeLookup (.type "zip") "__length_hint__" = pure none := by rw [typeLookup_type, builtinLookup_eq_fast]; kernel_rfl
theorem lz_extend (hh : A.handled = none) (D : ZipApart z TI TO i1 i2 l1 l2) (L : ZLow z TI TO i1 i2 l1 l2 S) (lz : z < S) (lTO : TO < S) (li1 : i1 < S) (li2 : i2 < S) (hn : min xs.size ys.size ≤ sizeLine) (res : Value) (c₀ : Nat)
    (hz : IsZip s.heap z TI TO .none) (st : ZSt s.heap z TI TO i1 i2 l1 l2 S xs ys 0) (hS : s.heap.get? S = some { cls := .type "list", data := .seq #[] c₀ })
    (hR : ∀ h' tk acc c as, (∀ b o, b ≠ S → b ≠ z → b ≠ TO → b ≠ i1 → b ≠ i2 → s.heap.get? b = some o → h'.get? b = some o) → h'.get? S = some { cls := .type "list", dict := none, data := .seq acc c, slots := #[] } → as.length = min xs.size ys.size → ZG xs ys S h' as →
      acc.toList = as.map Value.ref → R (.ok (.ret res)) { s with heap := h', toks := tk }) :
    wpAny (model prog w) A.in1 (Builtin.List.listExtendWith (.ref S) (.ref z) res)
      (fun fin s' => match fin with | .done f => R (.ok f) s' | .again c' => c'.quiet = true ∧ codeAny (model prog w) A c' R s') (fun e s' => R (.error e) s') s := by
  have hT : s.TypeIs (.ref z) "zip" := ⟨_, hz, rfl⟩
  unfold Builtin.List.listExtendWith
  refine wpAny_bind (wpAny_typeOf hT ?_)
  have h1 : Builtin.List.listSameRef (.ref S) (.ref z) = false := by simp [Builtin.List.listSameRef, L.z.symm]
  have h2 : (Value.type "zip" == Value.type "list") = false := by decide
  have h3 : (Value.type "zip" == Value.type "tuple") = false := by decide
  simp only [h1, h2, h3, Bool.or_false, Bool.false_eq_true, if_false]
  refine wpAny_bind (wpAny_pyIter_zip hz ?_)
  refine wpAny_bind (wpAny_holding ?_)
  unfold Builtin.List.listLengthHint
  refine wpAny_bind (wpAny_specialOf hT zip_no_len ?_)
  show wpAny _ A.in1 (specialOf (Value.ref z) (Str.ofString "__length_hint__") >>= _) _ _ _
  refine wpAny_bind (wpAny_specialOf hT zip_no_hint ?_)
  refine wpAny_pure ?_
  show wpAny _ A.in1 (rule "list.extend.makes-room" >>= fun _ => Builtin.List.listTouch (.ref S) >>= fun _ =>
    again (.builtin "list.extend.loop" ⟨[.ref S, .ref z, res], []⟩)) _ _ _
  refine wpAny_bind (wpAny_rule ?_)
  refine wpAny_bind ?_
  show wpAny _ A.in1 (updateSeq S (·.push .none) >>= fun _ => updateSeq S (·.pop)) _ _ _
  refine wpAny_bind (wpAny_updateSeq hS rfl ?_)
  have hS₂ := Heap.get?_update_self (Obj.mapSeq (·.push Value.none)) hS rfl
  refine wpAny_updateSeq (hz := by seq_fits) hS₂ rfl ?_
  have hS₃ := Heap.get?_update_self (Obj.mapSeq (·.pop)) hS₂ rfl
  have oth : ∀ b o, b ≠ S → s.heap.get? b = some o → ((s.heap.update S (Obj.mapSeq (·.push Value.none))).update S (Obj.mapSeq (·.pop))).get? b = some o :=
    fun b o hb e => (Heap.get?_update_other _ _ (Ne.symm hb)).trans ((Heap.get?_update_other _ _ (Ne.symm hb)).trans e)
  refine wpAny_pure ⟨plainId_quiet PySem.F.plain_extend_loop _, ?_⟩
  exact lz_loop (s := s) (h₁ := s.heap) hh D L lz lTO li1 li2 hn res (fun h' tk acc c as hk hS' hl hG hacc => hR h' tk acc c as hk hS' hl hG hacc)
    _ 0 _ s.toks _ #[] [] (Nat.sub_zero _) (Nat.zero_le _) (st.keep L oth) (fun b o hb _ _ _ _ e => oth b o hb e) hS₃ rfl rfl ⟨List.Pairwise.nil, (fun _ ha => nomatch ha), (fun j a hj => by simp at hj)⟩
theorem lz_call {Q : Value → Shared → Prop} (hh : A.handled = none) (D : ZipApart z TI TO i1 i2 l1 l2) (L : ZLow z TI TO i1 i2 l1 l2 s.heap.objs.size) (lz : z < s.heap.objs.size) (lTO : TO < s.heap.objs.size) (li1 : i1 < s.heap.objs.size) (li2 : i2 < s.heap.objs.size) (hn : min xs.size ys.size ≤ sizeLine)
    (hz : IsZip s.heap z TI TO .none) (st : ZSt s.heap z TI TO i1 i2 l1 l2 s.heap.objs.size xs ys 0)
    (hQ : ∀ h' tk acc c as, (∀ b o, b ≠ z → b ≠ TO → b ≠ i1 → b ≠ i2 → s.heap.get? b = some o → h'.get? b = some o) → h'.get? s.heap.objs.size = some { cls := .type "list", dict := none, data := .seq acc c, slots := #[] } → as.length = min xs.size ys.size → ZG xs ys s.heap.objs.size h' as →
      acc.toList = as.map Value.ref → Q (.ref s.heap.objs.size) { s with heap := h', toks := tk }) :
    wpAny (model prog w) A (call (.type "list") [.ref z]) Q E s := by
  refine callType_codes (Q₁ := fun obj s₁ => obj = .ref s.heap.objs.size ∧ s₁ = { s with heap := s.heap.push { cls := .type "list", data := .seq #[] } }) F.called_list (F.typeCall_list_1 _) F.entry_list_init
    (code_list_new _ ⟨rfl, rfl⟩) fun obj s₁ h₁ => ?_
  obtain ⟨rfl, rfl⟩ := h₁
  have hS : (s.heap.push { cls := .type "list", data := .seq #[] }).get? s.heap.objs.size = some { cls := .type "list", data := .seq #[] } := Heap.get?_push_size _ rfl
  refine ⟨⟨_, hS, rfl⟩, F.args_list_init_2 _ _, ?_⟩
  show wpAny _ A.in1.in1 (do let old ← Builtin.List.listItems (.ref s.heap.objs.size); Builtin.List.listUpdate (.ref s.heap.objs.size) (fun _ => #[]); letGo old.toList.reverse; Builtin.List.listExtendWith (.ref s.heap.objs.size) (.ref z) .none) _ _ _
  refine wpAny_bind ?_
  unfold Builtin.List.listItems
  refine wpAny_bind (wpAny_seqItems hS rfl (wpAny_pure ?_))
  show wpAny _ A.in1.in1 (updateSeq s.heap.objs.size (fun _ => #[]) >>= fun _ => letGo (#[] : Array Value).toList.reverse >>= fun _ => Builtin.List.listExtendWith (.ref s.heap.objs.size) (.ref z) .none) _ _ _
  refine wpAny_bind (wpAny_updateSeq hS rfl ?_)
  have hS₂ := Heap.get?_update_self (Obj.mapSeq (fun _ => (#[] : Array Value))) hS rfl
  have oth : ∀ b o, b ≠ s.heap.objs.size → s.heap.get? b = some o → ((s.heap.push { cls := .type "list", data := .seq #[] }).update s.heap.objs.size (Obj.mapSeq (fun _ => (#[] : Array Value)))).get? b = some o :=
    fun b o hb e => (Heap.get?_update_other _ _ (Ne.symm hb)).trans (Heap.get?_push_of_some _ e)
  refine wpAny_bind (wpAny_letGo ?_)
  refine lz_extend (A := A.in1) hh D L lz lTO li1 li2 hn .none _ (oth _ _ L.z hz) (st.keep L oth) hS₂ fun h' tk acc c as hk hS' hl hG hacc => ?_
  exact ⟨rfl, hQ h' tk acc c as (fun b o h2 h3 h4 h5 e => hk b o (Nat.ne_of_lt (Heap.lt_size e)) h2 h3 h4 h5 (oth b o (Nat.ne_of_lt (Heap.lt_size e)) e)) hS' hl hG hacc⟩
end
/-! ### tracked -/
def putP : Hp → List Addr → List (V × V) → Hp
  | H, a :: as, p :: ps => putP (upd H a (.tup [p.1, p.2])) as ps
  | H, _, _ => H
theorem putP_off {b : Addr} : ∀ (as : List Addr) (ps : List (V × V)) (H : Hp), b ∉ as → putP H as ps b = H b
  | [], _, _, _ => rfl
  | _ :: _, [], _, _ => rfl
  | a :: as, p :: ps, H, h => by
    show putP (upd H a (.tup [p.1, p.2])) as ps b = H b
    rw [putP_off as ps _ (fun z => h (List.mem_cons_of_mem _ z)), upd_ne (fun z => h (by rw [z]; exact List.mem_cons_self))]
theorem putP_at : ∀ (as : List Addr) (ps : List (V × V)) (H : Hp), as.length = ps.length → as.Nodup → Paired (fun (t : Addr) (p : V × V) => putP H as ps t = some (.tup [p.1, p.2])) as ps
  | [], [], _, _, _ => .nil
  | [], _ :: _, _, h, _ => by cases h
  | _ :: _, [], _, h, _ => by cases h
  | a :: as, p :: ps, H, h, hn => by
    have hn' := List.nodup_cons.mp hn
    have ih := putP_at as ps (upd H a (.tup [p.1, p.2])) (Nat.succ.inj h) hn'.2
    refine .cons ?_ ih
    show putP (upd H a (.tup [p.1, p.2])) as ps a = some (.tup [p.1, p.2])
    rw [putP_off as ps _ hn'.1, upd_same]
theorem vals_ix {xs : List V} {us : List Value} (r : Vals xs us) : ∀ {i : Nat} {u : Value}, us[i]? = some u → ∃ x, xs[i]? = some x ∧ RelV x u := by
  induction r with
  | nil => intro i u h; simp at h
  | cons r t ih =>
    intro i u h
    cases i with
    | zero => simp at h; subst h; exact ⟨_, rfl, r⟩
    | succ i => simpa using ih (by simpa using h)
theorem zip_laid {X : Cx} {pins : List (Addr × Obj)} {σ : L2.St} {H : Hp} {s : Shared} {h' : Heap} {tk : Nat} {xs ys : List V} {us vs : List Value} {acc : Array Value} {c : Nat} {as : List Addr} {S : Addr} (I : Inv X pins σ H s) (hS0 : s.heap.objs.size ≤ S) (hz : xs.length ≤ sizeLine) (rx : Vals xs us) (ry : Vals ys vs)
    (hk : ∀ b o, s.heap.get? b = some o → h'.get? b = some o) (hS : h'.get? S = some { cls := .type "list", dict := none, data := .seq acc c, slots := #[] }) (hl : as.length = min xs.length ys.length) (hG : ZG us.toArray vs.toArray S h' as) (hacc : acc.toList = as.map Value.ref) :
    ∃ H' : Hp, (∀ b o, H b = some o → H' b = some o) ∧ H S = none ∧ H' S = some (.lst (as.map V.ref)) ∧ Paired (fun (t : Addr) (q : V × V) => H' t = some (.tup [q.1, q.2])) as (xs.zip ys) ∧ Inv X pins σ H' { s with heap := h', toks := tk } := by
  have lz : as.length = (xs.zip ys).length := by rw [List.length_zip]; exact hl
  have hSn : S ∉ as := fun z => Nat.lt_irrefl _ (hG.above _ z)
  have nd : as.Nodup := List.Pairwise.imp (fun {a b} (h : a < b) => Nat.ne_of_lt h) hG.rise
  have ab : ∀ t ∈ as, s.heap.objs.size ≤ t := fun t ht => Nat.le_trans hS0 (Nat.le_of_lt (hG.above t ht))
  have new : ∀ t ∈ as, H t = none := fun t ht => I.hok.fresh (ab t ht)
  have newS : H S = none := I.hok.fresh hS0
  have atP := putP_at as (xs.zip ys) (upd H S (.lst (as.map V.ref))) lz nd
  have off : ∀ b, b ∉ as → b ≠ S → putP (upd H S (.lst (as.map V.ref))) as (xs.zip ys) b = H b := fun b h1 h2 => by rw [putP_off as _ _ h1, upd_ne h2]
  have low : ∀ b o, s.heap.get? b = some o → b ∉ as ∧ b ≠ S := fun b o e => ⟨fun z => absurd (Heap.lt_size e) (Nat.not_lt.mpr (ab b z)), Nat.ne_of_lt (Nat.lt_of_lt_of_le (Heap.lt_size e) hS0)⟩
  have kp : ∀ b u, H b = some u → (putP (upd H S (.lst (as.map V.ref))) as (xs.zip ys)) b = some u := fun b u e => by
    rw [off b (fun z => by rw [new b z] at e; cases e) (fun z => by rw [z, newS] at e; cases e)]
    exact e
  have eS : putP (upd H S (.lst (as.map V.ref))) as (xs.zip ys) S = some (.lst (as.map V.ref)) := by rw [putP_off as _ _ hSn, upd_same]
  refine ⟨putP (upd H S (.lst (as.map V.ref))) as (xs.zip ys), kp, newS, eS, atP, ?_⟩
  refine I.call' (ch := []) rfl ⟨fun b o q _ _ _ => hk b o q, fun b o q _ _ _ => ⟨o.slots, hk b o q⟩, fun b o q n _ => ?_, fun b o q _ => ⟨o, hk b o q⟩, fun b xs q => kp b _ q, fun b o u q => kp b _ q, fun b ps q => ⟨#[], by rw [kp b _ q]; simp⟩⟩ (fun b u q => ?_) I.bare fun b z => by simp at z
  · obtain ⟨z1, z2⟩ := low b o q
    rw [off b z1 z2]
    exact n
  · by_cases hb : b ∈ as
    · obtain ⟨j, pk, e1, e2, e3⟩ := LiI.paired_ix atP hb
      rw [e3] at q
      cases q
      obtain ⟨x, y, f1, f2, f3⟩ := hG.pairs j b e1
      rw [List.getElem?_zip_eq_some] at e2
      obtain ⟨x', g1, g2⟩ := vals_ix rx (by simpa using f1)
      obtain ⟨y', k1, k2⟩ := vals_ix ry (by simpa using f2)
      rw [g1] at e2
      rw [k1] at e2
      obtain ⟨z1, z2⟩ := e2
      cases z1; cases z2
      exact ⟨by show 2 ≤ sizeLine; decide, [x, y], .cons g2 (.cons k2 .nil), ⟨_, f3, rfl, _, rfl⟩⟩
    · by_cases hb2 : b = S
      · rw [hb2] at q ⊢
        rw [eS] at q
        cases q
        refine ⟨by rw [List.length_map]; omega, acc.toList, c, by rw [hacc]; exact LiI.vals_refs as, ?_⟩
        rw [Array.toArray_toList]
        exact hS
      · rw [off b hb hb2] at q
        exact (I.hok b u q).stay (fun d v _ y => hk d v y) (fun d y => kp d _ y) fun d xs y => kp d _ y
theorem zip_rvs {K : PySem.W.Frag} {H' : Hp} : ∀ {ds es : List D} {xs ys : List V} {as : List Addr}, RVs K H' ds xs → RVs K H' es ys → Paired (fun (t : Addr) (q : V × V) => H' t = some (.tup [q.1, q.2])) as (xs.zip ys) → RVs K H' (zipL ds es) (as.map V.ref)
  | [], es, xs, ys, as, rx, ry, p => by
    cases rx.eq_nil
    rw [List.zip_nil_left] at p
    cases p
    exact .nil
  | d :: ds, [], xs, ys, as, rx, ry, p => by
    cases ry.eq_nil
    rw [List.zip_nil_right] at p
    cases p
    exact .nil
  | d :: ds, e :: es, xs, ys, as, rx, ry, p => by
    obtain ⟨x, xs, rfl, r1, r2⟩ := rx.eq_cons
    obtain ⟨y, ys, rfl, q1, q2⟩ := ry.eq_cons
    rw [List.zip_cons_cons] at p
    cases p with
    | cons h t =>
      exact .cons (.tup h (.cons r1 (.cons q1 .nil)) (by rw [sizeLine_eq]; simp)) (zip_rvs r2 q2 t)
section
variable {X : Cx} {B : MH × Hp} {c : Cn} {pos pos2 p p2 : Pos}
theorem r_lzip {e e2 : Expr} {m m2 : L} (hc : X.calm = true) (hg : Gl X "list") (hm : X.mg "list" = none) (hg2 : Gl X "zip") (hm2 : X.mg "zip" = none) (ha : PE X e (lL X.K B (wL m c))) (ha2 : PE X e2 (lL X.K B (wL m2 c))) (hs : noStar e = true) (hs2 : noStar e2 = true) :
    PE X (.Call (.Name "list" p) [.Call (.Name "zip" p2) [e, e2] [] pos2] [] pos) (lN X.K B (wL (.lzip m m2) c)) := by
  refine ⟨fun pins s σ H Q I ⟨σm, h, P, l, w, k⟩ => ?_⟩
  rw [wL] at w
  refine Call_ (ld_blt I hg hm boot_list (PyProof.Rows.callWith_type1 (args_cons (Call_ (ld_blt I hg2 hm2 PyProof.Rows.boot_zip (PyProof.Rows.callWith_type1 (thn ((pa_cons ha (pa_one ha2 hs2) (star1 hs)).run pos2 pins s σ H
    (fun vs H2 => ∃ a b xs ys ds es h2, vs = [.ref a, .ref b] ∧ SqL X.K H2 a xs ∧ SqL X.K H2 b ys ∧ RVs X.K H2 ds xs ∧ RVs X.K H2 es ys ∧ ds.length ≤ sizeLine ∧ P (zipL ds es) true (fun _ => True) h2 ∧ R X.K h2 H2 ∧ Ext h H h2 H2) I ?_) fun us s1 ⟨vs, H1, I1, r1, q1⟩ => ?_) (star1 hs) (starAny (by simp [hs2]))))) rfl) rfl rfl))
  · refine ⟨σm, h, _, l, w, fun ds k' st h1 H1 v q r1 e1 sq => ⟨σm, h1, _, l.step r1 e1, q.2, fun ds2 k2 st2 h2 H2 v2 q2 r2 e2 sq2 => ?_⟩⟩
    obtain ⟨rfl, _⟩ := q
    obtain ⟨rfl, q0, q⟩ := q2
    obtain ⟨a, rfl, f⟩ := sq.at'
    obtain ⟨z1, xs, cc, rv⟩ := f h2 H2 e2 r2 q0
    obtain ⟨_, b, ys, rfl, cc2, rw2⟩ := sq2.get r2
    exact ⟨a, b, xs, ys, ds, ds2, h2, rfl, by simpa using cc, by simpa using cc2, rv, rw2, z1, q, r2, e1.trans e2⟩
  obtain ⟨a, b, xs, ys, ds, es, h2, ex, hqx, hqy, rvx, rvy, zl, q, r2, e2⟩ := q1
  subst ex
  cases r1 with
  | cons r rr =>
    cases rr with
    | cons r' rr =>
      cases rr
      cases r
      cases r'
      obtain ⟨its, rv, p1, hz1⟩ := I1.list hqx
      obtain ⟨its2, rv2, p2', hz2⟩ := I1.list hqy
      have la : a < s1.heap.objs.size := p1.lt
      have lb : b < s1.heap.objs.size := p2'.lt
      refine call_zip_2 p1.isList p2'.isList fun h' hz hTI hTO h1 h3 hsz hk => args_nil ?_
      have hsz' : s1.heap.objs.size + 5 = h'.objs.size := hsz.symm
      have hlt : ∀ c, c < s1.heap.objs.size + 5 → c < ({ s1 with heap := h' } : Shared).heap.objs.size := fun c hc => by show c < h'.objs.size; rw [hsz]; exact hc
      have la5 : a < s1.heap.objs.size + 5 := Nat.lt_of_lt_of_le la (Nat.le_add_right _ _)
      have lb5 : b < s1.heap.objs.size + 5 := Nat.lt_of_lt_of_le lb (Nat.le_add_right _ _)
      have l4 := hlt (s1.heap.objs.size + 4) (by omega)
      have l2 := hlt (s1.heap.objs.size + 2) (by omega)
      have l3 := hlt (s1.heap.objs.size + 3) (by omega)
      have l0 := hlt s1.heap.objs.size (by omega)
      have l1 := hlt (s1.heap.objs.size + 1) (by omega)
      refine lz_call (s := { s1 with heap := h' }) (z := s1.heap.objs.size + 4) (TI := s1.heap.objs.size + 2) (TO := s1.heap.objs.size + 3) (i1 := s1.heap.objs.size) (i2 := s1.heap.objs.size + 1) (l1 := a) (l2 := b) (xs := its.toArray) (ys := its2.toArray) (I1.ok.hd hc)
        (PySem.W.ktu_apart s1.heap.objs.size a b la lb) ⟨Nat.ne_of_lt l4, Nat.ne_of_lt l2, Nat.ne_of_lt l3, Nat.ne_of_lt l0, Nat.ne_of_lt l1, Nat.ne_of_lt (hlt a la5), Nat.ne_of_lt (hlt b lb5)⟩ l4 l3 l0 l1 ?_ hz ⟨hTI, h1, h3, p1.isList.at fun o e => hk _ o e, p2'.isList.at fun o e => hk _ o e, .inl ⟨hz, _, _, hTO⟩⟩ fun h'' tk acc c' as hk2 hS hl hG hacc => ?_
      · rw [List.size_toArray, ← rv.length]; exact Nat.le_trans (Nat.min_le_left _ _) hz1
      dsimp only at hk2 hS hl hG ⊢
      have hke : ∀ b o, s1.heap.get? b = some o → h''.get? b = some o := fun b o e => by
        have lt := Heap.lt_size e
        exact hk2 b o (Nat.ne_of_lt (Nat.lt_of_lt_of_le lt (Nat.le_add_right _ _))) (Nat.ne_of_lt (Nat.lt_of_lt_of_le lt (Nat.le_add_right _ _))) (Nat.ne_of_lt lt) (Nat.ne_of_lt (Nat.lt_of_lt_of_le lt (Nat.le_add_right _ _))) (hk b o e)
      obtain ⟨H', k1, k2, k3, k4, J⟩ := zip_laid (tk := tk) I1 (Nat.le_of_lt l0) hz1 rv rv2 hke hS (by rw [hl, List.size_toArray, List.size_toArray, rv.length, rv2.length]) hG hacc
      have kpp : Kp H1 H' := ⟨fun a xs e => k1 a _ e, fun a o u e => k1 a _ e⟩
      have n0 : ∀ a o, H1 a = some o → h2 a = none → H' a = some o ∧ h2 a = none := fun a o e n => ⟨k1 a o e, n⟩
      have xt : Ext h2 H1 h2 H' := ⟨kpp, n0, fun a o e => ⟨o, e⟩⟩
      have r3 : R X.K h2 H' := fun a o e => (r2 a o e).ext kpp fun u eu => k1 a u eu
      have nS := r2.free k2
      have nH := (e2.back k2 nS).1
      refine ⟨.ref _, H', J, rfl, k (zipL ds es) h2 H' _ (as.map V.ref) q r3 (e2.trans xt) nH nS k3 (zip_rvs (rvx.mono xt) (rvy.mono xt) k4) ?_⟩
      unfold zipL
      rw [List.length_map, List.length_zip]
      omega
end
end MP

/-! Mb1: own error classes over ValueError whose __init__ says super().__init__(..) and keeps at most one field. -/
namespace PySem
namespace SupX
open PySem.W PySem.Calls PyProof.Rows PySem.HandSPX
/-- what the written part says of such a class, at C, and of its __init__, at fI -/
structure SupTxt (K : Frag) (prog : Program) (C fI cc cda : Addr) (q : Str) (params : Arguments) (body : List Stmt) (scope : Scope) : Prop where
  cls : ∃ nm q N bs bm sn sub ab col dd k0 k1 k2 k3 k5, K.lookup C = some (excClassObj nm q C N bs bm true sn sub ab col dd k0 k1 k2 k3 k5 "ValueError.__new__") ∧ refsVE bm = true
  sa : findIn K (.ref C) "__setattr__" = some (some (.builtin "object.__setattr__"))
  ga : findIn K (.ref C) "__getattribute__" = some (some (.builtin "BaseException.__getattribute__"))
  gg : findIn K (.ref C) "__getattr__" = some none
  iC : findIn K (.ref C) "__init__" = some (some (.ref fI))
  tI : typeIn K (.ref fI) = some (.type "function")
  kC : keepIn K (.ref C) = true
  exC : subIn K (.ref C) (.type "BaseException") = some true
  tyC : typeIn K (.ref C) = some (.type "type")
  hdC : hasDictIn K C = true
  fn : ∃ oc od doc pm an ct osl, K.lookup fI = some ⟨oc, od, .func (ksFn "__init__" q params body scope .none .none doc pm an (.ref cda) ct cc), osl⟩
  hcd : codeIn K (.ref cda) q = true
  code : ∃ ccl cdd vs ccs file tf, K.lookup cda = some ⟨ccl, cdd, .fields vs, ccs⟩ ∧ vs[2]? = some (.str file tf) ∧ ((prog.main.file : Str) == file) = true
  cell : ∃ cl cld csl, K.lookup cc = some ⟨cl, cld, .cell (some (.ref C)), csl⟩
  sup : ks_superIn K C C "__init__" = some (some (.builtin "ValueError.__init__"))
  subC : mroIn K C (.ref C) = some true
  subVE : subIn K (.ref C) (.type "ValueError") = some true
  opq : nsIn K cStatics "thirdparty.any" = some none
  htop : (prog.main.scope.names.lookup ("super" : Str)).isSome = false
theorem kept_but {K : Frag} {h h' : Heap} {x : Addr} (X : K.In h) (hx : K.lookup x = none) (k : ∀ b o, b ≠ x → h.get? b = some o → h'.get? b = some o) : K.In h' := fun a o e =>
  k a o (fun z => by rw [z, hx] at e; cases e) (X a o e)
theorem ldE {M : Model} {s : Shared} {env : Env} {m : Str → Option Value} {x : Str} {pos : Pos} {v : Value} {Q : Value → Shared → Prop} {A : Around} {E : Value → Shared → Prop} (hn : s.heap.Ns env.locals m) (hv : m x = some v) (h : Q v s)
    (hk : env.scope.kind = .function) (hl : env.kindOf x = some .local) (hd : (x == ("__debug__" : Str)) = false := by decide) :
    wpAny M A (eval (.Name x pos) env) Q E s := wpAny_Name (wpAny_loadName_local hk hl hn hv h) hd
section
variable {prog : Program} {w : World} {A : Around} {E : Value → Shared → Prop} {K : Frag} {mg mb : Str → Option Value} {C fI cc cda L x t0 : Addr} {q : Str} {params : Arguments} {body : List Stmt} {scope : Scope}
  {hp : Heap} {g : Array GenState} {dr : Drawn} {tk : Nat} {os : OsState} {m : Str → Option Value}
/-- super().__init__ in such an __init__: bound to the object -/
theorem sup_node (T : SupTxt K prog C fI cc cda q params body scope) (X : K.In hp) (hG : hp.Ns mainGlobals mg) (hB : hp.Ns builtinsNs mb) (hsup : mg ("super" : Str) = none) (hb : mb ("super" : Str) = bootBuiltins ("super" : Str)) (hx : hp.get? x = some (excO C t0)) (hns : hp.Ns L m)
    {ar : Arg} (hp1 : (params.posonlyargs ++ params.args).head? = some ar) (hv : m ar.arg = some (.ref x)) (hk : scope.kind = .function) (hks : scope.names.lookup ("super" : Str) = some .globalImplicit) (hkc : scope.names.lookup ("__class__" : Str) = some .free) (hka : scope.names.lookup ar.arg = some .local)
    {bd : List Stmt} {p0 p1 : Pos} {whole : Sem Value} {Q : Value → Shared → Prop}
    (h : ∀ so h', h'.get? so = some { cls := .type "super", dict := none, data := .fields #[.ref C, .ref x, .ref C], slots := #[] } → (∀ b o, hp.get? b = some o → h'.get? b = some o) → Q (.ref so) ⟨h', g, dr, tk, os⟩) :
    _root_.PySem.wpAt (model prog w) A (.func bd (ksEnv q scope L fI (.ref cda) cc)) (attributeBase (.Call (.Name "super" p0) [] [] p1) "__init__" (ksEnv q scope L fI (.ref cda) cc) whole) Q E ⟨hp, g, dr, tk, os⟩ := by
  obtain ⟨oc, od, doc, pm, an, ct, osl, hf⟩ := T.fn
  obtain ⟨ccl, cdd, vs, ccs, file, tf, hcode, hvs, hfile⟩ := T.code
  obtain ⟨cl, cld, csl, hcell⟩ := T.cell
  obtain ⟨nm, qq, N, bs, bm, sn, sub, ab, col, dd, k0, k1, k2, k3, k5, hC, hbm⟩ := T.cls
  refine ks_wpAt_super_base (env := ksEnv q scope L fI (.ref cda) cc) hks hkc (by decide) rfl (X _ _ hf) rfl hp1 rfl (X _ _ hcode) rfl hvs hfile T.htop ?_
  refine ks_loadName_global hk hks (loadGlobal_builtin (env := ksEnv q scope L fI (.ref cda) cc) hG hsup hB (hb.trans (by decide +kernel : bootBuiltins ("super" : Str) = some (.type "super"))) ⟨rfl, ?_⟩)
  refine wpAny_loadName_free hk hkc rfl ⟨_, X _ _ hcell, rfl⟩ ?_
  refine wpAny_loadName_local hk hka hns hv ?_
  refine ks_wpAny_isType_cls (X _ _ hC) rfl ⟨rfl, ?_⟩
  refine ks_wpAny_call_super (X _ _ hC) rfl hx rfl (fun c e => by cases e) (looks_mroIn X T.subC) (fun h' e k => ?_)
  exact h _ h' e k
theorem sup_method (T : SupTxt K prog C fI cc cda q params body scope) (X : K.In hp) {so : Addr} (hso : hp.get? so = some { cls := .type "super", dict := none, data := .fields #[.ref C, .ref x, .ref C], slots := #[] }) (hx : hp.get? x = some (excO C t0)) {pl : Sem Bool} {Q : Value × List Value → Shared → Prop}
    (h : Q (.ref hp.objs.size, []) ⟨hp.push (kxs_mw "ValueError.__init__" x), g, dr, tk + 1, os⟩) : wpAny (model prog w) A (getMethod (.ref so) "__init__" pl) Q E ⟨hp, g, dr, tk, os⟩ := by
  have I : InstAt hp x (excO C t0) C none := ⟨hx, rfl, rfl, trivial⟩
  have hI : Looks (model prog w) hp (isInstance (.ref x) (.type "ValueError")) true := I.type.andThen (looks_subIn X T.subVE)
  have hm := T.sup
  cases hc : clsIn K C with
  | none => unfold ks_superIn at hm; rw [hc] at hm; cases hm
  | some cd =>
    unfold ks_superIn at hm
    rw [hc] at hm
    refine kxs_getMethod kxs_ValueError hso (looks_opaque X T.opq) (l₀ := cd.mro) ?_ rfl X hm hI (ks_ne X I hc) (by decide) h
    exact fun A Q E s k q => wpAny_bind ((looks_clsIn X hc) A _ E s k (wpAny_pure q))
theorem sup_call (T : SupTxt K prog C fI cc cda q params body scope) (X : K.In hp) {u : Addr} (hu : hp.get? u = some (kxs_mw "ValueError.__init__" x)) (hx : hp.get? x = some (excO C t0)) {rest : List Value} (hz : rest.length ≤ sizeLine) {Q : Value → Shared → Prop}
    (h : ∀ h' t1, (∀ b o, b ≠ x → hp.get? b = some o → h'.get? b = some o) → h'.get? x = some (excO C t1) → Q .none ⟨h', g, dr, tk, os⟩) : wpAny (model prog w) A (call (.ref u) rest) Q E ⟨hp, g, dr, tk, os⟩ := by
  obtain ⟨nm, qq, N, bs, bm, sn, sub, ab, col, dd, k0, k1, k2, k3, k5, hC, hbm⟩ := T.cls
  refine wpAny_call (codeAny_of_tree ?_)
  show wpAny _ A.in1 (callAny (.ref u) ⟨rest, []⟩) _ _ _
  simp only [callAny]
  refine wpAny_bind (wpAny_load hu ?_)
  simp only [kxs_mw, show (Value.type "method-wrapper" == Value.type "method" || Value.type "method-wrapper" == Value.type "builtin_function_or_method" || Value.type "method-wrapper" == Value.type "method-wrapper") = true by decide, if_true]
  refine KFB.if_so (by decide) ?_
  refine wpAny_bind (check_bound_init PySem.F.excBase_ValueError.toExcCallFacts (X _ _ hC) hx rfl ?_)
  refine wpAny_bind (wpAny_pure (wpAny_pure ?_))
  refine ⟨plainId_quiet PySem.F.excBase_ValueError.init.plain _, codeAny_builtin PySem.F.excBase_ValueError.initEntry ?_⟩
  exact exc_init_tree (cls := .ref C) (t0 := t0) (dv := none) (c2 := .none) (c3 := .none) (b4 := .bool false) hx hz fun h' k e _ => h h' _ k e
end
theorem init_call_eq {env : Env} {o : Expr} {es : List Expr} {q3 q5 : Pos} (hln : (q3.endLine == q5.line) = true) (hf : methodCallForm (es.length + 0) (backTo q5 (starEach es env)) [] = true) : eval (.Call (.Attribute o "__init__" q3) es [] q5) env = (do
      let ov ← attributeBase o "__init__" env (eval o env)
      standAt q3.atName
      let (f, first) ← holding [ov] (getMethod ov "__init__" (do return (← importBound o env).getD true))
      callWith q5 f first (backTo q5 (starEach es env)) []) := by
  have e : methodCallPos true o env q3 q5 = pure q5 := by
    unfold methodCallPos
    rw [hln]; rfl
  show (attributeBase o "__init__" env (eval o env) >>= fun ov => standAt q3.atName >>= fun _ => methodCall o "__init__" q3 q5 env ov (es.length + 0) (backTo q5 (starEach es env)) []) = _
  unfold methodCall
  rw [hf, e]
  rfl
/-- what __init__ leaves of a fresh exception at x -/
structure InitEnd (h h' : Heap) (x C dx t1 : Addr) (f : Str) (v : Value) : Prop where
  keep : ∀ b o, b ≠ x → h.get? b = some o → h'.get? b = some o
  obj : h'.get? x = some { cls := .ref C, dict := some dx, data := .fields #[.ref t1, .none, .none, .none, .bool false, .none] }
  dbig : h.objs.size ≤ dx
  dne : dx ≠ x
  ns : h'.Ns1 dx (fun y => if y = f then some v else none)
structure OwnMade (h h' : Heap) (e C d : Addr) (f : Str) (v : Value) : Prop where
  keep : ∀ b o, h.get? b = some o → h'.get? b = some o
  new : h.objs.size ≤ e
  obj : ∃ oe vs, h'.get? e = some oe ∧ oe.cls = .ref C ∧ oe.dict = some d ∧ oe.data = .fields vs ∧ vs[1]? = some .none
  dbig : h.objs.size ≤ d
  dne : d ≠ e
  ns : h'.Ns1 d (fun y => if y = f then some v else none)
structure OwnMade0 (h h' : Heap) (e C : Addr) : Prop where
  keep : ∀ b o, h.get? b = some o → h'.get? b = some o
  new : h.objs.size ≤ e
  obj : ∃ oe vs, h'.get? e = some oe ∧ oe.cls = .ref C ∧ oe.dict = none ∧ oe.data = .fields vs ∧ vs[1]? = some .none
def prm0 (p1 : Pos) : Arguments := { posonlyargs := [], args := [{ arg := "self", annotation := none, pos := p1 }], vararg := none, kwonlyargs := [], kw_defaults := [], kwarg := none, defaults := [] }
def prm1 (f : Str) (p1 p2 : Pos) : Arguments := { posonlyargs := [], args := [{ arg := "self", annotation := none, pos := p1 }, { arg := f, annotation := none, pos := p2 }], vararg := none, kwonlyargs := [], kw_defaults := [], kwarg := none, defaults := [] }
def bod0 (q1 q2 q3 q4 q5 : Pos) : List Stmt := [.Expr (.Call (.Attribute (.Call (.Name "super" q1) [] [] q2) "__init__" q3) [] [] q4) q5]
def bod1 (f : Str) (q1 q2 q3 q4 q5 q6 r1 r2 r3 r4 : Pos) : List Stmt :=
  [.Expr (.Call (.Attribute (.Call (.Name "super" q1) [] [] q2) "__init__" q3) [.Name f q4] [] q5) q6, .Assign [.Attribute (.Name "self" r1) f r2] (.Name f r3) r4]
def sco0 : Scope := { kind := .function, names := [(PySem.Str.ofString "self", .local), (PySem.Str.ofString "__class__", .free), (PySem.Str.ofString "super", .globalImplicit)], isGenerator := false, isCoroutine := false, more := [] }
def sco1 (f : Str) : Scope := { kind := .function, names := [(PySem.Str.ofString "self", .local), (f, .local), (PySem.Str.ofString "__class__", .free), (PySem.Str.ofString "super", .globalImplicit)], isGenerator := false, isCoroutine := false, more := [] }
section
variable {prog : Program} {w : World} {A : Around} {E : Value → Shared → Prop} {R : Result → Shared → Prop} {s : Shared} {K : Frag} {mg mb : Str → Option Value} {C fI cc cda x t0 : Addr} {q : Str}
theorem init1 {f : Str} {p1 p2 q1 q2 q3 q4 q5 q6 r1 r2 r3 r4 : Pos} (T : SupTxt K prog C fI cc cda q (prm1 f p1 p2) (bod1 f q1 q2 q3 q4 q5 q6 r1 r2 r3 r4) (sco1 f)) (hln : (q3.endLine == q5.line) = true) (hf : f ≠ "self" ∧ f ≠ "super" ∧ f ≠ "__class__" ∧ (f == ("__debug__" : Str)) = false) (noN : findIn K (.ref C) f = some none)
    (hbd : ∀ (doc pm ct : Value) (an : Option Addr) (u v : Value), bindArgs (ksFn "__init__" q (prm1 f p1 p2) (bod1 f q1 q2 q3 q4 q5 q6 r1 r2 r3 r4) (sco1 f) .none .none doc pm an (.ref cda) ct cc) ⟨[u, v], []⟩ = pure ([("self", u), (f, v)] : List (Str × Value)))
    (X : K.In s.heap) (hG : s.heap.Ns mainGlobals mg) (hB : s.heap.Ns builtinsNs mb) (hsup : mg ("super" : Str) = none) (hb : mb ("super" : Str) = bootBuiltins ("super" : Str)) (hlim : s.heap.NoLimit) {v : Value} (hx : s.heap.get? x = some (excO C t0)) (hnx : K.lookup x = none) (hroom : A.depth < recursionLimit)
    (hq : ∀ h' tk dx t1, InitEnd s.heap h' x C dx t1 f v → R (.ok (.ret .none)) { s with heap := h', toks := tk }) :
    codeAny (model prog w) A (.call (.ref fI) ⟨[.ref x, v], []⟩) R s := by
  obtain ⟨oc, od, doc, pm, an, ct, osl, ho⟩ := T.fn
  obtain ⟨nm, qq, N, bs, bm, sn, sub, ab, col, dd, k0, k1, k2, k3, k5, hC, hbm⟩ := T.cls
  have hcl : clsIn K C = some { name := nm, bases := bs, mro := .ref C :: bm, ns := N, qualname := qq, hasDict := true, slotNames := sn, subclasses := sub, abstract := ab, collection := col, hasDel := false } := by unfold clsIn; rw [hC] <;> rfl
  obtain ⟨f1, f2, f3, f4⟩ := hf
  have lself : (sco1 f).names.lookup ("self" : Str) = some .local := by rfl
  have lf : (sco1 f).names.lookup f = some .local := by
    show List.lookup f [(PySem.Str.ofString "self", NameKind.local), (f, .local), _, _] = _
    have e : (f == PySem.Str.ofString "self") = false := by simpa using f1
    simp [List.lookup, e]
  have lcls : (sco1 f).names.lookup ("__class__" : Str) = some .free := by
    show List.lookup ("__class__" : Str) [(PySem.Str.ofString "self", NameKind.local), (f, .local), (PySem.Str.ofString "__class__", .free), _] = _
    have e : ((("__class__" : Str)) == f) = false := by simpa using Ne.symm f3
    have e2 : ((("__class__" : Str)) == PySem.Str.ofString "self") = false := by decide
    have e3 : ((("__class__" : Str)) == PySem.Str.ofString "__class__") = true := by decide
    simp [List.lookup, e, e2, e3]
  have lsup : (sco1 f).names.lookup ("super" : Str) = some .globalImplicit := by
    show List.lookup ("super" : Str) [(PySem.Str.ofString "self", NameKind.local), (f, .local), (PySem.Str.ofString "__class__", .free), (PySem.Str.ofString "super", .globalImplicit)] = _
    have e : ((("super" : Str)) == f) = false := by simpa using Ne.symm f2
    have e2 : ((("super" : Str)) == PySem.Str.ofString "self") = false := by decide
    have e3 : ((("super" : Str)) == PySem.Str.ofString "__class__") = false := by decide
    have e4 : ((("super" : Str)) == PySem.Str.ofString "super") = true := by decide
    simp [List.lookup, e, e2, e3, e4]
  refine ks_codeAny_call_defAt (fd := ksFn "__init__" q (prm1 f p1 p2) (bod1 f q1 q2 q3 q4 q5 q6 r1 r2 r3 r4) (sco1 f) .none .none doc pm an (.ref cda) ct cc) (body := bod1 f q1 q2 q3 q4 q5 q6 r1 r2 r3 r4) (binds := [("self", .ref x), (f, v)]) hroom (X _ _ ho) rfl hlim (codeRec_of X T.hcd) rfl
    (BindsTo.of_eq (hbd _ _ _ _ _ _)) (fun y hy => ?_) (fun y hy => ?_) (fun h₁ hn kk => ?_) rfl rfl rfl
  · have hy' : y ∈ [(PySem.Str.ofString "self", NameKind.local), (f, .local), (PySem.Str.ofString "__class__", .free), (PySem.Str.ofString "super", .globalImplicit)] := hy
    simp only [List.mem_cons, List.not_mem_nil, or_false] at hy'
    rcases hy' with rfl | rfl | rfl | rfl <;> (intro z; cases z)
  · simp only [List.mem_cons, List.not_mem_nil, or_false] at hy
    rcases hy with rfl | rfl
    · exact lself
    · exact lf
  have X₁ : K.In h₁ := X.keeps kk
  have hx₁ := kk _ _ hx
  have vself : (fun y => List.lookup y ([(("self" : Str), Value.ref x), (f, v)] : List (Str × Value)).reverse) ("self" : Str) = some (.ref x) := by
    show List.lookup ("self" : Str) [(f, v), (("self" : Str), Value.ref x)] = _
    have e : ((("self" : Str)) == f) = false := by simpa using Ne.symm f1
    simp [List.lookup, e]
  have vf : (fun y => List.lookup y ([(("self" : Str), Value.ref x), (f, v)] : List (Str × Value)).reverse) f = some v := by
    show List.lookup f [(f, v), (("self" : Str), Value.ref x)] = _
    simp [List.lookup]
  obtain ⟨hp, g, dr, tk, os⟩ := s
  dsimp only at *
  have hLx : hp.objs.size ≠ x := Nat.ne_of_gt (Heap.lt_size hx)
  refine ks_wpAt_execs_cons (ks_wpAt_Expr_any (ks_wpAt_MethodCall ?_ (init_call_eq hln rfl)))
  refine sup_node (m := fun y => List.lookup y ([(("self" : Str), Value.ref x), (f, v)] : List (Str × Value)).reverse) T X₁ (hG.keeps kk) (hB.keeps kk) hsup hb hx₁ hn (ar := { arg := "self", annotation := none, pos := p1 }) rfl vself rfl lsup lcls lself fun so h₂ hso k₂ => ?_
  refine sup_method T (X₁.keeps k₂) hso (k₂ _ _ hx₁) ?_
  have k₃ : ∀ b o, h₂.get? b = some o → (h₂.push (kxs_mw "ValueError.__init__" x)).get? b = some o := fun b o e => Heap.get?_push_of_some _ e
  have hu : (h₂.push (kxs_mw "ValueError.__init__" x)).get? h₂.objs.size = some (kxs_mw "ValueError.__init__" x) := Heap.get?_push_size _ rfl
  have hn₃ : (h₂.push (kxs_mw "ValueError.__init__" x)).Ns hp.objs.size (fun y => List.lookup y ([(("self" : Str), Value.ref x), (f, v)] : List (Str × Value)).reverse) := (hn.keeps k₂).keeps k₃
  show wpAny _ _ (callWith _ (.ref h₂.objs.size) [] (backTo _ (starEach [.Name f q4] _)) []) _ _ _
  refine kxs_callWith (i := "ValueError.__init__") (x := x) rfl ?_
  refine evalArgs_plain (args_cons (ldE (env := ksEnv q (sco1 f) hp.objs.size fI (.ref cda) cc) hn₃ vf (args_nil ⟨hu, ?_⟩) rfl lf f4))
  refine sup_call T ((X₁.keeps k₂).keeps k₃) hu (k₃ _ _ (k₂ _ _ hx₁)) (by rw [sizeLine_eq]; simp) fun h₄ t1 k₄ hx₄ => ?_
  have keep4 : ∀ b o, b ≠ x → h₁.get? b = some o → h₄.get? b = some o := fun b o hb e => k₄ b o hb (k₃ b o (k₂ b o e))
  have X₄ : K.In h₄ := kept_but X₁ hnx keep4
  have hn₄ : h₄.Ns hp.objs.size (fun y => List.lookup y ([(("self" : Str), Value.ref x), (f, v)] : List (Str × Value)).reverse) := hn.at' fun o e => keep4 _ o hLx e
  refine wpAt_of_wpAny ?_
  refine wpAny_execs_cons (plainObj_wpAny_Assign_Attribute ?_)
  refine ldE (env := ksEnv q (sco1 f) hp.objs.size fI (.ref cda) cc) hn₄ vf (ldE (env := ksEnv q (sco1 f) hp.objs.size fI (.ref cda) cc) hn₄ vself ?_ rfl lself) rfl lf f4
  refine set_plain X₄ (ox := excO C t1) (od := none) ⟨hx₄, rfl, rfl, trivial⟩ T.sa ?_
  refine exc_osa X₄ hx₄ hcl (show refsVE (.ref C :: bm) = true from hbm) rfl noN (fun h₅ tk₅ dx k₅ dn dne hx₅ hn₅ => ?_)
  have sz : hp.objs.size ≤ h₄.objs.size := by
    obtain ⟨o, _, _, e, _⟩ := hn₄
    exact Nat.le_of_lt (Heap.lt_size e)
  exact wpAny_execs_nil (hq h₅ tk₅ dx t1 ⟨fun b o hb e => k₅ b o hb (keep4 b o hb (kk b o e)), hx₅, Nat.le_trans sz dn, dne, hn₅⟩)
theorem init0 {p1 q1 q2 q3 q4 q5 : Pos} (T : SupTxt K prog C fI cc cda q (prm0 p1) (bod0 q1 q2 q3 q4 q5) sco0) (hln : (q3.endLine == q4.line) = true)
    (X : K.In s.heap) (hG : s.heap.Ns mainGlobals mg) (hB : s.heap.Ns builtinsNs mb) (hsup : mg ("super" : Str) = none) (hb : mb ("super" : Str) = bootBuiltins ("super" : Str)) (hlim : s.heap.NoLimit) (hx : s.heap.get? x = some (excO C t0)) (hnx : K.lookup x = none) (hroom : A.depth < recursionLimit)
    (hq : ∀ h' tk t1, (∀ b o, b ≠ x → s.heap.get? b = some o → h'.get? b = some o) → h'.get? x = some (excO C t1) → R (.ok (.ret .none)) { s with heap := h', toks := tk }) :
    codeAny (model prog w) A (.call (.ref fI) ⟨[.ref x], []⟩) R s := by
  obtain ⟨oc, od, doc, pm, an, ct, osl, ho⟩ := T.fn
  refine ks_codeAny_call_defAt (fd := ksFn "__init__" q (prm0 p1) (bod0 q1 q2 q3 q4 q5) sco0 .none .none doc pm an (.ref cda) ct cc) (body := bod0 q1 q2 q3 q4 q5) (binds := [("self", .ref x)]) hroom (X _ _ ho) rfl hlim (codeRec_of X T.hcd) rfl
    (BindsTo.of_eq (by first | rfl | with_unfolding_all rfl)) (fun y hy => ?_) (fun y hy => ?_) (fun h₁ hn kk => ?_) rfl rfl rfl
  · have hy' : y ∈ [(PySem.Str.ofString "self", NameKind.local), (PySem.Str.ofString "__class__", .free), (PySem.Str.ofString "super", .globalImplicit)] := hy
    simp only [List.mem_cons, List.not_mem_nil, or_false] at hy'
    rcases hy' with rfl | rfl | rfl <;> (intro z; cases z)
  · simp only [List.mem_cons, List.not_mem_nil, or_false] at hy
    rcases hy with rfl
    rfl
  have X₁ : K.In h₁ := X.keeps kk
  have hx₁ := kk _ _ hx
  obtain ⟨hp, g, dr, tk, os⟩ := s
  dsimp only at *
  refine ks_wpAt_execs_cons (ks_wpAt_Expr_any (ks_wpAt_MethodCall ?_ (init_call_eq hln rfl)))
  refine sup_node (m := fun y => List.lookup y ([(("self" : Str), Value.ref x)] : List (Str × Value)).reverse) T X₁ (hG.keeps kk) (hB.keeps kk) hsup hb hx₁ hn (ar := { arg := "self", annotation := none, pos := p1 }) rfl rfl rfl rfl rfl rfl fun so h₂ hso k₂ => ?_
  refine sup_method T (X₁.keeps k₂) hso (k₂ _ _ hx₁) ?_
  have k₃ : ∀ b o, h₂.get? b = some o → (h₂.push (kxs_mw "ValueError.__init__" x)).get? b = some o := fun b o e => Heap.get?_push_of_some _ e
  have hu : (h₂.push (kxs_mw "ValueError.__init__" x)).get? h₂.objs.size = some (kxs_mw "ValueError.__init__" x) := Heap.get?_push_size _ rfl
  show wpAny _ _ (callWith _ (.ref h₂.objs.size) [] (backTo _ (starEach [] _)) []) _ _ _
  refine kxs_callWith (i := "ValueError.__init__") (x := x) rfl ?_
  refine evalArgs_empty ⟨hu, ?_⟩
  refine sup_call T ((X₁.keeps k₂).keeps k₃) hu (k₃ _ _ (k₂ _ _ hx₁)) (by rw [sizeLine_eq]; simp) fun h₄ t1 k₄ hx₄ => ?_
  have keep4 : ∀ b o, b ≠ x → h₁.get? b = some o → h₄.get? b = some o := fun b o hb e => k₄ b o hb (k₃ b o (k₂ b o e))
  refine wpAt_of_wpAny ?_
  exact wpAny_execs_nil (hq h₄ _ t1 (fun b o hb e => keep4 b o hb (kk b o e)) hx₄)
theorem one_size (v : Value) : [v].length ≤ sizeLine := by rw [sizeLine_eq]; simp
theorem lookup_new {hp : Heap} (X : K.In hp) {a : Addr} (h : hp.objs.size ≤ a) : K.lookup a = none := by
  cases e : K.lookup a with
  | none => rfl
  | some o => exact absurd (Heap.lt_size (X _ _ e)) (Nat.not_lt.mpr h)
theorem made1 {f : Str} {p1 p2 q1 q2 q3 q4 q5 q6 r1 r2 r3 r4 : Pos} (T : SupTxt K prog C fI cc cda q (prm1 f p1 p2) (bod1 f q1 q2 q3 q4 q5 q6 r1 r2 r3 r4) (sco1 f)) (hln : (q3.endLine == q5.line) = true) (hf : f ≠ "self" ∧ f ≠ "super" ∧ f ≠ "__class__" ∧ (f == ("__debug__" : Str)) = false) (noN : findIn K (.ref C) f = some none)
    (hbd : ∀ (doc pm ct : Value) (an : Option Addr) (u v : Value), bindArgs (ksFn "__init__" q (prm1 f p1 p2) (bod1 f q1 q2 q3 q4 q5 q6 r1 r2 r3 r4) (sco1 f) .none .none doc pm an (.ref cda) ct cc) ⟨[u, v], []⟩ = pure ([("self", u), (f, v)] : List (Str × Value)))
    (X : K.In s.heap) (hG : s.heap.Ns mainGlobals mg) (hB : s.heap.Ns builtinsNs mb) (hsup : mg ("super" : Str) = none) (hb : mb ("super" : Str) = bootBuiltins ("super" : Str)) (hlim : s.heap.NoLimit) {v : Value} (hroom : A.depth + 1 < recursionLimit)
    (hq : ∀ h' tk e d, OwnMade s.heap h' e C d f v → R (.ok (.ret (.ref e))) { s with heap := h', toks := tk }) :
    codeAny (model prog w) A (.call (.ref C) ⟨[v], []⟩) R s := by
  obtain ⟨nm, qq, N, bs, bm, sn, sub, ab, col, dd, k0, k1, k2, k3, k5, hC, hbm⟩ := T.cls
  obtain ⟨hp, g, dr, tk, os⟩ := s
  have k : ∀ b o, hp.get? b = some o → ((hp.push (kdv_tup [v])).push (excO C hp.objs.size)).get? b = some o := fun b o e => Heap.get?_push_of_some _ (Heap.get?_push_of_some _ e)
  have hget : ((hp.push (kdv_tup [v])).push (excO C hp.objs.size)).get? (hp.objs.size + 1) = some (excO C hp.objs.size) := by heap_get
  refine call_own PySem.F.excBase_ValueError (fun X => refsVE_contains X bm hbm) (X _ _ hC) (looks_findIn X T.iC) (fun self => bind_fn X self T.tI) (one_size v) ?_
  refine init1 (s := ⟨(hp.push (kdv_tup [v])).push (excO C hp.objs.size), g, dr, tk, os⟩) T hln hf noN hbd (X.keeps k) (hG.keeps k) (hB.keeps k) hsup hb (hlim.keeps k) hget (lookup_new X (Nat.le_succ _)) ?_ fun h' tk' dx t1 ⟨k', hx, dn, dne, hns⟩ => ?_
  · show A.depth + 1 < recursionLimit
    exact hroom
  · have old : ∀ b o, hp.get? b = some o → h'.get? b = some o := fun b o e => k' b o (Nat.ne_of_lt (Nat.lt_succ_of_lt (Heap.lt_size e))) (k b o e)
    have z : hp.objs.size + 1 + 1 ≤ dx := by
      first
        | (simpa only [Heap.size_push] using dn)
        | exact dn
        | (have q := dn; rw [Heap.size_push, Heap.size_push] at q; exact q)
    exact ⟨rfl, hq h' tk' (hp.objs.size + 1) dx ⟨old, Nat.le_succ _, ⟨_, _, hx, rfl, rfl, rfl, rfl⟩, Nat.le_trans (Nat.le_trans (Nat.le_succ _) (Nat.le_succ _)) z, dne, hns⟩⟩
theorem made0 {p1 q1 q2 q3 q4 q5 : Pos} (T : SupTxt K prog C fI cc cda q (prm0 p1) (bod0 q1 q2 q3 q4 q5) sco0) (hln : (q3.endLine == q4.line) = true)
    (X : K.In s.heap) (hG : s.heap.Ns mainGlobals mg) (hB : s.heap.Ns builtinsNs mb) (hsup : mg ("super" : Str) = none) (hb : mb ("super" : Str) = bootBuiltins ("super" : Str)) (hlim : s.heap.NoLimit) (hroom : A.depth + 1 < recursionLimit)
    (hq : ∀ h' tk e, OwnMade0 s.heap h' e C → R (.ok (.ret (.ref e))) { s with heap := h', toks := tk }) :
    codeAny (model prog w) A (.call (.ref C) ⟨[], []⟩) R s := by
  obtain ⟨nm, qq, N, bs, bm, sn, sub, ab, col, dd, k0, k1, k2, k3, k5, hC, hbm⟩ := T.cls
  obtain ⟨hp, g, dr, tk, os⟩ := s
  have k : ∀ b o, hp.get? b = some o → ((hp.push (kdv_tup [])).push (excO C hp.objs.size)).get? b = some o := fun b o e => Heap.get?_push_of_some _ (Heap.get?_push_of_some _ e)
  have hget : ((hp.push (kdv_tup [])).push (excO C hp.objs.size)).get? (hp.objs.size + 1) = some (excO C hp.objs.size) := by heap_get
  refine call_own PySem.F.excBase_ValueError (fun X => refsVE_contains X bm hbm) (X _ _ hC) (looks_findIn X T.iC) (fun self => bind_fn X self T.tI) (by rw [sizeLine_eq]; simp) ?_
  refine init0 (s := ⟨(hp.push (kdv_tup [])).push (excO C hp.objs.size), g, dr, tk, os⟩) T hln (X.keeps k) (hG.keeps k) (hB.keeps k) hsup hb (hlim.keeps k) hget (lookup_new X (Nat.le_succ _)) ?_ fun h' tk' t1 k' hx => ?_
  · show A.depth + 1 < recursionLimit
    exact hroom
  · have old : ∀ b o, hp.get? b = some o → h'.get? b = some o := fun b o e => k' b o (Nat.ne_of_lt (Nat.lt_succ_of_lt (Heap.lt_size e))) (k b o e)
    exact ⟨rfl, hq h' tk' (hp.objs.size + 1) ⟨old, Nat.le_succ _, ⟨_, _, hx, rfl, rfl, rfl, rfl⟩⟩⟩
end
end SupX
end PySem
namespace L2
open PySem PySem.Spec PyProof.Rows PySem.SupX
theorem relO_one {f : Str} {v : V} {v' : Value} (r : RelV v v') (g : Str) : RelO (List.lookup g [(f, v)]) (if g = f then some v' else none) := by
  by_cases hw : g = f
  · subst hw
    rw [if_pos rfl]
    have q : List.lookup g [(g, v)] = some v := by simp [List.lookup]
    rw [q]
    exact r
  · rw [if_neg hw]
    have qw : (g == f) = false := by simpa using hw
    have q2 : List.lookup g [(f, v)] = none := by simp [List.lookup, qw]
    rw [q2]
    trivial
section
variable {X : Cx} {C fI cc cda : Addr} {q x : Str}
def tMkS (C : Addr) (f : Str) (ta : TA) : St → Hp → XK → Prop := fun σ H Q => ta σ H fun vs H1 => ∃ v, vs = [v] ∧ ∀ d, H1 d = none → Q (.ref C) (some d) (upd H1 d (.xd [(f, v)]))
theorem pmk_s1 {f : Str} {p1 p2 q1 q2 q3 q4 q5 q6 r1 r2 r3 r4 : Pos} {a : Expr} {ta : TA} {p pos : Pos} {k : Nat} (T : SupTxt X.K X.prog C fI cc cda q (prm1 f p1 p2) (bod1 f q1 q2 q3 q4 q5 q6 r1 r2 r3 r4) (sco1 f)) (hln : (q3.endLine == q5.line) = true) (hf : f ≠ "self" ∧ f ≠ "super" ∧ f ≠ "__class__" ∧ (f == ("__debug__" : Str)) = false) (noN : PySem.W.findIn X.K (.ref C) f = some none)
    (hbd : ∀ (doc pm ct : Value) (an : Option Addr) (u v : Value), bindArgs (PySem.W.ksFn "__init__" q (prm1 f p1 p2) (bod1 f q1 q2 q3 q4 q5 q6 r1 r2 r3 r4) (sco1 f) .none .none doc pm an (.ref cda) ct cc) ⟨[u, v], []⟩ = pure ([("self", u), (f, v)] : List (Str × Value)))
    (hsup : X.mg ("super" : Str) = none) (gC : X.mg x = some (.ref C)) (hr : Room k X.A) (ha : PA X [a] ta) (hg : Gl X x) (hdb : (x == ("__debug__" : Str)) = false)
    (he : starEach (a :: []) X.env = (false, eval a X.env) :: starEach [] X.env) (hpl : (backTo pos (starEach [] X.env)).any (·.1) = false := by rfl) :
    PMk X (.Call (.Name x p) [a] [] pos) (tMkS C f ta) := by
  intro pins s σ H Q I h
  refine wpAny_Call_Name_kw (ld_glob I hg gC ?_ hdb)
  refine PySem.W.callWith_K (h₀ := X.base) I.ok.mod.kin T.kC (thn (ha.run pos pins s σ H _ I h) fun us s1 hh => ?_) he hpl
  obtain ⟨vs, H1, I1, r1, v, ev, q1⟩ := hh
  subst ev
  refine ⟨I1.kIn, ?_⟩
  cases r1 with
  | cons rv rn =>
    rename_i v' us'
    cases rn
    show wpAny _ _ (call (.ref C) [v']) _ _ _
    have hlim := I1.nolimit
    obtain ⟨mb, hB, hb⟩ := I1.mod.blt
    have hG := I1.mod.glob.keeps I1.bk
    have hB' := hB.keeps I1.bk
    obtain ⟨hp, g, dr, tk, os⟩ := s1
    refine wpAny_call (made1 T hln hf noN hbd I1.kIn hG hB' hsup (hb _ (by decide)) hlim (by have := hr.dp; omega) fun h' tk' e d M => ?_)
    show MkP X pins σ Q (.ref e) ⟨h', g, dr, tk', os⟩
    obtain ⟨oe, fv, hoe, hc, hd, hdat, h1⟩ := M.obj
    have hns := M.ns
    obtain ⟨G', g1, g2⟩ := restrict h' fun b => decide (b ≠ e)
    have gk : ∀ b, b ≠ e → G'.get? b = h'.get? b := fun b hb => g1 b (decide_eq_true hb)
    have ge : G'.get? e = none := g2 e (by simp)
    have old : ∀ b o, hp.get? b = some o → G'.get? b = some o := fun b o q => (gk b (Nat.ne_of_lt (Nat.lt_of_lt_of_le (Heap.lt_size q) M.new))).trans (M.keep b o q)
    have ob : ObjOk X.prog X.w (upd H1 d (.xd [(f, v)])) G' d (.xd [(f, v)]) :=
      ⟨_, hns.at (fun o q => (gk d M.dne).trans q), fun f => relO_one rv f⟩
    have J : Inv X pins σ (upd H1 d (.xd [(f, v)])) ⟨G', g, dr, tk', os⟩ := I1.laid (t' := tk') old M.dbig ob
    refine ⟨e, oe, fv, ⟨G', g, dr, tk', os⟩, _, .ref C, some d, rfl, J, fun b o q => ?_, ge, hoe, ⟨hc, hd⟩, hdat, h1, ?_, rfl, I1.bare, raises_own T.exC T.tyC, q1 d (I1.hok.fresh M.dbig)⟩
    · by_cases hb : b = e
      · have q' : G'.get? b = some o := q
        rw [hb, ge] at q'; cases q'
      · exact (gk b hb).symm.trans q
    · rw [upd_ne (Ne.symm M.dne)]
      exact I1.hok.fresh M.new
theorem pmk_s0 {p1 q1 q2 q3 q4 q5 : Pos} {p pos : Pos} {k : Nat} (T : SupTxt X.K X.prog C fI cc cda q (prm0 p1) (bod0 q1 q2 q3 q4 q5) sco0) (hln : (q3.endLine == q4.line) = true)
    (hsup : X.mg ("super" : Str) = none) (gC : X.mg x = some (.ref C)) (hr : Room k X.A) (hg : Gl X x) (hdb : (x == ("__debug__" : Str)) = false) :
    PMk X (.Call (.Name x p) [] [] pos) (fun _ H Q => Q (.ref C) none H) := by
  intro pins s σ H Q I h
  refine wpAny_Call_Name_kw (ld_glob I hg gC ?_ hdb)
  refine PySem.W.callWith_K0 I.kIn T.kC ?_
  have hlim := I.nolimit
  obtain ⟨mb, hB, hb⟩ := I.mod.blt
  have hG := I.mod.glob.keeps I.bk
  have hB' := hB.keeps I.bk
  obtain ⟨hp, g, dr, tk, os⟩ := s
  refine wpAny_call (made0 T hln I.kIn hG hB' hsup (hb _ (by decide)) hlim (by have := hr.dp; omega) fun h' tk' e M => ?_)
  show MkP X pins σ Q (.ref e) ⟨h', g, dr, tk', os⟩
  obtain ⟨oe, fv, hoe, hc, hd, hdat, h1⟩ := M.obj
  obtain ⟨G', g1, g2⟩ := restrict h' fun b => decide (b ≠ e)
  have gk : ∀ b, b ≠ e → G'.get? b = h'.get? b := fun b hb => g1 b (decide_eq_true hb)
  have ge : G'.get? e = none := g2 e (by simp)
  have old : ∀ b o, hp.get? b = some o → G'.get? b = some o := fun b o q => (gk b (Nat.ne_of_lt (Nat.lt_of_lt_of_le (Heap.lt_size q) M.new))).trans (M.keep b o q)
  have J : Inv X pins σ H ⟨G', g, dr, tk', os⟩ := I.kept (t' := tk') old
  refine ⟨e, oe, fv, ⟨G', g, dr, tk', os⟩, _, .ref C, none, rfl, J, fun b o q => ?_, ge, hoe, ⟨hc, hd⟩, hdat, h1, I.hok.fresh M.new, rfl, I.bare, raises_own T.exC T.tyC, h⟩
  by_cases hb : b = e
  · have q' : G'.get? b = some o := q
    rw [hb, ge] at q'; cases q'
  · exact (gk b hb).symm.trans q
end
end L2

/-! Mb2: raise, try .. except with several clauses (one class, or two in a tuple; with a name or without), isinstance and the field of a caught error. -/
namespace L2
open PySem PySem.Spec PyProof.Rows
def exmL (K : PySem.W.Frag) (cls : Value) : List Value → Option Bool
  | [c] => PySem.W.exmOne K cls c
  | cs => PySem.W.exmAny K cls cs
/-- an except clause's test of classes cs -/
def TstOk (X : Cx) (te : Expr) (cs : List Value) : Prop := ∀ (a : Addr) (pn : List (Addr × Obj)) (s : Shared) (σ : St) (H : Hp) (Q : Value → Shared → Prop) (E : Value → Shared → Prop), Inv (X.suite a pn) [] σ H s →
  (∀ (c : Value) (h' : Heap), (∀ b o, s.heap.get? b = some o → h'.get? b = some o) → (∀ cls b, PySem.W.Looks (model X.prog X.w) h' (typeOf (.ref a)) cls → exmL X.K cls cs = some b → PySem.W.Looks (model X.prog X.w) h' (excMatches (.ref a) c) b) → Q c { s with heap := h' }) →
  wpAny (model X.prog X.w) (X.A.mark (some (.ref a))) (eval te X.env) Q E s
theorem names_load {X : Cx} {a : Addr} {pn : List (Addr × Obj)} {s : Shared} {σ : St} {H : Hp} {x : Str} {c : Value} {np : Pos} {Q : Value → Shared → Prop} {E : Value → Shared → Prop} (I : Inv (X.suite a pn) [] σ H s) (hc : Names X x c) (q : Q c s) :
    wpAny (model X.prog X.w) (X.A.mark (some (.ref a))) (eval (.Name x np) X.env) Q E s := by
  obtain ⟨hg, hdbg, hm | ⟨hm, hv, hnn⟩⟩ := hc
  · exact ld_glob (X := X.suite a pn) I hg hm q hdbg
  · exact ld_blt (X := X.suite a pn) I hg hm hv q hnn hdbg
theorem tst_one {X : Cx} {x : Str} {c : Value} {np : Pos} (hc : Names X x c) : TstOk X (.Name x np) [c] := fun a pn s σ H Q E I q =>
  names_load I hc (q c s.heap (fun _ _ e => e) fun cls b LT e => PySem.W.exm_one I.kIn LT e)
theorem tst_two {X : Cx} {x y : Str} {c d : Value} {np np2 tpos : Pos} {kk : Nat} (hc : Names X x c) (hd : Names X y d) : TstOk X (.Tuple [.Name x np, .Name y np2] kk tpos) [c, d] := fun a pn s σ H Q E I q => by
  refine wpAny_Tuple ?_
  refine wpAny_items_cons (names_load I hc ?_)
  refine wpAny_items_cons (names_load I hd ?_)
  refine wpAny_items_nil ⟨by size_fits, ?_⟩
  have kp : ∀ b o, s.heap.get? b = some o → (s.heap.push { cls := .type "tuple", data := .seq [c, d].toArray }).get? b = some o := fun _ _ z => Heap.get?_push_of_some _ z
  exact q _ _ kp fun cls b LT e => PySem.W.exm_tup2 (I.kIn.keeps kp) LT (Heap.get?_push_size s.heap rfl) e
abbrev Cl := List Value × Option Nat × (Addr → Value → Option Addr → TS)
def clW (io : Option Nat) (ts : Addr → Value → Option Addr → TS) (D : Ends) (a : Addr) (cls : Value) (d : Option Addr) (σ : St) (H : Hp) : Prop :=
  match io with
  | none => ts a cls d D σ H
  | some i => ts a cls d { nx := fun σ' H' => D.nx (σ'.set i none) H', rt := D.rt, bk := fun σ' H' => D.bk (σ'.set i none) H', ct := fun σ' H' => D.ct (σ'.set i none) H' } (σ.set i (some (.ref a))) H
/-- what the clauses wish of an exception of the body, one after the other -/
def wCls (K : PySem.W.Frag) (Wout : WX) (D : Ends) : List Cl → WX
  | [] => Wout
  | (cs, io, ts) :: r => fun cls d σ H => ∃ b, exmL K cls cs = some b ∧ (b = true → ∀ a, H a = none → clW io ts D a cls d σ H) ∧ (b = false → wCls K Wout D r cls d σ H)
def NmOk (X : Cx) (nm : Option Str) (io : Option Nat) : Prop := (nm = none ∧ io = none) ∨ ∃ n i, nm = some n ∧ io = some i ∧ X.N[i]? = some n ∧ X.env.kindOf n = some .local
inductive ClsOk (X : Cx) : List ExceptHandler → List Cl → Prop
  | nil : ClsOk X [] []
  | cons {te : Expr} {cs : List Value} {nm : Option Str} {io : Option Nat} {ts : Addr → Value → Option Addr → TS} {b₀ : Stmt} {suite : List Stmt} {pos' : Pos} {hds : List ExceptHandler} {l : List Cl} (hc : TstOk X te cs) (hn : NmOk X nm io)
      (hsu : ∀ (a : Addr) (oe : Obj) (cls : Value) (d : Option Addr) (pn : List (Addr × Obj)), Zc cls d oe → (∃ vs, oe.data = .fields vs) → PSs (X.suite a ((a, oe) :: pn)) (b₀ :: suite) (ts a cls d)) (r : ClsOk X hds l) :
      ClsOk X (.ExceptHandler (some te) nm (b₀ :: suite) pos' :: hds) ((cs, io, ts) :: l)
theorem UpToSlots.more {h h1 h2 : Heap} (u : h.UpToSlots h1) (k : ∀ b o, h1.get? b = some o → h2.get? b = some o) : h.UpToSlots h2 := fun b o e n => let ⟨sl, q⟩ := u b o e n; ⟨sl, k _ _ q⟩
theorem Flying.more {B : Heap} {l : List Env} {e : Addr} {Z : Obj → Prop} {h h' : Heap} (f : PySem.HandSPX.FlyingZ B l e Z h) (k : ∀ b o, h.get? b = some o → h'.get? b = some o) : PySem.HandSPX.FlyingZ B l e Z h' := by
  obtain ⟨k1, k2, k3, oe, vs, T, oT, ts, he, hz, hd, h1, hn, hT, hTo, hTd, h3⟩ := f
  exact ⟨fun b o q => k _ _ (k1 b o q), k2, k3.of_keeps fun b o e _ => ⟨o, k _ _ e, rfl⟩, oe, vs, T, oT, ts, k _ _ he, hz, hd, h1, hn, hT, k _ _ hTo, hTd, h3⟩
section
variable {X : Cx} {body : List Stmt} {h₀ : ExceptHandler} {hds : List ExceptHandler} {l : List Cl} {pos : Pos} {tb : WX → TS} {Wout : WX}
theorem ps_try_cls (hN : X.N.Nodup) (hs : X.stack = X.env :: X.outer) (hf : X.env.frame = some X.env.locals) (tk : Takes X Wout)
    (hb : ∀ (W : WX) (pn : List (Addr × Obj)) (xe : Value → Shared → Prop), Takes (X.tr pn xe) W → PassesOwn (model X.prog X.w) X.A X.env xe → PSs (X.tr pn xe) body (tb W))
    (hh : ClsOk X (h₀ :: hds) l) : PS X (.Try body (h₀ :: hds) [] [] pos) (fun D σ H => tb (wCls X.K Wout D l) D σ H) := by
  refine ⟨fun pins s σ H D I h => ?_⟩
  have ok := I.ok
  have hfr : X.A.frames = some (X.env :: X.outer) := by rw [ok.frames, hs]
  refine wpAny_Try_except ?_
  refine wpAny_mono ((hb (wCls X.K Wout D l) (X.pn ++ pins) (fun e s₁ => wpAny (model X.prog X.w) X.A (noteFrame e X.env) (fun _ s₂ => wpAny (model X.prog X.w) X.A (setFlight e none) (fun _ s₃ =>
    wpAny (model X.prog X.w) X.A (handleBy e X.env (h₀ :: hds)) (SP X pins D) X.xe s₃) X.xe s₂) X.xe s₁) (fun u s' xx => ?_) PassesOwn.looking).run [] s σ H D (I.toTry _) h) (fun f s1 hsp => ?_) (fun e s1 he => he)
  · -- the catch
    obtain ⟨a, B, sI, pins', σ', H', cls, d, rfl, J', nb, up, sky, na, os, ag, w⟩ := xx
    have J : Inv X pins σ' H' sI := J'.ofTry ok
    have sky' : Sky B (X.env :: X.outer) a (Zc cls d) X.env.locals s'.heap := by rw [← hs]; exact sky
    show wpAny (model X.prog X.w) X.A (noteFrame (.ref a) X.env) _ _ _
    refine Sky.land Zc.steady hfr hf sky' fun h3 fl3 up3 => ?_
    have notFr : ∀ {h : Heap} {o : Obj} {vs : Array Value}, h.FunFrames B (X.env :: X.outer) → h.get? a = some o → o.data = .fields vs → a ∉ frs (X.env :: X.outer) := fun {h o vs} ff e dd hm => by
      obtain ⟨_, o', e', hnf⟩ := ff.mem hm
      rw [e] at e'; cases e'
      exact hnf _ dd
    obtain ⟨oe30, vs30, he30, hz30, hd30⟩ := fl3.there
    have nfr := notFr fl3.2.2.1 he30 hd30
    have nL : a ≠ X.env.locals := fun z => nfr (List.mem_filterMap.mpr ⟨X.env, List.mem_cons_self, by rw [hf, z]⟩)
    have nF : a ∉ X.fs := fun hm => by
      obtain ⟨e, he, q⟩ := List.mem_filterMap.mp hm
      exact nfr (List.mem_filterMap.mpr ⟨e, List.mem_cons_of_mem _ he, q⟩)
    have go : ∀ {hds' : List ExceptHandler} {l' : List Cl}, ClsOk X hds' l' → wCls X.K Wout D l' cls d σ' H' → ∀ (h3 : Heap), PySem.HandSPX.FlyingZ B (X.env :: X.outer) a (Zc cls d) h3 → sI.heap.UpToSlots h3 →
        wpAny (model X.prog X.w) X.A (handleBy (.ref a) X.env hds') (SP X pins D) X.xe { s' with heap := h3 } := by
      intro hds' l' hk
      induction hk with
      | nil =>
        intro w h3 fl3 up3
        refine wpAny_handleBy_nil ?_
        obtain ⟨k1, k2, k3, oe, vs, T, oT, ts', he, hz, hd, h1, hr⟩ := id fl3
        unfold PySem.passOn
        refine wpAny_bind (wpAny_field he hd h1 ?_)
        rw [if_neg (show ¬ ((Value.ref T == Value.none) = true) from by simp)]
        have fin : wpAny (model X.prog X.w) X.A (setFlight (.ref a) X.env.frame) (fun _ s4 => wpAny (model X.prog X.w) X.A (throw (.ref a) : Sem Flow) (SP X pins D) X.xe s4) X.xe { s' with heap := h3 } := by
          rw [hf]
          refine HandSPX.setFlight_upZ fl3 fun h4 hh4 up4 => wpAny_throw (tk _ _ ?_)
          exact ⟨a, B, sI, pins, σ', H', cls, d, rfl, J, nb, up3.trans up4, .inr (.inr (by rw [hs]; exact hh4)), na, os, ag, w⟩
        first
          | exact wpAny_bind (wpAny_pure (wpAny_bind fin))
          | exact wpAny_bind fin
      | @cons te cs nm io ts b₀ suite pos' hds2 l2 hc hn hsu r ih =>
        intro w h3 fl3 up3
        obtain ⟨b, hb1, hyes, hno⟩ := w
        have J3 : Inv X pins σ' H' { s' with heap := h3 } := J.landed nb fl3.1 up3 os ag
        obtain ⟨oe3, vs3, he3, hz3, hd3⟩ := fl3.there
        have S3 := J3.suite he3 hd3 na nL nF
        refine wpAny_handleBy_cons (codeAny_handlers_test ?_) (by intro q; cases q)
        refine hc a ((a, oe3) :: (X.pn ++ pins)) _ σ' H' _ _ S3 fun c h4 k4 LM => ?_
        dsimp only at k4 LM ⊢
        have LT : PySem.W.Looks (model X.prog X.w) h4 (typeOf (.ref a)) cls := fun A Q E s k q => wpAny_typeOf_ref (k _ _ (k4 _ _ he3)) (by rw [hz3.1]; exact q)
        have fl4 := Flying.more fl3 k4
        have up4 := UpToSlots.more up3 k4
        refine (LM cls b LT hb1).here ?_
        cases b with
        | true =>
          have hyes := hyes rfl a na
          rcases hn with ⟨rfl, rfl⟩ | ⟨n, i, rfl, rfl, hi, hln⟩
          · refine codeAny_handlers_suite ?_
            refine HandSPX.lands_againZ fl4 fun h5 fl5 up5 => ?_
            have J5 : Inv X pins σ' H' { s' with heap := h5 } := J.landed nb fl5.1 (up4.trans up5) os ag
            obtain ⟨oe5, vs5, he5, hz5, hd5⟩ := fl5.there
            have S5 := J5.suite he5 hd5 na nL nF
            refine wpAny_mono ((hsu a oe5 cls d (X.pn ++ pins) hz5 ⟨_, hd5⟩).run [] _ _ H' _ S5 hyes) (fun f s6 hsp => ?_) (fun _ _ z => False.elim z)
            cases f with
            | next =>
              obtain ⟨σ6, H6, S6, q6⟩ := hsp
              exact ⟨_, _, S6.unsuite ok, q6⟩
            | brk =>
              obtain ⟨σ6, H6, S6, q6⟩ := hsp
              exact ⟨_, _, S6.unsuite ok, q6⟩
            | cont =>
              obtain ⟨σ6, H6, S6, q6⟩ := hsp
              exact ⟨_, _, S6.unsuite ok, q6⟩
            | ret u =>
              obtain ⟨v6, σ6, H6, S6, r6, q6⟩ := hsp
              exact ⟨_, _, _, S6.unsuite ok, r6, q6⟩
          · refine codeAny_handlers_suite_as ?_
            refine HandSPX.lands_againZ fl4 fun h5 fl5 up5 => ?_
            have J5 : Inv X pins σ' H' { s' with heap := h5 } := J.landed nb fl5.1 (up4.trans up5) os ag
            obtain ⟨oe5, vs5, he5, hz5, hd5⟩ := fl5.there
            have S5 := J5.suite he5 hd5 na nL nF
            refine store_ok (X := X.suite a ((a, oe5) :: (X.pn ++ pins))) (v := .ref a) S5 hN hi (.inl hln) rfl (fun s5 S5 => ?_) (.inr hln)
            refine wpAny_mono ((hsu a oe5 cls d (X.pn ++ pins) hz5 ⟨_, hd5⟩).run [] s5 _ H' _ S5 hyes) (fun f s6 hsp => ?_) (fun _ _ z => False.elim z)
            have end_ : ∀ {σ6 : St} {H6 : Hp} {Q : Shared → Prop}, Inv (X.suite a ((a, oe5) :: (X.pn ++ pins))) [] σ6 H6 s6 → (∀ s7, Inv X pins (σ6.set i none) H6 s7 → Q s7) →
                wpAny (model X.prog X.w) X.A (do bindName X.env n .none; unbindBehindTheSuite X.env n pos') (fun _ s7 => Q s7) X.xe s6 := fun {σ6 H6 Q} S6 hq => gone_ok (S6.unsuite ok) hN hi hln hq
            cases f with
            | next =>
              obtain ⟨σ6, H6, S6, q6⟩ := hsp
              exact end_ S6 fun s7 J7 => ⟨_, _, J7, q6⟩
            | brk =>
              obtain ⟨σ6, H6, S6, q6⟩ := hsp
              exact end_ S6 fun s7 J7 => ⟨_, _, J7, q6⟩
            | cont =>
              obtain ⟨σ6, H6, S6, q6⟩ := hsp
              exact end_ S6 fun s7 J7 => ⟨_, _, J7, q6⟩
            | ret u =>
              obtain ⟨v6, σ6, H6, S6, r6, q6⟩ := hsp
              exact end_ S6 fun s7 J7 => ⟨_, _, _, J7, r6, q6⟩
        | false =>
          show wpAny _ X.A (handleBy (.ref a) X.env hds2) _ _ _
          exact ih (hno rfl) h4 fl4 up4
    exact go hh w h3 fl3 (up.trans up3)
  · cases f with
    | next =>
      obtain ⟨σ', H', J', q⟩ := hsp
      exact wpAny_execs_nil ⟨σ', H', J'.ofTry ok, q⟩
    | brk =>
      obtain ⟨σ', H', J', q⟩ := hsp
      exact ⟨σ', H', J'.ofTry ok, q⟩
    | cont =>
      obtain ⟨σ', H', J', q⟩ := hsp
      exact ⟨σ', H', J'.ofTry ok, q⟩
    | ret u =>
      obtain ⟨v, σ', H', J', r, q⟩ := hsp
      exact ⟨v, σ', H', J'.ofTry ok, r, q⟩
end
end L2

/-! Mb3: the plain rules of errors. -/
namespace MP
open PySem PySem.Spec PyProof.Rows L2 PySem.SupX
/-- what the written part says of the error classes -/
structure XC (K : PySem.W.Frag) (C : Addr) : Prop where
  hcl : (PySem.W.clsIn K C).isSome = true
  hga : PySem.W.findIn K (.ref C) "__getattribute__" = some (some (.builtin "BaseException.__getattribute__"))
  hgt : PySem.W.findIn K (.ref C) "__getattr__" = some none
  hs : PySem.W.subIn K (.ref C) (.type "BaseException") = some true
  hd : PySem.W.hasDictIn K C = true
  ha : PySem.W.findIn K (.ref C) "__class__" = some (some (.builtin "object.__class__"))
  hm : PySem.W.mroIn K C (.type "object") = some true
structure XF (K : PySem.W.Frag) (mg : Str → Option Value) (t : XT) : Prop where
  g : ∀ k ∈ t.ps, mg (clsNm k) = some (.ref (t.ct k))
  c : ∀ k ∈ t.ps, XC K (t.ct k)
  e : ∀ i ∈ t.ps, ∀ j ∈ t.ps, PySem.W.exmOne K (.ref (t.ct i)) (.ref (t.ct j)) = some (subNm i j)
  k : ∀ i ∈ t.ps, ∀ j ∈ t.ps, PySem.W.kitOne K (.ref (t.ct i)) (.ref (t.ct j)) = some (subNm i j)
  v : ∀ i ∈ t.ps, PySem.W.kitOne K (.ref (t.ct i)) (.type "ValueError") = some true
  f : ∀ i ∈ t.ps, PySem.W.findIn K (.ref (t.ct i)) (fldNm i) = some none
  hn : PySem.W.specialIn K (.builtin "object.__class__") "__get__" = some (some (.builtin "getset_descriptor.__get__"))
  htk : PySem.W.takesIn K (.builtin "object.__class__") = some true
  sup : mg "super" = none
/-- how an error of the class k is made -/
structure XM1 (K : PySem.W.Frag) (P : Program) (t : XT) (k : Nat) : Prop where
  ok : ∃ fI cc cda q p1 p2 q1 q2 q3 q4 q5 q6 r1 r2 r3 r4, SupTxt K P (t.ct k) fI cc cda q (prm1 (fldNm k) p1 p2) (bod1 (fldNm k) q1 q2 q3 q4 q5 q6 r1 r2 r3 r4) (sco1 (fldNm k)) ∧ (q3.endLine == q5.line) = true ∧
    ∀ (doc pm ct : Value) (an : Option Addr) (u v : Value), bindArgs (PySem.W.ksFn "__init__" q (prm1 (fldNm k) p1 p2) (bod1 (fldNm k) q1 q2 q3 q4 q5 q6 r1 r2 r3 r4) (sco1 (fldNm k)) .none .none doc pm an (.ref cda) ct cc) ⟨[u, v], []⟩ = pure ([("self", u), (fldNm k, v)] : List (Str × Value))
structure XM0 (K : PySem.W.Frag) (P : Program) (t : XT) (k : Nat) : Prop where
  ok : ∃ fI cc cda q p1 q1 q2 q3 q4 q5, SupTxt K P (t.ct k) fI cc cda q (prm0 p1) (bod0 q1 q2 q3 q4 q5) sco0 ∧ (q3.endLine == q4.line) = true
theorem XR.ext {K : PySem.W.Frag} {h h' : MH} {H H' : Hp} {t : XT} {e : Exn} {cls : Value} {d : Option Addr} (x : XR K H t e cls d) (r : R K h H) (y : Ext h H h' H') : XR K H' t e cls d := by
  obtain ⟨a, b, c⟩ := x
  refine ⟨a, b, ?_⟩
  rcases c with c | ⟨dv, dd, v, c1, c2, c3, c4⟩
  · exact .inl c
  · refine .inr ⟨dv, dd, v, c1, c2, (y.tmp dd _ c3 ?_).1, c4.mono y⟩
    cases q : h dd with
    | none => rfl
    | some o =>
      have z := r dd o q
      cases o with
      | lst ds => obtain ⟨_, ys, e, _⟩ := z; rw [c3] at e; cases e
      | dct kvs => rcases z.2 with ⟨kk, e, _⟩ | ⟨kk, e, _⟩ <;> (rw [c3] at e; cases e)
section
variable {X : Cx} {B : MH × Hp} {c : Cn} {pos pos2 p p2 : Pos} {t : XT} {k n : Nat} {x : Str}
theorem s_rse1 {a : Expr} {m : E} (hc : X.calm = true) (F : XF X.K X.mg t) (M : XM1 X.K X.prog t k) (hk : k ∈ t.ps) (hf : fldNm k ≠ "self" ∧ fldNm k ≠ "super" ∧ fldNm k ≠ "__class__" ∧ (fldNm k == ("__debug__" : Str)) = false) (hx : x = clsNm k) (hr : Room n X.A) (tk : Takes X (lW X.K B t c.xm)) (hg : Gl X x) (hdb : (x == ("__debug__" : Str)) = false) (ha : PE X a (lE X.K B (wE m c))) (hs : noStar a = true) :
    PS X (.Raise (some (.Call (.Name x p) [a] [] pos)) none pos2) (lS X.K B (wS (.rse k (.cons m .nil)) c)) := by
  obtain ⟨fI, cc, cda, q, p1, p2, q1, q2, q3, q4, q5, q6, r1, r2, r3, r4, T, hln, hbd⟩ := M.ok
  refine PS.imp (ps_raise hc tk (pmk_s1 T hln hf (F.f k hk) hbd F.sup (by rw [hx]; exact F.g k hk) hr (pa_one ha hs) hg hdb (star1 hs) (starAny (by rfl)))) fun D σ H ⟨σm, h, Fm, l, w, eo⟩ => ?_
  rw [wS, wEs] at w
  refine ⟨σm, h, _, l, w, fun d h1 H1 v q r1 e1 rv => ⟨v, rfl, fun dd nd => ?_⟩⟩
  rw [wEs] at q
  refine ⟨σm, h1, _, ⟨(l.re.mono e1).mono (.new (h := h1) nd), r1.new nd, (l.ex.trans e1).trans (.new nd)⟩, q, hk, rfl, .inr ⟨d, dd, v, rfl, rfl, upd_same, rv.mono (.new (h := h1) nd)⟩⟩
theorem s_rse0 (hc : X.calm = true) (F : XF X.K X.mg t) (M : XM0 X.K X.prog t k) (hk : k ∈ t.ps) (hx : x = clsNm k) (hr : Room n X.A) (tk : Takes X (lW X.K B t c.xm)) (hg : Gl X x) (hdb : (x == ("__debug__" : Str)) = false) :
    PS X (.Raise (some (.Call (.Name x p) [] [] pos)) none pos2) (lS X.K B (wS (.rse k .nil) c)) := by
  obtain ⟨fI, cc, cda, q, p1, q1, q2, q3, q4, q5, T, hln⟩ := M.ok
  refine PS.imp (ps_raise hc tk (pmk_s0 T hln F.sup (by rw [hx]; exact F.g k hk) hr hg hdb)) fun D σ H ⟨σm, h, Fm, l, w, eo⟩ => ?_
  rw [wS, wEs] at w
  exact ⟨σm, h, _, l, w, hk, rfl, .inl ⟨rfl, rfl⟩⟩
/-! ### try -/
inductive HsOk (X : Cx) (t : XT) (c : Cn) : Hs → List ExceptHandler → Prop
  | nil : HsOk X t c .nil []
  | cons0 {te : Expr} {cs : List Nat} {b₀ : Stmt} {suite : List Stmt} {pos' : Pos} {b : Ss} {hs : Hs} {hds : List ExceptHandler} (hc : TstOk X te (cs.map fun k => .ref (t.ct k))) (hl : cs.length = 1 ∨ cs.length = 2) (hps : ∀ k ∈ cs, k ∈ t.ps)
      (hsu : ∀ (a : Addr) (oe : Obj) (cls : Value) (d : Option Addr) (pn : List (Addr × Obj)) (B : MH × Hp), Zc cls d oe → (∃ vs, oe.data = .fields vs) → PSs (X.suite a ((a, oe) :: pn)) (b₀ :: suite) (lS X.K B (wSs b { c with xm := noX }))) (r : HsOk X t c hs hds) :
      HsOk X t c (.cons cs none b hs) (.ExceptHandler (some te) none (b₀ :: suite) pos' :: hds)
  | cons1 {te : Expr} {cs : List Nat} {n : Str} {i : Nat} {b₀ : Stmt} {suite : List Stmt} {pos' : Pos} {b : Ss} {hs : Hs} {hds : List ExceptHandler} (hc : TstOk X te (cs.map fun k => .ref (t.ct k))) (hl : cs.length = 1 ∨ cs.length = 2) (hps : ∀ k ∈ cs, k ∈ t.ps) (hi : X.N[i]? = some n) (hln : X.env.kindOf n = some .local)
      (hsu : ∀ (a : Addr) (oe : Obj) (cls : Value) (d : Option Addr) (pn : List (Addr × Obj)) (B : MH × Hp) (e : Exn), Zc cls d oe → (∃ vs, oe.data = .fields vs) → R X.K B.1 B.2 → XR X.K B.2 t e cls d → PSs (X.suite a ((a, oe) :: pn)) (b₀ :: suite) (lS X.K B (wSs b { c with xm := noX, cur := some (i, e, a) }))) (r : HsOk X t c hs hds) :
      HsOk X t c (.cons cs (some i) b hs) (.ExceptHandler (some te) (some n) (b₀ :: suite) pos' :: hds)
theorem exmL_of {K : PySem.W.Frag} {mg : Str → Option Value} {i : Nat} {cs : List Nat} (F : XF K mg t) (hi : i ∈ t.ps) (hps : ∀ k ∈ cs, k ∈ t.ps) (hl : cs.length = 1 ∨ cs.length = 2) : exmL K (.ref (t.ct i)) (cs.map fun k => .ref (t.ct k)) = some (cs.any (subNm i)) := by
  match cs, hl with
  | [a], _ =>
    show PySem.W.exmOne K _ _ = _
    rw [F.e i hi a (hps a (by simp))]; simp
  | [a, b], _ =>
    show PySem.W.exmAny K _ [_, _] = _
    simp only [PySem.W.exmAny, F.e i hi a (hps a (by simp)), F.e i hi b (hps b (by simp))]
    simp
  | [], h => simp at h
  | _ :: _ :: _ :: _, h => simp at h
def tsN (K : PySem.W.Frag) (t : XT) (c : Cn) (b : Ss) : Addr → Value → Option Addr → TS := fun _ _ _ D σ H => ∃ h, lS K (h, H) (wSs b { c with xm := noX }) D σ H
def tsA (K : PySem.W.Frag) (t : XT) (c : Cn) (i : Nat) (b : Ss) : Addr → Value → Option Addr → TS := fun a cls d D σ H => ∃ h e, R K h H ∧ XR K H t e cls d ∧ lS K (h, H) (wSs b { c with xm := noX, cur := some (i, e, a) }) D σ H
def clsOf (K : PySem.W.Frag) (t : XT) (c : Cn) : Hs → List Cl
  | .nil => []
  | .cons cs none b hs => (cs.map fun k => .ref (t.ct k), none, tsN K t c b) :: clsOf K t c hs
  | .cons cs (some i) b hs => (cs.map fun k => .ref (t.ct k), some i, tsA K t c i b) :: clsOf K t c hs
theorem HsOk.cls {hs : Hs} {hds : List ExceptHandler} (o : HsOk X t c hs hds) : ClsOk X hds (clsOf X.K t c hs) := by
  induction o with
  | nil => exact .nil
  | cons0 hc hl hps hsu r ih =>
    exact .cons hc (.inl ⟨rfl, rfl⟩) (fun a oe cls d pn hz hf => ⟨fun pins s σ H D I ⟨h, w⟩ => (hsu a oe cls d pn (h, H) hz hf).run pins s σ H D I w⟩) ih
  | cons1 hc hl hps hi hln hsu r ih =>
    exact .cons hc (.inr ⟨_, _, rfl, rfl, hi, hln⟩) (fun a oe cls d pn hz hf => ⟨fun pins s σ H D I ⟨h, e, rr, xr, w⟩ => (hsu a oe cls d pn (h, H) e hz hf rr xr).run pins s σ H D I w⟩) ih
theorem wHs_cls {F : XF X.K X.mg t} (hsub : c.sub = subNm) {hs : Hs} {hds : List ExceptHandler} (o : HsOk X t c hs hds) {Fm : MEnds} {D : Ends} {h0 : MH} {H0 : Hp} (eo : Eo X.K B h0 H0 Fm D) (xb : Ext B.1 B.2 h0 H0) {e : Exn} {σm : Sg} {σ : L2.St} {h : MH} {H : Hp} {cls : Value} {d : Option Addr} (l : Rl X.K (h0, H0) σm σ h H) (xr : XR X.K H t e cls d) (w : wHs hs c Fm e σm h) :
    wCls X.K (lW X.K B t c.xm) D (clsOf X.K t c hs) cls d σ H := by
  induction o with
  | nil =>
    rw [wHs] at w
    exact ⟨σm, h, e, ⟨l.re, l.r, xb.trans l.ex⟩, w, xr⟩
  | cons0 hc hl hps hsu r ih =>
    rw [wHs] at w
    refine ⟨_, by rw [xr.2.1]; exact exmL_of F xr.1 hps hl, fun hb a na => ?_, fun hb => ?_⟩
    · rw [if_pos (by rw [hsub]; exact hb)] at w
      exact ⟨h, σm, h, Fm, ⟨l.re, l.r, .refl _ _⟩, w, ⟨fun σm' h' σ' H' q l' x => eo.nx _ _ _ _ q ⟨l'.re, l'.r, xb.trans (l.ex.trans l'.ex)⟩ (l.ex.trans x), fun dd h' H' v q r x rv => eo.rt _ _ _ _ q r (xb.trans (l.ex.trans x)) rv,
        fun σm' h' σ' H' q l' x => eo.bk _ _ _ _ q ⟨l'.re, l'.r, xb.trans (l.ex.trans l'.ex)⟩ (l.ex.trans x), fun σm' h' σ' H' q l' x => eo.ct _ _ _ _ q ⟨l'.re, l'.r, xb.trans (l.ex.trans l'.ex)⟩ (l.ex.trans x)⟩⟩
    · rw [if_neg (by rw [hsub, hb]; decide)] at w
      exact ih w
  | @cons1 te cs n i b₀ suite pos' b hs hds hc hl hps hi hln hsu r ih =>
    rw [wHs] at w
    refine ⟨_, by rw [xr.2.1]; exact exmL_of F xr.1 hps hl, fun hb a na => ?_, fun hb => ?_⟩
    · rw [if_pos (by rw [hsub]; exact hb)] at w
      have w := w a (l.r.free na)
      refine ⟨h, e, l.r, xr, σm.set i (some (.ref a)), h, { Fm with nx := fun σ' h' => Fm.nx (σ'.set i none) h', bk := fun σ' h' => Fm.bk (σ'.set i none) h', ct := fun σ' h' => Fm.ct (σ'.set i none) h' }, ⟨l.re.set .ref, l.r, .refl _ _⟩, w, ⟨fun σm' h' σ' H' q l' x => ?_, fun dd h' H' v q r x rv => eo.rt _ _ _ _ q r (xb.trans (l.ex.trans x)) rv, fun σm' h' σ' H' q l' x => ?_, fun σm' h' σ' H' q l' x => ?_⟩⟩
      · exact eo.nx _ _ _ _ q ⟨l'.re.clear i, l'.r, xb.trans (l.ex.trans l'.ex)⟩ (l.ex.trans x)
      · exact eo.bk _ _ _ _ q ⟨l'.re.clear i, l'.r, xb.trans (l.ex.trans l'.ex)⟩ (l.ex.trans x)
      · exact eo.ct _ _ _ _ q ⟨l'.re.clear i, l'.r, xb.trans (l.ex.trans l'.ex)⟩ (l.ex.trans x)
    · rw [if_neg (by rw [hsub, hb]; decide)] at w
      exact ih w
theorem s_try {body : List Stmt} {h₀ : ExceptHandler} {hds : List ExceptHandler} {b : Ss} {hs : Hs} (hN : X.N.Nodup) (hst : X.stack = X.env :: X.outer) (hf : X.env.frame = some X.env.locals) (F : XF X.K X.mg t) (hsub : c.sub = subNm) (tk : Takes X (lW X.K B t c.xm))
    (hb : ∀ (B' : MH × Hp) (xm : Exn → Sg → MH → Prop) (pn : List (Addr × Obj)) (xe : Value → Shared → Prop), Takes (X.tr pn xe) (lW X.K B' t xm) → PassesOwn (model X.prog X.w) X.A X.env xe → PSs (X.tr pn xe) body (lS X.K B' (wSs b { c with xm := xm })))
    (hh : HsOk X t c hs (h₀ :: hds)) : PS X (.Try body (h₀ :: hds) [] [] pos) (lS X.K B (wS (.try b hs) c)) := by
  refine PS.imp (ps_try_cls (tb := fun W D σ H => ∃ σm h Fm B' xm, Rl X.K B' σm σ h H ∧ wSs b { c with xm := xm } Fm σm h ∧ Eo X.K B' h H Fm D ∧ ∀ cls d σ' H', lW X.K B' t xm cls d σ' H' → W cls d σ' H') hN hst hf tk
    (fun W pn xe tk' po => ⟨fun pins s σ H D I ⟨σm, h, Fm, B', xm, l, w, eo, hw⟩ => (hb B' xm pn xe (tk'.imp hw) po).run pins s σ H D I ⟨σm, h, Fm, l, w, eo⟩⟩) hh.cls) fun D σ H ⟨σm, h, Fm, l, w, eo⟩ => ?_
  rw [wS] at w
  refine ⟨σm, h, Fm, (h, H), _, ⟨l.re, l.r, .refl _ _⟩, w, ⟨fun σm' h' σ' H' q l' x => eo.nx _ _ _ _ q ⟨l'.re, l'.r, l.ex.trans l'.ex⟩ x, fun dd h' H' v q r x rv => eo.rt _ _ _ _ q r (l.ex.trans x) rv,
    fun σm' h' σ' H' q l' x => eo.bk _ _ _ _ q ⟨l'.re, l'.r, l.ex.trans l'.ex⟩ x, fun σm' h' σ' H' q l' x => eo.ct _ _ _ _ q ⟨l'.re, l'.r, l.ex.trans l'.ex⟩ x⟩, fun cls d σ' H' ⟨σm', h', e, l', w', xr⟩ => ?_⟩
  exact wHs_cls (F := F) hsub hh eo l.ex l' xr w'
/-! ### tests of except clauses -/
theorem t_cl1 {np : Pos} (F : XF X.K X.mg t) (hk : k ∈ t.ps) (hx : x = clsNm k) (hg : Gl X x) (hdb : (x == ("__debug__" : Str)) = false) : TstOk X (.Name x np) ([k].map fun k => .ref (t.ct k)) := tst_one ⟨hg, hdb, .inl (by rw [hx]; exact F.g k hk)⟩
theorem t_cl2 {np np2 tpos : Pos} {kk j : Nat} {y : Str} (F : XF X.K X.mg t) (hk : k ∈ t.ps) (hx : x = clsNm k) (hg : Gl X x) (hdb : (x == ("__debug__" : Str)) = false) (hj : j ∈ t.ps) (hy : y = clsNm j) (hg2 : Gl X y) (hdb2 : (y == ("__debug__" : Str)) = false) :
    TstOk X (.Tuple [.Name x np, .Name y np2] kk tpos) ([k, j].map fun k => .ref (t.ct k)) := tst_two ⟨hg, hdb, .inl (by rw [hx]; exact F.g k hk)⟩ ⟨hg2, hdb2, .inl (by rw [hy]; exact F.g j hj)⟩
/-! ### the caught error -/
theorem PS.imp' {X : Cx} {s : Stmt} {t t' : TS} (p : PS X s t) (f : ∀ D σ H, t' D σ H → t D σ H) : PS X s t' := ⟨fun pins s σ H D I h => p.run pins s σ H D I (f D σ H h)⟩
end
section
variable {X : Cx} {B : MH × Hp} {c : Cn} {pos pos2 p p2 p3 : Pos} {t : XT} {k i : Nat} {n x : Str} {a : Addr} {oe : Obj} {cls : Value} {d : Option Addr} {pn : List (Addr × Obj)} {e : Exn} {cs : List Nat}
theorem inst_of {s : Shared} {H : Hp} {σ : L2.St} {pins : List (Addr × Obj)} (I : Inv (X.suite a ((a, oe) :: pn)) pins σ H s) (hz : Zc cls d oe) (hf : ∃ vs, oe.data = .fields vs) (xr : XR X.K H t e cls d) : ∃ od, PySem.W.InstAt s.heap a oe (t.ct e.cls) od := by
  obtain ⟨ha, _⟩ := I.pin (a, oe) (List.mem_append_left _ List.mem_cons_self)
  obtain ⟨vs, hd⟩ := hf
  obtain ⟨_, hc, q⟩ := xr
  rcases q with ⟨_, rfl⟩ | ⟨dv, dd, v, _, rfl, eH, _⟩
  · exact ⟨none, ha, by rw [hz.1, hc], by unfold PySem.W.notCls; rw [hd] <;> rfl, by rw [hz.2]; trivial⟩
  · have hx : ObjOk X.prog X.w H s.heap dd (.xd [(fldNm e.cls, v)]) := I.hok dd _ eH
    obtain ⟨mA, hns, hr⟩ := hx
    obtain ⟨od, ho, hl⟩ := lookIn_ns hns
    exact ⟨some od, ha, by rw [hz.1, hc], by unfold PySem.W.notCls; rw [hd] <;> rfl, by rw [hz.2]; exact ho⟩
theorem kitAny_map {K : PySem.W.Frag} {T : Value} {f : Nat → Bool} : ∀ {cs : List Nat}, (∀ k ∈ cs, PySem.W.kitOne K T (.ref (t.ct k)) = some (f k)) → PySem.W.kitAny K T (cs.map fun k => .ref (t.ct k)) = some (cs.any f)
  | [], _ => rfl
  | k :: cs, h => by
    have ih := kitAny_map (cs := cs) fun j hj => h j (List.mem_cons_of_mem _ hj)
    show (match PySem.W.kitOne K T (.ref (t.ct k)) with | some true => some true | some false => PySem.W.kitAny K T (cs.map fun k => .ref (t.ct k)) | none => none) = _
    rw [h k List.mem_cons_self, List.any_cons]
    cases f k with
    | true => rfl
    | false => rw [Bool.false_or]; exact ih
def tCs (vs : List V) : TA := fun _ H Q => Q vs H
theorem n_nil : PA X [] (tCs []) := pa_nil
theorem n_cons {es : List Expr} {u : Value} {v : V} {vs : List V} (hg : Gl X x) (hm : X.mg x = some u) (r : RelV v u) (hes : PA X es (tCs vs)) (hd : (x == ("__debug__" : Str)) = false) : PA X (.Name x p :: es) (tCs (v :: vs)) := pa_cons (pe_glob hg hm r hd) hes
theorem ns_cons {es : List Expr} (F : XF X.K X.mg t) (hk : k ∈ t.ps) (hx : x = clsNm k) (hg : Gl (X.suite a pn) x) (hd : (x == ("__debug__" : Str)) = false) (hes : PA (X.suite a pn) es (tCs (cs.map fun k => .ref (t.ct k)))) : PA (X.suite a pn) (.Name x p :: es) (tCs ((k :: cs).map fun k => .ref (t.ct k))) :=
  n_cons (X := X.suite a pn) hg (by rw [hx]; exact F.g k hk) rfl hes hd
theorem vals_cls : ∀ {cs : List Nat} {us : List Value}, Vals (cs.map fun k => V.ref (t.ct k)) us → us = cs.map fun k => Value.ref (t.ct k)
  | [], us, r => by cases r; rfl
  | k :: cs, us, r => by
    cases r with
    | cons r q =>
      cases r
      rw [vals_cls q]; rfl
/-- isinstance(error, one class) -/
theorem x_is1 (F : XF X.K X.mg t) (hsub : c.sub = subNm) (hk : k ∈ t.ps) (hx : x = clsNm k) (hz : Zc cls d oe) (hf : ∃ vs, oe.data = .fields vs) (hr : R X.K B.1 B.2) (xr : XR X.K B.2 t e cls d) (hcur : c.cur = some (i, e, a)) (hi : X.N[i]? = some n) (hv : Vis X.env.scope n) (hnd : (n == ("__debug__" : Str)) = false) (hncd : (n == ("__classdict__" : Str)) = false) (hg : Gl X x) (hxd : (x == ("__debug__" : Str)) = false) (hgi : Gl X "isinstance") (hm : X.mg "isinstance" = none) :
    PE (X.suite a ((a, oe) :: pn)) (.Call (.Name "isinstance" p) [.Name n p2, .Name x p3] [] pos) (lE X.K B (wE (.xis i [k]) c)) := by
  refine PE.imp (pe_callB (X := X.suite a ((a, oe) :: pn)) (id := "isinstance") (r := fun vs H Q => vs = [.ref a, .ref (t.ct k)] ∧ XR X.K H t e cls d ∧ Q (.bl (subNm e.cls k)) H) ?_ hgi hm (by decide +kernel) (pa_cons (pe_var (X := X.suite a ((a, oe) :: pn)) hi hv hnd hncd) (pa_cons (pe_glob (X := X.suite a ((a, oe) :: pn)) (v := .ref (t.ct k)) hg (by show X.mg x = _; rw [hx]; exact F.g k hk) rfl hxd) pa_nil))) fun σ H Q ⟨σm, h, P, l, w, kk⟩ => ?_
  · intro pins s σ H xs us Q I r h
    obtain ⟨rfl, xr2, q⟩ := h
    cases r with
    | cons rx rr =>
      cases rr with
      | cons rt rr =>
        cases rr
        cases rx
        cases rt
        obtain ⟨od, J⟩ := inst_of I hz hf xr2
        have C := F.c e.cls xr2.1
        exact PySem.W.kia_one (PySem.W.kitx_exc C.hcl C.hga C.hgt C.hs C.ha F.hn F.htk C.hm) I.kIn J (F.k e.cls xr2.1 k hk) (fun z => nomatch z) fun tk => ⟨.bl _, H, I.kept (t' := tk) fun _ _ z => z, rfl, q⟩
  · rw [wE] at w
    obtain ⟨e', a', hc', hσ, q⟩ := w
    rw [hcur] at hc'
    cases hc'
    obtain ⟨v, ev, rv⟩ := l.re.at' i _ hσ
    refine ⟨v, ev, ⟨by rw [rv.eq_ref], xr.ext hr l.ex, kk _ h H _ (by simpa [hsub] using q) l.r (.refl _ _) .bl⟩⟩
/-- isinstance(error, ValueError) -/
theorem x_isV (F : XF X.K X.mg t) (hsub : c.sub = subNm) (hz : Zc cls d oe) (hf : ∃ vs, oe.data = .fields vs) (hr : R X.K B.1 B.2) (xr : XR X.K B.2 t e cls d) (hcur : c.cur = some (i, e, a)) (hi : X.N[i]? = some n) (hv : Vis X.env.scope n) (hnd : (n == ("__debug__" : Str)) = false) (hncd : (n == ("__classdict__" : Str)) = false) (hg : Gl X "ValueError") (hve : X.mg "ValueError" = none) (hgi : Gl X "isinstance") (hm : X.mg "isinstance" = none) :
    PE (X.suite a ((a, oe) :: pn)) (.Call (.Name "isinstance" p) [.Name n p2, .Name "ValueError" p3] [] pos) (lE X.K B (wE (.xis i [7]) c)) := by
  refine PE.imp (pe_callB (X := X.suite a ((a, oe) :: pn)) (id := "isinstance") (r := fun vs H Q => vs = [.ref a, .ty "ValueError"] ∧ XR X.K H t e cls d ∧ Q (.bl true) H) ?_ hgi hm (by decide +kernel) (pa_cons (pe_var (X := X.suite a ((a, oe) :: pn)) hi hv hnd hncd) (pa_cons (pe_bltn (X := X.suite a ((a, oe) :: pn)) (v := .ty "ValueError") hg hve PyProof.Rows.Boot.«ValueError» rfl) pa_nil))) fun σ H Q ⟨σm, h, P, l, w, kk⟩ => ?_
  · intro pins s σ H xs us Q I r h
    obtain ⟨rfl, xr2, q⟩ := h
    cases r with
    | cons rx rr =>
      cases rr with
      | cons rt rr =>
        cases rr
        cases rx
        cases rt
        obtain ⟨od, J⟩ := inst_of I hz hf xr2
        have C := F.c e.cls xr2.1
        exact PySem.W.kia_one (PySem.W.kitx_exc C.hcl C.hga C.hgt C.hs C.ha F.hn F.htk C.hm) I.kIn J (F.v e.cls xr2.1) (fun z => nomatch z) fun tk => ⟨.bl _, H, I.kept (t' := tk) fun _ _ z => z, rfl, q⟩
  · rw [wE] at w
    obtain ⟨e', a', hc', hσ, q⟩ := w
    rw [hcur] at hc'
    cases hc'
    obtain ⟨v, ev, rv⟩ := l.re.at' i _ hσ
    refine ⟨v, ev, ⟨by rw [rv.eq_ref], xr.ext hr l.ex, kk _ h H _ ?_ l.r (.refl _ _) .bl⟩⟩
    have e7 : subNm e.cls 7 = true := by simp [subNm]
    simpa [hsub, e7] using q
/-- isinstance(error, (classes)) -/
theorem x_isT {es : List Expr} {kk : Nat} (F : XF X.K X.mg t) (hsub : c.sub = subNm) (hps : ∀ k ∈ cs, k ∈ t.ps) (hes : PA (X.suite a ((a, oe) :: pn)) es (tCs (cs.map fun k => .ref (t.ct k)))) (hcz : cs.length ≤ 100) (hz : Zc cls d oe) (hf : ∃ vs, oe.data = .fields vs) (hr : R X.K B.1 B.2) (xr : XR X.K B.2 t e cls d) (hcur : c.cur = some (i, e, a)) (hi : X.N[i]? = some n) (hv : Vis X.env.scope n) (hnd : (n == ("__debug__" : Str)) = false) (hncd : (n == ("__classdict__" : Str)) = false) (hgi : Gl X "isinstance") (hm : X.mg "isinstance" = none) :
    PE (X.suite a ((a, oe) :: pn)) (.Call (.Name "isinstance" p) [.Name n p2, .Tuple es kk p3] [] pos) (lE X.K B (wE (.xis i cs) c)) := by
  refine PE.imp (pe_callB (X := X.suite a ((a, oe) :: pn)) (id := "isinstance") (r := fun vs H Q => ∃ tp, vs = [.ref a, .ref tp] ∧ H tp = some (.tup (cs.map fun k => V.ref (t.ct k))) ∧ XR X.K H t e cls d ∧ Q (.bl (cs.any (subNm e.cls))) H) ?_ hgi hm (by decide +kernel) (pa_cons (pe_var (X := X.suite a ((a, oe) :: pn)) hi hv hnd hncd) (pa_one (pe_tup hes) rfl))) fun σ H Q ⟨σm, h, P, l, w, kk⟩ => ?_
  · intro pins s σ H xs us Q I r h
    obtain ⟨tp, rfl, et, xr2, q⟩ := h
    cases r with
    | cons rx rr =>
      cases rr with
      | cons rt rr =>
        cases rr
        cases rx
        cases rt
        obtain ⟨od, J⟩ := inst_of I hz hf xr2
        have C := F.c e.cls xr2.1
        obtain ⟨_, us, ru, o, h1, h2, n, h3⟩ := (show ObjOk X.prog X.w H s.heap tp (.tup _) from I.hok tp _ et)
        obtain ⟨oc, od2, odt, osl⟩ := o
        dsimp only at h2 h3
        subst h2 h3
        have eu := vals_cls ru
        subst eu
        exact PySem.W.kia_tup (PySem.W.kitx_exc C.hcl C.hga C.hgt C.hs C.ha F.hn F.htk C.hm) I.kIn J h1 (kitAny_map fun k hk => F.k e.cls xr2.1 k (hps k hk)) (fun z => nomatch z) fun tk => ⟨.bl _, H, I.kept (t' := tk) fun _ _ z => z, rfl, q⟩
  · rw [wE] at w
    obtain ⟨e', a', hc', hσ, q⟩ := w
    rw [hcur] at hc'
    cases hc'
    obtain ⟨v, ev, rv⟩ := l.re.at' i _ hσ
    refine ⟨v, ev, ⟨by rw [List.length_map, sizeLine_eq]; omega, fun tp nt => ⟨tp, by rw [rv.eq_ref], upd_same, (xr.ext hr l.ex).ext l.r (.new nt), kk _ h _ _ ?_ (l.r.new nt) (.new nt) .bl⟩⟩⟩
    rw [hsub] at q
    exact q
/-- error.f -/
theorem x_fl {f : Str} (F : XF X.K X.mg t) (hz : Zc cls d oe) (hf : ∃ vs, oe.data = .fields vs) (hr : R X.K B.1 B.2) (xr : XR X.K B.2 t e cls d) (hcur : c.cur = some (i, e, a)) (hi : X.N[i]? = some n) (hv : Vis X.env.scope n) (hnd : (n == ("__debug__" : Str)) = false) (hncd : (n == ("__classdict__" : Str)) = false)
    (hb : attributeBase (.Name n p2) f X.env (eval (.Name n p2) X.env) = eval (.Name n p2) X.env) : PE (X.suite a ((a, oe) :: pn)) (.Attribute (.Name n p2) f pos) (lE X.K B (wE (.xfl i f) c)) := by
  refine ⟨fun pins s σ H Q I ⟨σm, h, P, l, w, kk⟩ => ?_⟩
  rw [wE] at w
  obtain ⟨e', a', dv, hc', hσ, hfn, hfl, q⟩ := w
  rw [hcur] at hc'
  cases hc'
  have C := F.c e.cls xr.1
  have xr2 := xr.ext hr l.ex
  have hno : PySem.W.findIn X.K (.ref (t.ct e.cls)) f = some none := by rw [← hfn]; exact F.f e.cls xr.1
  obtain ⟨v, ev, rv⟩ := l.re.at' i _ hσ
  refine (pe_xf (X := X) (C := t.ct e.cls) ⟨C.hga, C.hgt, C.hs, C.hd⟩ hno hz hf (pe_var (X := X.suite a ((a, oe) :: pn)) hi hv hnd hncd) hb).run pins s σ H Q I ⟨v, ev, by rw [rv.eq_ref], xr.2.1, ?_⟩
  rcases xr2.2.2 with ⟨z, _⟩ | ⟨dv2, dd, vv, c1, c2, c3, c4⟩
  · rw [hfl] at z; cases z
  · rw [hfl] at c1; cases c1
    exact ⟨dd, _, vv, c2, c3, by rw [← hfn]; simp [List.lookup], kk _ h H _ q l.r (.refl _ _) c4⟩
end
end MP

/-! Mb4: isinstance of plain values, built-in types. -/
namespace MP
open PySem PySem.Spec PyProof.Rows L2
def tyStr : Ty → String
  | .tuple => "tuple"
  | .int => "int"
  | .bool => "bool"
  | .str => "str"
  | .list => "list"
  | .dict => "dict"
section
variable {X : Cx} {B : MH × Hp} {c : Cn} {pos p p2 : Pos}
theorem ty_of {K : PySem.W.Frag} {h : MH} {H : Hp} {d : D} {v : V} {T : Ty} (r : R K h H) (rv : RV K H d v) (kn : knownTy h d = true) : ∃ t, TyX K H v (.type t) ∧ kitB t (tyStr T) = some (isTy h d T) := by
  cases d with
  | non => cases rv.eq_non; exact ⟨_, .base .non, by cases T <;> (simp only [isTy, tyStr]; decide +kernel)⟩
  | bl b => cases rv.eq_bl; exact ⟨_, .base (.bl b), by cases T <;> (simp only [isTy, tyStr]; decide +kernel)⟩
  | int i => cases rv.eq_int; exact ⟨_, .base (.int i), by cases T <;> (simp only [isTy, tyStr]; decide +kernel)⟩
  | str x => cases rv.eq_str; exact ⟨_, .base (.str x), by cases T <;> (simp only [isTy, tyStr]; decide +kernel)⟩
  | tup ds =>
    obtain ⟨a, xs, rfl, e, _, _⟩ := rv.eq_tup
    exact ⟨_, .base (.tup e), by cases T <;> (simp only [isTy, tyStr]; decide +kernel)⟩
  | lro ds => cases kn
  | ref a =>
    cases rv.eq_ref
    cases e : h a with
    | none => simp [knownTy, e] at kn
    | some o =>
      cases o with
      | lst ds =>
        obtain ⟨_, ys, eH, _⟩ := r a _ e
        exact ⟨_, .base (.lst eH), by cases T <;> (simp only [isTy, e, tyStr]; decide +kernel)⟩
      | dct kvs =>
        rcases (r a _ e).2 with ⟨kk, eH, _⟩ | ⟨kk, eH, _⟩
        · exact ⟨_, .base (.dK eH), by cases T <;> (simp only [isTy, e, tyStr]; decide +kernel)⟩
        · exact ⟨_, .base (.dT eH), by cases T <;> (simp only [isTy, e, tyStr]; decide +kernel)⟩
theorem r_isi {e : Expr} {m : E} {T : Ty} {x : Str} (hgi : Gl X "isinstance") (hmi : X.mg "isinstance" = none) (he : PE X e (lE X.K B (wE m c))) (hs : noStar e = true) (hg : Gl X x) (hm : X.mg x = none) (hv : bootBuiltins x = some (.type (tyStr T))) (hn : x ≠ "__name__" := by decide) (hd : (x == ("__debug__" : Str)) = false := by decide) :
    PE X (.Call (.Name "isinstance" p) [e, .Name x p2] [] pos) (lE X.K B (wE (.isi m [T]) c)) := by
  refine PE.imp (pe_callB call_isi hgi hmi (by decide +kernel) (pa_cons he (pa_cons (pe_bltn (v := .ty (tyStr T)) hg hm hv rfl hn hd) pa_nil) (star1 hs)) (by decide) (by decide) (star1 hs) rfl) fun σ H Q ⟨σm, h, P, l, w, k⟩ => ?_
  rw [wE] at w
  refine ⟨σm, h, _, l, w, fun d h1 H1 v q r1 e1 rv => ?_⟩
  obtain ⟨t, ty, kb⟩ := ty_of (T := T) r1 rv q.1
  refine ⟨v, .ty (tyStr T), _, _, _, rfl, .ty _, ty, kit_ty kb, k _ h1 H1 _ ?_ r1 e1 .bl⟩
  have q2 := q.2
  rw [List.any_cons, List.any_nil, Bool.or_false] at q2
  exact q2
end
end MP

/-! Mb5: min and max of a list of plain data, list.extend by a new list. -/
namespace MP
open PySem PySem.Spec PyProof.Rows L2
theorem plainIs {K : PySem.W.Frag} {H : Hp} : ∀ {ds : List D} {vs : List V} {us : List Value} {i : Nat} {u : Value}, RVs K H ds vs → Vals vs us → us[i]? = some u → ∃ d v, ds[i]? = some d ∧ vs[i]? = some v ∧ RV K H d v ∧ RelV v u
  | _, _, _, i, u, r, .nil, e => by simp at e
  | [], _, _, i, u, r, .cons q t, e => by cases r.eq_nil
  | d :: ds, v :: vs, w :: us, 0, u, r, .cons q t, e => by
    obtain ⟨x, xs, e1, r1, r2⟩ := r.eq_cons
    cases e1
    cases (show some w = some u from e)
    exact ⟨d, v, rfl, rfl, r1, q⟩
  | d :: ds, v :: vs, w :: us, i + 1, u, r, .cons q t, e => by
    obtain ⟨x, xs, e1, r1, r2⟩ := r.eq_cons
    cases e1
    obtain ⟨d', v', a, b, c, f⟩ := plainIs r2 t (i := i) e
    exact ⟨d', v', a, b, c, f⟩
section
variable {X : Cx} {B : MH × Hp} {c : Cn} {pos p apos cpos : Pos} {e o : Expr} {m : L} {mo : E}
theorem pdWsP : ∀ {ds : List D}, (∀ d ∈ ds, pure0 d = true) → pdWs (fun _ => none) ds = some (ds.map toP)
  | [], _ => rfl
  | d :: ds, pu => by
    rw [pdWs, (pure0_eq (pu d List.mem_cons_self)).1, pdWsP (ds := ds) fun d hd => pu d (List.mem_cons_of_mem _ hd)]; rfl
theorem readsAllP {pins : List (Addr × Obj)} {σ : L2.St} {H : Hp} {s : Shared} (I : Inv X pins σ H s) {ds : List D} {vs : List V} {us : List Value} (pu : ∀ d ∈ ds, pure0 d = true) (r : RVs X.K H ds vs) (q : Vals vs us) : ∃ as, ReadsAll s.heap us (ds.map toP) as :=
  readsWs I (f := fun _ => none) (fun _ _ e => by cases e) (pdWsP pu) r q
theorem depthP : ∀ {ds : List D}, (∀ d ∈ ds, pure0 d = true) → PyData.depthAll (ds.map toP) ≤ 64
  | [], _ => by rw [List.map_nil, PyData.depthAll]; omega
  | d :: ds, pu => by
    rw [List.map_cons, PyData.depthAll]
    have h1 := (pure0_eq (pu d List.mem_cons_self)).2
    have h2 := depthP (ds := ds) fun d hd => pu d (List.mem_cons_of_mem _ hd)
    omega
theorem getDmap (x : D) (xs : List D) (i : Nat) (hi : i < (x :: xs).length) : ((x :: xs).map toP).getD i .none = toP ((x :: xs).getD i .non) := by
  rw [List.getD_eq_getElem?_getD, List.getD_eq_getElem?_getD, List.getElem?_map, List.getElem?_eq_getElem hi]; rfl
theorem argBest_le (f : Nat → Nat → Bool) : ∀ k, PySem.argBest f k ≤ k
  | 0 => Nat.le_refl _
  | k + 1 => by
    unfold PySem.argBest
    have := argBest_le f k
    split <;> omega
theorem argBest_congr {f g : Nat → Nat → Bool} {n : Nat} (h : ∀ i j, i ≤ n → j ≤ n → f i j = g i j) : ∀ k, k ≤ n → PySem.argBest f k = PySem.argBest g k
  | 0, _ => rfl
  | k + 1, hk => by
    unfold PySem.argBest
    have ih := argBest_congr h k (by omega)
    rw [ih, h (k + 1) _ hk (by have := argBest_le g k; omega)]
theorem c_mins (hc : X.calm = true) (hu : X.A.units + 100 < cLine) : CallR X (.builtin "min") (lFL X.K fun k ds h Q => blsD .min k ds h Q) := by
  intro pins s σ H xs us Q I rs hh
  obtain ⟨h, v, ds, k', st, P, rfl, r, sq, w, k⟩ := hh
  cases ds with
  | nil => exact w.elim
  | cons x xs =>
  obtain ⟨pu, al, w⟩ := w
  obtain ⟨z, a, ys, rfl, cc, rv⟩ := sq.get r
  rw [Vals.ref1 rs]
  have fin : ∀ (its : List Value), Vals ys its → ∀ (i : Nat) (v : Value) (h' : Heap) (tk : Nat), i = PySem.argBest (fun i j => PySem.W.dataLt (((x :: xs).map toP).getD i .none) (((x :: xs).map toP).getD j .none)) xs.length → its[i]? = some v → (∀ b o, s.heap.get? b = some o → h'.get? b = some o) → EP X pins σ Q v { s with heap := h', toks := tk } := by
    intro its rv2 i v h' tk ei hi hk
    obtain ⟨d, y, e1, e2, r1, q1⟩ := plainIs rv rv2 hi
    refine ⟨y, H, I.kept hk, q1, k d h H y ?_ r (.refl _ _) r1⟩
    have e3 := (PySem.W.argBest_fold (fun a b => PySem.W.dataLt (toP a) (toP b)) D.non x xs xs.length (Nat.le_refl _)).2
    rw [List.take_length] at e3
    have e4 : i = PySem.argBest (fun i j => PySem.W.dataLt (toP ((x :: xs).getD i .non)) (toP ((x :: xs).getD j .non))) xs.length := by
      rw [ei]
      exact argBest_congr (n := xs.length) (fun i j hi hj => by rw [getDmap x xs i (by simp; omega), getDmap x xs j (by simp; omega)]) _ (Nat.le_refl _)
    rw [← e4, List.getD_eq_getElem?_getD, e1] at e3
    have : d = minD x xs := e3
    rw [this]; exact w
  cases k' with
  | true =>
    have cc : SqL X.K H a ys := by simpa using cc
    obtain ⟨its, rv2, hl, _⟩ := I.list cc
    obtain ⟨as, rd⟩ := readsAllP I pu rv rv2
    have hn : its.toArray.size = xs.length + 1 := by
      have := rv2.length; have := rv.length; simp only [List.length_cons, List.size_toArray] at *; omega
    refine PySem.call_min_walkH (PySem.W.iter_listW (A := X.A.in1) (I.ok.hd hc) hl.isList fun s₂ e W st hfp hw hk => ?_)
    refine ⟨_, _, _, _, _, _, _, s.heap, _, rfl, W, st, hfp, by omega, hw, hk, PySem.W.cmpIn_lt (A := X.A.in1) (xs := (x :: xs).map toP) rd al (by have := depthP pu; show X.A.units + 1 + _ < _; omega), fun v s' hP m => ?_⟩
    obtain ⟨h', tk, rfl, hk'⟩ := PySem.W.moved_old e rfl m
    have e1 : its.toArray.size - 1 = xs.length := by omega
    refine fin its rv2 _ v h' tk rfl ?_ hk'
    rw [← e1]
    simpa using hP
  | false =>
    have cc : SqT X.K H a ys := SqT.of (by simpa using cc)
    obtain ⟨its, rv2, hl, _⟩ := I.tuple cc
    obtain ⟨as, rd⟩ := readsAllP I pu rv rv2
    have hn : its.toArray.size = xs.length + 1 := by
      have := rv2.length; have := rv.length; simp only [List.length_cons, List.size_toArray] at *; omega
    refine PySem.call_min_walkH (PySem.W.iter_tupleW (A := X.A.in1) (I.ok.hd hc) (vs := its.toArray) (by obtain ⟨o, e, c, n, d⟩ := hl; exact ⟨o, e, c, n, d⟩) fun s₂ e W st hfp hw hk => ?_)
    refine ⟨_, _, _, _, _, _, _, s.heap, _, rfl, W, st, hfp, by omega, hw, hk, PySem.W.cmpIn_lt (A := X.A.in1) (xs := (x :: xs).map toP) rd al (by have := depthP pu; show X.A.units + 1 + _ < _; omega), fun v s' hP m => ?_⟩
    obtain ⟨h', tk, rfl, hk'⟩ := PySem.W.moved_old e rfl m
    have e1 : its.toArray.size - 1 = xs.length := by omega
    refine fin its rv2 _ v h' tk rfl ?_ hk'
    rw [← e1]
    simpa using hP
theorem c_maxs (hc : X.calm = true) (hu : X.A.units + 100 < cLine) : CallR X (.builtin "max") (lFL X.K fun k ds h Q => blsD .max k ds h Q) := by
  intro pins s σ H xs us Q I rs hh
  obtain ⟨h, v, ds, k', st, P, rfl, r, sq, w, k⟩ := hh
  cases ds with
  | nil => exact w.elim
  | cons x xs =>
  obtain ⟨pu, al, w⟩ := w
  obtain ⟨z, a, ys, rfl, cc, rv⟩ := sq.get r
  rw [Vals.ref1 rs]
  have fin : ∀ (its : List Value), Vals ys its → ∀ (i : Nat) (v : Value) (h' : Heap) (tk : Nat), i = PySem.argBest (fun i j => PySem.W.dataLt (((x :: xs).map toP).getD j .none) (((x :: xs).map toP).getD i .none)) xs.length → its[i]? = some v → (∀ b o, s.heap.get? b = some o → h'.get? b = some o) → EP X pins σ Q v { s with heap := h', toks := tk } := by
    intro its rv2 i v h' tk ei hi hk
    obtain ⟨d, y, e1, e2, r1, q1⟩ := plainIs rv rv2 hi
    refine ⟨y, H, I.kept hk, q1, k d h H y ?_ r (.refl _ _) r1⟩
    have e3 := (PySem.W.argBest_fold (fun a b => PySem.W.dataLt (toP b) (toP a)) D.non x xs xs.length (Nat.le_refl _)).2
    rw [List.take_length] at e3
    have e4 : i = PySem.argBest (fun i j => PySem.W.dataLt (toP ((x :: xs).getD j .non)) (toP ((x :: xs).getD i .non))) xs.length := by
      rw [ei]
      exact argBest_congr (n := xs.length) (fun i j hi hj => by rw [getDmap x xs i (by simp; omega), getDmap x xs j (by simp; omega)]) _ (Nat.le_refl _)
    rw [← e4, List.getD_eq_getElem?_getD, e1] at e3
    have : d = maxD x xs := e3
    rw [this]; exact w
  cases k' with
  | true =>
    have cc : SqL X.K H a ys := by simpa using cc
    obtain ⟨its, rv2, hl, _⟩ := I.list cc
    obtain ⟨as, rd⟩ := readsAllP I pu rv rv2
    have hn : its.toArray.size = xs.length + 1 := by
      have := rv2.length; have := rv.length; simp only [List.length_cons, List.size_toArray] at *; omega
    refine PySem.call_max_walkH (PySem.W.iter_listW (A := X.A.in1) (I.ok.hd hc) hl.isList fun s₂ e W st hfp hw hk => ?_)
    refine ⟨_, _, _, _, _, _, _, s.heap, _, rfl, W, st, hfp, by omega, hw, hk, PySem.W.cmpIn_gt (A := X.A.in1) (xs := (x :: xs).map toP) rd al (by have := depthP pu; show X.A.units + 1 + _ < _; omega), fun v s' hP m => ?_⟩
    obtain ⟨h', tk, rfl, hk'⟩ := PySem.W.moved_old e rfl m
    have e1 : its.toArray.size - 1 = xs.length := by omega
    refine fin its rv2 _ v h' tk rfl ?_ hk'
    rw [← e1]
    simpa using hP
  | false =>
    have cc : SqT X.K H a ys := SqT.of (by simpa using cc)
    obtain ⟨its, rv2, hl, _⟩ := I.tuple cc
    obtain ⟨as, rd⟩ := readsAllP I pu rv rv2
    have hn : its.toArray.size = xs.length + 1 := by
      have := rv2.length; have := rv.length; simp only [List.length_cons, List.size_toArray] at *; omega
    refine PySem.call_max_walkH (PySem.W.iter_tupleW (A := X.A.in1) (I.ok.hd hc) (vs := its.toArray) (by obtain ⟨o, e, c, n, d⟩ := hl; exact ⟨o, e, c, n, d⟩) fun s₂ e W st hfp hw hk => ?_)
    refine ⟨_, _, _, _, _, _, _, s.heap, _, rfl, W, st, hfp, by omega, hw, hk, PySem.W.cmpIn_gt (A := X.A.in1) (xs := (x :: xs).map toP) rd al (by have := depthP pu; show X.A.units + 1 + _ < _; omega), fun v s' hP m => ?_⟩
    obtain ⟨h', tk, rfl, hk'⟩ := PySem.W.moved_old e rfl m
    have e1 : its.toArray.size - 1 = xs.length := by omega
    refine fin its rv2 _ v h' tk rfl ?_ hk'
    rw [← e1]
    simpa using hP
theorem q_mins (hc : X.calm = true) (hu : X.A.units + 100 < cLine) (hg : Gl X "min") (hm : X.mg "min" = none) (ha : PE X e (lL X.K B (wL m c))) (hs : noStar e = true) : PE X (.Call (.Name "min" p) [e] [] pos) (lE X.K B (wE (.bls .min m) c)) := r_blsB (c_mins hc hu) hg hm boot_min ha hs (by decide) (by decide)
theorem q_maxs (hc : X.calm = true) (hu : X.A.units + 100 < cLine) (hg : Gl X "max") (hm : X.mg "max" = none) (ha : PE X e (lL X.K B (wL m c))) (hs : noStar e = true) : PE X (.Call (.Name "max" p) [e] [] pos) (lE X.K B (wE (.bls .max m) c)) := r_blsB (c_maxs hc hu) hg hm boot_max ha hs (by decide) (by decide)
theorem q_ext (ho : PE X o (lE X.K B (wE mo c))) (ha : PE X e (lN X.K B (wL m c))) (hs : noStar e = true) (hb : attributeBase o "extend" X.env (eval o X.env) = eval o X.env) (hl : (apos.endLine == cpos.line) = true) :
    PE X (.Call (.Attribute o "extend" apos) [e] [] cpos) (lE X.K B (wE (.extl mo m) c)) := by
  refine (pe_bm F.plainAttrs_list F.slot_list_extend F.type_list_extend mt_extend ho (pa_one ha hs) hb (starFew (es := [e]) (by simp [hs]) (by simp)) hl (star1 hs) rfl).imp fun σ H Q ⟨σm, h, P, l, w, k⟩ => ?_
  rw [wE] at w
  refine ⟨σm, h, _, l, w, fun d h1 H1 v q r1 e1 rv => ⟨onT_tyL r1 rv q.1, σm, h1, _, l.step r1 e1, q.2, fun ds h2 H2 a xs q2 r2 e2 n1 n2 ea rvs z => ?_⟩⟩
  obtain ⟨_, w⟩ := q2
  obtain ⟨b, zs, rfl, eb⟩ := q.1
  cases rv.eq_ref
  unfold extD at w
  simp only at w
  split at w
  · rename_i ys eys
    obtain ⟨z3, qs, eH, rq⟩ := lst_at r2 eys
    obtain ⟨a1, a2⟩ := set_lst r2 eys (rq.append rvs) (by rw [List.length_append]; exact w.1)
    exact ⟨b, a, qs, xs, rfl, rfl, eH, ea, by rw [rq.length, rvs.length]; exact w.1, k _ _ _ _ w.2 a1 ((e1.trans e2).trans a2) .non⟩
  · exact w.elim
end
end MP

/-! Mc1: the end: the law called behind the top; what the top leaves of the error classes. -/
namespace L2
open PySem PySem.Spec PyProof.Rows
theorem law_callG {P : Program} {w : World} {K : PySem.W.Frag} {mg mb : Str → Option Value} {CX : CXT} {k : Nat} {fa a : Addr} {fd : FuncData} {x : Str} {sp : Sp} {s₁ : Shared} {vs : List Value} {ns : List Int}
    (KX : K.In s₁.heap) (hns : s₁.heap.Ns mainGlobals mg) (hb : s₁.heap.Ns builtinsNs mb) (hbb : ∀ x : Str, x ≠ "__name__" → mb x = bootBuiltins x) (hlim : s₁.heap.NoLimit) (hg : s₁.gens = #[])
    (ha : s₁.heap.get? a = some { cls := .type "list", data := .seq vs.toArray }) (hi : IntsAre vs ns) (hl : ns.length ≤ sizeLine) (hr : Room k callerA)
    (F : ∀ base : Heap, K.In base → base.Ns mainGlobals mg → FnG P w K mg base CX k fa fd [x] sp) (hbind : ∀ (s : Shared) (u : Value), BindsTo s fd ⟨[u], []⟩ [(x, u)])
    (hsp : ∀ H : Hp, Only H → MP.SqF K H a (ns.map V.int) → sp [.ref a] H (fun v _ => v = .bl true) fun _ _ _ => False)
    (hCX : ∀ H e s', CX [] H s₁ (fun _ _ _ => False) e s' → False) :
    codeAny (model P w) callerA (.call (.ref fa) ⟨[.ref a], []⟩) (fun r s' => r = .ok (.ret (.bool true)) ∧ OldK s₁.heap s'.heap ∧ s'.os = s₁.os ∧ AllBare s'.gens) s₁ := by
  have rv := vals_ints hi
  have lenV := hi.length
  have core : ∀ H : Hp, Only H → MP.SqF K H a (ns.map V.int) → HOk P w H s₁.heap → (∀ b, H b ≠ none → b = a) → (H a ≠ none → K.lookup a = none) →
      codeAny (model P w) callerA (.call (.ref fa) ⟨[.ref a], []⟩) (fun r s' => r = .ok (.ret (.bool true)) ∧ OldK s₁.heap s'.heap ∧ s'.os = s₁.os ∧ AllBare s'.gens) s₁ := by
    intro H hO hS hok hA hK
    have base_of : ∀ {b : Addr} {o : Obj}, s₁.heap.get? b = some o → H b = none → (hidT s₁.heap H).get? b = some o := fun e n => hidT_get e n
    have noA : ∀ {b : Addr} {o : Obj} {es : Array DictEntry} {ep : Nat}, s₁.heap.get? b = some o → o.data = .dict es ep → H b = none := fun {b o es ep} e d => by
      cases q : H b with
      | none => rfl
      | some u =>
        have e' : b = a := hA b (by rw [q]; simp)
        subst e'
        rw [ha] at e; cases e
        have d' : Data.seq vs.toArray _ = Data.dict es ep := d
        cases d'
    have nsK : ∀ {b : Addr} {m : Str → Option Value}, s₁.heap.Ns b m → (hidT s₁.heap H).Ns b m := fun {b m} ⟨o, es, ep, e, d, r⟩ => ⟨o, es, ep, base_of e (noA e d), d, r⟩
    have hKb : K.In (hidT s₁.heap H) := fun b o e => base_of (KX b o e) (by
      cases q : H b with
      | none => rfl
      | some u =>
        have e' : b = a := hA b (by rw [q]; simp)
        subst e'
        rw [hK (by rw [q]; simp)] at e; cases e)
    have hM : Mod K mg (hidT s₁.heap H) := ⟨hKb, nsK hns, ⟨mb, nsK hb, hbb⟩, let ⟨mc, h1, h2⟩ := hlim; ⟨mc, nsK h1, h2⟩⟩
    have e0 : Env0 P w K mg (hidT s₁.heap H) callerA [] s₁ H := ⟨rfl, hM, fun b o e => of_hidT e, Nat.le_of_eq (hidT_size _ _), trivial, fun b hb => absurd (show b ∈ ([] : List Addr) from hb) (by simp), hok, .of_eq hg⟩
    refine codeAny_mono ((F _ hKb (nsK hns)).run callerA [] s₁ H ⟨[.ref a], []⟩ [.ref a] [.ref a] _ _ hr rfl e0 (hbind s₁ (.ref a)) (.cons rfl .nil) (hsp H hO hS)) fun r s' h => ?_
    cases r with
    | error e => exact (hCX H e s' h).elim
    | ok fl =>
      cases fl with
      | next => exact False.elim h
      | brk => exact False.elim h
      | cont => exact False.elim h
      | ret u =>
        obtain ⟨v, H', os, bare, un, hok', r', q⟩ := h
        have q' : v = .bl true := q
        subst q'
        obtain rfl : u = Value.bool true := r'
        refine ⟨rfl, OldK.of_keep fun b o e => ?_, os, bare⟩
        cases q : H b with
        | none => exact un.keep b o e q (by intro z; exact absurd (show b ∈ ([] : List Addr) from z) (by simp)) (by simp)
        | some u =>
          rcases hO b with z | ⟨ob, xs, z⟩
          · rw [q] at z; cases z
          · have z2 := un.frzs b ob _ z
            obtain ⟨e1, _⟩ := hok b _ z
            obtain ⟨e2, _⟩ := hok' b _ z2
            rw [e] at e1; cases e1
            exact e2
  cases hk : K.lookup a with
  | some o =>
    have e := KX a o hk
    rw [ha] at e
    cases e
    refine core (fun _ => none) (fun _ => .inl rfl) (.inr ⟨_, vs.toArray, _, hk, rfl, rfl, rfl, by rw [List.size_toArray, lenV]; exact hl, by simpa using rv⟩) (fun b u z => by have z' : (none : Option HO) = some u := z; cases z') (fun b z => absurd rfl z) fun z => absurd rfl z
  | none =>
    refine core (fun b => if b = a then some (.frz { cls := .type "list", data := .seq vs.toArray } (.lst (ns.map V.int))) else none) (fun b => ?_) (.inl ⟨{ cls := .type "list", data := .seq vs.toArray }, if_pos rfl⟩) (fun b u z => ?_) (fun b z => ?_) fun _ => hk
    · by_cases hb : b = a
      · exact .inr ⟨_, _, if_pos hb⟩
      · exact .inl (if_neg hb)
    · by_cases hb : b = a
      · have z' := (if_pos hb).symm.trans z
        cases z'
        subst hb
        exact ⟨ha, by rw [List.length_map]; exact hl, vs, _, rv, ha⟩
      · have z' := (if_neg hb).symm.trans z
        cases z'
    · by_cases hb : b = a
      · exact hb
      · exact absurd (if_neg hb) z
theorem walk_ofEG {l : PySem.W.OpenLaw} {n k : Nat} {q : Program} {loose : List Str} {XP : (Str → Option Value) → Heap → Prop} {YP : World → Heap → Prop} {d : DefRec} {CX : World → CXT} {x : Str}
    (hn : l.most = some n) (hn2 : n ≤ sizeLine) (hdf : d.params.defaults = []) (hr : Room k callerA)
    (F : ∀ (w : World) (mg : Str → Option Value) (fa : Addr) (h : Heap), YP w h → h.Ns mainGlobals mg → mg d.name = some (.ref fa) →
      ∃ (K : PySem.W.Frag) (fd : FuncData) (sp : Sp), K.In h ∧ (∀ (s : Shared) (u : Value), BindsTo s fd ⟨[u], []⟩ [(x, u)]) ∧
        (∀ (H : Hp) (a : Addr) (ns : List Int), ns.length ≤ n → Only H → MP.SqF K H a (ns.map V.int) → sp [.ref a] H (fun v _ => v = .bl true) fun _ _ _ => False) ∧
        ∀ base : Heap, K.In base → base.Ns mainGlobals mg → FnG l.prog w K mg base (CX w) k fa fd [x] sp)
    (hCX : ∀ (w : World) (H : Hp) (s : Shared) (e : Value) (s' : Shared), CX w [] H s (fun _ _ _ => False) e s' → False) :
    PySem.W.WalkO q loose XP YP l.row.toRowW d [] (fun f vs => PySem.call f vs) := by
  refine Att.attach_call hn hdf fun w s₀ s₁ mg mb fa o pm cd doc a vs ns G Y ho hd hcd hmg hobj hints hlen hg => ?_
  obtain ⟨K, fd, sp, KX, hb, hsp, hF⟩ := F w mg fa _ Y G.T.g hmg
  exact law_callG KX G.T.g G.T.b G.T.builtins G.T.nolimit hg hobj hints (Nat.le_trans hlen hn2) hr hF hb (fun H hO hS => hsp H a ns hlen hO hS) fun H e s' => hCX w H s₁ e s'
end L2
namespace MP
open PySem PySem.Spec PyProof.Rows L2 PySem.SupX He
/-- the law's promise as the layer's -/
theorem law_sp {K : PySem.W.Frag} {t : XT} {m : MSp} {n : Nat} {H : Hp} {a : Addr} {ns : List Int} (hn : ns.length ≤ n) (hn2 : n ≤ sizeLine) (hm : m [.lro (ns.map D.int)] (fun _ => none) (fun d _ => d = .bl true) (fun _ _ => False)) (hS : SqF K H a (ns.map V.int)) :
    lSp K t 1 m [.ref a] H (fun v _ => v = .bl true) fun _ _ _ => False :=
  ⟨fun _ => none, _, _, _, (fun b o e => by cases e), .cons (.lro hS (RVs.of_ints ns) (by rw [List.length_map]; omega)) .nil, rfl, hm, fun d h' H' v q r e rv => by subst q; exact rv.eq_bl, fun e h' H' cls d q _ _ _ => q⟩
/-! ### the error classes behind the top -/
def xIa (K : PySem.W.Frag) (k : Nat) : Addr := ma K (ga K (clsNm k)) "__init__"
def xCl (K : PySem.W.Frag) (k : Nat) : Addr × Addr := match K.lookup (xIa K k) with
  | some ⟨_, _, .func fd, _⟩ => (match fd.closure, fd.code with
    | [(_, cc)], .ref cda => (cc, cda)
    | _, _ => (0, 0))
  | _ => (0, 0)
abbrev FnX : Type := Option (Str × Str × Arguments × FuncBody × Scope × Addr × List Str × Addr)
def fnX (K : PySem.W.Frag) (k : Nat) : FnX := match K.lookup (xIa K k) with
  | some ⟨_, _, .func fd, _⟩ => some (fd.name, fd.qualname, fd.params, fd.body, fd.scope, fd.globals, fd.closure.map (·.1), fd.builtins)
  | _ => none
structure XD where
  k : Nat
  qual : Str
  st : Stmt
def XD.val (d : XD) : FnX := some ("__init__", d.qual, defArgs d.st, .stmts (defBody d.st), defScope d.st, mainGlobals, ["__class__"], builtinsNs)
def veB (K : PySem.W.Frag) (C : Addr) : Bool := match K.lookup C with
  | some ⟨.type "type", _, .cls cd, sl⟩ => (match cd.mro, sl.toList with
    | .ref C' :: bm, [_, _, _, _, some (.builtin n), _] => C' == C && n == "ValueError.__new__" && !cd.hasDel && cd.hasDict && PySem.HandSPX.refsVE bm
    | _, _ => false)
  | _ => false
theorem veB_ok {K : PySem.W.Frag} {C : Addr} (q : veB K C = true) : ∃ nm q N bs bm sn sub ab col dd k0 k1 k2 k3 k5, K.lookup C = some (excClassObj nm q C N bs bm true sn sub ab col dd k0 k1 k2 k3 k5 "ValueError.__new__") ∧ PySem.HandSPX.refsVE bm = true := by
  unfold veB at q
  split at q
  · rename_i dd cd sl ho
    split at q
    · rename_i C' bm k0 k1 k2 k3 n k5 hm hs
      simp only [Bool.and_eq_true, beq_iff_eq, Bool.not_eq_true'] at q
      obtain ⟨⟨⟨⟨rfl, rfl⟩, hdel⟩, hdi⟩, ht⟩ := q
      obtain ⟨nm, bs, mro, ns, qn, hd, sn, sub, ab, col, del⟩ := cd
      dsimp only at hm hdel hdi
      subst hm hdel hdi
      have hsl : sl = #[k0, k1, k2, k3, some (.builtin "ValueError.__new__"), k5] := by
        obtain ⟨l⟩ := sl
        simp only at hs
        rw [hs]
      subst hsl
      exact ⟨nm, qn, ns, bs, bm, sn, sub, ab, col, dd, k0, k1, k2, k3, k5, ho, ht⟩
    · cases q
  · cases q
def clB (K : PySem.W.Frag) (k : Nat) : Bool :=
  [eqO (PySem.W.nsIn K mainGlobals (clsNm k)) (some (some (.ref (ga K (clsNm k))))), veB K (ga K (clsNm k)), eqO (PySem.W.findIn K (.ref (ga K (clsNm k))) "__getattribute__") (some (some (.builtin "BaseException.__getattribute__"))),
   eqO (PySem.W.findIn K (.ref (ga K (clsNm k))) "__getattr__") (some none), decide (PySem.W.subIn K (.ref (ga K (clsNm k))) (.type "BaseException") = some true), PySem.W.hasDictIn K (ga K (clsNm k)),
   eqO (PySem.W.findIn K (.ref (ga K (clsNm k))) "__class__") (some (some (.builtin "object.__class__"))), decide (PySem.W.mroIn K (ga K (clsNm k)) (.type "object") = some true), (PySem.W.clsIn K (ga K (clsNm k))).isSome,
   decide (PySem.W.kitOne K (.ref (ga K (clsNm k))) (.type "ValueError") = some true), eqO (PySem.W.findIn K (.ref (ga K (clsNm k))) (fldNm k)) (some none)].all id
def prB (K : PySem.W.Frag) (i j : Nat) : Bool := decide (PySem.W.exmOne K (.ref (ga K (clsNm i))) (.ref (ga K (clsNm j))) = some (subNm i j)) && decide (PySem.W.kitOne K (.ref (ga K (clsNm i))) (.ref (ga K (clsNm j))) = some (subNm i j))
def fdB (K : PySem.W.Frag) (k : Nat) : Bool := match K.lookup (xIa K k) with
  | some ⟨_, _, .func fd, _⟩ => (match fd.closure, fd.code, fd.defaults, fd.kwdefaults with
    | [(_, _)], .ref _, .none, .none => true
    | _, _, _, _ => false)
  | _ => false
def flB (P : Program) (K : PySem.W.Frag) (k : Nat) : Bool := match K.lookup (xCl K k).2 with
  | some ⟨_, _, .fields vs, _⟩ => (match vs[2]? with
    | some (Value.str file _) => ((P.main.file : Str) == file)
    | _ => false)
  | _ => false
def ceB (K : PySem.W.Frag) (k : Nat) : Bool := match K.lookup (xCl K k).1 with
  | some ⟨_, _, .cell (some (.ref C)), _⟩ => decide (C = ga K (clsNm k))
  | _ => false
def inB (P : Program) (K : PySem.W.Frag) (d : XD) : Bool :=
  [eqO (PySem.W.findIn K (.ref (ga K (clsNm d.k))) "__setattr__") (some (some (.builtin "object.__setattr__"))), eqO (PySem.W.findIn K (.ref (ga K (clsNm d.k))) "__init__") (some (some (.ref (xIa K d.k)))), decide (PySem.W.typeIn K (.ref (xIa K d.k)) = some (.type "function")),
   PySem.W.keepIn K (.ref (ga K (clsNm d.k))), decide (PySem.W.typeIn K (.ref (ga K (clsNm d.k))) = some (.type "type")), fdB K d.k, PySem.W.codeIn K (.ref (xCl K d.k).2) d.qual,
   flB P K d.k, ceB K d.k,
   eqO (PySem.W.ks_superIn K (ga K (clsNm d.k)) (ga K (clsNm d.k)) "__init__") (some (some (.builtin "ValueError.__init__"))), decide (PySem.W.mroIn K (ga K (clsNm d.k)) (.ref (ga K (clsNm d.k))) = some true),
   decide (PySem.W.subIn K (.ref (ga K (clsNm d.k))) (.type "ValueError") = some true), eqO (PySem.W.nsIn K cStatics "thirdparty.any") (some none)].all id
def xB (P : Program) (K : PySem.W.Frag) (ps : List Nat) (ds : List XD) : Bool :=
  ps.all (clB K) && (ps.all (fun i => ps.all fun j => prB K i j) && (ds.all (fun d => decide (d.k ∈ ps) && inB P K d) &&
    (ps.isEmpty || (eqO (PySem.W.specialIn K (.builtin "object.__class__") "__get__") (some (some (.builtin "getset_descriptor.__get__"))) && decide (PySem.W.takesIn K (.builtin "object.__class__") = some true)))))
abbrev AlX : Type := AlD × Bool × List FnX
def obsX (P : Program) (fa : List Fa) (fn : List DefD) (ps : List Nat) (ds : List XD) (K : PySem.W.Frag) : AlX := (obsD fa fn K, xB P K ps ds, ds.map fun d => fnX K d.k)
def valX (fn : List DefD) (ds : List XD) : AlX := (valD fn, true, ds.map XD.val)
def SaysX (P : Program) (fa : List Fa) (fn : List DefD) (ps : List Nat) (ds : List XD) (K : PySem.W.Frag) : Prop := obsX P fa fn ps ds K = valX fn ds
def obsXG (n : Nat) (P : Program) (fa : List Fa) (fn : List DefD) (ps : List Nat) (ds : List XD) (g : Addr → Option Obj) : AlX := obsX P fa fn ps ds (frG g (asD g n ++ [cStatics]))
def hookX (n : Nat) (P : Program) (fa : List Fa) (fn : List DefD) (ps : List Nat) (ds : List XD) : PySem.W.Hook where
  α := AlX
  obs := fun s => obsXG n P fa fn ps ds s.heap.get?
  val := fun _ => valX fn ds
  says := fun _ h => ∃ K : PySem.W.Frag, K.In h ∧ SaysX P fa fn ps ds K
  of := fun _ _ e => ⟨_, frG_in, e⟩
  keeps := fun _ _ _ ⟨K, hK, c⟩ k => ⟨K, PySem.W.Frag.In.keeps hK k, c⟩
theorem obsXG_eq {n : Nat} {P : Program} {fa : List Fa} {fn : List DefD} {ps : List Nat} {ds : List XD} {g : Addr → Option Obj} {s : Shared} (h : ∀ a, g a = s.heap.get? a) : obsXG n P fa fn ps ds g = (hookX n P fa fn ps ds).obs s := by
  have e : g = s.heap.get? := funext h
  rw [e] <;> rfl
section
variable {P : Program} {fa : List Fa} {fn : List DefD} {ps : List Nat} {ds : List XD} {K : PySem.W.Frag}
theorem SaysX.d (c : SaysX P fa fn ps ds K) : SaysD fa fn K := congrArg (fun z : AlX => z.1) c
theorem SaysX.b (c : SaysX P fa fn ps ds K) : xB P K ps ds = true := congrArg (fun z : AlX => z.2.1) c
theorem SaysX.f (c : SaysX P fa fn ps ds K) : (ds.map fun d => fnX K d.k) = ds.map XD.val := congrArg (fun z : AlX => z.2.2) c
abbrev xt (K : PySem.W.Frag) (ps : List Nat) : XT := { ct := fun k => ga K (clsNm k), ps := ps }
theorem clB_ok {k : Nat} (h : clB K k = true) : PySem.W.nsIn K mainGlobals (clsNm k) = some (some (.ref (ga K (clsNm k)))) ∧ veB K (ga K (clsNm k)) = true ∧ XC K (ga K (clsNm k)) ∧ PySem.W.kitOne K (.ref (ga K (clsNm k))) (.type "ValueError") = some true ∧ PySem.W.findIn K (.ref (ga K (clsNm k))) (fldNm k) = some none := by
  have a := List.all_eq_true.mp h
  have g : ∀ (i : Nat) (b : Bool), ([eqO (PySem.W.nsIn K mainGlobals (clsNm k)) (some (some (.ref (ga K (clsNm k))))), veB K (ga K (clsNm k)), eqO (PySem.W.findIn K (.ref (ga K (clsNm k))) "__getattribute__") (some (some (.builtin "BaseException.__getattribute__"))),
   eqO (PySem.W.findIn K (.ref (ga K (clsNm k))) "__getattr__") (some none), decide (PySem.W.subIn K (.ref (ga K (clsNm k))) (.type "BaseException") = some true), PySem.W.hasDictIn K (ga K (clsNm k)),
   eqO (PySem.W.findIn K (.ref (ga K (clsNm k))) "__class__") (some (some (.builtin "object.__class__"))), decide (PySem.W.mroIn K (ga K (clsNm k)) (.type "object") = some true), (PySem.W.clsIn K (ga K (clsNm k))).isSome,
   decide (PySem.W.kitOne K (.ref (ga K (clsNm k))) (.type "ValueError") = some true), eqO (PySem.W.findIn K (.ref (ga K (clsNm k))) (fldNm k)) (some none)] : List Bool)[i]? = some b → b = true := fun i b e => a b (List.mem_of_getElem? e)
  exact ⟨eqO_ok (g 0 _ rfl), g 1 _ rfl, ⟨g 8 _ rfl, eqO_ok (g 2 _ rfl), eqO_ok (g 3 _ rfl), of_decide_eq_true (g 4 _ rfl), g 5 _ rfl, eqO_ok (g 6 _ rfl), of_decide_eq_true (g 7 _ rfl)⟩, of_decide_eq_true (g 9 _ rfl), eqO_ok (g 10 _ rfl)⟩
theorem xB_split (h : xB P K ps ds = true) : (∀ k ∈ ps, clB K k = true) ∧ (∀ i ∈ ps, ∀ j ∈ ps, prB K i j = true) ∧ (∀ d ∈ ds, d.k ∈ ps ∧ inB P K d = true) ∧ (ps ≠ [] → PySem.W.specialIn K (.builtin "object.__class__") "__get__" = some (some (.builtin "getset_descriptor.__get__")) ∧ PySem.W.takesIn K (.builtin "object.__class__") = some true) := by
  unfold xB at h
  obtain ⟨h1, h⟩ := ba h
  obtain ⟨h2, h⟩ := ba h
  obtain ⟨h3, h4⟩ := ba h
  refine ⟨List.all_eq_true.mp h1, fun i hi => List.all_eq_true.mp (List.all_eq_true.mp h2 i hi), fun d hd => ?_, fun hne => ?_⟩
  · obtain ⟨a, b⟩ := ba (List.all_eq_true.mp h3 d hd)
    exact ⟨of_decide_eq_true a, b⟩
  · cases ps with
    | nil => exact absurd rfl hne
    | cons a r =>
      rw [show (a :: r).isEmpty = false from rfl, Bool.false_or] at h4
      obtain ⟨a, b⟩ := ba h4
      exact ⟨eqO_ok a, of_decide_eq_true b⟩
theorem xf_of {h : Heap} {mg : Str → Option Value} (X : K.In h) (G : h.Ns mainGlobals mg) (c : SaysX P fa fn ps ds K) (hne : ps ≠ []) (hsup : mg "super" = none) : XF K mg (xt K ps) := by
  obtain ⟨h1, h2, h3, h4⟩ := xB_split c.b
  exact ⟨fun k hk => PySem.W.mg_of X G (clB_ok (h1 k hk)).1, fun k hk => (clB_ok (h1 k hk)).2.2.1, fun i hi j hj => of_decide_eq_true (ba (h2 i hi j hj)).1, fun i hi j hj => of_decide_eq_true (ba (h2 i hi j hj)).2, fun i hi => (clB_ok (h1 i hi)).2.2.2.1, fun i hi => (clB_ok (h1 i hi)).2.2.2.2, (h4 hne).1, (h4 hne).2, hsup⟩
theorem fd_shape {cl : List (Str × Addr)} {code dv kv : Value} (h : (match cl, code, dv, kv with | [(_, _)], .ref _, .none, .none => true | _, _, _, _ => false) = true) : ∃ y cc cda, cl = [(y, cc)] ∧ code = .ref cda ∧ dv = .none ∧ kv = .none := by
  split at h
  · exact ⟨_, _, _, rfl, rfl, rfl, rfl⟩
  · cases h
theorem sup_of (c : SaysX P fa fn ps ds K) (htop : (P.main.scope.names.lookup ("super" : Str)).isSome = false) {d : XD} (i : Nat) (hd : ds[i]? = some d) : SupTxt K P (ga K (clsNm d.k)) (xIa K d.k) (xCl K d.k).1 (xCl K d.k).2 d.qual (defArgs d.st) (defBody d.st) (defScope d.st) := by
  have hm := List.mem_of_getElem? hd
  obtain ⟨h1, h2, h3, h4⟩ := xB_split c.b
  obtain ⟨hk, hb⟩ := h3 d hm
  obtain ⟨c1, c2, c3, c4, c5⟩ := clB_ok (h1 d.k hk)
  have e2 : (ds.map fun d => fnX K d.k)[i]? = (ds.map XD.val)[i]? := by rw [c.f]
  rw [List.getElem?_map, List.getElem?_map, hd] at e2
  have e2 : fnX K d.k = d.val := Option.some.inj e2
  have a := List.all_eq_true.mp hb
  simp only [List.mem_cons, List.not_mem_nil, or_false, forall_eq_or_imp, forall_eq, id] at a
  obtain ⟨a1, a2, a3, a4, a5, a6, a7, a8, a9, a10, a11, a12, a13⟩ := a
  refine ⟨veB_ok c2, eqO_ok a1, c3.hga, c3.hgt, eqO_ok a2, of_decide_eq_true a3, a4, c3.hs, of_decide_eq_true a5, c3.hd, ?_, a7, ?_, ?_, eqO_ok a10, of_decide_eq_true a11, of_decide_eq_true a12, eqO_ok a13, htop⟩
  · unfold fdB at a6
    unfold fnX at e2
    cases q : K.lookup (xIa K d.k) with
    | none => rw [q] at a6; cases a6
    | some o =>
      obtain ⟨oc, od, dt, osl⟩ := o
      rw [q] at a6 e2
      cases dt with
      | func fd =>
        obtain ⟨n1, n2, n3, n4, n5, n6, n7, n8, n9, n10, n11, n12, n13, n14, n15⟩ := fd
        obtain ⟨y1, y2, y3, e7, e13, e8, e9⟩ := fd_shape a6
        subst e7 e13 e8 e9
        have hxc : xCl K d.k = (y2, y3) := by unfold xCl; rw [q]
        rw [hxc]
        have e3 : (some (n1, n2, n3, n4, n5, n6, [y1], n15) : FnX) = some (("__init__" : Str), d.qual, defArgs d.st, FuncBody.stmts (defBody d.st), defScope d.st, mainGlobals, [("__class__" : Str)], builtinsNs) := e2
        simp only [Option.some.injEq, Prod.mk.injEq, List.cons.injEq, and_true] at e3
        obtain ⟨g1, g2, g3, g4, g5, g6, g7, g8⟩ := e3
        subst g1 g2 g3 g4 g5 g6 g7 g8
        exact ⟨oc, od, _, _, _, _, osl, rfl⟩
      | _ => cases a6
  · unfold flB at a8
    split at a8
    · rename_i x1 x2 vs x3 hl
      split at a8
      · rename_i file tf hv
        exact ⟨x1, x2, vs, x3, file, tf, hl, hv, a8⟩
      · cases a8
    · cases a8
  · unfold ceB at a9
    split at a9
    · rename_i x1 x2 C x3 hl
      rw [of_decide_eq_true a9] at hl
      exact ⟨_, _, _, hl⟩
    · cases a9
end
/-! ### a def as a callee -/
theorem cal_of {P : Program} {w : World} {K : PySem.W.Frag} {mg : Str → Option Value} {base : Heap} {t : XT} {fn : Nat → MSp} {k j : Nat} {x : Str} {ps : List Str} {params : Arguments} {body : List Stmt} {scope : Scope} {f : Addr} {fd : FuncData} (F : FunD K x x params body scope [] [] f fd) (G : FnG P w K mg base (L2.CX P w) j f fd ps (lSp K t ps.length (fn k))) (hm : mg x = some (.ref f))
    (h1 : ∀ (kV doc pm : Value) (an : Option Addr) (cdv ct : Value) (us : List Value), us.length = ps.length → bindArgs (PySem.W.fnOf x x params body scope .none kV doc pm an cdv ct) ⟨us, []⟩ = pure (ps.zip us))
    (h2 : ∀ (kV doc pm : Value) (an : Option Addr) (cdv ct : Value) (us : List Value), us.length = ps.length → bindArgs (PySem.W.fnOf x x params body scope .none kV doc pm an cdv ct) ⟨[], ps.zip us⟩ = pure (ps.zip us))
    (len : ∀ ds h PQ PE, fn k ds h PQ PE → ds.length = ps.length) : Cal P w K mg base t fn k j x ps := by
  refine ⟨⟨f, fd, G, hm, F.kp, F.bindsN h1, ?_⟩, len⟩
  obtain ⟨oc, od, dV, kV, doc, pm, an, cdv, ct, osl, rfl, lk, hcd, hD, hK⟩ := F.ex
  rcases hD with ⟨_, rfl⟩ | ⟨e, _⟩
  · exact fun us hu => h2 kV doc pm an cdv ct us hu
  · exact absurd rfl e
end MP

/-! Vc0: lemmas for verification conditions; the order of tuples of ints. -/
namespace MP
open PySem PySem.W
theorem loop_go {α : Type} {items : List D} {st : MH → Prop} {turn : D → α → MH → (α → MH → Prop) → Prop} {a : α} {h : MH} {Q : α → MH → Prop} (J : Nat → α → MH → Prop) (h0 : J 0 a h) (hb : ∀ i a h, J i a h → i ≤ items.length ∧ st h)
    (hs : ∀ i x a h, items[i]? = some x → J i a h → turn x a h (J (i + 1))) (hd : ∀ a h, J items.length a h → Q a h) : loopW items st turn a h Q := by
  refine ⟨J, h0, fun i a h j => ⟨(hb i a h j).1, (hb i a h j).2, ?_⟩⟩
  cases hx : items[i]? with
  | none =>
    have : i = items.length := by
      have := List.getElem?_eq_none_iff.mp hx
      have := (hb i a h j).1
      omega
    subst this
    exact hd a h j
  | some x => exact hs i x a h hx j
theorem rngL_get {lo : Int} {n i : Nat} {x : D} (h : (rngL lo n)[i]? = some x) : i < n ∧ x = .int (lo + i) := by
  unfold rngL at h
  rw [List.getElem?_map] at h
  obtain ⟨j, h1, h2⟩ := Option.map_eq_some_iff.mp h
  by_cases hi : i < n
  · rw [List.getElem?_range hi] at h1
    cases h1
    exact ⟨hi, h2.symm⟩
  · rw [List.getElem?_eq_none (by rw [List.length_range]; omega)] at h1
    cases h1
theorem rngL_len {lo : Int} {n : Nat} : (rngL lo n).length = n := by simp [rngL]
/-- every object stays as it is -/
def Ex (h h' : MH) : Prop := ∀ a o, h a = some o → h' a = some o
theorem Ex.refl (h : MH) : Ex h h := fun _ _ e => e
theorem Ex.trans {h h1 h2 : MH} (a : Ex h h1) (b : Ex h1 h2) : Ex h h2 := fun c o e => b c o (a c o e)
theorem Ex.new {h : MH} {p : Addr} {o : MO} (n : h p = none) : Ex h (mup h p o) := fun a u e => by
  have : a ≠ p := fun z => by rw [z, n] at e; cases e
  rw [mup_ne this]; exact e
/-- a list comprehension over a range, no heap in play: acc is f of the turns -/
def isI (d : D) : Prop := ∃ i, d = .int i
abbrev dI (l : List Int) : List D := l.map D.int
abbrev tI (l : List Int) : D := .tup (l.map D.int)
theorem dI_get {l : List Int} {i : Nat} : (dI l)[i]? = (l[i]?).map D.int := List.getElem?_map
theorem intsD_dI : ∀ l : List Int, intsD (dI l) = some l
  | [] => rfl
  | i :: l => by
    show intsD (.int i :: dI l) = _
    rw [intsD, intsD_dI l]; rfl
theorem small_le {n : Nat} (h : n ≤ 100000) : n ≤ sizeLine := by rw [sizeLine_eq]; omega
theorem small_lt {n : Nat} (h : n ≤ 100000) : n < sizeLine := by rw [sizeLine_eq]; omega
theorem pd_int (h : MH) (i : Int) : pd h (.int i) = some (.int i) := by simp [pd, pdW, PyData.depth]
theorem pd_bl (h : MH) (b : Bool) : pd h (.bl b) = some (.bool b) := by simp [pd, pdW, PyData.depth]
theorem pd_non (h : MH) : pd h .non = some .none := by simp [pd, pdW, PyData.depth]
theorem pdWs_dI (f : Addr → Option PyData) : ∀ l : List Int, pdWs f (dI l) = some (l.map .int)
  | [] => rfl
  | i :: l => by
    show pdWs f (.int i :: dI l) = _
    rw [pdWs, pdW, pdWs_dI f l]; rfl
theorem pd_tI (h : MH) (l : List Int) : pd h (tI l) = some (.tuple (l.map .int)) := by
  unfold pd
  rw [pdW, pdWs_dI]
  simp [PyData.depth, PySem.W.depth_ints]
theorem neg_int {i : Int} {h : MH} {Q : DK} (q : Q (.int (-i)) h) : negD (.int i) h Q := q
theorem sub_int {i j : Int} {h : MH} {Q : DK} (q : Q (.int (i - j)) h) : subD (.int i) (.int j) h Q := q
theorem add_int {i j : Int} {h : MH} {Q : DK} (q : Q (.int (i + j)) h) : addD (.int i) (.int j) h Q := q
theorem mod_int {i j : Int} {h : MH} {Q : DK} (n : j ≠ 0) (q : Q (.int (i.fmod j)) h) : modD (.int i) (.int j) h Q := ⟨n, q⟩
theorem fdiv_int {i j : Int} {h : MH} {Q : DK} (n : L2.CDivN i j) (q : Q (.int (i.fdiv j)) h) : fdivD (.int i) (.int j) h Q := ⟨n, q⟩
theorem mul_int {i j : Int} {h : MH} {Q : DK} (n : L2.CMul i j) (q : Q (.int (i * j)) h) : mulD (.int i) (.int j) h Q := ⟨n, q⟩
theorem pow_int {i j : Int} {h : MH} {Q : DK} (n : L2.CPow i j) (q : Q (.int (i ^ j.toNat)) h) : powD (.int i) (.int j) h Q := ⟨n, q⟩
theorem mul_tup {xs : List D} {j : Int} {h : MH} {Q : DK} (a : -(2 ^ 62) < j) (b : j ≤ 1000) (l : xs.length ≤ 1000) (q : Q (.tup (List.replicate j.toNat xs).flatten) h) : mulD (.tup xs) (.int j) h Q := ⟨a, b, l, q⟩
theorem add_tup {xs ys : List D} {h : MH} {Q : DK} (l : xs.length + ys.length ≤ sizeLine) (q : Q (.tup (xs ++ ys)) h) : addD (.tup xs) (.tup ys) h Q := ⟨l, q⟩
theorem add_lst {a b : Addr} {xs ys : List D} {h : MH} {Q : DK} (e : h a = some (.lst xs)) (e2 : h b = some (.lst ys)) (q : newL h (xs ++ ys) Q) : addD (.ref a) (.ref b) h Q := ⟨_, _, e, e2, q⟩
theorem sl_tup {xs : List D} {lo hi : Option Int} {h : MH} {Q : DK} (q : Q (.tup (cutD xs lo hi)) h) : slD (.tup xs) lo hi h Q := q
theorem sl_lst {a : Addr} {xs : List D} {lo hi : Option Int} {h : MH} {Q : DK} (e : h a = some (.lst xs)) (q : newL h (cutD xs lo hi) Q) : slD (.ref a) lo hi h Q := by
  unfold slD seqOf
  simp only [e]
  exact q
theorem seq_lst {a : Addr} {xs : List D} {h : MH} (e : h a = some (.lst xs)) : seqOf h (.ref a) = some (true, xs) := by simp [seqOf, e]
theorem int_int {i : Int} {h : MH} {Q : DK} (q : Q (.int i) h) : bltD .int [.int i] h Q := q
theorem len_tup {xs : List D} {h : MH} {Q : DK} (q : Q (.int xs.length) h) : bltD .len [.tup xs] h Q := q
theorem len_lst {a : Addr} {xs : List D} {h : MH} {Q : DK} (e : h a = some (.lst xs)) (q : Q (.int xs.length) h) : bltD .len [.ref a] h Q := by
  simp only [bltD, dctOf, seqOf, e]; exact q
theorem eqD_int {ng : Bool} {i j : Int} {h : MH} {Q : DK} (q : Q (.bl (ng ^^ decide (i = j))) h) : eqD ng (.int i) (.int j) h Q := .inr ⟨_, _, pd_int h i, pd_int h j, by rw [PyData.eqv]; exact q⟩
theorem eqD_str {ng : Bool} {i j : Str} {h : MH} {Q : DK} (q : Q (.bl (ng ^^ decide (i = j))) h) : eqD ng (.str i) (.str j) h Q := .inl ⟨_, _, rfl, rfl, q⟩
theorem ltD_int {sw ng : Bool} {i j : Int} {h : MH} {Q : DK} (q : Q (.bl (ng ^^ (if sw = true then decide (j < i) else decide (i < j)))) h) : ltD sw ng (.int i) (.int j) h Q :=
  ⟨_, _, pd_int h i, pd_int h j, by simp [PySem.W.alike], by simp, by rw [PySem.W.dataLt_int, PySem.W.dataLt_int]; exact q⟩
theorem tru_bl {h : MH} {b : Bool} {Q : Bool → MH → Prop} (q : Q b h) : ∃ k, truD h (.bl b) = some k ∧ Q k h := ⟨b, rfl, q⟩
theorem cut_to {ds : List D} {n : Nat} : cutD ds none (some (n : Int)) = ds.take n := by
  unfold cutD
  rw [HT.sIx_none, HT.sIx_nat, List.drop_zero, Nat.sub_zero]
  by_cases h : n ≤ ds.length
  · rw [Nat.min_eq_left h]
  · rw [Nat.min_eq_right (by omega), List.take_of_length_le (by omega), List.take_of_length_le (by omega)]
theorem cut_toI {ds : List D} {n : Int} (h : 0 ≤ n) : cutD ds none (some n) = ds.take n.toNat := by
  have e := cut_to (ds := ds) (n := n.toNat)
  rwa [Int.toNat_of_nonneg h] at e
theorem cut_from {ds : List D} {n : Nat} : cutD ds (some (n : Int)) none = ds.drop n := by
  unfold cutD
  rw [HT.sIx_none, HT.sIx_nat]
  by_cases h : n ≤ ds.length
  · rw [Nat.min_eq_left h, List.take_of_length_le (by rw [List.length_drop]; omega)]
  · rw [Nat.min_eq_right (by omega), List.drop_of_length_le (by omega), List.drop_of_length_le (by omega)]
    simp
theorem cut_last {ds : List D} : cutD ds none (some (-1)) = ds.dropLast := by
  unfold cutD
  rw [HT.sIx_none, List.drop_zero, Nat.sub_zero, List.dropLast_eq_take]
  have : HT.sIx ds.length ds.length (some (-1)) = ds.length - 1 := by
    unfold HT.sIx
    simp only
    rw [if_pos (by omega)]
    omega
  rw [this]
theorem at_nat {ds : List D} {j : Nat} {d : D} (h : ds[j]? = some d) : L2.atI ds (j : Int) = some d := by
  have hj : j < ds.length := (List.getElem?_eq_some_iff.mp h).1
  unfold L2.atI L2.ixN
  rw [if_pos (by omega), if_pos (by omega)]
  simpa using h
theorem at_last {ds : List D} {d : D} (h : ds[ds.length - 1]? = some d) : L2.atI ds (-1) = some d := by
  have hj : ds.length - 1 < ds.length := (List.getElem?_eq_some_iff.mp h).1
  unfold L2.atI L2.ixN
  rw [if_neg (by omega), if_pos (by omega)]
  have : ((-1 : Int) + (ds.length : Int)).toNat = ds.length - 1 := by omega
  show ds[((-1 : Int) + (ds.length : Int)).toNat]? = some d
  rw [this]; exact h
theorem pd_ref {h : MH} {p : Addr} {l : List Int} (e : h p = some (.lst (dI l))) : pd h (.ref p) = some (.list (l.map .int)) := by
  unfold pd
  rw [pdW, pdR, e]
  simp only [pdWs_dI]
  simp [PyData.depth, PySem.W.depth_ints]
theorem pd_nil {h : MH} {p : Addr} (e : h p = some (.lst [])) : pd h (.ref p) = some (.list []) := pd_ref (l := []) e
/-- xs != [], xs == [] for a list of ints -/
theorem eqD_nil {ng : Bool} {h : MH} {a p : Addr} {l : List Int} {Q : DK} (e : h a = some (.lst (dI l))) (e2 : h p = some (.lst [])) (q : Q (.bl (ng ^^ l.isEmpty)) h) : eqD ng (.ref a) (.ref p) h Q :=
  .inr ⟨_, _, pd_ref e, pd_nil e2, by
    have : PyData.eqv (.list (l.map .int)) (.list []) = l.isEmpty := by
      cases l <;> simp [PyData.eqv, PyData.eqvAll]
    rw [this]; exact q⟩
theorem eqvAll_ints : ∀ l m : List Int, PyData.eqvAll (l.map .int) (m.map .int) = decide (l = m)
  | [], [] => by simp [PyData.eqvAll]
  | [], _ :: _ => by simp [PyData.eqvAll]
  | _ :: _, [] => by simp [PyData.eqvAll]
  | a :: l, b :: m => by
    show PyData.eqvAll (.int a :: l.map .int) (.int b :: m.map .int) = _
    rw [PyData.eqvAll, PyData.eqv, eqvAll_ints l m]
    by_cases h1 : a = b <;> by_cases h2 : l = m <;> simp [h1, h2]
theorem tI_cat (l m : List Int) : dI l ++ dI m = dI (l ++ m) := (List.map_append).symm
theorem mup_at {h : MH} {p a : Addr} {o u : MO} (n : h p = none) (e : h a = some u) : mup h p o a = some u := Ex.new n a u e
theorem idx_last {h : MH} {p : Addr} {g : List Int} {x : Int} {Q : DK} (e : h p = some (.lst (dI (g ++ [x])))) (q : Q (.int x) h) : idxD (.ref p) (.int (-1)) h Q := by
  have e1 : dctOf h (.ref p) = none := by simp [dctOf, e]
  have e2 : seqOf h (.ref p) = some (true, dI (g ++ [x])) := by simp [seqOf, e]
  unfold idxD
  rw [e1, e2]
  refine ⟨.int x, at_last ?_, q⟩
  simp [dI]
theorem idx_lst {h : MH} {p : Addr} {xs : List D} {i : Nat} {x : D} {Q : DK} (e : h p = some (.lst xs)) (ex : xs[i]? = some x) (q : Q x h) : idxD (.ref p) (.int (i : Int)) h Q := by
  have e1 : dctOf h (.ref p) = none := by simp [dctOf, e]
  have e2 : seqOf h (.ref p) = some (true, xs) := by simp [seqOf, e]
  unfold idxD
  rw [e1, e2]
  exact ⟨x, at_nat ex, q⟩
theorem pop_int {h : MH} {p : Addr} {g : List Int} {x : Int} {Q : DK} (e : h p = some (.lst (dI (g ++ [x])))) (q : Q (.int x) (mup h p (.lst (dI g)))) : onT .pop (.ref p) h ∧ mthD .pop (.ref p) [] h Q := by
  refine ⟨⟨p, _, rfl, e⟩, ?_⟩
  simp only [mthD, e]
  refine ⟨.int x, by simp [dI], ?_⟩
  have : (dI (g ++ [x])).dropLast = dI g := by simp [dI]
  rw [this]; exact q
theorem toP_tI (l : List Int) : toP (tI l) = .tuple (l.map .int) := by
  unfold toP
  rw [pdW, pdWs_dI]
  rfl
theorem pure0_tI (l : List Int) : pure0 (tI l) = true := by
  unfold pure0
  rw [pdW, pdWs_dI]
  simp [PyData.depth, PySem.W.depth_ints]
theorem keyFs_dI : ∀ l : List Int, keyFs (dI l) = some (l.map Sum.inl)
  | [] => rfl
  | i :: l => by
    show keyFs (.int i :: dI l) = _
    rw [keyFs, keyF, keyFs_dI l]; rfl
theorem keyS_tI (l : List Int) : keyS (tI l) = some (.inr (l.map Sum.inl)) := by
  rw [keyS, keyFs_dI]; rfl
/-- tuples of ints, none empty, can be put in order -/
theorem srtOk_ints (ls : List (List Int)) (h : ∀ l ∈ ls, l ≠ []) : SrtOk ((ls.map tI).map toP) := by
  rw [List.map_map]
  refine ⟨fun d hd d' hd' => ?_, .inl fun d hd => ?_⟩
  · obtain ⟨l, _, rfl⟩ := List.mem_map.mp hd
    obtain ⟨l', _, rfl⟩ := List.mem_map.mp hd'
    show PySem.W.alike (toP (tI l)) (toP (tI l')) = true
    rw [toP_tI, toP_tI, PySem.W.alike, PySem.W.alike_ints]
  · obtain ⟨l, hl, rfl⟩ := List.mem_map.mp hd
    show ∃ x r, toP (tI l) = .tuple (x :: r)
    rw [toP_tI]
    cases l with
    | nil => exact absurd rfl (h _ hl)
    | cons a r => exact ⟨.int a, r.map .int, rfl⟩
theorem putD_keys {kvs : List (D × D)} {k v : D} {p : D × D} (h : p ∈ putD kvs k v) : p.1 = k ∨ p.1 ∈ kvs.map (·.1) := by
  unfold putD at h
  split at h
  · obtain ⟨q, hq, e⟩ := List.mem_map.mp h
    right
    have : p.1 = q.1 := by
      rw [← e]
      split <;> rfl
    rw [this]
    exact List.mem_map_of_mem hq
  · rcases List.mem_append.mp h with h | h
    · exact .inr (List.mem_map_of_mem h)
    · left
      rw [List.mem_singleton.mp h]
/-- a comprehension over ints, any value -/
theorem comp_list {α : Type} {xs : List α} {dx : α → D} {st : MH → Prop} {f : α → D} {h : MH} {Q : List D → MH → Prop} {turn : D → List D → MH → (List D → MH → Prop) → Prop} (hst : ∀ h', Ex h h' → st h')
    (ht : ∀ (x : α) (acc : List D) (h' : MH) (K : List D → MH → Prop), x ∈ xs → acc.length < xs.length → Ex h h' → (∀ h2, Ex h' h2 → K (acc ++ [f x]) h2) → turn (dx x) acc h' K) (hq : ∀ h', Ex h h' → Q (xs.map f) h') : loopW (xs.map dx) st turn [] h Q := by
  refine loop_go (fun i acc h' => i ≤ xs.length ∧ Ex h h' ∧ acc = (xs.take i).map f) ⟨by omega, .refl _, rfl⟩ (fun i a h' j => ⟨by rw [List.length_map]; exact j.1, hst _ j.2.1⟩) ?_ ?_
  · rintro i x acc h' hx ⟨hi, e1, rfl⟩
    rw [List.getElem?_map] at hx
    obtain ⟨y, hy, rfl⟩ := Option.map_eq_some_iff.mp hx
    have hlt : i < xs.length := by
      by_cases hl : i < xs.length
      · exact hl
      · rw [List.getElem?_eq_none (by omega)] at hy; cases hy
    refine ht y _ h' _ (List.mem_of_getElem? hy) (by simp; omega) e1 fun h2 e2 => ⟨hlt, e1.trans e2, ?_⟩
    rw [List.take_succ, hy]
    simp
  · rintro acc h' ⟨_, e1, rfl⟩
    rw [List.length_map, List.take_length]
    exact hq h' e1
theorem set_lst_at {h : MH} {b : Addr} {xs : List D} {i : Nat} {v : D} {Q : MH → Prop} (e : h b = some (.lst xs)) (hi : i < xs.length) (q : Q (mup h b (.lst (xs.set i v)))) : setD (.ref b) (.int (i : Int)) v h Q := by
  unfold setD
  simp only [e]
  refine ⟨_, i, rfl, ?_, q⟩
  unfold L2.ixN
  rw [if_pos (by omega), if_pos (by omega)]
  simp
theorem onL {h : MH} {p : Addr} {xs : List D} {m : Mt} (e : h p = some (.lst xs)) (hm : m = .app ∨ m = .pop) : onT m (.ref p) h := by
  rcases hm with rfl | rfl <;> exact ⟨p, _, rfl, e⟩
theorem app_q {h : MH} {p : Addr} {xs : List D} {d : D} {Q : DK} (e : h p = some (.lst xs)) (l : xs.length < sizeLine) (q : Q .non (mup h p (.lst (xs ++ [d])))) : mthD .app (.ref p) [d] h Q := by
  simp only [mthD, e]
  exact ⟨l, q⟩
/-- tuples of ints in order -/
def lexI : List Int → List Int → Bool
  | [], [] => false
  | [], _ :: _ => true
  | _ :: _, [] => false
  | x :: a, y :: b => if x = y then lexI a b else decide (x < y)
theorem dataLt_tI : ∀ a b : List Int, dataLt (.tuple (a.map .int)) (.tuple (b.map .int)) = lexI a b
  | [], [] => by rw [lexI]; first | rfl | decide | simp [dataLt, PyProof.Rows.lex_irrefl]
  | [], y :: b => by rw [lexI]; first | rfl | decide | simp [dataLt, keyToks, keyToksAll, PyProof.Rows.lexLt]
  | x :: a, [] => by rw [lexI]; first | rfl | decide | simp [dataLt, keyToks, keyToksAll, PyProof.Rows.lexLt]
  | x :: a, y :: b => by
    have ih := dataLt_tI a b
    rw [List.map_cons, List.map_cons, dataLt_tuple, dataLt_cons (by simp [alike]), ← dataLt_tuple, ih, dataLt_int, PyData.eqv, lexI]
    by_cases e : x = y <;> simp [e]
theorem alike_tI : ∀ a b : List Int, alikeAll (a.map .int) (b.map .int) = true
  | [], [] => by simp [alikeAll]
  | [], y :: b => by simp [alikeAll]
  | x :: a, [] => by simp [alikeAll]
  | x :: a, y :: b => by simp [alikeAll, alike, alike_tI a b]
theorem lexI_irr : ∀ a, lexI a a = false
  | [] => rfl
  | x :: a => by rw [lexI, if_pos rfl, lexI_irr a]
theorem lexI_tri : ∀ {a b : List Int}, lexI a b = false → lexI b a = false → a = b
  | [], [], _, _ => rfl
  | [], _ :: _, h, _ => by rw [lexI] at h; cases h
  | _ :: _, [], _, h => by rw [lexI] at h; cases h
  | x :: a, y :: b, h1, h2 => by
    rw [lexI] at h1 h2
    by_cases e : x = y
    · subst e
      rw [if_pos rfl] at h1 h2
      rw [lexI_tri h1 h2]
    · rw [if_neg e] at h1
      rw [if_neg (Ne.symm e)] at h2
      simp only [decide_eq_false_iff_not] at h1 h2
      omega
theorem lexI_trans : ∀ {a b c : List Int}, lexI a b = true → lexI b c = true → lexI a c = true
  | [], [], _, h, _ => by rw [lexI] at h; cases h
  | [], _ :: _, [], _, h => by rw [lexI] at h; cases h
  | [], _ :: _, _ :: _, _, _ => rfl
  | _ :: _, [], _, h, _ => by rw [lexI] at h; cases h
  | _ :: _, _ :: _, [], _, h => by rw [lexI] at h; cases h
  | x :: a, y :: b, z :: c, h1, h2 => by
    rw [lexI] at h1 h2 ⊢
    by_cases e : x = y
    · subst e
      rw [if_pos rfl] at h1
      by_cases e2 : x = z
      · subst e2
        rw [if_pos rfl] at h2 ⊢
        exact lexI_trans h1 h2
      · rw [if_neg e2] at h2 ⊢
        exact h2
    · rw [if_neg e] at h1
      by_cases e2 : y = z
      · subst e2
        rw [if_neg e]; exact h1
      · rw [if_neg e2] at h2
        simp only [decide_eq_true_eq] at h1 h2
        rw [if_neg (by omega)]
        simp only [decide_eq_true_eq]; omega
theorem eqv_ints : ∀ a b : List Int, PyData.eqv (.tuple (a.map .int)) (.tuple (b.map .int)) = decide (a = b) := by
  intro a b
  rw [PyData.eqv]
  have : ∀ a b : List Int, PyData.eqvAll (a.map .int) (b.map .int) = decide (a = b) := by
    intro a
    induction a with
    | nil => intro b; cases b <;> simp [PyData.eqvAll]
    | cons x a ih => intro b; cases b with
      | nil => simp [PyData.eqvAll]
      | cons y b => rw [List.map_cons, List.map_cons, PyData.eqvAll, ih, PyData.eqv]; by_cases h : x = y <;> by_cases h' : a = b <;> simp [h, h']
  exact this a b
/-! ### equations -/
section
variable {h : MH} {Q : DK} {i j : Int} {a b : List Int} {xs ys : List D} {p : Addr} {ng sw : Bool}
theorem z_add : addD (.int i) (.int j) h Q = Q (.int (i + j)) h := rfl
theorem z_sub : subD (.int i) (.int j) h Q = Q (.int (i - j)) h := rfl
theorem z_mul : mulD (.int i) (.int j) h Q = (L2.CMul i j ∧ Q (.int (i * j)) h) := rfl
theorem z_fdiv : fdivD (.int i) (.int j) h Q = (L2.CDivN i j ∧ Q (.int (i.fdiv j)) h) := rfl
theorem z_mod : modD (.int i) (.int j) h Q = (j ≠ 0 ∧ Q (.int (i.fmod j)) h) := rfl
theorem z_pow : powD (.int i) (.int j) h Q = (L2.CPow i j ∧ Q (.int (i ^ j.toNat)) h) := rfl
theorem z_neg : negD (.int i) h Q = Q (.int (-i)) h := rfl
theorem z_addT : addD (.tup xs) (.tup ys) h Q = (xs.length + ys.length ≤ sizeLine ∧ Q (.tup (xs ++ ys)) h) := rfl
theorem z_mulT : mulD (.tup xs) (.int j) h Q = (-(2 ^ 62) < j ∧ j ≤ 1000 ∧ xs.length ≤ 1000 ∧ Q (.tup (List.replicate j.toNat xs).flatten) h) := rfl
theorem z_lenT : bltD .len [.tup xs] h Q = Q (.int xs.length) h := rfl
theorem z_lenS {x : Str} : bltD .len [.str x] h Q = (x.length ≤ sizeLine ∧ Q (.int x.length) h) := rfl
theorem z_int : bltD .int [.int i] h Q = Q (.int i) h := rfl
theorem z_intB {k : Bool} : bltD .int [.bl k] h Q = Q (.int (if k then 1 else 0)) h := rfl
theorem z_abs : bltD .abs [.int i] h Q = Q (.int (if i < 0 then -i else i)) h := rfl
theorem z_slT {lo hi : Option Int} : slD (.tup xs) lo hi h Q = Q (.tup (cutD xs lo hi)) h := rfl
theorem z_idxT : idxD (.tup xs) (.int i) h Q = ∃ d, L2.atI xs i = some d ∧ Q d h := rfl
theorem z_is {x : D} : isD ng x .non h Q = Q (.bl (ng ^^ isN x)) h := propext ⟨fun w => w.2, fun w => ⟨rfl, w⟩⟩
theorem z_isN : isN .non = true := rfl
theorem z_isT : isN (.tup xs) = false := rfl
theorem z_isI : isN (.int i) = false := rfl
theorem eqD_pd {x y : D} {p q : PyData} (hx : pd h x = some p) (hy : pd h y = some q) (ns : ∀ s, x ≠ .str s) : eqD ng x y h Q = Q (.bl (ng ^^ PyData.eqv p q)) h := propext ⟨fun w => by
  rcases w with ⟨s, _, e, _⟩ | ⟨p', q', e1, e2, w⟩
  · exact absurd e (ns s)
  · rw [hx] at e1; rw [hy] at e2; cases e1; cases e2; exact w, fun w => .inr ⟨p, q, hx, hy, w⟩⟩
theorem ltD_pd {x y : D} {p q : PyData} (hx : pd h x = some p) (hy : pd h y = some q) (al : alike p q = true) (nn : p ≠ .none) : ltD sw ng x y h Q = Q (.bl (ng ^^ (if sw = true then dataLt q p else dataLt p q))) h := propext ⟨fun w => by
  obtain ⟨p', q', e1, e2, _, _, w⟩ := w
  rw [hx] at e1; rw [hy] at e2; cases e1; cases e2; exact w, fun w => ⟨p, q, hx, hy, al, nn, w⟩⟩
theorem z_eqI : eqD ng (.int i) (.int j) h Q = Q (.bl (ng ^^ decide (i = j))) h := by
  rw [eqD_pd (pd_int h i) (pd_int h j) (fun _ e => by cases e), PyData.eqv]
  have : (i == j) = decide (i = j) := by
    by_cases e : i = j
    · subst e; simp
    · rw [decide_eq_false e]; exact beq_eq_false_iff_ne.mpr e
  rw [this]
theorem z_eqB {x y : Bool} : eqD ng (.bl x) (.bl y) h Q = Q (.bl (ng ^^ decide (x = y))) h := by
  rw [eqD_pd (pd_bl h x) (pd_bl h y) (fun _ e => by cases e)]
  cases x <;> cases y <;> rfl
theorem z_eqT : eqD ng (tI a) (tI b) h Q = Q (.bl (ng ^^ decide (a = b))) h := by rw [eqD_pd (pd_tI h a) (pd_tI h b) (fun _ e => by cases e), eqv_ints]
theorem z_ltI : ltD sw ng (.int i) (.int j) h Q = Q (.bl (ng ^^ (if sw = true then decide (j < i) else decide (i < j)))) h := by rw [ltD_pd (pd_int h i) (pd_int h j) (by simp [alike]) (by simp), dataLt_int, dataLt_int]
theorem z_ltT : ltD sw ng (tI a) (tI b) h Q = Q (.bl (ng ^^ (if sw = true then lexI b a else lexI a b))) h := by
  rw [ltD_pd (pd_tI h a) (pd_tI h b) (by rw [alike]; exact alike_tI a b) (by simp), dataLt_tI, dataLt_tI]
theorem z_trB {x : Bool} {P : Bool → Prop} : (∃ k, truD h (.bl x) = some k ∧ P k) = P x := propext ⟨fun ⟨k, e, w⟩ => by cases e; exact w, fun w => ⟨x, rfl, w⟩⟩
theorem z_trI {P : Bool → Prop} : (∃ k, truD h (.int i) = some k ∧ P k) = P (i != 0) := propext ⟨fun ⟨k, e, w⟩ => by cases e; exact w, fun w => ⟨_, rfl, w⟩⟩
theorem z_blE {x : Bool} {P : Bool → Prop} : (∃ k, D.bl x = D.bl k ∧ P k) = P x := propext ⟨fun ⟨k, e, w⟩ => by cases e; exact w, fun w => ⟨x, rfl, w⟩⟩
theorem z_intE {P : Int → Prop} : (∃ k, D.int i = D.int k ∧ P k) = P i := propext ⟨fun ⟨k, e, w⟩ => by cases e; exact w, fun w => ⟨i, rfl, w⟩⟩
theorem z_some {α : Type} {x : α} {P : α → Prop} : (∃ k, some (some x) = some (some k) ∧ P k) = P x := propext ⟨fun ⟨k, e, w⟩ => by cases e; exact w, fun w => ⟨x, rfl, w⟩⟩
theorem z_some1 {α : Type} {x : α} {P : α → Prop} : (∃ k, some x = some k ∧ P k) = P x := propext ⟨fun ⟨k, e, w⟩ => by cases e; exact w, fun w => ⟨x, rfl, w⟩⟩
theorem z_two {P : Int → Int → Prop} : (∃ k l, D.int i = D.int k ∧ D.int j = D.int l ∧ P k l) = P i j := propext ⟨fun ⟨k, l, e, e2, w⟩ => by cases e; cases e2; exact w, fun w => ⟨i, j, rfl, rfl, w⟩⟩
end
section
variable {h : MH} {Q : DK} {i j : Int} {a b : List Int} {xs ys : List D} {p : Addr} {ng sw : Bool}
theorem z_lenL (e : h p = some (.lst xs)) : bltD .len [.ref p] h Q = Q (.int xs.length) h := by simp only [bltD, dctOf, seqOf, e]
theorem z_idxL (e : h p = some (.lst xs)) : idxD (.ref p) (.int i) h Q = ∃ d, L2.atI xs i = some d ∧ Q d h := by simp only [idxD, dctOf, seqOf, e]
theorem z_slL {lo hi : Option Int} (e : h p = some (.lst xs)) : slD (.ref p) lo hi h Q = newL h (cutD xs lo hi) Q := by simp only [slD, seqOf, e]
theorem z_app {d : D} (e : h p = some (.lst xs)) : mthD .app (.ref p) [d] h Q = (xs.length < sizeLine ∧ Q .non (mup h p (.lst (xs ++ [d])))) := by simp only [mthD, e]
end
theorem Ex.none {h h' : MH} (e : Ex h h') {p : Addr} (n : h' p = Option.none) : h p = Option.none := by
  cases q : h p with
  | none => rfl
  | some o => rw [e p o q] at n; cases n
/-- a change at a place that was not there before -/
theorem Ex.upd {h h' : MH} (e : Ex h h') {p : Addr} {o : MO} (n : h p = Option.none) : Ex h (mup h' p o) := fun a u q => by
  have : a ≠ p := fun z => by rw [z, n] at q; cases q
  rw [mup_ne this]; exact e a u q
/-- a loop over items that are told by a list: J by what is taken -/
theorem loop_map {β α : Type} {xs : List β} {f : β → D} {st : MH → Prop} {turn : D → α → MH → (α → MH → Prop) → Prop} {a : α} {h : MH} {Q : α → MH → Prop} (J : List β → α → MH → Prop) (h0 : J [] a h) (hst : ∀ pre a h, J pre a h → st h)
    (hs : ∀ pre x post a h, xs = pre ++ x :: post → J pre a h → turn (f x) a h (J (pre ++ [x]))) (hd : ∀ a h, J xs a h → Q a h) : loopW (xs.map f) st turn a h Q := by
  refine loop_go (fun i a h => i ≤ xs.length ∧ J (xs.take i) a h) ⟨by omega, h0⟩ (fun i a h j => ⟨by rw [List.length_map]; exact j.1, hst _ _ _ j.2⟩) ?_ ?_
  · rintro i x a h hx ⟨hi, j⟩
    rw [List.getElem?_map] at hx
    obtain ⟨y, hy, rfl⟩ := Option.map_eq_some_iff.mp hx
    have hlt : i < xs.length := by
      by_cases hl : i < xs.length
      · exact hl
      · rw [List.getElem?_eq_none (by omega)] at hy; cases hy
    have e : xs = xs.take i ++ y :: xs.drop (i + 1) := by
      have := List.drop_eq_getElem_cons hlt
      rw [List.getElem?_eq_getElem hlt] at hy
      cases hy
      rw [← this, List.take_append_drop]
    have := hs _ _ _ a h e j
    have e2 : xs.take (i + 1) = xs.take i ++ [y] := by rw [List.take_succ, hy]; rfl
    refine cast ?_ this
    congr 1
    funext a h
    rw [e2]
    exact propext ⟨fun z => ⟨hlt, z⟩, fun z => z.2⟩
  · rintro a h ⟨_, j⟩
    rw [List.length_map, List.take_length] at j
    exact hd a h j
/-- a comprehension: p the test, f the item made, heap growing -/
theorem comp_map {β : Type} {xs : List β} {dx : β → D} {st : MH → Prop} {p : β → Bool} {f : β → D} {h : MH} {Q : List D → MH → Prop} {turn : D → List D → MH → (List D → MH → Prop) → Prop} (hst : ∀ h', Ex h h' → st h')
    (ht : ∀ (x : β) (acc : List D) (h' : MH) (K : List D → MH → Prop), x ∈ xs → acc.length < xs.length → Ex h h' → (∀ h2, Ex h' h2 → K (if p x = true then acc ++ [f x] else acc) h2) → turn (dx x) acc h' K) (hq : ∀ h', Ex h h' → Q ((xs.filter p).map f) h') : loopW (xs.map dx) st turn [] h Q := by
  refine loop_map (fun pre acc h' => Ex h h' ∧ acc = (pre.filter p).map f) ⟨.refl _, rfl⟩ (fun _ _ _ j => hst _ j.1) ?_ ?_
  · rintro pre x post acc h' e ⟨e1, rfl⟩
    have hl : ((pre.filter p).map f).length < xs.length := by
      rw [List.length_map]
      have := List.length_filter_le p pre
      rw [e, List.length_append, List.length_cons]; omega
    refine ht x _ h' _ (by rw [e]; simp) hl e1 fun h2 e2 => ⟨e1.trans e2, ?_⟩
    rw [List.filter_append, List.map_append]
    by_cases hp : p x = true
    · rw [if_pos hp, List.filter_cons_of_pos hp]; rfl
    · rw [if_neg hp, List.filter_cons_of_neg hp]; simp
  · rintro acc h' ⟨e1, rfl⟩
    exact hq h' e1
theorem rngL_map {lo : Int} {n : Nat} : rngL lo n = (List.range n).map fun (i : Nat) => D.int (lo + i) := rfl
end MP

/-! Km1: rings of blocks: the least odd block, merging, turning about. -/
namespace MP
open PySem PySem.W
/-- words by their length, then by their letters -/
def wlt (a b : List Int) : Bool := if a.length = b.length then lexI a b else decide (a.length < b.length)
theorem wlt_irr (a : List Int) : wlt a a = false := by unfold wlt; rw [if_pos rfl, lexI_irr]
theorem wlt_tri {a b : List Int} (h1 : wlt a b = false) (h2 : wlt b a = false) : a = b := by
  unfold wlt at h1 h2
  by_cases e : a.length = b.length
  · rw [if_pos e] at h1; rw [if_pos e.symm] at h2; exact lexI_tri h1 h2
  · rw [if_neg e] at h1; rw [if_neg (Ne.symm e)] at h2
    simp only [decide_eq_false_iff_not] at h1 h2; omega
theorem wlt_trans {a b c : List Int} (h1 : wlt a b = true) (h2 : wlt b c = true) : wlt a c = true := by
  unfold wlt at h1 h2 ⊢
  by_cases e : a.length = b.length
  · rw [if_pos e] at h1
    by_cases e2 : b.length = c.length
    · rw [if_pos e2] at h2; rw [if_pos (e.trans e2)]; exact lexI_trans h1 h2
    · rw [if_neg e2] at h2; rw [if_neg (by rw [e]; exact e2)]; simp only [decide_eq_true_eq] at *; omega
  · rw [if_neg e] at h1
    simp only [decide_eq_true_eq] at h1
    by_cases e2 : b.length = c.length
    · rw [if_neg (by omega)]; simp only [decide_eq_true_eq]; omega
    · rw [if_neg e2] at h2; simp only [decide_eq_true_eq] at h2
      rw [if_neg (by omega)]; simp only [decide_eq_true_eq]; omega
def okW (n : Int) (w : List Int) : Bool := decide (w.length % 2 = 1) && decide ((w.length : Int) < n)
def loS (n : Int) (best : Option (List Int)) (w : List Int) : Option (List Int) :=
  if okW n w = true then (match best with
    | none => some w
    | some b => if wlt w b = true then some w else some b) else best
def lo (ws : List (List Int)) (n : Int) : Option (List Int) := ws.foldl (loS n) none
def LoOk (n : Int) (ws : List (List Int)) (r : Option (List Int)) : Prop :=
  match r with
  | none => ∀ w ∈ ws, okW n w = false
  | some l => l ∈ ws ∧ okW n l = true ∧ ∀ w ∈ ws, okW n w = true → wlt w l = false
theorem loOk_step {n : Int} {ws : List (List Int)} {r : Option (List Int)} {w : List Int} (h : LoOk n ws r) : LoOk n (ws ++ [w]) (loS n r w) := by
  unfold loS
  by_cases ok : okW n w = true
  · rw [if_pos ok]
    cases r with
    | none =>
      refine ⟨by simp, ok, fun v hv hk => ?_⟩
      rcases List.mem_append.mp hv with hv | hv
      · rw [h v hv] at hk; cases hk
      · rw [List.mem_singleton.mp hv]; exact wlt_irr _
    | some b =>
      obtain ⟨h1, h2, h3⟩ := h
      dsimp only
      by_cases lt : wlt w b = true
      · rw [if_pos lt]
        refine ⟨by simp, ok, fun v hv hk => ?_⟩
        rcases List.mem_append.mp hv with hv | hv
        · cases e : wlt v w with
          | false => rfl
          | true => have := h3 v hv hk; rw [wlt_trans e lt] at this; cases this
        · rw [List.mem_singleton.mp hv]; exact wlt_irr _
      · rw [if_neg lt]
        refine ⟨by simp [h1], h2, fun v hv hk => ?_⟩
        rcases List.mem_append.mp hv with hv | hv
        · exact h3 v hv hk
        · rw [List.mem_singleton.mp hv]; simpa using lt
  · rw [if_neg ok]
    have okf : okW n w = false := by simpa using ok
    cases r with
    | none =>
      intro v hv
      rcases List.mem_append.mp hv with hv | hv
      · exact h v hv
      · rw [List.mem_singleton.mp hv]; exact okf
    | some b =>
      obtain ⟨h1, h2, h3⟩ := h
      refine ⟨by simp [h1], h2, fun v hv hk => ?_⟩
      rcases List.mem_append.mp hv with hv | hv
      · exact h3 v hv hk
      · rw [List.mem_singleton.mp hv, okf] at hk; cases hk
theorem loOk_fold {n : Int} : ∀ (ws pre : List (List Int)) (r : Option (List Int)), LoOk n pre r → LoOk n (pre ++ ws) (ws.foldl (loS n) r)
  | [], pre, r, h => by rw [List.append_nil]; exact h
  | w :: ws, pre, r, h => by
    have := loOk_fold ws (pre ++ [w]) (loS n r w) (loOk_step h)
    rw [List.append_assoc] at this
    exact this
theorem lo_ok (ws : List (List Int)) (n : Int) : LoOk n ws (lo ws n) := loOk_fold ws [] none fun _ h => nomatch h
theorem loOk_uni {n : Int} {A B : List (List Int)} {r r' : Option (List Int)} (h : ∀ w, w ∈ A ↔ w ∈ B) (hr : LoOk n A r) (hr' : LoOk n B r') : r = r' := by
  cases r with
  | none => cases r' with
    | none => rfl
    | some l => have := hr l ((h l).mpr hr'.1); rw [hr'.2.1] at this; cases this
  | some l => cases r' with
    | none => have := hr' l ((h l).mp hr.1); rw [hr.2.1] at this; cases this
    | some l' => rw [wlt_tri (hr'.2.2 l ((h l).mp hr.1) hr.2.1) (hr.2.2 l' ((h l').mpr hr'.1) hr'.2.1)]
theorem lo_eq {A B : List (List Int)} {n : Int} (h : ∀ w, w ∈ A ↔ w ∈ B) : lo A n = lo B n := loOk_uni h (lo_ok A n) (lo_ok B n)
/-! ### merging -/
def fne (l : List Int) (ws : List (List Int)) : Nat := ws.findIdx fun w => decide (w ≠ l)
def cutB {α : Type} (k : Nat) (ws : List α) : List α := ws.drop k ++ ws.take k
def mst (l : List Int) (s : List (List Int) × List Int) (w : List Int) : List (List Int) × List Int := if w = l then (s.1, s.2 ++ w) else (s.1 ++ [s.2 ++ w], [])
def mrg (l : List Int) (ws : List (List Int)) : List (List Int) := (ws.foldl (mst l) ([], [])).1
def mring (ws : List (List Int)) (l : List Int) : List (List Int) := mrg l (cutB (fne l ws + 1) ws)
def IsRot {α : Type} (A B : List α) : Prop := ∃ X Y, A = X ++ Y ∧ B = Y ++ X
theorem IsRot.refl {α : Type} (A : List α) : IsRot A A := ⟨[], A, rfl, by simp⟩
theorem IsRot.symm {α : Type} {A B : List α} (h : IsRot A B) : IsRot B A := by obtain ⟨X, Y, e1, e2⟩ := h; exact ⟨Y, X, e2, e1⟩
theorem IsRot.trans {α : Type} {A B C : List α} (h1 : IsRot A B) (h2 : IsRot B C) : IsRot A C := by
  obtain ⟨X, Y, rfl, rfl⟩ := h1
  obtain ⟨X', Y', e, rfl⟩ := h2
  rcases List.append_eq_append_iff.mp e with ⟨as, rfl, rfl⟩ | ⟨bs, rfl, rfl⟩
  · exact ⟨as, Y' ++ Y, by simp, by simp⟩
  · exact ⟨X ++ X', bs, by simp, by simp⟩
theorem isRot_cut {α : Type} (k : Nat) (ws : List α) : IsRot ws (cutB k ws) := ⟨ws.take k, ws.drop k, by simp, rfl⟩
theorem IsRot.mem {α : Type} {A B : List α} (h : IsRot A B) (w : α) : w ∈ A ↔ w ∈ B := by
  obtain ⟨X, Y, rfl, rfl⟩ := h
  simp [or_comm]
theorem IsRot.len {α : Type} {A B : List α} (h : IsRot A B) : A.length = B.length := by
  obtain ⟨X, Y, rfl, rfl⟩ := h
  simp; omega
def EndN (l : List Int) (A : List (List Int)) : Prop := A = [] ∨ ∃ A' x, A = A' ++ [x] ∧ x ≠ l
theorem EndN.suf {l : List Int} {A B : List (List Int)} (h : EndN l (A ++ B)) : EndN l B := by
  rcases h with h | ⟨A', x, e, hx⟩
  · exact .inl (List.append_eq_nil_iff.mp h).2
  · rcases List.eq_nil_or_concat B with rfl | ⟨B', y, rfl⟩
    · exact .inl rfl
    · rw [List.concat_eq_append] at e ⊢
      rw [← List.append_assoc] at e
      have := List.append_inj_right' e rfl
      cases this
      exact .inr ⟨B', _, rfl, hx⟩
theorem mst_fold (l : List Int) : ∀ (B : List (List Int)) (f : List (List Int)) (r : List Int), B.foldl (mst l) (f, r) = (f ++ (B.foldl (mst l) ([], r)).1, (B.foldl (mst l) ([], r)).2)
  | [], f, r => by simp
  | w :: B, f, r => by
    rw [List.foldl_cons, List.foldl_cons]
    unfold mst
    by_cases e : w = l
    · simp only [if_pos e]
      exact mst_fold l B f _
    · simp only [if_neg e]
      have h1 := mst_fold l B (f ++ [r ++ w]) []
      have h2 := mst_fold l B ([] ++ [r ++ w]) []
      unfold mst at h1 h2
      rw [h1, h2]
      simp
theorem mst_end {l : List Int} {A : List (List Int)} (h : EndN l A) : (A.foldl (mst l) ([], [])).2 = [] := by
  rcases h with rfl | ⟨A', x, rfl, hx⟩
  · rfl
  · rw [List.foldl_append, List.foldl_cons, List.foldl_nil]
    unfold mst
    simp only [if_neg hx]
theorem mrg_app {l : List Int} {A B : List (List Int)} (h : EndN l A) : mrg l (A ++ B) = mrg l A ++ mrg l B := by
  unfold mrg
  rw [List.foldl_append]
  have e : A.foldl (mst l) ([], []) = ((A.foldl (mst l) ([], [])).1, []) := Prod.ext rfl (mst_end h)
  rw [e, mst_fold]
theorem mst_len (l : List Int) : ∀ (B f : List (List Int)) (r : List Int), (B.foldl (mst l) (f, r)).1.length = f.length + (B.filter fun w => decide (w ≠ l)).length
  | [], f, r => by simp
  | w :: B, f, r => by
    rw [List.foldl_cons]
    unfold mst
    by_cases e : w = l
    · simp only [if_pos e]
      have := mst_len l B f (r ++ w)
      unfold mst at this
      rw [this, List.filter_cons_of_neg (by simp [e])]
    · simp only [if_neg e]
      have := mst_len l B (f ++ [r ++ w]) []
      unfold mst at this
      rw [this, List.filter_cons_of_pos (by simp [e])]
      simp; omega
theorem mrg_none {l : List Int} {A : List (List Int)} (h : ∀ w ∈ A, w = l) : mrg l A = [] := by
  have := mst_len l A [] []
  have e : (A.filter fun w => decide (w ≠ l)) = [] := List.filter_eq_nil_iff.mpr fun w hw => by simp [h w hw]
  rw [e] at this
  exact List.eq_nil_of_length_eq_zero this
theorem cut_endN {l : List Int} {ws : List (List Int)} (h : ∃ w ∈ ws, w ≠ l) : EndN l (cutB (fne l ws + 1) ws) := by
  have hlt : fne l ws < ws.length := List.findIdx_lt_length_of_exists (by obtain ⟨w, h1, h2⟩ := h; exact ⟨w, h1, by simp [h2]⟩)
  have hp : decide (ws[fne l ws] ≠ l) = true := List.findIdx_getElem (w := hlt)
  refine .inr ⟨ws.drop (fne l ws + 1) ++ ws.take (fne l ws), ws[fne l ws], ?_, of_decide_eq_true hp⟩
  unfold cutB
  rw [List.append_assoc, List.take_add_one, List.getElem?_eq_getElem hlt]
  rfl
theorem mring_len {l : List Int} (ws : List (List Int)) : (mring ws l).length = (ws.filter fun w => decide (w ≠ l)).length := by
  have := mst_len l (cutB (fne l ws + 1) ws) [] []
  unfold mring mrg
  rw [this]
  unfold cutB
  rw [List.filter_append, List.length_append]
  have e : (ws.filter fun w => decide (w ≠ l)).length = ((ws.take (fne l ws + 1) ++ ws.drop (fne l ws + 1)).filter fun w => decide (w ≠ l)).length := by rw [List.take_append_drop]
  rw [e, List.filter_append, List.length_append]
  simp only [List.length_nil]
  omega
theorem mring_rot {A B : List (List Int)} {l : List Int} (h : IsRot A B) : IsRot (mring A l) (mring B l) := by
  by_cases ex : ∃ w ∈ A, w ≠ l
  · have ex2 : ∃ w ∈ B, w ≠ l := by obtain ⟨w, h1, h2⟩ := ex; exact ⟨w, (h.mem w).mp h1, h2⟩
    have e1 := cut_endN ex
    have e2 := cut_endN ex2
    obtain ⟨X, Y, h1, h2⟩ := ((isRot_cut (fne l A + 1) A).symm.trans h).trans (isRot_cut (fne l B + 1) B)
    unfold mring
    rw [h1] at e1 ⊢
    rw [h2] at e2 ⊢
    rw [mrg_app e2.suf, mrg_app e1.suf]
    exact ⟨_, _, rfl, rfl⟩
  · have a1 : ∀ w ∈ A, w = l := fun w hw => Classical.byContradiction fun z => ex ⟨w, hw, z⟩
    have a2 : ∀ w ∈ B, w = l := fun w hw => a1 w ((h.mem w).mpr hw)
    unfold mring
    rw [mrg_none fun w hw => a1 w (((isRot_cut (fne l A + 1) A).mem w).mpr hw), mrg_none fun w hw => a2 w (((isRot_cut (fne l B + 1) B).mem w).mpr hw)]
    exact .refl _
def cring (n : Int) : Nat → List (List Int) → List (List Int)
  | 0, ws => ws
  | k + 1, ws => if ws.length ≤ 1 then ws else match lo ws n with
    | none => ws
    | some l => cring n k (mring ws l)
theorem cring_rot (n : Int) : ∀ (k : Nat) {A B : List (List Int)}, IsRot A B → IsRot (cring n k A) (cring n k B)
  | 0, A, B, h => h
  | k + 1, A, B, h => by
    unfold cring
    rw [h.len, lo_eq (n := n) h.mem]
    split
    · exact h
    · split
      · exact h
      · exact cring_rot n k (mring_rot h)
/-! ### with starts -/
abbrev Bk := Int × List Int
def tst (l : List Int) (s : List Bk × Int × List Int) (b : Bk) : List Bk × Int × List Int :=
  if b.2 = l then (s.1, (if s.2.2 = [] then b.1 else s.2.1), s.2.2 ++ b.2) else (s.1 ++ [((if s.2.2 = [] then b.1 else s.2.1), s.2.2 ++ b.2)], (if s.2.2 = [] then b.1 else s.2.1), [])
def tmr (bs : List Bk) (l : List Int) : List Bk := ((cutB (fne l (bs.map (·.2)) + 1) bs).foldl (tst l) ([], 0, [])).1
theorem tst_snd (l : List Int) : ∀ (X : List Bk) (j : List Bk) (s : Int) (hd : List Int), ((X.foldl (tst l) (j, s, hd)).1.map (·.2), (X.foldl (tst l) (j, s, hd)).2.2) = (X.map (·.2)).foldl (mst l) (j.map (·.2), hd)
  | [], j, s, hd => rfl
  | b :: X, j, s, hd => by
    rw [List.foldl_cons, List.map_cons, List.foldl_cons]
    have e : ∀ t : List Bk × Int × List Int, t = (t.1, t.2.1, t.2.2) := fun _ => rfl
    rw [e (tst l (j, s, hd) b), tst_snd l X]
    congr 1
    unfold tst mst
    by_cases h : b.2 = l <;> simp [h]
theorem tmr_snd (bs : List Bk) (l : List Int) : (tmr bs l).map (·.2) = mring (bs.map (·.2)) l := by
  have := congrArg Prod.fst (tst_snd l (cutB (fne l (bs.map (·.2)) + 1) bs) [] 0 [])
  unfold tmr mring mrg
  simp only at this
  rw [this]
  unfold cutB
  simp
def tring (n : Int) : Nat → List Bk → List Bk
  | 0, bs => bs
  | k + 1, bs => if bs.length ≤ 1 then bs else match lo (bs.map (·.2)) n with
    | none => bs
    | some l => tring n k (tmr bs l)
theorem tring_snd (n : Int) : ∀ (k : Nat) (bs : List Bk), (tring n k bs).map (·.2) = cring n k (bs.map (·.2))
  | 0, bs => rfl
  | k + 1, bs => by
    unfold tring cring
    rw [List.length_map]
    split
    · rfl
    · split
      · rfl
      · rw [tring_snd n k, tmr_snd]
end MP

/-! Km2: blocks stand on the word's ring. -/
namespace MP
open PySem PySem.W
def rot (w : List Int) (k : Nat) : List Int := w.drop k ++ w.take k
def ltr (w : List Int) (i : Nat) : Int := w.getD (i % w.length) 0
def cyc (w : List Int) (s k : Nat) : List Int := (List.range k).map fun i => ltr w (s + i)
theorem cyc_len (w : List Int) (s k : Nat) : (cyc w s k).length = k := by simp [cyc]
theorem cyc_get {w : List Int} {s k i : Nat} (h : i < k) : (cyc w s k)[i]? = some (ltr w (s + i)) := by
  unfold cyc
  rw [List.getElem?_map, List.getElem?_range h]; rfl
theorem cyc_ext {w v : List Int} {s t k : Nat} (h : ∀ i, i < k → ltr w (s + i) = ltr v (t + i)) : cyc w s k = cyc v t k := by
  unfold cyc
  exact List.map_congr_left fun i hi => h i (List.mem_range.mp hi)
theorem cyc_inj {w v : List Int} {s t k : Nat} (h : cyc w s k = cyc v t k) {i : Nat} (hi : i < k) : ltr w (s + i) = ltr v (t + i) := by
  have e := congrArg (fun l : List Int => l[i]?) h
  simp only [cyc_get hi] at e
  exact Option.some.inj e
theorem cyc_app (w : List Int) (s k m : Nat) : cyc w s (k + m) = cyc w s k ++ cyc w (s + k) m := by
  unfold cyc
  rw [List.range_add, List.map_append, List.map_map]
  congr 1
  exact List.map_congr_left fun i _ => by simp [Nat.add_assoc]
theorem ltr_per (w : List Int) (i : Nat) : ltr w (i + w.length) = ltr w i := by unfold ltr; rw [Nat.add_mod_right]
theorem ltr_mod (w : List Int) (i : Nat) : ltr w (i % w.length) = ltr w i := by unfold ltr; rw [Nat.mod_mod]
theorem ltr_add_mod (w : List Int) (s i : Nat) : ltr w (s % w.length + i) = ltr w (s + i) := by unfold ltr; rw [Nat.mod_add_mod]
theorem cyc_mod (w : List Int) (s k : Nat) : cyc w (s % w.length) k = cyc w s k := cyc_ext fun i _ => ltr_add_mod w s i
theorem rot_len (w : List Int) (k : Nat) : (rot w k).length = w.length := by unfold rot; simp; omega
theorem rot_cyc {w : List Int} {k : Nat} (h : k < w.length) : rot w k = cyc w k w.length := by
  apply List.ext_getElem?
  intro i
  by_cases hi : i < w.length
  · rw [cyc_get hi]
    unfold rot ltr
    by_cases h2 : i < w.length - k
    · rw [List.getElem?_append_left (by rw [List.length_drop]; exact h2), List.getElem?_drop, Nat.mod_eq_of_lt (by omega), List.getD_eq_getElem?_getD, List.getElem?_eq_getElem (by omega)]; rfl
    · rw [List.getElem?_append_right (by rw [List.length_drop]; omega), List.length_drop, List.getElem?_take, if_pos (by omega)]
      have : (k + i) % w.length = i - (w.length - k) := by
        rw [Nat.mod_eq_sub_mod (by omega), Nat.mod_eq_of_lt (by omega)]; omega
      rw [this, List.getD_eq_getElem?_getD, List.getElem?_eq_getElem (by omega)]; rfl
  · rw [List.getElem?_eq_none (by rw [rot_len]; omega), List.getElem?_eq_none (by rw [cyc_len]; omega)]
theorem rot_zero (w : List Int) : rot w 0 = w := by simp [rot]
theorem ltr_rot {w : List Int} {k : Nat} (h : k < w.length) (i : Nat) : ltr (rot w k) i = ltr w (k + i) := by
  have hn : 0 < w.length := by omega
  have e : ltr (rot w k) i = ((rot w k)[i % w.length]?).getD 0 := by unfold ltr; rw [rot_len, List.getD_eq_getElem?_getD]
  rw [e, rot_cyc h, cyc_get (Nat.mod_lt _ hn), Option.getD_some]
  unfold ltr; rw [Nat.add_mod_mod]
theorem rot_rot {w : List Int} {k j : Nat} (hk : k < w.length) (hj : j < w.length) : rot (rot w k) j = rot w ((k + j) % w.length) := by
  have hn : 0 < w.length := by omega
  rw [rot_cyc (w := rot w k) (by rw [rot_len]; exact hj), rot_cyc (Nat.mod_lt _ hn), cyc_mod, rot_len]
  exact cyc_ext fun i _ => by rw [ltr_rot hk, Nat.add_assoc]
def Pln (w : List Int) : Prop := w ≠ [] ∧ ∀ k, 1 ≤ k → k < w.length → rot w k ≠ w
theorem Pln.pos {w : List Int} (h : Pln w) : 0 < w.length := List.length_pos_iff.mpr h.1
/-- two turns alike from everywhere -/
theorem ltr_all {w : List Int} {i j : Nat} (e : cyc w i w.length = cyc w j w.length) (m : Nat) : ltr w (i + m) = ltr w (j + m) := by
  by_cases h0 : w.length = 0
  · have : w = [] := List.eq_nil_of_length_eq_zero h0
    subst this; rfl
  · have := cyc_inj e (Nat.mod_lt m (by omega))
    unfold ltr at this ⊢
    rwa [Nat.add_mod_mod, Nat.add_mod_mod] at this
theorem Pln.inj {w : List Int} (p : Pln w) {i j : Nat} (hi : i < w.length) (hj : j < w.length) (e : rot w i = rot w j) : i = j := by
  have main : ∀ i j, i < j → j < w.length → rot w i = rot w j → False := by
    intro i j hij hj e
    rw [rot_cyc (by omega), rot_cyc hj] at e
    refine p.2 (j - i) (by omega) (by omega) ?_
    have e0 : w = rot w 0 := (rot_zero w).symm
    rw [rot_cyc (by omega)]
    conv => rhs; rw [e0, rot_cyc p.pos]
    refine cyc_ext fun m _ => ?_
    have h1 := ltr_all e (w.length - i + m)
    have e1 : i + (w.length - i + m) = m + w.length := by omega
    have e2 : j + (w.length - i + m) = (j - i + m) + w.length := by omega
    rw [e1, e2, ltr_per, ltr_per] at h1
    rw [Nat.zero_add]
    exact h1.symm
  rcases Nat.lt_trichotomy i j with h | h | h
  · exact (main i j h hj e).elim
  · exact h
  · exact (main j i h hi e.symm).elim
theorem Pln.rot {w : List Int} (p : Pln w) {k : Nat} (hk : k < w.length) : Pln (rot w k) := by
  refine ⟨fun z => ?_, fun j h1 h2 e => ?_⟩
  · have h0 : (MP.rot w k).length = 0 := by rw [z]; rfl
    rw [rot_len] at h0; have := p.pos; omega
  · rw [rot_len] at h2
    rw [rot_rot hk h2] at e
    have := p.inj (Nat.mod_lt _ p.pos) hk e
    by_cases h : k + j < w.length
    · rw [Nat.mod_eq_of_lt h] at this; omega
    · rw [Nat.mod_eq_sub_mod (by omega), Nat.mod_eq_of_lt (by omega)] at this; omega
/-! ### blocks on the ring -/
def Cov (w : List Int) : Nat → List Bk → Nat → Prop
  | s, [], e => s = e
  | s, b :: bs, e => b.1 = ((s % w.length : Nat) : Int) ∧ b.2 = cyc w s b.2.length ∧ Cov w (s + b.2.length) bs e
theorem Cov.app {w : List Int} : ∀ {A B : List Bk} {s m e : Nat}, Cov w s A m → Cov w m B e → Cov w s (A ++ B) e
  | [], B, s, m, e, h1, h2 => by cases h1; exact h2
  | b :: A, B, s, m, e, ⟨a1, a2, a3⟩, h2 => ⟨a1, a2, Cov.app a3 h2⟩
theorem Cov.split {w : List Int} : ∀ {A B : List Bk} {s e : Nat}, Cov w s (A ++ B) e → ∃ m, Cov w s A m ∧ Cov w m B e
  | [], B, s, e, h => ⟨s, rfl, h⟩
  | b :: A, B, s, e, ⟨a1, a2, a3⟩ => by
    obtain ⟨m, h1, h2⟩ := Cov.split a3
    exact ⟨m, ⟨a1, a2, h1⟩, h2⟩
theorem Cov.shift {w : List Int} : ∀ {A : List Bk} {s e : Nat}, Cov w s A e → Cov w (s + w.length) A (e + w.length)
  | [], s, e, h => by cases h; rfl
  | b :: A, s, e, ⟨a1, a2, a3⟩ => by
    refine ⟨by rw [Nat.add_mod_right]; exact a1, ?_, ?_⟩
    · have : cyc w (s + w.length) b.2.length = cyc w s b.2.length := cyc_ext fun i _ => by rw [show s + w.length + i = s + i + w.length by omega, ltr_per]
      rw [this]; exact a2
    · have := Cov.shift a3
      rw [show s + b.2.length + w.length = s + w.length + b.2.length by omega] at this
      exact this
theorem Cov.sum {w : List Int} : ∀ {A : List Bk} {s e : Nat}, Cov w s A e → s + (A.map fun b => b.2.length).sum = e
  | [], s, e, h => by cases h; rfl
  | b :: A, s, e, ⟨a1, a2, a3⟩ => by
    rw [List.map_cons, List.sum_cons, ← Cov.sum a3]; omega
def Sta (w : List Int) (bs : List Bk) : Prop := (∃ s, Cov w s bs (s + w.length)) ∧ ∀ b ∈ bs, b.2 ≠ []
theorem Sta.cut {w : List Int} {bs : List Bk} (h : Sta w bs) (k : Nat) : Sta w (cutB k bs) := by
  obtain ⟨⟨s, c⟩, ne⟩ := h
  rw [← List.take_append_drop k bs] at c
  obtain ⟨m, c1, c2⟩ := c.split
  refine ⟨⟨m, c2.app c1.shift⟩, fun b hb => ne b (((isRot_cut k bs).mem b).mpr hb)⟩
theorem tst_cov {w : List Int} {l : List Int} : ∀ (X : List Bk) (s m e : Nat) (j : List Bk) (st : Int) (hd : List Int), (∀ b ∈ X, b.2 ≠ []) → (∀ b ∈ j, b.2 ≠ []) → Cov w s j m → hd = cyc w m hd.length → (hd ≠ [] → st = ((m % w.length : Nat) : Int)) → Cov w (m + hd.length) X e →
    ∃ m', Cov w s (X.foldl (tst l) (j, st, hd)).1 m' ∧ m' + (X.foldl (tst l) (j, st, hd)).2.2.length = e ∧ ∀ b ∈ (X.foldl (tst l) (j, st, hd)).1, b.2 ≠ []
  | [], s, m, e, j, st, hd, ne, nj, cj, eh, es, cx => ⟨m, cj, cx, nj⟩
  | b :: X, s, m, e, j, st, hd, ne, nj, cj, eh, es, ⟨a1, a2, a3⟩ => by
    rw [List.foldl_cons]
    have hb := ne b List.mem_cons_self
    have hst : (if hd = [] then b.1 else st) = ((m % w.length : Nat) : Int) := by
      by_cases z : hd = []
      · rw [if_pos z, a1, z]; rfl
      · rw [if_neg z, es z]
    have hcat : hd ++ b.2 = cyc w m (hd ++ b.2).length := by
      rw [List.length_append, cyc_app, ← eh, ← a2]
    have hne : hd ++ b.2 ≠ [] := fun z => hb (List.append_eq_nil_iff.mp z).2
    have hl : m + hd.length + b.2.length = m + (hd ++ b.2).length := by rw [List.length_append]; omega
    by_cases q : b.2 = l
    · have e1 : tst l (j, st, hd) b = (j, (if hd = [] then b.1 else st), hd ++ b.2) := by unfold tst; rw [if_pos q]
      rw [e1]
      exact tst_cov X s m e j _ _ (fun b hb => ne b (List.mem_cons_of_mem _ hb)) nj cj hcat (fun _ => hst) (by rw [← hl]; exact a3)
    · have e1 : tst l (j, st, hd) b = (j ++ [((if hd = [] then b.1 else st), hd ++ b.2)], (if hd = [] then b.1 else st), []) := by unfold tst; rw [if_neg q]
      rw [e1]
      refine tst_cov X s (m + (hd ++ b.2).length) e _ _ [] (fun b hb => ne b (List.mem_cons_of_mem _ hb)) ?_ (cj.app ⟨hst, hcat, rfl⟩) rfl (fun z => absurd rfl z) (by rw [← hl]; exact a3)
      intro c hc
      rcases List.mem_append.mp hc with hc | hc
      · exact nj c hc
      · rw [List.mem_singleton.mp hc]; exact hne
theorem Sta.step {w : List Int} {bs : List Bk} {l : List Int} (h : Sta w bs) (ex : ∃ b ∈ bs, b.2 ≠ l) : Sta w (tmr bs l) := by
  have hc := h.cut (fne l (bs.map (·.2)) + 1)
  obtain ⟨⟨s, c⟩, ne⟩ := hc
  obtain ⟨m', c1, c2, c3⟩ := tst_cov (l := l) _ s s (s + w.length) [] 0 [] ne (fun _ z => nomatch z) rfl rfl (fun z => absurd rfl z) c
  refine ⟨⟨s, ?_⟩, c3⟩
  have e0 := congrArg Prod.snd (tst_snd l (cutB (fne l (bs.map (·.2)) + 1) bs) [] 0 [])
  have e1 : (cutB (fne l (bs.map (·.2)) + 1) bs).map (·.2) = cutB (fne l (bs.map (·.2)) + 1) (bs.map (·.2)) := by unfold cutB; simp
  have en : EndN l (cutB (fne l (bs.map (·.2)) + 1) (bs.map (·.2))) := cut_endN (by obtain ⟨b, h1, h2⟩ := ex; exact ⟨b.2, List.mem_map_of_mem h1, h2⟩)
  rw [e1, List.map_nil, mst_end en] at e0
  simp only at e0
  rw [e0] at c2
  have e2 : m' = s + w.length := by simpa using c2
  rw [e2] at c1
  exact c1
/-- all blocks alike: the word is told again -/
theorem all_like {w l : List Int} (hl : l ≠ []) : ∀ {bs : List Bk} {s e : Nat}, Cov w s bs e → (∀ b ∈ bs, b.2 = l) → e = s + bs.length * l.length ∧ ∀ i, i < bs.length * l.length → ltr w (s + i) = ltr l i
  | [], s, e, h, _ => by cases h; simp
  | b :: bs, s, e, ⟨a1, a2, a3⟩, al => by
    have hb := al b List.mem_cons_self
    rw [hb] at a2 a3
    obtain ⟨h1, h2⟩ := all_like hl a3 fun b hb => al b (List.mem_cons_of_mem _ hb)
    have e1 : (b :: bs).length * l.length = l.length + bs.length * l.length := by rw [List.length_cons, Nat.succ_mul]; omega
    have hp : 0 < l.length := List.length_pos_iff.mpr hl
    refine ⟨by rw [e1, h1]; omega, fun i hi => ?_⟩
    rw [e1] at hi
    by_cases hs : i < l.length
    · have : l[i]? = some (ltr w (s + i)) := by
        have := cyc_get (w := w) (s := s) hs
        rw [← a2] at this; exact this
      show ltr w (s + i) = l.getD (i % l.length) 0
      rw [Nat.mod_eq_of_lt hs, List.getD_eq_getElem?_getD, this]; rfl
    · have := h2 (i - l.length) (by omega)
      rw [show s + l.length + (i - l.length) = s + i by omega] at this
      rw [this]
      have := ltr_per l (i - l.length)
      rw [Nat.sub_add_cancel (by omega)] at this
      exact this.symm
theorem Sta.unlike {w l : List Int} {bs : List Bk} (p : Pln w) (h : Sta w bs) (h2 : 2 ≤ bs.length) : ∃ b ∈ bs, b.2 ≠ l := by
  refine Classical.byContradiction fun z => ?_
  have al : ∀ b ∈ bs, b.2 = l := fun b hb => Classical.byContradiction fun q => z ⟨b, hb, q⟩
  obtain ⟨⟨s, c⟩, ne⟩ := h
  have hl : l ≠ [] := by
    cases bs with
    | nil => simp at h2
    | cons b bs => rw [← al b List.mem_cons_self]; exact ne b List.mem_cons_self
  obtain ⟨e1, e2⟩ := all_like hl c al
  have hn : w.length = bs.length * l.length := by omega
  have hp : 0 < l.length := List.length_pos_iff.mpr hl
  have h3 : 2 * l.length ≤ bs.length * l.length := Nat.mul_le_mul_right _ h2
  have all : ∀ i, ltr w (s + i) = ltr l i := by
    intro i
    have h4 := e2 (i % w.length) (by rw [← hn]; exact Nat.mod_lt _ p.pos)
    have h5 : ltr w (s + i % w.length) = ltr w (s + i) := by unfold ltr; rw [Nat.add_mod_mod]
    have h6 : ltr l (i % w.length) = ltr l i := by unfold ltr; rw [hn, Nat.mod_mul_left_mod]
    rw [← h5, h4, h6]
  refine p.2 l.length (by omega) (by omega) ?_
  have e0 : w = rot w 0 := (rot_zero w).symm
  rw [rot_cyc (by omega)]
  conv => rhs; rw [e0, rot_cyc p.pos]
  refine cyc_ext fun i _ => ?_
  obtain ⟨t, ht⟩ : ∃ t, s + t = i + w.length * (s + 1) := ⟨i + w.length * (s + 1) - s, by
    have : s + 1 ≤ w.length * (s + 1) := Nat.le_mul_of_pos_left _ p.pos
    omega⟩
  have per : ∀ k, ltr w (i + w.length * k) = ltr w i := fun k => by unfold ltr; rw [Nat.add_mul_mod_self_left]
  have per2 : ∀ k, ltr w (l.length + i + w.length * k) = ltr w (l.length + i) := fun k => by unfold ltr; rw [Nat.add_mul_mod_self_left]
  rw [Nat.zero_add, ← per (s + 1), ← per2 (s + 1), show l.length + i + w.length * (s + 1) = s + (t + l.length) by omega, ← ht, all, all, ltr_per]
theorem sum_even : ∀ {bs : List Bk}, (∀ b ∈ bs, b.2.length % 2 = 0) → (bs.map fun b => b.2.length).sum % 2 = 0
  | [], _ => rfl
  | b :: bs, h => by
    have h1 := h b List.mem_cons_self
    have h2 := sum_even fun b hb => h b (List.mem_cons_of_mem _ hb)
    rw [List.map_cons, List.sum_cons]; omega
theorem len_sum : ∀ {bs : List Bk}, (∀ b ∈ bs, b.2 ≠ []) → bs.length ≤ (bs.map fun b => b.2.length).sum ∧ ∀ b ∈ bs, b.2.length + (bs.length - 1) ≤ (bs.map fun b => b.2.length).sum
  | [], _ => ⟨Nat.le_refl _, fun _ h => nomatch h⟩
  | b :: bs, h => by
    have h1 : 0 < b.2.length := List.length_pos_iff.mpr (h b List.mem_cons_self)
    obtain ⟨h2, h3⟩ := len_sum fun b hb => h b (List.mem_cons_of_mem _ hb)
    rw [List.map_cons, List.sum_cons, List.length_cons]
    refine ⟨by omega, fun c hc => ?_⟩
    rcases List.mem_cons.mp hc with rfl | hc
    · omega
    · have := h3 c hc
      have := List.length_pos_of_mem hc
      omega
theorem Sta.odd {w : List Int} {bs : List Bk} (h : Sta w bs) (ho : w.length % 2 = 1) (h2 : 2 ≤ bs.length) : ∃ l, lo (bs.map (·.2)) (w.length : Int) = some l ∧ l ∈ bs.map (·.2) := by
  obtain ⟨⟨s, c⟩, ne⟩ := h
  have hs := c.sum
  have := lo_ok (bs.map (·.2)) (w.length : Int)
  cases e : lo (bs.map (·.2)) (w.length : Int) with
  | some l => rw [e] at this; exact ⟨l, rfl, this.1⟩
  | none =>
    rw [e] at this
    have := sum_even (bs := bs) fun b hb => by
      have h3 := this b.2 (List.mem_map_of_mem hb)
      have h4 := (len_sum ne).2 b hb
      unfold okW at h3
      simp only [Bool.and_eq_false_iff, decide_eq_false_iff_not] at h3
      omega
    omega
theorem tmr_len (bs : List Bk) (l : List Int) : (tmr bs l).length = ((bs.map (·.2)).filter fun w => decide (w ≠ l)).length := by
  rw [← mring_len, ← tmr_snd, List.length_map]
theorem tmr_lt {bs : List Bk} {l : List Int} (h : l ∈ bs.map (·.2)) : (tmr bs l).length < bs.length := by
  rw [tmr_len]
  have e : (bs.map (·.2)).length = bs.length := List.length_map ..
  rw [← e]
  exact List.length_filter_lt_length_iff_exists.mpr ⟨l, h, by simp⟩
theorem tmr_pos {bs : List Bk} {l : List Int} (ex : ∃ b ∈ bs, b.2 ≠ l) : 1 ≤ (tmr bs l).length := by
  rw [tmr_len]
  obtain ⟨b, h1, h2⟩ := ex
  exact List.length_pos_of_mem (List.mem_filter.mpr ⟨List.mem_map_of_mem h1, by simp [h2]⟩)
theorem tring_fin {w : List Int} (p : Pln w) (ho : w.length % 2 = 1) : ∀ (k : Nat) {bs : List Bk}, Sta w bs → 1 ≤ bs.length → bs.length ≤ k + 1 → (tring w.length k bs).length = 1 ∧ Sta w (tring w.length k bs)
  | 0, bs, h, h1, h2 => ⟨by unfold tring; omega, h⟩
  | k + 1, bs, h, h1, h2 => by
    unfold tring
    by_cases hl : bs.length ≤ 1
    · rw [if_pos hl]; exact ⟨by omega, h⟩
    · rw [if_neg hl]
      obtain ⟨l, e, hm⟩ := h.odd ho (by omega)
      rw [e]
      have ex := h.unlike (l := l) p (by omega)
      exact tring_fin p ho k (h.step ex) (tmr_pos ex) (by have := tmr_lt hm; omega)
def ini (w : List Int) : List Bk := w.zipIdx.map fun p => ((p.2 : Int), [p.1])
theorem ini_len (w : List Int) : (ini w).length = w.length := by simp [ini]
theorem ini_snd (w : List Int) : (ini w).map (·.2) = w.map fun x => [x] := by
  unfold ini
  rw [List.map_map]
  apply List.ext_getElem?
  intro i
  simp only [List.getElem?_map, List.getElem?_zipIdx]
  cases w[i]? <;> rfl
theorem ini_cov {w : List Int} : ∀ (v : List Int) (k : Nat), w.drop k = v → k + v.length = w.length → Cov w k ((v.zipIdx k).map fun p => ((p.2 : Int), [p.1])) w.length
  | [], k, _, h => (by simpa using h : k = w.length)
  | x :: v, k, e, h => by
    simp only [List.zipIdx_cons, List.map_cons]
    have hk : k < w.length := by simp at h; omega
    have hx : w[k]? = some x := by
      have := congrArg (fun l : List Int => l[0]?) e
      simpa using this
    refine ⟨by rw [Nat.mod_eq_of_lt hk], ?_, ?_⟩
    · unfold cyc ltr
      simp only [List.length_singleton, List.range_one, List.map_cons, List.map_nil, Nat.add_zero, Nat.mod_eq_of_lt hk, List.getD_eq_getElem?_getD, hx, Option.getD_some]
    · refine ini_cov v (k + 1) ?_ (by simp at h ⊢; omega)
      have := congrArg List.tail e
      rw [List.tail_drop] at this
      exact this
theorem ini_sta {w : List Int} : Sta w (ini w) := by
  refine ⟨⟨0, ?_⟩, fun b hb => ?_⟩
  · have := ini_cov (w := w) w 0 (by simp) (by simp)
    rw [Nat.zero_add]; exact this
  · obtain ⟨p, _, rfl⟩ := List.mem_map.mp hb
    simp
def tfin (w : List Int) : Bk := (tring w.length w.length (ini w)).headD (0, [])
def plF (w : List Int) : Nat := (tfin w).1.toNat
def tuF (w : List Int) : List Int := (tfin w).2
theorem tfin_eq {w : List Int} (p : Pln w) (ho : w.length % 2 = 1) : tring w.length w.length (ini w) = [tfin w] ∧ (tfin w).1 = (plF w : Int) ∧ plF w < w.length ∧ tuF w = rot w (plF w) := by
  obtain ⟨h1, h2⟩ := tring_fin p ho w.length (bs := ini w) ini_sta (by rw [ini_len]; exact p.pos) (by rw [ini_len]; omega)
  have e : tring w.length w.length (ini w) = [tfin w] := by
    unfold tfin
    match hh : tring w.length w.length (ini w), h1 with
    | [b], _ => rfl
  rw [e] at h2
  obtain ⟨⟨s, a1, a2, a3⟩, ne⟩ := h2
  have hs : (tfin w).2.length = w.length := by
    have : s + (tfin w).2.length = s + w.length := a3
    omega
  have hp : plF w = s % w.length := by unfold plF; rw [a1]; rfl
  have hlt : s % w.length < w.length := Nat.mod_lt _ p.pos
  refine ⟨e, by rw [hp]; exact a1, by rw [hp]; exact hlt, ?_⟩
  rw [hp, rot_cyc hlt, cyc_mod]
  show (tfin w).2 = _
  rw [a2, hs]
/-- the turn is the same from everywhere -/
theorem tuF_rot {w : List Int} (p : Pln w) (ho : w.length % 2 = 1) {k : Nat} (hk : k < w.length) : tuF (rot w k) = tuF w := by
  have q := p.rot hk
  have e1 := congrArg (fun l : List Bk => l.map (·.2)) (tfin_eq p ho).1
  have e2 := congrArg (fun l : List Bk => l.map (·.2)) (tfin_eq q (by rw [rot_len]; exact ho)).1
  simp only [tring_snd, ini_snd, List.map_cons, List.map_nil] at e1 e2
  rw [rot_len] at e2
  have r : IsRot (w.map fun x => [x]) ((rot w k).map fun x => [x]) := ⟨(w.take k).map fun x => [x], (w.drop k).map fun x => [x], by rw [← List.map_append, List.take_append_drop], by unfold rot; rw [List.map_append]⟩
  have r2 := cring_rot (w.length : Int) w.length r
  rw [e1, e2] at r2
  have := (r2.mem (tuF w)).mp (by unfold tuF; simp)
  have h3 : tuF w = (tfin (rot w k)).2 := by simpa using this
  exact h3.symm
theorem plF_rot {w : List Int} (p : Pln w) (ho : w.length % 2 = 1) {k : Nat} (hk : k < w.length) : (plF (rot w k) : Int) = ((plF w : Int) - k + w.length).fmod w.length := by
  have q := p.rot hk
  obtain ⟨_, _, h1, h2⟩ := tfin_eq p ho
  obtain ⟨_, _, h3, h4⟩ := tfin_eq q (by rw [rot_len]; exact ho)
  rw [rot_len] at h3
  rw [tuF_rot p ho hk, h2, rot_rot hk h3] at h4
  have h5 := p.inj h1 (Nat.mod_lt _ p.pos) h4
  rw [Int.fmod_eq_emod_of_nonneg _ (by omega)]
  by_cases h : k + plF (rot w k) < w.length
  · rw [Nat.mod_eq_of_lt h] at h5
    have : (plF w : Int) - k + w.length = plF (rot w k) + w.length := by omega
    rw [this, Int.add_emod_right, Int.emod_eq_of_lt (by omega) (by omega)]
  · rw [Nat.mod_eq_sub_mod (by omega), Nat.mod_eq_of_lt (by omega)] at h5
    have : (plF w : Int) - k + w.length = plF (rot w k) := by omega
    rw [this, Int.emod_eq_of_lt (by omega) (by omega)]
end MP

/-! Vc1: the bag, for every law. -/
namespace MP
open PySem
def Bag (h : MH) (b q : Addr) : Prop := b ≠ q ∧ ∃ (cs : List Int) (x m : Int), h b = some (.lst [.ref q, .int x, .int m]) ∧ h q = some (.lst (dI cs)) ∧ 0 ≤ x ∧ 0 ≤ m ∧ m < 2147483647
def FrB (b q : Addr) (h h' : MH) : Prop := ∀ a o, a ≠ b → a ≠ q → h a = some o → h' a = some o
theorem FrB_refl {b q : Addr} (h : MH) : FrB b q h h := fun _ _ _ _ e => e
def gs_power_of : MSp := fun ds h PQ _ => ∃ (b : Int) (k : Int), ds = [.int b, .int k] ∧ b.natAbs < 2 ^ 30 ∧ 0 ≤ k ∧ k < 2 ^ 62 ∧ PQ (.int (b ^ k.toNat)) h
def gs__law_own_bag : MSp := fun ds h PQ _ => ∃ ns : List Int, ds = [.lro (dI ns)] ∧ ns.length ≤ 63 ∧ ∀ h' b q, Ex h h' → Bag h' b q → PQ (.ref b) h'
def gs__law_draw : MSp := fun ds h PQ _ => ∃ (b q : Addr) (n : Int), ds = [.ref b, .int n] ∧ Bag h b q ∧ 1 ≤ n ∧ n < 2 ^ 30 ∧ ∀ h' r, 0 ≤ r → r < n → Bag h' b q → FrB b q h h' → PQ (.int r) h'
def gs__law_pick : MSp := fun ds h PQ _ => ∃ (b q a : Addr) (xs : List D), ds = [.ref b, .ref a] ∧ Bag h b q ∧ a ≠ b ∧ a ≠ q ∧ h a = some (.lst xs) ∧ 1 ≤ xs.length ∧ xs.length < 2 ^ 30 ∧ ∀ h' x, x ∈ xs → Bag h' b q → FrB b q h h' → PQ x h'
abbrev gb_own_bag (z : Int) : Ss := (.cons (.asg (.nm 1) (.nw (.cmp (.blt .abs (.cons (.blt .int (.cons (.v 3) .nil)) .nil)) (.nm 3) [3] (.sq (.of (.sl (.v 0) .no (.so (.c (.int 63)))))) (.e (.c (.bl true))))))
  (.cons (.asg (.nm 2) (.bin .Add (.c (.int z)) (.blt .len (.cons (.v 1) .nil))))
  (.cons (.for (.nm 3) (.sq (.of (.v 1))) (.cons (.asg (.nm 2) (.bin .Mod (.blt .int (.cons (.bin .Add (.bin .Add (.bin .Mult (.v 2) (.c (.int 48271))) (.bin .Mod (.blt .int (.cons (.v 3) .nil)) (.c (.int 2147483629)))) (.c (.int 7))) .nil)) (.c (.int 2147483647))))
    .nil))
  (.cons (.ret (.nw (.lst (.cons (.nw (.lrev (.lis (.of (.v 1))))) (.cons (.c (.int 0)) (.cons (.v 2) .nil))))))
  .nil))))
abbrev gb_draw (z : Int) : Ss := (.cons (.whl (.and (.e (.cmp .Eq (.idx (.v 0) (.c (.int 1))) (.c (.int 0)))) (.e (.cmp .NotEq (.idx (.v 0) (.c (.int 0))) (.nw (.lst .nil))))) (.cons (.asg (.nm 2) (.mth .pop (.idx (.v 0) (.c (.int 0))) .nil))
    (.cons (.sub (.v 0) (.c (.int 1)) (.ife (.e (.cmp .Gt (.v 2) (.bin .Pow (.c (.int 10)) (.c (.int z))))) (.v 2) (.c (.int 0))))
    .nil)))
  (.cons (.ite (.e (.cmp .Gt (.idx (.v 0) (.c (.int 1))) (.c (.int 0)))) (.cons (.asg (.nm 3) (.bin .Mod (.blt .int (.cons (.idx (.v 0) (.c (.int 1))) .nil)) (.v 1)))
    (.cons (.sub (.v 0) (.c (.int 1)) (.bin .FloorDiv (.idx (.v 0) (.c (.int 1))) (.v 1)))
    (.cons (.ret (.v 3))
    .nil))) .nil)
  (.cons (.sub (.v 0) (.c (.int 2)) (.bin .Mod (.blt .int (.cons (.bin .Add (.bin .Mult (.idx (.v 0) (.c (.int 2))) (.c (.int 48271))) (.c (.int 11))) .nil)) (.c (.int 2147483647))))
  (.cons (.ret (.bin .Mod (.blt .int (.cons (.bin .FloorDiv (.bin .Mod (.blt .int (.cons (.bin .Mult (.idx (.v 0) (.c (.int 2))) (.idx (.v 0) (.c (.int 2)))) .nil)) (.c (.int 2147483629))) (.c (.int 7))) .nil)) (.v 1)))
  .nil))))
abbrev gb_power : Ss := (.cons (.asg (.nm 2) (.c (.int 1)))
  (.cons (.for (.nm 3) (.rng (.cons (.v 1) .nil)) (.cons (.asg (.nm 2) (.bin .Mult (.v 2) (.v 0)))
    .nil))
  (.cons (.ret (.v 2))
  .nil)))
theorem vg_own_bag {z : Int} (hz0 : 0 ≤ z) (hz1 : z < 2000000000) {c : Cn} {h : MH} {PQ : DK} {PE : Exn → MH → Prop} {ds : List D} (s : gs__law_own_bag ds h PQ PE) : wSs (gb_own_bag z) c { nx := fun _ h' => PQ .non h', rt := PQ } (startM 4 ds) h := by
  obtain ⟨ns, rfl, hn, k⟩ := s
  simp only [wSs, wS, wE, wL, wC, wI, wO, wEs, tgt, binD]
  refine ⟨rfl, _, rfl, _, rfl, ?_⟩
  show slD (.lro (dI ns)) none (some 63) h _
  unfold slD seqOf
  have ec : cutD (dI ns) none (some 63) = dI ns := by
    have := cut_to (ds := dI ns) (n := 63)
    rw [show ((63 : Nat) : Int) = 63 from rfl] at this
    rw [this]
    exact List.take_of_length_le (by rw [List.length_map]; exact hn)
  simp only [ec]
  refine ⟨by rw [List.length_map]; exact small_le (by omega), fun p np => ⟨true, _, seq_lst mup_same, by rw [List.length_map]; exact small_le (by omega), ?_⟩⟩
  have ex0 : Ex h (mup h p (.lst (dI ns))) := Ex.new np
  refine comp_list (dx := D.int) (f := fun i => D.int (if i < 0 then -i else i)) (fun h' e => seq_lst (e p _ mup_same)) ?_ ?_
  · rintro x acc h' K hx hl e1 hK
    exact ⟨small_lt (by omega), _, rfl, _, rfl, _, rfl, hK _ (.refl _)⟩
  intro h1 e1
  have ea : ns.map (fun i => D.int (if i < 0 then -i else i)) = dI (ns.map fun i => if i < 0 then -i else i) := by simp [dI]
  rw [ea]
  obtain ⟨cs, ecs⟩ : ∃ cs, cs = ns.map (fun i : Int => if i < 0 then -i else i) := ⟨_, rfl⟩
  rw [← ecs]
  have hcs : cs.length ≤ 63 := by rw [ecs, List.length_map]; exact hn
  refine ⟨by rw [List.length_map]; exact small_le (by omega), fun a na => ⟨_, rfl, ?_⟩⟩
  refine ⟨_, rfl, ?_⟩
  have el : bltD .len [.ref a] (mup h1 a (.lst (dI cs))) = fun Q => Q (.int cs.length) (mup h1 a (.lst (dI cs))) := by
    funext Q
    simp [bltD, dctOf, seqOf, mup_same]
  rw [el]
  refine add_int ?_
  refine ⟨_, rfl, _, rfl, true, _, seq_lst mup_same, ?_⟩
  obtain ⟨h2, eh2⟩ : ∃ h2, h2 = mup h1 a (.lst (dI cs)) := ⟨_, rfl⟩
  rw [← eh2]
  have ex2 : Ex h h2 := by rw [eh2]; exact (ex0.trans e1).trans (Ex.new na)
  have ha : h2 a = some (.lst (dI cs)) := by rw [eh2]; exact mup_same
  refine loop_go (fun i σ h' => i ≤ cs.length ∧ h' = h2 ∧ ∃ m t, σ = [some (.lro (dI ns)), some (.ref a), some (.int m), t] ∧ 0 ≤ m ∧ m < 2147483647) ⟨by omega, rfl, _, none, rfl, by omega, by omega⟩ (fun i σ h' j => ⟨by rw [List.length_map]; exact j.1, by rw [j.2.1]; exact seq_lst ha⟩) ?_ ?_
  · rintro i x σ h' hx ⟨hi, rfl, m, t, rfl, m0, m1⟩
    rw [dI_get] at hx
    obtain ⟨y, hy, rfl⟩ := Option.map_eq_some_iff.mp hx
    have hlt : i < cs.length := by
      by_cases hl : i < cs.length
      · exact hl
      · rw [List.getElem?_eq_none (by omega)] at hy; cases hy
    refine ⟨_, rfl, _, rfl, ?_⟩
    refine mul_int (.inr ⟨by omega, by omega⟩) ?_
    refine ⟨_, rfl, ?_⟩
    refine int_int ?_
    refine mod_int (by decide) ?_
    refine add_int ?_
    refine add_int ?_
    refine int_int ?_
    refine mod_int (by decide) ?_
    refine ⟨_, rfl, hlt, rfl, _, some (.int y), rfl, Int.fmod_nonneg_of_pos _ (by decide), Int.fmod_lt_of_pos _ (by decide)⟩
  · rintro σ h' ⟨_, rfl, m, t, rfl, m0, m1⟩
    refine ⟨rfl, rfl, _, rfl, true, _, seq_lst ha, trivial, ?_, fun q nq => ?_⟩
    · rw [List.length_reverse, List.length_map]; exact small_le (by omega)
    refine ⟨_, rfl, small_le (by simp), small_le (by simp), fun b nb => ?_⟩
    have hbq : b ≠ q := fun z => by rw [z, mup_same] at nb; cases nb
    refine k _ b q ((ex2.trans (Ex.new nq)).trans (Ex.new nb)) ⟨hbq, cs.reverse, 0, m, mup_same, ?_, by omega, m0, m1⟩
    rw [mup_ne (Ne.symm hbq), mup_same]
    simp [dI]
theorem vg_draw {z : Int} (hz : L2.CPow 10 z) {c : Cn} {h : MH} {PQ : DK} {PE : Exn → MH → Prop} {ds : List D} (s : gs__law_draw ds h PQ PE) : wSs (gb_draw z) c { nx := fun _ h' => PQ .non h', rt := PQ } (startM 4 ds) h := by
  obtain ⟨b, q, n, rfl, ⟨hbq, cs, x, m, hb, hq, hx, hm0, hm1⟩, n1, n2, k⟩ := s
  simp only [wSs, wS, wE, wL, wC, wI, wO, wEs, tgt, binD, cmpD]
  refine ⟨fun mm σ h' => ∃ (cs : List Int) (x : Int) (t f : Option D), σ = [some (.ref b), some (.int n), t, f] ∧ h' b = some (.lst [.ref q, .int x, .int m]) ∧ h' q = some (.lst (dI cs)) ∧ 0 ≤ x ∧ cs.length = mm ∧ FrB b q h h', ⟨cs.length, cs, x, none, none, rfl, hb, hq, hx, rfl, FrB_refl h⟩, ?_⟩
  clear hb hq hx
  rintro mm σ h1 ⟨cs, x, t, f, rfl, hb, hq, hx, hl, hf⟩
  refine ⟨_, rfl, ?_⟩
  refine idx_lst (i := 1) hb rfl ?_
  refine eqD_int ?_
  refine ⟨_, rfl, ?_⟩
  rw [Bool.false_xor]
  have fin : ∀ h2 : MH, h2 b = some (.lst [.ref q, .int x, .int m]) → h2 q = some (.lst (dI cs)) → FrB b q h h2 → wSs (.cons (.ite (.e (.cmp .Gt (.idx (.v 0) (.c (.int 1))) (.c (.int 0)))) (.cons (.asg (.nm 3) (.bin .Mod (.blt .int (.cons (.idx (.v 0) (.c (.int 1))) .nil)) (.v 1)))
    (.cons (.sub (.v 0) (.c (.int 1)) (.bin .FloorDiv (.idx (.v 0) (.c (.int 1))) (.v 1)))
    (.cons (.ret (.v 3))
    .nil))) .nil)
  (.cons (.sub (.v 0) (.c (.int 2)) (.bin .Mod (.blt .int (.cons (.bin .Add (.bin .Mult (.idx (.v 0) (.c (.int 2))) (.c (.int 48271))) (.c (.int 11))) .nil)) (.c (.int 2147483647))))
  (.cons (.ret (.bin .Mod (.blt .int (.cons (.bin .FloorDiv (.bin .Mod (.blt .int (.cons (.bin .Mult (.idx (.v 0) (.c (.int 2))) (.idx (.v 0) (.c (.int 2)))) .nil)) (.c (.int 2147483629))) (.c (.int 7))) .nil)) (.v 1)))
  .nil))) c { nx := fun _ h' => PQ .non h', rt := PQ } [some (.ref b), some (.int n), t, f] h2 := by
    intro h2 hb hq hf
    simp only [wSs, wS, wE, wL, wC, wI, wO, wEs, tgt, binD, cmpD]
    refine ⟨_, rfl, ?_⟩
    refine idx_lst (i := 1) hb rfl ?_
    refine ltD_int ?_
    refine ⟨_, rfl, ?_⟩
    rw [Bool.false_xor, if_pos rfl]
    by_cases h0 : 0 < x
    · rw [if_pos (decide_eq_true h0)]
      refine ⟨_, rfl, ?_⟩
      refine idx_lst (i := 1) hb rfl ?_
      refine int_int ?_
      refine ⟨_, rfl, ?_⟩
      refine mod_int (by omega) ?_
      refine ⟨_, rfl, _, rfl, ?_⟩
      refine idx_lst (i := 1) hb rfl ?_
      refine ⟨_, rfl, ?_⟩
      refine fdiv_int ⟨by omega, by omega⟩ ?_
      refine ⟨_, rfl, ?_⟩
      refine set_lst_at (i := 1) hb (by simp) ?_
      refine ⟨_, rfl, ?_⟩
      refine k _ _ (Int.fmod_nonneg_of_pos _ (by omega)) (Int.fmod_lt_of_pos _ (by omega)) ⟨hbq, cs, x.fdiv n, m, mup_same, by rw [mup_ne (Ne.symm hbq)]; exact hq, Int.fdiv_nonneg hx (by omega), hm0, hm1⟩ fun a o n1 n2 e => ?_
      rw [mup_ne n1]; exact hf a o n1 n2 e
    · rw [if_neg (by simpa using h0)]
      refine ⟨_, rfl, ?_⟩
      refine idx_lst (i := 2) hb rfl ?_
      refine mul_int (.inr ⟨by omega, by omega⟩) ?_
      refine add_int ?_
      refine int_int ?_
      refine mod_int (by decide) ?_
      refine ⟨_, rfl, ?_⟩
      refine set_lst_at (i := 2) hb (by simp) ?_
      refine ⟨_, rfl, ?_⟩
      have m0 := Int.fmod_nonneg_of_pos (m * 48271 + 11) (b := 2147483647) (by decide)
      have m1 := Int.fmod_lt_of_pos (m * 48271 + 11) (b := 2147483647) (by decide)
      refine idx_lst (i := 2) mup_same rfl ?_
      refine ⟨_, rfl, ?_⟩
      refine idx_lst (i := 2) mup_same rfl ?_
      refine mul_int (.inl ⟨by omega, by omega⟩) ?_
      refine int_int ?_
      refine mod_int (by decide) ?_
      refine fdiv_int ⟨by decide, by decide⟩ ?_
      refine int_int ?_
      refine ⟨_, rfl, ?_⟩
      refine mod_int (by omega) ?_
      refine k _ _ (Int.fmod_nonneg_of_pos _ (by omega)) (Int.fmod_lt_of_pos _ (by omega)) ⟨hbq, cs, x, _, mup_same, by rw [mup_ne (Ne.symm hbq)]; exact hq, hx, m0, m1⟩ fun a o n1 n2 e => ?_
      rw [mup_ne n1]; exact hf a o n1 n2 e
  by_cases h0 : x = 0
  · rw [if_pos (decide_eq_true h0)]
    refine ⟨_, rfl, ?_⟩
    refine idx_lst (i := 0) hb rfl ?_
    refine ⟨rfl, Nat.zero_le _, Nat.zero_le _, fun p2 np2 => ?_⟩
    have hb2 := mup_at (o := .lst []) np2 hb
    have hq2 := mup_at (o := .lst []) np2 hq
    have hf2 : FrB b q h (mup h1 p2 (.lst [])) := fun a o n1 n2 e => Ex.new np2 a o (hf a o n1 n2 e)
    refine eqD_nil hq2 mup_same ?_
    refine ⟨_, rfl, ?_⟩
    rw [Bool.true_xor]
    rcases List.eq_nil_or_concat cs with rfl | ⟨g, y, rfl⟩
    · simp only [List.isEmpty_nil, Bool.not_true, Bool.false_eq_true, if_false]
      have := fin _ hb2 hq2 hf2
      simp only [wSs, wS, wE, wL, wC, wI, wO, wEs, tgt, binD, cmpD] at this
      exact this
    · rw [List.concat_eq_append] at hl hq hq2 ⊢
      have hne : (g ++ [y]).isEmpty = false := by simp
      simp only [hne, Bool.not_false, if_true]
      refine ⟨_, rfl, ?_⟩
      refine idx_lst (i := 0) hb2 rfl ?_
      refine pop_int hq2 ?_
      refine ⟨_, rfl, _, rfl, ?_⟩
      refine pow_int hz ?_
      refine ltD_int ?_
      refine ⟨_, rfl, ?_⟩
      rw [Bool.false_xor, if_pos rfl]
      have hb3 : mup (mup h1 p2 (.lst [])) q (.lst (dI g)) b = some (.lst [.ref q, .int x, .int m]) := by rw [mup_ne hbq]; exact hb2
      have hlt : g.length < mm := by rw [← hl, List.length_append]; simp
      have hf3 : ∀ v, FrB b q h (mup (mup (mup h1 p2 (.lst [])) q (.lst (dI g))) b v) := fun v a o n1 n2 e => by
        rw [mup_ne n1, mup_ne n2]; exact hf2 a o n1 n2 e
      have hq3 : ∀ v, mup (mup (mup h1 p2 (.lst [])) q (.lst (dI g))) b v q = some (.lst (dI g)) := fun v => by
        rw [mup_ne (Ne.symm hbq)]; exact mup_same
      by_cases hy : (10 : Int) ^ z.toNat < y
      · rw [if_pos (decide_eq_true hy)]
        refine ⟨_, rfl, _, rfl, ?_⟩
        refine set_lst_at (i := 1) hb3 (by simp) ?_
        have hy0 : 0 ≤ y := Int.le_of_lt (Int.lt_of_le_of_lt (Int.pow_nonneg (by decide)) hy)
        exact ⟨g.length, hlt, g, y, some (.int y), f, rfl, mup_same, hq3 _, hy0, rfl, hf3 _⟩
      · rw [if_neg (by simpa using hy)]
        refine ⟨_, rfl, ?_⟩
        refine set_lst_at (i := 1) hb3 (by simp) ?_
        exact ⟨g.length, hlt, g, 0, some (.int y), f, rfl, mup_same, hq3 _, by omega, rfl, hf3 _⟩
  · rw [if_neg (by simpa using h0)]
    simp only [Bool.false_eq_true, if_false]
    have := fin _ hb hq hf
    simp only [wSs, wS, wE, wL, wC, wI, wO, wEs, tgt, binD, cmpD] at this
    exact this
theorem vg_power {c : Cn} {h : MH} {PQ : DK} {PE : Exn → MH → Prop} {ds : List D} (s : gs_power_of ds h PQ PE) : wSs gb_power c { nx := fun _ h' => PQ .non h', rt := PQ } (startM 4 ds) h := by
  obtain ⟨b, k, rfl, hb, h0, hk, q⟩ := s
  simp only [wSs, wS, wE, wEs, wI, tgt, rngI]
  refine ⟨_, rfl, _, rfl, ⟨by omega, hk⟩, ?_⟩
  refine loop_go (fun i σ h' => i ≤ k.toNat ∧ h' = h ∧ ∃ t, σ = [some (.int b), some (.int k), some (.int (b ^ i)), t]) ⟨by omega, rfl, none, by simp [startM]⟩ (fun i a h' j => ⟨by rw [rngL_len]; exact j.1, trivial⟩) ?_ ?_
  · rintro i x σ h' hx ⟨hi, rfl, t, rfl⟩
    obtain ⟨hi', rfl⟩ := rngL_get hx
    refine ⟨_, rfl, _, rfl, _, rfl, ⟨.inr ⟨by omega, by omega⟩, _, rfl, ?_⟩⟩
    refine ⟨by omega, rfl, some (.int (0 + i)), ?_⟩
    rw [Int.pow_succ]
    rfl
  · rintro σ h' ⟨_, rfl, t, rfl⟩
    rw [rngL_len]
    exact ⟨_, rfl, q⟩
theorem Bag.ex {h h' : MH} {b q : Addr} (B : Bag h b q) (e : Ex h h') : Bag h' b q := by
  obtain ⟨n, cs, x, m, h1, h2, r⟩ := B
  exact ⟨n, cs, x, m, e _ _ h1, e _ _ h2, r⟩
theorem FrB.ex {b q : Addr} {h h1 h2 : MH} (f : FrB b q h h1) (e : Ex h1 h2) : FrB b q h h2 := fun a o n1 n2 x => e a o (f a o n1 n2 x)
theorem exFr {b q : Addr} {h h1 : MH} (e : Ex h h1) : FrB b q h h1 := fun a o _ _ x => e a o x
theorem FrB.trans {b q : Addr} {h h1 h2 : MH} (f : FrB b q h h1) (g : FrB b q h1 h2) : FrB b q h h2 := fun a o n1 n2 x => g a o n1 n2 (f a o n1 n2 x)
theorem Bag.ne {h : MH} {b q p : Addr} (B : Bag h b q) (n : h p = none) : p ≠ b ∧ p ≠ q := by
  obtain ⟨_, cs, x, m, h1, h2, _⟩ := B
  exact ⟨fun e => (by rw [e, h1] at n; cases n), fun e => (by rw [e, h2] at n; cases n)⟩
end MP

namespace MP
open PySem
/-! Vc2: data of ints and tuples of ints: shown, sorted. -/
/-- ints below 10^59 in size: what shows of them is short -/
def iSm (i : Int) : Prop := i.natAbs < 2 ^ 190
theorem iSm_show {i : Int} (h : iSm i) : (PyData.shown (.int i)).length ≤ 60 := by
  have h2 : i.natAbs < 10 ^ 59 := Nat.lt_of_lt_of_le h (by decide)
  have e := int_text_length_le10 (k := 59) (by decide) h2
  show (Str.ofString (toString i)).length ≤ 60
  rw [ofString_length]; exact e
theorem iSm_log {i : Int} (h : iSm i) : i.natAbs.log2 < 190 := by
  by_cases h0 : i.natAbs = 0
  · rw [h0]; decide
  · exact (Nat.log2_lt h0).mpr h
theorem iSm_wt {i : Int} (h : iSm i) : (PyData.int i).weight ≤ 190 := by
  have := iSm_log h
  rw [PyData.weight]
  split <;> omega
namespace W
/-- the same data, shown -/
def Shn (p : PyData) : Prop := p.canLay0 = true ∧ p.showable = true ∧ p.shown.length ≤ sizeLine
end W
/-- data that show well: n bounds the weight -/
def Sw (n : Nat) (p : PyData) : Prop := p.canLay0 = true ∧ p.showable = true ∧ p.leavesShort 60 = true ∧ p.weight ≤ n
def SwA (n : Nat) (ps : List PyData) : Prop := PyData.canLayAll0 ps = true ∧ PyData.showableAll ps = true ∧ PyData.leavesShortAll 60 ps = true ∧ PyData.weightAll ps ≤ n
theorem Sw.int {i : Int} (h : iSm i) : Sw 190 (.int i) := by
  have := iSm_log h
  refine ⟨rfl, ?_, ?_, iSm_wt h⟩
  · rw [PyData.showable]; exact decide_eq_true (by omega)
  · rw [PyData.leavesShort]; exact decide_eq_true (iSm_show h)
theorem SwA.nil : SwA 0 [] := ⟨rfl, rfl, rfl, Nat.le_refl _⟩
theorem SwA.cons {n m : Nat} {p : PyData} {ps : List PyData} (a : Sw n p) (b : SwA m ps) : SwA (n + 1 + m) (p :: ps) := by
  obtain ⟨a1, a2, a3, a4⟩ := a
  obtain ⟨b1, b2, b3, b4⟩ := b
  refine ⟨?_, ?_, ?_, ?_⟩
  · rw [PyData.canLayAll0, a1, b1]; rfl
  · rw [PyData.showableAll, a2, b2]; rfl
  · rw [PyData.leavesShortAll, a3, b3]; rfl
  · rw [PyData.weightAll]; omega
theorem SwA.list {n : Nat} {ps : List PyData} (a : SwA n ps) : Sw n (.list ps) := by
  obtain ⟨a1, a2, a3, a4⟩ := a
  exact ⟨by rw [PyData.canLay0]; exact a1, by rw [PyData.showable]; exact a2, by rw [PyData.leavesShort]; exact a3, by rw [PyData.weight]; exact a4⟩
theorem SwA.tuple {n : Nat} {ps : List PyData} (a : SwA n ps) : Sw n (.tuple ps) := by
  obtain ⟨a1, a2, a3, a4⟩ := a
  exact ⟨by rw [PyData.canLay0]; exact a1, by rw [PyData.showable]; exact a2, by rw [PyData.leavesShort]; exact a3, by rw [PyData.weight]; exact a4⟩
theorem SwA.all {n : Nat} : ∀ {ps : List PyData}, (∀ p ∈ ps, Sw n p) → SwA (ps.length * (n + 1)) ps
  | [], _ => by rw [List.length_nil, Nat.zero_mul]; exact .nil
  | p :: ps, h => by
    have := SwA.cons (h p List.mem_cons_self) (SwA.all (ps := ps) fun q hq => h q (List.mem_cons_of_mem _ hq))
    rw [List.length_cons, Nat.succ_mul, Nat.add_comm]; exact this
theorem Sw.mono {n m : Nat} {p : PyData} (a : Sw n p) (h : n ≤ m) : Sw m p := ⟨a.1, a.2.1, a.2.2.1, Nat.le_trans a.2.2.2 h⟩
theorem SwA.mono {n m : Nat} {p : List PyData} (a : SwA n p) (h : n ≤ m) : SwA m p := ⟨a.1, a.2.1, a.2.2.1, Nat.le_trans a.2.2.2 h⟩
theorem Sw.shn {n : Nat} {p : PyData} (a : Sw n p) (h : n ≤ 250000) : W.Shn p := by
  obtain ⟨a1, a2, a3, a4⟩ := a
  refine ⟨a1, a2, ?_⟩
  have := PyData.shown_le 60 (by decide) p a3
  rw [sizeLine_eq]
  omega
theorem Sw.tI {n : Nat} {l : List Int} (h : ∀ i ∈ l, Sw n (.int i)) : Sw (l.length * (n + 1)) (.tuple (l.map .int)) := by
  have := SwA.all (n := n) (ps := l.map .int) fun p hp => let ⟨i, hi, e⟩ := List.mem_map.mp hp; e ▸ h i hi
  rw [List.length_map] at this
  exact this.tuple
theorem Sw.lI {n : Nat} {l : List Int} (h : ∀ i ∈ l, Sw n (.int i)) : Sw (l.length * (n + 1)) (.list (l.map .int)) := by
  have := SwA.all (n := n) (ps := l.map .int) fun p hp => let ⟨i, hi, e⟩ := List.mem_map.mp hp; e ▸ h i hi
  rw [List.length_map] at this
  exact this.list
theorem Sw.small {i : Int} (h0 : 0 ≤ i) (h1 : i ≤ 3) : Sw 2 (.int i) := by
  obtain ⟨a, b, c, _⟩ := Sw.int (i := i) (Nat.lt_of_le_of_lt (show i.natAbs ≤ 3 by omega) (by decide))
  refine ⟨a, b, c, ?_⟩
  have : i = 0 ∨ i = 1 ∨ i = 2 ∨ i = 3 := by omega
  rcases this with rfl | rfl | rfl | rfl <;> decide
/-! ### sorted tuples of ints -/
theorem exL {P : List Int → Prop} : ∀ {ds : List D}, (∀ d ∈ ds, ∃ l, d = tI l ∧ P l) → ∃ ls : List (List Int), ds = ls.map MP.tI ∧ ∀ l ∈ ls, P l
  | [], _ => ⟨[], rfl, fun _ h => by cases h⟩
  | d :: ds, h => by
    obtain ⟨l, rfl, hl⟩ := h d List.mem_cons_self
    obtain ⟨ls, rfl, hls⟩ := exL (ds := ds) fun d hd => h d (List.mem_cons_of_mem _ hd)
    exact ⟨l :: ls, rfl, fun x hx => (List.mem_cons.mp hx).elim (fun e => e ▸ hl) (hls x)⟩
theorem srt_ex (ls : List (List Int)) : ∃ ls' : List (List Int), sortDs (ls.map MP.tI) = ls'.map MP.tI ∧ ls'.length = ls.length ∧ ∀ l ∈ ls', l ∈ ls := by
  obtain ⟨ls', e, h⟩ := exL (P := fun l => l ∈ ls) (ds := sortDs (ls.map MP.tI)) fun d hd => by
    have := List.mem_mergeSort.mp hd
    obtain ⟨l, hl, e⟩ := List.mem_map.mp this
    exact ⟨l, e.symm, hl⟩
  refine ⟨ls', e, ?_, h⟩
  have := congrArg List.length e
  unfold sortDs at this
  rw [List.length_mergeSort, List.length_map, List.length_map] at this
  exact this.symm
theorem pdWs_tIs (f : Addr → Option PyData) : ∀ ls : List (List Int), pdWs f (ls.map MP.tI) = some (ls.map fun l => .tuple (l.map .int))
  | [] => rfl
  | l :: ls => by
    show pdWs f (MP.tI l :: ls.map MP.tI) = _
    rw [pdWs, pdW, pdWs_dI, pdWs_tIs f ls]; rfl
theorem dep_tIs : ∀ ls : List (List Int), PyData.depthAll (ls.map fun l => .tuple (l.map .int)) ≤ 2
  | [] => by simp [PyData.depthAll]
  | l :: ls => by
    have := dep_tIs ls
    rw [List.map_cons, PyData.depthAll, PyData.depth, PySem.W.depth_ints]
    omega
end MP

/-! Vm: VCs made plain. -/
namespace MP
open PySem PySem.W
section
variable {h : MH} {Q : DK} {i j : Int} {a b : List Int} {xs ys : List D} {p : Addr} {ng sw : Bool}
theorem z_ex1 {α : Type} {x : α} {P : α → Prop} : (∃ k, some x = some k ∧ P k) = P x := propext ⟨fun ⟨k, e, w⟩ => by cases e; exact w, fun w => ⟨x, rfl, w⟩⟩
theorem z_ex2 {α : Type} {x : α} {P : α → Prop} : (∃ k, some (some x) = some (some k) ∧ P k) = P x := propext ⟨fun ⟨k, e, w⟩ => by cases e; exact w, fun w => ⟨x, rfl, w⟩⟩
theorem z_tru {x : Bool} {P : Bool → MH → Prop} : (∃ k, truD h (.bl x) = some k ∧ P k h) = P x h := propext ⟨fun ⟨k, e, w⟩ => by cases e; exact w, fun w => ⟨x, rfl, w⟩⟩
theorem z_seqT {P : Bool → List D → Prop} : (∃ k ds, seqOf h (.tup xs) = some (k, ds) ∧ P k ds) = P false xs := propext ⟨fun ⟨k, ds, e, w⟩ => by cases e; exact w, fun w => ⟨_, _, rfl, w⟩⟩
theorem z_lst {P : Bool → List D → Prop} (e : h p = some (.lst xs)) : (∃ k ds, seqOf h (.ref p) = some (k, ds) ∧ P k ds) = P true xs := propext ⟨fun ⟨k, ds, e2, w⟩ => by rw [seq_lst e] at e2; cases e2; exact w, fun w => ⟨_, _, seq_lst e, w⟩⟩
theorem z_idxTn {n : Nat} {d : D} (e : xs[n]? = some d) : idxD (.tup xs) (.int (n : Int)) h Q = Q d h := propext ⟨fun ⟨x, e2, w⟩ => by rw [at_nat e] at e2; cases e2; exact w, fun w => ⟨_, at_nat e, w⟩⟩
theorem z_idxLn {n : Nat} {d : D} (e0 : h p = some (.lst xs)) (e : xs[n]? = some d) : idxD (.ref p) (.int (n : Int)) h Q = Q d h := by
  rw [z_idxL e0]
  exact propext ⟨fun ⟨x, e2, w⟩ => by rw [at_nat e] at e2; cases e2; exact w, fun w => ⟨_, at_nat e, w⟩⟩
theorem z_truE (P : Bool → Prop) {x : Bool} : (∃ k, some x = some k ∧ P k) = P x := z_ex1
theorem truD_bl {x : Bool} : truD h (.bl x) = some x := rfl
theorem z_ite1 {P R : Prop} : (if (true : Bool) = true then P else R) = P := if_pos rfl
theorem z_ite0 {P R : Prop} : (if (false : Bool) = true then P else R) = R := if_neg (by decide)
theorem z_iteD {c : Prop} [Decidable c] {P R : Prop} : (if decide c = true then P else R) = (if c then P else R) := by
  by_cases h : c <;> simp [h]
theorem z_ltI0 : ltD false ng (.int i) (.int j) h Q = Q (.bl (ng ^^ decide (i < j))) h := by rw [z_ltI]; rfl
theorem z_ltI1 : ltD true ng (.int i) (.int j) h Q = Q (.bl (ng ^^ decide (j < i))) h := by rw [z_ltI]; rfl
theorem z_ltT0 : ltD false ng (tI a) (tI b) h Q = Q (.bl (ng ^^ lexI a b)) h := by rw [z_ltT]; rfl
theorem z_ltT1 : ltD true ng (tI a) (tI b) h Q = Q (.bl (ng ^^ lexI b a)) h := by rw [z_ltT]; rfl
theorem pd_key {h : MH} (w : List Int) : pd h (.tup [.int (w.length : Int), tI w]) = some (.tuple [.int (w.length : Int), .tuple (w.map .int)]) := by
  unfold pd
  rw [pdW, pdWs, pdW, pdWs, pdW, pdWs_dI, pdWs]
  simp [PyData.depth, PyData.depthAll, PySem.W.depth_ints]
end
theorem z_at0 {h : MH} {Q : DK} {a : D} {l : List D} : idxD (.tup (a :: l)) (.int 0) h Q = Q a h := z_idxTn (n := 0) rfl
theorem z_at1 {h : MH} {Q : DK} {a b : D} {l : List D} : idxD (.tup (a :: b :: l)) (.int 1) h Q = Q b h := z_idxTn (n := 1) rfl
theorem z_at2 {h : MH} {Q : DK} {a b c : D} {l : List D} : idxD (.tup (a :: b :: c :: l)) (.int 2) h Q = Q c h := z_idxTn (n := 2) rfl
theorem lt_key (a b : List Int) : dataLt (.tuple [.int (a.length : Int), .tuple (a.map .int)]) (.tuple [.int (b.length : Int), .tuple (b.map .int)]) = wlt a b := by
  rw [dataLt_tuple, dataLt_cons (by simp [alike]), dataLt_int, PyData.eqv]
  unfold wlt
  by_cases e : a.length = b.length
  · have : ((a.length : Int) == (b.length : Int)) = true := by rw [e]; simp
    rw [this, if_pos e, if_pos rfl, dataLt_cons (by simp [alike, alike_tI]), eqv_ints, dataLt_tI]
    by_cases e2 : a = b
    · rw [decide_eq_true e2, if_pos rfl, e2, lexI_irr]; simp [keyToksAll, PyProof.Rows.lexLt, PyProof.Rows.itemLt]
    · rw [decide_eq_false e2, if_neg (by decide)]
  · have : ((a.length : Int) == (b.length : Int)) = false := beq_eq_false_iff_ne.mpr (by omega)
    rw [this, if_neg e, if_neg (by decide)]
    simp
theorem z_ltK {h : MH} {Q : DK} {a b : List Int} : ltD false false (.tup [.int (a.length : Int), tI a]) (.tup [.int (b.length : Int), tI b]) h Q = Q (.bl (wlt a b)) h := by
  rw [ltD_pd (pd_key a) (pd_key b) (by simp [alike, alikeAll, alike_tI]) (by simp), lt_key, lt_key]
  simp
theorem fm2 (n : Nat) : ((n : Int).fmod 2 = 1) = (n % 2 = 1) := by
  rw [Int.fmod_eq_emod_of_nonneg _ (by decide)]
  exact propext ⟨fun h => by omega, fun h => by omega⟩
theorem fm20 (n : Nat) : ((n : Int).fmod 2 = 0) = (n % 2 = 0) := by
  rw [Int.fmod_eq_emod_of_nonneg _ (by decide)]
  exact propext ⟨fun h => by omega, fun h => by omega⟩
def oD : Option (List Int) → D
  | none => .non
  | some w => tI w
theorem oD_non {r : Option (List Int)} : isN (oD r) = r.isNone := by cases r <;> rfl
theorem lo_snoc (pre : List (List Int)) (w : List Int) (n : Int) : lo (pre ++ [w]) n = loS n (lo pre n) w := by unfold lo; rw [List.foldl_append]; rfl
end MP

/-! walks, printed by mk.py -/
namespace MP
open PySem PySem.Spec PyProof.Rows L2
namespace W
def topS (i : Nat) : Stmt := PySem.Challenge.pw_wherewordsbegin_k19_whole_main_away_on_t.main.body.getD i (.Pass ⟨0, 0, 0, 0⟩)
structure Glb (mg : Str → Option Value) : Prop where
  b_range : mg "range" = none
  b_len : mg "len" = none
  b_tuple : mg "tuple" = none
  b_sorted : mg "sorted" = none
  b_enumerate : mg "enumerate" = none
  b_abs : mg "abs" = none
  b_int : mg "int" = none
  b_list : mg "list" = none
  b_reversed : mg "reversed" = none
  b_all : mg "all" = none
  b_min : mg "min" = none
  b_isinstance : mg "isinstance" = none
  b_repr : mg "repr" = none
  b_max : mg "max" = none
  i_MAX_GONE : ∃ u, mg "MAX_GONE" = some u ∧ RelV (.int 4096) u
section
variable {P : Program} {w : World} {K : PySem.W.Frag} {mg : Str → Option Value} {base : Heap} {A : Around} {outer : List Env} {s : Shared} {H : Hp} {E : XK} {cdv : Value} {f : Addr} {B : MH × Hp} {c : Cn} {t : XT}
abbrev s_power_of : Stmt := topS 10
abbrev N_power_of : List Str := ["q", "n", "found", "turn"]
theorem sc_power_of : FnScope N_power_of ["q", "n"] (defScope s_power_of) := ⟨rfl, rfl, rfl, by decide +kernel, rfl, by decide +kernel, by decide +kernel⟩
abbrev b_power_of : Ss := (.cons (.asg (.nm 2) (.c (.int 1)))
  (.cons (.for (.nm 3) (.rng (.cons (.v 1) .nil)) (.cons (.asg (.nm 2) (.bin .Mult (.v 2) (.v 0)))
    .nil))
  (.cons (.ret (.v 2))
  .nil)))
theorem w_power_of (G : Glb mg)  (hr : Room 0 (A.deeper (envOfC "power_of" (defScope s_power_of) s.heap.objs.size f cdv))) (hgd : (A.deeper (envOfC "power_of" (defScope s_power_of) s.heap.objs.size f cdv)).guards = some []) (tk : Takes (cxOf (L2.CX P w) P w K mg base N_power_of "power_of" (defScope s_power_of) f cdv A outer s H E) (lW K B t c.xm))  :
    PSs (cxOf (L2.CX P w) P w K mg base N_power_of "power_of" (defScope s_power_of) f cdv A outer s H E) (defBody s_power_of) (lS K B (wSs b_power_of c)) := by
  have hu := hu_room hr
  have nd := sc_power_of.nd
  exact (s_cons (s_asg (r_c pe_int fun _ => .int) (g_nm nd rfl (.inl rfl) (.inl rfl)) rfl rfl rfl)
  (s_cons (s_for cx_po rfl (i_rng1 rfl G.b_range (r_v (i := 1) (pe_var rfl (.inl rfl))) rfl) (g_nm nd rfl (.inl rfl) (.inl rfl)) (s_cons (s_asg (r_bin o_mul (r_v (i := 2) (pe_var rfl (.inl rfl))) (r_v (i := 0) (pe_var rfl (.inl rfl)))) (g_nm nd rfl (.inl rfl) (.inl rfl)) rfl rfl rfl)
    s_nil) fun _ => rfl)
  (s_cons (s_ret (r_v (i := 2) (pe_var rfl (.inl rfl))))
  s_nil)))
abbrev s_least_odd : Stmt := topS 12
abbrev N_least_odd : List Str := ["words", "most", "best", "word"]
theorem sc_least_odd : FnScope N_least_odd ["words", "most"] (defScope s_least_odd) := ⟨rfl, rfl, rfl, by decide +kernel, rfl, by decide +kernel, by decide +kernel⟩
abbrev b_least_odd : Ss := (.cons (.asg (.nm 2) (.c .non))
  (.cons (.for (.nm 3) (.sq (.of (.v 0))) (.cons (.ite (.and (.e (.cmp .Eq (.bin .Mod (.blt .len (.cons (.v 3) .nil)) (.c (.int 2))) (.c (.int 1)))) (.e (.cmp .Lt (.blt .len (.cons (.v 3) .nil)) (.v 1)))) (.cons (.ite (.or (.e (.cmp .Is (.v 2) (.c .non))) (.e (.cmp .Lt (.tup (.cons (.blt .len (.cons (.v 3) .nil)) (.cons (.v 3) .nil))) (.tup (.cons (.blt .len (.cons (.v 2) .nil)) (.cons (.v 2) .nil)))))) (.cons (.asg (.nm 2) (.v 3))
        .nil) .nil)
      .nil) .nil)
    .nil))
  (.cons (.ret (.v 2))
  .nil)))
theorem w_least_odd (G : Glb mg)  (hr : Room 0 (A.deeper (envOfC "least_odd" (defScope s_least_odd) s.heap.objs.size f cdv))) (hgd : (A.deeper (envOfC "least_odd" (defScope s_least_odd) s.heap.objs.size f cdv)).guards = some []) (tk : Takes (cxOf (L2.CX P w) P w K mg base N_least_odd "least_odd" (defScope s_least_odd) f cdv A outer s H E) (lW K B t c.xm))  :
    PSs (cxOf (L2.CX P w) P w K mg base N_least_odd "least_odd" (defScope s_least_odd) f cdv A outer s H E) (defBody s_least_odd) (lS K B (wSs b_least_odd c)) := by
  have hu := hu_room hr
  have nd := sc_least_odd.nd
  exact (s_cons (s_asg (r_c pe_non fun _ => .non) (g_nm nd rfl (.inl rfl) (.inl rfl)) rfl rfl rfl)
  (s_cons (s_for cx_po rfl (i_sq (r_of (r_v (i := 0) (pe_var rfl (.inl rfl))))) (g_nm nd rfl (.inl rfl) (.inl rfl)) (s_cons (s_ite (PW.pt (w_and (t_cmp hu (r_bin o_mod (q_len rfl G.b_len (r_cons (r_v (i := 3) (pe_var rfl (.inl rfl))) r_nil rfl) rfl) (r_c pe_int fun _ => .int)) (r_c pe_int fun _ => .int) rfl) (w_and1 (t_cmp hu (q_len rfl G.b_len (r_cons (r_v (i := 3) (pe_var rfl (.inl rfl))) r_nil rfl) rfl) (r_v (i := 1) (pe_var rfl (.inl rfl))) rfl)))) (s_cons (s_ite (PW.pt (w_or (t_cmp hu (r_v (i := 2) (pe_var rfl (.inl rfl))) (r_c pe_non fun _ => .non) rfl) (w_or1 (t_cmp hu (r_tup (r_cons (q_len rfl G.b_len (r_cons (r_v (i := 3) (pe_var rfl (.inl rfl))) r_nil rfl) rfl) (r_cons (r_v (i := 3) (pe_var rfl (.inl rfl))) r_nil rfl) rfl)) (r_tup (r_cons (q_len rfl G.b_len (r_cons (r_v (i := 2) (pe_var rfl (.inl rfl))) r_nil rfl) rfl) (r_cons (r_v (i := 2) (pe_var rfl (.inl rfl))) r_nil rfl) rfl)) rfl)))) (s_cons (s_asg (r_v (i := 3) (pe_var rfl (.inl rfl))) (g_nm nd rfl (.inl rfl) (.inl rfl)) rfl rfl rfl)
        s_nil) s_nil)
      s_nil) s_nil)
    s_nil) fun _ => rfl)
  (s_cons (s_ret (r_v (i := 2) (pe_var rfl (.inl rfl))))
  s_nil)))
abbrev s_gone_away : Stmt := topS 13
abbrev N_gone_away : List Str := ["q", "n", "words", "row", "least", "found", "word", "letter"]
theorem sc_gone_away : FnScope N_gone_away ["q", "n"] (defScope s_gone_away) := ⟨rfl, rfl, rfl, by decide +kernel, rfl, by decide +kernel, by decide +kernel⟩
abbrev b_gone_away : Ss := (.cons (.par [2, 3] (.cons (.nw (.cmp (.tup (.cons (.v 7) .nil)) (.nm 7) [7] (.rng (.cons (.v 0) .nil)) (.e (.c (.bl true))))) (.cons (.nw (.lst .nil)) .nil)))
  (.cons (.asg (.nm 4) (.call 1 (.cons (.v 2) (.cons (.v 1) .nil))))
  (.cons (.whl (.e (.cmp .IsNot (.v 4) (.c .non))) (.cons (.ex (.mth .app (.v 3) (.cons (.v 4) .nil)))
    (.cons (.asg (.nm 5) (.nw (.lst .nil)))
    (.cons (.for (.nm 6) (.sq (.of (.v 2))) (.cons (.whl (.and (.e (.cmp .NotEq (.v 6) (.v 4))) (.e (.cmp .LtE (.blt .len (.cons (.v 6) .nil)) (.v 1)))) (.cons (.ex (.mth .app (.v 5) (.cons (.v 6) .nil)))
        (.cons (.asg (.nm 6) (.bin .Add (.v 4) (.v 6)))
        .nil)))
      .nil))
    (.cons (.asg (.nm 2) (.v 5))
    (.cons (.asg (.nm 4) (.call 1 (.cons (.v 2) (.cons (.v 1) .nil))))
    .nil))))))
  (.cons (.ret (.tup (.cons (.v 3) (.cons (.v 2) .nil))))
  .nil))))
theorem w_gone_away (G : Glb mg)  (hr : Room 1 (A.deeper (envOfC "gone_away" (defScope s_gone_away) s.heap.objs.size f cdv))) (hgd : (A.deeper (envOfC "gone_away" (defScope s_gone_away) s.heap.objs.size f cdv)).guards = some []) (tk : Takes (cxOf (L2.CX P w) P w K mg base N_gone_away "gone_away" (defScope s_gone_away) f cdv A outer s H E) (lW K B t c.xm)) (F_least_odd : Cal P w K mg base t c.fn 1 1 "least_odd" ["words", "most"]) :
    PSs (cxOf (L2.CX P w) P w K mg base N_gone_away "gone_away" (defScope s_gone_away) f cdv A outer s H E) (defBody s_gone_away) (lS K B (wSs b_gone_away c)) := by
  have hu := hu_room hr
  have nd := sc_gone_away.nd
  exact (s_cons (s_par (ps := [(2, ("words" : Str)), (3, ("row" : Str))]) rfl nd (par_ok (by rfl)) (r_cons (r_nw (r_lc (own := [("letter", 7)]) rfl nd (i_rng1 rfl G.b_range (r_v (i := 0) (pe_var rfl (.inl rfl))) rfl) (blk_ok (by rfl)) (fun _ _ _ _ _ => (g_nm nd rfl (.inl rfl) (.inr rfl))) (fun _ _ _ _ _ => ifs_nil) (fun _ _ _ _ _ => (r_tup (r_cons (r_v (i := 7) (pe_var rfl (.inl rfl))) r_nil rfl))) (fun _ => rfl) (by decide))) (r_cons (r_nw (r_lst r_nil)) r_nil rfl) rfl) (by decide) rfl rfl)
  (s_cons (s_asg (q_call F_least_odd hr (by decide) hgd rfl tk (r_cons (r_v (i := 2) (pe_var rfl (.inl rfl))) (r_cons (r_v (i := 1) (pe_var rfl (.inl rfl))) r_nil rfl) rfl)) (g_nm nd rfl (.inl rfl) (.inl rfl)) rfl rfl rfl)
  (s_cons (s_whl cx_po (t_cmp hu (r_v (i := 4) (pe_var rfl (.inl rfl))) (r_c pe_non fun _ => .non) rfl) (s_cons (s_ex (q_app (r_v (i := 3) (pe_var rfl (.inl rfl))) (r_cons (r_v (i := 4) (pe_var rfl (.inl rfl))) r_nil rfl) rfl rfl rfl) rfl)
    (s_cons (s_asg (r_nw (r_lst r_nil)) (g_nm nd rfl (.inl rfl) (.inl rfl)) rfl rfl rfl)
    (s_cons (s_for cx_po rfl (i_sq (r_of (r_v (i := 2) (pe_var rfl (.inl rfl))))) (g_nm nd rfl (.inl rfl) (.inl rfl)) (s_cons (s_whl cx_po (PW.pt (w_and (t_cmp hu (r_v (i := 6) (pe_var rfl (.inl rfl))) (r_v (i := 4) (pe_var rfl (.inl rfl))) rfl) (w_and1 (t_cmp hu (q_len rfl G.b_len (r_cons (r_v (i := 6) (pe_var rfl (.inl rfl))) r_nil rfl) rfl) (r_v (i := 1) (pe_var rfl (.inl rfl))) rfl)))) (s_cons (s_ex (q_app (r_v (i := 5) (pe_var rfl (.inl rfl))) (r_cons (r_v (i := 6) (pe_var rfl (.inl rfl))) r_nil rfl) rfl rfl rfl) rfl)
        (s_cons (s_asg (r_bin o_add (r_v (i := 4) (pe_var rfl (.inl rfl))) (r_v (i := 6) (pe_var rfl (.inl rfl)))) (g_nm nd rfl (.inl rfl) (.inl rfl)) rfl rfl rfl)
        s_nil)))
      s_nil) fun _ => rfl)
    (s_cons (s_asg (r_v (i := 5) (pe_var rfl (.inl rfl))) (g_nm nd rfl (.inl rfl) (.inl rfl)) rfl rfl rfl)
    (s_cons (s_asg (q_call F_least_odd hr (by decide) hgd rfl tk (r_cons (r_v (i := 2) (pe_var rfl (.inl rfl))) (r_cons (r_v (i := 1) (pe_var rfl (.inl rfl))) r_nil rfl) rfl)) (g_nm nd rfl (.inl rfl) (.inl rfl)) rfl rfl rfl)
    s_nil))))))
  (s_cons (s_ret (r_tup (r_cons (r_v (i := 3) (pe_var rfl (.inl rfl))) (r_cons (r_v (i := 2) (pe_var rfl (.inl rfl))) r_nil rfl) rfl)))
  s_nil))))
abbrev s_refuse_row : Stmt := topS 14
abbrev N_refuse_row : List Str := ["q", "n"]
theorem sc_refuse_row : FnScope N_refuse_row ["q", "n"] (defScope s_refuse_row) := ⟨rfl, rfl, rfl, by decide +kernel, rfl, by decide +kernel, by decide +kernel⟩
abbrev b_refuse_row : Ss := (.cons (.ite (.e (.cmp .Eq (.bin .Mod (.v 1) (.c (.int 2))) (.c (.int 0)))) (.cons (.rse 1 .nil)
    .nil) .nil)
  (.cons (.ite (.e (.cmp .Gt (.call 0 (.cons (.v 0) (.cons (.v 1) .nil))) (.c (.int 4096)))) (.cons (.rse 2 (.cons (.c (.int 4096)) .nil))
    .nil) .nil)
  .nil))
theorem w_refuse_row (G : Glb mg) (XFh : XF K mg t) (hsub : c.sub = subNm) (hp : t.ps = [0, 1, 2, 3, 4, 5, 6]) (M_1 : XM0 K P t 1) (M_2 : XM1 K P t 2)  (hr : Room 1 (A.deeper (envOfC "refuse_row" (defScope s_refuse_row) s.heap.objs.size f cdv))) (hgd : (A.deeper (envOfC "refuse_row" (defScope s_refuse_row) s.heap.objs.size f cdv)).guards = some []) (tk : Takes (cxOf (L2.CX P w) P w K mg base N_refuse_row "refuse_row" (defScope s_refuse_row) f cdv A outer s H E) (lW K B t c.xm)) (F_power_of : Cal P w K mg base t c.fn 0 1 "power_of" ["q", "n"]) :
    PSs (cxOf (L2.CX P w) P w K mg base N_refuse_row "refuse_row" (defScope s_refuse_row) f cdv A outer s H E) (defBody s_refuse_row) (lS K B (wSs b_refuse_row c)) := by
  have hu := hu_room hr
  have nd := sc_refuse_row.nd
  exact (s_cons (s_ite (t_cmp hu (r_bin o_mod (r_v (i := 1) (pe_var rfl (.inl rfl))) (r_c pe_int fun _ => .int)) (r_c pe_int fun _ => .int) rfl) (s_cons (s_rse0 rfl XFh M_1 (by rw [hp]; decide) rfl hr tk rfl (by decide))
    s_nil) s_nil)
  (s_cons (s_ite (t_cmp hu (q_call F_power_of hr (by decide) hgd rfl tk (r_cons (r_v (i := 0) (pe_var rfl (.inl rfl))) (r_cons (r_v (i := 1) (pe_var rfl (.inl rfl))) r_nil rfl) rfl)) (q_gi rfl G.i_MAX_GONE) rfl) (s_cons (s_rse1 rfl XFh M_2 (by rw [hp]; decide) (by decide) rfl hr tk rfl (by decide) (q_gi rfl G.i_MAX_GONE) rfl)
    s_nil) s_nil)
  s_nil))
abbrev s_away_lot : Stmt := topS 15
abbrev N_away_lot : List Str := ["q", "n", "word"]
theorem sc_away_lot : FnScope N_away_lot ["q", "n"] (defScope s_away_lot) := ⟨rfl, rfl, rfl, by decide +kernel, rfl, by decide +kernel, by decide +kernel⟩
abbrev b_away_lot : Ss := (.cons (.ex (.call 3 (.cons (.v 0) (.cons (.v 1) .nil))))
  (.cons (.ret (.bls .tuple (.srt (.cmp (.v 2) (.nm 2) [2] (.sq (.of (.idx (.call 2 (.cons (.v 0) (.cons (.v 1) .nil))) (.c (.int 1))))) (.e (.cmp .Eq (.blt .len (.cons (.v 2) .nil)) (.v 1)))))))
  .nil))
theorem w_away_lot (G : Glb mg)  (hr : Room 2 (A.deeper (envOfC "away_lot" (defScope s_away_lot) s.heap.objs.size f cdv))) (hgd : (A.deeper (envOfC "away_lot" (defScope s_away_lot) s.heap.objs.size f cdv)).guards = some []) (tk : Takes (cxOf (L2.CX P w) P w K mg base N_away_lot "away_lot" (defScope s_away_lot) f cdv A outer s H E) (lW K B t c.xm)) (F_refuse_row : Cal P w K mg base t c.fn 3 2 "refuse_row" ["q", "n"]) (F_gone_away : Cal P w K mg base t c.fn 2 2 "gone_away" ["q", "n"]) :
    PSs (cxOf (L2.CX P w) P w K mg base N_away_lot "away_lot" (defScope s_away_lot) f cdv A outer s H E) (defBody s_away_lot) (lS K B (wSs b_away_lot c)) := by
  have hu := hu_room hr
  have nd := sc_away_lot.nd
  exact (s_cons (s_ex (q_call F_refuse_row hr (by decide) hgd rfl tk (r_cons (r_v (i := 0) (pe_var rfl (.inl rfl))) (r_cons (r_v (i := 1) (pe_var rfl (.inr (.inl rfl)))) r_nil rfl) rfl)) rfl)
  (s_cons (s_ret (q_tuples rfl G.b_tuple (r_up (q_srt hu rfl G.b_sorted (r_up (r_lc (own := [("word", 2)]) rfl nd (i_sq (r_of (r_idx hu (q_call F_gone_away hr (by decide) hgd rfl tk (r_cons (r_v (i := 0) (pe_var rfl (.inl rfl))) (r_cons (r_v (i := 1) (pe_var rfl (.inr (.inl rfl)))) r_nil rfl) rfl)) (r_c pe_int fun _ => .int) fun _ _ => rfl))) (blk_ok (by rfl)) (fun _ _ _ _ _ => (g_nm nd rfl (.inl rfl) (.inr rfl))) (fun _ _ _ _ _ => (pts_one (t_cmp hu (q_len rfl G.b_len (r_cons (r_v (i := 2) (pe_var rfl (.inl rfl))) r_nil rfl) rfl) (r_v (i := 1) (pe_var rfl (.inr (.inl rfl)))) rfl))) (fun _ _ _ _ _ => (r_v (i := 2) (pe_var rfl (.inl rfl)))) (fun _ => rfl) (by decide))) rfl)) rfl))
  s_nil))
abbrev s_merged_ring : Stmt := topS 16
abbrev N_merged_ring : List Str := ["words", "least", "begin", "turned", "found", "run", "word", "k"]
theorem sc_merged_ring : FnScope N_merged_ring ["words", "least"] (defScope s_merged_ring) := ⟨rfl, rfl, rfl, by decide +kernel, rfl, by decide +kernel, by decide +kernel⟩
abbrev b_merged_ring : Ss := (.cons (.asg (.nm 2) (.bin .Add (.idx (.nw (.cmp (.v 7) (.tp (.cons (.nm 7) (.cons (.nm 6) .nil))) [7, 6] (.enm (.of (.v 0))) (.e (.cmp .NotEq (.v 6) (.v 1))))) (.c (.int 0))) (.c (.int 1))))
  (.cons (.par [3, 4, 5] (.cons (.bin .Add (.sl (.v 0) (.so (.v 2)) .no) (.sl (.v 0) .no (.so (.v 2)))) (.cons (.nw (.lst .nil)) (.cons (.tup .nil) .nil))))
  (.cons (.for (.nm 6) (.sq (.of (.v 3))) (.cons (.ite (.e (.cmp .Eq (.v 6) (.v 1))) (.cons (.asg (.nm 5) (.bin .Add (.v 5) (.v 6)))
      .nil) (.cons (.ex (.mth .app (.v 4) (.cons (.bin .Add (.v 5) (.v 6)) .nil)))
      (.cons (.asg (.nm 5) (.tup .nil))
      .nil)))
    .nil))
  (.cons (.ret (.v 4))
  .nil))))
theorem w_merged_ring (G : Glb mg)  (hr : Room 0 (A.deeper (envOfC "merged_ring" (defScope s_merged_ring) s.heap.objs.size f cdv))) (hgd : (A.deeper (envOfC "merged_ring" (defScope s_merged_ring) s.heap.objs.size f cdv)).guards = some []) (tk : Takes (cxOf (L2.CX P w) P w K mg base N_merged_ring "merged_ring" (defScope s_merged_ring) f cdv A outer s H E) (lW K B t c.xm))  :
    PSs (cxOf (L2.CX P w) P w K mg base N_merged_ring "merged_ring" (defScope s_merged_ring) f cdv A outer s H E) (defBody s_merged_ring) (lS K B (wSs b_merged_ring c)) := by
  have hu := hu_room hr
  have nd := sc_merged_ring.nd
  exact (s_cons (s_asg (r_bin o_add (r_idx hu (r_nw (r_lc (own := [("k", 7), ("word", 6)]) rfl nd (i_enm rfl G.b_enumerate (r_of (r_v (i := 0) (pe_var rfl (.inl rfl)))) rfl) (blk_ok (by rfl)) (fun _ _ _ _ _ => (g_tp rfl (gs_cons (g_nm nd rfl (.inl rfl) (.inr rfl)) (gs_cons (g_nm nd rfl (.inl rfl) (.inr rfl)) gs_nil rfl) rfl) rfl rfl)) (fun _ _ _ _ _ => (pts_one (t_cmp hu (r_v (i := 6) (pe_var rfl (.inl rfl))) (r_v (i := 1) (pe_var rfl (.inr (.inl rfl)))) rfl))) (fun _ _ _ _ _ => (r_v (i := 7) (pe_var rfl (.inl rfl)))) (fun _ => rfl) (by decide))) (r_c pe_int fun _ => .int) fun _ _ => rfl) (r_c pe_int fun _ => .int)) (g_nm nd rfl (.inl rfl) (.inl rfl)) rfl rfl rfl)
  (s_cons (s_par (ps := [(3, ("turned" : Str)), (4, ("found" : Str)), (5, ("run" : Str))]) rfl nd (par_ok (by rfl)) (r_cons (r_bin o_add (r_sl (r_v (i := 0) (pe_var rfl (.inl rfl))) (r_so (r_v (i := 2) (pe_var rfl (.inl rfl)))) r_no) (r_sl (r_v (i := 0) (pe_var rfl (.inl rfl))) r_no (r_so (r_v (i := 2) (pe_var rfl (.inl rfl)))))) (r_cons (r_nw (r_lst r_nil)) (r_cons (r_tup r_nil) r_nil rfl) rfl) rfl) (by decide) rfl rfl)
  (s_cons (s_for cx_po rfl (i_sq (r_of (r_v (i := 3) (pe_var rfl (.inl rfl))))) (g_nm nd rfl (.inl rfl) (.inl rfl)) (s_cons (s_ite (t_cmp hu (r_v (i := 6) (pe_var rfl (.inl rfl))) (r_v (i := 1) (pe_var rfl (.inr (.inl rfl)))) rfl) (s_cons (s_asg (r_bin o_add (r_v (i := 5) (pe_var rfl (.inl rfl))) (r_v (i := 6) (pe_var rfl (.inl rfl)))) (g_nm nd rfl (.inl rfl) (.inl rfl)) rfl rfl rfl)
      s_nil) (s_cons (s_ex (q_app (r_v (i := 4) (pe_var rfl (.inl rfl))) (r_cons (r_bin o_add (r_v (i := 5) (pe_var rfl (.inl rfl))) (r_v (i := 6) (pe_var rfl (.inl rfl)))) r_nil rfl) rfl rfl rfl) rfl)
      (s_cons (s_asg (r_tup r_nil) (g_nm nd rfl (.inl rfl) (.inl rfl)) rfl rfl rfl)
      s_nil)))
    s_nil) fun _ => rfl)
  (s_cons (s_ret (r_v (i := 4) (pe_var rfl (.inl rfl))))
  s_nil))))
abbrev s_away_place : Stmt := topS 17
abbrev N_away_place : List Str := ["q", "word", "turn", "k"]
theorem sc_away_place : FnScope N_away_place ["q", "word"] (defScope s_away_place) := ⟨rfl, rfl, rfl, by decide +kernel, rfl, by decide +kernel, by decide +kernel⟩
abbrev b_away_place : Ss := (.cons (.asg (.nm 2) (.call 7 (.cons (.v 0) (.cons (.v 1) .nil))))
  (.cons (.ret (.idx (.nw (.cmp (.v 3) (.nm 3) [3] (.rng (.cons (.blt .len (.cons (.v 1) .nil)) .nil)) (.e (.cmp .Eq (.bin .Add (.sl (.v 1) (.so (.v 3)) .no) (.sl (.v 1) .no (.so (.v 3)))) (.v 2))))) (.c (.int 0))))
  .nil))
theorem w_away_place (G : Glb mg)  (hr : Room 2 (A.deeper (envOfC "away_place" (defScope s_away_place) s.heap.objs.size f cdv))) (hgd : (A.deeper (envOfC "away_place" (defScope s_away_place) s.heap.objs.size f cdv)).guards = some []) (tk : Takes (cxOf (L2.CX P w) P w K mg base N_away_place "away_place" (defScope s_away_place) f cdv A outer s H E) (lW K B t c.xm)) (F_away_turn : Cal P w K mg base t c.fn 7 2 "away_turn" ["q", "word"]) :
    PSs (cxOf (L2.CX P w) P w K mg base N_away_place "away_place" (defScope s_away_place) f cdv A outer s H E) (defBody s_away_place) (lS K B (wSs b_away_place c)) := by
  have hu := hu_room hr
  have nd := sc_away_place.nd
  exact (s_cons (s_asg (q_call F_away_turn hr (by decide) hgd rfl tk (r_cons (r_v (i := 0) (pe_var rfl (.inl rfl))) (r_cons (r_v (i := 1) (pe_var rfl (.inr (.inl rfl)))) r_nil rfl) rfl)) (g_nm nd rfl (.inr rfl) (.inl rfl)) rfl rfl rfl)
  (s_cons (s_ret (r_idx hu (r_nw (r_lc (own := [("k", 3)]) rfl nd (i_rng1 rfl G.b_range (q_len rfl G.b_len (r_cons (r_v (i := 1) (pe_var rfl (.inr (.inl rfl)))) r_nil rfl) rfl) rfl) (blk_ok (by rfl)) (fun _ _ _ _ _ => (g_nm nd rfl (.inl rfl) (.inr rfl))) (fun _ _ _ _ _ => (pts_one (t_cmp hu (r_bin o_add (r_sl (r_v (i := 1) (pe_var rfl (.inr (.inl rfl)))) (r_so (r_v (i := 3) (pe_var rfl (.inl rfl)))) r_no) (r_sl (r_v (i := 1) (pe_var rfl (.inr (.inl rfl)))) r_no (r_so (r_v (i := 3) (pe_var rfl (.inl rfl)))))) (r_v (i := 2) (pe_var rfl (.inr (.inl rfl)))) rfl))) (fun _ _ _ _ _ => (r_v (i := 3) (pe_var rfl (.inl rfl)))) (fun _ => rfl) (by decide))) (r_c pe_int fun _ => .int) fun _ _ => rfl))
  s_nil))
abbrev s_away_turn : Stmt := topS 18
abbrev N_away_turn : List Str := ["q", "word", "words", "k", "letter"]
theorem sc_away_turn : FnScope N_away_turn ["q", "word"] (defScope s_away_turn) := ⟨rfl, rfl, rfl, by decide +kernel, rfl, by decide +kernel, by decide +kernel⟩
abbrev b_away_turn : Ss := (.cons (.ite (.or (.e (.cmp .Eq (.bin .Mod (.blt .len (.cons (.v 1) .nil)) (.c (.int 2))) (.c (.int 0)))) (.e (.cmp .In (.v 1) (.nw (.cmp (.bin .Add (.sl (.v 1) (.so (.v 3)) .no) (.sl (.v 1) .no (.so (.v 3)))) (.nm 3) [3] (.rng (.cons (.c (.int 1)) (.cons (.blt .len (.cons (.v 1) .nil)) .nil))) (.e (.c (.bl true)))))))) (.cons (.rse 1 .nil)
    .nil) .nil)
  (.cons (.asg (.nm 2) (.nw (.cmp (.tup (.cons (.v 4) .nil)) (.nm 4) [4] (.sq (.of (.v 1))) (.e (.c (.bl true))))))
  (.cons (.whl (.e (.cmp .Gt (.blt .len (.cons (.v 2) .nil)) (.c (.int 1)))) (.cons (.asg (.nm 2) (.call 5 (.cons (.v 2) (.cons (.call 1 (.cons (.v 2) (.cons (.blt .len (.cons (.v 1) .nil)) .nil))) .nil))))
    .nil))
  (.cons (.ret (.idx (.v 2) (.c (.int 0))))
  .nil))))
theorem w_away_turn (G : Glb mg) (XFh : XF K mg t) (hsub : c.sub = subNm) (hp : t.ps = [0, 1, 2, 3, 4, 5, 6]) (M_1 : XM0 K P t 1)  (hr : Room 1 (A.deeper (envOfC "away_turn" (defScope s_away_turn) s.heap.objs.size f cdv))) (hgd : (A.deeper (envOfC "away_turn" (defScope s_away_turn) s.heap.objs.size f cdv)).guards = some []) (tk : Takes (cxOf (L2.CX P w) P w K mg base N_away_turn "away_turn" (defScope s_away_turn) f cdv A outer s H E) (lW K B t c.xm)) (F_merged_ring : Cal P w K mg base t c.fn 5 1 "merged_ring" ["words", "least"]) (F_least_odd : Cal P w K mg base t c.fn 1 1 "least_odd" ["words", "most"]) :
    PSs (cxOf (L2.CX P w) P w K mg base N_away_turn "away_turn" (defScope s_away_turn) f cdv A outer s H E) (defBody s_away_turn) (lS K B (wSs b_away_turn c)) := by
  have hu := hu_room hr
  have nd := sc_away_turn.nd
  exact (s_cons (s_ite (PW.pt (w_or (t_cmp hu (r_bin o_mod (q_len rfl G.b_len (r_cons (r_v (i := 1) (pe_var rfl (.inr (.inl rfl)))) r_nil rfl) rfl) (r_c pe_int fun _ => .int)) (r_c pe_int fun _ => .int) rfl) (w_or1 (t_cmp hu (r_v (i := 1) (pe_var rfl (.inr (.inl rfl)))) (r_nw (r_lc (own := [("k", 3)]) rfl nd (i_rng2 rfl G.b_range (r_c pe_int fun _ => .int) (q_len rfl G.b_len (r_cons (r_v (i := 1) (pe_var rfl (.inr (.inl rfl)))) r_nil rfl) rfl) rfl rfl) (blk_ok (by rfl)) (fun _ _ _ _ _ => (g_nm nd rfl (.inl rfl) (.inr rfl))) (fun _ _ _ _ _ => ifs_nil) (fun _ _ _ _ _ => (r_bin o_add (r_sl (r_v (i := 1) (pe_var rfl (.inr (.inl rfl)))) (r_so (r_v (i := 3) (pe_var rfl (.inl rfl)))) r_no) (r_sl (r_v (i := 1) (pe_var rfl (.inr (.inl rfl)))) r_no (r_so (r_v (i := 3) (pe_var rfl (.inl rfl))))))) (fun _ => rfl) (by decide))) rfl)))) (s_cons (s_rse0 rfl XFh M_1 (by rw [hp]; decide) rfl hr tk rfl (by decide))
    s_nil) s_nil)
  (s_cons (s_setLc (own := [("letter", 4)]) rfl nd rfl rfl rfl (i_sq (r_of (r_v (i := 1) (pe_var rfl (.inr (.inl rfl)))))) (blk_ok (by rfl)) (fun _ _ _ _ _ => (g_nm nd rfl (.inl rfl) (.inr rfl))) (fun _ _ _ _ _ => ifs_nil) (fun _ _ _ _ _ => (r_tup (r_cons (r_v (i := 4) (pe_var rfl (.inl rfl))) r_nil rfl))) (fun _ => rfl) (by decide))
  (s_cons (s_whl cx_po (t_cmp hu (q_len rfl G.b_len (r_cons (r_v (i := 2) (pe_var rfl (.inl rfl))) r_nil rfl) rfl) (r_c pe_int fun _ => .int) rfl) (s_cons (s_asg (q_call F_merged_ring hr (by decide) hgd rfl tk (r_cons (r_v (i := 2) (pe_var rfl (.inl rfl))) (r_cons (q_call F_least_odd hr (by decide) hgd rfl tk (r_cons (r_v (i := 2) (pe_var rfl (.inl rfl))) (r_cons (q_len rfl G.b_len (r_cons (r_v (i := 1) (pe_var rfl (.inr (.inl rfl)))) r_nil rfl) rfl) r_nil rfl) rfl)) r_nil rfl) rfl)) (g_nm nd rfl (.inl rfl) (.inl rfl)) rfl rfl rfl)
    s_nil))
  (s_cons (s_ret (r_idx hu (r_v (i := 2) (pe_var rfl (.inl rfl))) (r_c pe_int fun _ => .int) fun _ _ => rfl))
  s_nil))))
abbrev s_is_away_word : Stmt := topS 19
abbrev N_is_away_word : List Str := ["q", "word"]
theorem sc_is_away_word : FnScope N_is_away_word ["q", "word"] (defScope s_is_away_word) := ⟨rfl, rfl, rfl, by decide +kernel, rfl, by decide +kernel, by decide +kernel⟩
abbrev b_is_away_word : Ss := (.cons (.ret (.cmp .Eq (.call 7 (.cons (.v 0) (.cons (.v 1) .nil))) (.v 1)))
  .nil)
theorem w_is_away_word (G : Glb mg)  (hr : Room 2 (A.deeper (envOfC "is_away_word" (defScope s_is_away_word) s.heap.objs.size f cdv))) (hgd : (A.deeper (envOfC "is_away_word" (defScope s_is_away_word) s.heap.objs.size f cdv)).guards = some []) (tk : Takes (cxOf (L2.CX P w) P w K mg base N_is_away_word "is_away_word" (defScope s_is_away_word) f cdv A outer s H E) (lW K B t c.xm)) (F_away_turn : Cal P w K mg base t c.fn 7 2 "away_turn" ["q", "word"]) :
    PSs (cxOf (L2.CX P w) P w K mg base N_is_away_word "is_away_word" (defScope s_is_away_word) f cdv A outer s H E) (defBody s_is_away_word) (lS K B (wSs b_is_away_word c)) := by
  have hu := hu_room hr
  have nd := sc_is_away_word.nd
  exact (s_cons (s_ret (r_cmp (o_cmp hu .Eq) (q_call F_away_turn hr (by decide) hgd rfl tk (r_cons (r_v (i := 0) (pe_var rfl (.inl rfl))) (r_cons (r_v (i := 1) (pe_var rfl (.inl rfl))) r_nil rfl) rfl)) (r_v (i := 1) (pe_var rfl (.inl rfl))) rfl))
  s_nil)
abbrev s__law_own_bag : Stmt := topS 21
abbrev N__law_own_bag : List Str := ["script", "cells", "mixed", "cell"]
theorem sc__law_own_bag : FnScope N__law_own_bag ["script"] (defScope s__law_own_bag) := ⟨rfl, rfl, rfl, by decide +kernel, rfl, by decide +kernel, by decide +kernel⟩
abbrev b__law_own_bag : Ss := (.cons (.asg (.nm 1) (.nw (.cmp (.blt .abs (.cons (.blt .int (.cons (.v 3) .nil)) .nil)) (.nm 3) [3] (.sq (.of (.sl (.v 0) .no (.so (.c (.int 63)))))) (.e (.c (.bl true))))))
  (.cons (.asg (.nm 2) (.bin .Add (.c (.int 1357)) (.blt .len (.cons (.v 1) .nil))))
  (.cons (.for (.nm 3) (.sq (.of (.v 1))) (.cons (.asg (.nm 2) (.bin .Mod (.blt .int (.cons (.bin .Add (.bin .Add (.bin .Mult (.v 2) (.c (.int 48271))) (.bin .Mod (.blt .int (.cons (.v 3) .nil)) (.c (.int 2147483629)))) (.c (.int 7))) .nil)) (.c (.int 2147483647))))
    .nil))
  (.cons (.ret (.nw (.lst (.cons (.nw (.lrev (.lis (.of (.v 1))))) (.cons (.c (.int 0)) (.cons (.v 2) .nil))))))
  .nil))))
theorem w__law_own_bag (G : Glb mg)  (hr : Room 0 (A.deeper (envOfC "_law_own_bag" (defScope s__law_own_bag) s.heap.objs.size f cdv))) (hgd : (A.deeper (envOfC "_law_own_bag" (defScope s__law_own_bag) s.heap.objs.size f cdv)).guards = some []) (tk : Takes (cxOf (L2.CX P w) P w K mg base N__law_own_bag "_law_own_bag" (defScope s__law_own_bag) f cdv A outer s H E) (lW K B t c.xm))  :
    PSs (cxOf (L2.CX P w) P w K mg base N__law_own_bag "_law_own_bag" (defScope s__law_own_bag) f cdv A outer s H E) (defBody s__law_own_bag) (lS K B (wSs b__law_own_bag c)) := by
  have hu := hu_room hr
  have nd := sc__law_own_bag.nd
  exact (s_cons (s_setLc (own := [("cell", 3)]) rfl nd rfl rfl rfl (i_sq (r_of (r_sl (r_v (i := 0) (pe_var rfl (.inl rfl))) r_no (r_so (r_c pe_int fun _ => .int))))) (blk_ok (by rfl)) (fun _ _ _ _ _ => (g_nm nd rfl (.inl rfl) (.inr rfl))) (fun _ _ _ _ _ => ifs_nil) (fun _ _ _ _ _ => (q_abs rfl G.b_abs (r_cons (q_int rfl G.b_int (r_cons (r_v (i := 3) (pe_var rfl (.inl rfl))) r_nil rfl) rfl) r_nil rfl) rfl)) (fun _ => rfl) (by decide))
  (s_cons (s_asg (r_bin o_add (r_c pe_int fun _ => .int) (q_len rfl G.b_len (r_cons (r_v (i := 1) (pe_var rfl (.inl rfl))) r_nil rfl) rfl)) (g_nm nd rfl (.inl rfl) (.inl rfl)) rfl rfl rfl)
  (s_cons (s_for cx_po rfl (i_sq (r_of (r_v (i := 1) (pe_var rfl (.inl rfl))))) (g_nm nd rfl (.inl rfl) (.inl rfl)) (s_cons (s_asg (r_bin o_mod (q_int rfl G.b_int (r_cons (r_bin o_add (r_bin o_add (r_bin o_mul (r_v (i := 2) (pe_var rfl (.inl rfl))) (r_c pe_int fun _ => .int)) (r_bin o_mod (q_int rfl G.b_int (r_cons (r_v (i := 3) (pe_var rfl (.inl rfl))) r_nil rfl) rfl) (r_c pe_int fun _ => .int))) (r_c pe_int fun _ => .int)) r_nil rfl) rfl) (r_c pe_int fun _ => .int)) (g_nm nd rfl (.inl rfl) (.inl rfl)) rfl rfl rfl)
    s_nil) fun _ => rfl)
  (s_cons (s_ret (r_nw (r_lst (r_cons (r_nw (r_lrev rfl rfl G.b_list rfl G.b_reversed (r_up (q_lis rfl G.b_list (r_of (r_v (i := 1) (pe_var rfl (.inl rfl)))) rfl)) rfl)) (r_cons (r_c pe_int fun _ => .int) (r_cons (r_v (i := 2) (pe_var rfl (.inl rfl))) r_nil rfl) rfl) rfl))))
  s_nil))))
abbrev s__law_draw : Stmt := topS 22
abbrev N__law_draw : List Str := ["bag", "below", "cell", "found"]
theorem sc__law_draw : FnScope N__law_draw ["bag", "below"] (defScope s__law_draw) := ⟨rfl, rfl, rfl, by decide +kernel, rfl, by decide +kernel, by decide +kernel⟩
abbrev b__law_draw : Ss := (.cons (.whl (.and (.e (.cmp .Eq (.idx (.v 0) (.c (.int 1))) (.c (.int 0)))) (.e (.cmp .NotEq (.idx (.v 0) (.c (.int 0))) (.nw (.lst .nil))))) (.cons (.asg (.nm 2) (.mth .pop (.idx (.v 0) (.c (.int 0))) .nil))
    (.cons (.sub (.v 0) (.c (.int 1)) (.ife (.e (.cmp .Gt (.v 2) (.bin .Pow (.c (.int 10)) (.c (.int 9))))) (.v 2) (.c (.int 0))))
    .nil)))
  (.cons (.ite (.e (.cmp .Gt (.idx (.v 0) (.c (.int 1))) (.c (.int 0)))) (.cons (.asg (.nm 3) (.bin .Mod (.blt .int (.cons (.idx (.v 0) (.c (.int 1))) .nil)) (.v 1)))
    (.cons (.sub (.v 0) (.c (.int 1)) (.bin .FloorDiv (.idx (.v 0) (.c (.int 1))) (.v 1)))
    (.cons (.ret (.v 3))
    .nil))) .nil)
  (.cons (.sub (.v 0) (.c (.int 2)) (.bin .Mod (.blt .int (.cons (.bin .Add (.bin .Mult (.idx (.v 0) (.c (.int 2))) (.c (.int 48271))) (.c (.int 11))) .nil)) (.c (.int 2147483647))))
  (.cons (.ret (.bin .Mod (.blt .int (.cons (.bin .FloorDiv (.bin .Mod (.blt .int (.cons (.bin .Mult (.idx (.v 0) (.c (.int 2))) (.idx (.v 0) (.c (.int 2)))) .nil)) (.c (.int 2147483629))) (.c (.int 7))) .nil)) (.v 1)))
  .nil))))
theorem w__law_draw (G : Glb mg)  (hr : Room 0 (A.deeper (envOfC "_law_draw" (defScope s__law_draw) s.heap.objs.size f cdv))) (hgd : (A.deeper (envOfC "_law_draw" (defScope s__law_draw) s.heap.objs.size f cdv)).guards = some []) (tk : Takes (cxOf (L2.CX P w) P w K mg base N__law_draw "_law_draw" (defScope s__law_draw) f cdv A outer s H E) (lW K B t c.xm))  :
    PSs (cxOf (L2.CX P w) P w K mg base N__law_draw "_law_draw" (defScope s__law_draw) f cdv A outer s H E) (defBody s__law_draw) (lS K B (wSs b__law_draw c)) := by
  have hu := hu_room hr
  have nd := sc__law_draw.nd
  exact (s_cons (s_whl cx_po (PW.pt (w_and (t_cmp hu (r_idx hu (r_v (i := 0) (pe_var rfl (.inl rfl))) (r_c pe_int fun _ => .int) fun _ _ => rfl) (r_c pe_int fun _ => .int) rfl) (w_and1 (t_cmp hu (r_idx hu (r_v (i := 0) (pe_var rfl (.inl rfl))) (r_c pe_int fun _ => .int) fun _ _ => rfl) (r_nw (r_lst r_nil)) rfl)))) (s_cons (s_asg (q_pop (r_idx hu (r_v (i := 0) (pe_var rfl (.inl rfl))) (r_c pe_int fun _ => .int) fun _ _ => rfl) rfl rfl) (g_nm nd rfl (.inl rfl) (.inl rfl)) rfl rfl rfl)
    (s_cons (s_sub hu (r_ife (t_cmp hu (r_v (i := 2) (pe_var rfl (.inl rfl))) (r_bin o_pow (r_c pe_int fun _ => .int) (r_c pe_int fun _ => .int)) rfl) (r_v (i := 2) (pe_var rfl (.inl rfl))) (r_c pe_int fun _ => .int)) (r_v (i := 0) (pe_var rfl (.inl rfl))) (r_c pe_int fun _ => .int) rfl rfl fun _ => rfl)
    s_nil)))
  (s_cons (s_ite (t_cmp hu (r_idx hu (r_v (i := 0) (pe_var rfl (.inl rfl))) (r_c pe_int fun _ => .int) fun _ _ => rfl) (r_c pe_int fun _ => .int) rfl) (s_cons (s_asg (r_bin o_mod (q_int rfl G.b_int (r_cons (r_idx hu (r_v (i := 0) (pe_var rfl (.inl rfl))) (r_c pe_int fun _ => .int) fun _ _ => rfl) r_nil rfl) rfl) (r_v (i := 1) (pe_var rfl (.inl rfl)))) (g_nm nd rfl (.inl rfl) (.inl rfl)) rfl rfl rfl)
    (s_cons (s_sub hu (r_bin o_fdiv (r_idx hu (r_v (i := 0) (pe_var rfl (.inl rfl))) (r_c pe_int fun _ => .int) fun _ _ => rfl) (r_v (i := 1) (pe_var rfl (.inl rfl)))) (r_v (i := 0) (pe_var rfl (.inl rfl))) (r_c pe_int fun _ => .int) rfl rfl fun _ => rfl)
    (s_cons (s_ret (r_v (i := 3) (pe_var rfl (.inl rfl))))
    s_nil))) s_nil)
  (s_cons (s_sub hu (r_bin o_mod (q_int rfl G.b_int (r_cons (r_bin o_add (r_bin o_mul (r_idx hu (r_v (i := 0) (pe_var rfl (.inl rfl))) (r_c pe_int fun _ => .int) fun _ _ => rfl) (r_c pe_int fun _ => .int)) (r_c pe_int fun _ => .int)) r_nil rfl) rfl) (r_c pe_int fun _ => .int)) (r_v (i := 0) (pe_var rfl (.inl rfl))) (r_c pe_int fun _ => .int) rfl rfl fun _ => rfl)
  (s_cons (s_ret (r_bin o_mod (q_int rfl G.b_int (r_cons (r_bin o_fdiv (r_bin o_mod (q_int rfl G.b_int (r_cons (r_bin o_mul (r_idx hu (r_v (i := 0) (pe_var rfl (.inl rfl))) (r_c pe_int fun _ => .int) fun _ _ => rfl) (r_idx hu (r_v (i := 0) (pe_var rfl (.inl rfl))) (r_c pe_int fun _ => .int) fun _ _ => rfl)) r_nil rfl) rfl) (r_c pe_int fun _ => .int)) (r_c pe_int fun _ => .int)) r_nil rfl) rfl) (r_v (i := 1) (pe_var rfl (.inl rfl)))))
  s_nil))))
abbrev s__law_pick : Stmt := topS 23
abbrev N__law_pick : List Str := ["bag", "some"]
theorem sc__law_pick : FnScope N__law_pick ["bag", "some"] (defScope s__law_pick) := ⟨rfl, rfl, rfl, by decide +kernel, rfl, by decide +kernel, by decide +kernel⟩
abbrev b__law_pick : Ss := (.cons (.ret (.idx (.v 1) (.call 10 (.cons (.v 0) (.cons (.blt .len (.cons (.v 1) .nil)) .nil)))))
  .nil)
theorem w__law_pick (G : Glb mg)  (hr : Room 1 (A.deeper (envOfC "_law_pick" (defScope s__law_pick) s.heap.objs.size f cdv))) (hgd : (A.deeper (envOfC "_law_pick" (defScope s__law_pick) s.heap.objs.size f cdv)).guards = some []) (tk : Takes (cxOf (L2.CX P w) P w K mg base N__law_pick "_law_pick" (defScope s__law_pick) f cdv A outer s H E) (lW K B t c.xm)) (F__law_draw : Cal P w K mg base t c.fn 10 1 "_law_draw" ["bag", "below"]) :
    PSs (cxOf (L2.CX P w) P w K mg base N__law_pick "_law_pick" (defScope s__law_pick) f cdv A outer s H E) (defBody s__law_pick) (lS K B (wSs b__law_pick c)) := by
  have hu := hu_room hr
  have nd := sc__law_pick.nd
  exact (s_cons (s_ret (r_idx hu (r_v (i := 1) (pe_var rfl (.inl rfl))) (q_call F__law_draw hr (by decide) hgd rfl tk (r_cons (r_v (i := 0) (pe_var rfl (.inl rfl))) (r_cons (q_len rfl G.b_len (r_cons (r_v (i := 1) (pe_var rfl (.inl rfl))) r_nil rfl) rfl) r_nil rfl) rfl)) fun _ _ => rfl))
  s_nil)
abbrev s__law_word : Stmt := topS 24
abbrev N__law_word : List Str := ["bag", "q", "n", "k"]
theorem sc__law_word : FnScope N__law_word ["bag", "q", "n"] (defScope s__law_word) := ⟨rfl, rfl, rfl, by decide +kernel, rfl, by decide +kernel, by decide +kernel⟩
abbrev b__law_word : Ss := (.cons (.ret (.bls .tuple (.cmp (.call 10 (.cons (.v 0) (.cons (.v 1) .nil))) (.nm 3) [3] (.rng (.cons (.v 2) .nil)) (.e (.c (.bl true))))))
  .nil)
theorem w__law_word (G : Glb mg)  (hr : Room 1 (A.deeper (envOfC "_law_word" (defScope s__law_word) s.heap.objs.size f cdv))) (hgd : (A.deeper (envOfC "_law_word" (defScope s__law_word) s.heap.objs.size f cdv)).guards = some []) (tk : Takes (cxOf (L2.CX P w) P w K mg base N__law_word "_law_word" (defScope s__law_word) f cdv A outer s H E) (lW K B t c.xm)) (F__law_draw : Cal P w K mg base t c.fn 10 1 "_law_draw" ["bag", "below"]) :
    PSs (cxOf (L2.CX P w) P w K mg base N__law_word "_law_word" (defScope s__law_word) f cdv A outer s H E) (defBody s__law_word) (lS K B (wSs b__law_word c)) := by
  have hu := hu_room hr
  have nd := sc__law_word.nd
  exact (s_cons (s_ret (q_tuples rfl G.b_tuple (r_up (r_lc (own := [("k", 3)]) rfl nd (i_rng1 rfl G.b_range (r_v (i := 2) (pe_var rfl (.inl rfl))) rfl) (blk_ok (by rfl)) (fun _ _ _ _ _ => (g_nm nd rfl (.inl rfl) (.inr rfl))) (fun _ _ _ _ _ => ifs_nil) (fun _ _ _ _ _ => (q_call F__law_draw hr (by decide) hgd rfl takesN (r_cons (r_v (i := 0) (pe_var rfl (.inr (.inl rfl)))) (r_cons (r_v (i := 1) (pe_var rfl (.inr (.inl rfl)))) r_nil rfl) rfl))) (fun _ => rfl) (by decide))) rfl))
  s_nil)
abbrev s__law_power : Stmt := topS 25
abbrev N__law_power : List Str := ["q", "n", "found", "k"]
theorem sc__law_power : FnScope N__law_power ["q", "n"] (defScope s__law_power) := ⟨rfl, rfl, rfl, by decide +kernel, rfl, by decide +kernel, by decide +kernel⟩
abbrev b__law_power : Ss := (.cons (.asg (.nm 2) (.c (.int 1)))
  (.cons (.for (.nm 3) (.rng (.cons (.v 1) .nil)) (.cons (.asg (.nm 2) (.bin .Mult (.v 2) (.v 0)))
    .nil))
  (.cons (.ret (.v 2))
  .nil)))
theorem w__law_power (G : Glb mg)  (hr : Room 0 (A.deeper (envOfC "_law_power" (defScope s__law_power) s.heap.objs.size f cdv))) (hgd : (A.deeper (envOfC "_law_power" (defScope s__law_power) s.heap.objs.size f cdv)).guards = some []) (tk : Takes (cxOf (L2.CX P w) P w K mg base N__law_power "_law_power" (defScope s__law_power) f cdv A outer s H E) (lW K B t c.xm))  :
    PSs (cxOf (L2.CX P w) P w K mg base N__law_power "_law_power" (defScope s__law_power) f cdv A outer s H E) (defBody s__law_power) (lS K B (wSs b__law_power c)) := by
  have hu := hu_room hr
  have nd := sc__law_power.nd
  exact (s_cons (s_asg (r_c pe_int fun _ => .int) (g_nm nd rfl (.inl rfl) (.inl rfl)) rfl rfl rfl)
  (s_cons (s_for cx_po rfl (i_rng1 rfl G.b_range (r_v (i := 1) (pe_var rfl (.inl rfl))) rfl) (g_nm nd rfl (.inl rfl) (.inl rfl)) (s_cons (s_asg (r_bin o_mul (r_v (i := 2) (pe_var rfl (.inl rfl))) (r_v (i := 0) (pe_var rfl (.inl rfl)))) (g_nm nd rfl (.inl rfl) (.inl rfl)) rfl rfl rfl)
    s_nil) fun _ => rfl)
  (s_cons (s_ret (r_v (i := 2) (pe_var rfl (.inl rfl))))
  s_nil)))
abbrev s__law_odd_word : Stmt := topS 26
abbrev N__law_odd_word : List Str := ["bag", "q", "n", "kind", "often", "at", "seldom", "parts", "found", "turn", "part", "k"]
theorem sc__law_odd_word : FnScope N__law_odd_word ["bag", "q"] (defScope s__law_odd_word) := ⟨rfl, rfl, rfl, by decide +kernel, rfl, by decide +kernel, by decide +kernel⟩
abbrev b__law_odd_word : Ss := (.cons (.par [2, 3] (.cons (.bin .Add (.c (.int 1)) (.bin .Mult (.c (.int 2)) (.call 10 (.cons (.v 0) (.cons (.c (.int 12)) .nil))))) (.cons (.call 10 (.cons (.v 0) (.cons (.c (.int 6)) .nil))) .nil)))
  (.cons (.ite (.e (.cmp .Lt (.v 3) (.c (.int 2)))) (.cons (.ret (.call 12 (.cons (.v 0) (.cons (.v 1) (.cons (.v 2) .nil)))))
    .nil) .nil)
  (.cons (.asg (.nm 4) (.call 10 (.cons (.v 0) (.cons (.v 1) .nil))))
  (.cons (.ite (.e (.cmp .Eq (.v 3) (.c (.int 2)))) (.cons (.ret (.bls .tuple (.cmp (.ife (.e (.cmp .Gt (.call 10 (.cons (.v 0) (.cons (.c (.int 4)) .nil))) (.c (.int 0)))) (.v 4) (.call 10 (.cons (.v 0) (.cons (.v 1) .nil)))) (.nm 11) [11] (.rng (.cons (.v 2) .nil)) (.e (.c (.bl true))))))
    .nil) .nil)
  (.cons (.ite (.e (.cmp .Eq (.v 3) (.c (.int 3)))) (.cons (.par [5, 6] (.cons (.call 10 (.cons (.v 0) (.cons (.v 2) .nil))) (.cons (.bin .Mod (.blt .int (.cons (.bin .Add (.bin .Add (.v 4) (.c (.int 1))) (.call 10 (.cons (.v 0) (.cons (.bin .Sub (.v 1) (.c (.int 1))) .nil)))) .nil)) (.v 1)) .nil)))
    (.cons (.ret (.bin .Add (.bin .Add (.bin .Mult (.tup (.cons (.v 4) .nil)) (.v 5)) (.tup (.cons (.v 6) .nil))) (.bin .Mult (.tup (.cons (.v 4) .nil)) (.bin .Sub (.bin .Sub (.v 2) (.c (.int 1))) (.v 5)))))
    .nil)) .nil)
  (.cons (.par [7, 8] (.cons (.nw (.cmp (.call 12 (.cons (.v 0) (.cons (.v 1) (.cons (.bin .Add (.c (.int 1)) (.call 10 (.cons (.v 0) (.cons (.c (.int 5)) .nil)))) .nil)))) (.nm 11) [11] (.rng (.cons (.bin .Add (.c (.int 2)) (.call 10 (.cons (.v 0) (.cons (.c (.int 2)) .nil)))) .nil)) (.e (.c (.bl true))))) (.cons (.tup .nil) .nil)))
  (.cons (.for (.nm 9) (.rng (.cons (.bin .Add (.c (.int 4)) (.call 10 (.cons (.v 0) (.cons (.c (.int 9)) .nil)))) .nil)) (.cons (.asg (.nm 10) (.call 11 (.cons (.v 0) (.cons (.v 7) .nil))))
    (.cons (.ite (.e (.cmp .LtE (.bin .Add (.blt .len (.cons (.v 8) .nil)) (.blt .len (.cons (.v 10) .nil))) (.c (.int 22)))) (.cons (.asg (.nm 8) (.bin .Add (.v 8) (.v 10)))
      .nil) .nil)
    .nil)))
  (.cons (.ret (.ife (.e (.cmp .Eq (.bin .Mod (.blt .int (.cons (.blt .len (.cons (.v 8) .nil)) .nil)) (.c (.int 2))) (.c (.int 1)))) (.v 8) (.bin .Add (.v 8) (.tup (.cons (.call 10 (.cons (.v 0) (.cons (.v 1) .nil))) .nil)))))
  .nil))))))))
theorem w__law_odd_word (G : Glb mg)  (hr : Room 2 (A.deeper (envOfC "_law_odd_word" (defScope s__law_odd_word) s.heap.objs.size f cdv))) (hgd : (A.deeper (envOfC "_law_odd_word" (defScope s__law_odd_word) s.heap.objs.size f cdv)).guards = some []) (tk : Takes (cxOf (L2.CX P w) P w K mg base N__law_odd_word "_law_odd_word" (defScope s__law_odd_word) f cdv A outer s H E) (lW K B t c.xm)) (F__law_draw : Cal P w K mg base t c.fn 10 1 "_law_draw" ["bag", "below"]) (F__law_word : Cal P w K mg base t c.fn 12 2 "_law_word" ["bag", "q", "n"]) (F__law_pick : Cal P w K mg base t c.fn 11 2 "_law_pick" ["bag", "some"]) :
    PSs (cxOf (L2.CX P w) P w K mg base N__law_odd_word "_law_odd_word" (defScope s__law_odd_word) f cdv A outer s H E) (defBody s__law_odd_word) (lS K B (wSs b__law_odd_word c)) := by
  have hu := hu_room hr
  have nd := sc__law_odd_word.nd
  exact (s_cons (s_par (ps := [(2, ("n" : Str)), (3, ("kind" : Str))]) rfl nd (par_ok (by rfl)) (r_cons (r_bin o_add (r_c pe_int fun _ => .int) (r_bin o_mul (r_c pe_int fun _ => .int) (q_call F__law_draw hr (by decide) hgd rfl tk (r_cons (r_v (i := 0) (pe_var rfl (.inr (.inl rfl)))) (r_cons (r_c pe_int fun _ => .int) r_nil rfl) rfl)))) (r_cons (q_call F__law_draw hr (by decide) hgd rfl tk (r_cons (r_v (i := 0) (pe_var rfl (.inr (.inl rfl)))) (r_cons (r_c pe_int fun _ => .int) r_nil rfl) rfl)) r_nil rfl) rfl) (by decide) rfl rfl)
  (s_cons (s_ite (t_cmp hu (r_v (i := 3) (pe_var rfl (.inl rfl))) (r_c pe_int fun _ => .int) rfl) (s_cons (s_ret (q_call F__law_word hr (by decide) hgd rfl tk (r_cons (r_v (i := 0) (pe_var rfl (.inr (.inl rfl)))) (r_cons (r_v (i := 1) (pe_var rfl (.inr (.inl rfl)))) (r_cons (r_v (i := 2) (pe_var rfl (.inl rfl))) r_nil rfl) rfl) rfl)))
    s_nil) s_nil)
  (s_cons (s_asg (q_call F__law_draw hr (by decide) hgd rfl tk (r_cons (r_v (i := 0) (pe_var rfl (.inr (.inl rfl)))) (r_cons (r_v (i := 1) (pe_var rfl (.inr (.inl rfl)))) r_nil rfl) rfl)) (g_nm nd rfl (.inr rfl) (.inl rfl)) rfl rfl rfl)
  (s_cons (s_ite (t_cmp hu (r_v (i := 3) (pe_var rfl (.inl rfl))) (r_c pe_int fun _ => .int) rfl) (s_cons (s_ret (q_tuples rfl G.b_tuple (r_up (r_lc (own := [("k", 11)]) rfl nd (i_rng1 rfl G.b_range (r_v (i := 2) (pe_var rfl (.inl rfl))) rfl) (blk_ok (by rfl)) (fun _ _ _ _ _ => (g_nm nd rfl (.inl rfl) (.inr rfl))) (fun _ _ _ _ _ => ifs_nil) (fun _ _ _ _ _ => (r_ife (t_cmp hu (q_call F__law_draw hr (by decide) hgd rfl takesN (r_cons (r_v (i := 0) (pe_var rfl (.inr (.inl rfl)))) (r_cons (r_c pe_int fun _ => .int) r_nil rfl) rfl)) (r_c pe_int fun _ => .int) rfl) (r_v (i := 4) (pe_var rfl (.inr (.inl rfl)))) (q_call F__law_draw hr (by decide) hgd rfl takesN (r_cons (r_v (i := 0) (pe_var rfl (.inr (.inl rfl)))) (r_cons (r_v (i := 1) (pe_var rfl (.inr (.inl rfl)))) r_nil rfl) rfl)))) (fun _ => rfl) (by decide))) rfl))
    s_nil) s_nil)
  (s_cons (s_ite (t_cmp hu (r_v (i := 3) (pe_var rfl (.inl rfl))) (r_c pe_int fun _ => .int) rfl) (s_cons (s_par (ps := [(5, ("at" : Str)), (6, ("seldom" : Str))]) rfl nd (par_ok (by rfl)) (r_cons (q_call F__law_draw hr (by decide) hgd rfl tk (r_cons (r_v (i := 0) (pe_var rfl (.inr (.inl rfl)))) (r_cons (r_v (i := 2) (pe_var rfl (.inl rfl))) r_nil rfl) rfl)) (r_cons (r_bin o_mod (q_int rfl G.b_int (r_cons (r_bin o_add (r_bin o_add (r_v (i := 4) (pe_var rfl (.inr (.inl rfl)))) (r_c pe_int fun _ => .int)) (q_call F__law_draw hr (by decide) hgd rfl tk (r_cons (r_v (i := 0) (pe_var rfl (.inr (.inl rfl)))) (r_cons (r_bin o_sub (r_v (i := 1) (pe_var rfl (.inr (.inl rfl)))) (r_c pe_int fun _ => .int)) r_nil rfl) rfl))) r_nil rfl) rfl) (r_v (i := 1) (pe_var rfl (.inr (.inl rfl))))) r_nil rfl) rfl) (by decide) rfl rfl)
    (s_cons (s_ret (r_bin o_add (r_bin o_add (r_bin o_mul (r_tup (r_cons (r_v (i := 4) (pe_var rfl (.inr (.inl rfl)))) r_nil rfl)) (r_v (i := 5) (pe_var rfl (.inl rfl)))) (r_tup (r_cons (r_v (i := 6) (pe_var rfl (.inl rfl))) r_nil rfl))) (r_bin o_mul (r_tup (r_cons (r_v (i := 4) (pe_var rfl (.inr (.inl rfl)))) r_nil rfl)) (r_bin o_sub (r_bin o_sub (r_v (i := 2) (pe_var rfl (.inl rfl))) (r_c pe_int fun _ => .int)) (r_v (i := 5) (pe_var rfl (.inl rfl)))))))
    s_nil)) s_nil)
  (s_cons (s_par (ps := [(7, ("parts" : Str)), (8, ("found" : Str))]) rfl nd (par_ok (by rfl)) (r_cons (r_nw (r_lc (own := [("k", 11)]) rfl nd (i_rng1 rfl G.b_range (r_bin o_add (r_c pe_int fun _ => .int) (q_call F__law_draw hr (by decide) hgd rfl tk (r_cons (r_v (i := 0) (pe_var rfl (.inr (.inl rfl)))) (r_cons (r_c pe_int fun _ => .int) r_nil rfl) rfl))) rfl) (blk_ok (by rfl)) (fun _ _ _ _ _ => (g_nm nd rfl (.inl rfl) (.inr rfl))) (fun _ _ _ _ _ => ifs_nil) (fun _ _ _ _ _ => (q_call F__law_word hr (by decide) hgd rfl takesN (r_cons (r_v (i := 0) (pe_var rfl (.inr (.inl rfl)))) (r_cons (r_v (i := 1) (pe_var rfl (.inr (.inl rfl)))) (r_cons (r_bin o_add (r_c pe_int fun _ => .int) (q_call F__law_draw hr (by decide) hgd rfl takesN (r_cons (r_v (i := 0) (pe_var rfl (.inr (.inl rfl)))) (r_cons (r_c pe_int fun _ => .int) r_nil rfl) rfl))) r_nil rfl) rfl) rfl))) (fun _ => rfl) (by decide))) (r_cons (r_tup r_nil) r_nil rfl) rfl) (by decide) rfl rfl)
  (s_cons (s_for cx_po rfl (i_rng1 rfl G.b_range (r_bin o_add (r_c pe_int fun _ => .int) (q_call F__law_draw hr (by decide) hgd rfl tk (r_cons (r_v (i := 0) (pe_var rfl (.inr (.inl rfl)))) (r_cons (r_c pe_int fun _ => .int) r_nil rfl) rfl))) rfl) (g_nm nd rfl (.inl rfl) (.inl rfl)) (s_cons (s_asg (q_call F__law_pick hr (by decide) hgd rfl tk (r_cons (r_v (i := 0) (pe_var rfl (.inr (.inl rfl)))) (r_cons (r_v (i := 7) (pe_var rfl (.inl rfl))) r_nil rfl) rfl)) (g_nm nd rfl (.inl rfl) (.inl rfl)) rfl rfl rfl)
    (s_cons (s_ite (t_cmp hu (r_bin o_add (q_len rfl G.b_len (r_cons (r_v (i := 8) (pe_var rfl (.inl rfl))) r_nil rfl) rfl) (q_len rfl G.b_len (r_cons (r_v (i := 10) (pe_var rfl (.inl rfl))) r_nil rfl) rfl)) (r_c pe_int fun _ => .int) rfl) (s_cons (s_asg (r_bin o_add (r_v (i := 8) (pe_var rfl (.inl rfl))) (r_v (i := 10) (pe_var rfl (.inl rfl)))) (g_nm nd rfl (.inl rfl) (.inl rfl)) rfl rfl rfl)
      s_nil) s_nil)
    s_nil)) fun _ => rfl)
  (s_cons (s_ret (r_ife (t_cmp hu (r_bin o_mod (q_int rfl G.b_int (r_cons (q_len rfl G.b_len (r_cons (r_v (i := 8) (pe_var rfl (.inl rfl))) r_nil rfl) rfl) r_nil rfl) rfl) (r_c pe_int fun _ => .int)) (r_c pe_int fun _ => .int) rfl) (r_v (i := 8) (pe_var rfl (.inl rfl))) (r_bin o_add (r_v (i := 8) (pe_var rfl (.inl rfl))) (r_tup (r_cons (q_call F__law_draw hr (by decide) hgd rfl tk (r_cons (r_v (i := 0) (pe_var rfl (.inr (.inl rfl)))) (r_cons (r_v (i := 1) (pe_var rfl (.inr (.inl rfl)))) r_nil rfl) rfl)) r_nil rfl)))))
  s_nil))))))))
abbrev s__law_bad_word : Stmt := topS 27
abbrev N__law_bad_word : List Str := ["bag", "q", "kind", "n", "word", "most", "times"]
theorem sc__law_bad_word : FnScope N__law_bad_word ["bag", "q"] (defScope s__law_bad_word) := ⟨rfl, rfl, rfl, by decide +kernel, rfl, by decide +kernel, by decide +kernel⟩
abbrev b__law_bad_word : Ss := (.cons (.par [2, 3] (.cons (.call 10 (.cons (.v 0) (.cons (.c (.int 4)) .nil))) (.cons (.bin .Add (.c (.int 1)) (.call 10 (.cons (.v 0) (.cons (.c (.int 8)) .nil)))) .nil)))
  (.cons (.ite (.e (.cmp .Eq (.v 2) (.c (.int 0)))) (.cons (.ret (.call 12 (.cons (.v 0) (.cons (.v 1) (.cons (.bin .Add (.c (.int 2)) (.bin .Mult (.c (.int 2)) (.call 10 (.cons (.v 0) (.cons (.c (.int 12)) .nil))))) .nil)))))
    .nil) .nil)
  (.cons (.ite (.e (.cmp .Eq (.v 2) (.c (.int 1)))) (.cons (.ret (.call 11 (.cons (.v 0) (.cons (.nw (.lst (.cons (.tup .nil) (.cons (.tup (.cons (.c (.int 0)) (.cons (.c (.int 0)) (.cons (.c (.int 0)) .nil)))) (.cons (.bin .Mult (.tup (.cons (.c (.int 1)) .nil)) (.c (.int 23))) (.cons (.bin .Mult (.tup (.cons (.c (.int 0)) (.cons (.c (.int 1)) .nil))) (.c (.int 12))) (.cons (.bin .Mult (.tup (.cons (.bin .Sub (.v 1) (.c (.int 1))) .nil)) (.c (.int 9))) .nil))))))) .nil))))
    .nil) .nil)
  (.cons (.par [4, 5] (.cons (.call 12 (.cons (.v 0) (.cons (.v 1) (.cons (.v 3) .nil)))) (.cons (.bin .FloorDiv (.c (.int 24)) (.v 3)) .nil)))
  (.cons (.asg (.nm 6) (.bin .Add (.c (.int 2)) (.call 10 (.cons (.v 0) (.cons (.bin .Sub (.v 5) (.c (.int 1))) .nil)))))
  (.cons (.ite (.and (.e (.cmp .Eq (.v 2) (.c (.int 2)))) (.e (.cmp .Eq (.bin .Mod (.blt .int (.cons (.v 3) .nil)) (.c (.int 2))) (.c (.int 1))))) (.cons (.asg (.nm 6) (.call 11 (.cons (.v 0) (.cons (.nw (.lst (.cons (.c (.int 3)) (.cons (.c (.int 3)) (.cons (.c (.int 5)) (.cons (.c (.int 7)) (.cons (.c (.int 23)) (.cons (.c (.int 21)) .nil)))))))) .nil))))
    (.cons (.asg (.nm 6) (.ife (.e (.cmp .LtE (.v 6) (.v 5))) (.v 6) (.c (.int 3))))
    .nil)) .nil)
  (.cons (.ret (.bin .Mult (.v 4) (.v 6)))
  .nil)))))))
theorem w__law_bad_word (G : Glb mg)  (hr : Room 2 (A.deeper (envOfC "_law_bad_word" (defScope s__law_bad_word) s.heap.objs.size f cdv))) (hgd : (A.deeper (envOfC "_law_bad_word" (defScope s__law_bad_word) s.heap.objs.size f cdv)).guards = some []) (tk : Takes (cxOf (L2.CX P w) P w K mg base N__law_bad_word "_law_bad_word" (defScope s__law_bad_word) f cdv A outer s H E) (lW K B t c.xm)) (F__law_draw : Cal P w K mg base t c.fn 10 1 "_law_draw" ["bag", "below"]) (F__law_word : Cal P w K mg base t c.fn 12 2 "_law_word" ["bag", "q", "n"]) (F__law_pick : Cal P w K mg base t c.fn 11 2 "_law_pick" ["bag", "some"]) :
    PSs (cxOf (L2.CX P w) P w K mg base N__law_bad_word "_law_bad_word" (defScope s__law_bad_word) f cdv A outer s H E) (defBody s__law_bad_word) (lS K B (wSs b__law_bad_word c)) := by
  have hu := hu_room hr
  have nd := sc__law_bad_word.nd
  exact (s_cons (s_par (ps := [(2, ("kind" : Str)), (3, ("n" : Str))]) rfl nd (par_ok (by rfl)) (r_cons (q_call F__law_draw hr (by decide) hgd rfl tk (r_cons (r_v (i := 0) (pe_var rfl (.inl rfl))) (r_cons (r_c pe_int fun _ => .int) r_nil rfl) rfl)) (r_cons (r_bin o_add (r_c pe_int fun _ => .int) (q_call F__law_draw hr (by decide) hgd rfl tk (r_cons (r_v (i := 0) (pe_var rfl (.inl rfl))) (r_cons (r_c pe_int fun _ => .int) r_nil rfl) rfl))) r_nil rfl) rfl) (by decide) rfl rfl)
  (s_cons (s_ite (t_cmp hu (r_v (i := 2) (pe_var rfl (.inl rfl))) (r_c pe_int fun _ => .int) rfl) (s_cons (s_ret (q_call F__law_word hr (by decide) hgd rfl tk (r_cons (r_v (i := 0) (pe_var rfl (.inl rfl))) (r_cons (r_v (i := 1) (pe_var rfl (.inl rfl))) (r_cons (r_bin o_add (r_c pe_int fun _ => .int) (r_bin o_mul (r_c pe_int fun _ => .int) (q_call F__law_draw hr (by decide) hgd rfl tk (r_cons (r_v (i := 0) (pe_var rfl (.inl rfl))) (r_cons (r_c pe_int fun _ => .int) r_nil rfl) rfl)))) r_nil rfl) rfl) rfl)))
    s_nil) s_nil)
  (s_cons (s_ite (t_cmp hu (r_v (i := 2) (pe_var rfl (.inl rfl))) (r_c pe_int fun _ => .int) rfl) (s_cons (s_ret (q_call F__law_pick hr (by decide) hgd rfl tk (r_cons (r_v (i := 0) (pe_var rfl (.inl rfl))) (r_cons (r_nw (r_lst (r_cons (r_tup r_nil) (r_cons (r_tup (r_cons (r_c pe_int fun _ => .int) (r_cons (r_c pe_int fun _ => .int) (r_cons (r_c pe_int fun _ => .int) r_nil rfl) rfl) rfl)) (r_cons (r_bin o_mul (r_tup (r_cons (r_c pe_int fun _ => .int) r_nil rfl)) (r_c pe_int fun _ => .int)) (r_cons (r_bin o_mul (r_tup (r_cons (r_c pe_int fun _ => .int) (r_cons (r_c pe_int fun _ => .int) r_nil rfl) rfl)) (r_c pe_int fun _ => .int)) (r_cons (r_bin o_mul (r_tup (r_cons (r_bin o_sub (r_v (i := 1) (pe_var rfl (.inl rfl))) (r_c pe_int fun _ => .int)) r_nil rfl)) (r_c pe_int fun _ => .int)) r_nil rfl) rfl) rfl) rfl) rfl))) r_nil rfl) rfl)))
    s_nil) s_nil)
  (s_cons (s_par (ps := [(4, ("word" : Str)), (5, ("most" : Str))]) rfl nd (par_ok (by rfl)) (r_cons (q_call F__law_word hr (by decide) hgd rfl tk (r_cons (r_v (i := 0) (pe_var rfl (.inl rfl))) (r_cons (r_v (i := 1) (pe_var rfl (.inl rfl))) (r_cons (r_v (i := 3) (pe_var rfl (.inl rfl))) r_nil rfl) rfl) rfl)) (r_cons (r_bin o_fdiv (r_c pe_int fun _ => .int) (r_v (i := 3) (pe_var rfl (.inl rfl)))) r_nil rfl) rfl) (by decide) rfl rfl)
  (s_cons (s_asg (r_bin o_add (r_c pe_int fun _ => .int) (q_call F__law_draw hr (by decide) hgd rfl tk (r_cons (r_v (i := 0) (pe_var rfl (.inl rfl))) (r_cons (r_bin o_sub (r_v (i := 5) (pe_var rfl (.inl rfl))) (r_c pe_int fun _ => .int)) r_nil rfl) rfl))) (g_nm nd rfl (.inl rfl) (.inl rfl)) rfl rfl rfl)
  (s_cons (s_ite (PW.pt (w_and (t_cmp hu (r_v (i := 2) (pe_var rfl (.inl rfl))) (r_c pe_int fun _ => .int) rfl) (w_and1 (t_cmp hu (r_bin o_mod (q_int rfl G.b_int (r_cons (r_v (i := 3) (pe_var rfl (.inl rfl))) r_nil rfl) rfl) (r_c pe_int fun _ => .int)) (r_c pe_int fun _ => .int) rfl)))) (s_cons (s_asg (q_call F__law_pick hr (by decide) hgd rfl tk (r_cons (r_v (i := 0) (pe_var rfl (.inl rfl))) (r_cons (r_nw (r_lst (r_cons (r_c pe_int fun _ => .int) (r_cons (r_c pe_int fun _ => .int) (r_cons (r_c pe_int fun _ => .int) (r_cons (r_c pe_int fun _ => .int) (r_cons (r_c pe_int fun _ => .int) (r_cons (r_c pe_int fun _ => .int) r_nil rfl) rfl) rfl) rfl) rfl) rfl))) r_nil rfl) rfl)) (g_nm nd rfl (.inl rfl) (.inl rfl)) rfl rfl rfl)
    (s_cons (s_asg (r_ife (t_cmp hu (r_v (i := 6) (pe_var rfl (.inl rfl))) (r_v (i := 5) (pe_var rfl (.inl rfl))) rfl) (r_v (i := 6) (pe_var rfl (.inl rfl))) (r_c pe_int fun _ => .int)) (g_nm nd rfl (.inl rfl) (.inl rfl)) rfl rfl rfl)
    s_nil)) s_nil)
  (s_cons (s_ret (r_bin o_mul (r_v (i := 4) (pe_var rfl (.inl rfl))) (r_v (i := 6) (pe_var rfl (.inl rfl)))))
  s_nil)))))))
abbrev s__law_is_plain : Stmt := topS 28
abbrev N__law_is_plain : List Str := ["word", "k"]
theorem sc__law_is_plain : FnScope N__law_is_plain ["word"] (defScope s__law_is_plain) := ⟨rfl, rfl, rfl, by decide +kernel, rfl, by decide +kernel, by decide +kernel⟩
abbrev b__law_is_plain : Ss := (.cons (.ret (.and (.cmp .NotEq (.v 0) (.tup .nil)) (.bls .all (.cmp (.cmp .NotEq (.bin .Add (.sl (.v 0) (.so (.v 1)) .no) (.sl (.v 0) .no (.so (.v 1)))) (.v 0)) (.nm 1) [1] (.rng (.cons (.c (.int 1)) (.cons (.blt .len (.cons (.v 0) .nil)) .nil))) (.e (.c (.bl true)))))))
  .nil)
theorem w__law_is_plain (G : Glb mg)  (hr : Room 0 (A.deeper (envOfC "_law_is_plain" (defScope s__law_is_plain) s.heap.objs.size f cdv))) (hgd : (A.deeper (envOfC "_law_is_plain" (defScope s__law_is_plain) s.heap.objs.size f cdv)).guards = some []) (tk : Takes (cxOf (L2.CX P w) P w K mg base N__law_is_plain "_law_is_plain" (defScope s__law_is_plain) f cdv A outer s H E) (lW K B t c.xm))  :
    PSs (cxOf (L2.CX P w) P w K mg base N__law_is_plain "_law_is_plain" (defScope s__law_is_plain) f cdv A outer s H E) (defBody s__law_is_plain) (lS K B (wSs b__law_is_plain c)) := by
  have hu := hu_room hr
  have nd := sc__law_is_plain.nd
  exact (s_cons (s_ret (r_and (r_cmp (o_cmp hu .NotEq) (r_v (i := 0) (pe_var rfl (.inr (.inl rfl)))) (r_tup r_nil) rfl) (pe_one (q_alls rfl rfl G.b_all (r_up (r_lc (own := [("k", 1)]) rfl nd (i_rng2 rfl G.b_range (r_c pe_int fun _ => .int) (q_len rfl G.b_len (r_cons (r_v (i := 0) (pe_var rfl (.inr (.inl rfl)))) r_nil rfl) rfl) rfl rfl) (blk_ok (by rfl)) (fun _ _ _ _ _ => (g_nm nd rfl (.inl rfl) (.inr rfl))) (fun _ _ _ _ _ => ifs_nil) (fun _ _ _ _ _ => (r_cmp (o_cmp hu .NotEq) (r_bin o_add (r_sl (r_v (i := 0) (pe_var rfl (.inr (.inl rfl)))) (r_so (r_v (i := 1) (pe_var rfl (.inl rfl)))) r_no) (r_sl (r_v (i := 0) (pe_var rfl (.inr (.inl rfl)))) r_no (r_so (r_v (i := 1) (pe_var rfl (.inl rfl)))))) (r_v (i := 0) (pe_var rfl (.inr (.inl rfl)))) rfl)) (fun _ => rfl) (by decide))) rfl))))
  s_nil)
abbrev s__law_place : Stmt := topS 29
abbrev N__law_place : List Str := ["word", "blocks", "turn", "least", "at", "joined", "start", "held", "block", "k", "letter"]
theorem sc__law_place : FnScope N__law_place ["word"] (defScope s__law_place) := ⟨rfl, rfl, rfl, by decide +kernel, rfl, by decide +kernel, by decide +kernel⟩
abbrev b__law_place : Ss := (.cons (.asg (.nm 1) (.nw (.cmp (.tup (.cons (.v 9) (.cons (.tup (.cons (.v 10) .nil)) .nil))) (.tp (.cons (.nm 9) (.cons (.nm 10) .nil))) [9, 10] (.enm (.of (.v 0))) (.e (.c (.bl true))))))
  (.cons (.for (.nm 2) (.rng (.cons (.blt .len (.cons (.v 0) .nil)) .nil)) (.cons (.ite (.e (.cmp .Eq (.blt .len (.cons (.v 1) .nil)) (.c (.int 1)))) (.cons (.ret (.idx (.idx (.v 1) (.c (.int 0))) (.c (.int 0))))
      .nil) .nil)
    (.cons (.asg (.nm 3) (.idx (.bls .min (.cmp (.tup (.cons (.blt .len (.cons (.idx (.v 8) (.c (.int 1))) .nil)) (.cons (.idx (.v 8) (.c (.int 1))) .nil))) (.nm 8) [8] (.sq (.of (.v 1))) (.e (.cmp .Eq (.bin .Mod (.blt .int (.cons (.blt .len (.cons (.idx (.v 8) (.c (.int 1))) .nil)) .nil)) (.c (.int 2))) (.c (.int 1)))))) (.c (.int 1))))
    (.cons (.asg (.nm 4) (.bin .Add (.bls .min (.cmp (.v 9) (.nm 9) [9] (.rng (.cons (.blt .len (.cons (.v 1) .nil)) .nil)) (.e (.cmp .NotEq (.idx (.idx (.v 1) (.v 9)) (.c (.int 1))) (.v 3))))) (.c (.int 1))))
    (.cons (.par [5, 6, 7] (.cons (.nw (.lst .nil)) (.cons (.c (.int 0)) (.cons (.tup .nil) .nil))))
    (.cons (.for (.nm 8) (.sq (.of (.bin .Add (.sl (.v 1) (.so (.v 4)) .no) (.sl (.v 1) .no (.so (.v 4)))))) (.cons (.ite (.e (.cmp .Eq (.v 7) (.tup .nil))) (.cons (.asg (.nm 6) (.idx (.v 8) (.c (.int 0))))
        .nil) .nil)
      (.cons (.asg (.nm 7) (.bin .Add (.v 7) (.idx (.v 8) (.c (.int 1)))))
      (.cons (.ite (.e (.cmp .NotEq (.idx (.v 8) (.c (.int 1))) (.v 3))) (.cons (.ex (.mth .app (.v 5) (.cons (.tup (.cons (.v 6) (.cons (.v 7) .nil))) .nil)))
        (.cons (.asg (.nm 7) (.tup .nil))
        .nil)) .nil)
      .nil))))
    (.cons (.asg (.nm 1) (.v 5))
    .nil)))))))
  (.cons (.ret (.idx (.idx (.v 1) (.c (.int 0))) (.c (.int 0))))
  .nil)))
theorem w__law_place (G : Glb mg)  (hr : Room 0 (A.deeper (envOfC "_law_place" (defScope s__law_place) s.heap.objs.size f cdv))) (hgd : (A.deeper (envOfC "_law_place" (defScope s__law_place) s.heap.objs.size f cdv)).guards = some []) (tk : Takes (cxOf (L2.CX P w) P w K mg base N__law_place "_law_place" (defScope s__law_place) f cdv A outer s H E) (lW K B t c.xm))  :
    PSs (cxOf (L2.CX P w) P w K mg base N__law_place "_law_place" (defScope s__law_place) f cdv A outer s H E) (defBody s__law_place) (lS K B (wSs b__law_place c)) := by
  have hu := hu_room hr
  have nd := sc__law_place.nd
  exact (s_cons (s_asg (r_nw (r_lc (own := [("k", 9), ("letter", 10)]) rfl nd (i_enm rfl G.b_enumerate (r_of (r_v (i := 0) (pe_var rfl (.inl rfl)))) rfl) (blk_ok (by rfl)) (fun _ _ _ _ _ => (g_tp rfl (gs_cons (g_nm nd rfl (.inl rfl) (.inr rfl)) (gs_cons (g_nm nd rfl (.inl rfl) (.inr rfl)) gs_nil rfl) rfl) rfl rfl)) (fun _ _ _ _ _ => ifs_nil) (fun _ _ _ _ _ => (r_tup (r_cons (r_v (i := 9) (pe_var rfl (.inl rfl))) (r_cons (r_tup (r_cons (r_v (i := 10) (pe_var rfl (.inl rfl))) r_nil rfl)) r_nil rfl) rfl))) (fun _ => rfl) (by decide))) (g_nm nd rfl (.inr rfl) (.inl rfl)) rfl rfl rfl)
  (s_cons (s_for cx_po rfl (i_rng1 rfl G.b_range (q_len rfl G.b_len (r_cons (r_v (i := 0) (pe_var rfl (.inl rfl))) r_nil rfl) rfl) rfl) (g_nm nd rfl (.inl rfl) (.inl rfl)) (s_cons (s_ite (t_cmp hu (q_len rfl G.b_len (r_cons (r_v (i := 1) (pe_var rfl (.inr (.inl rfl)))) r_nil rfl) rfl) (r_c pe_int fun _ => .int) rfl) (s_cons (s_ret (r_idx hu (r_idx hu (r_v (i := 1) (pe_var rfl (.inr (.inl rfl)))) (r_c pe_int fun _ => .int) fun _ _ => rfl) (r_c pe_int fun _ => .int) fun _ _ => rfl))
      s_nil) s_nil)
    (s_cons (s_asg (r_idx hu (q_mins rfl hu rfl G.b_min (r_up (r_lc (own := [("block", 8)]) rfl nd (i_sq (r_of (r_v (i := 1) (pe_var rfl (.inr (.inl rfl)))))) (blk_ok (by rfl)) (fun _ _ _ _ _ => (g_nm nd rfl (.inl rfl) (.inr rfl))) (fun _ _ _ _ _ => (pts_one (t_cmp hu (r_bin o_mod (q_int rfl G.b_int (r_cons (q_len rfl G.b_len (r_cons (r_idx hu (r_v (i := 8) (pe_var rfl (.inl rfl))) (r_c pe_int fun _ => .int) fun _ _ => rfl) r_nil rfl) rfl) r_nil rfl) rfl) (r_c pe_int fun _ => .int)) (r_c pe_int fun _ => .int) rfl))) (fun _ _ _ _ _ => (r_tup (r_cons (q_len rfl G.b_len (r_cons (r_idx hu (r_v (i := 8) (pe_var rfl (.inl rfl))) (r_c pe_int fun _ => .int) fun _ _ => rfl) r_nil rfl) rfl) (r_cons (r_idx hu (r_v (i := 8) (pe_var rfl (.inl rfl))) (r_c pe_int fun _ => .int) fun _ _ => rfl) r_nil rfl) rfl))) (fun _ => rfl) (by decide))) rfl) (r_c pe_int fun _ => .int) fun _ _ => rfl) (g_nm nd rfl (.inr rfl) (.inl rfl)) rfl rfl rfl)
    (s_cons (s_asg (r_bin o_add (q_mins rfl hu rfl G.b_min (r_up (r_lc (own := [("k", 9)]) rfl nd (i_rng1 rfl G.b_range (q_len rfl G.b_len (r_cons (r_v (i := 1) (pe_var rfl (.inr (.inl rfl)))) r_nil rfl) rfl) rfl) (blk_ok (by rfl)) (fun _ _ _ _ _ => (g_nm nd rfl (.inl rfl) (.inr rfl))) (fun _ _ _ _ _ => (pts_one (t_cmp hu (r_idx hu (r_idx hu (r_v (i := 1) (pe_var rfl (.inr (.inl rfl)))) (r_v (i := 9) (pe_var rfl (.inl rfl))) fun _ _ => rfl) (r_c pe_int fun _ => .int) fun _ _ => rfl) (r_v (i := 3) (pe_var rfl (.inr (.inl rfl)))) rfl))) (fun _ _ _ _ _ => (r_v (i := 9) (pe_var rfl (.inl rfl)))) (fun _ => rfl) (by decide))) rfl) (r_c pe_int fun _ => .int)) (g_nm nd rfl (.inl rfl) (.inl rfl)) rfl rfl rfl)
    (s_cons (s_par (ps := [(5, ("joined" : Str)), (6, ("start" : Str)), (7, ("held" : Str))]) rfl nd (par_ok (by rfl)) (r_cons (r_nw (r_lst r_nil)) (r_cons (r_c pe_int fun _ => .int) (r_cons (r_tup r_nil) r_nil rfl) rfl) rfl) (by decide) rfl rfl)
    (s_cons (s_for cx_po rfl (i_sq (r_of (r_bin o_add (r_sl (r_v (i := 1) (pe_var rfl (.inr (.inl rfl)))) (r_so (r_v (i := 4) (pe_var rfl (.inl rfl)))) r_no) (r_sl (r_v (i := 1) (pe_var rfl (.inr (.inl rfl)))) r_no (r_so (r_v (i := 4) (pe_var rfl (.inl rfl)))))))) (g_nm nd rfl (.inl rfl) (.inl rfl)) (s_cons (s_ite (t_cmp hu (r_v (i := 7) (pe_var rfl (.inl rfl))) (r_tup r_nil) rfl) (s_cons (s_asg (r_idx hu (r_v (i := 8) (pe_var rfl (.inl rfl))) (r_c pe_int fun _ => .int) fun _ _ => rfl) (g_nm nd rfl (.inl rfl) (.inl rfl)) rfl rfl rfl)
        s_nil) s_nil)
      (s_cons (s_asg (r_bin o_add (r_v (i := 7) (pe_var rfl (.inl rfl))) (r_idx hu (r_v (i := 8) (pe_var rfl (.inl rfl))) (r_c pe_int fun _ => .int) fun _ _ => rfl)) (g_nm nd rfl (.inl rfl) (.inl rfl)) rfl rfl rfl)
      (s_cons (s_ite (t_cmp hu (r_idx hu (r_v (i := 8) (pe_var rfl (.inl rfl))) (r_c pe_int fun _ => .int) fun _ _ => rfl) (r_v (i := 3) (pe_var rfl (.inr (.inl rfl)))) rfl) (s_cons (s_ex (q_app (r_v (i := 5) (pe_var rfl (.inl rfl))) (r_cons (r_tup (r_cons (r_v (i := 6) (pe_var rfl (.inl rfl))) (r_cons (r_v (i := 7) (pe_var rfl (.inl rfl))) r_nil rfl) rfl)) r_nil rfl) rfl rfl rfl) rfl)
        (s_cons (s_asg (r_tup r_nil) (g_nm nd rfl (.inl rfl) (.inl rfl)) rfl rfl rfl)
        s_nil)) s_nil)
      s_nil))) fun _ => rfl)
    (s_cons (s_asg (r_v (i := 5) (pe_var rfl (.inl rfl))) (g_nm nd rfl (.inr rfl) (.inl rfl)) rfl rfl rfl)
    s_nil)))))) fun _ => rfl)
  (s_cons (s_ret (r_idx hu (r_idx hu (r_v (i := 1) (pe_var rfl (.inr (.inl rfl)))) (r_c pe_int fun _ => .int) fun _ _ => rfl) (r_c pe_int fun _ => .int) fun _ _ => rfl))
  s_nil)))
abbrev s__law_told : Stmt := topS 30
abbrev N__law_told : List Str := ["which", "q", "word", "is_named", "error"]
theorem sc__law_told : FnScope N__law_told ["which", "q", "word", "is_named"] (defScope s__law_told) := ⟨rfl, rfl, rfl, by decide +kernel, rfl, by decide +kernel, by decide +kernel⟩
abbrev b__law_told : Ss := (.cons (.try (.cons (.ite (.e (.cmp .Eq (.v 0) (.c (.int 0)))) (.cons (.ret (.ife (.e (.v 3)) (.call 7 (.cons (.v 1) (.cons (.v 2) .nil))) (.call 7 (.cons (.v 1) (.cons (.v 2) .nil)))))
      .nil) .nil)
    (.cons (.ite (.e (.cmp .Eq (.v 0) (.c (.int 1)))) (.cons (.ret (.ife (.e (.v 3)) (.call 6 (.cons (.v 1) (.cons (.v 2) .nil))) (.call 6 (.cons (.v 1) (.cons (.v 2) .nil)))))
      .nil) .nil)
    (.cons (.ret (.ife (.e (.v 3)) (.call 8 (.cons (.v 1) (.cons (.v 2) .nil))) (.call 8 (.cons (.v 1) (.cons (.v 2) .nil)))))
    .nil))) (.cons [1] (some 4) (.cons (.ret (.nw (.lst (.cons (.c (.str "unfit")) (.cons (.xis 4 [5, 3, 6, 4, 2]) (.cons (.xis 4 [0]) .nil))))))
    .nil) (.cons [0] none (.cons (.ret (.nw (.lst (.cons (.c (.str "other")) .nil))))
    .nil) .nil)))
  .nil)
theorem w__law_told (G : Glb mg) (XFh : XF K mg t) (hsub : c.sub = subNm) (hp : t.ps = [0, 1, 2, 3, 4, 5, 6])  (hr : Room 3 (A.deeper (envOfC "_law_told" (defScope s__law_told) s.heap.objs.size f cdv))) (hgd : (A.deeper (envOfC "_law_told" (defScope s__law_told) s.heap.objs.size f cdv)).guards = some []) (tk : Takes (cxOf (L2.CX P w) P w K mg base N__law_told "_law_told" (defScope s__law_told) f cdv A outer s H E) (lW K B t c.xm)) (F_away_turn : Cal P w K mg base t c.fn 7 2 "away_turn" ["q", "word"]) (F_away_place : Cal P w K mg base t c.fn 6 3 "away_place" ["q", "word"]) (F_is_away_word : Cal P w K mg base t c.fn 8 3 "is_away_word" ["q", "word"]) :
    PSs (cxOf (L2.CX P w) P w K mg base N__law_told "_law_told" (defScope s__law_told) f cdv A outer s H E) (defBody s__law_told) (lS K B (wSs b__law_told c)) := by
  have hu := hu_room hr
  have nd := sc__law_told.nd
  exact (s_cons (s_try nd rfl rfl XFh hsub tk (fun B xm pn xe tk1 po1 => (s_cons (s_ite (t_cmp hu (r_v (i := 0) (pe_var rfl (.inl rfl))) (r_c pe_int fun _ => .int) rfl) (s_cons (s_ret (r_ife (t_val (r_v (i := 3) (pe_var rfl (.inl rfl))) rfl) (q_callK F_away_turn hr (by decide) hgd rfl tk1 (kw_cons (r_v (i := 1) (pe_var rfl (.inl rfl))) (kw_cons (r_v (i := 2) (pe_var rfl (.inl rfl))) kw_nil))) (q_call F_away_turn hr (by decide) hgd rfl tk1 (r_cons (r_v (i := 1) (pe_var rfl (.inl rfl))) (r_cons (r_v (i := 2) (pe_var rfl (.inl rfl))) r_nil rfl) rfl))))
      s_nil) s_nil)
    (s_cons (s_ite (t_cmp hu (r_v (i := 0) (pe_var rfl (.inl rfl))) (r_c pe_int fun _ => .int) rfl) (s_cons (s_ret (r_ife (t_val (r_v (i := 3) (pe_var rfl (.inl rfl))) rfl) (q_callK F_away_place hr (by decide) hgd rfl tk1 (kw_cons (r_v (i := 1) (pe_var rfl (.inl rfl))) (kw_cons (r_v (i := 2) (pe_var rfl (.inl rfl))) kw_nil))) (q_call F_away_place hr (by decide) hgd rfl tk1 (r_cons (r_v (i := 1) (pe_var rfl (.inl rfl))) (r_cons (r_v (i := 2) (pe_var rfl (.inl rfl))) r_nil rfl) rfl))))
      s_nil) s_nil)
    (s_cons (s_ret (r_ife (t_val (r_v (i := 3) (pe_var rfl (.inl rfl))) rfl) (q_callK F_is_away_word hr (by decide) hgd rfl tk1 (kw_cons (r_v (i := 1) (pe_var rfl (.inl rfl))) (kw_cons (r_v (i := 2) (pe_var rfl (.inl rfl))) kw_nil))) (q_call F_is_away_word hr (by decide) hgd rfl tk1 (r_cons (r_v (i := 1) (pe_var rfl (.inl rfl))) (r_cons (r_v (i := 2) (pe_var rfl (.inl rfl))) r_nil rfl) rfl))))
    s_nil)))) (.cons1 (t_cl1 XFh (by rw [hp]; decide) rfl rfl (by decide)) (by decide) (by rw [hp]; decide) rfl rfl (fun a oe cls d pn B e hz hf hrr xr => (s_cons (s_ret (r_nw (r_lst (r_cons (r_c pe_str fun _ => .str) (r_cons (x_isT XFh hsub (cs := [5, 3, 6, 4, 2]) (by rw [hp]; decide) (ns_cons XFh (by rw [hp]; decide) rfl rfl (by decide) (ns_cons XFh (by rw [hp]; decide) rfl rfl (by decide) (ns_cons XFh (by rw [hp]; decide) rfl rfl (by decide) (ns_cons XFh (by rw [hp]; decide) rfl rfl (by decide) (ns_cons XFh (by rw [hp]; decide) rfl rfl (by decide) n_nil))))) (by decide) hz hf hrr xr rfl rfl (.inl rfl) (by decide) (by decide) rfl G.b_isinstance) (r_cons (x_is1 XFh hsub (by rw [hp]; decide) rfl hz hf hrr xr rfl rfl (.inl rfl) (by decide) (by decide) rfl (by decide) rfl G.b_isinstance) r_nil rfl) rfl) rfl))))
    s_nil)) (.cons0 (t_cl1 XFh (by rw [hp]; decide) rfl rfl (by decide)) (by decide) (by rw [hp]; decide) (fun a oe cls d pn B hz hf => (s_cons (s_ret (r_nw (r_lst (r_cons (r_c pe_str fun _ => .str) r_nil rfl))))
    s_nil)) .nil)))
  s_nil)
abbrev s__law_due : Stmt := topS 31
abbrev N__law_due : List Str := ["word", "place"]
theorem sc__law_due : FnScope N__law_due ["word"] (defScope s__law_due) := ⟨rfl, rfl, rfl, by decide +kernel, rfl, by decide +kernel, by decide +kernel⟩
abbrev b__law_due : Ss := (.cons (.ite (.or (.e (.cmp .Eq (.bin .Mod (.blt .int (.cons (.blt .len (.cons (.v 0) .nil)) .nil)) (.c (.int 2))) (.c (.int 0)))) (.not (.e (.call 16 (.cons (.v 0) .nil))))) (.cons (.ret (.bin .Mult (.nw (.lst (.cons (.nw (.lst (.cons (.c (.str "unfit")) (.cons (.c (.bl false)) (.cons (.c (.bl true)) .nil))))) .nil))) (.c (.int 3))))
    .nil) .nil)
  (.cons (.asg (.nm 1) (.call 17 (.cons (.v 0) .nil)))
  (.cons (.ret (.nw (.lst (.cons (.bin .Add (.sl (.v 0) (.so (.v 1)) .no) (.sl (.v 0) .no (.so (.v 1)))) (.cons (.v 1) (.cons (.cmp .Eq (.v 1) (.c (.int 0))) .nil))))))
  .nil)))
theorem w__law_due (G : Glb mg)  (hr : Room 1 (A.deeper (envOfC "_law_due" (defScope s__law_due) s.heap.objs.size f cdv))) (hgd : (A.deeper (envOfC "_law_due" (defScope s__law_due) s.heap.objs.size f cdv)).guards = some []) (tk : Takes (cxOf (L2.CX P w) P w K mg base N__law_due "_law_due" (defScope s__law_due) f cdv A outer s H E) (lW K B t c.xm)) (F__law_is_plain : Cal P w K mg base t c.fn 16 1 "_law_is_plain" ["word"]) (F__law_place : Cal P w K mg base t c.fn 17 1 "_law_place" ["word"]) :
    PSs (cxOf (L2.CX P w) P w K mg base N__law_due "_law_due" (defScope s__law_due) f cdv A outer s H E) (defBody s__law_due) (lS K B (wSs b__law_due c)) := by
  have hu := hu_room hr
  have nd := sc__law_due.nd
  exact (s_cons (s_ite (PW.pt (w_or (t_cmp hu (r_bin o_mod (q_int rfl G.b_int (r_cons (q_len rfl G.b_len (r_cons (r_v (i := 0) (pe_var rfl (.inl rfl))) r_nil rfl) rfl) r_nil rfl) rfl) (r_c pe_int fun _ => .int)) (r_c pe_int fun _ => .int) rfl) (w_or1 (t_not (t_val (q_call F__law_is_plain hr (by decide) hgd rfl tk (r_cons (r_v (i := 0) (pe_var rfl (.inl rfl))) r_nil rfl)) rfl))))) (s_cons (s_ret (r_bin o_mul (r_nw (r_lst (r_cons (r_nw (r_lst (r_cons (r_c pe_str fun _ => .str) (r_cons (r_c pe_bl fun _ => .bl) (r_cons (r_c pe_bl fun _ => .bl) r_nil rfl) rfl) rfl))) r_nil rfl))) (r_c pe_int fun _ => .int)))
    s_nil) s_nil)
  (s_cons (s_asg (q_call F__law_place hr (by decide) hgd rfl tk (r_cons (r_v (i := 0) (pe_var rfl (.inl rfl))) r_nil rfl)) (g_nm nd rfl (.inl rfl) (.inl rfl)) rfl rfl rfl)
  (s_cons (s_ret (r_nw (r_lst (r_cons (r_bin o_add (r_sl (r_v (i := 0) (pe_var rfl (.inl rfl))) (r_so (r_v (i := 1) (pe_var rfl (.inl rfl)))) r_no) (r_sl (r_v (i := 0) (pe_var rfl (.inl rfl))) r_no (r_so (r_v (i := 1) (pe_var rfl (.inl rfl)))))) (r_cons (r_v (i := 1) (pe_var rfl (.inl rfl))) (r_cons (r_cmp (o_cmp hu .Eq) (r_v (i := 1) (pe_var rfl (.inl rfl))) (r_c pe_int fun _ => .int) rfl) r_nil rfl) rfl) rfl))))
  s_nil)))
abbrev s__law_is_told : Stmt := topS 32
abbrev N__law_is_told : List Str := ["q", "word", "due", "is_named", "told", "which"]
theorem sc__law_is_told : FnScope N__law_is_told ["q", "word", "due", "is_named"] (defScope s__law_is_told) := ⟨rfl, rfl, rfl, by decide +kernel, rfl, by decide +kernel, by decide +kernel⟩
abbrev b__law_is_told : Ss := (.cons (.asg (.nm 4) (.nw (.cmp (.call 18 (.cons (.v 5) (.cons (.v 0) (.cons (.v 1) (.cons (.v 3) .nil))))) (.nm 5) [5] (.rng (.cons (.c (.int 3)) .nil)) (.e (.c (.bl true))))))
  (.cons (.ret (.cmp .Eq (.blt .repr (.cons (.v 4) .nil)) (.blt .repr (.cons (.v 2) .nil))))
  .nil))
theorem w__law_is_told (G : Glb mg)  (hr : Room 4 (A.deeper (envOfC "_law_is_told" (defScope s__law_is_told) s.heap.objs.size f cdv))) (hgd : (A.deeper (envOfC "_law_is_told" (defScope s__law_is_told) s.heap.objs.size f cdv)).guards = some []) (tk : Takes (cxOf (L2.CX P w) P w K mg base N__law_is_told "_law_is_told" (defScope s__law_is_told) f cdv A outer s H E) (lW K B t c.xm)) (F__law_told : Cal P w K mg base t c.fn 18 4 "_law_told" ["which", "q", "word", "is_named"]) :
    PSs (cxOf (L2.CX P w) P w K mg base N__law_is_told "_law_is_told" (defScope s__law_is_told) f cdv A outer s H E) (defBody s__law_is_told) (lS K B (wSs b__law_is_told c)) := by
  have hu := hu_room hr
  have nd := sc__law_is_told.nd
  exact (s_cons (s_setLc (own := [("which", 5)]) rfl nd rfl rfl rfl (i_rng1 rfl G.b_range (r_c pe_int fun _ => .int) rfl) (blk_ok (by rfl)) (fun _ _ _ _ _ => (g_nm nd rfl (.inl rfl) (.inr rfl))) (fun _ _ _ _ _ => ifs_nil) (fun _ _ _ _ _ => (q_call F__law_told hr (by decide) hgd rfl takesN (r_cons (r_v (i := 5) (pe_var rfl (.inl rfl))) (r_cons (r_v (i := 0) (pe_var rfl (.inr (.inl rfl)))) (r_cons (r_v (i := 1) (pe_var rfl (.inr (.inl rfl)))) (r_cons (r_v (i := 3) (pe_var rfl (.inr (.inl rfl)))) r_nil rfl) rfl) rfl) rfl))) (fun _ => rfl) (by decide))
  (s_cons (s_ret (r_cmp (o_cmp hu .Eq) (q_repr hu hgd rfl G.b_repr (r_cons (r_v (i := 4) (pe_var rfl (.inl rfl))) r_nil rfl) rfl) (q_repr hu hgd rfl G.b_repr (r_cons (r_v (i := 2) (pe_var rfl (.inl rfl))) r_nil rfl) rfl) rfl))
  s_nil))
abbrev s__law_are_turns_right : Stmt := topS 33
abbrev N__law_are_turns_right : List Str := ["q", "word", "due", "n", "many", "k", "turned", "place"]
theorem sc__law_are_turns_right : FnScope N__law_are_turns_right ["q", "word", "due"] (defScope s__law_are_turns_right) := ⟨rfl, rfl, rfl, by decide +kernel, rfl, by decide +kernel, by decide +kernel⟩
abbrev b__law_are_turns_right : Ss := (.cons (.ite (.e (.cmp .Eq (.idx (.v 2) (.c (.int 0))) (.nw (.lst (.cons (.c (.str "unfit")) (.cons (.c (.bl false)) (.cons (.c (.bl true)) .nil))))))) (.cons (.ret (.c (.bl true)))
    .nil) .nil)
  (.cons (.par [3, 4] (.cons (.blt .len (.cons (.v 1) .nil)) (.cons (.c (.int 0)) .nil)))
  (.cons (.for (.nm 5) (.rng (.cons (.v 3) .nil)) (.cons (.par [6, 7] (.cons (.bin .Add (.sl (.v 1) (.so (.v 5)) .no) (.sl (.v 1) .no (.so (.v 5)))) (.cons (.bin .Mod (.blt .int (.cons (.bin .Add (.bin .Sub (.idx (.v 2) (.c (.int 1))) (.v 5)) (.v 3)) .nil)) (.v 3)) .nil)))
    (.cons (.ite (.not (.e (.call 20 (.cons (.v 0) (.cons (.v 6) (.cons (.nw (.lst (.cons (.idx (.v 2) (.c (.int 0))) (.cons (.v 7) (.cons (.cmp .Eq (.v 7) (.c (.int 0))) .nil))))) (.cons (.cmp .Eq (.bin .Mod (.blt .int (.cons (.v 5) .nil)) (.c (.int 2))) (.c (.int 1))) .nil))))))) (.cons (.ret (.c (.bl false)))
      .nil) .nil)
    (.cons (.asg (.nm 4) (.bin .Add (.v 4) (.ife (.e (.cmp .Eq (.v 7) (.c (.int 0)))) (.c (.int 1)) (.c (.int 0)))))
    .nil))))
  (.cons (.ret (.cmp .Eq (.v 4) (.c (.int 1))))
  .nil))))
theorem w__law_are_turns_right (G : Glb mg)  (hr : Room 5 (A.deeper (envOfC "_law_are_turns_right" (defScope s__law_are_turns_right) s.heap.objs.size f cdv))) (hgd : (A.deeper (envOfC "_law_are_turns_right" (defScope s__law_are_turns_right) s.heap.objs.size f cdv)).guards = some []) (tk : Takes (cxOf (L2.CX P w) P w K mg base N__law_are_turns_right "_law_are_turns_right" (defScope s__law_are_turns_right) f cdv A outer s H E) (lW K B t c.xm)) (F__law_is_told : Cal P w K mg base t c.fn 20 5 "_law_is_told" ["q", "word", "due", "is_named"]) :
    PSs (cxOf (L2.CX P w) P w K mg base N__law_are_turns_right "_law_are_turns_right" (defScope s__law_are_turns_right) f cdv A outer s H E) (defBody s__law_are_turns_right) (lS K B (wSs b__law_are_turns_right c)) := by
  have hu := hu_room hr
  have nd := sc__law_are_turns_right.nd
  exact (s_cons (s_ite (t_cmp hu (r_idx hu (r_v (i := 2) (pe_var rfl (.inl rfl))) (r_c pe_int fun _ => .int) fun _ _ => rfl) (r_nw (r_lst (r_cons (r_c pe_str fun _ => .str) (r_cons (r_c pe_bl fun _ => .bl) (r_cons (r_c pe_bl fun _ => .bl) r_nil rfl) rfl) rfl))) rfl) (s_cons (s_ret (r_c pe_bl fun _ => .bl))
    s_nil) s_nil)
  (s_cons (s_par (ps := [(3, ("n" : Str)), (4, ("many" : Str))]) rfl nd (par_ok (by rfl)) (r_cons (q_len rfl G.b_len (r_cons (r_v (i := 1) (pe_var rfl (.inl rfl))) r_nil rfl) rfl) (r_cons (r_c pe_int fun _ => .int) r_nil rfl) rfl) (by decide) rfl rfl)
  (s_cons (s_for cx_po rfl (i_rng1 rfl G.b_range (r_v (i := 3) (pe_var rfl (.inl rfl))) rfl) (g_nm nd rfl (.inl rfl) (.inl rfl)) (s_cons (s_par (ps := [(6, ("turned" : Str)), (7, ("place" : Str))]) rfl nd (par_ok (by rfl)) (r_cons (r_bin o_add (r_sl (r_v (i := 1) (pe_var rfl (.inl rfl))) (r_so (r_v (i := 5) (pe_var rfl (.inl rfl)))) r_no) (r_sl (r_v (i := 1) (pe_var rfl (.inl rfl))) r_no (r_so (r_v (i := 5) (pe_var rfl (.inl rfl)))))) (r_cons (r_bin o_mod (q_int rfl G.b_int (r_cons (r_bin o_add (r_bin o_sub (r_idx hu (r_v (i := 2) (pe_var rfl (.inl rfl))) (r_c pe_int fun _ => .int) fun _ _ => rfl) (r_v (i := 5) (pe_var rfl (.inl rfl)))) (r_v (i := 3) (pe_var rfl (.inl rfl)))) r_nil rfl) rfl) (r_v (i := 3) (pe_var rfl (.inl rfl)))) r_nil rfl) rfl) (by decide) rfl rfl)
    (s_cons (s_ite (t_not (t_val (q_call F__law_is_told hr (by decide) hgd rfl tk (r_cons (r_v (i := 0) (pe_var rfl (.inl rfl))) (r_cons (r_v (i := 6) (pe_var rfl (.inl rfl))) (r_cons (r_nw (r_lst (r_cons (r_idx hu (r_v (i := 2) (pe_var rfl (.inl rfl))) (r_c pe_int fun _ => .int) fun _ _ => rfl) (r_cons (r_v (i := 7) (pe_var rfl (.inl rfl))) (r_cons (r_cmp (o_cmp hu .Eq) (r_v (i := 7) (pe_var rfl (.inl rfl))) (r_c pe_int fun _ => .int) rfl) r_nil rfl) rfl) rfl))) (r_cons (r_cmp (o_cmp hu .Eq) (r_bin o_mod (q_int rfl G.b_int (r_cons (r_v (i := 5) (pe_var rfl (.inl rfl))) r_nil rfl) rfl) (r_c pe_int fun _ => .int)) (r_c pe_int fun _ => .int) rfl) r_nil rfl) rfl) rfl) rfl)) rfl)) (s_cons (s_ret (r_c pe_bl fun _ => .bl))
      s_nil) s_nil)
    (s_cons (s_asg (r_bin o_add (r_v (i := 4) (pe_var rfl (.inl rfl))) (r_ife (t_cmp hu (r_v (i := 7) (pe_var rfl (.inl rfl))) (r_c pe_int fun _ => .int) rfl) (r_c pe_int fun _ => .int) (r_c pe_int fun _ => .int))) (g_nm nd rfl (.inl rfl) (.inl rfl)) rfl rfl rfl)
    s_nil))) fun _ => rfl)
  (s_cons (s_ret (r_cmp (o_cmp hu .Eq) (r_v (i := 4) (pe_var rfl (.inl rfl))) (r_c pe_int fun _ => .int) rfl))
  s_nil))))
abbrev s__law_closed : Stmt := topS 34
abbrev N__law_closed : List Str := ["word", "k", "turned"]
theorem sc__law_closed : FnScope N__law_closed ["word"] (defScope s__law_closed) := ⟨rfl, rfl, rfl, by decide +kernel, rfl, by decide +kernel, by decide +kernel⟩
abbrev b__law_closed : Ss := (.cons (.ite (.and (.e (.cmp .Eq (.idx (.v 0) (.c (.int 0))) (.idx (.v 0) (.c (.int 1))))) (.e (.cmp .Eq (.idx (.v 0) (.c (.int 1))) (.idx (.v 0) (.c (.int 2)))))) (.cons (.ret (.bin .Mult (.nw (.lst (.cons (.nw (.lst (.cons (.c (.str "unfit")) (.cons (.c (.bl false)) (.cons (.c (.bl true)) .nil))))) .nil))) (.c (.int 3))))
    .nil) .nil)
  (.cons (.for (.nm 1) (.rng (.cons (.c (.int 3)) .nil)) (.cons (.asg (.nm 2) (.bin .Add (.sl (.v 0) (.so (.v 1)) .no) (.sl (.v 0) .no (.so (.v 1)))))
    (.cons (.ite (.and (.e (.cmp .LtE (.idx (.v 2) (.c (.int 1))) (.idx (.v 2) (.c (.int 0))))) (.e (.cmp .Lt (.idx (.v 2) (.c (.int 1))) (.idx (.v 2) (.c (.int 2)))))) (.cons (.ret (.nw (.lst (.cons (.v 2) (.cons (.v 1) (.cons (.cmp .Eq (.v 1) (.c (.int 0))) .nil))))))
      .nil) .nil)
    .nil)))
  (.cons (.ret (.nw (.lst .nil)))
  .nil)))
theorem w__law_closed (G : Glb mg)  (hr : Room 0 (A.deeper (envOfC "_law_closed" (defScope s__law_closed) s.heap.objs.size f cdv))) (hgd : (A.deeper (envOfC "_law_closed" (defScope s__law_closed) s.heap.objs.size f cdv)).guards = some []) (tk : Takes (cxOf (L2.CX P w) P w K mg base N__law_closed "_law_closed" (defScope s__law_closed) f cdv A outer s H E) (lW K B t c.xm))  :
    PSs (cxOf (L2.CX P w) P w K mg base N__law_closed "_law_closed" (defScope s__law_closed) f cdv A outer s H E) (defBody s__law_closed) (lS K B (wSs b__law_closed c)) := by
  have hu := hu_room hr
  have nd := sc__law_closed.nd
  exact (s_cons (s_ite (PW.pt (w_and (t_cmp hu (r_idx hu (r_v (i := 0) (pe_var rfl (.inl rfl))) (r_c pe_int fun _ => .int) fun _ _ => rfl) (r_idx hu (r_v (i := 0) (pe_var rfl (.inl rfl))) (r_c pe_int fun _ => .int) fun _ _ => rfl) rfl) (w_and1 (t_cmp hu (r_idx hu (r_v (i := 0) (pe_var rfl (.inl rfl))) (r_c pe_int fun _ => .int) fun _ _ => rfl) (r_idx hu (r_v (i := 0) (pe_var rfl (.inl rfl))) (r_c pe_int fun _ => .int) fun _ _ => rfl) rfl)))) (s_cons (s_ret (r_bin o_mul (r_nw (r_lst (r_cons (r_nw (r_lst (r_cons (r_c pe_str fun _ => .str) (r_cons (r_c pe_bl fun _ => .bl) (r_cons (r_c pe_bl fun _ => .bl) r_nil rfl) rfl) rfl))) r_nil rfl))) (r_c pe_int fun _ => .int)))
    s_nil) s_nil)
  (s_cons (s_for cx_po rfl (i_rng1 rfl G.b_range (r_c pe_int fun _ => .int) rfl) (g_nm nd rfl (.inl rfl) (.inl rfl)) (s_cons (s_asg (r_bin o_add (r_sl (r_v (i := 0) (pe_var rfl (.inl rfl))) (r_so (r_v (i := 1) (pe_var rfl (.inl rfl)))) r_no) (r_sl (r_v (i := 0) (pe_var rfl (.inl rfl))) r_no (r_so (r_v (i := 1) (pe_var rfl (.inl rfl)))))) (g_nm nd rfl (.inl rfl) (.inl rfl)) rfl rfl rfl)
    (s_cons (s_ite (PW.pt (w_and (t_cmp hu (r_idx hu (r_v (i := 2) (pe_var rfl (.inl rfl))) (r_c pe_int fun _ => .int) fun _ _ => rfl) (r_idx hu (r_v (i := 2) (pe_var rfl (.inl rfl))) (r_c pe_int fun _ => .int) fun _ _ => rfl) rfl) (w_and1 (t_cmp hu (r_idx hu (r_v (i := 2) (pe_var rfl (.inl rfl))) (r_c pe_int fun _ => .int) fun _ _ => rfl) (r_idx hu (r_v (i := 2) (pe_var rfl (.inl rfl))) (r_c pe_int fun _ => .int) fun _ _ => rfl) rfl)))) (s_cons (s_ret (r_nw (r_lst (r_cons (r_v (i := 2) (pe_var rfl (.inl rfl))) (r_cons (r_v (i := 1) (pe_var rfl (.inl rfl))) (r_cons (r_cmp (o_cmp hu .Eq) (r_v (i := 1) (pe_var rfl (.inl rfl))) (r_c pe_int fun _ => .int) rfl) r_nil rfl) rfl) rfl))))
      s_nil) s_nil)
    s_nil)) fun _ => rfl)
  (s_cons (s_ret (r_nw (r_lst r_nil)))
  s_nil)))
abbrev s__law_three_lot : Stmt := topS 35
abbrev N__law_three_lot : List Str := ["q", "found", "a", "b", "c"]
theorem sc__law_three_lot : FnScope N__law_three_lot ["q"] (defScope s__law_three_lot) := ⟨rfl, rfl, rfl, by decide +kernel, rfl, by decide +kernel, by decide +kernel⟩
abbrev b__law_three_lot : Ss := (.cons (.asg (.nm 1) (.nw (.lst .nil)))
  (.cons (.for (.nm 2) (.rng (.cons (.v 0) .nil)) (.cons (.for (.nm 3) (.rng (.cons (.bin .Add (.v 2) (.c (.int 1))) .nil)) (.cons (.ex (.extl (.v 1) (.cmp (.tup (.cons (.v 2) (.cons (.v 3) (.cons (.v 4) .nil)))) (.nm 4) [4] (.rng (.cons (.bin .Add (.v 3) (.c (.int 1))) (.cons (.v 0) .nil))) (.e (.c (.bl true))))))
      .nil))
    .nil))
  (.cons (.ret (.bls .tuple (.of (.v 1))))
  .nil)))
theorem w__law_three_lot (G : Glb mg)  (hr : Room 0 (A.deeper (envOfC "_law_three_lot" (defScope s__law_three_lot) s.heap.objs.size f cdv))) (hgd : (A.deeper (envOfC "_law_three_lot" (defScope s__law_three_lot) s.heap.objs.size f cdv)).guards = some []) (tk : Takes (cxOf (L2.CX P w) P w K mg base N__law_three_lot "_law_three_lot" (defScope s__law_three_lot) f cdv A outer s H E) (lW K B t c.xm))  :
    PSs (cxOf (L2.CX P w) P w K mg base N__law_three_lot "_law_three_lot" (defScope s__law_three_lot) f cdv A outer s H E) (defBody s__law_three_lot) (lS K B (wSs b__law_three_lot c)) := by
  have hu := hu_room hr
  have nd := sc__law_three_lot.nd
  exact (s_cons (s_asg (r_nw (r_lst r_nil)) (g_nm nd rfl (.inl rfl) (.inl rfl)) rfl rfl rfl)
  (s_cons (s_for cx_po rfl (i_rng1 rfl G.b_range (r_v (i := 0) (pe_var rfl (.inl rfl))) rfl) (g_nm nd rfl (.inr rfl) (.inl rfl)) (s_cons (s_for cx_po rfl (i_rng1 rfl G.b_range (r_bin o_add (r_v (i := 2) (pe_var rfl (.inr (.inl rfl)))) (r_c pe_int fun _ => .int)) rfl) (g_nm nd rfl (.inr rfl) (.inl rfl)) (s_cons (s_ex (q_ext (r_v (i := 1) (pe_var rfl (.inl rfl))) (r_lc (own := [("c", 4)]) rfl nd (i_rng2 rfl G.b_range (r_bin o_add (r_v (i := 3) (pe_var rfl (.inr (.inl rfl)))) (r_c pe_int fun _ => .int)) (r_v (i := 0) (pe_var rfl (.inl rfl))) rfl rfl) (blk_ok (by rfl)) (fun _ _ _ _ _ => (g_nm nd rfl (.inl rfl) (.inr rfl))) (fun _ _ _ _ _ => ifs_nil) (fun _ _ _ _ _ => (r_tup (r_cons (r_v (i := 2) (pe_var rfl (.inr (.inl rfl)))) (r_cons (r_v (i := 3) (pe_var rfl (.inr (.inl rfl)))) (r_cons (r_v (i := 4) (pe_var rfl (.inl rfl))) r_nil rfl) rfl) rfl))) (fun _ => rfl) (by decide)) rfl rfl rfl) rfl)
      s_nil) fun _ => rfl)
    s_nil) fun _ => rfl)
  (s_cons (s_ret (q_tuples rfl G.b_tuple (r_of (r_v (i := 1) (pe_var rfl (.inl rfl)))) rfl))
  s_nil)))
abbrev s_law : Stmt := topS 36
abbrev N_law : List Str := ["script", "bag", "some", "dues", "turn", "q", "threes", "pair", "k", "wide", "n", "own", "word"]
theorem sc_law : FnScope N_law ["script"] (defScope s_law) := ⟨rfl, rfl, rfl, by decide +kernel, rfl, by decide +kernel, by decide +kernel⟩
abbrev b_law : Ss := (.cons (.asg (.nm 1) (.call 9 (.cons (.v 0) .nil)))
  (.cons (.par [2, 3] (.cons (.nw (.lst .nil)) (.cons (.nw (.lst .nil)) .nil)))
  (.cons (.for (.nm 4) (.rng (.cons (.c (.int 4)) .nil)) (.cons (.asg (.nm 5) (.bin .Add (.c (.int 2)) (.call 10 (.cons (.v 1) (.cons (.c (.int 3)) .nil)))))
    (.cons (.ex (.mth .app (.v 2) (.cons (.tup (.cons (.v 5) (.cons (.call 14 (.cons (.v 1) (.cons (.v 5) .nil))) .nil))) .nil)))
    .nil)))
  (.cons (.for (.nm 4) (.rng (.cons (.c (.int 3)) .nil)) (.cons (.asg (.nm 5) (.bin .Add (.c (.int 2)) (.call 10 (.cons (.v 1) (.cons (.c (.int 3)) .nil)))))
    (.cons (.ex (.mth .app (.v 2) (.cons (.tup (.cons (.v 5) (.cons (.call 15 (.cons (.v 1) (.cons (.v 5) .nil))) .nil))) .nil)))
    .nil)))
  (.cons (.asg (.nm 5) (.bin .Add (.c (.int 2)) (.call 10 (.cons (.v 1) (.cons (.c (.int 3)) .nil)))))
  (.cons (.asg (.nm 6) (.nw (.cmp (.call 12 (.cons (.v 1) (.cons (.v 5) (.cons (.c (.int 3)) .nil)))) (.nm 4) [4] (.rng (.cons (.c (.int 8)) .nil)) (.e (.c (.bl true))))))
  (.cons (.for (.nm 7) (.sq (.of (.v 2))) (.cons (.ex (.mth .app (.v 3) (.cons (.call 19 (.cons (.idx (.v 7) (.c (.int 1))) .nil)) .nil)))
    .nil))
  (.cons (.for (.tp (.cons (.nm 8) (.cons (.nm 7) .nil))) (.enm (.of (.v 2))) (.cons (.ite (.not (.e (.call 20 (.cons (.idx (.v 7) (.c (.int 0))) (.cons (.idx (.v 7) (.c (.int 1))) (.cons (.idx (.v 3) (.v 8)) (.cons (.cmp .Eq (.bin .Mod (.blt .int (.cons (.v 8) .nil)) (.c (.int 2))) (.c (.int 0))) .nil))))))) (.cons (.ret (.c (.bl false)))
      .nil) .nil)
    (.cons (.asg (.nm 9) (.bin .Add (.bls .max (.of (.bin .Add (.nw (.lis (.of (.idx (.v 7) (.c (.int 1)))))) (.nw (.lst (.cons (.c (.int 1)) .nil)))))) (.c (.int 1))))
    (.cons (.ite (.or (.not (.e (.call 20 (.cons (.c (.int 4)) (.cons (.idx (.v 7) (.c (.int 1))) (.cons (.idx (.v 3) (.v 8)) (.cons (.c (.bl false)) .nil))))))) (.not (.e (.call 20 (.cons (.v 9) (.cons (.idx (.v 7) (.c (.int 1))) (.cons (.idx (.v 3) (.v 8)) (.cons (.c (.bl true)) .nil)))))))) (.cons (.ret (.c (.bl false)))
      .nil) .nil)
    (.cons (.asg (.nm 10) (.blt .len (.cons (.idx (.v 7) (.c (.int 1))) .nil)))
    (.cons (.ite (.and (.e (.isi (.idx (.idx (.v 3) (.v 8)) (.c (.int 0))) [.tuple])) (.e (.cmp .LtE (.call 13 (.cons (.idx (.v 7) (.c (.int 0))) (.cons (.v 10) .nil))) (.c (.int 2187))))) (.cons (.ite (.e (.cmp .NotIn (.idx (.idx (.v 3) (.v 8)) (.c (.int 0))) (.nw (.lis (.of (.call 4 (.cons (.idx (.v 7) (.c (.int 0))) (.cons (.v 10) .nil)))))))) (.cons (.ret (.c (.bl false)))
        .nil) .nil)
      .nil) .nil)
    .nil))))))
  (.cons (.ite (.not (.e (.call 21 (.cons (.idx (.idx (.v 2) (.c (.int 0))) (.c (.int 0))) (.cons (.idx (.idx (.v 2) (.c (.int 0))) (.c (.int 1))) (.cons (.idx (.v 3) (.c (.int 0))) .nil)))))) (.cons (.ret (.c (.bl false)))
    .nil) .nil)
  (.cons (.asg (.nm 11) (.call 23 (.cons (.v 5) .nil)))
  (.cons (.ite (.or (.e (.cmp .NotEq (.blt .repr (.cons (.call 4 (.cons (.v 5) (.cons (.c (.int 3)) .nil))) .nil)) (.blt .repr (.cons (.v 11) .nil)))) (.e (.cmp .NotEq (.blt .len (.cons (.v 11) .nil)) (.bin .FloorDiv (.bin .Sub (.bin .Mult (.bin .Mult (.v 5) (.v 5)) (.v 5)) (.v 5)) (.c (.int 3)))))) (.cons (.ret (.c (.bl false)))
    .nil) .nil)
  (.cons (.for (.nm 12) (.sq (.of (.v 6))) (.cons (.ite (.not (.e (.call 20 (.cons (.v 5) (.cons (.v 12) (.cons (.call 22 (.cons (.v 12) .nil)) (.cons (.c (.bl false)) .nil))))))) (.cons (.ret (.c (.bl false)))
      .nil) .nil)
    .nil))
  (.cons (.ret (.call 20 (.cons (.idx (.idx (.v 2) (.c (.int 1))) (.c (.int 0))) (.cons (.idx (.idx (.v 2) (.c (.int 1))) (.c (.int 1))) (.cons (.idx (.v 3) (.c (.int 1))) (.cons (.c (.bl false)) .nil))))))
  .nil)))))))))))))
theorem w_law (G : Glb mg)  (hr : Room 6 (A.deeper (envOfC "law" (defScope s_law) s.heap.objs.size f cdv))) (hgd : (A.deeper (envOfC "law" (defScope s_law) s.heap.objs.size f cdv)).guards = some []) (tk : Takes (cxOf (L2.CX P w) P w K mg base N_law "law" (defScope s_law) f cdv A outer s H E) (lW K B t c.xm)) (F__law_own_bag : Cal P w K mg base t c.fn 9 1 "_law_own_bag" ["script"]) (F__law_draw : Cal P w K mg base t c.fn 10 1 "_law_draw" ["bag", "below"]) (F__law_odd_word : Cal P w K mg base t c.fn 14 3 "_law_odd_word" ["bag", "q"]) (F__law_bad_word : Cal P w K mg base t c.fn 15 3 "_law_bad_word" ["bag", "q"]) (F__law_word : Cal P w K mg base t c.fn 12 2 "_law_word" ["bag", "q", "n"]) (F__law_due : Cal P w K mg base t c.fn 19 2 "_law_due" ["word"]) (F__law_is_told : Cal P w K mg base t c.fn 20 5 "_law_is_told" ["q", "word", "due", "is_named"]) (F__law_power : Cal P w K mg base t c.fn 13 1 "_law_power" ["q", "n"]) (F_away_lot : Cal P w K mg base t c.fn 4 3 "away_lot" ["q", "n"]) (F__law_are_turns_right : Cal P w K mg base t c.fn 21 6 "_law_are_turns_right" ["q", "word", "due"]) (F__law_three_lot : Cal P w K mg base t c.fn 23 1 "_law_three_lot" ["q"]) (F__law_closed : Cal P w K mg base t c.fn 22 1 "_law_closed" ["word"]) :
    PSs (cxOf (L2.CX P w) P w K mg base N_law "law" (defScope s_law) f cdv A outer s H E) (defBody s_law) (lS K B (wSs b_law c)) := by
  have hu := hu_room hr
  have nd := sc_law.nd
  exact (s_cons (s_asg (q_call F__law_own_bag hr (by decide) hgd rfl tk (r_cons (r_v (i := 0) (pe_var rfl (.inl rfl))) r_nil rfl)) (g_nm nd rfl (.inr rfl) (.inl rfl)) rfl rfl rfl)
  (s_cons (s_par (ps := [(2, ("some" : Str)), (3, ("dues" : Str))]) rfl nd (par_ok (by rfl)) (r_cons (r_nw (r_lst r_nil)) (r_cons (r_nw (r_lst r_nil)) r_nil rfl) rfl) (by decide) rfl rfl)
  (s_cons (s_for cx_po rfl (i_rng1 rfl G.b_range (r_c pe_int fun _ => .int) rfl) (g_nm nd rfl (.inl rfl) (.inl rfl)) (s_cons (s_asg (r_bin o_add (r_c pe_int fun _ => .int) (q_call F__law_draw hr (by decide) hgd rfl tk (r_cons (r_v (i := 1) (pe_var rfl (.inr (.inl rfl)))) (r_cons (r_c pe_int fun _ => .int) r_nil rfl) rfl))) (g_nm nd rfl (.inr rfl) (.inl rfl)) rfl rfl rfl)
    (s_cons (s_ex (q_app (r_v (i := 2) (pe_var rfl (.inl rfl))) (r_cons (r_tup (r_cons (r_v (i := 5) (pe_var rfl (.inr (.inl rfl)))) (r_cons (q_call F__law_odd_word hr (by decide) hgd rfl tk (r_cons (r_v (i := 1) (pe_var rfl (.inr (.inl rfl)))) (r_cons (r_v (i := 5) (pe_var rfl (.inr (.inl rfl)))) r_nil rfl) rfl)) r_nil rfl) rfl)) r_nil rfl) rfl rfl rfl) rfl)
    s_nil)) fun _ => rfl)
  (s_cons (s_for cx_po rfl (i_rng1 rfl G.b_range (r_c pe_int fun _ => .int) rfl) (g_nm nd rfl (.inl rfl) (.inl rfl)) (s_cons (s_asg (r_bin o_add (r_c pe_int fun _ => .int) (q_call F__law_draw hr (by decide) hgd rfl tk (r_cons (r_v (i := 1) (pe_var rfl (.inr (.inl rfl)))) (r_cons (r_c pe_int fun _ => .int) r_nil rfl) rfl))) (g_nm nd rfl (.inr rfl) (.inl rfl)) rfl rfl rfl)
    (s_cons (s_ex (q_app (r_v (i := 2) (pe_var rfl (.inl rfl))) (r_cons (r_tup (r_cons (r_v (i := 5) (pe_var rfl (.inr (.inl rfl)))) (r_cons (q_call F__law_bad_word hr (by decide) hgd rfl tk (r_cons (r_v (i := 1) (pe_var rfl (.inr (.inl rfl)))) (r_cons (r_v (i := 5) (pe_var rfl (.inr (.inl rfl)))) r_nil rfl) rfl)) r_nil rfl) rfl)) r_nil rfl) rfl rfl rfl) rfl)
    s_nil)) fun _ => rfl)
  (s_cons (s_asg (r_bin o_add (r_c pe_int fun _ => .int) (q_call F__law_draw hr (by decide) hgd rfl tk (r_cons (r_v (i := 1) (pe_var rfl (.inr (.inl rfl)))) (r_cons (r_c pe_int fun _ => .int) r_nil rfl) rfl))) (g_nm nd rfl (.inr rfl) (.inl rfl)) rfl rfl rfl)
  (s_cons (s_setLc (own := [("turn", 4)]) rfl nd rfl rfl rfl (i_rng1 rfl G.b_range (r_c pe_int fun _ => .int) rfl) (blk_ok (by rfl)) (fun _ _ _ _ _ => (g_nm nd rfl (.inl rfl) (.inr rfl))) (fun _ _ _ _ _ => ifs_nil) (fun _ _ _ _ _ => (q_call F__law_word hr (by decide) hgd rfl takesN (r_cons (r_v (i := 1) (pe_var rfl (.inr (.inl rfl)))) (r_cons (r_v (i := 5) (pe_var rfl (.inr (.inl rfl)))) (r_cons (r_c pe_int fun _ => .int) r_nil rfl) rfl) rfl))) (fun _ => rfl) (by decide))
  (s_cons (s_for cx_po rfl (i_sq (r_of (r_v (i := 2) (pe_var rfl (.inl rfl))))) (g_nm nd rfl (.inl rfl) (.inl rfl)) (s_cons (s_ex (q_app (r_v (i := 3) (pe_var rfl (.inl rfl))) (r_cons (q_call F__law_due hr (by decide) hgd rfl tk (r_cons (r_idx hu (r_v (i := 7) (pe_var rfl (.inl rfl))) (r_c pe_int fun _ => .int) fun _ _ => rfl) r_nil rfl)) r_nil rfl) rfl rfl rfl) rfl)
    s_nil) fun _ => rfl)
  (s_cons (s_for cx_po rfl (i_enm rfl G.b_enumerate (r_of (r_v (i := 2) (pe_var rfl (.inl rfl)))) rfl) (g_tp rfl (gs_cons (g_nm nd rfl (.inl rfl) (.inl rfl)) (gs_cons (g_nm nd rfl (.inl rfl) (.inl rfl)) gs_nil rfl) rfl) rfl rfl) (s_cons (s_ite (t_not (t_val (q_call F__law_is_told hr (by decide) hgd rfl tk (r_cons (r_idx hu (r_v (i := 7) (pe_var rfl (.inl rfl))) (r_c pe_int fun _ => .int) fun _ _ => rfl) (r_cons (r_idx hu (r_v (i := 7) (pe_var rfl (.inl rfl))) (r_c pe_int fun _ => .int) fun _ _ => rfl) (r_cons (r_idx hu (r_v (i := 3) (pe_var rfl (.inl rfl))) (r_v (i := 8) (pe_var rfl (.inl rfl))) fun _ _ => rfl) (r_cons (r_cmp (o_cmp hu .Eq) (r_bin o_mod (q_int rfl G.b_int (r_cons (r_v (i := 8) (pe_var rfl (.inl rfl))) r_nil rfl) rfl) (r_c pe_int fun _ => .int)) (r_c pe_int fun _ => .int) rfl) r_nil rfl) rfl) rfl) rfl)) rfl)) (s_cons (s_ret (r_c pe_bl fun _ => .bl))
      s_nil) s_nil)
    (s_cons (s_asg (r_bin o_add (q_maxs rfl hu rfl G.b_max (r_of (r_bin o_add (r_nw (q_lis rfl G.b_list (r_of (r_idx hu (r_v (i := 7) (pe_var rfl (.inl rfl))) (r_c pe_int fun _ => .int) fun _ _ => rfl)) rfl)) (r_nw (r_lst (r_cons (r_c pe_int fun _ => .int) r_nil rfl))))) rfl) (r_c pe_int fun _ => .int)) (g_nm nd rfl (.inl rfl) (.inl rfl)) rfl rfl rfl)
    (s_cons (s_ite (PW.pt (w_or (t_not (t_val (q_call F__law_is_told hr (by decide) hgd rfl tk (r_cons (r_c pe_int fun _ => .int) (r_cons (r_idx hu (r_v (i := 7) (pe_var rfl (.inl rfl))) (r_c pe_int fun _ => .int) fun _ _ => rfl) (r_cons (r_idx hu (r_v (i := 3) (pe_var rfl (.inl rfl))) (r_v (i := 8) (pe_var rfl (.inl rfl))) fun _ _ => rfl) (r_cons (r_c pe_bl fun _ => .bl) r_nil rfl) rfl) rfl) rfl)) rfl)) (w_or1 (t_not (t_val (q_call F__law_is_told hr (by decide) hgd rfl tk (r_cons (r_v (i := 9) (pe_var rfl (.inl rfl))) (r_cons (r_idx hu (r_v (i := 7) (pe_var rfl (.inl rfl))) (r_c pe_int fun _ => .int) fun _ _ => rfl) (r_cons (r_idx hu (r_v (i := 3) (pe_var rfl (.inl rfl))) (r_v (i := 8) (pe_var rfl (.inl rfl))) fun _ _ => rfl) (r_cons (r_c pe_bl fun _ => .bl) r_nil rfl) rfl) rfl) rfl)) rfl))))) (s_cons (s_ret (r_c pe_bl fun _ => .bl))
      s_nil) s_nil)
    (s_cons (s_asg (q_len rfl G.b_len (r_cons (r_idx hu (r_v (i := 7) (pe_var rfl (.inl rfl))) (r_c pe_int fun _ => .int) fun _ _ => rfl) r_nil rfl) rfl) (g_nm nd rfl (.inl rfl) (.inl rfl)) rfl rfl rfl)
    (s_cons (s_ite (PW.pt (w_and (t_val (r_isi rfl G.b_isinstance (r_idx hu (r_idx hu (r_v (i := 3) (pe_var rfl (.inl rfl))) (r_v (i := 8) (pe_var rfl (.inl rfl))) fun _ _ => rfl) (r_c pe_int fun _ => .int) fun _ _ => rfl) rfl rfl G.b_tuple (by decide +kernel)) rfl) (w_and1 (t_cmp hu (q_call F__law_power hr (by decide) hgd rfl tk (r_cons (r_idx hu (r_v (i := 7) (pe_var rfl (.inl rfl))) (r_c pe_int fun _ => .int) fun _ _ => rfl) (r_cons (r_v (i := 10) (pe_var rfl (.inl rfl))) r_nil rfl) rfl)) (r_c pe_int fun _ => .int) rfl)))) (s_cons (s_ite (t_cmp hu (r_idx hu (r_idx hu (r_v (i := 3) (pe_var rfl (.inl rfl))) (r_v (i := 8) (pe_var rfl (.inl rfl))) fun _ _ => rfl) (r_c pe_int fun _ => .int) fun _ _ => rfl) (r_nw (q_lis rfl G.b_list (r_of (q_call F_away_lot hr (by decide) hgd rfl tk (r_cons (r_idx hu (r_v (i := 7) (pe_var rfl (.inl rfl))) (r_c pe_int fun _ => .int) fun _ _ => rfl) (r_cons (r_v (i := 10) (pe_var rfl (.inl rfl))) r_nil rfl) rfl))) rfl)) rfl) (s_cons (s_ret (r_c pe_bl fun _ => .bl))
        s_nil) s_nil)
      s_nil) s_nil)
    s_nil))))) fun _ => rfl)
  (s_cons (s_ite (t_not (t_val (q_call F__law_are_turns_right hr (by decide) hgd rfl tk (r_cons (r_idx hu (r_idx hu (r_v (i := 2) (pe_var rfl (.inl rfl))) (r_c pe_int fun _ => .int) fun _ _ => rfl) (r_c pe_int fun _ => .int) fun _ _ => rfl) (r_cons (r_idx hu (r_idx hu (r_v (i := 2) (pe_var rfl (.inl rfl))) (r_c pe_int fun _ => .int) fun _ _ => rfl) (r_c pe_int fun _ => .int) fun _ _ => rfl) (r_cons (r_idx hu (r_v (i := 3) (pe_var rfl (.inl rfl))) (r_c pe_int fun _ => .int) fun _ _ => rfl) r_nil rfl) rfl) rfl)) rfl)) (s_cons (s_ret (r_c pe_bl fun _ => .bl))
    s_nil) s_nil)
  (s_cons (s_asg (q_call F__law_three_lot hr (by decide) hgd rfl tk (r_cons (r_v (i := 5) (pe_var rfl (.inr (.inl rfl)))) r_nil rfl)) (g_nm nd rfl (.inl rfl) (.inl rfl)) rfl rfl rfl)
  (s_cons (s_ite (PW.pt (w_or (t_cmp hu (q_repr hu hgd rfl G.b_repr (r_cons (q_call F_away_lot hr (by decide) hgd rfl tk (r_cons (r_v (i := 5) (pe_var rfl (.inr (.inl rfl)))) (r_cons (r_c pe_int fun _ => .int) r_nil rfl) rfl)) r_nil rfl) rfl) (q_repr hu hgd rfl G.b_repr (r_cons (r_v (i := 11) (pe_var rfl (.inl rfl))) r_nil rfl) rfl) rfl) (w_or1 (t_cmp hu (q_len rfl G.b_len (r_cons (r_v (i := 11) (pe_var rfl (.inl rfl))) r_nil rfl) rfl) (r_bin o_fdiv (r_bin o_sub (r_bin o_mul (r_bin o_mul (r_v (i := 5) (pe_var rfl (.inr (.inl rfl)))) (r_v (i := 5) (pe_var rfl (.inr (.inl rfl))))) (r_v (i := 5) (pe_var rfl (.inr (.inl rfl))))) (r_v (i := 5) (pe_var rfl (.inr (.inl rfl))))) (r_c pe_int fun _ => .int)) rfl)))) (s_cons (s_ret (r_c pe_bl fun _ => .bl))
    s_nil) s_nil)
  (s_cons (s_for cx_po rfl (i_sq (r_of (r_v (i := 6) (pe_var rfl (.inl rfl))))) (g_nm nd rfl (.inl rfl) (.inl rfl)) (s_cons (s_ite (t_not (t_val (q_call F__law_is_told hr (by decide) hgd rfl tk (r_cons (r_v (i := 5) (pe_var rfl (.inr (.inl rfl)))) (r_cons (r_v (i := 12) (pe_var rfl (.inl rfl))) (r_cons (q_call F__law_closed hr (by decide) hgd rfl tk (r_cons (r_v (i := 12) (pe_var rfl (.inl rfl))) r_nil rfl)) (r_cons (r_c pe_bl fun _ => .bl) r_nil rfl) rfl) rfl) rfl)) rfl)) (s_cons (s_ret (r_c pe_bl fun _ => .bl))
      s_nil) s_nil)
    s_nil) fun _ => rfl)
  (s_cons (s_ret (q_call F__law_is_told hr (by decide) hgd rfl tk (r_cons (r_idx hu (r_idx hu (r_v (i := 2) (pe_var rfl (.inl rfl))) (r_c pe_int fun _ => .int) fun _ _ => rfl) (r_c pe_int fun _ => .int) fun _ _ => rfl) (r_cons (r_idx hu (r_idx hu (r_v (i := 2) (pe_var rfl (.inl rfl))) (r_c pe_int fun _ => .int) fun _ _ => rfl) (r_c pe_int fun _ => .int) fun _ _ => rfl) (r_cons (r_idx hu (r_v (i := 3) (pe_var rfl (.inl rfl))) (r_c pe_int fun _ => .int) fun _ _ => rfl) (r_cons (r_c pe_bl fun _ => .bl) r_nil rfl) rfl) rfl) rfl)))
  s_nil)))))))))))))
end
end W
end MP

/-! Ks: what k19's defs do. -/
namespace MP
open PySem PySem.W
namespace W
def wds (ws : List (List Int)) : List D := ws.map tI
/-! ### letters done away -/
def preL (n : Nat) (l : List Int) : Nat → List Int → List (List Int)
  | 0, _ => []
  | k + 1, w => if w = l ∨ n < w.length then [] else w :: preL n l k (l ++ w)
def goneS (n : Nat) (ws : List (List Int)) (l : List Int) : List (List Int) := (ws.map fun w => preL n l (n + 1) w).flatten
def gone (n : Nat) : Nat → List (List Int) → List (List Int)
  | 0, ws => ws
  | k + 1, ws => match lo ws (n : Int) with
    | none => ws
    | some l => gone n k (goneS n ws l)
def gfin (n : Nat) : Nat → List (List Int) → Bool
  | 0, _ => false
  | k + 1, ws => decide (ws.length ≤ 20000) && ws.all (fun w => decide (1 ≤ w.length) && decide (w.length ≤ 100)) && match lo ws (n : Int) with
    | none => true
    | some l => gfin n k (goneS n ws l)
def let1 (q : Nat) : List (List Int) := (List.range q).map fun (i : Nat) => [(i : Int)]
def goneW (q n : Nat) : List (List Int) := gone n 3000 (let1 q)
def lotL (q n : Nat) : List (List Int) := (goneW q n).filter fun w => decide (w.length = n)
def lotD (q n : Nat) : D := .tup (sortDs (wds (lotL q n)))
def few (q n : Nat) : Prop := (q = 2 ∧ (n = 1 ∨ n = 3 ∨ n = 5 ∨ n = 7 ∨ n = 9 ∨ n = 11)) ∨ (q = 3 ∧ (n = 1 ∨ n = 3 ∨ n = 5 ∨ n = 7)) ∨ (q = 4 ∧ (n = 1 ∨ n = 3 ∨ n = 5))
/-! ### words -/
def Wd (w : List Int) : Prop := w.length ≤ 24 ∧ ∀ x ∈ w, 0 ≤ x ∧ x < 4
def Wq (q : Int) (w : List Int) : Prop := w.length ≤ 24 ∧ ∀ x ∈ w, 0 ≤ x ∧ x < q
def Gd (w : List Int) : Prop := Pln w ∧ w.length % 2 = 1
def badL : List D := [.str "unfit", .bl false, .bl true]
def Due (h : MH) (p : Addr) (w : List Int) : Prop :=
  (Gd w ∧ h p = some (.lst [tI (tuF w), .int (plF w), .bl (decide (plF w = 0))])) ∨ (¬ Gd w ∧ ∃ a, h p = some (.lst [.ref a, .ref a, .ref a]) ∧ h a = some (.lst badL))
/-! ### promises -/
def sp_power_of : MSp := gs_power_of
def sp_least_odd : MSp := fun ds h PQ _ => ∃ (a : Addr) (ws : List (List Int)) (n : Nat), ds = [.ref a, .int n] ∧ h a = some (.lst (wds ws)) ∧ PQ (oD (lo ws n)) h
def sp_gone_away : MSp := fun ds h PQ _ => ∃ q n : Nat, ds = [.int q, .int n] ∧ few q n ∧ ∀ h' a b rs, Ex h h' → h' a = some (.lst rs) → h' b = some (.lst (wds (goneW q n))) → PQ (.tup [.ref a, .ref b]) h'
def sp_refuse_row : MSp := fun ds h PQ _ => ∃ q n : Nat, ds = [.int q, .int n] ∧ few q n ∧ PQ .non h
def sp_away_lot : MSp := fun ds h PQ _ => ∃ q n : Nat, ds = [.int q, .int n] ∧ few q n ∧ ∀ h', Ex h h' → PQ (lotD q n) h'
def sp_merged_ring : MSp := fun ds h PQ _ => ∃ (a : Addr) (ws : List (List Int)) (l : List Int), ds = [.ref a, tI l] ∧ h a = some (.lst (wds ws)) ∧ (∃ w ∈ ws, w ≠ l) ∧ ws.length ≤ 100 ∧ (∀ w ∈ ws, w.length ≤ 100) ∧ ∀ h' p, Ex h h' → h p = none → h' p = some (.lst (wds (mring ws l))) → PQ (.ref p) h'
def sp_away_turn : MSp := fun ds h PQ PE => ∃ (q : D) (w : List Int), ds = [q, tI w] ∧ w.length ≤ 24 ∧ ((Gd w ∧ ∀ h', Ex h h' → PQ (tI (tuF w)) h') ∨ (¬ Gd w ∧ ∀ h', Ex h h' → PE ⟨1, none⟩ h'))
def sp_away_place : MSp := fun ds h PQ PE => ∃ (q : D) (w : List Int), ds = [q, tI w] ∧ w.length ≤ 24 ∧ ((Gd w ∧ ∀ h', Ex h h' → PQ (.int (plF w)) h') ∨ (¬ Gd w ∧ ∀ h', Ex h h' → PE ⟨1, none⟩ h'))
def sp_is_away_word : MSp := fun ds h PQ PE => ∃ (q : D) (w : List Int), ds = [q, tI w] ∧ w.length ≤ 24 ∧ ((Gd w ∧ ∀ h', Ex h h' → PQ (.bl (decide (plF w = 0))) h') ∨ (¬ Gd w ∧ ∀ h', Ex h h' → PE ⟨1, none⟩ h'))
def sp__law_own_bag : MSp := gs__law_own_bag
def sp__law_draw : MSp := gs__law_draw
def sp__law_pick : MSp := gs__law_pick
def sp__law_word : MSp := fun ds h PQ _ => ∃ (b g : Addr) (q n : Int), ds = [.ref b, .int q, .int n] ∧ Bag h b g ∧ 1 ≤ q ∧ q ≤ 4 ∧ 0 ≤ n ∧ n ≤ 24 ∧ ∀ h' w, w.length = n.toNat → (∀ x ∈ w, 0 ≤ x ∧ x < q) → Bag h' b g → FrB b g h h' → PQ (tI w) h'
def sp__law_power : MSp := gs_power_of
def sp__law_odd_word : MSp := fun ds h PQ _ => ∃ (b g : Addr) (q : Int), ds = [.ref b, .int q] ∧ Bag h b g ∧ 2 ≤ q ∧ q ≤ 4 ∧ ∀ h' w, Wq q w → Bag h' b g → FrB b g h h' → PQ (tI w) h'
def sp__law_bad_word : MSp := sp__law_odd_word
def sp__law_is_plain : MSp := fun ds h PQ _ => ∃ w : List Int, ds = [tI w] ∧ w.length ≤ 24 ∧ ∀ h' k, Ex h h' → (k = true ↔ Pln w) → PQ (.bl k) h'
def sp__law_place : MSp := fun ds h PQ _ => ∃ w : List Int, ds = [tI w] ∧ w.length ≤ 24 ∧ Gd w ∧ ∀ h', Ex h h' → PQ (.int (plF w)) h'
def sp__law_told : MSp := fun ds h PQ _ => ∃ (i : Nat) (q : D) (w : List Int) (nm : Bool), ds = [.int i, q, tI w, .bl nm] ∧ i < 3 ∧ w.length ≤ 24 ∧
  ((Gd w ∧ ∀ h', Ex h h' → PQ ([tI (tuF w), .int (plF w), .bl (decide (plF w = 0))].getD i .non) h') ∨ (¬ Gd w ∧ ∀ h' p, Ex h h' → h p = none → h' p = some (.lst badL) → PQ (.ref p) h'))
def sp__law_due : MSp := fun ds h PQ _ => ∃ w : List Int, ds = [tI w] ∧ w.length ≤ 24 ∧ ∀ h' p, Ex h h' → h p = none → Due h' p w → PQ (.ref p) h'
def sp__law_is_told : MSp := fun ds h PQ _ => ∃ (q : D) (w : List Int) (p : Addr) (nm : Bool), ds = [q, tI w, .ref p, .bl nm] ∧ Wd w ∧ Due h p w ∧ ∀ h', Ex h h' → PQ (.bl true) h'
def sp__law_are_turns_right : MSp := fun ds h PQ _ => ∃ (q : D) (w : List Int) (p : Addr), ds = [q, tI w, .ref p] ∧ Wd w ∧ Due h p w ∧ ∀ h', Ex h h' → PQ (.bl true) h'
def sp__law_closed : MSp := fun ds h PQ _ => ∃ w : List Int, ds = [tI w] ∧ w.length = 3 ∧ Wd w ∧ ∀ h' p, Ex h h' → Due h' p w → PQ (.ref p) h'
def sp__law_three_lot : MSp := fun ds h PQ _ => ∃ q : Nat, ds = [.int q] ∧ 2 ≤ q ∧ q ≤ 4 ∧ ∀ h', Ex h h' → PQ (lotD q 3) h'
def sp_law : MSp := fun ds h PQ _ => ∃ ns : List Int, ds = [.lro (dI ns)] ∧ ns.length ≤ 63 ∧ ∀ h', PQ (.bl true) h'
def spT : Nat → MSp
  | 0 => sp_power_of
  | 1 => sp_least_odd
  | 2 => sp_gone_away
  | 3 => sp_refuse_row
  | 4 => sp_away_lot
  | 5 => sp_merged_ring
  | 6 => sp_away_place
  | 7 => sp_away_turn
  | 8 => sp_is_away_word
  | 9 => sp__law_own_bag
  | 10 => sp__law_draw
  | 11 => sp__law_pick
  | 12 => sp__law_word
  | 13 => sp__law_power
  | 14 => sp__law_odd_word
  | 15 => sp__law_bad_word
  | 16 => sp__law_is_plain
  | 17 => sp__law_place
  | 18 => sp__law_told
  | 19 => sp__law_due
  | 20 => sp__law_is_told
  | 21 => sp__law_are_turns_right
  | 22 => sp__law_closed
  | 23 => sp__law_three_lot
  | 24 => sp_law
  | _ => fun _ _ _ _ => False
end W
end MP

namespace MP
open PySem PySem.W
namespace W
local macro_rules | `(tactic| walk_at "vc") => `(tactic| simp only [wSs, wS, wE, wEs, wL, wC, wI, wO, wHs, tgt, tgts, binD, cmpD, rngI, startM, List.map_cons, List.map_nil, List.length_cons, List.length_nil, List.replicate, List.append_assoc, List.cons_append, List.nil_append, List.getElem?_cons_zero, List.getElem?_cons_succ, List.set_cons_zero, List.set_cons_succ, z_ex1, z_ex2, truD_bl, z_seqT, z_ite1, z_ite0, z_iteD, z_add, z_sub, z_mul, z_fdiv, z_mod, z_pow, z_neg, z_addT, z_lenT, z_int, z_intB, z_abs, z_slT, z_eqI, z_eqB, z_eqT, z_ltI0, z_ltI1, z_ltT0, z_ltT1, z_ltK, z_is, z_isN, z_isT, z_isI, oD_non, fm2, fm20, List.length_map, Option.isNone_some, Option.isNone_none, oD, z_blE, z_intE, z_two, Bool.false_xor, Bool.true_xor, Option.bind_some, Option.some.injEq, exists_eq_left', true_and, if_true, if_false, Bool.false_eq_true])
theorem v_least_odd {c : Cn} {h : MH} {PQ : DK} {PE : Exn → MH → Prop} {ds : List D} (s : sp_least_odd ds h PQ PE) : wSs b_least_odd c { nx := fun _ h' => PQ .non h', rt := PQ } (startM N_least_odd.length ds) h := by
  obtain ⟨a, ws, n, rfl, ha, k⟩ := s
  walk_at "vc"
  refine ⟨true, _, seq_lst ha, ?_⟩
  unfold wds
  refine loop_map (fun pre σ h' => h' = h ∧ ∃ t, σ = [some (.ref a), some (.int n), some (oD (lo pre n)), t]) ⟨rfl, none, rfl⟩ (fun pre σ h' j => by rw [j.1]; exact seq_lst ha) ?_ ?_
  · rintro pre w post σ h' e ⟨rfl, t, rfl⟩
    walk_at "vc"
    rw [lo_snoc]
    refine ⟨by decide, ?_⟩
    by_cases o1 : w.length % 2 = 1
    · rw [if_pos o1]
      by_cases o2 : (w.length : Int) < n
      · rw [if_pos o2]
        have ok : okW n w = true := by unfold okW; simp [o1, o2]
        unfold loS
        rw [if_pos ok]
        cases lo pre n with
        | none => exact ⟨_, rfl⟩
        | some b =>
          walk_at "vc"
          refine ⟨small_le (by decide), small_le (by decide), ?_⟩
          by_cases o3 : wlt w b = true
          · simp only [o3, if_true]; exact ⟨_, rfl⟩
          · simp only [o3, if_false]; exact ⟨_, rfl⟩
      · rw [if_neg o2]
        have ok : ¬ okW n w = true := by unfold okW; simp [o2]
        unfold loS
        rw [if_neg ok]
        exact ⟨_, rfl⟩
    · rw [if_neg o1]
      have ok : ¬ okW n w = true := by unfold okW; simp [o1]
      unfold loS
      rw [if_neg ok]
      exact ⟨_, rfl⟩
  · rintro σ h' ⟨rfl, t, rfl⟩
    exact ⟨_, rfl, k⟩
end W
end MP

namespace MP
open PySem PySem.W
namespace W
local macro_rules | `(tactic| walk_at "vc") => `(tactic| simp only [wSs, wS, wE, wEs, wL, wC, wI, wO, wHs, tgt, tgts, binD, cmpD, rngI, startM, List.map_cons, List.map_nil, List.length_cons, List.length_nil, List.replicate, List.append_assoc, List.cons_append, List.nil_append, List.getElem?_cons_zero, List.getElem?_cons_succ, List.set_cons_zero, List.set_cons_succ, z_ex1, z_ex2, truD_bl, z_seqT, z_ite1, z_ite0, z_iteD, z_add, z_sub, z_mul, z_fdiv, z_mod, z_pow, z_neg, z_addT, z_lenT, z_int, z_intB, z_abs, z_slT, z_eqI, z_eqB, z_eqT, z_ltI0, z_ltI1, z_ltT0, z_ltT1, z_ltK, z_is, z_isN, z_isT, z_isI, oD_non, fm2, fm20, List.length_map, Option.isNone_some, Option.isNone_none, oD, z_blE, z_intE, z_two, Bool.false_xor, Bool.true_xor, Option.bind_some, Option.some.injEq, exists_eq_left', Nat.zero_le, wipeM, setAll, List.foldl_cons, List.foldl_nil, List.reverse_cons, List.reverse_nil, L.fresh, newL, true_and, if_true, if_false, Bool.false_eq_true])
theorem fst_idx {α : Type} (q : α → Bool) : ∀ (ws : List α) (k : Nat), (∃ w ∈ ws, q w = true) → ∃ x, ((ws.zipIdx k).filter fun p => q p.1)[0]? = some (x, k + ws.findIdx q)
  | [], k, h => by obtain ⟨w, hw, _⟩ := h; cases hw
  | w :: ws, k, h => by
    rw [List.zipIdx_cons]
    by_cases e : q w = true
    · rw [List.filter_cons_of_pos (by simpa using e)]
      refine ⟨w, ?_⟩
      simp [List.findIdx_cons, e]
    · rw [List.filter_cons_of_neg (by simpa using e)]
      obtain ⟨v, hv, hq⟩ := h
      have : ∃ v ∈ ws, q v = true := by
        rcases List.mem_cons.mp hv with rfl | hv
        · exact absurd hq e
        · exact ⟨v, hv, hq⟩
      obtain ⟨x, hx⟩ := fst_idx q ws (k + 1) this
      refine ⟨x, ?_⟩
      rw [hx]
      simp [List.findIdx_cons, e]; omega
theorem enm_map {α : Type} (f : α → D) (ws : List α) : enmL (ws.map f) = ws.zipIdx.map fun p => D.tup [.int p.2, f p.1] := by
  unfold enmL
  rw [List.zipIdx_map, List.map_map]
  rfl
theorem v_merged_ring {c : Cn} {h : MH} {PQ : DK} {PE : Exn → MH → Prop} {ds : List D} (s : sp_merged_ring ds h PQ PE) : wSs b_merged_ring c { nx := fun _ h' => PQ .non h', rt := PQ } (startM N_merged_ring.length ds) h := by
  obtain ⟨a, ws, l, rfl, ha, ex, z1, z2, k⟩ := s
  walk_at "vc"
  refine ⟨true, _, seq_lst ha, ?_⟩
  unfold wds
  rw [enm_map]
  refine ⟨small_le (by simp; omega), comp_map (p := fun p : List Int × Nat => decide (p.1 ≠ l)) (f := fun p => D.int (p.2 : Int)) (fun h' e => seq_lst (e a _ ha)) ?_ ?_⟩
  · rintro ⟨w, i⟩ acc h' K hx hl e hK
    walk_at "vc"
    refine ⟨small_lt (by simp at hl; omega), ?_⟩
    have := hK h' (.refl _)
    by_cases q : w = l <;> simp [q] at this ⊢ <;> exact this
  intro h1 e1
  walk_at "vc"
  refine ⟨small_le (by have := List.length_filter_le (fun p : List Int × Nat => decide (p.1 ≠ l)) ws.zipIdx; simp at this ⊢; omega), fun p1 n1 => ?_⟩
  obtain ⟨x0, hx0⟩ := fst_idx (fun w => decide (w ≠ l)) ws 0 (by obtain ⟨w, h1, h2⟩ := ex; exact ⟨w, h1, by simp [h2]⟩)
  rw [Nat.zero_add] at hx0
  have hb : ((ws.zipIdx.filter fun p => decide (p.1 ≠ l)).map fun p => D.int (p.2 : Int))[0]? = some (.int (fne l ws)) := by
    rw [List.getElem?_map, hx0]; rfl
  rw [show (0 : Int) = ((0 : Nat) : Int) from rfl, z_idxLn mup_same hb]
  walk_at "vc"
  have ha1 := mup_at (o := MO.lst (List.map (fun p => D.int (p.2 : Int)) (List.filter (fun p : List Int × Nat => decide (p.1 ≠ l)) ws.zipIdx))) n1 (e1 _ _ ha)
  have x1 : Ex h (mup h1 p1 (MO.lst (List.map (fun p => D.int (p.2 : Int)) (List.filter (fun p : List Int × Nat => decide (p.1 ≠ l)) ws.zipIdx)))) := e1.trans (Ex.new n1)
  generalize mup h1 p1 (MO.lst (List.map (fun p => D.int (p.2 : Int)) (List.filter (fun p : List Int × Nat => decide (p.1 ≠ l)) ws.zipIdx))) = h2 at ha1 x1 ⊢
  rw [show (fne l ws : Int) + 1 = ((fne l ws + 1 : Nat) : Int) by omega]
  refine sl_lst ha1 ?_
  rw [cut_from]
  refine ⟨small_le (by simp [wds]; omega), fun p2 n2 => ?_⟩
  refine sl_lst (mup_at n2 ha1) ?_
  rw [cut_to]
  refine ⟨small_le (by simp [wds]; omega), fun p3 n3 => ?_⟩
  refine add_lst (mup_at n3 mup_same) mup_same ?_
  refine ⟨small_le (by simp [wds]; omega), fun p4 n4 => ?_⟩
  have x4 := ((x1.trans (Ex.new (o := MO.lst ((wds ws).drop (fne l ws + 1))) n2)).trans (Ex.new (o := MO.lst ((wds ws).take (fne l ws + 1))) n3)).trans (Ex.new (o := MO.lst ((wds ws).drop (fne l ws + 1) ++ (wds ws).take (fne l ws + 1))) n4)
  have h4 := mup_same (h := (mup (mup h2 p2 (MO.lst ((wds ws).drop (fne l ws + 1)))) p3 (MO.lst ((wds ws).take (fne l ws + 1))))) (a := p4) (o := MO.lst ((wds ws).drop (fne l ws + 1) ++ (wds ws).take (fne l ws + 1)))
  generalize mup (mup (mup h2 p2 (MO.lst ((wds ws).drop (fne l ws + 1)))) p3 (MO.lst ((wds ws).take (fne l ws + 1)))) p4 (MO.lst ((wds ws).drop (fne l ws + 1) ++ (wds ws).take (fne l ws + 1))) = h5 at x4 h4 ⊢
  have ec : (wds ws).drop (fne l ws + 1) ++ (wds ws).take (fne l ws + 1) = (cutB (fne l ws + 1) ws).map tI := by simp [wds, cutB]
  rw [ec] at h4
  intro p5 n5
  have ne54 : p5 ≠ p4 := fun z => by rw [z, h4] at n5; cases n5
  have zc : ∀ w ∈ cutB (fne l ws + 1) ws, w.length ≤ 100 := fun w hw => z2 w (((isRot_cut (fne l ws + 1) ws).mem w).mpr hw)
  have zl : (cutB (fne l ws + 1) ws).length ≤ 100 := by rw [← (isRot_cut (fne l ws + 1) ws).len]; exact z1
  have em : mring ws l = mrg l (cutB (fne l ws + 1) ws) := rfl
  generalize cutB (fne l ws + 1) ws = X at h4 zc zl em
  refine ⟨true, _, seq_lst (mup_at n5 h4), ?_⟩
  refine loop_map (fun pre σ h' => Ex h h' ∧ h' p4 = some (.lst (X.map tI)) ∧ h' p5 = some (.lst (wds (pre.foldl (mst l) ([], [])).1)) ∧ ∃ t k1, (pre.foldl (mst l) ([], [])).2.length ≤ 100 * pre.length ∧ σ = [some (.ref a), some (tI l), k1, some (.ref p4), some (.ref p5), some (tI (pre.foldl (mst l) ([], [])).2), t, none]) ⟨x4.trans (Ex.new n5), mup_at n5 h4, mup_same, none, _, Nat.zero_le _, rfl⟩ (fun pre σ h' j => seq_lst j.2.1) ?_ ?_
  · rintro pre w post σ h' e ⟨g1, g2, g3, t, k1, g4, rfl⟩
    have hw : w.length ≤ 100 := zc w (by rw [e]; simp)
    have hp : pre.length < 100 := by have := congrArg List.length e; simp at this; omega
    have er : (pre ++ [w]).foldl (mst l) ([], []) = mst l (pre.foldl (mst l) ([], [])) w := by rw [List.foldl_append]; rfl
    rw [er]
    have hlen : (pre.foldl (mst l) ([], [])).1.length ≤ pre.length := by
      have h1 := mst_len l pre [] []
      have h2 := List.length_filter_le (fun w => decide (w ≠ l)) pre
      rw [h1]; simp only [List.length_nil]; omega
    generalize pre.foldl (mst l) ([], []) = r at g3 g4 hlen ⊢
    walk_at "vc"
    have hs : r.2.length + w.length ≤ sizeLine := small_le (by omega)
    by_cases q : w = l
    · rw [if_pos q]
      refine ⟨hs, g1, g2, ?_, some (tI w), k1, ?_, ?_⟩
      · unfold mst; rw [if_pos q]; exact g3
      · unfold mst; rw [if_pos q]; simp; omega
      · unfold mst; rw [if_pos q]; simp
    · rw [if_neg q]
      refine ⟨onL g3 (by simp), hs, app_q g3 (small_lt (by simp [wds]; omega)) ?_⟩
      refine ⟨g1.upd ?_, by rw [mup_ne (Ne.symm ne54)]; exact g2, ?_, some (tI w), k1, ?_, ?_⟩
      · exact x4.none n5
      · rw [mup_same]; unfold mst; rw [if_neg q]; simp [wds]
      · unfold mst; rw [if_neg q]; simp
      · unfold mst; rw [if_neg q]; rfl
  · rintro σ h' ⟨g1, g2, g3, t, k1, _, rfl⟩
    refine ⟨_, rfl, k h' p5 g1 (x4.none n5) ?_⟩
    rw [g3, em]; rfl
end W
end MP

namespace MP
open PySem PySem.W
namespace W
local macro_rules | `(tactic| walk_at "vc") => `(tactic| simp only [wSs, wS, wE, wEs, wL, wC, wI, wO, wHs, tgt, tgts, binD, cmpD, rngI, startM, List.map_cons, List.map_nil, List.length_cons, List.length_nil, List.replicate, List.append_assoc, List.cons_append, List.nil_append, List.getElem?_cons_zero, List.getElem?_cons_succ, List.set_cons_zero, List.set_cons_succ, z_ex1, z_ex2, truD_bl, z_seqT, z_ite1, z_ite0, z_iteD, z_add, z_sub, z_mul, z_fdiv, z_mod, z_pow, z_neg, z_addT, z_lenT, z_int, z_intB, z_abs, z_slT, z_eqI, z_eqB, z_eqT, z_ltI0, z_ltI1, z_ltT0, z_ltT1, z_ltK, z_is, z_isN, z_isT, z_isI, oD_non, fm2, fm20, List.length_map, Option.isNone_some, Option.isNone_none, oD, z_blE, z_intE, z_two, Bool.false_xor, Bool.true_xor, Option.bind_some, Option.some.injEq, exists_eq_left', Nat.zero_le, wipeM, setAll, List.foldl_cons, List.foldl_nil, List.reverse_cons, List.reverse_nil, L.fresh, newL, true_and, if_true, if_false, Bool.false_eq_true])
theorem z_rot {w : List Int} {k : Nat} : cutD (dI w) (some (k : Int)) none ++ cutD (dI w) none (some (k : Int)) = dI (rot w k) := by
  rw [cut_from, cut_to]; simp [rot, dI]
theorem pds_tI (h : MH) : ∀ ws : List (List Int), pds h (ws.map tI) = some (ws.map fun w => .tuple (w.map .int))
  | [] => rfl
  | w :: ws => by
    show (pd h (tI w)).bind _ = _
    rw [pd_tI, Option.bind_some, pds_tI h ws]; rfl
theorem any_tI (w : List Int) : ∀ ws : List (List Int), ((ws.map fun w => PyData.tuple (w.map .int)).any fun q => PyData.eqv q (.tuple (w.map .int))) = decide (w ∈ ws)
  | [] => by simp
  | v :: ws => by
    rw [List.map_cons, List.any_cons, any_tI w ws, eqv_ints]
    by_cases e : v = w
    · simp [e]
    · have : ¬ w = v := fun z => e z.symm
      simp [e, this]
theorem z_inL {h : MH} {Q : DK} {ng : Bool} {p : Addr} {w : List Int} {ws : List (List Int)} (e : h p = some (.lst (ws.map tI))) (q : Q (.bl (ng ^^ decide (w ∈ ws))) h) : inD ng (tI w) (.ref p) h Q := by
  unfold inD
  have : dctOf h (.ref p) = none := by simp [dctOf, e]
  rw [this]
  exact ⟨_, _, _, _, seq_lst e, pd_tI h w, pds_tI h ws, by rw [any_tI]; exact q⟩
theorem rots_mem {w : List Int} (hn : 1 ≤ w.length) : (w ∈ (List.range (w.length - 1)).map fun i => rot w (1 + i)) ↔ ¬ Pln w := by
  constructor
  · intro m p
    obtain ⟨i, hi, e⟩ := List.mem_map.mp m
    have := List.mem_range.mp hi
    exact p.2 (1 + i) (by omega) (by omega) e
  · intro np
    refine Classical.byContradiction fun z => np ⟨fun e => by rw [e] at hn; simp at hn, fun k h1 h2 e => z (List.mem_map.mpr ⟨k - 1, List.mem_range.mpr (by omega), ?_⟩)⟩
    rw [show 1 + (k - 1) = k by omega]; exact e
theorem Sta.small {w : List Int} {bs : List Bk} (h : Sta w bs) : bs.length ≤ w.length ∧ ∀ b ∈ bs, b.2.length ≤ w.length := by
  obtain ⟨⟨s, c⟩, ne⟩ := h
  have h1 := c.sum
  obtain ⟨h2, h3⟩ := len_sum ne
  exact ⟨by omega, fun b hb => by have := h3 b hb; omega⟩
theorem loop_rng {α : Type} {lo : Int} {n : Nat} {st : MH → Prop} {turn : D → α → MH → (α → MH → Prop) → Prop} {a : α} {h : MH} {Q : α → MH → Prop} (w : loopW ((List.range n).map fun (i : Nat) => D.int (lo + i)) st turn a h Q) : loopW (rngL lo n) st turn a h Q := w
theorem v_away_turn {c : Cn} (hc : c.fn = spT) {h : MH} {PQ : DK} {PE : Exn → MH → Prop} (hxm : c.xm = fun e _ h => PE e h) {ds : List D} (s : sp_away_turn ds h PQ PE) : wSs b_away_turn c { nx := fun _ h' => PQ .non h', rt := PQ } (startM N_away_turn.length ds) h := by
  obtain ⟨q, w, rfl, hw, s⟩ := s
  walk_at "vc"
  simp only [hc, spT, hxm]
  refine ⟨by decide, ?_⟩
  by_cases ev : w.length % 2 = 0
  · rw [if_pos ev]
    rcases s with ⟨g, _⟩ | ⟨_, k⟩
    · have := g.2; omega
    · exact k h (.refl h)
  rw [if_neg ev]
  have hn : 1 ≤ w.length := by omega
  refine ⟨⟨by omega, by omega⟩, ⟨by omega, by omega⟩, ?_⟩
  have en : ((w.length : Int) - 1).toNat = w.length - 1 := by omega
  rw [en]
  refine ⟨small_le (by rw [rngL_len]; omega), ?_⟩
  refine comp_map (xs := List.range (w.length - 1)) (dx := fun (i : Nat) => D.int (1 + i)) (p := fun _ => true) (f := fun i => tI (rot w (1 + i))) (fun _ _ => trivial) ?_ ?_
  · rintro i acc h' K hi hl e hK
    have hi := List.mem_range.mp hi
    refine ⟨small_lt (by simp at hl; omega), _, rfl, _, rfl, ?_⟩
    rw [show (1 : Int) + (i : Int) = ((1 + i : Nat) : Int) by omega]
    refine ⟨small_le (by rw [cut_from, cut_to]; simp; omega), ?_⟩
    rw [z_rot]
    exact hK h' (.refl _)
  intro h1 e1
  rw [List.filter_eq_self.mpr fun _ _ => rfl]
  refine ⟨small_le (by simp; omega), fun p1 n1 => ?_⟩
  have em : (List.range (w.length - 1)).map (fun i => tI (rot w (1 + i))) = ((List.range (w.length - 1)).map fun i => rot w (1 + i)).map tI := by rw [List.map_map]; rfl
  rw [em]
  refine z_inL mup_same ?_
  walk_at "vc"
  have rm := rots_mem hn
  have x1 := e1.trans (Ex.new (o := MO.lst (((List.range (w.length - 1)).map fun i => rot w (1 + i)).map tI)) n1)
  generalize mup h1 p1 (MO.lst (((List.range (w.length - 1)).map fun i => rot w (1 + i)).map tI)) = h2 at x1 ⊢
  by_cases pl : Pln w
  case neg =>
    rw [if_pos (rm.mpr pl)]
    rcases s with ⟨g, _⟩ | ⟨_, k⟩
    · exact absurd g.1 pl
    · exact k h2 x1
  rw [if_neg (fun z => rm.mp z pl)]
  have gd : Gd w := ⟨pl, by omega⟩
  rcases s with ⟨_, k⟩ | ⟨g, _⟩
  case inr => exact absurd gd g
  refine ⟨small_le (by omega), ?_⟩
  refine comp_map (xs := w) (dx := D.int) (p := fun _ => true) (f := fun i => tI [i]) (fun _ _ => rfl) ?_ ?_
  · rintro i acc h' K hi hl e hK
    exact ⟨small_lt (by omega), small_le (by decide), hK h' (.refl _)⟩
  intro h3 e3
  rw [List.filter_eq_self.mpr fun _ _ => rfl]
  refine ⟨small_le (by simp; omega), fun p3 n3 => ?_⟩
  have x3 := (x1.trans e3).trans (Ex.new (o := MO.lst (w.map fun i => tI [i])) n3)
  have e0 : (w.map fun i => tI [i]) = wds ((ini w).map (·.2)) := by rw [ini_snd]; simp [wds]
  rw [e0] at x3 ⊢
  refine ⟨fun m σ h' => Ex h h' ∧ ∃ (bs : List Bk) (kk : Nat) (p : Addr) (t t2 : Option D), m = bs.length ∧ σ = [some q, some (tI w), some (.ref p), t, t2] ∧ h' p = some (.lst (wds (bs.map (·.2)))) ∧ Sta w bs ∧ 1 ≤ bs.length ∧ bs.length ≤ kk + 1 ∧ tring w.length kk bs = [tfin w], ⟨_, x3, ini w, w.length, p3, none, none, rfl, rfl, mup_same, ini_sta, by rw [ini_len]; omega, by rw [ini_len]; omega, (tfin_eq pl gd.2).1⟩, ?_⟩
  rintro m σ h' ⟨g1, bs, kk, p, t, t2, rfl, rfl, g2, g3, g4, g5, g6⟩
  walk_at "vc"
  refine len_lst g2 ?_
  have el : (wds (bs.map (·.2))).length = bs.length := by simp [wds]
  rw [el]
  walk_at "vc"
  obtain ⟨sm1, sm2⟩ := Sta.small g3
  by_cases hl : 1 < bs.length
  · rw [if_pos (by omega)]
    obtain ⟨l, el, lm⟩ := g3.odd gd.2 (by omega)
    have ex := g3.unlike (l := l) pl (by omega)
    refine ⟨p, bs.map (·.2), w.length, rfl, g2, ?_⟩
    rw [el]
    refine ⟨p, bs.map (·.2), l, rfl, g2, ?_, by simp; omega, ?_, fun h4 p4 x4 n4 g7 => ?_⟩
    · obtain ⟨b, h1, h2⟩ := ex; exact ⟨b.2, List.mem_map_of_mem h1, h2⟩
    · intro v hv
      obtain ⟨b, hb, rfl⟩ := List.mem_map.mp hv
      have := sm2 b hb; omega
    · obtain ⟨k', rfl⟩ : ∃ k', kk = k' + 1 := ⟨kk - 1, by omega⟩
      unfold tring at g6
      rw [if_neg (by omega), el] at g6
      refine ⟨_, tmr_lt lm, g1.trans x4, tmr bs l, k', p4, t, t2, rfl, rfl, by rw [tmr_snd]; exact g7, g3.step ex, tmr_pos ex, by have := tmr_lt lm; omega, g6⟩
  · rw [if_neg (by omega)]
    obtain ⟨b, rfl⟩ : ∃ b, bs = [b] := by
      match bs, g4, hl with
      | [b], _, _ => exact ⟨b, rfl⟩
      | _ :: _ :: _, _, h => simp at h
    have : [b] = [tfin w] := by
      cases kk with
      | zero => exact g6
      | succ k' => unfold tring at g6; rw [if_pos (by simp)] at g6; exact g6
    cases this
    rw [show (0 : Int) = ((0 : Nat) : Int) from rfl, z_idxLn g2 rfl]
    exact k h' g1
theorem filter_uni {q : Nat → Bool} {p : Nat} : ∀ {n : Nat}, p < n → (∀ k, k < n → (q k = true ↔ k = p)) → (List.range n).filter q = [p]
  | n + 1, hp, h => by
    rw [List.range_succ, List.filter_append]
    by_cases e : p = n
    · subst e
      have : (List.range p).filter q = [] := List.filter_eq_nil_iff.mpr fun k hk => by
        have hk := List.mem_range.mp hk
        intro z
        have := (h k (by omega)).mp z
        omega
      rw [this, List.filter_cons_of_pos ((h p (by omega)).mpr rfl)]; rfl
    · rw [filter_uni (n := n) (by omega) fun k hk => h k (by omega)]
      have : ¬ q n = true := fun z => e ((h n (by omega)).mp z).symm
      rw [List.filter_cons_of_neg this]; rfl
theorem v_away_place {c : Cn} (hc : c.fn = spT) {h : MH} {PQ : DK} {PE : Exn → MH → Prop} (hxm : c.xm = fun e _ h => PE e h) {ds : List D} (s : sp_away_place ds h PQ PE) : wSs b_away_place c { nx := fun _ h' => PQ .non h', rt := PQ } (startM N_away_place.length ds) h := by
  obtain ⟨q, w, rfl, hw, s⟩ := s
  walk_at "vc"
  simp only [hc, spT, hxm]
  rcases s with ⟨g, k⟩ | ⟨g, k⟩
  case inr => exact ⟨q, w, rfl, hw, .inr ⟨g, k⟩⟩
  refine ⟨q, w, rfl, hw, .inl ⟨g, fun h1 e1 => ?_⟩⟩
  walk_at "vc"
  refine ⟨⟨by omega, by omega⟩, small_le (by rw [rngL_len]; omega), ?_⟩
  obtain ⟨t1, t2, t3, t4⟩ := tfin_eq g.1 g.2
  refine comp_map (xs := List.range w.length) (dx := fun (i : Nat) => D.int (0 + i)) (p := fun i => decide (rot w i = tuF w)) (f := fun i => D.int i) (fun _ _ => trivial) ?_ ?_
  · rintro i acc h' K hi hl e hK
    have hi := List.mem_range.mp hi
    rw [List.length_range] at hl
    refine ⟨small_lt (by omega), _, rfl, _, rfl, ?_⟩
    rw [show (0 : Int) + (i : Int) = (i : Int) by omega]
    refine ⟨small_le (by rw [cut_from, cut_to]; simp; omega), ?_⟩
    rw [z_rot]
    walk_at "vc"
    have := hK h' (.refl _)
    by_cases q : rot w i = tuF w <;> simp [q] at this ⊢ <;> exact this
  intro h2 e2
  rw [filter_uni (p := plF w) t3 fun k hk => by
    rw [decide_eq_true_eq, t4]
    exact ⟨fun e => g.1.inj hk t3 e, fun e => by rw [e]⟩]
  refine ⟨small_le (by simp), fun p2 n2 => ?_⟩
  rw [show (0 : Int) = ((0 : Nat) : Int) from rfl, z_idxLn mup_same rfl]
  exact k _ ((e1.trans e2).trans (Ex.new n2))
theorem tuF_self {w : List Int} (g : Gd w) : decide (tuF w = w) = decide (plF w = 0) := by
  obtain ⟨t1, t2, t3, t4⟩ := tfin_eq g.1 g.2
  rw [t4]
  by_cases e : plF w = 0
  · simp [e, rot_zero]
  · have := g.1.2 (plF w) (by omega) t3
    simp [e, this]
theorem v_is_away_word {c : Cn} (hc : c.fn = spT) {h : MH} {PQ : DK} {PE : Exn → MH → Prop} (hxm : c.xm = fun e _ h => PE e h) {ds : List D} (s : sp_is_away_word ds h PQ PE) : wSs b_is_away_word c { nx := fun _ h' => PQ .non h', rt := PQ } (startM N_is_away_word.length ds) h := by
  obtain ⟨q, w, rfl, hw, s⟩ := s
  walk_at "vc"
  simp only [hc, spT, hxm]
  rcases s with ⟨g, k⟩ | ⟨g, k⟩
  case inr => exact ⟨q, w, rfl, hw, .inr ⟨g, k⟩⟩
  refine ⟨q, w, rfl, hw, .inl ⟨g, fun h1 e1 => ?_⟩⟩
  walk_at "vc"
  rw [tuF_self g]
  exact k h1 e1
theorem pln_all {w : List Int} (hw : w ≠ []) : ((List.range (w.length - 1)).all fun i => decide (rot w (1 + i) ≠ w)) = true ↔ Pln w := by
  rw [List.all_eq_true]
  constructor
  · intro h
    refine ⟨hw, fun k h1 h2 => ?_⟩
    have := h (k - 1) (List.mem_range.mpr (by omega))
    rw [show 1 + (k - 1) = k by omega] at this
    exact of_decide_eq_true this
  · intro p i hi
    have := List.mem_range.mp hi
    exact decide_eq_true (p.2 (1 + i) (by omega) (by omega))
theorem boolsD_map {α : Type} (f : α → Bool) : ∀ l : List α, boolsD (l.map fun i => D.bl (f i)) = some (l.map f)
  | [] => rfl
  | i :: l => by rw [List.map_cons, boolsD, boolsD_map f l]; rfl
theorem v__law_is_plain {c : Cn} {h : MH} {PQ : DK} {PE : Exn → MH → Prop} {ds : List D} (s : sp__law_is_plain ds h PQ PE) : wSs b__law_is_plain c { nx := fun _ h' => PQ .non h', rt := PQ } (startM N__law_is_plain.length ds) h := by
  obtain ⟨w, rfl, hw, k⟩ := s
  walk_at "vc"
  have e0 : eqD true (tI w) (.tup []) h = fun Q => Q (.bl (true ^^ decide (w = []))) h := by funext Q; exact z_eqT (b := [])
  rw [e0]
  walk_at "vc"
  by_cases e : w = []
  · simp only [e, decide_true, Bool.not_true, Bool.false_eq_true, if_false]
    refine k h false (.refl _) ⟨fun z => by simp at z, fun p => absurd e p.1⟩
  · simp only [e, decide_false, Bool.not_false, if_true]
    have hn : 0 < w.length := List.length_pos_iff.mpr e
    refine ⟨⟨by omega, by omega⟩, ⟨by omega, by omega⟩, ?_⟩
    have en : ((w.length : Int) - 1).toNat = w.length - 1 := by omega
    rw [en]
    refine ⟨small_le (by rw [rngL_len]; omega), ?_⟩
    refine comp_map (xs := List.range (w.length - 1)) (dx := fun (i : Nat) => D.int (1 + i)) (p := fun _ => true) (f := fun i => D.bl (decide (rot w (1 + i) ≠ w))) (fun _ _ => trivial) ?_ ?_
    · rintro i acc h' K hi hl e hK
      have hi := List.mem_range.mp hi
      refine ⟨small_lt (by simp at hl; omega), _, rfl, _, rfl, ?_⟩
      rw [show (1 : Int) + (i : Int) = ((1 + i : Nat) : Int) by omega]
      refine ⟨small_le (by rw [cut_from, cut_to]; simp; omega), ?_⟩
      rw [z_rot]
      walk_at "vc"
      have := hK h' (.refl _)
      rw [if_pos rfl] at this
      simpa using this
    intro h1 e1
    rw [List.filter_eq_self.mpr fun _ _ => rfl]
    refine ⟨rfl, _, boolsD_map _ _, ?_⟩
    refine k h1 _ e1 ?_
    rw [← pln_all e, List.all_map]
    rfl
end W
end MP

namespace MP
open PySem PySem.W
namespace W
local macro_rules | `(tactic| walk_at "vc") => `(tactic| simp only [wSs, wS, wE, wEs, wL, wC, wI, wO, wHs, tgt, tgts, binD, cmpD, rngI, startM, List.map_cons, List.map_nil, List.length_cons, List.length_nil, List.replicate, List.append_assoc, List.cons_append, List.nil_append, List.getElem?_cons_zero, List.getElem?_cons_succ, List.set_cons_zero, List.set_cons_succ, z_ex1, z_ex2, truD_bl, z_seqT, z_ite1, z_ite0, z_iteD, z_add, z_sub, z_mul, z_fdiv, z_mod, z_pow, z_neg, z_addT, z_lenT, z_int, z_intB, z_abs, z_slT, z_eqI, z_eqB, z_eqT, z_ltI0, z_ltI1, z_ltT0, z_ltT1, z_ltK, z_is, z_isN, z_isT, z_isI, oD_non, fm2, fm20, List.length_map, Option.isNone_some, Option.isNone_none, oD, z_blE, z_intE, z_two, Bool.false_xor, Bool.true_xor, Option.bind_some, Option.some.injEq, exists_eq_left', Nat.zero_le, wipeM, setAll, List.foldl_cons, List.foldl_nil, List.reverse_cons, List.reverse_nil, L.fresh, newL, true_and, if_true, if_false, Bool.false_eq_true])
theorem v__law_told {c : Cn} (hc : c.fn = spT) (hsub : c.sub = subNm) {h : MH} {PQ : DK} {PE : Exn → MH → Prop} {ds : List D} (s : sp__law_told ds h PQ PE) : wSs b__law_told c { nx := fun _ h' => PQ .non h', rt := PQ } (startM N__law_told.length ds) h := by
  obtain ⟨i, q, w, nm, rfl, hi, hw, s⟩ := s
  walk_at "vc"
  simp only [hc, spT, hsub]
  have hi3 : i = 0 ∨ i = 1 ∨ i = 2 := by omega
  rcases hi3 with rfl | rfl | rfl
  · rw [if_pos (show ((0 : Nat) : Int) = 0 from rfl)]
    cases nm <;> simp only [Bool.false_eq_true, if_false, if_true]
    all_goals
      refine ⟨q, w, rfl, hw, ?_⟩
      rcases s with ⟨g, k⟩ | ⟨g, k⟩
      · exact .inl ⟨g, fun h' e => k h' e⟩
      · refine .inr ⟨g, fun h' e => ?_⟩
        dsimp only
        rw [if_pos (by decide)]
        intro a na
        refine ⟨_, a, rfl, rfl, _, a, rfl, rfl, small_le (by decide), small_le (by decide), fun p np => k _ p (e.trans (Ex.new np)) (e.none np) ?_⟩
        rw [mup_same]; rfl
  · rw [if_neg (show ¬ ((1 : Nat) : Int) = 0 by decide), if_pos (show ((1 : Nat) : Int) = 1 from rfl)]
    cases nm <;> simp only [Bool.false_eq_true, if_false, if_true]
    all_goals
      refine ⟨q, w, rfl, hw, ?_⟩
      rcases s with ⟨g, k⟩ | ⟨g, k⟩
      · exact .inl ⟨g, fun h' e => k h' e⟩
      · refine .inr ⟨g, fun h' e => ?_⟩
        dsimp only
        rw [if_pos (by decide)]
        intro a na
        refine ⟨_, a, rfl, rfl, _, a, rfl, rfl, small_le (by decide), small_le (by decide), fun p np => k _ p (e.trans (Ex.new np)) (e.none np) ?_⟩
        rw [mup_same]; rfl
  · rw [if_neg (show ¬ ((2 : Nat) : Int) = 0 by decide), if_neg (show ¬ ((2 : Nat) : Int) = 1 by decide)]
    cases nm <;> simp only [Bool.false_eq_true, if_false, if_true]
    all_goals
      refine ⟨q, w, rfl, hw, ?_⟩
      rcases s with ⟨g, k⟩ | ⟨g, k⟩
      · exact .inl ⟨g, fun h' e => k h' e⟩
      · refine .inr ⟨g, fun h' e => ?_⟩
        dsimp only
        rw [if_pos (by decide)]
        intro a na
        refine ⟨_, a, rfl, rfl, _, a, rfl, rfl, small_le (by decide), small_le (by decide), fun p np => k _ p (e.trans (Ex.new np)) (e.none np) ?_⟩
        rw [mup_same]; rfl
/-! ### the least of keyed words -/
def kyD (w : List Int) : D := .tup [.int (w.length : Int), tI w]
theorem toP_ky (w : List Int) : toP (kyD w) = .tuple [.int (w.length : Int), .tuple (w.map .int)] := by
  unfold toP kyD
  rw [pdW, pdWs, pdW, pdWs, pdW, pdWs_dI, pdWs]
  rfl
theorem pure0_ky (w : List Int) : pure0 (kyD w) = true := by
  unfold pure0 kyD
  rw [pdW, pdWs, pdW, pdWs, pdW, pdWs_dI, pdWs]
  simp [PyData.depth, PyData.depthAll, PySem.W.depth_ints]
def mw (x : List Int) (xs : List (List Int)) : List Int := xs.foldl (fun a y => if wlt y a = true then y else a) x
theorem minD_ky : ∀ (xs : List (List Int)) (x : List Int), minD (kyD x) (xs.map kyD) = kyD (mw x xs)
  | [], x => rfl
  | y :: xs, x => by
    have ih := minD_ky xs (if wlt y x = true then y else x)
    unfold minD mw at ih ⊢
    rw [List.map_cons, List.foldl_cons, List.foldl_cons, toP_ky, toP_ky, lt_key, ← ih]
    by_cases e : wlt y x = true <;> simp [e]
theorem minOk_ky (ws : List (List Int)) : MinOk ((ws.map kyD).map toP) := by
  unfold MinOk
  rw [List.map_map]
  refine ⟨fun d hd d' hd' => ?_, fun d hd => ?_⟩
  · obtain ⟨l, _, rfl⟩ := List.mem_map.mp hd
    obtain ⟨l', _, rfl⟩ := List.mem_map.mp hd'
    show alike (toP (kyD l)) (toP (kyD l')) = true
    rw [toP_ky, toP_ky]
    simp [alike, alikeAll, alike_tI]
  · obtain ⟨l, _, rfl⟩ := List.mem_map.mp hd
    show toP (kyD l) ≠ .none
    rw [toP_ky]; simp
theorem lo_mw (n : Int) : ∀ (xs : List (List Int)) (x : List Int), (∀ w ∈ xs, okW n w = true) → xs.foldl (loS n) (some x) = some (mw x xs)
  | [], x, _ => rfl
  | y :: xs, x, h => by
    rw [List.foldl_cons]
    have : loS n (some x) y = some (if wlt y x = true then y else x) := by
      unfold loS
      rw [if_pos (h y List.mem_cons_self)]
      by_cases e : wlt y x = true <;> simp [e]
    rw [this, lo_mw n xs _ fun w hw => h w (List.mem_cons_of_mem _ hw)]
    rfl
theorem lo_filter {n : Int} {ws : List (List Int)} {x : List Int} {xs : List (List Int)} (hk : ∀ w ∈ ws, (w.length : Int) < n) (e : (ws.filter fun w => decide (w.length % 2 = 1)) = x :: xs) : lo ws n = some (mw x xs) := by
  have ok : ∀ w ∈ x :: xs, okW n w = true ∧ w ∈ ws := fun w hw => by
    rw [← e] at hw
    obtain ⟨h1, h2⟩ := List.mem_filter.mp hw
    have := hk w h1
    have h2 := of_decide_eq_true h2
    unfold okW
    exact ⟨by simp [h2, this], h1⟩
  have h1 : lo (x :: xs) n = some (mw x xs) := by
    unfold lo
    rw [List.foldl_cons]
    have : loS n none x = some x := by unfold loS; rw [if_pos (ok x List.mem_cons_self).1]
    rw [this, lo_mw n xs x fun w hw => (ok w (List.mem_cons_of_mem _ hw)).1]
  have h2 := lo_ok (x :: xs) n
  rw [h1] at h2
  refine loOk_uni (A := ws) (B := ws) (fun _ => Iff.rfl) (lo_ok ws n) ⟨(ok _ h2.1).2, h2.2.1, fun w hw hk' => h2.2.2 w ?_ hk'⟩
  rw [← e]
  refine List.mem_filter.mpr ⟨hw, ?_⟩
  unfold okW at hk'
  simp only [Bool.and_eq_true, decide_eq_true_eq] at hk'
  exact decide_eq_true hk'.1
theorem minD_first {x : Int} : ∀ {xs : List Int}, (∀ y ∈ xs, x < y) → minD (.int x) (xs.map D.int) = .int x
  | [], _ => rfl
  | y :: xs, h => by
    have ih := minD_first (xs := xs) fun z hz => h z (List.mem_cons_of_mem _ hz)
    unfold minD at ih ⊢
    rw [List.map_cons, List.foldl_cons]
    have : dataLt (toP (.int y)) (toP (.int x)) = false := by
      show dataLt (.int y) (.int x) = false
      rw [dataLt_int]
      have := h y List.mem_cons_self
      simp; omega
    rw [this, if_neg (by decide)]
    exact ih
theorem minOk_int (ws : List Int) : MinOk ((ws.map D.int).map toP) := by
  unfold MinOk
  rw [List.map_map]
  refine ⟨fun d hd d' hd' => ?_, fun d hd => ?_⟩
  · obtain ⟨l, _, rfl⟩ := List.mem_map.mp hd
    obtain ⟨l', _, rfl⟩ := List.mem_map.mp hd'
    show alike (.int l) (.int l') = true
    simp [alike]
  · obtain ⟨l, _, rfl⟩ := List.mem_map.mp hd
    show PyData.int l ≠ .none
    simp
theorem rng_first {q : Nat → Bool} {m : Nat} (h : ∃ k, k < m ∧ q k = true) : ∃ f xs, (List.range m).filter q = f :: xs ∧ (∀ y ∈ xs, f < y) ∧ f < m ∧ q f = true ∧ ∀ k, k < m → q k = true → f ≤ k := by
  have hp : ((List.range m).filter q).Pairwise (· < ·) := List.Pairwise.filter _ List.pairwise_lt_range
  cases e : (List.range m).filter q with
  | nil =>
    obtain ⟨k, h1, h2⟩ := h
    have : k ∈ (List.range m).filter q := List.mem_filter.mpr ⟨List.mem_range.mpr h1, h2⟩
    rw [e] at this; cases this
  | cons f xs =>
    rw [e] at hp
    have hp := List.pairwise_cons.mp hp
    have hf : f ∈ (List.range m).filter q := by rw [e]; exact List.mem_cons_self
    obtain ⟨h1, h2⟩ := List.mem_filter.mp hf
    refine ⟨f, xs, rfl, hp.1, List.mem_range.mp h1, h2, fun k hk hq => ?_⟩
    have : k ∈ f :: xs := by rw [← e]; exact List.mem_filter.mpr ⟨List.mem_range.mpr hk, hq⟩
    rcases List.mem_cons.mp this with rfl | h
    · exact Nat.le_refl _
    · exact Nat.le_of_lt (hp.1 k h)
end W
end MP

namespace MP
open PySem PySem.W
namespace W
local macro_rules | `(tactic| walk_at "vc") => `(tactic| simp only [wSs, wS, wE, wEs, wL, wC, wI, wO, wHs, tgt, tgts, binD, cmpD, rngI, startM, List.map_cons, List.map_nil, List.length_cons, List.length_nil, List.replicate, List.append_assoc, List.cons_append, List.nil_append, List.getElem?_cons_zero, List.getElem?_cons_succ, List.set_cons_zero, List.set_cons_succ, z_ex1, z_ex2, truD_bl, z_seqT, z_ite1, z_ite0, z_iteD, z_at0, z_at1, z_at2, z_add, z_sub, z_mul, z_fdiv, z_mod, z_pow, z_neg, z_addT, z_lenT, z_int, z_intB, z_abs, z_slT, z_eqI, z_eqB, z_eqT, z_ltI0, z_ltI1, z_ltT0, z_ltT1, z_ltK, z_is, z_isN, z_isT, z_isI, oD_non, fm2, fm20, List.length_map, Option.isNone_some, Option.isNone_none, oD, z_blE, z_intE, z_two, Bool.false_xor, Bool.true_xor, Option.bind_some, Option.some.injEq, exists_eq_left', Nat.zero_le, wipeM, setAll, List.foldl_cons, List.foldl_nil, List.reverse_cons, List.reverse_nil, L.fresh, newL, true_and, if_true, if_false, Bool.false_eq_true])
def bD (b : Bk) : D := .tup [.int b.1, tI b.2]
theorem Sta.lt {w : List Int} {bs : List Bk} (h : Sta w bs) (h2 : 2 ≤ bs.length) : ∀ b ∈ bs, b.2.length < w.length := by
  obtain ⟨⟨s, c⟩, ne⟩ := h
  have h1 := c.sum
  obtain ⟨_, h3⟩ := len_sum ne
  exact fun b hb => by have := h3 b hb; omega
theorem v__law_place {c : Cn} {h : MH} {PQ : DK} {PE : Exn → MH → Prop} {ds : List D} (s : sp__law_place ds h PQ PE) : wSs b__law_place c { nx := fun _ h' => PQ .non h', rt := PQ } (startM N__law_place.length ds) h := by
  obtain ⟨w, rfl, hw, g, k⟩ := s
  walk_at "vc"
  rw [enm_map]
  refine ⟨small_le (by simp; omega), ?_⟩
  refine comp_map (p := fun _ => true) (f := fun p : Int × Nat => bD ((p.2 : Int), [p.1])) (fun _ _ => rfl) ?_ ?_
  · rintro ⟨x, i⟩ acc h' K hx hl e hK
    walk_at "vc"
    exact ⟨small_lt (by simp at hl; omega), small_le (by decide), small_le (by decide), hK h' (.refl _)⟩
  intro h1 e1
  rw [List.filter_eq_self.mpr fun _ _ => rfl]
  have e0 : (w.zipIdx.map fun p : Int × Nat => bD ((p.2 : Int), [p.1])) = (ini w).map bD := by unfold ini; rw [List.map_map]; rfl
  rw [e0]
  refine ⟨small_le (by simp [ini_len]; omega), fun p1 n1 => ⟨⟨by omega, by omega⟩, ?_⟩⟩
  have x1 := e1.trans (Ex.new (o := MO.lst ((ini w).map bD)) n1)
  have hn : ((w.length : Nat) : Int).toNat = w.length := by omega
  rw [hn]
  refine loop_map (xs := List.range w.length) (f := fun (i : Nat) => D.int (0 + i)) (fun pre σ h' => Ex h h' ∧ ∃ (bs : List Bk) (kk : Nat) (p : Addr) (t2 t3 t4 t5 t6 t7 t8 t9 t10 : Option D), pre.length + bs.length ≤ w.length ∧ σ = [some (tI w), some (.ref p), t2, t3, t4, t5, t6, t7, t8, t9, t10] ∧ h' p = some (.lst (bs.map bD)) ∧ Sta w bs ∧ 1 ≤ bs.length ∧ bs.length ≤ kk + 1 ∧ tring w.length kk bs = [tfin w])
    ⟨x1, ini w, w.length, p1, none, none, none, none, none, none, none, none, none, by simp [ini_len], rfl, mup_same, ini_sta, by rw [ini_len]; exact g.1.pos, by rw [ini_len]; omega, (tfin_eq g.1 g.2).1⟩ (fun _ _ _ _ => trivial) ?_ ?_
  case refine_2 =>
    rintro σ h' ⟨g1, bs, kk, p, t2, t3, t4, t5, t6, t7, t8, t9, t10, z, rfl, g2, g3, g4, g5, g6⟩
    rw [List.length_range] at z; omega
  rintro pre i post σ h' ei ⟨g1, bs, kk, p, t2, t3, t4, t5, t6, t7, t8, t9, t10, z, rfl, g2, g3, g4, g5, g6⟩
  obtain ⟨sm1, sm2⟩ := Sta.small g3
  walk_at "vc"
  refine len_lst g2 ?_
  rw [List.length_map]
  walk_at "vc"
  by_cases h1 : bs.length = 1
  · rw [if_pos (by omega)]
    obtain ⟨b, rfl⟩ : ∃ b, bs = [b] := by
      match bs, h1 with
      | [b], _ => exact ⟨b, rfl⟩
    have : [b] = [tfin w] := by
      cases kk with
      | zero => exact g6
      | succ k' => unfold tring at g6; rw [if_pos (by simp)] at g6; exact g6
    cases this
    rw [show (0 : Int) = ((0 : Nat) : Int) from rfl, z_idxLn g2 rfl]
    refine ⟨_, rfl, ?_⟩
    rw [(tfin_eq g.1 g.2).2.1]
    exact k h' g1
  rw [if_neg (by omega)]
  obtain ⟨l, el, lm⟩ := g3.odd g.2 (by omega)
  have ex := g3.unlike (l := l) g.1 (by omega)
  have lt := Sta.lt g3 (by omega)
  refine ⟨true, _, seq_lst g2, small_le (by simp; omega), ?_⟩
  refine comp_map (p := fun b : Bk => decide (b.2.length % 2 = 1)) (f := fun b : Bk => kyD b.2) (fun h2 e2 => seq_lst (e2 _ _ g2)) ?_ ?_
  · rintro b acc h2 K hb hl e2 hK
    unfold bD
    walk_at "vc"
    refine ⟨small_lt (by omega), ?_⟩
    have := hK h2 (.refl _)
    refine ⟨by decide, ?_⟩
    by_cases o : b.2.length % 2 = 1
    · rw [decide_eq_true o, if_pos rfl] at this
      rw [if_pos o]; exact ⟨small_le (by decide), this⟩
    · rw [decide_eq_false o, if_neg (by decide)] at this
      rw [if_neg o]; exact this
  intro h2 e2
  have ef : ((bs.filter fun b : Bk => decide (b.2.length % 2 = 1)).map fun b : Bk => kyD b.2) = ((bs.map (·.2)).filter fun w => decide (w.length % 2 = 1)).map kyD := by
    rw [List.filter_map, List.map_map]; rfl
  rw [ef]
  have ltw : ∀ v ∈ bs.map (·.2), (v.length : Int) < w.length := fun v hv => by
    obtain ⟨b, hb, rfl⟩ := List.mem_map.mp hv
    have := lt b hb; omega
  obtain ⟨x, xs, exs⟩ : ∃ x xs, ((bs.map (·.2)).filter fun w => decide (w.length % 2 = 1)) = x :: xs := by
    cases e : ((bs.map (·.2)).filter fun w => decide (w.length % 2 = 1)) with
    | cons x xs => exact ⟨x, xs, rfl⟩
    | nil =>
      have lk := lo_ok (bs.map (·.2)) (w.length : Int)
      rw [el] at lk
      have : l ∈ (bs.map (·.2)).filter fun w => decide (w.length % 2 = 1) := List.mem_filter.mpr ⟨lk.1, by
        have := lk.2.1
        unfold okW at this
        simp only [Bool.and_eq_true, decide_eq_true_eq] at this
        exact decide_eq_true this.1⟩
      rw [e] at this; cases this
  have hmw := lo_filter ltw exs
  rw [el] at hmw
  have hmw := Option.some.inj hmw
  rw [exs]
  refine ⟨fun d hd => ?_, minOk_ky (x :: xs), ?_⟩
  · have hd : d ∈ (x :: xs).map kyD := hd
    obtain ⟨v, _, rfl⟩ := List.mem_map.mp hd
    exact pure0_ky v
  rw [minD_ky, ← hmw]
  unfold kyD
  walk_at "vc"
  have g2' := e2 _ _ g2
  refine len_lst g2' ?_
  rw [List.length_map]
  refine ⟨⟨by omega, by omega⟩, small_le (by rw [rngL_len]; omega), ?_⟩
  have hm : ((bs.length : Nat) : Int).toNat = bs.length := by omega
  rw [hm]
  refine comp_map (xs := List.range bs.length) (dx := fun (i : Nat) => D.int (0 + i)) (p := fun i => decide ((bs.map (·.2)).getD i l ≠ l)) (f := fun (i : Nat) => D.int (i : Int)) (fun _ _ => trivial) ?_ ?_
  · rintro i acc h3 K hi hl e3 hK
    have hi := List.mem_range.mp hi
    rw [List.length_range] at hl
    refine ⟨small_lt (by omega), ?_⟩
    rw [show (0 : Int) + (i : Int) = (i : Int) by omega]
    rw [z_idxLn (e3 _ _ g2') (d := bD bs[i]) (by rw [List.getElem?_map, List.getElem?_eq_getElem hi]; rfl)]
    unfold bD
    walk_at "vc"
    have := hK h3 (.refl _)
    have eg : (bs.map (·.2)).getD i l = bs[i].2 := by rw [List.getD_eq_getElem?_getD, List.getElem?_map, List.getElem?_eq_getElem hi]; rfl
    rw [eg] at this
    by_cases q : bs[i].2 = l <;> simp [q] at this ⊢ <;> exact this
  intro h3 e3
  have hfl : fne l (bs.map (·.2)) < bs.length := by
    have := List.findIdx_lt_length_of_exists (xs := bs.map (·.2)) (p := fun w => decide (w ≠ l)) (by obtain ⟨b, q1, q2⟩ := ex; exact ⟨b.2, List.mem_map_of_mem q1, by simp [q2]⟩)
    rw [List.length_map] at this; exact this
  have hfq : (bs.map (·.2)).getD (fne l (bs.map (·.2))) l ≠ l := by
    have hh : fne l (bs.map (·.2)) < (bs.map (·.2)).length := by rw [List.length_map]; exact hfl
    have hp : decide ((bs.map (·.2))[fne l (bs.map (·.2))] ≠ l) = true := List.findIdx_getElem (w := hh)
    rw [List.getD_eq_getElem?_getD, List.getElem?_eq_getElem hh]
    exact of_decide_eq_true hp
  obtain ⟨f, ys, ef2, hy, hfm, hqf, hmin⟩ := rng_first (q := fun i => decide ((bs.map (·.2)).getD i l ≠ l)) (m := bs.length) ⟨_, hfl, decide_eq_true hfq⟩
  have hff : f = fne l (bs.map (·.2)) := by
    have h1 := hmin _ hfl (decide_eq_true hfq)
    rcases Nat.lt_or_ge f (fne l (bs.map (·.2))) with h | h
    · have h2 := List.not_of_lt_findIdx (xs := bs.map (·.2)) (p := fun w => decide (w ≠ l)) h
      have hq := of_decide_eq_true hqf
      rw [List.getD_eq_getElem?_getD, List.getElem?_eq_getElem (by rw [List.length_map]; exact hfm)] at hq
      exact absurd (of_decide_eq_false h2) (fun z => z hq)
    · omega
  rw [ef2]
  have ei2 : (f :: ys).map (fun (i : Nat) => D.int (i : Int)) = (((f : Int) :: ys.map fun (i : Nat) => (i : Int))).map D.int := by simp
  rw [ei2]
  refine ⟨fun d hd => ?_, minOk_int ((f : Int) :: ys.map fun (i : Nat) => (i : Int)), ?_⟩
  · have hd : d ∈ ((f : Int) :: ys.map fun (i : Nat) => (i : Int)).map D.int := hd
    obtain ⟨v, _, rfl⟩ := List.mem_map.mp hd
    rfl
  rw [minD_first (x := (f : Int)) fun y hy' => by
    obtain ⟨j, hj, rfl⟩ := List.mem_map.mp hy'
    have := hy j hj; omega]
  rw [hff]
  walk_at "vc"
  intro p4 n4
  have x4 := (g1.trans (e2.trans e3)).trans (Ex.new (o := MO.lst []) n4)
  have g4' := mup_at (o := MO.lst []) n4 (e3 _ _ g2')
  have g5' := mup_same (h := h3) (a := p4) (o := MO.lst [])
  have xh : h p4 = none := (g1.trans (e2.trans e3)).none n4
  generalize mup h3 p4 (MO.lst []) = h4 at x4 g4' g5'
  rw [show (fne l (bs.map (·.2)) : Int) + 1 = ((fne l (bs.map (·.2)) + 1 : Nat) : Int) by omega]
  refine sl_lst g4' ?_
  rw [cut_from]
  refine ⟨small_le (by simp; omega), fun p5 n5 => ?_⟩
  refine sl_lst (mup_at n5 g4') ?_
  rw [cut_to]
  refine ⟨small_le (by simp; omega), fun p6 n6 => ?_⟩
  refine add_lst (mup_at n6 mup_same) mup_same ?_
  refine ⟨small_le (by simp; omega), fun p7 n7 => ?_⟩
  have x7 := ((x4.trans (Ex.new (o := MO.lst ((bs.map bD).drop (fne l (bs.map (·.2)) + 1))) n5)).trans (Ex.new (o := MO.lst ((bs.map bD).take (fne l (bs.map (·.2)) + 1))) n6)).trans (Ex.new (o := MO.lst ((bs.map bD).drop (fne l (bs.map (·.2)) + 1) ++ (bs.map bD).take (fne l (bs.map (·.2)) + 1))) n7)
  have y7 := ((Ex.new (o := MO.lst ((bs.map bD).drop (fne l (bs.map (·.2)) + 1))) n5).trans (Ex.new (o := MO.lst ((bs.map bD).take (fne l (bs.map (·.2)) + 1))) n6)).trans (Ex.new (o := MO.lst ((bs.map bD).drop (fne l (bs.map (·.2)) + 1) ++ (bs.map bD).take (fne l (bs.map (·.2)) + 1))) n7)
  have s7 := mup_same (h := (mup (mup h4 p5 (MO.lst ((bs.map bD).drop (fne l (bs.map (·.2)) + 1)))) p6 (MO.lst ((bs.map bD).take (fne l (bs.map (·.2)) + 1))))) (a := p7) (o := MO.lst ((bs.map bD).drop (fne l (bs.map (·.2)) + 1) ++ (bs.map bD).take (fne l (bs.map (·.2)) + 1)))
  have hne : p7 ≠ p4 := fun z => by
    rw [z] at n7
    have := ((Ex.new (o := MO.lst ((bs.map bD).drop (fne l (bs.map (·.2)) + 1))) n5).trans (Ex.new (o := MO.lst ((bs.map bD).take (fne l (bs.map (·.2)) + 1))) n6)) _ _ g5'
    rw [n7] at this; cases this
  generalize mup (mup (mup h4 p5 (MO.lst ((bs.map bD).drop (fne l (bs.map (·.2)) + 1)))) p6 (MO.lst ((bs.map bD).take (fne l (bs.map (·.2)) + 1)))) p7 (MO.lst ((bs.map bD).drop (fne l (bs.map (·.2)) + 1) ++ (bs.map bD).take (fne l (bs.map (·.2)) + 1))) = h7 at x7 y7 s7 ⊢
  have ec : (bs.map bD).drop (fne l (bs.map (·.2)) + 1) ++ (bs.map bD).take (fne l (bs.map (·.2)) + 1) = (cutB (fne l (bs.map (·.2)) + 1) bs).map bD := by simp [cutB]
  rw [ec] at s7
  have zc : ∀ b ∈ cutB (fne l (bs.map (·.2)) + 1) bs, b.2.length ≤ 24 ∧ b.2 ≠ [] := fun b hb => by
    have := ((isRot_cut (fne l (bs.map (·.2)) + 1) bs).mem b).mpr hb
    exact ⟨by have := sm2 b this; omega, g3.2 b this⟩
  have zl : (cutB (fne l (bs.map (·.2)) + 1) bs).length ≤ 24 := by rw [← (isRot_cut (fne l (bs.map (·.2)) + 1) bs).len]; omega
  have em : tmr bs l = ((cutB (fne l (bs.map (·.2)) + 1) bs).foldl (tst l) ([], 0, [])).1 := rfl
  generalize cutB (fne l (bs.map (·.2)) + 1) bs = X at s7 zc zl em
  refine ⟨true, _, seq_lst s7, ?_⟩
  refine loop_map (fun pre σ h' => Ex h h' ∧ h' p7 = some (.lst (X.map bD)) ∧ h' p4 = some (.lst ((pre.foldl (tst l) ([], 0, [])).1.map bD)) ∧ (pre.foldl (tst l) ([], 0, [])).1.length ≤ pre.length ∧ (pre.foldl (tst l) ([], 0, [])).2.2.length ≤ 24 * pre.length ∧ ∃ t8 : Option D,
    σ = [some (tI w), some (.ref p), some (D.int (0 + i)), some (tI l), some (D.int ((fne l (bs.map (·.2)) + 1 : Nat) : Int)), some (.ref p4), some (.int (pre.foldl (tst l) ([], 0, [])).2.1), some (tI (pre.foldl (tst l) ([], 0, [])).2.2), t8, t9, t10]) ⟨x7, s7, y7 _ _ g5', Nat.zero_le _, Nat.zero_le _, _, rfl⟩ (fun _ _ _ j => seq_lst j.2.1) ?_ ?_
  · rintro pre2 b post2 σ h' e9 ⟨j1, j2, j3, j4, j5, t8', rfl⟩
    obtain ⟨hb1, hb2⟩ := zc b (by rw [e9]; simp)
    have hp : pre2.length < 24 := by have := congrArg List.length e9; simp at this; omega
    rw [List.foldl_append, List.foldl_cons, List.foldl_nil]
    generalize pre2.foldl (tst l) ([], 0, []) = r at j3 j4 j5 ⊢
    obtain ⟨r1, r2, r3⟩ := r
    simp only at j3 j4 j5
    unfold bD at j3
    have en : ∀ Q : DK, eqD false (tI r3) (.tup []) h' Q = Q (.bl (false ^^ decide (r3 = []))) h' := fun Q => z_eqT (b := [])
    unfold bD
    walk_at "vc"
    simp only [en]
    walk_at "vc"
    clear ec n7 n6 ef2 hmin hqf hfq ei2 exs e0 x1 ef zc
    by_cases o1 : r3 = []
    · rw [if_pos o1]
      refine ⟨small_le (by omega), ?_⟩
      by_cases o2 : b.2 = l
      · rw [if_neg (by simp [o2])]
        have et : tst l (r1, r2, r3) b = (r1, b.1, r3 ++ b.2) := by unfold tst; simp [o2, o1]
        rw [et]
        refine ⟨j1, j2, j3, by simp; omega, by simp at j5 ⊢; omega, some (.tup [.int b.1, tI b.2]), ?_⟩
        simp
      · rw [if_pos (by simp [o2])]
        have et : tst l (r1, r2, r3) b = (r1 ++ [(b.1, r3 ++ b.2)], b.1, []) := by unfold tst; simp [o2, o1]
        rw [et]
        refine ⟨onL j3 (by simp), small_le (by decide), app_q j3 (small_lt (by simp; omega)) ?_⟩
        refine ⟨j1.upd xh, by rw [mup_ne hne]; exact j2, by rw [mup_same]; simp, by simp; omega, by simp, _, rfl⟩
    · rw [if_neg o1]
      refine ⟨small_le (by omega), ?_⟩
      by_cases o2 : b.2 = l
      · rw [if_neg (by simp [o2])]
        have et : tst l (r1, r2, r3) b = (r1, r2, r3 ++ b.2) := by unfold tst; simp [o2, o1]
        rw [et]
        refine ⟨j1, j2, j3, by simp; omega, by simp at j5 ⊢; omega, some (.tup [.int b.1, tI b.2]), ?_⟩
        simp
      · rw [if_pos (by simp [o2])]
        have et : tst l (r1, r2, r3) b = (r1 ++ [(r2, r3 ++ b.2)], r2, []) := by unfold tst; simp [o2, o1]
        rw [et]
        refine ⟨onL j3 (by simp), small_le (by decide), app_q j3 (small_lt (by simp; omega)) ?_⟩
        refine ⟨j1.upd xh, by rw [mup_ne hne]; exact j2, by rw [mup_same]; simp, by simp; omega, by simp, _, rfl⟩
  · rintro σ h' ⟨j1, j2, j3, j4, j5, t8', rfl⟩
    obtain ⟨k', rfl⟩ : ∃ k', kk = k' + 1 := ⟨kk - 1, by omega⟩
    unfold tring at g6
    rw [if_neg (by omega), el] at g6
    refine ⟨_, rfl, j1, tmr bs l, k', p4, _, _, _, _, _, _, _, _, _, ?_, rfl, by rw [em]; exact j3, g3.step ex, tmr_pos ex, ?_, g6⟩
    · have := tmr_lt lm; simp; omega
    · have := tmr_lt lm; omega
end W
end MP

namespace MP
open PySem PySem.W
namespace W
local macro_rules | `(tactic| walk_at "vc") => `(tactic| simp only [wSs, wS, wE, wEs, wL, wC, wI, wO, wHs, tgt, tgts, binD, cmpD, rngI, startM, List.map_cons, List.map_nil, List.length_cons, List.length_nil, List.replicate, List.append_assoc, List.cons_append, List.nil_append, List.getElem?_cons_zero, List.getElem?_cons_succ, List.set_cons_zero, List.set_cons_succ, z_ex1, z_ex2, truD_bl, z_seqT, z_ite1, z_ite0, z_iteD, z_at0, z_at1, z_at2, z_add, z_sub, z_mul, z_fdiv, z_mod, z_pow, z_neg, z_addT, z_lenT, z_int, z_intB, z_abs, z_slT, z_eqI, z_eqB, z_eqT, z_ltI0, z_ltI1, z_ltT0, z_ltT1, z_ltK, z_is, z_isN, z_isT, z_isI, oD_non, fm2, fm20, List.length_map, Option.isNone_some, Option.isNone_none, oD, z_blE, z_intE, z_two, Bool.false_xor, Bool.true_xor, Option.bind_some, Option.some.injEq, exists_eq_left', Nat.zero_le, wipeM, setAll, List.foldl_cons, List.foldl_nil, List.reverse_cons, List.reverse_nil, L.fresh, newL, true_and, if_true, if_false, Bool.false_eq_true])
def badP : PyData := .list [.str "unfit", .bool false, .bool true]
def goodP (w : List Int) : PyData := .list [.tuple ((tuF w).map .int), .int (plF w : Int), .bool (decide (plF w = 0))]
theorem pdR_bad {h : MH} {a : Addr} {n : Nat} (e : h a = some (.lst badL)) : pdR h (n + 1) a = some badP := by
  have h0 : PyData.strOk (Str.ofString "unfit") = true := by decide +kernel
  unfold pdR
  simp [pdW, pdWs, e, h0, badL, badP]
theorem pd_bad3 {h : MH} {p a b c : Addr} (e : h p = some (.lst [.ref a, .ref b, .ref c])) (ea : h a = some (.lst badL)) (eb : h b = some (.lst badL)) (ec : h c = some (.lst badL)) : pd h (.ref p) = some (.list [badP, badP, badP]) := by
  have : pdR h 6 p = some (.list [badP, badP, badP]) := by
    unfold pdR
    rw [e]
    show (pdWs (pdR h 5) [.ref a, .ref b, .ref c]).map PyData.list = _
    rw [pdWs, pdWs, pdWs, pdWs, pdW, pdW, pdW, pdR_bad ea, pdR_bad eb, pdR_bad ec]
    rfl
  unfold pd
  rw [pdW, this]
  rfl
theorem pd_good {h : MH} {p : Addr} {w : List Int} (e : h p = some (.lst [tI (tuF w), .int (plF w), .bl (decide (plF w = 0))])) : pd h (.ref p) = some (goodP w) := by
  have : pdR h 6 p = some (goodP w) := by
    unfold pdR
    rw [e]
    show (pdWs (pdR h 5) [tI (tuF w), .int (plF w), .bl (decide (plF w = 0))]).map PyData.list = _
    rw [pdWs, pdWs, pdWs, pdWs, pdW, pdW, pdW, pdWs_dI]
    rfl
  unfold pd
  rw [pdW, this]
  unfold goodP
  simp [PyData.depth, PyData.depthAll, PySem.W.depth_ints]
theorem Sw.bool (b : Bool) : Sw 190 (.bool b) := by cases b <;> exact ⟨by decide, by decide, by decide, by decide⟩
theorem shn_bad3 : Shn (.list [badP, badP, badP]) := by
  exact ⟨by decide +kernel, by decide +kernel, small_le (by decide +kernel)⟩
theorem rot_mem {w : List Int} {k : Nat} {x : Int} (h : x ∈ rot w k) : x ∈ w := by
  unfold rot at h
  rcases List.mem_append.mp h with h | h
  · exact List.mem_of_mem_drop h
  · exact List.mem_of_mem_take h
theorem tuF_wd {w : List Int} (g : Gd w) (wd : Wd w) : (tuF w).length ≤ 24 ∧ ∀ x ∈ tuF w, 0 ≤ x ∧ x ≤ 3 := by
  obtain ⟨t1, t2, t3, t4⟩ := tfin_eq g.1 g.2
  rw [t4]
  refine ⟨by rw [rot_len]; exact wd.1, fun x hx => ?_⟩
  have := wd.2 x (rot_mem hx); omega
theorem shn_good {w : List Int} (g : Gd w) (wd : Wd w) : Shn (goodP w) := by
  obtain ⟨t1, t2, t3, t4⟩ := tfin_eq g.1 g.2
  obtain ⟨l1, l2⟩ := tuF_wd g wd
  have h1 : Sw (24 * 3) (.tuple ((tuF w).map .int)) := (Sw.tI (n := 2) fun i hi => Sw.small (l2 i hi).1 (l2 i hi).2).mono (by omega)
  have hp : (plF w : Int).natAbs ≤ 24 := by have := wd.1; omega
  have h2 : Sw 190 (.int (plF w : Int)) := Sw.int (Nat.lt_of_le_of_lt hp (by decide))
  exact (Sw.mono (SwA.cons h1 (SwA.cons h2 (SwA.cons (Sw.bool _) .nil))).list (m := 250000) (by decide)).shn (Nat.le_refl _)
theorem v__law_due {c : Cn} (hc : c.fn = spT) {h : MH} {PQ : DK} {PE : Exn → MH → Prop} {ds : List D} (s : sp__law_due ds h PQ PE) : wSs b__law_due c { nx := fun _ h' => PQ .non h', rt := PQ } (startM N__law_due.length ds) h := by
  obtain ⟨w, rfl, hw, k⟩ := s
  walk_at "vc"
  simp only [hc, spT]
  refine ⟨by decide, ?_⟩
  have bad : ∀ h1, Ex h h1 → ¬ Gd w → 0 + 1 + 1 + 1 ≤ sizeLine ∧ 0 + 1 + 1 + 1 ≤ sizeLine ∧ ∀ (p : Addr), h1 p = none → 0 + 1 ≤ sizeLine ∧ 0 + 1 ≤ sizeLine ∧ ∀ (p_1 : Addr), mup h1 p (MO.lst [D.str (Str.ofString "unfit"), D.bl false, D.bl true]) p_1 = none →
      mulD (D.ref p_1) (D.int 3) (mup (mup h1 p (MO.lst [D.str (Str.ofString "unfit"), D.bl false, D.bl true])) p_1 (MO.lst [D.ref p])) PQ := by
    intro h1 e1 ng
    refine ⟨small_le (by decide), small_le (by decide), fun p np => ⟨small_le (by decide), small_le (by decide), fun p1 np1 => ?_⟩⟩
    refine ⟨_, mup_same, by decide, by decide, small_le (by simp), fun p2 np2 => ?_⟩
    have x := ((e1.trans (Ex.new (o := MO.lst badL) np)).trans (Ex.new (o := MO.lst [D.ref p]) np1))
    refine k _ p2 (x.trans (Ex.new np2)) (x.none np2) (.inr ⟨ng, p, ?_, ?_⟩)
    · rw [mup_same]; rfl
    · exact mup_at np2 (mup_at np1 mup_same)
  by_cases ev : w.length % 2 = 0
  · rw [if_pos ev]
    exact bad h (.refl h) fun g => by have := g.2; omega
  · rw [if_neg ev]
    refine ⟨w, rfl, hw, fun h1 kk e1 hk => ⟨kk, rfl, ?_⟩⟩
    cases kk with
    | false =>
      simp only [Bool.not_false, if_true]
      exact bad h1 e1 fun g => by have := hk.mpr g.1; cases this
    | true =>
      simp only [Bool.not_true, Bool.false_eq_true, if_false]
      have g : Gd w := ⟨hk.mp rfl, by omega⟩
      obtain ⟨t1, t2, t3, t4⟩ := tfin_eq g.1 g.2
      refine ⟨w, rfl, hw, g, fun h2 e2 => ⟨_, rfl, _, rfl, ?_⟩⟩
      rw [cut_from, cut_to]
      have ec : (w.map D.int).drop (plF w) ++ (w.map D.int).take (plF w) = dI (tuF w) := by rw [t4]; simp [rot, dI]
      refine ⟨small_le (by simp; omega), ?_⟩
      rw [ec]
      have e0 : ∀ Q : DK, eqD false (.int (plF w : Int)) (.int 0) h2 Q = Q (.bl (decide (plF w = 0))) h2 := fun Q => by
        rw [z_eqI]
        have : decide ((plF w : Int) = 0) = decide (plF w = 0) := decide_eq_decide.mpr (by omega)
        rw [this]; simp
      rw [e0]
      refine ⟨small_le (by decide), small_le (by decide), fun p np => ?_⟩
      have x := e1.trans e2
      exact k _ p (x.trans (Ex.new np)) (x.none np) (.inl ⟨g, mup_same⟩)
theorem v__law_is_told {c : Cn} (hc : c.fn = spT) {h : MH} {PQ : DK} {PE : Exn → MH → Prop} {ds : List D} (s : sp__law_is_told ds h PQ PE) : wSs b__law_is_told c { nx := fun _ h' => PQ .non h', rt := PQ } (startM N__law_is_told.length ds) h := by
  obtain ⟨q, w, p, nm, rfl, wd, du, k⟩ := s
  walk_at "vc"
  simp only [hc, spT]
  refine ⟨⟨by decide, by decide⟩, small_le (by rw [rngL_len]; decide), ?_⟩
  have fin : ∀ (h1 : MH) (p1 p0 : Addr) (P : PyData), Ex h h1 → pd h1 (.ref p1) = some P → pd h1 (.ref p0) = some P → Shn P → bltD Bf.repr [D.ref p1] h1 fun x h1 => bltD Bf.repr [D.ref p0] h1 fun y h2 => eqD false x y h2 PQ := by
    intro h1 p1 p0 P e1 a1 a2 ⟨_, s1, s2⟩
    refine ⟨P, a1, s1, s2, P, a2, s1, s2, eqD_str ?_⟩
    rw [decide_eq_true rfl]
    exact k h1 e1
  rcases du with ⟨g, e⟩ | ⟨g, a, e, ea⟩
  · have ef : (List.range 3).map (fun i => [tI (tuF w), D.int ↑(plF w), D.bl (decide (plF w = 0))].getD i .non) = [tI (tuF w), D.int ↑(plF w), D.bl (decide (plF w = 0))] := rfl
    refine comp_map (xs := List.range 3) (dx := fun (i : Nat) => D.int (0 + i)) (p := fun _ => true) (f := fun i => [tI (tuF w), D.int ↑(plF w), D.bl (decide (plF w = 0))].getD i .non) (fun _ _ => trivial) ?_ ?_
    · rintro i acc h' K hi hl e1 hK
      have hi := List.mem_range.mp hi
      refine ⟨small_lt (by rw [List.length_range] at hl; omega), i, q, w, nm, by rw [show (0 : Int) + (i : Int) = (i : Int) by omega], hi, wd.1, .inl ⟨g, fun h2 e2 => ?_⟩⟩
      exact hK h2 e2
    intro h1 e1
    rw [List.filter_eq_self.mpr fun _ _ => rfl, ef]
    refine ⟨small_le (by simp), fun p1 n1 => ?_⟩
    exact fin _ p1 p _ (e1.trans (Ex.new n1)) (pd_good mup_same) (pd_good (mup_at n1 (e1 _ _ e))) (shn_good g wd)
  · refine loop_map (xs := List.range 3) (f := fun (i : Nat) => D.int (0 + i)) (fun pre acc h' => Ex h h' ∧ acc.length = pre.length ∧ ∀ d ∈ acc, ∃ b, d = .ref b ∧ h' b = some (.lst badL)) ⟨.refl h, rfl, fun _ z => by cases z⟩ (fun _ _ _ _ => trivial) ?_ ?_
    · rintro pre i post acc h' ei ⟨e1, e2, e3⟩
      have hl := congrArg List.length ei
      rw [List.length_range, List.length_append, List.length_cons] at hl
      have hi : i < 3 := List.mem_range.mp (by rw [ei]; simp)
      refine ⟨small_lt (by omega), i, q, w, nm, by rw [show (0 : Int) + (i : Int) = (i : Int) by omega], hi, wd.1, .inr ⟨g, fun h2 b x2 n2 eb => ?_⟩⟩
      refine ⟨e1.trans x2, by simp [e2], fun d hd => ?_⟩
      rcases List.mem_append.mp hd with hd | hd
      · obtain ⟨b', rfl, hb⟩ := e3 d hd
        exact ⟨b', rfl, x2 _ _ hb⟩
      · rw [List.mem_singleton.mp hd]; exact ⟨b, rfl, eb⟩
    · rintro acc h1 ⟨e1, e2, e3⟩
      rw [List.length_range] at e2
      match acc, e2, e3 with
      | [x, y, z], _, e3 =>
        obtain ⟨b1, rfl, f1⟩ := e3 x (by simp)
        obtain ⟨b2, rfl, f2⟩ := e3 y (by simp)
        obtain ⟨b3, rfl, f3⟩ := e3 z (by simp)
        refine ⟨small_le (by simp), fun p1 n1 => ?_⟩
        exact fin _ p1 p _ (e1.trans (Ex.new n1)) (pd_bad3 mup_same (mup_at n1 f1) (mup_at n1 f2) (mup_at n1 f3)) (pd_bad3 (mup_at n1 (e1 _ _ e)) (mup_at n1 (e1 _ _ ea)) (mup_at n1 (e1 _ _ ea)) (mup_at n1 (e1 _ _ ea))) shn_bad3
end W
end MP

namespace MP
open PySem PySem.W
namespace W
local macro_rules | `(tactic| walk_at "vc") => `(tactic| simp only [wSs, wS, wE, wEs, wL, wC, wI, wO, wHs, tgt, tgts, binD, cmpD, rngI, startM, List.map_cons, List.map_nil, List.length_cons, List.length_nil, List.replicate, List.append_assoc, List.cons_append, List.nil_append, List.getElem?_cons_zero, List.getElem?_cons_succ, List.set_cons_zero, List.set_cons_succ, z_ex1, z_ex2, truD_bl, z_seqT, z_ite1, z_ite0, z_iteD, z_at0, z_at1, z_at2, z_add, z_sub, z_mul, z_fdiv, z_mod, z_pow, z_neg, z_addT, z_lenT, z_int, z_intB, z_abs, z_slT, z_eqI, z_eqB, z_eqT, z_ltI0, z_ltI1, z_ltT0, z_ltT1, z_ltK, z_is, z_isN, z_isT, z_isI, oD_non, fm2, fm20, List.length_map, Option.isNone_some, Option.isNone_none, oD, z_blE, z_intE, z_two, Bool.false_xor, Bool.true_xor, Option.bind_some, Option.some.injEq, exists_eq_left', Nat.zero_le, wipeM, setAll, List.foldl_cons, List.foldl_nil, List.reverse_cons, List.reverse_nil, L.fresh, newL, true_and, if_true, if_false, Bool.false_eq_true])
theorem Gd.rot {w : List Int} (g : Gd w) {k : Nat} (hk : k < w.length) : Gd (MP.rot w k) := ⟨g.1.rot hk, by rw [rot_len]; exact g.2⟩
theorem Wd.rot {w : List Int} (g : Wd w) (k : Nat) : Wd (MP.rot w k) := ⟨by rw [rot_len]; exact g.1, fun x hx => g.2 x (rot_mem hx)⟩
theorem plF_zero {w : List Int} (g : Gd w) {k : Nat} (hk : k < w.length) : plF (MP.rot w k) = 0 ↔ k = plF w := by
  have e := tuF_self (Gd.rot g hk)
  obtain ⟨t1, t2, t3, t4⟩ := tfin_eq g.1 g.2
  rw [tuF_rot g.1 g.2 hk, t4] at e
  have e := decide_eq_decide.mp e
  rw [← e]
  exact ⟨fun h => (g.1.inj t3 hk h).symm, fun h => by rw [h]⟩
theorem Due.ex {h h' : MH} {p : Addr} {w : List Int} (d : Due h p w) (e : Ex h h') : Due h' p w := by
  rcases d with ⟨g, a⟩ | ⟨g, a, b, c⟩
  · exact .inl ⟨g, e _ _ a⟩
  · exact .inr ⟨g, a, e _ _ b, e _ _ c⟩
theorem pd_bad {h : MH} {a : Addr} (e : h a = some (.lst badL)) : pd h (.ref a) = some badP := by
  unfold pd
  rw [pdW, pdR_bad e]
  rfl
theorem v__law_are_turns_right {c : Cn} (hc : c.fn = spT) {h : MH} {PQ : DK} {PE : Exn → MH → Prop} {ds : List D} (s : sp__law_are_turns_right ds h PQ PE) : wSs b__law_are_turns_right c { nx := fun _ h' => PQ .non h', rt := PQ } (startM N__law_are_turns_right.length ds) h := by
  obtain ⟨q, w, p, rfl, wd, du, k⟩ := s
  walk_at "vc"
  simp only [hc, spT]
  rcases du with ⟨g, e⟩ | ⟨g, a, e, ea⟩
  case inr =>
    rw [show (0 : Int) = ((0 : Nat) : Int) from rfl, z_idxLn e rfl]
    refine ⟨small_le (by decide), small_le (by decide), fun p1 n1 => ?_⟩
    have e1 : pd (mup h p1 (MO.lst badL)) (.ref a) = some badP := pd_bad (mup_at n1 ea)
    have e2 : pd (mup h p1 (MO.lst badL)) (.ref p1) = some badP := pd_bad mup_same
    refine .inr ⟨_, _, e1, e2, true, ?_, ?_⟩
    · have : PyData.eqv badP badP = true := by decide +kernel
      rw [this]; rfl
    · rw [if_pos rfl]
      exact k _ (Ex.new n1)
  rw [show idxD (D.ref p) (D.int 0) h = fun Q => idxD (D.ref p) (D.int ((0 : Nat) : Int)) h Q from rfl]
  simp only [z_idxLn e (n := 0) rfl]
  refine ⟨small_le (by decide), small_le (by decide), fun p1 n1 => ?_⟩
  have x1 : Ex h (mup h p1 (MO.lst badL)) := Ex.new n1
  have e2 : pd (mup h p1 (MO.lst badL)) (.ref p1) = some badP := pd_bad mup_same
  have e' := x1 _ _ e
  have em : mup h p1 (MO.lst [D.str (Str.ofString "unfit"), D.bl false, D.bl true]) = mup h p1 (MO.lst badL) := rfl
  rw [em]
  refine .inr ⟨_, _, pd_tI _ _, e2, ?_⟩
  have : PyData.eqv (.tuple ((tuF w).map .int)) badP = false := rfl
  rw [this]
  walk_at "vc"
  generalize mup h p1 (MO.lst badL) = h1 at x1 e' ⊢
  have hw := wd.1
  refine ⟨⟨by omega, by omega⟩, ?_⟩
  have hn : ((w.length : Nat) : Int).toNat = w.length := by omega
  rw [hn]
  have hpos := g.1.pos
  obtain ⟨t1, t2, t3, t4⟩ := tfin_eq g.1 g.2
  refine loop_map (xs := List.range w.length) (f := fun (i : Nat) => D.int (0 + i)) (fun pre σ h' => Ex h h' ∧ ∃ t5 t6 t7 : Option D, σ = [some q, some (tI w), some (.ref p), some (.int w.length), some (.int (if plF w < pre.length then 1 else 0)), t5, t6, t7]) ⟨x1, none, none, none, by simp⟩ (fun _ _ _ _ => trivial) ?_ ?_
  case refine_2 =>
    rintro σ h' ⟨g1, t5, t6, t7, rfl⟩
    refine ⟨_, rfl, ?_⟩
    rw [List.length_range, if_pos t3]
    walk_at "vc"
    exact k h' g1
  rintro pre i post σ h' ei ⟨g1, t5, t6, t7, rfl⟩
  have hi : i < w.length := List.mem_range.mp (by rw [ei]; simp)
  have hpi : pre.length = i := by
    have h1 : (List.range w.length)[pre.length]? = some i := by rw [ei]; simp
    rw [List.getElem?_range (by have := congrArg List.length ei; simp at this; omega)] at h1
    exact Option.some.inj h1
  walk_at "vc"
  rw [show (0 : Int) + (i : Int) = (i : Int) by omega]
  refine ⟨small_le (by rw [cut_from, cut_to]; simp; omega), ?_⟩
  rw [z_rot]
  have e3 := g1 _ _ e
  have i1 : ∀ Q : DK, idxD (D.ref p) (D.int 1) h' Q = Q (.int (plF w : Int)) h' := fun Q => z_idxLn e3 (n := 1) rfl
  have i0 : ∀ Q : DK, idxD (D.ref p) (D.int 0) h' Q = Q (tI (tuF w)) h' := fun Q => z_idxLn e3 (n := 0) rfl
  rw [i1]
  walk_at "vc"
  refine ⟨by omega, ?_⟩
  rw [← plF_rot g.1 g.2 hi, i0]
  refine ⟨small_le (by decide), small_le (by decide), fun p2 n2 => ⟨by decide, ?_⟩⟩
  have ez : decide ((plF (rot w i) : Int) = 0) = decide (plF (rot w i) = 0) := decide_eq_decide.mpr (by omega)
  rw [ez]
  refine ⟨q, rot w i, p2, _, rfl, Wd.rot wd i, .inl ⟨Gd.rot g hi, ?_⟩, fun h2 e2 => ⟨true, rfl, ?_⟩⟩
  · rw [mup_same, tuF_rot g.1 g.2 hi]
  simp only [Bool.not_true, Bool.false_eq_true, if_false]
  have x2 := (g1.trans (Ex.new (o := MO.lst [tI (tuF w), D.int ↑(plF (rot w i)), D.bl (decide (plF (rot w i) = 0))]) n2)).trans e2
  have pz := plF_zero g hi
  by_cases e0 : plF (rot w i) = 0
  · rw [if_pos (by omega)]
    refine ⟨x2, some (.int i), some (tI (rot w i)), some (.int (plF (rot w i))), ?_⟩
    have h1 := pz.mp e0
    rw [if_neg (by omega), if_pos (by simp; omega)]
    rfl
  · rw [if_neg (by omega)]
    refine ⟨x2, some (.int i), some (tI (rot w i)), some (.int (plF (rot w i))), ?_⟩
    have h1 : i ≠ plF w := fun z => e0 (pz.mpr z)
    by_cases h2 : plF w < pre.length
    · rw [if_pos h2, if_pos (by simp; omega)]; rfl
    · rw [if_neg h2, if_neg (by simp; omega)]; rfl
/-! ### words of three letters -/
def condB (w : List Int) (k : Nat) : Bool := decide ((rot w k).getD 1 0 ≤ (rot w k).getD 0 0) && decide ((rot w k).getD 1 0 < (rot w k).getD 2 0)
def plnB (w : List Int) : Bool := decide (w ≠ []) && (List.range (w.length - 1)).all fun i => decide (rot w (1 + i) ≠ w)
theorem plnB_iff (w : List Int) : plnB w = true ↔ Pln w := by
  unfold plnB
  by_cases e : w = []
  · simp [e]; exact fun p => p.1 rfl
  · rw [decide_eq_true e, Bool.true_and]; exact pln_all e
def threeB (a b c : Int) : Bool := if a = b ∧ b = c then !plnB [a, b, c] else plnB [a, b, c] && condB [a, b, c] (plF [a, b, c]) && (List.range 3).all fun j => !condB [a, b, c] j || decide (j = plF [a, b, c])
theorem three_all : ((List.range 4).all fun a => (List.range 4).all fun b => (List.range 4).all fun c => threeB (a : Nat) (b : Nat) (c : Nat)) = true := by decide +kernel
theorem three_at {a b c : Int} (ha : 0 ≤ a ∧ a < 4) (hb : 0 ≤ b ∧ b < 4) (hc : 0 ≤ c ∧ c < 4) : threeB a b c = true := by
  have := List.all_eq_true.mp (List.all_eq_true.mp (List.all_eq_true.mp three_all a.toNat (List.mem_range.mpr (by omega))) b.toNat (List.mem_range.mpr (by omega))) c.toNat (List.mem_range.mpr (by omega))
  rw [Int.toNat_of_nonneg ha.1, Int.toNat_of_nonneg hb.1, Int.toNat_of_nonneg hc.1] at this
  exact this
theorem v__law_closed {c : Cn} {h : MH} {PQ : DK} {PE : Exn → MH → Prop} {ds : List D} (s : sp__law_closed ds h PQ PE) : wSs b__law_closed c { nx := fun _ h' => PQ .non h', rt := PQ } (startM N__law_closed.length ds) h := by
  obtain ⟨w, rfl, hw, wd, k⟩ := s
  match w, hw with
  | [x, y, z], _ =>
  have hx := wd.2 x (by simp)
  have hy := wd.2 y (by simp)
  have hz := wd.2 z (by simp)
  have th := three_at hx hy hz
  have i0 : ∀ (h : MH) (Q : DK), idxD (tI [x, y, z]) (D.int 0) h Q = Q (.int x) h := fun _ _ => z_at0
  have i1 : ∀ (h : MH) (Q : DK), idxD (tI [x, y, z]) (D.int 1) h Q = Q (.int y) h := fun _ _ => z_at1
  have i2 : ∀ (h : MH) (Q : DK), idxD (tI [x, y, z]) (D.int 2) h Q = Q (.int z) h := fun _ _ => z_at2
  walk_at "vc"
  simp only [i0, i1, i2]
  walk_at "vc"
  unfold threeB at th
  by_cases al : x = y ∧ y = z
  · rw [if_pos al] at th
    have ng : ¬ Gd [x, y, z] := fun g => by
      rw [(plnB_iff _).mpr g.1] at th; cases th
    rw [if_pos al.1, if_pos al.2]
    refine ⟨small_le (by decide), small_le (by decide), fun p np => ⟨small_le (by decide), small_le (by decide), fun p1 np1 => ?_⟩⟩
    refine ⟨_, mup_same, by decide, by decide, small_le (by simp), fun p2 np2 => ?_⟩
    have x := (((Ex.new (o := MO.lst badL) np)).trans (Ex.new (o := MO.lst [D.ref p]) np1))
    refine k _ p2 (x.trans (Ex.new np2)) (.inr ⟨ng, p, ?_, ?_⟩)
    · rw [mup_same]; rfl
    · exact mup_at np2 (mup_at np1 mup_same)
  rw [if_neg al] at th
  simp only [Bool.and_eq_true] at th
  obtain ⟨⟨th1, th2⟩, th3⟩ := th
  have g : Gd [x, y, z] := ⟨(plnB_iff _).mp th1, by simp⟩
  obtain ⟨t1, t2, t3, t4⟩ := tfin_eq g.1 g.2
  by_cases e1 : x = y
  · rw [if_pos e1, if_neg (fun e2 => al ⟨e1, e2⟩)]
    refine ⟨⟨by decide, by decide⟩, ?_⟩
    refine loop_map (xs := List.range 3) (f := fun (i : Nat) => D.int (0 + i)) (fun pre σ h' => h' = h ∧ (∀ j, j ∈ pre → condB [x, y, z] j = false) ∧ ∃ t1 t2 : Option D, σ = [some (tI [x, y, z]), t1, t2]) ⟨rfl, fun _ z => (nomatch z), none, none, rfl⟩ (fun _ _ _ _ => trivial) ?_ ?_
    case refine_2 =>
      rintro σ h' ⟨_, nc, _⟩
      have := nc (plF [x, y, z]) (List.mem_range.mpr t3)
      rw [th2] at this; cases this
    rintro pre i post σ h' ei ⟨rfl, nc, s1, s2, rfl⟩
    have hi : i < 3 := List.mem_range.mp (by rw [ei]; simp)
    walk_at "vc"
    rw [show (0 : Int) + (i : Int) = (i : Int) by omega]
    rw [show [D.int x, D.int y, D.int z] = dI [x, y, z] from rfl]
    refine ⟨small_le (by rw [cut_from, cut_to]; simp; omega), ?_⟩
    rw [z_rot]
    have hl : (rot [x, y, z] i).length = 3 := rot_len _ _
    have hc : condB [x, y, z] i = (decide ((rot [x, y, z] i).getD 1 0 ≤ (rot [x, y, z] i).getD 0 0) && decide ((rot [x, y, z] i).getD 1 0 < (rot [x, y, z] i).getD 2 0)) := rfl
    have ef : condB [x, y, z] i = true → i = plF [x, y, z] := fun z => by
      have := List.all_eq_true.mp th3 i (List.mem_range.mpr hi)
      rw [z] at this; simpa using this
    have kk : condB [x, y, z] i = true → ∀ (h2 : MH) (p : Addr), Ex h' h2 → h2 p = some (.lst [tI (rot [x, y, z] i), .int i, .bl (decide (i = 0))]) → PQ (D.ref p) h2 := fun z h2 p ex ep => by
      have := ef z
      subst this
      rw [← t4] at ep
      exact k h2 p ex (.inl ⟨g, ep⟩)
    have ez : decide ((i : Int) = 0) = decide (i = 0) := decide_eq_decide.mpr (by omega)
    rw [ez]
    revert hc kk nc
    match hr : rot [x, y, z] i, hl with
    | [r0, r1, r2], _ =>
    intro nc hc kk
    have i0 : ∀ (h : MH) (Q : DK), idxD (tI [r0, r1, r2]) (D.int 0) h Q = Q (.int r0) h := fun _ _ => z_at0
    have i1 : ∀ (h : MH) (Q : DK), idxD (tI [r0, r1, r2]) (D.int 1) h Q = Q (.int r1) h := fun _ _ => z_at1
    have i2 : ∀ (h : MH) (Q : DK), idxD (tI [r0, r1, r2]) (D.int 2) h Q = Q (.int r2) h := fun _ _ => z_at2
    simp only [i0, i1, i2]
    walk_at "vc"
    have hc : condB [x, y, z] i = (decide (r1 ≤ r0) && decide (r1 < r2)) := hc
    have nf : condB [x, y, z] i = false → ∀ j, j ∈ pre ++ [i] → condB [x, y, z] j = false := fun z j hj => by
      rcases List.mem_append.mp hj with hj | hj
      · exact nc j hj
      · rw [List.mem_singleton.mp hj]; exact z
    by_cases c1 : r0 < r1
    · rw [if_neg (by simp [c1])]
      exact ⟨nf (by rw [hc]; simp; omega), _, _, rfl⟩
    · rw [if_pos (by simp [c1])]
      by_cases c2 : r1 < r2
      · rw [if_pos c2]
        refine ⟨small_le (by decide), small_le (by decide), fun p np => ?_⟩
        exact kk (by rw [hc]; simp; omega) _ p (Ex.new np) mup_same
      · rw [if_neg c2]
        exact ⟨nf (by rw [hc]; simp; omega), _, _, rfl⟩
  · rw [if_neg e1]
    refine ⟨⟨by decide, by decide⟩, ?_⟩
    refine loop_map (xs := List.range 3) (f := fun (i : Nat) => D.int (0 + i)) (fun pre σ h' => h' = h ∧ (∀ j, j ∈ pre → condB [x, y, z] j = false) ∧ ∃ t1 t2 : Option D, σ = [some (tI [x, y, z]), t1, t2]) ⟨rfl, fun _ z => (nomatch z), none, none, rfl⟩ (fun _ _ _ _ => trivial) ?_ ?_
    case refine_2 =>
      rintro σ h' ⟨_, nc, _⟩
      have := nc (plF [x, y, z]) (List.mem_range.mpr t3)
      rw [th2] at this; cases this
    rintro pre i post σ h' ei ⟨rfl, nc, s1, s2, rfl⟩
    have hi : i < 3 := List.mem_range.mp (by rw [ei]; simp)
    walk_at "vc"
    rw [show (0 : Int) + (i : Int) = (i : Int) by omega]
    rw [show [D.int x, D.int y, D.int z] = dI [x, y, z] from rfl]
    refine ⟨small_le (by rw [cut_from, cut_to]; simp; omega), ?_⟩
    rw [z_rot]
    have hl : (rot [x, y, z] i).length = 3 := rot_len _ _
    have hc : condB [x, y, z] i = (decide ((rot [x, y, z] i).getD 1 0 ≤ (rot [x, y, z] i).getD 0 0) && decide ((rot [x, y, z] i).getD 1 0 < (rot [x, y, z] i).getD 2 0)) := rfl
    have ef : condB [x, y, z] i = true → i = plF [x, y, z] := fun z => by
      have := List.all_eq_true.mp th3 i (List.mem_range.mpr hi)
      rw [z] at this; simpa using this
    have kk : condB [x, y, z] i = true → ∀ (h2 : MH) (p : Addr), Ex h' h2 → h2 p = some (.lst [tI (rot [x, y, z] i), .int i, .bl (decide (i = 0))]) → PQ (D.ref p) h2 := fun z h2 p ex ep => by
      have := ef z
      subst this
      rw [← t4] at ep
      exact k h2 p ex (.inl ⟨g, ep⟩)
    have ez : decide ((i : Int) = 0) = decide (i = 0) := decide_eq_decide.mpr (by omega)
    rw [ez]
    revert hc kk nc
    match hr : rot [x, y, z] i, hl with
    | [r0, r1, r2], _ =>
    intro nc hc kk
    have i0 : ∀ (h : MH) (Q : DK), idxD (tI [r0, r1, r2]) (D.int 0) h Q = Q (.int r0) h := fun _ _ => z_at0
    have i1 : ∀ (h : MH) (Q : DK), idxD (tI [r0, r1, r2]) (D.int 1) h Q = Q (.int r1) h := fun _ _ => z_at1
    have i2 : ∀ (h : MH) (Q : DK), idxD (tI [r0, r1, r2]) (D.int 2) h Q = Q (.int r2) h := fun _ _ => z_at2
    simp only [i0, i1, i2]
    walk_at "vc"
    have hc : condB [x, y, z] i = (decide (r1 ≤ r0) && decide (r1 < r2)) := hc
    have nf : condB [x, y, z] i = false → ∀ j, j ∈ pre ++ [i] → condB [x, y, z] j = false := fun z j hj => by
      rcases List.mem_append.mp hj with hj | hj
      · exact nc j hj
      · rw [List.mem_singleton.mp hj]; exact z
    by_cases c1 : r0 < r1
    · rw [if_neg (by simp [c1])]
      exact ⟨nf (by rw [hc]; simp; omega), _, _, rfl⟩
    · rw [if_pos (by simp [c1])]
      by_cases c2 : r1 < r2
      · rw [if_pos c2]
        refine ⟨small_le (by decide), small_le (by decide), fun p np => ?_⟩
        exact kk (by rw [hc]; simp; omega) _ p (Ex.new np) mup_same
      · rw [if_neg c2]
        exact ⟨nf (by rw [hc]; simp; omega), _, _, rfl⟩
end W
end MP

namespace MP
open PySem PySem.W
namespace W
local macro_rules | `(tactic| walk_at "vc") => `(tactic| simp only [wSs, wS, wE, wEs, wL, wC, wI, wO, wHs, tgt, tgts, binD, cmpD, rngI, startM, List.map_cons, List.map_nil, List.length_cons, List.length_nil, List.replicate, List.append_assoc, List.cons_append, List.nil_append, List.getElem?_cons_zero, List.getElem?_cons_succ, List.set_cons_zero, List.set_cons_succ, z_ex1, z_ex2, truD_bl, z_seqT, z_ite1, z_ite0, z_iteD, z_at0, z_at1, z_at2, z_add, z_sub, z_mul, z_fdiv, z_mod, z_pow, z_neg, z_addT, z_lenT, z_int, z_intB, z_abs, z_slT, z_eqI, z_eqB, z_eqT, z_ltI0, z_ltI1, z_ltT0, z_ltT1, z_ltK, z_is, z_isN, z_isT, z_isI, oD_non, fm2, fm20, List.length_map, Option.isNone_some, Option.isNone_none, oD, z_blE, z_intE, z_two, Bool.false_xor, Bool.true_xor, Option.bind_some, Option.some.injEq, exists_eq_left', Nat.zero_le, wipeM, setAll, List.foldl_cons, List.foldl_nil, List.reverse_cons, List.reverse_nil, L.fresh, newL, true_and, if_true, if_false, Bool.false_eq_true])
theorem v_power_of {c : Cn} {h : MH} {PQ : DK} {PE : Exn → MH → Prop} {ds : List D} (s : sp_power_of ds h PQ PE) : wSs b_power_of c { nx := fun _ h' => PQ .non h', rt := PQ } (startM N_power_of.length ds) h := vg_power s
theorem v__law_power {c : Cn} {h : MH} {PQ : DK} {PE : Exn → MH → Prop} {ds : List D} (s : sp__law_power ds h PQ PE) : wSs b__law_power c { nx := fun _ h' => PQ .non h', rt := PQ } (startM N__law_power.length ds) h := vg_power s
theorem v__law_own_bag {c : Cn} {h : MH} {PQ : DK} {PE : Exn → MH → Prop} {ds : List D} (s : sp__law_own_bag ds h PQ PE) : wSs b__law_own_bag c { nx := fun _ h' => PQ .non h', rt := PQ } (startM N__law_own_bag.length ds) h := vg_own_bag (z := 1357) (by decide) (by decide) s
theorem v__law_draw {c : Cn} {h : MH} {PQ : DK} {PE : Exn → MH → Prop} {ds : List D} (s : sp__law_draw ds h PQ PE) : wSs b__law_draw c { nx := fun _ h' => PQ .non h', rt := PQ } (startM N__law_draw.length ds) h := vg_draw (z := 9) ⟨by decide, by decide, by decide⟩ s
theorem v__law_pick {c : Cn} (hc : c.fn = spT) {h : MH} {PQ : DK} {PE : Exn → MH → Prop} {ds : List D} (s : sp__law_pick ds h PQ PE) : wSs b__law_pick c { nx := fun _ h' => PQ .non h', rt := PQ } (startM N__law_pick.length ds) h := by
  obtain ⟨b, q, a, xs, rfl, hB, hab, haq, ha, l1, l2, k⟩ := s
  walk_at "vc"
  simp only [hc, spT]
  refine len_lst ha ?_
  refine ⟨b, q, xs.length, rfl, hB, by omega, by omega, fun h' r r0 r1 hB' hf => ?_⟩
  obtain ⟨i, rfl⟩ : ∃ i : Nat, r = i := ⟨r.toNat, by omega⟩
  have hi : i < xs.length := by omega
  refine idx_lst (hf a _ hab haq ha) (List.getElem?_eq_getElem hi) ?_
  exact k h' _ (List.getElem_mem hi) hB' hf
theorem v__law_word {c : Cn} (hc : c.fn = spT) {h : MH} {PQ : DK} {PE : Exn → MH → Prop} {ds : List D} (s : sp__law_word ds h PQ PE) : wSs b__law_word c { nx := fun _ h' => PQ .non h', rt := PQ } (startM N__law_word.length ds) h := by
  obtain ⟨b, g, q, n, rfl, hB, q1, q2, n1, n2, k⟩ := s
  walk_at "vc"
  simp only [hc, spT]
  refine ⟨⟨by omega, by omega⟩, small_le (by rw [rngL_len]; omega), ?_⟩
  refine loop_map (xs := List.range n.toNat) (f := fun (i : Nat) => D.int (0 + i)) (fun pre acc h' => Bag h' b g ∧ FrB b g h h' ∧ ∃ w : List Int, acc = dI w ∧ w.length = pre.length ∧ ∀ x ∈ w, 0 ≤ x ∧ x < q) ⟨hB, FrB_refl h, [], rfl, rfl, fun _ z => (nomatch z)⟩ (fun _ _ _ _ => trivial) ?_ ?_
  · rintro pre i post acc h' ei ⟨b1, f1, w, rfl, hl, hw⟩
    have hi := congrArg List.length ei
    rw [List.length_range, List.length_append, List.length_cons] at hi
    refine ⟨small_lt (by simp; omega), b, g, q, rfl, b1, by omega, by omega, fun h2 r r0 r1 b2 f2 => ⟨b2, f1.trans f2, w ++ [r], by simp [dI], by simp; omega, fun x hx => ?_⟩⟩
    rcases List.mem_append.mp hx with hx | hx
    · exact hw x hx
    · rw [List.mem_singleton.mp hx]; exact ⟨r0, r1⟩
  · rintro acc h' ⟨b1, f1, w, rfl, hl, hw⟩
    rw [List.length_range] at hl
    exact k h' w hl hw b1 f1
theorem v__law_odd_word {c : Cn} (hc : c.fn = spT) {h : MH} {PQ : DK} {PE : Exn → MH → Prop} {ds : List D} (s : sp__law_odd_word ds h PQ PE) : wSs b__law_odd_word c { nx := fun _ h' => PQ .non h', rt := PQ } (startM N__law_odd_word.length ds) h := by
  obtain ⟨b, g, q, rfl, hB, q1, q2, k⟩ := s
  walk_at "vc"
  simp only [hc, spT]
  refine ⟨b, g, 12, rfl, hB, by decide, by decide, fun h1 r1 r10 r11 hB1 hf1 => ?_⟩
  walk_at "vc"
  refine ⟨.inr ⟨by omega, by omega⟩, b, g, 6, rfl, hB1, by decide, by decide, fun h2 r2 r20 r21 hB2 hf2 => ?_⟩
  walk_at "vc"
  by_cases c1 : r2 < 2
  · rw [if_pos c1]
    exact ⟨b, g, q, 1 + 2 * r1, rfl, hB2, by omega, by omega, by omega, by omega, fun h' w l lw hB' hf' => k h' w ⟨by omega, lw⟩ hB' ((hf1.trans hf2).trans hf')⟩
  rw [if_neg c1]
  refine ⟨b, g, q, rfl, hB2, by omega, by omega, fun h3 r3 r30 r31 hB3 hf3 => ?_⟩
  have F3 := (hf1.trans hf2).trans hf3
  walk_at "vc"
  have zt : ∀ (i : Int) (j : Int) (h : MH) (Q : DK), j ≤ 1000 → -5 ≤ j → Q (tI (List.replicate j.toNat i)) h → mulD (D.tup [D.int i]) (D.int j) h Q := fun i j h Q h1 h2 hq => by
    refine ⟨by omega, h1, by simp, ?_⟩
    have : (List.replicate j.toNat [D.int i]).flatten = dI (List.replicate j.toNat i) := by
      simp [dI]
    rw [this]; exact hq
  by_cases c2 : r2 = 2
  · rw [if_pos c2]
    refine ⟨⟨by omega, by omega⟩, small_le (by rw [rngL_len]; omega), ?_⟩
    refine loop_map (xs := List.range (1 + 2 * r1).toNat) (f := fun (i : Nat) => D.int (0 + i)) (fun pre acc h' => Bag h' b g ∧ FrB b g h h' ∧ ∃ w : List Int, acc = dI w ∧ w.length = pre.length ∧ ∀ x ∈ w, 0 ≤ x ∧ x < q) ⟨hB3, F3, [], rfl, rfl, fun _ z => (nomatch z)⟩ (fun _ _ _ _ => trivial) ?_ ?_
    · rintro pre i post acc h' ei ⟨b1, f1, w, rfl, hl, hw⟩
      have hi := congrArg List.length ei
      rw [List.length_range, List.length_append, List.length_cons] at hi
      have nx : ∀ x : Int, 0 ≤ x → x < q → ∀ y ∈ w ++ [x], 0 ≤ y ∧ y < q := fun x x0 x1 y hy => by
        rcases List.mem_append.mp hy with hy | hy
        · exact hw y hy
        · rw [List.mem_singleton.mp hy]; exact ⟨x0, x1⟩
      refine ⟨small_lt (by simp; omega), b, g, 4, rfl, b1, by decide, by decide, fun h4 r4 r40 r41 b4 f4 => ?_⟩
      walk_at "vc"
      by_cases c4 : 0 < r4
      · rw [if_pos c4]
        exact ⟨b4, f1.trans f4, w ++ [r3], by simp [dI], by simp; omega, nx r3 r30 r31⟩
      · rw [if_neg c4]
        exact ⟨b, g, q, rfl, b4, by omega, by omega, fun h5 r5 r50 r51 b5 f5 => ⟨b5, (f1.trans f4).trans f5, w ++ [r5], by simp [dI], by simp; omega, nx r5 r50 r51⟩⟩
    · rintro acc h' ⟨b1, f1, w, rfl, hl, hw⟩
      rw [List.length_range] at hl
      exact k h' w ⟨by omega, hw⟩ b1 f1
  rw [if_neg c2]
  by_cases c3 : r2 = 3
  · rw [if_pos c3]
    refine ⟨b, g, _, rfl, hB3, by omega, by omega, fun h4 r4 r40 r41 b4 f4 => ?_⟩
    refine ⟨b, g, _, rfl, b4, by omega, by omega, fun h5 r5 r50 r51 b5 f5 => ?_⟩
    walk_at "vc"
    refine ⟨by omega, small_le (by decide), zt _ _ _ _ (by omega) (by omega) ?_⟩
    have m0 := Int.fmod_nonneg_of_pos (r3 + 1 + r5) (b := q) (by omega)
    have m1 := Int.fmod_lt_of_pos (r3 + 1 + r5) (b := q) (by omega)
    generalize (r3 + 1 + r5).fmod q = m at m0 m1 ⊢
    refine ⟨small_le (by decide), add_tup (small_le (by simp; omega)) ⟨small_le (by decide), ?_⟩⟩
    refine zt _ _ _ _ (by omega) (by omega) (add_tup (small_le (by simp; omega)) ?_)
    have ew : (List.replicate r4.toNat r3).map D.int ++ [D.int m] ++ (List.replicate (1 + 2 * r1 - 1 - r4).toNat r3).map D.int = dI (List.replicate r4.toNat r3 ++ [m] ++ List.replicate (1 + 2 * r1 - 1 - r4).toNat r3) := by simp [dI]
    rw [ew]
    refine k h5 _ ⟨by simp; omega, fun x hx => ?_⟩ b5 ((F3.trans f4).trans f5)
    rcases List.mem_append.mp hx with hx | hx
    · rcases List.mem_append.mp hx with hx | hx
      · rw [List.eq_of_mem_replicate hx]; exact ⟨r30, r31⟩
      · rw [List.mem_singleton.mp hx]; exact ⟨m0, m1⟩
    · rw [List.eq_of_mem_replicate hx]; exact ⟨r30, r31⟩
  rw [if_neg c3]
  refine ⟨b, g, 2, rfl, hB3, by decide, by decide, fun h4 r4 r40 r41 b4 f4 => ?_⟩
  walk_at "vc"
  refine ⟨⟨by omega, by omega⟩, small_le (by rw [rngL_len]; omega), ?_⟩
  refine loop_map (xs := List.range (2 + r4).toNat) (f := fun (i : Nat) => D.int (0 + i)) (fun pre acc h' => Bag h' b g ∧ FrB b g h h' ∧ acc.length = pre.length ∧ ∀ d ∈ acc, ∃ w : List Int, d = tI w ∧ Wq q w) ⟨b4, F3.trans f4, rfl, fun _ z => (nomatch z)⟩ (fun _ _ _ _ => trivial) ?_ ?_
  · rintro pre i post acc h' ei ⟨b1, f1, hl, hw⟩
    have hi := congrArg List.length ei
    rw [List.length_range, List.length_append, List.length_cons] at hi
    refine ⟨small_lt (by omega), b, g, 5, rfl, b1, by decide, by decide, fun h5 r5 r50 r51 b5 f5 => ?_⟩
    walk_at "vc"
    refine ⟨b, g, q, 1 + r5, rfl, b5, by omega, by omega, by omega, by omega, fun h6 w wl ww b6 f6 => ⟨b6, (f1.trans f5).trans f6, by simp; omega, fun d hd => ?_⟩⟩
    rcases List.mem_append.mp hd with hd | hd
    · exact hw d hd
    · rw [List.mem_singleton.mp hd]; exact ⟨w, rfl, by omega, ww⟩
  rintro acc h5 ⟨b5, f5, hl, hw⟩
  rw [List.length_range] at hl
  refine ⟨small_le (by omega), fun p np => ?_⟩
  have hne := b5.ne np
  have b6 : Bag (mup h5 p (.lst acc)) b g := b5.ex (Ex.new np)
  have f6 : FrB b g h (mup h5 p (.lst acc)) := f5.ex (Ex.new np)
  refine ⟨b, g, 9, rfl, b6, by decide, by decide, fun h7 r7 r70 r71 b7 f7 => ?_⟩
  walk_at "vc"
  refine ⟨⟨by omega, by omega⟩, ?_⟩
  have hp7 : h7 p = some (.lst acc) := f7 _ _ hne.1 hne.2 mup_same
  refine loop_map (xs := List.range (4 + r7).toNat) (f := fun (i : Nat) => D.int (0 + i)) (fun pre σ h' => Bag h' b g ∧ FrB b g h h' ∧ h' p = some (.lst acc) ∧ ∃ (w : List Int) (t9 t10 : Option D), w.length ≤ 22 ∧ (∀ x ∈ w, 0 ≤ x ∧ x < q) ∧ σ = [some (.ref b), some (.int q), some (.int (1 + 2 * r1)), some (.int r2), some (.int r3), none, none, some (.ref p), some (tI w), t9, t10, none]) ⟨b7, f6.trans f7, hp7, [], none, none, by simp, fun _ z => (nomatch z), rfl⟩ (fun _ _ _ _ => trivial) ?_ ?_
  · rintro pre i post σ h' ei ⟨b8, f8, hp8, w, t9, t10, wl, ww, rfl⟩
    walk_at "vc"
    refine ⟨b, g, p, acc, rfl, b8, hne.1, hne.2, hp8, by omega, by omega, fun h9 x hx b9 f9 => ?_⟩
    obtain ⟨v, rfl, vl, vw⟩ := hw x hx
    walk_at "vc"
    have hp9 := f9 _ _ hne.1 hne.2 hp8
    by_cases c5 : (22 : Int) < w.length + v.length
    · rw [if_neg (by simp [c5])]
      exact ⟨b9, f8.trans f9, hp9, w, some (.int (0 + i)), some (tI v), wl, ww, rfl⟩
    · rw [if_pos (by simp [c5])]
      refine ⟨small_le (by omega), b9, f8.trans f9, hp9, w ++ v, some (.int (0 + i)), some (tI v), by simp; omega, fun y hy => ?_, by simp⟩
      rcases List.mem_append.mp hy with hy | hy
      · exact ww y hy
      · exact vw y hy
  · rintro σ h' ⟨b8, f8, hp8, w, t9, t10, wl, ww, rfl⟩
    walk_at "vc"
    refine ⟨by decide, ?_⟩
    by_cases c6 : w.length % 2 = 1
    · rw [if_pos c6]
      exact k h' w ⟨by omega, ww⟩ b8 f8
    · rw [if_neg c6]
      refine ⟨b, g, q, rfl, b8, by omega, by omega, fun h9 r9 r90 r91 b9 f9 => ⟨small_le (by decide), small_le (by omega), ?_⟩⟩
      have ew : w.map D.int ++ [D.int r9] = dI (w ++ [r9]) := by simp [dI]
      rw [ew]
      refine k h9 _ ⟨by simp; omega, fun y hy => ?_⟩ b9 (f8.trans f9)
      rcases List.mem_append.mp hy with hy | hy
      · exact ww y hy
      · rw [List.mem_singleton.mp hy]; exact ⟨r90, r91⟩
theorem v__law_bad_word {c : Cn} (hc : c.fn = spT) {h : MH} {PQ : DK} {PE : Exn → MH → Prop} {ds : List D} (s : sp__law_bad_word ds h PQ PE) : wSs b__law_bad_word c { nx := fun _ h' => PQ .non h', rt := PQ } (startM N__law_bad_word.length ds) h := by
  obtain ⟨b, g, q, rfl, hB, q1, q2, k⟩ := s
  walk_at "vc"
  simp only [hc, spT]
  refine ⟨b, g, 4, rfl, hB, by decide, by decide, fun h1 r1 r10 r11 hB1 hf1 => ?_⟩
  refine ⟨b, g, 8, rfl, hB1, by decide, by decide, fun h2 r2 r20 r21 hB2 hf2 => ?_⟩
  walk_at "vc"
  have zm : ∀ (v : List Int) (t : Int) (h : MH) (Q : DK), 0 ≤ t → t ≤ 24 → v.length ≤ 24 → Q (tI (List.replicate t.toNat v).flatten) h → mulD (tI v) (D.int t) h Q := fun v t h Q h1 h2 h3 hq => by
    refine ⟨by omega, by omega, by simp; omega, ?_⟩
    have : (List.replicate t.toNat (v.map D.int)).flatten = dI (List.replicate t.toNat v).flatten := by
      simp [dI, List.map_flatten]
    rw [this]; exact hq
  have wm : ∀ (v : List Int) (t : Int), t.toNat * v.length ≤ 24 → (∀ x ∈ v, 0 ≤ x ∧ x < q) → Wq q (List.replicate t.toNat v).flatten := fun v t h1 h2 => by
    refine ⟨by simp; omega, fun x hx => ?_⟩
    obtain ⟨l, hl, hx⟩ := List.mem_flatten.mp hx
    rw [List.eq_of_mem_replicate hl] at hx
    exact h2 x hx
  by_cases c1 : r1 = 0
  · rw [if_pos c1]
    refine ⟨b, g, 12, rfl, hB2, by decide, by decide, fun h3 r3 r30 r31 hB3 hf3 => ?_⟩
    walk_at "vc"
    refine ⟨.inr ⟨by omega, by omega⟩, b, g, q, _, rfl, hB3, by omega, by omega, by omega, by omega, fun h4 w wl ww b4 f4 => k h4 w ⟨by omega, ww⟩ b4 (((hf1.trans hf2).trans hf3).trans f4)⟩
  rw [if_neg c1]
  by_cases c2 : r1 = 1
  · rw [if_pos c2]
    refine ⟨small_le (by decide), small_le (by decide), zm [1] 23 _ _ (by decide) (by decide) (by decide) ⟨small_le (by decide), zm [0, 1] 12 _ _ (by decide) (by decide) (by decide) ⟨small_le (by decide), zm [q - 1] 9 _ _ (by decide) (by decide) (by simp) ⟨small_le (by decide), small_le (by decide), fun p np => ?_⟩⟩⟩⟩
    have hne := hB2.ne np
    refine ⟨b, g, p, _, rfl, hB2.ex (Ex.new np), hne.1, hne.2, mup_same, by simp, by simp, fun h3 x hx b3 f3 => ?_⟩
    have F := (hf1.trans hf2).trans ((exFr (Ex.new np)).trans f3)
    simp only [List.mem_cons, List.not_mem_nil, or_false] at hx
    rcases hx with rfl | rfl | rfl | rfl | rfl
    · exact k h3 [] ⟨by simp, fun _ z => (nomatch z)⟩ b3 F
    · exact k h3 [0, 0, 0] ⟨by simp, fun x hx => by simp at hx; omega⟩ b3 F
    · exact k h3 _ (wm [1] 23 (by decide) (fun x hx => by simp at hx; omega)) b3 F
    · exact k h3 _ (wm [0, 1] 12 (by decide) (fun x hx => by simp at hx; omega)) b3 F
    · exact k h3 _ (wm [q - 1] 9 (by simp) (fun x hx => by simp at hx; omega)) b3 F
  rw [if_neg c2]
  refine ⟨b, g, q, _, rfl, hB2, by omega, by omega, by omega, by omega, fun h3 v vl vw b3 f3 => ?_⟩
  have F3 := (hf1.trans hf2).trans f3
  have hm : 3 ≤ Int.fdiv 24 (1 + r2) ∧ Int.fdiv 24 (1 + r2) ≤ 24 ∧ (Int.fdiv 24 (1 + r2)).toNat * v.length ≤ 24 := by
    have : r2 = 0 ∨ r2 = 1 ∨ r2 = 2 ∨ r2 = 3 ∨ r2 = 4 ∨ r2 = 5 ∨ r2 = 6 ∨ r2 = 7 := by omega
    rw [vl]
    rcases this with rfl | rfl | rfl | rfl | rfl | rfl | rfl | rfl <;> decide
  have hodd : (1 + r2).fmod 2 = 1 → v.length ≤ 7 := fun z => by
    have : r2 = 0 ∨ r2 = 1 ∨ r2 = 2 ∨ r2 = 3 ∨ r2 = 4 ∨ r2 = 5 ∨ r2 = 6 ∨ r2 = 7 := by omega
    rcases this with rfl | rfl | rfl | rfl | rfl | rfl | rfl | rfl <;> first | (rw [vl]; decide) | (exact absurd z (by decide))
  refine ⟨⟨by omega, by omega⟩, ?_⟩
  generalize Int.fdiv 24 (1 + r2) = m at hm ⊢
  obtain ⟨m1, m2, m3⟩ := hm
  have hle : ∀ t : Int, 0 ≤ t → t ≤ m → t.toNat * v.length ≤ 24 := fun t t0 t1 => Nat.le_trans (Nat.mul_le_mul_right _ (by omega)) m3
  refine ⟨b, g, _, rfl, b3, by omega, by omega, fun h4 r4 r40 r41 b4 f4 => ?_⟩
  walk_at "vc"
  have F4 := F3.trans f4
  have dft : mulD (tI v) (D.int (2 + r4)) h4 PQ := zm v _ _ _ (by omega) (by omega) (by omega) (k h4 _ (wm v _ (hle _ (by omega) (by omega)) vw) b4 F4)
  by_cases c3 : r1 = 2
  · rw [if_pos c3]
    refine ⟨by decide, ?_⟩
    by_cases c4 : (1 + r2).fmod 2 = 1
    · rw [if_pos c4]
      refine ⟨small_le (by decide), small_le (by decide), fun p np => ?_⟩
      have hne := b4.ne np
      have h7 := hodd c4
      refine ⟨b, g, p, _, rfl, b4.ex (Ex.new np), hne.1, hne.2, mup_same, by simp, by simp, fun h5 x hx b5 f5 => ?_⟩
      have F5 := F4.trans ((exFr (Ex.new np)).trans f5)
      have h3 : mulD (tI v) (D.int 3) h5 PQ := zm v _ _ _ (by omega) (by omega) (by omega) (k h5 _ (wm v 3 (by rw [show (3 : Int).toNat = 3 from rfl]; omega) vw) b5 F5)
      obtain ⟨t, rfl, t0⟩ : ∃ t : Int, x = D.int t ∧ 0 ≤ t := by
        simp only [List.mem_cons, List.not_mem_nil, or_false] at hx
        rcases hx with rfl | rfl | rfl | rfl | rfl | rfl <;> exact ⟨_, rfl, by decide⟩
      walk_at "vc"
      by_cases c5 : m < t
      · rw [if_neg (by simp [c5])]; exact h3
      · rw [if_pos (by simp [c5])]
        exact zm v _ _ _ (by omega) (by omega) (by omega) (k h5 _ (wm v _ (hle _ (by omega) (by omega)) vw) b5 F5)
    · rw [if_neg c4]; exact dft
  · rw [if_neg c3]; exact dft
end W
end MP

namespace MP
open PySem PySem.W
namespace W
local macro_rules | `(tactic| walk_at "vc") => `(tactic| simp only [wSs, wS, wE, wEs, wL, wC, wI, wO, wHs, tgt, tgts, binD, cmpD, rngI, startM, List.map_cons, List.map_nil, List.length_cons, List.length_nil, List.replicate, List.append_assoc, List.cons_append, List.nil_append, List.getElem?_cons_zero, List.getElem?_cons_succ, List.set_cons_zero, List.set_cons_succ, z_ex1, z_ex2, truD_bl, z_seqT, z_ite1, z_ite0, z_iteD, z_at0, z_at1, z_at2, z_add, z_sub, z_mul, z_fdiv, z_mod, z_pow, z_neg, z_addT, z_lenT, z_int, z_intB, z_abs, z_slT, z_eqI, z_eqB, z_eqT, z_ltI0, z_ltI1, z_ltT0, z_ltT1, z_ltK, z_is, z_isN, z_isT, z_isI, oD_non, fm2, fm20, List.length_map, Option.isNone_some, Option.isNone_none, oD, z_blE, z_intE, z_two, Bool.false_xor, Bool.true_xor, Option.bind_some, Option.some.injEq, exists_eq_left', Nat.zero_le, wipeM, setAll, List.foldl_cons, List.foldl_nil, List.reverse_cons, List.reverse_nil, L.fresh, newL, true_and, if_true, if_false, Bool.false_eq_true])
theorem preL_len {n : Nat} {l : List Int} : ∀ (k : Nat) (w : List Int), (preL n l k w).length ≤ k
  | 0, w => Nat.le_refl _
  | k + 1, w => by
    unfold preL
    split
    · exact Nat.zero_le _
    · rw [List.length_cons]; have := preL_len (n := n) (l := l) k (l ++ w); omega
theorem goneS_app {n : Nat} {l : List Int} (a b : List (List Int)) : goneS n (a ++ b) l = goneS n a l ++ goneS n b l := by unfold goneS; simp
theorem v_gone_away_core {c : Cn} (hc : c.fn = spT) {h : MH} {PQ : DK} {PE : Exn → MH → Prop} {q n : Nat} (hq : q ≤ 4) (hn : n ≤ 11) (hfin : gfin n 3000 (let1 q) = true)
    (k : ∀ h' a b rs, Ex h h' → h' a = some (.lst rs) → h' b = some (.lst (wds (goneW q n))) → PQ (.tup [.ref a, .ref b]) h') : wSs b_gone_away c { nx := fun _ h' => PQ .non h', rt := PQ } (startM N_gone_away.length [.int q, .int n]) h := by
  walk_at "vc"
  simp only [hc, spT]
  refine ⟨⟨by omega, by omega⟩, small_le (by rw [rngL_len]; omega), ?_⟩
  refine comp_map (xs := List.range ((q : Int)).toNat) (dx := fun (i : Nat) => D.int (0 + i)) (p := fun _ => true) (f := fun (i : Nat) => tI [(i : Int)]) (fun _ _ => trivial) ?_ ?_
  · rintro i acc h' K hi hl e hK
    rw [List.length_range] at hl
    refine ⟨small_lt (by omega), small_le (by decide), ?_⟩
    rw [show (0 : Int) + (i : Int) = (i : Int) by omega]
    exact hK h' (.refl _)
  intro h1 e1
  rw [List.filter_eq_self.mpr fun _ _ => rfl]
  have e0 : ((List.range ((q : Int)).toNat).map fun (i : Nat) => tI [(i : Int)]) = wds (let1 q) := by
    rw [show ((q : Int)).toNat = q by omega]; unfold wds let1; rw [List.map_map]; rfl
  rw [e0]
  refine ⟨small_le (by simp [wds, let1]; omega), fun pw nw pr nr => ?_⟩
  have xw := e1.trans (Ex.new (o := MO.lst (wds (let1 q))) nw)
  have hpr : h pr = none := xw.none nr
  have xr := xw.trans (Ex.new (o := MO.lst []) nr)
  have hw0 := mup_at (o := MO.lst []) nr (mup_same (h := h1) (a := pw) (o := MO.lst (wds (let1 q))))
  have hnep : pw ≠ pr := fun z => by rw [← z, mup_same] at nr; cases nr
  refine ⟨pw, let1 q, n, rfl, hw0, ?_⟩
  refine ⟨fun m σ h' => Ex h h' ∧ ∃ (ws : List (List Int)) (kk : Nat) (pw pr : Addr) (rs : List D) (t5 t6 t7 : Option D), m = kk ∧ h pw = none ∧ h pr = none ∧ pw ≠ pr ∧ σ = [some (.int q), some (.int n), some (.ref pw), some (.ref pr), some (oD (lo ws n)), t5, t6, t7] ∧ h' pw = some (.lst (wds ws)) ∧ h' pr = some (.lst rs) ∧ rs.length + kk ≤ 3000 ∧ gfin n kk ws = true ∧ gone n kk ws = goneW q n,
    ⟨_, xr, let1 q, 3000, pw, pr, [], none, none, none, rfl, e1.none nw, hpr, hnep, rfl, hw0, mup_same, Nat.le_refl _, hfin, rfl⟩, ?_⟩
  clear xr hw0 hnep hpr xw nr nw e0 e1
  rintro m σ h' ⟨g1, ws, kk, pw, pr, rs, t5, t6, t7, rfl, hpw, hpr, hne, rfl, g2, g3, g4, g5, g6⟩
  cases m with
  | zero => unfold gfin at g5; cases g5
  | succ f =>
  unfold gfin at g5
  unfold gone at g6
  simp only [Bool.and_eq_true, decide_eq_true_eq] at g5
  obtain ⟨⟨s1, s2⟩, g5⟩ := g5
  have s3 : ∀ v ∈ ws, 1 ≤ v.length ∧ v.length ≤ 100 := fun v hv => by
    have := List.all_eq_true.mp s2 v hv
    simp only [Bool.and_eq_true, decide_eq_true_eq] at this
    exact this
  walk_at "vc"
  cases el : lo ws n with
  | none =>
    rw [el] at g6
    simp only at g6
    walk_at "vc"
    simp only [Bool.not_true, Bool.false_eq_true, if_false]
    refine ⟨small_le (by decide), ?_⟩
    exact k h' pr pw rs g1 g3 (by rw [← g6]; exact g2)
  | some l =>
  rw [el] at g5 g6
  simp only at g5 g6
  have lm : l ∈ ws := by have := lo_ok ws n; rw [el] at this; exact this.1
  obtain ⟨l1, l2⟩ := s3 l lm
  have tot : (goneS n ws l).length ≤ 20000 := by
    cases f with
    | zero => unfold gfin at g5; cases g5
    | succ f' =>
      unfold gfin at g5
      simp only [Bool.and_eq_true, decide_eq_true_eq] at g5
      exact g5.1.1
  walk_at "vc"
  simp only [Bool.not_false, if_true]
  refine ⟨onL g3 (by simp), app_q g3 (small_lt (by omega)) ?_⟩
  have x1 : Ex h (mup h' pr (.lst (rs ++ [tI l]))) := g1.upd hpr
  have g2' : mup h' pr (.lst (rs ++ [tI l])) pw = some (.lst (wds ws)) := by rw [mup_ne hne]; exact g2
  have g3' := mup_same (h := h') (a := pr) (o := MO.lst (rs ++ [tI l]))
  generalize mup h' pr (.lst (rs ++ [tI l])) = h2 at x1 g2' g3' ⊢
  intro pf nf
  have x2 := x1.trans (Ex.new (o := MO.lst []) nf)
  have hpf : h pf = none := x1.none nf
  have nfw : pf ≠ pw := fun z => by rw [z, g2'] at nf; cases nf
  have nfr : pf ≠ pr := fun z => by rw [z, g3'] at nf; cases nf
  refine ⟨true, _, seq_lst (mup_at nf g2'), ?_⟩
  refine loop_map (xs := ws) (f := tI) (fun pre σ h' => Ex h h' ∧ h' pw = some (.lst (wds ws)) ∧ h' pr = some (.lst (rs ++ [tI l])) ∧ h' pf = some (.lst (wds (goneS n pre l))) ∧ ∃ t6 : Option D, σ = [some (.int q), some (.int n), some (.ref pw), some (.ref pr), some (tI l), some (.ref pf), t6, t7]) ⟨x2, mup_at nf g2', mup_at nf g3', mup_same, t6, rfl⟩ (fun _ _ _ j => seq_lst j.2.1) ?_ ?_
  case refine_2 =>
    rintro σ h' ⟨j1, j2, j3, j4, t6, rfl⟩
    walk_at "vc"
    refine ⟨pf, goneS n ws l, n, rfl, j4, ?_⟩
    exact ⟨f, by omega, j1, goneS n ws l, f, pf, pr, rs ++ [tI l], _, _, _, rfl, hpf, hpr, nfr, rfl, j4, j3, by simp; omega, g5, g6⟩
  rintro pre w post σ h' ew ⟨j1, j2, j3, j4, t6', rfl⟩
  obtain ⟨w1, w2⟩ := s3 w (by rw [ew]; simp)
  have tot2 : (goneS n pre l).length + (preL n l (n + 1) w).length ≤ 20000 := by
    rw [ew, show pre ++ w :: post = pre ++ [w] ++ post by simp, goneS_app, goneS_app] at tot
    have : goneS n [w] l = preL n l (n + 1) w := by unfold goneS; simp
    rw [this, List.length_append, List.length_append] at tot
    omega
  walk_at "vc"
  refine ⟨fun m σ h' => Ex h h' ∧ h' pw = some (.lst (wds ws)) ∧ h' pr = some (.lst (rs ++ [tI l])) ∧ ∃ (v : List Int) (em : List (List Int)), h' pf = some (.lst (wds (goneS n pre l ++ em))) ∧ em ++ preL n l m v = preL n l (n + 1) w ∧ n + 1 ≤ m + v.length ∧ 1 ≤ v.length ∧ v.length ≤ 200 ∧ σ = [some (.int q), some (.int n), some (.ref pw), some (.ref pr), some (tI l), some (.ref pf), some (tI v), t7],
    ⟨n + 1, j1, j2, j3, w, [], by rw [List.append_nil]; exact j4, rfl, by omega, w1, by omega, rfl⟩, ?_⟩
  rintro m σ h3 ⟨i1, i2, i3, v, em, i4, i5, i6, i7, i8, rfl⟩
  walk_at "vc"
  have eend : goneS n (pre ++ [w]) l = goneS n pre l ++ preL n l (n + 1) w := by rw [goneS_app]; unfold goneS; simp
  by_cases c1 : v = l
  · rw [if_neg (by simp [c1])]
    refine ⟨i1, i2, i3, ?_, _, rfl⟩
    rw [eend, ← i5]
    have : preL n l m v = [] := by
      cases m with
      | zero => rfl
      | succ m => unfold preL; rw [if_pos (.inl c1)]
    rw [this, List.append_nil]; exact i4
  rw [if_pos (by simp [c1])]
  by_cases c2 : n < v.length
  · rw [if_neg (by simp; omega)]
    refine ⟨i1, i2, i3, ?_, _, rfl⟩
    rw [eend, ← i5]
    have : preL n l m v = [] := by
      cases m with
      | zero => rfl
      | succ m => unfold preL; rw [if_pos (.inr c2)]
    rw [this, List.append_nil]; exact i4
  rw [if_pos (by simp; omega)]
  obtain ⟨m', rfl⟩ : ∃ m', m = m' + 1 := ⟨m - 1, by omega⟩
  have e9 : preL n l (m' + 1) v = v :: preL n l m' (l ++ v) := by
    rw [preL, if_neg (fun z => z.elim c1 c2)]
  rw [e9] at i5
  have eml : em.length < (preL n l (n + 1) w).length := by
    have := congrArg List.length i5
    rw [List.length_append, List.length_cons] at this
    omega
  refine ⟨onL i4 (by simp), app_q i4 (small_lt (by simp [wds]; omega)) ⟨small_le (by omega), ?_⟩⟩
  refine ⟨m', by omega, i1.upd hpf, by rw [mup_ne (Ne.symm nfw)]; exact i2, by rw [mup_ne (Ne.symm nfr)]; exact i3, l ++ v, em ++ [v], ?_, ?_, by simp; omega, by simp; omega, by simp; omega, ?_⟩
  · rw [mup_same]; simp [wds]
  · rw [← i5]; simp
  · simp
end W
end MP

namespace MP
open PySem PySem.W
namespace W
local macro_rules | `(tactic| walk_at "vc") => `(tactic| simp only [wSs, wS, wE, wEs, wL, wC, wI, wO, wHs, tgt, tgts, binD, cmpD, rngI, startM, List.map_cons, List.map_nil, List.length_cons, List.length_nil, List.replicate, List.append_assoc, List.cons_append, List.nil_append, List.getElem?_cons_zero, List.getElem?_cons_succ, List.set_cons_zero, List.set_cons_succ, z_ex1, z_ex2, truD_bl, z_seqT, z_ite1, z_ite0, z_iteD, z_at0, z_at1, z_at2, z_add, z_sub, z_mul, z_fdiv, z_mod, z_pow, z_neg, z_addT, z_lenT, z_int, z_intB, z_abs, z_slT, z_eqI, z_eqB, z_eqT, z_ltI0, z_ltI1, z_ltT0, z_ltT1, z_ltK, z_is, z_isN, z_isT, z_isI, oD_non, fm2, fm20, List.length_map, Option.isNone_some, Option.isNone_none, oD, z_blE, z_intE, z_two, Bool.false_xor, Bool.true_xor, Option.bind_some, Option.some.injEq, exists_eq_left', Nat.zero_le, wipeM, setAll, List.foldl_cons, List.foldl_nil, List.reverse_cons, List.reverse_nil, L.fresh, newL, true_and, if_true, if_false, Bool.false_eq_true])
theorem gf2 : ([1, 3, 5, 7, 9, 11] : List Nat).all (fun n => gfin n 3000 (let1 2)) = true := by decide +kernel
theorem gf3 : ([1, 3, 5, 7] : List Nat).all (fun n => gfin n 3000 (let1 3)) = true := by decide +kernel
theorem gf4 : ([1, 3, 5] : List Nat).all (fun n => gfin n 3000 (let1 4)) = true := by decide +kernel
theorem few_gf {q n : Nat} (f : few q n) : q ≤ 4 ∧ n ≤ 11 ∧ gfin n 3000 (let1 q) = true := by
  rcases f with ⟨rfl, h⟩ | ⟨rfl, h⟩ | ⟨rfl, h⟩
  · exact ⟨by omega, by omega, List.all_eq_true.mp gf2 n (by simp; omega)⟩
  · exact ⟨by omega, by omega, List.all_eq_true.mp gf3 n (by simp; omega)⟩
  · exact ⟨by omega, by omega, List.all_eq_true.mp gf4 n (by simp; omega)⟩
theorem v_gone_away {c : Cn} (hc : c.fn = spT) {h : MH} {PQ : DK} {PE : Exn → MH → Prop} {ds : List D} (s : sp_gone_away ds h PQ PE) : wSs b_gone_away c { nx := fun _ h' => PQ .non h', rt := PQ } (startM N_gone_away.length ds) h := by
  obtain ⟨q, n, rfl, f, k⟩ := s
  obtain ⟨f1, f2, f3⟩ := few_gf f
  exact v_gone_away_core (PE := PE) hc f1 f2 f3 k
end W
end MP

namespace MP
open PySem PySem.W
namespace W
local macro_rules | `(tactic| walk_at "vc") => `(tactic| simp only [wSs, wS, wE, wEs, wL, wC, wI, wO, wHs, tgt, tgts, binD, cmpD, rngI, startM, List.map_cons, List.map_nil, List.length_cons, List.length_nil, List.replicate, List.append_assoc, List.cons_append, List.nil_append, List.getElem?_cons_zero, List.getElem?_cons_succ, List.set_cons_zero, List.set_cons_succ, z_ex1, z_ex2, truD_bl, z_seqT, z_ite1, z_ite0, z_iteD, z_at0, z_at1, z_at2, z_add, z_sub, z_mul, z_fdiv, z_mod, z_pow, z_neg, z_addT, z_lenT, z_int, z_intB, z_abs, z_slT, z_eqI, z_eqB, z_eqT, z_ltI0, z_ltI1, z_ltT0, z_ltT1, z_ltK, z_is, z_isN, z_isT, z_isI, oD_non, fm2, fm20, List.length_map, Option.isNone_some, Option.isNone_none, oD, z_blE, z_intE, z_two, Bool.false_xor, Bool.true_xor, Option.bind_some, Option.some.injEq, exists_eq_left', Nat.zero_le, wipeM, setAll, List.foldl_cons, List.foldl_nil, List.reverse_cons, List.reverse_nil, L.fresh, newL, true_and, if_true, if_false, Bool.false_eq_true])
def codeW (q : Nat) : List Int → Nat
  | [] => 0
  | x :: w => x.toNat * q ^ w.length + codeW q w
def digB (q n : Nat) (w : List Int) : Bool := decide (w.length = n) && w.all fun x => decide (0 ≤ x) && decide (x < q)
theorem codeW_lt {q : Nat} : ∀ {w : List Int}, (∀ x ∈ w, 0 ≤ x ∧ x < q) → codeW q w < q ^ w.length
  | [], _ => by simp [codeW]
  | x :: w, h => by
    have h1 := h x List.mem_cons_self
    have h2 := codeW_lt (q := q) (w := w) fun y hy => h y (List.mem_cons_of_mem _ hy)
    unfold codeW
    rw [List.length_cons, Nat.pow_succ]
    have h3 : x.toNat + 1 ≤ q := by omega
    have h4 : (x.toNat + 1) * q ^ w.length ≤ q * q ^ w.length := Nat.mul_le_mul_right _ h3
    rw [Nat.succ_mul] at h4
    rw [Nat.mul_comm (q ^ w.length) q]
    omega
theorem codeW_inj {q : Nat} : ∀ {w v : List Int}, w.length = v.length → (∀ x ∈ w, 0 ≤ x ∧ x < q) → (∀ x ∈ v, 0 ≤ x ∧ x < q) → codeW q w = codeW q v → w = v
  | [], [], _, _, _, _ => rfl
  | [], _ :: _, h, _, _, _ => by simp at h
  | _ :: _, [], h, _, _, _ => by simp at h
  | x :: w, y :: v, hl, hw, hv, e => by
    have hl : w.length = v.length := by simpa using hl
    have w1 := codeW_lt (q := q) (w := w) fun y hy => hw y (List.mem_cons_of_mem _ hy)
    have v1 := codeW_lt (q := q) (w := v) fun y hy => hv y (List.mem_cons_of_mem _ hy)
    have hx := hw x List.mem_cons_self
    have hy := hv y List.mem_cons_self
    unfold codeW at e
    rw [← hl] at e v1
    have hp : 0 < q ^ w.length := by omega
    have e1 := congrArg (fun z => z / q ^ w.length) e
    simp only [Nat.add_comm _ (codeW q w), Nat.add_comm _ (codeW q v), Nat.add_mul_div_right _ _ hp, Nat.div_eq_of_lt w1, Nat.div_eq_of_lt v1, Nat.zero_add] at e1
    rw [e1] at e
    rw [codeW_inj hl (fun y hy => hw y (List.mem_cons_of_mem _ hy)) (fun y hy => hv y (List.mem_cons_of_mem _ hy)) (by omega), show x = y by omega]
def bitsU (q : Nat) (U : List (List Int)) : Nat := U.foldl (fun s u => s ||| 2 ^ codeW q u) 0
theorem bits_mem (q : Nat) (c : Nat) : ∀ (U : List (List Int)) (s : Nat), (U.foldl (fun s u => s ||| 2 ^ codeW q u) s).testBit c = true → s.testBit c = true ∨ ∃ u ∈ U, codeW q u = c
  | [], s, h => .inl h
  | u :: U, s, h => by
    rcases bits_mem q c U _ h with h | ⟨v, hv, e⟩
    · rw [Nat.testBit_or, Bool.or_eq_true] at h
      rcases h with h | h
      · exact .inl h
      · rw [Nat.testBit_two_pow] at h
        exact .inr ⟨u, List.mem_cons_self, of_decide_eq_true h⟩
    · exact .inr ⟨v, List.mem_cons_of_mem _ hv, e⟩
def npl (q n : Nat) : List (List Int) := if n = 1 then [] else if n = 9 then (List.range q).flatMap fun (a : Nat) => (List.range q).flatMap fun (b : Nat) => (List.range q).map fun (c : Nat) => [(a : Int), b, c, a, b, c, a, b, c] else (List.range q).map fun (a : Nat) => List.replicate n (a : Int)
def rotsU (q n : Nat) : List (List Int) := (lotL q n).flatMap fun l => (List.range n).map fun k => rot l k
def chk (q n : Nat) : Bool := (rotsU q n ++ npl q n).all (digB q n) && decide (bitsU q (rotsU q n ++ npl q n) = 2 ^ (q ^ n) - 1) && ((npl q n).all fun u => !plnB u) && (lotL q n).all fun l => plnB l && decide (l.length = n) && decide (tuF l = l)
theorem chk25 : chk 2 5 = true := by decide +kernel
theorem chk35 : chk 3 5 = true := by decide +kernel
theorem chk45 : chk 4 5 = true := by decide +kernel
end W
end MP

namespace MP
open PySem PySem.W
namespace W
local macro_rules | `(tactic| walk_at "vc") => `(tactic| simp only [wSs, wS, wE, wEs, wL, wC, wI, wO, wHs, tgt, tgts, binD, cmpD, rngI, startM, List.map_cons, List.map_nil, List.length_cons, List.length_nil, List.replicate, List.append_assoc, List.cons_append, List.nil_append, List.getElem?_cons_zero, List.getElem?_cons_succ, List.set_cons_zero, List.set_cons_succ, z_ex1, z_ex2, truD_bl, z_seqT, z_ite1, z_ite0, z_iteD, z_at0, z_at1, z_at2, z_add, z_sub, z_mul, z_fdiv, z_mod, z_pow, z_neg, z_addT, z_lenT, z_int, z_intB, z_abs, z_slT, z_eqI, z_eqB, z_eqT, z_ltI0, z_ltI1, z_ltT0, z_ltT1, z_ltK, z_is, z_isN, z_isT, z_isI, oD_non, fm2, fm20, List.length_map, Option.isNone_some, Option.isNone_none, oD, z_blE, z_intE, z_two, Bool.false_xor, Bool.true_xor, Option.bind_some, Option.some.injEq, exists_eq_left', Nat.zero_le, wipeM, setAll, List.foldl_cons, List.foldl_nil, List.reverse_cons, List.reverse_nil, L.fresh, newL, true_and, if_true, if_false, Bool.false_eq_true])
theorem chk2 : ([1, 3, 5, 7, 9, 11] : List Nat).all (fun n => chk 2 n) = true := by decide +kernel
theorem chk3 : ([1, 3, 5, 7] : List Nat).all (fun n => chk 3 n) = true := by decide +kernel
theorem chk4 : ([1, 3, 5] : List Nat).all (fun n => chk 4 n) = true := by decide +kernel
theorem few_chk {q n : Nat} (f : few q n) : chk q n = true := by
  rcases f with ⟨rfl, h⟩ | ⟨rfl, h⟩ | ⟨rfl, h⟩
  · exact List.all_eq_true.mp chk2 n (by simp; omega)
  · exact List.all_eq_true.mp chk3 n (by simp; omega)
  · exact List.all_eq_true.mp chk4 n (by simp; omega)
theorem lot_len {q n : Nat} (f : few q n) : ∀ l ∈ lotL q n, l.length = n ∧ Gd l ∧ tuF l = l := by
  have h := few_chk f
  unfold chk at h
  simp only [Bool.and_eq_true] at h
  intro l hl
  have := List.all_eq_true.mp h.2 l hl
  simp only [Bool.and_eq_true, decide_eq_true_eq] at this
  refine ⟨this.1.2, ⟨(plnB_iff l).mp this.1.1, ?_⟩, this.2⟩
  rw [this.1.2]
  rcases f with ⟨_, h⟩ | ⟨_, h⟩ | ⟨_, h⟩ <;> omega
theorem digB_iff {q n : Nat} {w : List Int} : digB q n w = true ↔ w.length = n ∧ ∀ x ∈ w, 0 ≤ x ∧ x < q := by
  unfold digB
  simp only [Bool.and_eq_true, decide_eq_true_eq, List.all_eq_true]
theorem tuF_lot {q n : Nat} (f : few q n) {w : List Int} (g : Gd w) (hl : w.length = n) (hd : ∀ x ∈ w, 0 ≤ x ∧ x < q) : tuF w ∈ lotL q n := by
  have h := few_chk f
  unfold chk at h
  simp only [Bool.and_eq_true, decide_eq_true_eq] at h
  obtain ⟨⟨⟨h1, h2⟩, h3⟩, h4⟩ := h
  have hc := codeW_lt hd
  rw [hl] at hc
  have hb : (2 ^ (q ^ n) - 1).testBit (codeW q w) = true := by
    rw [Nat.testBit_two_pow_sub_one]; exact decide_eq_true hc
  rw [← h2] at hb
  rcases bits_mem q (codeW q w) _ 0 hb with hz | ⟨u, hu, eu⟩
  · simp at hz
  · have hdu := digB_iff.mp (List.all_eq_true.mp h1 u hu)
    have := codeW_inj (hdu.1.trans hl.symm) hdu.2 hd eu
    subst this
    rcases List.mem_append.mp hu with hu | hu
    · obtain ⟨l, hl', hu⟩ := List.mem_flatMap.mp hu
      obtain ⟨k, hk, rfl⟩ := List.mem_map.mp hu
      obtain ⟨l1, l2, l3⟩ := lot_len f l hl'
      rw [tuF_rot l2.1 l2.2 (by rw [l1]; exact List.mem_range.mp hk), l3]
      exact hl'
    · have := List.all_eq_true.mp h3 u hu
      rw [(plnB_iff u).mpr g.1] at this
      cases this
end W
end MP

namespace MP
open PySem PySem.W
namespace W
local macro_rules | `(tactic| walk_at "vc") => `(tactic| simp only [wSs, wS, wE, wEs, wL, wC, wI, wO, wHs, tgt, tgts, binD, cmpD, rngI, startM, List.map_cons, List.map_nil, List.length_cons, List.length_nil, List.replicate, List.append_assoc, List.cons_append, List.nil_append, List.getElem?_cons_zero, List.getElem?_cons_succ, List.set_cons_zero, List.set_cons_succ, z_ex1, z_ex2, truD_bl, z_seqT, z_ite1, z_ite0, z_iteD, z_at0, z_at1, z_at2, z_add, z_sub, z_mul, z_fdiv, z_mod, z_pow, z_neg, z_addT, z_lenT, z_int, z_intB, z_abs, z_slT, z_eqI, z_eqB, z_eqT, z_ltI0, z_ltI1, z_ltT0, z_ltT1, z_ltK, z_is, z_isN, z_isT, z_isI, oD_non, fm2, fm20, List.length_map, Option.isNone_some, Option.isNone_none, oD, z_blE, z_intE, z_two, Bool.false_xor, Bool.true_xor, Option.bind_some, Option.some.injEq, exists_eq_left', Nat.zero_le, wipeM, setAll, List.foldl_cons, List.foldl_nil, List.reverse_cons, List.reverse_nil, L.fresh, newL, true_and, if_true, if_false, Bool.false_eq_true])
theorem v_refuse_row {c : Cn} (hc : c.fn = spT) {h : MH} {PQ : DK} {PE : Exn → MH → Prop} {ds : List D} (s : sp_refuse_row ds h PQ PE) : wSs b_refuse_row c { nx := fun _ h' => PQ .non h', rt := PQ } (startM N_refuse_row.length ds) h := by
  obtain ⟨q, n, rfl, f, k⟩ := s
  walk_at "vc"
  simp only [hc, spT]
  have hn : n % 2 = 1 ∧ 1 ≤ n ∧ n ≤ 11 ∧ 2 ≤ q ∧ q ≤ 4 := by rcases f with ⟨rfl, h⟩ | ⟨rfl, h⟩ | ⟨rfl, h⟩ <;> omega
  refine ⟨by decide, ?_⟩
  rw [if_neg (by omega)]
  refine ⟨q, n, rfl, by omega, by omega, by omega, ?_⟩
  have hp : ¬ (4096 : Int) < (q : Int) ^ ((n : Int)).toNat := by
    rcases f with ⟨rfl, h⟩ | ⟨rfl, h⟩ | ⟨rfl, h⟩
    · rcases h with rfl | rfl | rfl | rfl | rfl | rfl <;> decide
    · rcases h with rfl | rfl | rfl | rfl <;> decide
    · rcases h with rfl | rfl | rfl <;> decide
  walk_at "vc"
  rw [if_neg hp]
  exact k
theorem gone_len {n : Nat} : ∀ (k : Nat) (ws : List (List Int)), gfin n k ws = true → (gone n k ws).length ≤ 20000
  | 0, ws, h => by unfold gfin at h; cases h
  | k + 1, ws, h => by
    unfold gfin at h
    unfold gone
    simp only [Bool.and_eq_true, decide_eq_true_eq] at h
    cases e : lo ws n with
    | none => exact h.1.1
    | some l => rw [e] at h; exact gone_len k _ h.2
theorem v_away_lot {c : Cn} (hc : c.fn = spT) {h : MH} {PQ : DK} {PE : Exn → MH → Prop} {ds : List D} (s : sp_away_lot ds h PQ PE) : wSs b_away_lot c { nx := fun _ h' => PQ .non h', rt := PQ } (startM N_away_lot.length ds) h := by
  obtain ⟨q, n, rfl, f, k⟩ := s
  walk_at "vc"
  simp only [hc, spT]
  refine ⟨q, n, rfl, f, ?_⟩
  refine ⟨q, n, rfl, f, fun h1 a b rs e1 ha hb => ?_⟩
  walk_at "vc"
  obtain ⟨f1, f2, f3⟩ := few_gf f
  have gl : (goneW q n).length ≤ 20000 := gone_len _ _ f3
  have hn : 1 ≤ n := by rcases f with ⟨rfl, h⟩ | ⟨rfl, h⟩ | ⟨rfl, h⟩ <;> omega
  refine ⟨true, _, seq_lst hb, small_le (by simp [wds]; omega), ?_⟩
  refine comp_map (p := fun w : List Int => decide (w.length = n)) (f := tI) (fun h2 e2 => seq_lst (e2 _ _ hb)) ?_ ?_
  · rintro w acc h2 K hw hl e2 hK
    have := hK h2 (.refl _)
    walk_at "vc"
    refine ⟨small_lt (by omega), ?_⟩
    by_cases c1 : w.length = n
    · rw [decide_eq_true c1, if_pos rfl] at this
      rw [if_pos (by omega)]; exact this
    · rw [decide_eq_false c1, if_neg (by decide)] at this
      rw [if_neg (by omega)]; exact this
  intro h2 e2
  refine ⟨fun d hd => ?_, srtOk_ints _ fun l hl z => ?_, ?_⟩
  · obtain ⟨l, _, rfl⟩ := List.mem_map.mp hd
    exact pure0_tI l
  · have := of_decide_eq_true (List.mem_filter.mp hl).2
    rw [z] at this; simp at this; omega
  · exact k h2 (e1.trans e2)
def rowT (q a b : Nat) : List (List Int) := (List.range (q - (b + 1))).map fun (i : Nat) => [(a : Int), (b : Int), (b : Int) + 1 + i]
def threeL (q : Nat) : List (List Int) := (List.range q).flatMap fun a => (List.range (a + 1)).flatMap fun b => rowT q a b
theorem fm_len {α β : Type} {f : α → List β} {c : Nat} : ∀ {l : List α}, (∀ x ∈ l, (f x).length ≤ c) → (l.flatMap f).length ≤ c * l.length
  | [], _ => by simp
  | x :: l, h => by
    have h1 := h x List.mem_cons_self
    have h2 := fm_len (l := l) fun y hy => h y (List.mem_cons_of_mem _ hy)
    rw [List.flatMap_cons, List.length_append, List.length_cons, Nat.mul_succ]; omega
theorem rowT_len (q a b : Nat) : (rowT q a b).length ≤ q := by unfold rowT; simp
def leW (a b : List Int) : Bool := !lexI b a
theorem srt_lex (rs : List (List Int)) : sortDs (wds rs) = wds (rs.mergeSort leW) := by
  unfold sortDs wds
  refine (List.map_mergeSort fun a ha b hb => ?_).symm
  rw [PySem.W.dataLe_eq]
  show _ = !PySem.W.dataLt (toP (tI b)) (toP (tI a))
  rw [toP_tI, toP_tI, dataLt_tI]
  rfl
theorem lexI_asym {a b : List Int} (h : lexI a b = true) : lexI b a = false := by
  cases e : lexI b a with
  | false => rfl
  | true => have := lexI_trans h e; rw [lexI_irr] at this; cases this
theorem leW_tot (a b : List Int) : (leW a b || leW b a) = true := by
  unfold leW
  cases e : lexI b a with
  | false => rfl
  | true => rw [lexI_asym e]; rfl
theorem leW_trans (a b c : List Int) (h1 : leW a b = true) (h2 : leW b c = true) : leW a c = true := by
  unfold leW at *
  cases e : lexI c a with
  | false => rfl
  | true =>
    exfalso
    cases e1 : lexI b a with
    | true => rw [e1] at h1; cases h1
    | false =>
      cases e2 : lexI c b with
      | true => rw [e2] at h2; cases h2
      | false =>
        cases e3 : lexI a b with
        | true => rw [lexI_trans e e3] at e2; cases e2
        | false => rw [lexI_tri e3 e1, e2] at e; cases e
theorem leW_anti {a b : List Int} (h1 : leW a b = true) (h2 : leW b a = true) : a = b := by
  unfold leW at *
  exact lexI_tri (by simpa using h2) (by simpa using h1)
def pwW : List (List Int) → Bool
  | [] => true
  | a :: l => l.all (leW a) && pwW l
theorem pwW_iff : ∀ {l : List (List Int)}, pwW l = true → l.Pairwise fun a b => leW a b = true
  | [], _ => .nil
  | a :: l, h => by
    unfold pwW at h
    rw [Bool.and_eq_true] at h
    exact .cons (List.all_eq_true.mp h.1) (pwW_iff h.2)
theorem three_chk : ([2, 3, 4] : List Nat).all (fun q => (lotL q 3).isPerm (threeL q) && pwW (threeL q) && decide ((threeL q).length = (q * q * q - q) / 3)) = true := by decide +kernel
theorem three_srt {q : Nat} (q1 : 2 ≤ q) (q2 : q ≤ 4) : sortDs (wds (lotL q 3)) = wds (threeL q) ∧ (threeL q).length = (q * q * q - q) / 3 := by
  have h := List.all_eq_true.mp three_chk q (by simp; omega)
  simp only [Bool.and_eq_true, decide_eq_true_eq] at h
  obtain ⟨⟨h1, h2⟩, h3⟩ := h
  refine ⟨?_, h3⟩
  rw [srt_lex]
  congr 1
  refine List.Perm.eq_of_pairwise (le := fun a b => leW a b = true) (fun a b _ _ h1 h2 => leW_anti h1 h2) (List.pairwise_mergeSort leW_trans leW_tot _) (pwW_iff h2) ?_
  exact (List.mergeSort_perm _ _).trans (List.isPerm_iff.mp h1)
theorem v__law_three_lot {c : Cn} {h : MH} {PQ : DK} {PE : Exn → MH → Prop} {ds : List D} (s : sp__law_three_lot ds h PQ PE) : wSs b__law_three_lot c { nx := fun _ h' => PQ .non h', rt := PQ } (startM N__law_three_lot.length ds) h := by
  obtain ⟨q, rfl, q1, q2, k⟩ := s
  walk_at "vc"
  intro p np
  refine ⟨⟨by omega, by omega⟩, ?_⟩
  have hq : ((q : Nat) : Int).toNat = q := by omega
  rw [hq]
  refine loop_map (xs := List.range q) (f := fun (i : Nat) => D.int (0 + i)) (fun pre σ h' => Ex h h' ∧ h' p = some (.lst (wds (pre.flatMap fun a => (List.range (a + 1)).flatMap fun b => rowT q a b))) ∧ ∃ t2 t3 t4 : Option D, σ = [some (.int q), some (.ref p), t2, t3, t4]) ⟨Ex.new np, mup_same, none, none, none, rfl⟩ (fun _ _ _ _ => trivial) ?_ ?_
  · rintro pre a post σ h1 ea ⟨g1, g2, t2, t3, t4, rfl⟩
    have ha : a < q := List.mem_range.mp (by rw [ea]; simp)
    have pl : pre.length ≤ 4 := by have := congrArg List.length ea; simp at this; omega
    have hpm : ∀ x ∈ pre, x < q := fun x hx => List.mem_range.mp (by rw [ea]; simp [hx])
    have fl : (pre.flatMap fun a => (List.range (a + 1)).flatMap fun b => rowT q a b).length ≤ 100 := by
      have := fm_len (c := 20) (l := pre) (f := fun a => (List.range (a + 1)).flatMap fun b => rowT q a b) fun x hx => by
        have h1 := fm_len (c := 4) (l := List.range (x + 1)) (f := fun b => rowT q x b) fun y _ => by have := rowT_len q x y; omega
        rw [List.length_range] at h1
        have := hpm x hx; omega
      omega
    walk_at "vc"
    rw [show (0 : Int) + (a : Int) + 1 = ((a + 1 : Nat) : Int) by omega, show (0 : Int) + (a : Int) = (a : Int) by omega]
    refine ⟨⟨by omega, by omega⟩, ?_⟩
    have hq2 : ((a + 1 : Nat) : Int).toNat = a + 1 := by omega
    rw [hq2]
    generalize hF : (pre.flatMap fun a => (List.range (a + 1)).flatMap fun b => rowT q a b) = F at g2 fl ⊢
    refine loop_map (xs := List.range (a + 1)) (f := fun (i : Nat) => D.int (0 + i)) (fun pre2 σ h' => Ex h h' ∧ h' p = some (.lst (wds (F ++ pre2.flatMap fun b => rowT q a b))) ∧ ∃ t3 t4 : Option D, σ = [some (.int q), some (.ref p), some (.int a), t3, t4]) ⟨g1, by simpa using g2, t3, t4, rfl⟩ (fun _ _ _ _ => trivial) ?_ ?_
    · rintro pre2 b post2 σ h2 eb ⟨j1, j2, t3, t4, rfl⟩
      have hb : b < a + 1 := List.mem_range.mp (by rw [eb]; simp)
      have pl2 : pre2.length ≤ 4 := by have := congrArg List.length eb; simp at this; omega
      have fl2 : (pre2.flatMap fun b => rowT q a b).length ≤ 100 := by
        have := fm_len (c := 4) (l := pre2) (f := fun b => rowT q a b) fun y _ => by have := rowT_len q a y; omega
        omega
      walk_at "vc"
      rw [show (0 : Int) + (b : Int) = (b : Int) by omega]
      refine ⟨onL j2 (by simp), ⟨by omega, by omega⟩, ⟨by omega, by omega⟩, small_le (by rw [rngL_len]; omega), ?_⟩
      have en : ((q : Int) - ((b : Int) + 1)).toNat = q - (b + 1) := by omega
      rw [en]
      refine comp_map (xs := List.range (q - (b + 1))) (dx := fun (i : Nat) => D.int ((b : Int) + 1 + i)) (p := fun _ => true) (f := fun (i : Nat) => tI [(a : Int), (b : Int), (b : Int) + 1 + i]) (fun _ _ => trivial) ?_ ?_
      · rintro i acc h3 K hi hl e3 hK
        rw [List.length_range] at hl
        exact ⟨small_lt (by omega), small_le (by decide), hK h3 (.refl _)⟩
      intro h3 e3
      rw [List.filter_eq_self.mpr fun _ _ => rfl]
      have er : ((List.range (q - (b + 1))).map fun (i : Nat) => tI [(a : Int), (b : Int), (b : Int) + 1 + i]) = wds (rowT q a b) := by unfold wds rowT; rw [List.map_map]; rfl
      rw [er]
      have j2' := e3 _ _ j2
      have rl := rowT_len q a b
      have jx : extD (.ref p) (wds (rowT q a b)) h3 = fun Q => (wds (F ++ pre2.flatMap fun b => rowT q a b)).length + (wds (rowT q a b)).length ≤ sizeLine ∧ Q .non (mup h3 p (.lst (wds (F ++ pre2.flatMap fun b => rowT q a b) ++ wds (rowT q a b)))) := by
        funext Q; unfold extD; simp only [j2']
      rw [jx]
      refine ⟨small_le (by simp [wds] at fl2 ⊢; omega), (j1.trans e3).upd np, ?_, _, _, rfl⟩
      rw [mup_same]; simp [wds]
    · rintro σ h2 ⟨j1, j2, t3, t4, rfl⟩
      refine ⟨j1, ?_, _, _, _, rfl⟩
      rw [j2, ← hF]; simp
  · rintro σ h1 ⟨g1, g2, t2, t3, t4, rfl⟩
    walk_at "vc"
    refine ⟨true, _, seq_lst g2, ?_⟩
    have e9 : D.tup (wds (threeL q)) = lotD q 3 := by unfold lotD; rw [(three_srt q1 q2).1]
    show PQ (.tup (wds (threeL q))) h1
    rw [e9]
    exact k h1 g1
end W
end MP

namespace MP
open PySem PySem.W
namespace W
local macro_rules | `(tactic| walk_at "vc") => `(tactic| simp only [wSs, wS, wE, wEs, wL, wC, wI, wO, wHs, tgt, tgts, binD, cmpD, rngI, startM, List.map_cons, List.map_nil, List.length_cons, List.length_nil, List.replicate, List.append_assoc, List.cons_append, List.nil_append, List.getElem?_cons_zero, List.getElem?_cons_succ, List.set_cons_zero, List.set_cons_succ, z_ex1, z_ex2, truD_bl, z_seqT, z_ite1, z_ite0, z_iteD, z_at0, z_at1, z_at2, z_add, z_sub, z_mul, z_fdiv, z_mod, z_pow, z_neg, z_addT, z_lenT, z_int, z_intB, z_abs, z_slT, z_eqI, z_eqB, z_eqT, z_ltI0, z_ltI1, z_ltT0, z_ltT1, z_ltK, z_is, z_isN, z_isT, z_isI, oD_non, fm2, fm20, List.length_map, Option.isNone_some, Option.isNone_none, oD, z_blE, z_intE, z_two, Bool.false_xor, Bool.true_xor, Option.bind_some, Option.some.injEq, exists_eq_left', Nat.zero_le, wipeM, setAll, List.foldl_cons, List.foldl_nil, List.reverse_cons, List.reverse_nil, L.fresh, newL, true_and, if_true, if_false, Bool.false_eq_true])
theorem Bag.mupB {h : MH} {b g p : Addr} {o : MO} (B : Bag h b g) (n1 : p ≠ b) (n2 : p ≠ g) : Bag (mup h p o) b g := by
  obtain ⟨n, cs, x, m, h1, h2, r⟩ := B
  exact ⟨n, cs, x, m, by rw [mup_ne (Ne.symm n1)]; exact h1, by rw [mup_ne (Ne.symm n2)]; exact h2, r⟩
def pqD (p : Int × List Int) : D := .tup [.int p.1, tI p.2]
def okP (p : Int × List Int) : Prop := 2 ≤ p.1 ∧ p.1 ≤ 4 ∧ Wq p.1 p.2
theorem okP.wd {p : Int × List Int} (o : okP p) : Wd p.2 := ⟨o.2.2.1, fun x hx => by have := o.2.2.2 x hx; have := o.2.1; omega⟩
def DL (pq : Addr) (h : MH) (ds : List D) (ws : List (List Int)) : Prop := ds.length = ws.length ∧ ∀ (i : Nat) (w : List Int), ws[i]? = some w → ∃ p, ds[i]? = some (.ref p) ∧ p ≠ pq ∧ Due h p w
theorem DL.ex {pq : Addr} {h h' : MH} {ds : List D} {ws : List (List Int)} (d : DL pq h ds ws) (e : Ex h h') : DL pq h' ds ws := ⟨d.1, fun i w hw => let ⟨p, a, b, c⟩ := d.2 i w hw; ⟨p, a, b, c.ex e⟩⟩
theorem DL.upd {pq : Addr} {h : MH} {ds : List D} {ws : List (List Int)} {o : MO} (d : DL pq h ds ws) (e : h pq ≠ some (.lst badL)) : DL pq (mup h pq o) ds ws := ⟨d.1, fun i w hw => by
  obtain ⟨p, a, b, c⟩ := d.2 i w hw
  refine ⟨p, a, b, ?_⟩
  rcases c with ⟨g, c⟩ | ⟨g, x, c1, c2⟩
  · exact .inl ⟨g, by rw [mup_ne b]; exact c⟩
  · refine .inr ⟨g, x, by rw [mup_ne b]; exact c1, ?_⟩
    have : x ≠ pq := fun z => e (by rw [← z]; exact c2)
    rw [mup_ne this]; exact c2⟩
theorem DL.noBad {pq : Addr} {h : MH} {ds : List D} {ws : List (List Int)} (d : DL pq h ds ws) : ds ≠ badL := fun z => by
  have h1 := d.1
  rw [z] at h1
  have h2 : ws.length = 3 := h1.symm
  obtain ⟨p, a, _⟩ := d.2 0 ws[0] (List.getElem?_eq_getElem (by omega))
  rw [z] at a
  cases a
theorem DL.snoc {pq : Addr} {h : MH} {ds : List D} {ws : List (List Int)} {p : Addr} {w : List Int} (d : DL pq h ds ws) (n : p ≠ pq) (u : Due h p w) : DL pq h (ds ++ [.ref p]) (ws ++ [w]) := by
  obtain ⟨d1, d2⟩ := d
  refine ⟨by simp [d1], fun i v hv => ?_⟩
  rcases Nat.lt_or_ge i ws.length with hi | hi
  · rw [List.getElem?_append_left hi] at hv
    rw [List.getElem?_append_left (by omega)]
    exact d2 i v hv
  · rw [List.getElem?_append_right hi] at hv
    rw [List.getElem?_append_right (by omega), d1]
    have : i - ws.length = 0 := by
      by_cases z : i - ws.length = 0
      · exact z
      · rw [List.getElem?_eq_none (by simp; omega)] at hv; cases hv
    rw [this] at hv ⊢
    cases hv
    exact ⟨p, rfl, n, u⟩
theorem maxD_int : ∀ (xs : List Int) (x : Int), ∃ m : Int, maxD (.int x) (xs.map D.int) = .int m
  | [], x => ⟨x, rfl⟩
  | y :: xs, x => by
    unfold maxD
    rw [List.map_cons, List.foldl_cons]
    by_cases e : dataLt (toP (.int x)) (toP (.int y)) = true
    · rw [if_pos e]; exact maxD_int xs y
    · rw [if_neg e]; exact maxD_int xs x
theorem max_any {ws : List Int} (hw : ws ≠ []) {h : MH} {Q : DK} (q : ∀ m : Int, Q (.int m) h) : blsD .max true (ws.map D.int) h Q := by
  cases ws with
  | nil => exact absurd rfl hw
  | cons x xs =>
    refine ⟨fun d hd => ?_, minOk_int (x :: xs), ?_⟩
    · have hd : d ∈ (x :: xs).map D.int := hd
      obtain ⟨v, _, rfl⟩ := List.mem_map.mp hd
      rfl
    · obtain ⟨m, e⟩ := maxD_int xs x
      rw [e]; exact q m
theorem few_of {q : Int} {n : Nat} (q1 : 2 ≤ q) (q2 : q ≤ 4) (n1 : n % 2 = 1) (n2 : n ≤ 24) (hp : q ^ n ≤ 2187) : few q.toNat n := by
  have hn : n = 1 ∨ n = 3 ∨ n = 5 ∨ n = 7 ∨ n = 9 ∨ n = 11 ∨ n = 13 ∨ n = 15 ∨ n = 17 ∨ n = 19 ∨ n = 21 ∨ n = 23 := by omega
  have hq : q = 2 ∨ q = 3 ∨ q = 4 := by omega
  unfold few
  rcases hq with rfl | rfl | rfl <;> rcases hn with rfl | rfl | rfl | rfl | rfl | rfl | rfl | rfl | rfl | rfl | rfl | rfl <;> first | decide | (exact absurd hp (by decide))
theorem lot_d {q n : Nat} (f : few q n) : lotD q n = .tup (wds ((lotL q n).mergeSort leW)) ∧ ((lotL q n).mergeSort leW).length ≤ 20000 := by
  unfold lotD
  rw [srt_lex]
  refine ⟨rfl, ?_⟩
  rw [List.length_mergeSort]
  obtain ⟨f1, f2, f3⟩ := few_gf f
  have gl : (goneW q n).length ≤ 20000 := gone_len _ _ f3
  have := List.length_filter_le (fun w : List Int => decide (w.length = n)) (goneW q n)
  unfold lotL; omega
theorem v_law {c : Cn} (hc : c.fn = spT) {h : MH} {PQ : DK} {PE : Exn → MH → Prop} {ds : List D} (s : sp_law ds h PQ PE) : wSs b_law c { nx := fun _ h' => PQ .non h', rt := PQ } (startM N_law.length ds) h := by
  obtain ⟨ns, rfl, hn, k⟩ := s
  walk_at "vc"
  simp only [hc, spT]
  refine ⟨ns, rfl, hn, fun h0 b g e0 hB0 => ?_⟩
  intro ps nps pq npq
  have B1 : Bag (mup (mup h0 ps (.lst [])) pq (.lst [])) b g := (hB0.ex (Ex.new nps)).ex (Ex.new npq)
  have nS := hB0.ne nps
  have nQ := (hB0.ex (Ex.new (o := MO.lst []) nps)).ne npq
  have nSQ : ps ≠ pq := fun z => by rw [← z, mup_same] at npq; cases npq
  have hs1 := mup_at (o := MO.lst []) npq (mup_same (h := h0) (a := ps) (o := MO.lst []))
  have hq1 := mup_same (h := mup h0 ps (.lst [])) (a := pq) (o := MO.lst [])
  generalize mup (mup h0 ps (.lst [])) pq (.lst []) = h1 at B1 hs1 hq1 ⊢
  refine ⟨⟨by decide, by decide⟩, ?_⟩
  refine loop_map (xs := List.range 4) (f := fun (i : Nat) => D.int (0 + i)) (fun pre σ h' => Bag h' b g ∧ h' pq = some (.lst []) ∧ ∃ (prs : List (Int × List Int)) (t4 t5 : Option D), prs.length = pre.length ∧ (∀ x ∈ prs, okP x) ∧ h' ps = some (.lst (prs.map pqD)) ∧ σ = [some (.lro (dI ns)), some (.ref b), some (.ref ps), some (.ref pq), t4, t5, none, none, none, none, none, none, none]) ⟨B1, hq1, [], none, none, rfl, fun _ z => (nomatch z), hs1, rfl⟩ (fun _ _ _ _ => trivial) ?_ ?_
  · rintro pre i post σ h' ei ⟨b1, j1, prs, t4, t5, pl, po, j2, rfl⟩
    have pl4 : pre.length < 4 := by have := congrArg List.length ei; simp at this; omega
    walk_at "vc"
    refine ⟨b, g, 3, rfl, b1, by decide, by decide, fun h2 r r0 r1 b2 f2 => ?_⟩
    walk_at "vc"
    have j1' := f2 _ _ nQ.1 nQ.2 j1
    have j2' := f2 _ _ nS.1 nS.2 j2
    refine ⟨onL j2' (by simp), b, g, 2 + r, rfl, b2, by omega, by omega, fun h3 w ww b3 f3 => ⟨small_le (by decide), ?_⟩⟩
    have j1'' := f3 _ _ nQ.1 nQ.2 j1'
    have j2'' := f3 _ _ nS.1 nS.2 j2'
    refine app_q j2'' (small_lt (by simp; omega)) ⟨Bag.mupB b3 nS.1 nS.2, by rw [mup_ne (Ne.symm nSQ)]; exact j1'', prs ++ [(2 + r, w)], some (.int (0 + i)), some (.int (2 + r)), by simp; omega, fun x hx => ?_, by rw [mup_same]; simp [pqD], rfl⟩
    rcases List.mem_append.mp hx with hx | hx
    · exact po x hx
    · rw [List.mem_singleton.mp hx]; exact ⟨by show 2 ≤ 2 + r; omega, by show 2 + r ≤ 4; omega, ww⟩
  rintro σ h2 ⟨b2, j1, prs0, t4, t5, pl0, po0, j2, rfl⟩
  refine ⟨⟨by decide, by decide⟩, ?_⟩
  refine loop_map (xs := List.range 3) (f := fun (i : Nat) => D.int (0 + i)) (fun pre σ h' => Bag h' b g ∧ h' pq = some (.lst []) ∧ ∃ (prs : List (Int × List Int)) (t4 t5 : Option D), prs.length = 4 + pre.length ∧ (∀ x ∈ prs, okP x) ∧ h' ps = some (.lst (prs.map pqD)) ∧ σ = [some (.lro (dI ns)), some (.ref b), some (.ref ps), some (.ref pq), t4, t5, none, none, none, none, none, none, none]) ⟨b2, j1, prs0, t4, t5, by simpa using pl0, po0, j2, rfl⟩ (fun _ _ _ _ => trivial) ?_ ?_
  · rintro pre i post σ h' ei ⟨b1, j1, prs, t4, t5, pl, po, j2, rfl⟩
    have pl4 : pre.length < 3 := by have := congrArg List.length ei; simp at this; omega
    walk_at "vc"
    refine ⟨b, g, 3, rfl, b1, by decide, by decide, fun h2 r r0 r1 b2 f2 => ?_⟩
    walk_at "vc"
    have j1' := f2 _ _ nQ.1 nQ.2 j1
    have j2' := f2 _ _ nS.1 nS.2 j2
    refine ⟨onL j2' (by simp), b, g, 2 + r, rfl, b2, by omega, by omega, fun h3 w ww b3 f3 => ⟨small_le (by decide), ?_⟩⟩
    have j1'' := f3 _ _ nQ.1 nQ.2 j1'
    have j2'' := f3 _ _ nS.1 nS.2 j2'
    refine app_q j2'' (small_lt (by simp; omega)) ⟨Bag.mupB b3 nS.1 nS.2, by rw [mup_ne (Ne.symm nSQ)]; exact j1'', prs ++ [(2 + r, w)], some (.int (0 + i)), some (.int (2 + r)), by simp; omega, fun x hx => ?_, by rw [mup_same]; simp [pqD], rfl⟩
    rcases List.mem_append.mp hx with hx | hx
    · exact po x hx
    · rw [List.mem_singleton.mp hx]; exact ⟨by show 2 ≤ 2 + r; omega, by show 2 + r ≤ 4; omega, ww⟩
  clear b2 j1 po0 j2 pl0 t4 t5 B1 hs1 hq1 hB0
  rintro σ h3 ⟨b3, j1, prs, t4, t5, pl, po, j2, rfl⟩
  rw [List.length_range] at pl
  walk_at "vc"
  refine ⟨b, g, 3, rfl, b3, by decide, by decide, fun h4 r r0 r1 b4 f4 => ?_⟩
  have j1' := f4 _ _ nQ.1 nQ.2 j1
  have j2' := f4 _ _ nS.1 nS.2 j2
  obtain ⟨q, hq⟩ : ∃ q : Nat, 2 + r = q := ⟨(2 + r).toNat, by omega⟩
  walk_at "vc"
  rw [hq]
  have q1 : 2 ≤ q := by omega
  have q2 : q ≤ 4 := by omega
  refine ⟨⟨by decide, by decide⟩, small_le (by rw [rngL_len]; decide), ?_⟩
  refine loop_map (xs := List.range 8) (f := fun (i : Nat) => D.int (0 + i)) (fun pre acc h' => Bag h' b g ∧ h' pq = some (.lst []) ∧ h' ps = some (.lst (prs.map pqD)) ∧ ∃ ts : List (List Int), acc = ts.map tI ∧ ts.length = pre.length ∧ ∀ t ∈ ts, t.length = 3 ∧ Wd t) ⟨b4, j1', j2', [], rfl, rfl, fun _ z => (nomatch z)⟩ (fun _ _ _ _ => trivial) ?_ ?_
  · rintro pre i post acc h' ei ⟨b1, m1, m2, ts, rfl, tl, tw⟩
    have pl4 : pre.length < 8 := by have := congrArg List.length ei; simp at this; omega
    refine ⟨small_lt (by simp; omega), b, g, q, 3, rfl, b1, by omega, by omega, by decide, by decide, fun h5 w wl ww b5 f5 => ⟨b5, f5 _ _ nQ.1 nQ.2 m1, f5 _ _ nS.1 nS.2 m2, ts ++ [w], by simp, by simp; omega, fun t ht => ?_⟩⟩
    rcases List.mem_append.mp ht with ht | ht
    · exact tw t ht
    · rw [List.mem_singleton.mp ht]
      have wl : w.length = 3 := wl
      exact ⟨wl, by omega, fun x hx => by have := ww x hx; omega⟩
  rintro acc h5 ⟨b5, m1, m2, ts, rfl, tl, tw⟩
  rw [List.length_range] at tl
  clear b3 b4 f4 j1 j2 j1' j2' r0 r1
  refine ⟨small_le (by simp; omega), fun pt npt => ?_⟩
  have m1' := mup_at (o := MO.lst (ts.map tI)) npt m1
  have m2' := mup_at (o := MO.lst (ts.map tI)) npt m2
  have m3' := mup_same (h := h5) (a := pt) (o := MO.lst (ts.map tI))
  have nTQ : pt ≠ pq := fun z => by rw [z, m1] at npt; cases npt
  generalize mup h5 pt (.lst (ts.map tI)) = h6 at m1' m2' m3' ⊢
  refine ⟨true, _, seq_lst m2', ?_⟩
  refine loop_map (xs := prs) (f := pqD) (fun pre σ h' => h' ps = some (.lst (prs.map pqD)) ∧ h' pt = some (.lst (ts.map tI)) ∧ ∃ (ds : List D) (t7 : Option D), h' pq = some (.lst ds) ∧ DL pq h' ds (pre.map (·.2)) ∧ σ = [some (.lro (dI ns)), some (.ref b), some (.ref ps), some (.ref pq), t4, some (.int q), some (.ref pt), t7, none, none, none, none, none]) ⟨m2', m3', [], none, m1', ⟨rfl, fun i w hw => by simp at hw⟩, rfl⟩ (fun _ _ _ j => seq_lst j.1) ?_ ?_
  · rintro pre pr post σ h' ep ⟨i1, i2, ds, t7, i3, i4, rfl⟩
    have hpr := po pr (by rw [ep]; simp)
    have hpl : pre.length < 7 := by have := congrArg List.length ep; simp at this; omega
    unfold pqD
    walk_at "vc"
    refine ⟨onL i3 (by simp), pr.2, rfl, hpr.2.2.1, fun h7 p e7 n7 u7 => ?_⟩
    have i3' := e7 _ _ i3
    have hne : p ≠ pq := fun z => by rw [z, i3] at n7; cases n7
    have hdl : ds.length ≤ 7 := by have := i4.1; simp at this; omega
    refine app_q i3' (small_lt (by omega)) ⟨by rw [mup_ne nSQ]; exact e7 _ _ i1, by rw [mup_ne nTQ]; exact e7 _ _ i2, ds ++ [.ref p], _, mup_same, ?_, rfl⟩
    rw [List.map_append]
    refine DL.upd (DL.snoc (DL.ex i4 e7) hne u7) fun z => ?_
    rw [i3'] at z
    exact DL.noBad i4 (by cases z; rfl)
  rintro σ h7 ⟨i1, i2, ds, t7, i3, i4, rfl⟩
  clear m1' m2' m3' m1 m2 b5 npt
  have dl := i4.1
  rw [List.length_map] at dl
  have due : ∀ (i : Nat) (pr : Int × List Int), prs[i]? = some pr → ∃ p, ds[i]? = some (.ref p) ∧ Due h7 p pr.2 := fun i pr hi => by
    obtain ⟨p, a, _, c⟩ := i4.2 i pr.2 (by rw [List.getElem?_map, hi]; rfl)
    exact ⟨p, a, c⟩
  walk_at "vc"
  refine ⟨true, _, seq_lst i1, ?_⟩
  rw [enm_map]
  refine loop_map (xs := prs.zipIdx) (fun pre σ h' => Ex h7 h' ∧ ∃ t7 t8 t9 t10 : Option D, σ = [some (.lro (dI ns)), some (.ref b), some (.ref ps), some (.ref pq), t4, some (.int q), some (.ref pt), t7, t8, t9, t10, none, none]) ⟨.refl h7, t7, none, none, none, rfl⟩ (fun _ _ _ j => seq_lst (j.1 _ _ i1)) ?_ ?_
  · rintro pre ⟨pr, i⟩ post σ h8 ep ⟨e8, t7, t8, t9, t10, rfl⟩
    have hm : (pr, i) ∈ prs.zipIdx := by rw [ep]; simp
    have hi := List.mk_mem_zipIdx_iff_getElem?.mp hm
    have hpr := po pr (List.mem_of_getElem? hi)
    obtain ⟨p, dp, du⟩ := due i pr hi
    have i3' := e8 _ _ i3
    have du8 := Due.ex du e8
    have ix : ∀ (h' : MH), Ex h8 h' → ∀ Q : DK, idxD (D.ref pq) (D.int (i : Int)) h' Q = Q (.ref p) h' := fun h' x Q => z_idxLn (x _ _ i3') dp
    unfold pqD
    walk_at "vc"
    rw [ix h8 (.refl _)]
    refine ⟨by decide, _, pr.2, p, _, rfl, hpr.wd, du8, fun h9 e9 => ⟨true, rfl, ?_⟩⟩
    simp only [Bool.not_true, Bool.false_eq_true, if_false]
    have hl := hpr.2.2.1
    refine ⟨small_le (by omega), fun p1 n1 => ⟨small_le (by decide), small_le (by decide), fun p2 n2 => ?_⟩⟩
    refine add_lst (mup_at n2 mup_same) mup_same ⟨small_le (by simp; omega), fun p3 n3 => ⟨true, _, seq_lst mup_same, ?_⟩⟩
    have ew : pr.2.map D.int ++ [D.int 1] = (pr.2 ++ [1]).map D.int := by simp
    have x10 := ((e9.trans (Ex.new (o := MO.lst (pr.2.map D.int)) n1)).trans (Ex.new (o := MO.lst [D.int 1]) n2)).trans (Ex.new (o := MO.lst (pr.2.map D.int ++ [D.int 1])) n3)
    generalize mup (mup (mup h9 p1 (.lst (pr.2.map D.int))) p2 (.lst [D.int 1])) p3 (.lst (pr.2.map D.int ++ [D.int 1])) = h10 at x10 ⊢
    rw [ew]
    refine max_any (by simp) fun m => ?_
    rw [z_add, ix h10 x10]
    refine ⟨_, pr.2, p, _, rfl, hpr.wd, Due.ex du8 x10, fun h11 e11 => ⟨true, rfl, ?_⟩⟩
    simp only [Bool.not_true, Bool.false_eq_true, if_false]
    have x11 := x10.trans e11
    rw [ix h11 x11]
    refine ⟨_, pr.2, p, _, rfl, hpr.wd, Due.ex du8 x11, fun h12 e12 => ⟨true, rfl, ?_⟩⟩
    simp only [Bool.not_true, Bool.false_eq_true, if_false]
    have x12 := x11.trans e12
    rw [ix h12 x12]
    rcases Due.ex du8 x12 with ⟨gd, ep⟩ | ⟨gd, ab, ep, ea⟩
    case inr =>
      rw [show (0 : Int) = ((0 : Nat) : Int) from rfl, z_idxLn ep rfl]
      have kt : knownTy h12 (.ref ab) = true := by simp [knownTy, ea]
      have nt : [Ty.tuple].any (isTy h12 (.ref ab)) = false := by simp [isTy]
      refine ⟨kt, ?_⟩
      rw [nt, if_neg (by decide)]
      exact ⟨e8.trans x12, _, _, _, _, rfl⟩
    rw [show idxD (D.ref p) (D.int 0) h12 = fun Q => idxD (D.ref p) (D.int ((0 : Nat) : Int)) h12 Q from rfl]
    simp only [z_idxLn ep (n := 0) rfl]
    refine ⟨rfl, ?_⟩
    rw [if_pos (show [Ty.tuple].any (isTy h12 (tI (tuF pr.2))) = true from rfl)]
    refine ⟨pr.1, (pr.2.length : Int), rfl, by have := hpr.1; have := hpr.2.1; omega, by omega, by omega, ?_⟩
    walk_at "vc"
    have en : ((pr.2.length : Nat) : Int).toNat = pr.2.length := by omega
    rw [en]
    by_cases hp : (2187 : Int) < pr.1 ^ pr.2.length
    · rw [if_neg (by simp [hp])]
      exact ⟨e8.trans x12, _, _, _, _, rfl⟩
    rw [if_pos (by simp [hp]), ix h12 x12]
    rw [show idxD (D.ref p) (D.int 0) h12 = fun Q => idxD (D.ref p) (D.int ((0 : Nat) : Int)) h12 Q from rfl]
    simp only [z_idxLn ep (n := 0) rfl]
    have fw := few_of hpr.1 hpr.2.1 gd.2 hl (by omega)
    have eq : ((pr.1.toNat : Nat) : Int) = pr.1 := Int.toNat_of_nonneg (by have := hpr.1; omega)
    refine ⟨pr.1.toNat, pr.2.length, by rw [eq], fw, fun h13 e13 => ?_⟩
    obtain ⟨l1, l2⟩ := lot_d fw
    rw [l1]
    walk_at "vc"
    refine ⟨small_le (by unfold wds; rw [List.length_map]; omega), fun p5 n5 => ?_⟩
    refine z_inL mup_same ?_
    have mem : tuF pr.2 ∈ (lotL pr.1.toNat pr.2.length).mergeSort leW := List.mem_mergeSort.mpr (tuF_lot fw gd rfl fun x hx => by rw [eq]; exact hpr.2.2.2 x hx)
    rw [decide_eq_true mem]
    walk_at "vc"
    exact ⟨(e8.trans x12).trans (e13.trans (Ex.new n5)), _, _, _, _, rfl⟩
  rintro σ h8 ⟨e8, t7, t8, t9, t10, rfl⟩
  have i1' := e8 _ _ i1
  have i3' := e8 _ _ i3
  obtain ⟨pr0, hp0⟩ : ∃ pr0, prs[0]? = some pr0 := ⟨prs[0]'(by omega), List.getElem?_eq_getElem (by omega)⟩
  obtain ⟨pr1, hp1⟩ : ∃ pr1, prs[1]? = some pr1 := ⟨prs[1]'(by omega), List.getElem?_eq_getElem (by omega)⟩
  obtain ⟨a0, d0, u0⟩ := due 0 pr0 hp0
  obtain ⟨a1, d1, u1⟩ := due 1 pr1 hp1
  have o0 := po pr0 (List.mem_of_getElem? hp0)
  have o1 := po pr1 (List.mem_of_getElem? hp1)
  have s0 : ∀ (h' : MH), Ex h8 h' → ∀ Q : DK, idxD (D.ref ps) (D.int 0) h' Q = Q (.tup [.int pr0.1, tI pr0.2]) h' := fun h' x Q => z_idxLn (n := 0) (x _ _ i1') (by rw [List.getElem?_map, hp0]; rfl)
  have s1 : ∀ (h' : MH), Ex h8 h' → ∀ Q : DK, idxD (D.ref ps) (D.int 1) h' Q = Q (.tup [.int pr1.1, tI pr1.2]) h' := fun h' x Q => z_idxLn (n := 1) (x _ _ i1') (by rw [List.getElem?_map, hp1]; rfl)
  have r0 : ∀ (h' : MH), Ex h8 h' → ∀ Q : DK, idxD (D.ref pq) (D.int 0) h' Q = Q (.ref a0) h' := fun h' x Q => z_idxLn (n := 0) (x _ _ i3') d0
  have r1 : ∀ (h' : MH), Ex h8 h' → ∀ Q : DK, idxD (D.ref pq) (D.int 1) h' Q = Q (.ref a1) h' := fun h' x Q => z_idxLn (n := 1) (x _ _ i3') d1
  walk_at "vc"
  rw [s0 h8 (.refl _)]
  walk_at "vc"
  rw [s0 h8 (.refl _)]
  walk_at "vc"
  rw [r0 h8 (.refl _)]
  refine ⟨_, pr0.2, a0, rfl, o0.wd, Due.ex u0 e8, fun h9 e9 => ⟨true, rfl, ?_⟩⟩
  simp only [Bool.not_true, Bool.false_eq_true, if_false]
  refine ⟨q, rfl, q1, q2, fun h10 e10 => ?_⟩
  walk_at "vc"
  refine ⟨q, 3, rfl, ?_, fun h11 e11 => ?_⟩
  · unfold few
    have : q = 2 ∨ q = 3 ∨ q = 4 := by omega
    rcases this with rfl | rfl | rfl <;> decide
  have el : lotD q 3 = .tup (wds (threeL q)) := by unfold lotD; rw [(three_srt q1 q2).1]
  rw [el]
  have ed : ∀ h : MH, pd h (.tup (wds (threeL q))) = some (.tuple ((threeL q).map fun l => .tuple (l.map .int))) := fun h => by
    unfold pd
    rw [pdW]
    show ((pdWs _ ((threeL q).map tI)).map PyData.tuple).bind _ = _
    rw [pdWs_tIs]
    have := dep_tIs (threeL q)
    simp only [Option.map_some, Option.bind_some]
    rw [if_pos (by rw [PyData.depth]; omega)]
  have esh : Shn (.tuple ((threeL q).map fun l => .tuple (l.map .int))) := by
    have : q = 2 ∨ q = 3 ∨ q = 4 := by omega
    rcases this with rfl | rfl | rfl <;> exact ⟨by decide +kernel, by decide +kernel, small_le (by decide +kernel)⟩
  refine ⟨_, ed h11, esh.2.1, esh.2.2, _, ed h11, esh.2.1, esh.2.2, eqD_str ?_⟩
  rw [decide_eq_true rfl]
  walk_at "vc"
  rw [if_neg (by decide)]
  have x11 := (e9.trans e10).trans e11
  have elen : (((wds (threeL q)).length : Nat) : Int) = ((q : Int) * q * q - q).fdiv 3 := by
    unfold wds
    rw [List.length_map, (three_srt q1 q2).2]
    have : q = 2 ∨ q = 3 ∨ q = 4 := by omega
    rcases this with rfl | rfl | rfl <;> decide
  refine ⟨.inr ⟨by omega, by omega⟩, .inr ⟨?_, by omega⟩, ⟨by decide, by decide⟩, ?_⟩
  · have : q = 2 ∨ q = 3 ∨ q = 4 := by omega
    rcases this with rfl | rfl | rfl <;> decide
  rw [if_neg (by simp [elen])]
  have i2' := x11 _ _ (e8 _ _ i2)
  refine ⟨true, _, seq_lst i2', ?_⟩
  refine loop_map (xs := ts) (f := tI) (fun pre σ h' => Ex h11 h' ∧ ∃ t12 : Option D, σ = [some (.lro (dI ns)), some (.ref b), some (.ref ps), some (.ref pq), t4, some (.int q), some (.ref pt), t7, t8, t9, t10, some (.tup (wds (threeL q))), t12]) ⟨.refl _, none, rfl⟩ (fun _ _ _ j => seq_lst (j.1 _ _ i2')) ?_ ?_
  · rintro pre t post σ h12 et ⟨e12, t12, rfl⟩
    obtain ⟨wt1, wt2⟩ := tw t (by rw [et]; simp)
    walk_at "vc"
    refine ⟨t, rfl, wt1, wt2, fun h13 p e13 u13 => ?_⟩
    refine ⟨_, t, p, _, rfl, wt2, u13, fun h14 e14 => ⟨true, rfl, ?_⟩⟩
    simp only [Bool.not_true, Bool.false_eq_true, if_false]
    exact ⟨(e12.trans e13).trans e14, _, rfl⟩
  · rintro σ h12 ⟨e12, t12, rfl⟩
    walk_at "vc"
    have x12 := x11.trans e12
    rw [s1 h12 x12]
    walk_at "vc"
    rw [s1 h12 x12]
    walk_at "vc"
    rw [r1 h12 x12]
    exact ⟨_, pr1.2, a1, _, rfl, o1.wd, Due.ex u1 (e8.trans x12), fun h13 e13 => k h13⟩
end W
end MP

/-! the end, printed by mkend.py -/
namespace MP
open PySem PySem.Spec PyProof.Rows L2 PySem.SupX
namespace W
def clsBody : Stmt → List Stmt
  | .ClassDef _ _ _ b _ _ _ _ _ _ _ => b
  | _ => []
def dd_power_of : He.DefD := ⟨("power_of", none), "power_of", "power_of", defArgs s_power_of, defBody s_power_of, defScope s_power_of, [], []⟩
def dd_least_odd : He.DefD := ⟨("least_odd", none), "least_odd", "least_odd", defArgs s_least_odd, defBody s_least_odd, defScope s_least_odd, [], []⟩
def dd_gone_away : He.DefD := ⟨("gone_away", none), "gone_away", "gone_away", defArgs s_gone_away, defBody s_gone_away, defScope s_gone_away, [], []⟩
def dd_refuse_row : He.DefD := ⟨("refuse_row", none), "refuse_row", "refuse_row", defArgs s_refuse_row, defBody s_refuse_row, defScope s_refuse_row, [], []⟩
def dd_away_lot : He.DefD := ⟨("away_lot", none), "away_lot", "away_lot", defArgs s_away_lot, defBody s_away_lot, defScope s_away_lot, [], []⟩
def dd_merged_ring : He.DefD := ⟨("merged_ring", none), "merged_ring", "merged_ring", defArgs s_merged_ring, defBody s_merged_ring, defScope s_merged_ring, [], []⟩
def dd_away_place : He.DefD := ⟨("away_place", none), "away_place", "away_place", defArgs s_away_place, defBody s_away_place, defScope s_away_place, [], []⟩
def dd_away_turn : He.DefD := ⟨("away_turn", none), "away_turn", "away_turn", defArgs s_away_turn, defBody s_away_turn, defScope s_away_turn, [], []⟩
def dd_is_away_word : He.DefD := ⟨("is_away_word", none), "is_away_word", "is_away_word", defArgs s_is_away_word, defBody s_is_away_word, defScope s_is_away_word, [], []⟩
def dd__law_own_bag : He.DefD := ⟨("_law_own_bag", none), "_law_own_bag", "_law_own_bag", defArgs s__law_own_bag, defBody s__law_own_bag, defScope s__law_own_bag, [], []⟩
def dd__law_draw : He.DefD := ⟨("_law_draw", none), "_law_draw", "_law_draw", defArgs s__law_draw, defBody s__law_draw, defScope s__law_draw, [], []⟩
def dd__law_pick : He.DefD := ⟨("_law_pick", none), "_law_pick", "_law_pick", defArgs s__law_pick, defBody s__law_pick, defScope s__law_pick, [], []⟩
def dd__law_word : He.DefD := ⟨("_law_word", none), "_law_word", "_law_word", defArgs s__law_word, defBody s__law_word, defScope s__law_word, [], []⟩
def dd__law_power : He.DefD := ⟨("_law_power", none), "_law_power", "_law_power", defArgs s__law_power, defBody s__law_power, defScope s__law_power, [], []⟩
def dd__law_odd_word : He.DefD := ⟨("_law_odd_word", none), "_law_odd_word", "_law_odd_word", defArgs s__law_odd_word, defBody s__law_odd_word, defScope s__law_odd_word, [], []⟩
def dd__law_bad_word : He.DefD := ⟨("_law_bad_word", none), "_law_bad_word", "_law_bad_word", defArgs s__law_bad_word, defBody s__law_bad_word, defScope s__law_bad_word, [], []⟩
def dd__law_is_plain : He.DefD := ⟨("_law_is_plain", none), "_law_is_plain", "_law_is_plain", defArgs s__law_is_plain, defBody s__law_is_plain, defScope s__law_is_plain, [], []⟩
def dd__law_place : He.DefD := ⟨("_law_place", none), "_law_place", "_law_place", defArgs s__law_place, defBody s__law_place, defScope s__law_place, [], []⟩
def dd__law_told : He.DefD := ⟨("_law_told", none), "_law_told", "_law_told", defArgs s__law_told, defBody s__law_told, defScope s__law_told, [], []⟩
def dd__law_due : He.DefD := ⟨("_law_due", none), "_law_due", "_law_due", defArgs s__law_due, defBody s__law_due, defScope s__law_due, [], []⟩
def dd__law_is_told : He.DefD := ⟨("_law_is_told", none), "_law_is_told", "_law_is_told", defArgs s__law_is_told, defBody s__law_is_told, defScope s__law_is_told, [], []⟩
def dd__law_are_turns_right : He.DefD := ⟨("_law_are_turns_right", none), "_law_are_turns_right", "_law_are_turns_right", defArgs s__law_are_turns_right, defBody s__law_are_turns_right, defScope s__law_are_turns_right, [], []⟩
def dd__law_closed : He.DefD := ⟨("_law_closed", none), "_law_closed", "_law_closed", defArgs s__law_closed, defBody s__law_closed, defScope s__law_closed, [], []⟩
def dd__law_three_lot : He.DefD := ⟨("_law_three_lot", none), "_law_three_lot", "_law_three_lot", defArgs s__law_three_lot, defBody s__law_three_lot, defScope s__law_three_lot, [], []⟩
def dd_law : He.DefD := ⟨("law", none), "law", "law", defArgs s_law, defBody s_law, defScope s_law, [], []⟩
def fnL : List He.DefD := [dd_power_of, dd_least_odd, dd_gone_away, dd_refuse_row, dd_away_lot, dd_merged_ring, dd_away_place, dd_away_turn, dd_is_away_word, dd__law_own_bag, dd__law_draw, dd__law_pick, dd__law_word, dd__law_power, dd__law_odd_word, dd__law_bad_word, dd__law_is_plain, dd__law_place, dd__law_told, dd__law_due, dd__law_is_told, dd__law_are_turns_right, dd__law_closed, dd__law_three_lot, dd_law]
def faL : List He.Fa := [.glo "power_of", .glo "least_odd", .glo "gone_away", .glo "refuse_row", .glo "away_lot", .glo "merged_ring", .glo "away_place", .glo "away_turn", .glo "is_away_word", .glo "_law_own_bag", .glo "_law_draw", .glo "_law_pick", .glo "_law_word", .glo "_law_power", .glo "_law_odd_word", .glo "_law_bad_word", .glo "_law_is_plain", .glo "_law_place", .glo "_law_told", .glo "_law_due", .glo "_law_is_told", .glo "_law_are_turns_right", .glo "_law_closed", .glo "_law_three_lot", .glo "law", .free "range", .free "len", .free "tuple", .free "sorted", .free "enumerate", .free "abs", .free "int", .free "list", .free "reversed", .free "all", .free "min", .free "isinstance", .free "repr", .free "max", .int "MAX_GONE" 4096, .free "super"]
def psL : List Nat := [0, 1, 2, 3, 4, 5, 6]
abbrev xs_1 : Stmt := (clsBody (topS 3)).getD 0 (.Pass ⟨0, 0, 0, 0⟩)
def xd_1 : XD := ⟨1, "Unfit.__init__", xs_1⟩
abbrev xs_2 : Stmt := (clsBody (topS 4)).getD 0 (.Pass ⟨0, 0, 0, 0⟩)
def xd_2 : XD := ⟨2, "TooMany.__init__", xs_2⟩
abbrev xs_3 : Stmt := (clsBody (topS 5)).getD 0 (.Pass ⟨0, 0, 0, 0⟩)
def xd_3 : XD := ⟨3, "BadText.__init__", xs_3⟩
abbrev xs_4 : Stmt := (clsBody (topS 6)).getD 0 (.Pass ⟨0, 0, 0, 0⟩)
def xd_4 : XD := ⟨4, "Refused.__init__", xs_4⟩
abbrev xs_5 : Stmt := (clsBody (topS 7)).getD 0 (.Pass ⟨0, 0, 0, 0⟩)
def xd_5 : XD := ⟨5, "BadLog.__init__", xs_5⟩
abbrev xs_6 : Stmt := (clsBody (topS 8)).getD 0 (.Pass ⟨0, 0, 0, 0⟩)
def xd_6 : XD := ⟨6, "NothingToUndo.__init__", xs_6⟩
def dsL : List XD := [xd_1, xd_2, xd_3, xd_4, xd_5, xd_6]
abbrev Rw : PySem.W.OpenRow := PySem.W.OpenLaw.row PySem.Challenge.rw_wherewordsbegin_k19_whole_main_away_on_t
abbrev hkL : PySem.W.Hook := hookX 6 Rw.prog faL fnL psL dsL
def obL (s : PySem.W.SharedT) : AlX := obsXG 6 Rw.prog faL fnL psL dsL (HandSHeadRun.getT s)
theorem obL_eq (s : PySem.W.SharedT) : obL s = hkL.obs s.abs := obsXG_eq (HandSHeadRun.getT_eq s)
def loose0 : List PySem.Str := ["__name__", "NothingToUndo", "BadLog", "Refused", "BadText", "TooMany", "Unfit", "WordError", "MAX_GONE", "power_of", "least_odd", "gone_away", "refuse_row", "away_lot", "merged_ring", "away_place", "away_turn", "is_away_word", "_law_own_bag", "_law_draw", "_law_pick", "_law_word", "_law_power", "_law_odd_word", "_law_bad_word", "_law_is_plain", "_law_place", "_law_told", "_law_due", "_law_is_told"]
def loose1 : List PySem.Str := ["_law_are_turns_right", "_law_closed", "_law_three_lot"]
def looseL : List PySem.Str := loose0 ++ loose1
theorem runL (w : World) : HandSHeadRun.RunEq Rw (PySem.W.view Rw.prog [36]) hkL obL 4000 looseL w := by
  intro os
  kernel_rfl
end W
end MP

/-! the end, printed by mkend.py -/
namespace MP
open PySem PySem.Spec PyProof.Rows L2 PySem.SupX
namespace W
abbrev ccL (PE : Exn → MH → Prop) : Cn := { fn := spT, gc := fun _ => .non, sub := subNm, xm := fun e _ h => PE e h }
theorem ln_power_of : ∀ ds h PQ PE, spT 0 ds h PQ PE → ds.length = 2 := by
  intro ds h PQ PE s
  replace s : sp_power_of ds h PQ PE := s
  first | (obtain ⟨rfl, _⟩ := s; rfl) | (obtain ⟨_, rfl, _⟩ := s; rfl) | (obtain ⟨_, _, rfl, _⟩ := s; rfl) | (obtain ⟨_, _, _, rfl, _⟩ := s; rfl) | (obtain ⟨_, _, _, _, rfl, _⟩ := s; rfl) | (obtain ⟨_, _, _, _, _, rfl, _⟩ := s; rfl) | (obtain ⟨_, _, _, _, _, _, rfl, _⟩ := s; rfl) | (obtain ⟨_, _, _, _, _, _, _, rfl, _⟩ := s; rfl) | (obtain ⟨_, _, _, _, _, _, _, _, rfl, _⟩ := s; rfl)
theorem ln_least_odd : ∀ ds h PQ PE, spT 1 ds h PQ PE → ds.length = 2 := by
  intro ds h PQ PE s
  replace s : sp_least_odd ds h PQ PE := s
  first | (obtain ⟨rfl, _⟩ := s; rfl) | (obtain ⟨_, rfl, _⟩ := s; rfl) | (obtain ⟨_, _, rfl, _⟩ := s; rfl) | (obtain ⟨_, _, _, rfl, _⟩ := s; rfl) | (obtain ⟨_, _, _, _, rfl, _⟩ := s; rfl) | (obtain ⟨_, _, _, _, _, rfl, _⟩ := s; rfl) | (obtain ⟨_, _, _, _, _, _, rfl, _⟩ := s; rfl) | (obtain ⟨_, _, _, _, _, _, _, rfl, _⟩ := s; rfl) | (obtain ⟨_, _, _, _, _, _, _, _, rfl, _⟩ := s; rfl)
theorem ln_merged_ring : ∀ ds h PQ PE, spT 5 ds h PQ PE → ds.length = 2 := by
  intro ds h PQ PE s
  replace s : sp_merged_ring ds h PQ PE := s
  first | (obtain ⟨rfl, _⟩ := s; rfl) | (obtain ⟨_, rfl, _⟩ := s; rfl) | (obtain ⟨_, _, rfl, _⟩ := s; rfl) | (obtain ⟨_, _, _, rfl, _⟩ := s; rfl) | (obtain ⟨_, _, _, _, rfl, _⟩ := s; rfl) | (obtain ⟨_, _, _, _, _, rfl, _⟩ := s; rfl) | (obtain ⟨_, _, _, _, _, _, rfl, _⟩ := s; rfl) | (obtain ⟨_, _, _, _, _, _, _, rfl, _⟩ := s; rfl) | (obtain ⟨_, _, _, _, _, _, _, _, rfl, _⟩ := s; rfl)
theorem ln__law_own_bag : ∀ ds h PQ PE, spT 9 ds h PQ PE → ds.length = 1 := by
  intro ds h PQ PE s
  replace s : sp__law_own_bag ds h PQ PE := s
  first | (obtain ⟨rfl, _⟩ := s; rfl) | (obtain ⟨_, rfl, _⟩ := s; rfl) | (obtain ⟨_, _, rfl, _⟩ := s; rfl) | (obtain ⟨_, _, _, rfl, _⟩ := s; rfl) | (obtain ⟨_, _, _, _, rfl, _⟩ := s; rfl) | (obtain ⟨_, _, _, _, _, rfl, _⟩ := s; rfl) | (obtain ⟨_, _, _, _, _, _, rfl, _⟩ := s; rfl) | (obtain ⟨_, _, _, _, _, _, _, rfl, _⟩ := s; rfl) | (obtain ⟨_, _, _, _, _, _, _, _, rfl, _⟩ := s; rfl)
theorem ln__law_draw : ∀ ds h PQ PE, spT 10 ds h PQ PE → ds.length = 2 := by
  intro ds h PQ PE s
  replace s : sp__law_draw ds h PQ PE := s
  first | (obtain ⟨rfl, _⟩ := s; rfl) | (obtain ⟨_, rfl, _⟩ := s; rfl) | (obtain ⟨_, _, rfl, _⟩ := s; rfl) | (obtain ⟨_, _, _, rfl, _⟩ := s; rfl) | (obtain ⟨_, _, _, _, rfl, _⟩ := s; rfl) | (obtain ⟨_, _, _, _, _, rfl, _⟩ := s; rfl) | (obtain ⟨_, _, _, _, _, _, rfl, _⟩ := s; rfl) | (obtain ⟨_, _, _, _, _, _, _, rfl, _⟩ := s; rfl) | (obtain ⟨_, _, _, _, _, _, _, _, rfl, _⟩ := s; rfl)
theorem ln__law_power : ∀ ds h PQ PE, spT 13 ds h PQ PE → ds.length = 2 := by
  intro ds h PQ PE s
  replace s : sp__law_power ds h PQ PE := s
  first | (obtain ⟨rfl, _⟩ := s; rfl) | (obtain ⟨_, rfl, _⟩ := s; rfl) | (obtain ⟨_, _, rfl, _⟩ := s; rfl) | (obtain ⟨_, _, _, rfl, _⟩ := s; rfl) | (obtain ⟨_, _, _, _, rfl, _⟩ := s; rfl) | (obtain ⟨_, _, _, _, _, rfl, _⟩ := s; rfl) | (obtain ⟨_, _, _, _, _, _, rfl, _⟩ := s; rfl) | (obtain ⟨_, _, _, _, _, _, _, rfl, _⟩ := s; rfl) | (obtain ⟨_, _, _, _, _, _, _, _, rfl, _⟩ := s; rfl)
theorem ln__law_is_plain : ∀ ds h PQ PE, spT 16 ds h PQ PE → ds.length = 1 := by
  intro ds h PQ PE s
  replace s : sp__law_is_plain ds h PQ PE := s
  first | (obtain ⟨rfl, _⟩ := s; rfl) | (obtain ⟨_, rfl, _⟩ := s; rfl) | (obtain ⟨_, _, rfl, _⟩ := s; rfl) | (obtain ⟨_, _, _, rfl, _⟩ := s; rfl) | (obtain ⟨_, _, _, _, rfl, _⟩ := s; rfl) | (obtain ⟨_, _, _, _, _, rfl, _⟩ := s; rfl) | (obtain ⟨_, _, _, _, _, _, rfl, _⟩ := s; rfl) | (obtain ⟨_, _, _, _, _, _, _, rfl, _⟩ := s; rfl) | (obtain ⟨_, _, _, _, _, _, _, _, rfl, _⟩ := s; rfl)
theorem ln__law_place : ∀ ds h PQ PE, spT 17 ds h PQ PE → ds.length = 1 := by
  intro ds h PQ PE s
  replace s : sp__law_place ds h PQ PE := s
  first | (obtain ⟨rfl, _⟩ := s; rfl) | (obtain ⟨_, rfl, _⟩ := s; rfl) | (obtain ⟨_, _, rfl, _⟩ := s; rfl) | (obtain ⟨_, _, _, rfl, _⟩ := s; rfl) | (obtain ⟨_, _, _, _, rfl, _⟩ := s; rfl) | (obtain ⟨_, _, _, _, _, rfl, _⟩ := s; rfl) | (obtain ⟨_, _, _, _, _, _, rfl, _⟩ := s; rfl) | (obtain ⟨_, _, _, _, _, _, _, rfl, _⟩ := s; rfl) | (obtain ⟨_, _, _, _, _, _, _, _, rfl, _⟩ := s; rfl)
theorem ln__law_closed : ∀ ds h PQ PE, spT 22 ds h PQ PE → ds.length = 1 := by
  intro ds h PQ PE s
  replace s : sp__law_closed ds h PQ PE := s
  first | (obtain ⟨rfl, _⟩ := s; rfl) | (obtain ⟨_, rfl, _⟩ := s; rfl) | (obtain ⟨_, _, rfl, _⟩ := s; rfl) | (obtain ⟨_, _, _, rfl, _⟩ := s; rfl) | (obtain ⟨_, _, _, _, rfl, _⟩ := s; rfl) | (obtain ⟨_, _, _, _, _, rfl, _⟩ := s; rfl) | (obtain ⟨_, _, _, _, _, _, rfl, _⟩ := s; rfl) | (obtain ⟨_, _, _, _, _, _, _, rfl, _⟩ := s; rfl) | (obtain ⟨_, _, _, _, _, _, _, _, rfl, _⟩ := s; rfl)
theorem ln__law_three_lot : ∀ ds h PQ PE, spT 23 ds h PQ PE → ds.length = 1 := by
  intro ds h PQ PE s
  replace s : sp__law_three_lot ds h PQ PE := s
  first | (obtain ⟨rfl, _⟩ := s; rfl) | (obtain ⟨_, rfl, _⟩ := s; rfl) | (obtain ⟨_, _, rfl, _⟩ := s; rfl) | (obtain ⟨_, _, _, rfl, _⟩ := s; rfl) | (obtain ⟨_, _, _, _, rfl, _⟩ := s; rfl) | (obtain ⟨_, _, _, _, _, rfl, _⟩ := s; rfl) | (obtain ⟨_, _, _, _, _, _, rfl, _⟩ := s; rfl) | (obtain ⟨_, _, _, _, _, _, _, rfl, _⟩ := s; rfl) | (obtain ⟨_, _, _, _, _, _, _, _, rfl, _⟩ := s; rfl)
theorem ln_gone_away : ∀ ds h PQ PE, spT 2 ds h PQ PE → ds.length = 2 := by
  intro ds h PQ PE s
  replace s : sp_gone_away ds h PQ PE := s
  first | (obtain ⟨rfl, _⟩ := s; rfl) | (obtain ⟨_, rfl, _⟩ := s; rfl) | (obtain ⟨_, _, rfl, _⟩ := s; rfl) | (obtain ⟨_, _, _, rfl, _⟩ := s; rfl) | (obtain ⟨_, _, _, _, rfl, _⟩ := s; rfl) | (obtain ⟨_, _, _, _, _, rfl, _⟩ := s; rfl) | (obtain ⟨_, _, _, _, _, _, rfl, _⟩ := s; rfl) | (obtain ⟨_, _, _, _, _, _, _, rfl, _⟩ := s; rfl) | (obtain ⟨_, _, _, _, _, _, _, _, rfl, _⟩ := s; rfl)
theorem ln_refuse_row : ∀ ds h PQ PE, spT 3 ds h PQ PE → ds.length = 2 := by
  intro ds h PQ PE s
  replace s : sp_refuse_row ds h PQ PE := s
  first | (obtain ⟨rfl, _⟩ := s; rfl) | (obtain ⟨_, rfl, _⟩ := s; rfl) | (obtain ⟨_, _, rfl, _⟩ := s; rfl) | (obtain ⟨_, _, _, rfl, _⟩ := s; rfl) | (obtain ⟨_, _, _, _, rfl, _⟩ := s; rfl) | (obtain ⟨_, _, _, _, _, rfl, _⟩ := s; rfl) | (obtain ⟨_, _, _, _, _, _, rfl, _⟩ := s; rfl) | (obtain ⟨_, _, _, _, _, _, _, rfl, _⟩ := s; rfl) | (obtain ⟨_, _, _, _, _, _, _, _, rfl, _⟩ := s; rfl)
theorem ln_away_turn : ∀ ds h PQ PE, spT 7 ds h PQ PE → ds.length = 2 := by
  intro ds h PQ PE s
  replace s : sp_away_turn ds h PQ PE := s
  first | (obtain ⟨rfl, _⟩ := s; rfl) | (obtain ⟨_, rfl, _⟩ := s; rfl) | (obtain ⟨_, _, rfl, _⟩ := s; rfl) | (obtain ⟨_, _, _, rfl, _⟩ := s; rfl) | (obtain ⟨_, _, _, _, rfl, _⟩ := s; rfl) | (obtain ⟨_, _, _, _, _, rfl, _⟩ := s; rfl) | (obtain ⟨_, _, _, _, _, _, rfl, _⟩ := s; rfl) | (obtain ⟨_, _, _, _, _, _, _, rfl, _⟩ := s; rfl) | (obtain ⟨_, _, _, _, _, _, _, _, rfl, _⟩ := s; rfl)
theorem ln__law_pick : ∀ ds h PQ PE, spT 11 ds h PQ PE → ds.length = 2 := by
  intro ds h PQ PE s
  replace s : sp__law_pick ds h PQ PE := s
  first | (obtain ⟨rfl, _⟩ := s; rfl) | (obtain ⟨_, rfl, _⟩ := s; rfl) | (obtain ⟨_, _, rfl, _⟩ := s; rfl) | (obtain ⟨_, _, _, rfl, _⟩ := s; rfl) | (obtain ⟨_, _, _, _, rfl, _⟩ := s; rfl) | (obtain ⟨_, _, _, _, _, rfl, _⟩ := s; rfl) | (obtain ⟨_, _, _, _, _, _, rfl, _⟩ := s; rfl) | (obtain ⟨_, _, _, _, _, _, _, rfl, _⟩ := s; rfl) | (obtain ⟨_, _, _, _, _, _, _, _, rfl, _⟩ := s; rfl)
theorem ln__law_word : ∀ ds h PQ PE, spT 12 ds h PQ PE → ds.length = 3 := by
  intro ds h PQ PE s
  replace s : sp__law_word ds h PQ PE := s
  first | (obtain ⟨rfl, _⟩ := s; rfl) | (obtain ⟨_, rfl, _⟩ := s; rfl) | (obtain ⟨_, _, rfl, _⟩ := s; rfl) | (obtain ⟨_, _, _, rfl, _⟩ := s; rfl) | (obtain ⟨_, _, _, _, rfl, _⟩ := s; rfl) | (obtain ⟨_, _, _, _, _, rfl, _⟩ := s; rfl) | (obtain ⟨_, _, _, _, _, _, rfl, _⟩ := s; rfl) | (obtain ⟨_, _, _, _, _, _, _, rfl, _⟩ := s; rfl) | (obtain ⟨_, _, _, _, _, _, _, _, rfl, _⟩ := s; rfl)
theorem ln__law_due : ∀ ds h PQ PE, spT 19 ds h PQ PE → ds.length = 1 := by
  intro ds h PQ PE s
  replace s : sp__law_due ds h PQ PE := s
  first | (obtain ⟨rfl, _⟩ := s; rfl) | (obtain ⟨_, rfl, _⟩ := s; rfl) | (obtain ⟨_, _, rfl, _⟩ := s; rfl) | (obtain ⟨_, _, _, rfl, _⟩ := s; rfl) | (obtain ⟨_, _, _, _, rfl, _⟩ := s; rfl) | (obtain ⟨_, _, _, _, _, rfl, _⟩ := s; rfl) | (obtain ⟨_, _, _, _, _, _, rfl, _⟩ := s; rfl) | (obtain ⟨_, _, _, _, _, _, _, rfl, _⟩ := s; rfl) | (obtain ⟨_, _, _, _, _, _, _, _, rfl, _⟩ := s; rfl)
theorem ln_away_lot : ∀ ds h PQ PE, spT 4 ds h PQ PE → ds.length = 2 := by
  intro ds h PQ PE s
  replace s : sp_away_lot ds h PQ PE := s
  first | (obtain ⟨rfl, _⟩ := s; rfl) | (obtain ⟨_, rfl, _⟩ := s; rfl) | (obtain ⟨_, _, rfl, _⟩ := s; rfl) | (obtain ⟨_, _, _, rfl, _⟩ := s; rfl) | (obtain ⟨_, _, _, _, rfl, _⟩ := s; rfl) | (obtain ⟨_, _, _, _, _, rfl, _⟩ := s; rfl) | (obtain ⟨_, _, _, _, _, _, rfl, _⟩ := s; rfl) | (obtain ⟨_, _, _, _, _, _, _, rfl, _⟩ := s; rfl) | (obtain ⟨_, _, _, _, _, _, _, _, rfl, _⟩ := s; rfl)
theorem ln_away_place : ∀ ds h PQ PE, spT 6 ds h PQ PE → ds.length = 2 := by
  intro ds h PQ PE s
  replace s : sp_away_place ds h PQ PE := s
  first | (obtain ⟨rfl, _⟩ := s; rfl) | (obtain ⟨_, rfl, _⟩ := s; rfl) | (obtain ⟨_, _, rfl, _⟩ := s; rfl) | (obtain ⟨_, _, _, rfl, _⟩ := s; rfl) | (obtain ⟨_, _, _, _, rfl, _⟩ := s; rfl) | (obtain ⟨_, _, _, _, _, rfl, _⟩ := s; rfl) | (obtain ⟨_, _, _, _, _, _, rfl, _⟩ := s; rfl) | (obtain ⟨_, _, _, _, _, _, _, rfl, _⟩ := s; rfl) | (obtain ⟨_, _, _, _, _, _, _, _, rfl, _⟩ := s; rfl)
theorem ln_is_away_word : ∀ ds h PQ PE, spT 8 ds h PQ PE → ds.length = 2 := by
  intro ds h PQ PE s
  replace s : sp_is_away_word ds h PQ PE := s
  first | (obtain ⟨rfl, _⟩ := s; rfl) | (obtain ⟨_, rfl, _⟩ := s; rfl) | (obtain ⟨_, _, rfl, _⟩ := s; rfl) | (obtain ⟨_, _, _, rfl, _⟩ := s; rfl) | (obtain ⟨_, _, _, _, rfl, _⟩ := s; rfl) | (obtain ⟨_, _, _, _, _, rfl, _⟩ := s; rfl) | (obtain ⟨_, _, _, _, _, _, rfl, _⟩ := s; rfl) | (obtain ⟨_, _, _, _, _, _, _, rfl, _⟩ := s; rfl) | (obtain ⟨_, _, _, _, _, _, _, _, rfl, _⟩ := s; rfl)
theorem ln__law_odd_word : ∀ ds h PQ PE, spT 14 ds h PQ PE → ds.length = 2 := by
  intro ds h PQ PE s
  replace s : sp__law_odd_word ds h PQ PE := s
  first | (obtain ⟨rfl, _⟩ := s; rfl) | (obtain ⟨_, rfl, _⟩ := s; rfl) | (obtain ⟨_, _, rfl, _⟩ := s; rfl) | (obtain ⟨_, _, _, rfl, _⟩ := s; rfl) | (obtain ⟨_, _, _, _, rfl, _⟩ := s; rfl) | (obtain ⟨_, _, _, _, _, rfl, _⟩ := s; rfl) | (obtain ⟨_, _, _, _, _, _, rfl, _⟩ := s; rfl) | (obtain ⟨_, _, _, _, _, _, _, rfl, _⟩ := s; rfl) | (obtain ⟨_, _, _, _, _, _, _, _, rfl, _⟩ := s; rfl)
theorem ln__law_bad_word : ∀ ds h PQ PE, spT 15 ds h PQ PE → ds.length = 2 := by
  intro ds h PQ PE s
  replace s : sp__law_bad_word ds h PQ PE := s
  first | (obtain ⟨rfl, _⟩ := s; rfl) | (obtain ⟨_, rfl, _⟩ := s; rfl) | (obtain ⟨_, _, rfl, _⟩ := s; rfl) | (obtain ⟨_, _, _, rfl, _⟩ := s; rfl) | (obtain ⟨_, _, _, _, rfl, _⟩ := s; rfl) | (obtain ⟨_, _, _, _, _, rfl, _⟩ := s; rfl) | (obtain ⟨_, _, _, _, _, _, rfl, _⟩ := s; rfl) | (obtain ⟨_, _, _, _, _, _, _, rfl, _⟩ := s; rfl) | (obtain ⟨_, _, _, _, _, _, _, _, rfl, _⟩ := s; rfl)
theorem ln__law_told : ∀ ds h PQ PE, spT 18 ds h PQ PE → ds.length = 4 := by
  intro ds h PQ PE s
  replace s : sp__law_told ds h PQ PE := s
  first | (obtain ⟨rfl, _⟩ := s; rfl) | (obtain ⟨_, rfl, _⟩ := s; rfl) | (obtain ⟨_, _, rfl, _⟩ := s; rfl) | (obtain ⟨_, _, _, rfl, _⟩ := s; rfl) | (obtain ⟨_, _, _, _, rfl, _⟩ := s; rfl) | (obtain ⟨_, _, _, _, _, rfl, _⟩ := s; rfl) | (obtain ⟨_, _, _, _, _, _, rfl, _⟩ := s; rfl) | (obtain ⟨_, _, _, _, _, _, _, rfl, _⟩ := s; rfl) | (obtain ⟨_, _, _, _, _, _, _, _, rfl, _⟩ := s; rfl)
theorem ln__law_is_told : ∀ ds h PQ PE, spT 20 ds h PQ PE → ds.length = 4 := by
  intro ds h PQ PE s
  replace s : sp__law_is_told ds h PQ PE := s
  first | (obtain ⟨rfl, _⟩ := s; rfl) | (obtain ⟨_, rfl, _⟩ := s; rfl) | (obtain ⟨_, _, rfl, _⟩ := s; rfl) | (obtain ⟨_, _, _, rfl, _⟩ := s; rfl) | (obtain ⟨_, _, _, _, rfl, _⟩ := s; rfl) | (obtain ⟨_, _, _, _, _, rfl, _⟩ := s; rfl) | (obtain ⟨_, _, _, _, _, _, rfl, _⟩ := s; rfl) | (obtain ⟨_, _, _, _, _, _, _, rfl, _⟩ := s; rfl) | (obtain ⟨_, _, _, _, _, _, _, _, rfl, _⟩ := s; rfl)
theorem ln__law_are_turns_right : ∀ ds h PQ PE, spT 21 ds h PQ PE → ds.length = 3 := by
  intro ds h PQ PE s
  replace s : sp__law_are_turns_right ds h PQ PE := s
  first | (obtain ⟨rfl, _⟩ := s; rfl) | (obtain ⟨_, rfl, _⟩ := s; rfl) | (obtain ⟨_, _, rfl, _⟩ := s; rfl) | (obtain ⟨_, _, _, rfl, _⟩ := s; rfl) | (obtain ⟨_, _, _, _, rfl, _⟩ := s; rfl) | (obtain ⟨_, _, _, _, _, rfl, _⟩ := s; rfl) | (obtain ⟨_, _, _, _, _, _, rfl, _⟩ := s; rfl) | (obtain ⟨_, _, _, _, _, _, _, rfl, _⟩ := s; rfl) | (obtain ⟨_, _, _, _, _, _, _, _, rfl, _⟩ := s; rfl)
theorem ln_law : ∀ ds h PQ PE, spT 24 ds h PQ PE → ds.length = 1 := by
  intro ds h PQ PE s
  replace s : sp_law ds h PQ PE := s
  first | (obtain ⟨rfl, _⟩ := s; rfl) | (obtain ⟨_, rfl, _⟩ := s; rfl) | (obtain ⟨_, _, rfl, _⟩ := s; rfl) | (obtain ⟨_, _, _, rfl, _⟩ := s; rfl) | (obtain ⟨_, _, _, _, rfl, _⟩ := s; rfl) | (obtain ⟨_, _, _, _, _, rfl, _⟩ := s; rfl) | (obtain ⟨_, _, _, _, _, _, rfl, _⟩ := s; rfl) | (obtain ⟨_, _, _, _, _, _, _, rfl, _⟩ := s; rfl) | (obtain ⟨_, _, _, _, _, _, _, _, rfl, _⟩ := s; rfl)
theorem facts {w : World} {K : PySem.W.Frag} {h : Heap} {mg : Str → Option Value} {f : Addr} (X : K.In h) (G : h.Ns mainGlobals mg) (hfa : mg ("law" : Str) = some (.ref f)) (c : SaysX Rw.prog faL fnL psL dsL K) :
    ∃ fd : FuncData, (∀ (s : Shared) (v : Value), BindsTo s fd ⟨[v], []⟩ [("script", v)]) ∧ ∀ base : Heap, K.In base → base.Ns mainGlobals mg → FnG Rw.prog w K mg base (L2.CX Rw.prog w) 7 f fd ["script"] (lSp K (xt K psL) 1 sp_law) := by
  obtain ⟨fd_power_of, F_power_of⟩ := c.d.def_ 0 (d := dd_power_of) rfl
  obtain ⟨fd_least_odd, F_least_odd⟩ := c.d.def_ 1 (d := dd_least_odd) rfl
  obtain ⟨fd_gone_away, F_gone_away⟩ := c.d.def_ 2 (d := dd_gone_away) rfl
  obtain ⟨fd_refuse_row, F_refuse_row⟩ := c.d.def_ 3 (d := dd_refuse_row) rfl
  obtain ⟨fd_away_lot, F_away_lot⟩ := c.d.def_ 4 (d := dd_away_lot) rfl
  obtain ⟨fd_merged_ring, F_merged_ring⟩ := c.d.def_ 5 (d := dd_merged_ring) rfl
  obtain ⟨fd_away_place, F_away_place⟩ := c.d.def_ 6 (d := dd_away_place) rfl
  obtain ⟨fd_away_turn, F_away_turn⟩ := c.d.def_ 7 (d := dd_away_turn) rfl
  obtain ⟨fd_is_away_word, F_is_away_word⟩ := c.d.def_ 8 (d := dd_is_away_word) rfl
  obtain ⟨fd__law_own_bag, F__law_own_bag⟩ := c.d.def_ 9 (d := dd__law_own_bag) rfl
  obtain ⟨fd__law_draw, F__law_draw⟩ := c.d.def_ 10 (d := dd__law_draw) rfl
  obtain ⟨fd__law_pick, F__law_pick⟩ := c.d.def_ 11 (d := dd__law_pick) rfl
  obtain ⟨fd__law_word, F__law_word⟩ := c.d.def_ 12 (d := dd__law_word) rfl
  obtain ⟨fd__law_power, F__law_power⟩ := c.d.def_ 13 (d := dd__law_power) rfl
  obtain ⟨fd__law_odd_word, F__law_odd_word⟩ := c.d.def_ 14 (d := dd__law_odd_word) rfl
  obtain ⟨fd__law_bad_word, F__law_bad_word⟩ := c.d.def_ 15 (d := dd__law_bad_word) rfl
  obtain ⟨fd__law_is_plain, F__law_is_plain⟩ := c.d.def_ 16 (d := dd__law_is_plain) rfl
  obtain ⟨fd__law_place, F__law_place⟩ := c.d.def_ 17 (d := dd__law_place) rfl
  obtain ⟨fd__law_told, F__law_told⟩ := c.d.def_ 18 (d := dd__law_told) rfl
  obtain ⟨fd__law_due, F__law_due⟩ := c.d.def_ 19 (d := dd__law_due) rfl
  obtain ⟨fd__law_is_told, F__law_is_told⟩ := c.d.def_ 20 (d := dd__law_is_told) rfl
  obtain ⟨fd__law_are_turns_right, F__law_are_turns_right⟩ := c.d.def_ 21 (d := dd__law_are_turns_right) rfl
  obtain ⟨fd__law_closed, F__law_closed⟩ := c.d.def_ 22 (d := dd__law_closed) rfl
  obtain ⟨fd__law_three_lot, F__law_three_lot⟩ := c.d.def_ 23 (d := dd__law_three_lot) rfl
  obtain ⟨fd_law, F_law⟩ := c.d.def_ 24 (d := dd_law) rfl
  have gl : Glb mg := ⟨He.free_ok X G (c.d.fact 25 (f := .free "range") rfl), He.free_ok X G (c.d.fact 26 (f := .free "len") rfl), He.free_ok X G (c.d.fact 27 (f := .free "tuple") rfl), He.free_ok X G (c.d.fact 28 (f := .free "sorted") rfl), He.free_ok X G (c.d.fact 29 (f := .free "enumerate") rfl), He.free_ok X G (c.d.fact 30 (f := .free "abs") rfl), He.free_ok X G (c.d.fact 31 (f := .free "int") rfl), He.free_ok X G (c.d.fact 32 (f := .free "list") rfl), He.free_ok X G (c.d.fact 33 (f := .free "reversed") rfl), He.free_ok X G (c.d.fact 34 (f := .free "all") rfl), He.free_ok X G (c.d.fact 35 (f := .free "min") rfl), He.free_ok X G (c.d.fact 36 (f := .free "isinstance") rfl), He.free_ok X G (c.d.fact 37 (f := .free "repr") rfl), He.free_ok X G (c.d.fact 38 (f := .free "max") rfl), (let ⟨t, e⟩ := He.int_ok X G (c.d.fact 39 (f := .int "MAX_GONE" 4096) rfl); ⟨_, e, ⟨t, rfl⟩⟩)⟩
  have XFh : XF K mg (xt K psL) := xf_of X G c (by decide) (He.free_ok X G (c.d.fact 40 (f := .free "super") rfl))
  have htop : (Rw.prog.main.scope.names.lookup ("super" : Str)).isSome = false := by decide +kernel
  have M_1 : XM0 K Rw.prog (xt K psL) 1 := ⟨_, _, _, _, _, _, _, _, _, _, sup_of c htop (d := xd_1) 0 rfl, by decide⟩
  have M_2 : XM1 K Rw.prog (xt K psL) 2 := ⟨_, _, _, _, _, _, _, _, _, _, _, _, _, _, _, _, sup_of c htop (d := xd_2) 1 rfl, by decide, fun _ _ _ _ _ _ => rfl⟩
  have e := hfa.symm.trans (He.glo_ok X G (c.d.fact 24 (f := .glo "law") rfl))
  cases e
  have b := FunD.bindsA (ps := ["script"]) F_law fun _ _ _ _ _ _ us hl => match us, hl with | [_], _ => rfl
  refine ⟨fd_law, fun s v => b s [v] rfl, fun base _ _ => ?_⟩
  have C_power_of : Cal Rw.prog w K mg base (xt K psL) spT 0 1 "power_of" ["q", "n"] := cal_of F_power_of (fn_mkG (c := ccL) (m := sp_power_of) (b := b_power_of) F_power_of sc_power_of ln_power_of (fun cdv A outer s H E B PE hr hgd tk => w_power_of gl hr hgd tk ) (fun ds h PQ PE m => v_power_of m)) (He.glo_ok X G (c.d.fact 0 (f := .glo "power_of") rfl)) (fun _ _ _ _ _ _ us hl => match us, hl with | [_, _], _ => rfl) (fun _ _ _ _ _ _ us hl => match us, hl with | [_, _], _ => rfl) ln_power_of
  have C_least_odd : Cal Rw.prog w K mg base (xt K psL) spT 1 1 "least_odd" ["words", "most"] := cal_of F_least_odd (fn_mkG (c := ccL) (m := sp_least_odd) (b := b_least_odd) F_least_odd sc_least_odd ln_least_odd (fun cdv A outer s H E B PE hr hgd tk => w_least_odd gl hr hgd tk ) (fun ds h PQ PE m => v_least_odd m)) (He.glo_ok X G (c.d.fact 1 (f := .glo "least_odd") rfl)) (fun _ _ _ _ _ _ us hl => match us, hl with | [_, _], _ => rfl) (fun _ _ _ _ _ _ us hl => match us, hl with | [_, _], _ => rfl) ln_least_odd
  have C_merged_ring : Cal Rw.prog w K mg base (xt K psL) spT 5 1 "merged_ring" ["words", "least"] := cal_of F_merged_ring (fn_mkG (c := ccL) (m := sp_merged_ring) (b := b_merged_ring) F_merged_ring sc_merged_ring ln_merged_ring (fun cdv A outer s H E B PE hr hgd tk => w_merged_ring gl hr hgd tk ) (fun ds h PQ PE m => v_merged_ring m)) (He.glo_ok X G (c.d.fact 5 (f := .glo "merged_ring") rfl)) (fun _ _ _ _ _ _ us hl => match us, hl with | [_, _], _ => rfl) (fun _ _ _ _ _ _ us hl => match us, hl with | [_, _], _ => rfl) ln_merged_ring
  have C__law_own_bag : Cal Rw.prog w K mg base (xt K psL) spT 9 1 "_law_own_bag" ["script"] := cal_of F__law_own_bag (fn_mkG (c := ccL) (m := sp__law_own_bag) (b := b__law_own_bag) F__law_own_bag sc__law_own_bag ln__law_own_bag (fun cdv A outer s H E B PE hr hgd tk => w__law_own_bag gl hr hgd tk ) (fun ds h PQ PE m => v__law_own_bag m)) (He.glo_ok X G (c.d.fact 9 (f := .glo "_law_own_bag") rfl)) (fun _ _ _ _ _ _ us hl => match us, hl with | [_], _ => rfl) (fun _ _ _ _ _ _ us hl => match us, hl with | [_], _ => rfl) ln__law_own_bag
  have C__law_draw : Cal Rw.prog w K mg base (xt K psL) spT 10 1 "_law_draw" ["bag", "below"] := cal_of F__law_draw (fn_mkG (c := ccL) (m := sp__law_draw) (b := b__law_draw) F__law_draw sc__law_draw ln__law_draw (fun cdv A outer s H E B PE hr hgd tk => w__law_draw gl hr hgd tk ) (fun ds h PQ PE m => v__law_draw m)) (He.glo_ok X G (c.d.fact 10 (f := .glo "_law_draw") rfl)) (fun _ _ _ _ _ _ us hl => match us, hl with | [_, _], _ => rfl) (fun _ _ _ _ _ _ us hl => match us, hl with | [_, _], _ => rfl) ln__law_draw
  have C__law_power : Cal Rw.prog w K mg base (xt K psL) spT 13 1 "_law_power" ["q", "n"] := cal_of F__law_power (fn_mkG (c := ccL) (m := sp__law_power) (b := b__law_power) F__law_power sc__law_power ln__law_power (fun cdv A outer s H E B PE hr hgd tk => w__law_power gl hr hgd tk ) (fun ds h PQ PE m => v__law_power m)) (He.glo_ok X G (c.d.fact 13 (f := .glo "_law_power") rfl)) (fun _ _ _ _ _ _ us hl => match us, hl with | [_, _], _ => rfl) (fun _ _ _ _ _ _ us hl => match us, hl with | [_, _], _ => rfl) ln__law_power
  have C__law_is_plain : Cal Rw.prog w K mg base (xt K psL) spT 16 1 "_law_is_plain" ["word"] := cal_of F__law_is_plain (fn_mkG (c := ccL) (m := sp__law_is_plain) (b := b__law_is_plain) F__law_is_plain sc__law_is_plain ln__law_is_plain (fun cdv A outer s H E B PE hr hgd tk => w__law_is_plain gl hr hgd tk ) (fun ds h PQ PE m => v__law_is_plain m)) (He.glo_ok X G (c.d.fact 16 (f := .glo "_law_is_plain") rfl)) (fun _ _ _ _ _ _ us hl => match us, hl with | [_], _ => rfl) (fun _ _ _ _ _ _ us hl => match us, hl with | [_], _ => rfl) ln__law_is_plain
  have C__law_place : Cal Rw.prog w K mg base (xt K psL) spT 17 1 "_law_place" ["word"] := cal_of F__law_place (fn_mkG (c := ccL) (m := sp__law_place) (b := b__law_place) F__law_place sc__law_place ln__law_place (fun cdv A outer s H E B PE hr hgd tk => w__law_place gl hr hgd tk ) (fun ds h PQ PE m => v__law_place m)) (He.glo_ok X G (c.d.fact 17 (f := .glo "_law_place") rfl)) (fun _ _ _ _ _ _ us hl => match us, hl with | [_], _ => rfl) (fun _ _ _ _ _ _ us hl => match us, hl with | [_], _ => rfl) ln__law_place
  have C__law_closed : Cal Rw.prog w K mg base (xt K psL) spT 22 1 "_law_closed" ["word"] := cal_of F__law_closed (fn_mkG (c := ccL) (m := sp__law_closed) (b := b__law_closed) F__law_closed sc__law_closed ln__law_closed (fun cdv A outer s H E B PE hr hgd tk => w__law_closed gl hr hgd tk ) (fun ds h PQ PE m => v__law_closed m)) (He.glo_ok X G (c.d.fact 22 (f := .glo "_law_closed") rfl)) (fun _ _ _ _ _ _ us hl => match us, hl with | [_], _ => rfl) (fun _ _ _ _ _ _ us hl => match us, hl with | [_], _ => rfl) ln__law_closed
  have C__law_three_lot : Cal Rw.prog w K mg base (xt K psL) spT 23 1 "_law_three_lot" ["q"] := cal_of F__law_three_lot (fn_mkG (c := ccL) (m := sp__law_three_lot) (b := b__law_three_lot) F__law_three_lot sc__law_three_lot ln__law_three_lot (fun cdv A outer s H E B PE hr hgd tk => w__law_three_lot gl hr hgd tk ) (fun ds h PQ PE m => v__law_three_lot m)) (He.glo_ok X G (c.d.fact 23 (f := .glo "_law_three_lot") rfl)) (fun _ _ _ _ _ _ us hl => match us, hl with | [_], _ => rfl) (fun _ _ _ _ _ _ us hl => match us, hl with | [_], _ => rfl) ln__law_three_lot
  have C_gone_away : Cal Rw.prog w K mg base (xt K psL) spT 2 2 "gone_away" ["q", "n"] := cal_of F_gone_away (fn_mkG (c := ccL) (m := sp_gone_away) (b := b_gone_away) F_gone_away sc_gone_away ln_gone_away (fun cdv A outer s H E B PE hr hgd tk => w_gone_away gl hr hgd tk C_least_odd) (fun ds h PQ PE m => v_gone_away (hc := rfl) m)) (He.glo_ok X G (c.d.fact 2 (f := .glo "gone_away") rfl)) (fun _ _ _ _ _ _ us hl => match us, hl with | [_, _], _ => rfl) (fun _ _ _ _ _ _ us hl => match us, hl with | [_, _], _ => rfl) ln_gone_away
  have C_refuse_row : Cal Rw.prog w K mg base (xt K psL) spT 3 2 "refuse_row" ["q", "n"] := cal_of F_refuse_row (fn_mkG (c := ccL) (m := sp_refuse_row) (b := b_refuse_row) F_refuse_row sc_refuse_row ln_refuse_row (fun cdv A outer s H E B PE hr hgd tk => w_refuse_row gl XFh rfl rfl M_1 M_2 hr hgd tk C_power_of) (fun ds h PQ PE m => v_refuse_row (hc := rfl) m)) (He.glo_ok X G (c.d.fact 3 (f := .glo "refuse_row") rfl)) (fun _ _ _ _ _ _ us hl => match us, hl with | [_, _], _ => rfl) (fun _ _ _ _ _ _ us hl => match us, hl with | [_, _], _ => rfl) ln_refuse_row
  have C_away_turn : Cal Rw.prog w K mg base (xt K psL) spT 7 2 "away_turn" ["q", "word"] := cal_of F_away_turn (fn_mkG (c := ccL) (m := sp_away_turn) (b := b_away_turn) F_away_turn sc_away_turn ln_away_turn (fun cdv A outer s H E B PE hr hgd tk => w_away_turn gl XFh rfl rfl M_1 hr hgd tk C_merged_ring C_least_odd) (fun ds h PQ PE m => v_away_turn (hc := rfl) (hxm := rfl) m)) (He.glo_ok X G (c.d.fact 7 (f := .glo "away_turn") rfl)) (fun _ _ _ _ _ _ us hl => match us, hl with | [_, _], _ => rfl) (fun _ _ _ _ _ _ us hl => match us, hl with | [_, _], _ => rfl) ln_away_turn
  have C__law_pick : Cal Rw.prog w K mg base (xt K psL) spT 11 2 "_law_pick" ["bag", "some"] := cal_of F__law_pick (fn_mkG (c := ccL) (m := sp__law_pick) (b := b__law_pick) F__law_pick sc__law_pick ln__law_pick (fun cdv A outer s H E B PE hr hgd tk => w__law_pick gl hr hgd tk C__law_draw) (fun ds h PQ PE m => v__law_pick (hc := rfl) m)) (He.glo_ok X G (c.d.fact 11 (f := .glo "_law_pick") rfl)) (fun _ _ _ _ _ _ us hl => match us, hl with | [_, _], _ => rfl) (fun _ _ _ _ _ _ us hl => match us, hl with | [_, _], _ => rfl) ln__law_pick
  have C__law_word : Cal Rw.prog w K mg base (xt K psL) spT 12 2 "_law_word" ["bag", "q", "n"] := cal_of F__law_word (fn_mkG (c := ccL) (m := sp__law_word) (b := b__law_word) F__law_word sc__law_word ln__law_word (fun cdv A outer s H E B PE hr hgd tk => w__law_word gl hr hgd tk C__law_draw) (fun ds h PQ PE m => v__law_word (hc := rfl) m)) (He.glo_ok X G (c.d.fact 12 (f := .glo "_law_word") rfl)) (fun _ _ _ _ _ _ us hl => match us, hl with | [_, _, _], _ => rfl) (fun _ _ _ _ _ _ us hl => match us, hl with | [_, _, _], _ => rfl) ln__law_word
  have C__law_due : Cal Rw.prog w K mg base (xt K psL) spT 19 2 "_law_due" ["word"] := cal_of F__law_due (fn_mkG (c := ccL) (m := sp__law_due) (b := b__law_due) F__law_due sc__law_due ln__law_due (fun cdv A outer s H E B PE hr hgd tk => w__law_due gl hr hgd tk C__law_is_plain C__law_place) (fun ds h PQ PE m => v__law_due (hc := rfl) m)) (He.glo_ok X G (c.d.fact 19 (f := .glo "_law_due") rfl)) (fun _ _ _ _ _ _ us hl => match us, hl with | [_], _ => rfl) (fun _ _ _ _ _ _ us hl => match us, hl with | [_], _ => rfl) ln__law_due
  have C_away_lot : Cal Rw.prog w K mg base (xt K psL) spT 4 3 "away_lot" ["q", "n"] := cal_of F_away_lot (fn_mkG (c := ccL) (m := sp_away_lot) (b := b_away_lot) F_away_lot sc_away_lot ln_away_lot (fun cdv A outer s H E B PE hr hgd tk => w_away_lot gl hr hgd tk C_refuse_row C_gone_away) (fun ds h PQ PE m => v_away_lot (hc := rfl) m)) (He.glo_ok X G (c.d.fact 4 (f := .glo "away_lot") rfl)) (fun _ _ _ _ _ _ us hl => match us, hl with | [_, _], _ => rfl) (fun _ _ _ _ _ _ us hl => match us, hl with | [_, _], _ => rfl) ln_away_lot
  have C_away_place : Cal Rw.prog w K mg base (xt K psL) spT 6 3 "away_place" ["q", "word"] := cal_of F_away_place (fn_mkG (c := ccL) (m := sp_away_place) (b := b_away_place) F_away_place sc_away_place ln_away_place (fun cdv A outer s H E B PE hr hgd tk => w_away_place gl hr hgd tk C_away_turn) (fun ds h PQ PE m => v_away_place (hc := rfl) (hxm := rfl) m)) (He.glo_ok X G (c.d.fact 6 (f := .glo "away_place") rfl)) (fun _ _ _ _ _ _ us hl => match us, hl with | [_, _], _ => rfl) (fun _ _ _ _ _ _ us hl => match us, hl with | [_, _], _ => rfl) ln_away_place
  have C_is_away_word : Cal Rw.prog w K mg base (xt K psL) spT 8 3 "is_away_word" ["q", "word"] := cal_of F_is_away_word (fn_mkG (c := ccL) (m := sp_is_away_word) (b := b_is_away_word) F_is_away_word sc_is_away_word ln_is_away_word (fun cdv A outer s H E B PE hr hgd tk => w_is_away_word gl hr hgd tk C_away_turn) (fun ds h PQ PE m => v_is_away_word (hc := rfl) (hxm := rfl) m)) (He.glo_ok X G (c.d.fact 8 (f := .glo "is_away_word") rfl)) (fun _ _ _ _ _ _ us hl => match us, hl with | [_, _], _ => rfl) (fun _ _ _ _ _ _ us hl => match us, hl with | [_, _], _ => rfl) ln_is_away_word
  have C__law_odd_word : Cal Rw.prog w K mg base (xt K psL) spT 14 3 "_law_odd_word" ["bag", "q"] := cal_of F__law_odd_word (fn_mkG (c := ccL) (m := sp__law_odd_word) (b := b__law_odd_word) F__law_odd_word sc__law_odd_word ln__law_odd_word (fun cdv A outer s H E B PE hr hgd tk => w__law_odd_word gl hr hgd tk C__law_draw C__law_word C__law_pick) (fun ds h PQ PE m => v__law_odd_word (hc := rfl) m)) (He.glo_ok X G (c.d.fact 14 (f := .glo "_law_odd_word") rfl)) (fun _ _ _ _ _ _ us hl => match us, hl with | [_, _], _ => rfl) (fun _ _ _ _ _ _ us hl => match us, hl with | [_, _], _ => rfl) ln__law_odd_word
  have C__law_bad_word : Cal Rw.prog w K mg base (xt K psL) spT 15 3 "_law_bad_word" ["bag", "q"] := cal_of F__law_bad_word (fn_mkG (c := ccL) (m := sp__law_bad_word) (b := b__law_bad_word) F__law_bad_word sc__law_bad_word ln__law_bad_word (fun cdv A outer s H E B PE hr hgd tk => w__law_bad_word gl hr hgd tk C__law_draw C__law_word C__law_pick) (fun ds h PQ PE m => v__law_bad_word (hc := rfl) m)) (He.glo_ok X G (c.d.fact 15 (f := .glo "_law_bad_word") rfl)) (fun _ _ _ _ _ _ us hl => match us, hl with | [_, _], _ => rfl) (fun _ _ _ _ _ _ us hl => match us, hl with | [_, _], _ => rfl) ln__law_bad_word
  have C__law_told : Cal Rw.prog w K mg base (xt K psL) spT 18 4 "_law_told" ["which", "q", "word", "is_named"] := cal_of F__law_told (fn_mkG (c := ccL) (m := sp__law_told) (b := b__law_told) F__law_told sc__law_told ln__law_told (fun cdv A outer s H E B PE hr hgd tk => w__law_told gl XFh rfl rfl hr hgd tk C_away_turn C_away_place C_is_away_word) (fun ds h PQ PE m => v__law_told (hc := rfl) (hsub := rfl) m)) (He.glo_ok X G (c.d.fact 18 (f := .glo "_law_told") rfl)) (fun _ _ _ _ _ _ us hl => match us, hl with | [_, _, _, _], _ => rfl) (fun _ _ _ _ _ _ us hl => match us, hl with | [_, _, _, _], _ => rfl) ln__law_told
  have C__law_is_told : Cal Rw.prog w K mg base (xt K psL) spT 20 5 "_law_is_told" ["q", "word", "due", "is_named"] := cal_of F__law_is_told (fn_mkG (c := ccL) (m := sp__law_is_told) (b := b__law_is_told) F__law_is_told sc__law_is_told ln__law_is_told (fun cdv A outer s H E B PE hr hgd tk => w__law_is_told gl hr hgd tk C__law_told) (fun ds h PQ PE m => v__law_is_told (hc := rfl) m)) (He.glo_ok X G (c.d.fact 20 (f := .glo "_law_is_told") rfl)) (fun _ _ _ _ _ _ us hl => match us, hl with | [_, _, _, _], _ => rfl) (fun _ _ _ _ _ _ us hl => match us, hl with | [_, _, _, _], _ => rfl) ln__law_is_told
  have C__law_are_turns_right : Cal Rw.prog w K mg base (xt K psL) spT 21 6 "_law_are_turns_right" ["q", "word", "due"] := cal_of F__law_are_turns_right (fn_mkG (c := ccL) (m := sp__law_are_turns_right) (b := b__law_are_turns_right) F__law_are_turns_right sc__law_are_turns_right ln__law_are_turns_right (fun cdv A outer s H E B PE hr hgd tk => w__law_are_turns_right gl hr hgd tk C__law_is_told) (fun ds h PQ PE m => v__law_are_turns_right (hc := rfl) m)) (He.glo_ok X G (c.d.fact 21 (f := .glo "_law_are_turns_right") rfl)) (fun _ _ _ _ _ _ us hl => match us, hl with | [_, _, _], _ => rfl) (fun _ _ _ _ _ _ us hl => match us, hl with | [_, _, _], _ => rfl) ln__law_are_turns_right
  exact fn_mkG (c := ccL) (m := sp_law) (b := b_law) F_law sc_law ln_law (fun cdv A outer s H E B PE hr hgd tk => w_law gl hr hgd tk C__law_own_bag C__law_draw C__law_odd_word C__law_bad_word C__law_word C__law_due C__law_is_told C__law_power C_away_lot C__law_are_turns_right C__law_three_lot C__law_closed) (fun ds h PQ PE m => v_law (hc := rfl) m)
end W
end MP
open PySem PySem.W PySem.Calls PyProof.Rows
theorem PySem.Challenge.cw_wherewordsbegin_k19_whole_main_away_on_t_holds : PySem.Challenge.rw_wherewordsbegin_k19_whole_main_away_on_t.Holds := by
  w_on; o_law
  refine HandSHeadRun.head_any (r := OpenLaw.row PySem.Challenge.rw_wherewordsbegin_k19_whole_main_away_on_t) (q := view (OpenLaw.row PySem.Challenge.rw_wherewordsbegin_k19_whole_main_away_on_t).prog [36]) (H := MP.W.hkL) (ob := MP.W.obL) (M := 4000) (loose := MP.W.looseL) (d := HandSHeadRun.topDef (OpenLaw.row PySem.Challenge.rw_wherewordsbegin_k19_whole_main_away_on_t).prog 36) (kwd := []) MP.W.obL_eq
    (by kernel_rfl) (fun s => by kernel_rfl) MP.W.runL (by kernel_rfl) (by kernel_rfl) (by kernel_rfl) (by rfl) (by first | assumption | decide +kernel) (by decide +kernel) ⟨rfl, rfl, rfl, rfl, rfl, by decide +kernel⟩ ?hw ?hc
  case hw => w_witness2
  case hc =>
    refine L2.walk_ofEG (l := PySem.Challenge.rw_wherewordsbegin_k19_whole_main_away_on_t) (n := 63) (k := 7) (x := "script") (CX := fun w => L2.CX (PySem.Challenge.rw_wherewordsbegin_k19_whole_main_away_on_t).prog w) rfl (by decide) (by kernel_rfl) ⟨rfl, by decide, by decide⟩ ?F (fun _ _ _ _ _ z => ?_)
    · intro w mg fa h Y G hmg0
      obtain ⟨K, KX, c⟩ := Y
      have hmg : mg ("law" : PySem.Str) = some (.ref fa) := by
        have e : (HandSHeadRun.topDef (OpenLaw.row PySem.Challenge.rw_wherewordsbegin_k19_whole_main_away_on_t).prog 36).name = ("law" : PySem.Str) := by kernel_rfl
        rw [← e]
        exact hmg0
      obtain ⟨fd, hb, hF⟩ := MP.W.facts (w := w) KX G hmg c
      exact ⟨K, fd, MP.lSp K (MP.xt K MP.W.psL) 1 MP.W.sp_law, KX, hb, fun H a ns hl _ hS => MP.law_sp hl (by decide) ⟨ns, rfl, hl, fun _ => rfl⟩ hS, hF⟩
    · obtain ⟨_, _, _, _, _, _, _, _, _, _, _, _, z⟩ := z
      exact z

