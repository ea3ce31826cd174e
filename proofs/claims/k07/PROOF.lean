import PyProof.Rows.All
import Wide.All
import OpenK.AllK
import Wide.FinOn
import HandS.ForMost
import HandS.ForExc
import HandS.TupAny
import HandS.IsInst
import HandS.Deep
import HandS.Flow
import HandS.Zip
import HandS.Wide
import HandS.Strs
import HandS.SetKeys
import HandS.WordsDict
import HandS.Small
import KE.GoesEnumKw
import HandS.Star
import PySem.Challenge.RW_nextbehind_k07_merges_related
set_option Elab.async false
set_option linter.all false
set_option maxRecDepth 100000
/-! DvA: by-value data D, the abstract objects M, how they stand in the hand layer's heap. -/
namespace DV
open PySem PySem.Spec PyProof.Rows L2

/-- a class: one of the text's own by its name, or a built-in one -/
inductive Cl where
  | own (n : String) | bi (n : String)
  deriving DecidableEq
/-- a value: tuples, lists and dicts that nobody changes stand by value; what may change stands under a number -/
inductive D where
  | non | bl (b : Bool) | int (i : Int) | str (s : Str)
  | tup (ds : List D) | lst (ds : List D) | scr (ds : List D) | dic (es : List (Key × D)) | ref (n : Nat) | cls (c : Cl)
/-- what stands under a number -/
inductive M where
  | lst (ds : List D) | dic (es : List (Key × D)) | ins (c : String) (fs : List (Str × D))
abbrev Hd := List M
abbrev Env := List (Option D)

/-- which objects stand under numbers (nm), and which are held back (hd): a list that a comprehension fills -/
structure Io where
  nm : List Addr
  hd : List Addr
def io0 : Io := ⟨[], []⟩
instance : Membership Addr Io := ⟨fun io a => a ∈ io.nm ∨ a ∈ io.hd⟩
def Io.add (io : Io) (p : Addr) : Io := ⟨io.nm ++ [p], io.hd⟩
def Io.hold (io : Io) (p : Addr) : Io := ⟨io.nm, p :: io.hd⟩
theorem Io.mem_nm {io : Io} {a : Addr} (h : a ∈ io.nm) : a ∈ io := .inl h
theorem Io.nmem {io : Io} {a : Addr} (h : a ∉ io) : a ∉ io.nm := fun z => h (.inl z)
/-- a list of the written part -/
def KL (K : PySem.W.Frag) (a : Addr) (xs : List V) : Prop :=
  ∃ (o : Obj) (its : Array Value) (n : Nat), K.lookup a = some o ∧ o.cls = .type "list" ∧ o.dict = none ∧ o.data = .seq its n ∧ its.size ≤ sizeLine ∧ Vals xs its.toList
/-- the script, locked (or a list of the written part) -/
def Scr (K : PySem.W.Frag) (io : Io) (H : Hp) (a : Addr) (xs : List V) : Prop := (a ∉ io ∧ ∃ o, H a = some (.frz o (.lst xs))) ∨ KL K a xs
theorem Scr.sq {K : PySem.W.Frag} {io : Io} {H : Hp} {a : Addr} {xs : List V} (h : Scr K io H a xs) : SqL K H a xs := by
  rcases h with ⟨_, o, e⟩ | h
  · exact .inl (.inr ⟨o, e⟩)
  · exact .inr h
/-- a tuple whose object has no dict of its own: a new one, or one of the written part -/
def PTup (K : PySem.W.Frag) (H : Hp) (a : Addr) (xs : List V) : Prop := (∃ o : Obj, H a = some (.frz o (.tup xs)) ∧ o.dict = none) ∨
  ∃ (o : Obj) (its : Array Value) (n : Nat), K.lookup a = some o ∧ o.cls = .type "tuple" ∧ o.dict = none ∧ o.data = .seq its n ∧ its.size ≤ sizeLine ∧ Vals xs its.toList
theorem PTup.sq {K : PySem.W.Frag} {H : Hp} {a : Addr} {xs : List V} (h : PTup K H a xs) : SqT K H a xs := by
  rcases h with ⟨o, e, _⟩ | ⟨o, its, n, e, c, _, d, z, r⟩
  · exact .inl (.inr ⟨o, e⟩)
  · exact .inr ⟨o, its, n, e, c, d, z, r⟩
section
variable (K : PySem.W.Frag) (ct : String → Addr) (io : Io) (H : Hp)
mutual
inductive DR : V → D → Prop
  | non : DR .non .non
  | bl (b : Bool) : DR (.bl b) (.bl b)
  | int (i : Int) : DR (.int i) (.int i)
  | str (x : Str) : DR (.str x) (.str x)
  | tup {a : Addr} {xs : List V} {ds : List D} : PTup K H a xs → DRs xs ds → DR (.ref a) (.tup ds)
  | lst {a : Addr} {xs : List V} {ds : List D} : a ∉ io → H a = some (.lst xs) → DRs xs ds → DR (.ref a) (.lst ds)
  | scr {a : Addr} {xs : List V} {ds : List D} : Scr K io H a xs → DRs xs ds → DR (.ref a) (.scr ds)
  | dic {a : Addr} {kvs : List (Key × V)} {es : List (Key × D)} : a ∉ io → H a = some (.dK kvs) → kvs.map (·.1) = es.map (·.1) → DRs (kvs.map (·.2)) (es.map (·.2)) → DR (.ref a) (.dic es)
  | ref {a : Addr} {n : Nat} : io.nm[n]? = some a → DR (.ref a) (.ref n)
  | ty (n : String) : DR (.ty n) (.cls (.bi n))
  | own (n : String) : DR (.ref (ct n)) (.cls (.own n))
inductive DRs : List V → List D → Prop
  | nil : DRs [] []
  | cons {v : V} {vs : List V} {d : D} {ds : List D} : DR v d → DRs vs ds → DRs (v :: vs) (d :: ds)
end
/-- the object at a is m -/
def MR (a : Addr) : M → Prop
  | .lst ds => ∃ xs, H a = some (.lst xs) ∧ DRs K ct io H xs ds
  | .dic es => ∃ kvs, H a = some (.dK kvs) ∧ kvs.map (·.1) = es.map (·.1) ∧ DRs K ct io H (kvs.map (·.2)) (es.map (·.2))
  | .ins c fs => ∃ dx gs, H a = some (.ins (ct c) dx gs) ∧ gs.map (·.1) = fs.map (·.1) ∧ DRs K ct io H (gs.map (·.2)) (fs.map (·.2))
structure HR (A : Hd) : Prop where
  nd : io.nm.Nodup
  len : io.nm.length = A.length
  at_ : ∀ (n : Nat) (a : Addr) (m : M), io.nm[n]? = some a → A[n]? = some m → MR K ct io H a m
  hid : ∀ a ∈ io.hd, a ∉ io.nm ∧ ∃ xs, H a = some (.lst xs)
structure EnvR (ro : Env) (σ : L2.St) : Prop where
  len : ro.length = σ.length
  at_ : ∀ (i : Nat) (d : D), ro[i]? = some (some d) → ∃ v, σ[i]? = some (some v) ∧ DR K ct io H v d
end

/-- from one state to a later one -/
structure Ext (io : Io) (H : Hp) (io' : Io) (H' : Hp) : Prop where
  pre : ∃ more, io'.nm = io.nm ++ more
  hd1 : ∀ a ∈ io.hd, a ∈ io'.hd
  hd2 : ∀ a ∈ io'.hd, a ∈ io.hd ∨ H a = none
  fresh : ∀ b, b ∈ io'.nm → b ∉ io.nm → H b = none
  keep : ∀ b o, H b = some o → b ∉ io.nm → H' b = some o
  there : ∀ b o, H b = some o → ∃ o', H' b = some o'

section
variable {K : PySem.W.Frag} {ct : String → Addr} {io io' io2 : Io} {H H' H2 : Hp}
theorem Ext.refl : Ext io H io H := ⟨⟨[], by simp⟩, fun _ h => h, fun _ h => .inl h, fun b h n => absurd h n, fun _ _ e _ => e, fun _ o e => ⟨o, e⟩⟩
theorem Ext.trans (a : Ext io H io' H') (b : Ext io' H' io2 H2) : Ext io H io2 H2 := by
  obtain ⟨m1, e1⟩ := a.pre
  obtain ⟨m2, e2⟩ := b.pre
  have back : ∀ c, H' c = none → H c = none := fun c e => by
    cases q : H c with
    | none => rfl
    | some o => obtain ⟨o', q'⟩ := a.there c o q; rw [e] at q'; cases q'
  refine ⟨⟨m1 ++ m2, by rw [e2, e1, List.append_assoc]⟩, fun c h => b.hd1 c (a.hd1 c h), fun c h => (b.hd2 c h).elim (a.hd2 c) fun z => .inr (back c z), fun c h n => ?_, fun c o e n => ?_, fun c o e => ?_⟩
  · by_cases h1 : c ∈ io'.nm
    · exact a.fresh c h1 n
    · exact back c (b.fresh c h h1)
  · have q := a.keep c o e n
    refine b.keep c o q fun h1 => ?_
    have := a.fresh c h1 n
    rw [e] at this; cases this
  · obtain ⟨o', e'⟩ := a.there c o e
    exact b.there c o' e'
theorem Ext.mem (a : Ext io H io' H') {n : Nat} {b : Addr} (h : io.nm[n]? = some b) : io'.nm[n]? = some b := by
  obtain ⟨m, e⟩ := a.pre
  rw [e, List.getElem?_append_left (List.getElem?_eq_some_iff.mp h).1]
  exact h
theorem Ext.notin (a : Ext io H io' H') {b : Addr} {o : HO} (e : H b = some o) (n : b ∉ io) : b ∉ io' := fun h => by
  rcases h with h | h
  · have := a.fresh b h (Io.nmem n)
    rw [e] at this; cases this
  · rcases a.hd2 b h with z | z
    · exact n (.inr z)
    · rw [e] at z; cases z
theorem Ext.kept (a : Ext io H io' H') {b : Addr} {o : HO} (e : H b = some o) (n : b ∉ io) : H' b = some o := a.keep b o e (Io.nmem n)
theorem Rd.ext {u : HO} (a : Ext io H io' H') {b : Addr} (r : Rd H b u) (n : b ∉ io.nm) : Rd H' b u := by
  rcases r with e | ⟨o, e⟩
  · exact .inl (a.keep b _ e n)
  · exact .inr ⟨o, a.keep b _ e n⟩

/-- tuples never change: also those that stand in the list of numbers (there are none) -/
theorem SqT.ext (a : Ext io H io' H') (hn : ∀ b u, Rd H b (.tup u) → b ∉ io.nm) {b : Addr} {xs : List V} (h : SqT K H b xs) : SqT K H' b xs := by
  rcases h with h | h
  · exact .inl (Rd.ext a h (hn b xs h))
  · exact .inr h
theorem PTup.ext (a : Ext io H io' H') (hn : ∀ b u, Rd H b (.tup u) → b ∉ io.nm) {b : Addr} {xs : List V} (h : PTup K H b xs) : PTup K H' b xs := by
  rcases h with ⟨o, e, d⟩ | h
  · exact .inl ⟨o, a.keep b _ e (hn b xs (.inr ⟨o, e⟩)), d⟩
  · exact .inr h
/-- no tuple stands under a number -/
def NoT (io : Io) (H : Hp) : Prop := ∀ b u, Rd H b (.tup u) → b ∉ io.nm
mutual
theorem DR.mono (a : Ext io H io' H') (hn : NoT io H) : ∀ {v : V} {d : D}, DR K ct io H v d → DR K ct io' H' v d
  | _, _, .non => .non
  | _, _, .bl b => .bl b
  | _, _, .int i => .int i
  | _, _, .str x => .str x
  | _, _, .tup h hs => .tup (PTup.ext a hn h) (DRs.mono a hn hs)
  | _, _, .lst n h hs => .lst (a.notin h n) (a.kept h n) (DRs.mono a hn hs)
  | _, _, .scr h hs => .scr (h.elim (fun ⟨n, o, e⟩ => .inl ⟨a.notin e n, o, a.kept e n⟩) .inr) (DRs.mono a hn hs)
  | _, _, .dic n h e hs => .dic (a.notin h n) (a.kept h n) e (DRs.mono a hn hs)
  | _, _, .ref h => .ref (a.mem h)
  | _, _, .ty n => .ty n
  | _, _, .own n => .own n
theorem DRs.mono (a : Ext io H io' H') (hn : NoT io H) : ∀ {vs : List V} {ds : List D}, DRs K ct io H vs ds → DRs K ct io' H' vs ds
  | _, _, .nil => .nil
  | _, _, .cons h hs => .cons (DR.mono a hn h) (DRs.mono a hn hs)
end
theorem HR.noT {A : Hd} (h : HR K ct io H A) : NoT io H := fun b u r hb => by
  obtain ⟨n, hlt, e⟩ := List.getElem_of_mem hb
  have e1 : io.nm[n]? = some b := by rw [List.getElem?_eq_getElem hlt, e]
  have hl : n < A.length := by rw [← h.len]; exact hlt
  have q := h.at_ n b A[n] e1 (List.getElem?_eq_getElem hl)
  have : ∀ o, H b = some o → (∀ u, o ≠ .tup u) ∧ (∀ p u, o ≠ .frz p u) → False := fun o ho hh => by
    rcases r with r | ⟨p, r⟩
    · rw [ho] at r; exact hh.1 u (Option.some.inj r)
    · rw [ho] at r; exact hh.2 p _ (Option.some.inj r)
  cases hm : A[n] with
  | lst ds => rw [hm] at q; obtain ⟨xs, e2, _⟩ := q; exact this _ e2 ⟨(by intro u z; cases z), (by intro p u z; cases z)⟩
  | dic es => rw [hm] at q; obtain ⟨xs, e2, _⟩ := q; exact this _ e2 ⟨(by intro u z; cases z), (by intro p u z; cases z)⟩
  | ins c fs => rw [hm] at q; obtain ⟨dx, gs, e2, _⟩ := q; exact this _ e2 ⟨(by intro u z; cases z), (by intro p u z; cases z)⟩
theorem EnvR.mono {ro : Env} {σ : L2.St} (h : EnvR K ct io H ro σ) (a : Ext io H io' H') (hn : NoT io H) : EnvR K ct io' H' ro σ :=
  ⟨h.len, fun i d e => let ⟨v, e1, r⟩ := h.at_ i d e; ⟨v, e1, r.mono a hn⟩⟩
theorem EnvR.set {ro : Env} {σ : L2.St} (h : EnvR K ct io H ro σ) {i : Nat} {v : V} {d : D} (r : DR K ct io H v d) : EnvR K ct io H (ro.set i (some d)) (σ.set i (some v)) := by
  refine ⟨by rw [List.length_set, List.length_set, h.len], fun j e hj => ?_⟩
  by_cases hij : i = j
  · subst hij
    by_cases hi : i < ro.length
    · rw [List.getElem?_set_self hi] at hj
      cases hj
      exact ⟨v, by rw [List.getElem?_set_self (by rw [← h.len]; exact hi)], r⟩
    · rw [List.getElem?_eq_none (by rw [List.length_set]; omega)] at hj; cases hj
  · rw [List.getElem?_set_ne hij] at hj
    obtain ⟨w, e1, q⟩ := h.at_ j e hj
    exact ⟨w, by rw [List.getElem?_set_ne hij]; exact e1, q⟩
theorem DRs.length : ∀ {vs : List V} {ds : List D}, DRs K ct io H vs ds → vs.length = ds.length
  | _, _, .nil => rfl
  | _, _, .cons _ hs => by rw [List.length_cons, List.length_cons, DRs.length hs]
theorem DRs.get : ∀ {vs : List V} {ds : List D} {i : Nat} {d : D}, DRs K ct io H vs ds → ds[i]? = some d → ∃ v, vs[i]? = some v ∧ DR K ct io H v d
  | _, _, _, _, .nil, e => by simp at e
  | _, _, 0, _, .cons h _, e => by simp at e; subst e; exact ⟨_, rfl, h⟩
  | _, _, i + 1, _, .cons _ hs, e => DRs.get (i := i) hs (by simpa using e)
theorem DRs.get' : ∀ {vs : List V} {ds : List D} {i : Nat} {v : V}, DRs K ct io H vs ds → vs[i]? = some v → ∃ d, ds[i]? = some d ∧ DR K ct io H v d
  | _, _, _, _, .nil, e => by simp at e
  | _, _, 0, _, .cons h _, e => by simp at e; subst e; exact ⟨_, rfl, h⟩
  | _, _, i + 1, _, .cons _ hs, e => DRs.get' (i := i) hs (by simpa using e)
theorem DRs.append : ∀ {vs ws : List V} {ds es : List D}, DRs K ct io H vs ds → DRs K ct io H ws es → DRs K ct io H (vs ++ ws) (ds ++ es)
  | _, _, _, _, .nil, s => s
  | _, _, _, _, .cons h hs, s => .cons h (DRs.append hs s)
theorem DRs.take : ∀ {vs : List V} {ds : List D} (n : Nat), DRs K ct io H vs ds → DRs K ct io H (vs.take n) (ds.take n)
  | _, _, 0, _ => .nil
  | _, _, _ + 1, .nil => .nil
  | _, _, n + 1, .cons h hs => .cons h (DRs.take n hs)
theorem DRs.drop : ∀ {vs : List V} {ds : List D} (n : Nat), DRs K ct io H vs ds → DRs K ct io H (vs.drop n) (ds.drop n)
  | _, _, 0, h => h
  | _, _, _ + 1, .nil => .nil
  | _, _, n + 1, .cons _ hs => DRs.drop n hs
theorem DRs.set {v : V} {d : D} (r : DR K ct io H v d) : ∀ {vs : List V} {ds : List D} (i : Nat), DRs K ct io H vs ds → DRs K ct io H (vs.set i v) (ds.set i d)
  | _, _, _, .nil => .nil
  | _, _, 0, .cons _ hs => .cons r hs
  | _, _, i + 1, .cons h hs => .cons h (DRs.set r i hs)
theorem DRs.eraseIdx : ∀ {vs : List V} {ds : List D} (i : Nat), DRs K ct io H vs ds → DRs K ct io H (vs.eraseIdx i) (ds.eraseIdx i)
  | _, _, _, .nil => .nil
  | _, _, 0, .cons _ hs => hs
  | _, _, i + 1, .cons h hs => .cons h (DRs.eraseIdx i hs)
theorem DRs.reverse {vs : List V} {ds : List D} (h : DRs K ct io H vs ds) : DRs K ct io H vs.reverse ds.reverse := by
  induction vs generalizing ds with
  | nil => cases h; exact .nil
  | cons v vs ih =>
    cases h with
    | cons h hs =>
      rw [List.reverse_cons, List.reverse_cons]
      exact DRs.append (ih hs) (.cons h .nil)
theorem DRs.replicate {v : V} {d : D} (h : DR K ct io H v d) : ∀ n : Nat, DRs K ct io H (List.replicate n v) (List.replicate n d)
  | 0 => .nil
  | n + 1 => .cons h (DRs.replicate h n)
theorem DR.ne_new {v : V} {d : D} : True := trivial

theorem HR.get {A : Hd} (h : HR K ct io H A) {n : Nat} {a : Addr} {m : M} (e : io.nm[n]? = some a) (q : A[n]? = some m) : MR K ct io H a m := h.at_ n a m e q
theorem HR.has {A : Hd} (h : HR K ct io H A) {n : Nat} {a : Addr} (e : io.nm[n]? = some a) : ∃ m, A[n]? = some m := by
  have hl := (List.getElem?_eq_some_iff.mp e).1
  rw [h.len] at hl
  exact ⟨A[n], List.getElem?_eq_getElem hl⟩
theorem keys_isEmpty {kvs : List (Key × V)} {es : List (Key × D)} (k : kvs.map (·.1) = es.map (·.1)) : kvs.isEmpty = es.isEmpty := by
  cases kvs with
  | nil => cases es with
    | nil => rfl
    | cons _ _ => cases k
  | cons _ _ => cases es with
    | nil => cases k
    | cons _ _ => rfl
theorem DRs.isEmpty {vs : List V} {ds : List D} (h : DRs K ct io H vs ds) : vs.isEmpty = ds.isEmpty := by cases h <;> rfl
/-- a new object is laid that has no number -/
theorem Ext.laid {p : Addr} {o : HO} (n : H p = none) : Ext io H io (upd H p o) := by
  refine ⟨⟨[], by simp⟩, fun _ h => h, fun _ h => .inl h, fun b h k => absurd h k, fun b x e k => ?_, fun b x e => ?_⟩
  · rw [upd_ne (ne_of_none e n)]; exact e
  · exact ⟨x, by rw [upd_ne (ne_of_none e n)]; exact e⟩
theorem HR.ne {A : Hd} (h : HR K ct io H A) {p : Addr} (n : H p = none) : p ∉ io := fun hb => by
  rcases hb with hb | hb
  · obtain ⟨k, hlt, e⟩ := List.getElem_of_mem hb
    have e1 : io.nm[k]? = some p := by rw [List.getElem?_eq_getElem hlt, e]
    have hl : k < A.length := by rw [← h.len]; exact hlt
    have q := h.at_ k p A[k] e1 (List.getElem?_eq_getElem hl)
    cases hm : A[k] with
    | lst ds => rw [hm] at q; obtain ⟨xs, e2, _⟩ := q; rw [n] at e2; cases e2
    | dic es => rw [hm] at q; obtain ⟨xs, e2, _⟩ := q; rw [n] at e2; cases e2
    | ins c fs => rw [hm] at q; obtain ⟨dx, gs, e2, _⟩ := q; rw [n] at e2; cases e2
  · obtain ⟨xs, e⟩ := (h.hid p hb).2
    rw [n] at e; cases e
theorem MR.mono {a : Addr} {m : M} (x : Ext io H io' H') (hn : NoT io H) (he : ∀ o, H a = some o → H' a = some o) (h : MR K ct io H a m) : MR K ct io' H' a m := by
  cases m with
  | lst ds => obtain ⟨xs, e, r⟩ := h; exact ⟨xs, he _ e, r.mono x hn⟩
  | dic es => obtain ⟨xs, e, k, r⟩ := h; exact ⟨xs, he _ e, k, r.mono x hn⟩
  | ins c fs => obtain ⟨dx, gs, e, k, r⟩ := h; exact ⟨dx, gs, he _ e, k, r.mono x hn⟩
/-- all is kept -/
theorem HR.same {A : Hd} (h : HR K ct io H A) (x : Ext io H io H') (k : ∀ b o, H b = some o → H' b = some o) : HR K ct io H' A :=
  ⟨h.nd, h.len, fun n a m e1 e2 => (h.at_ n a m e1 e2).mono x h.noT (k a), fun a ha => ⟨(h.hid a ha).1, let ⟨xs, e⟩ := (h.hid a ha).2; ⟨xs, k a _ e⟩⟩⟩
theorem HR.laid {A : Hd} (h : HR K ct io H A) {p : Addr} {o : HO} (n : H p = none) : HR K ct io (upd H p o) A :=
  h.same (Ext.laid n) fun b x e => by rw [upd_ne (ne_of_none e n)]; exact e
end
end DV

set_option Elab.async false
set_option linter.all false
set_option maxRecDepth 100000
/-! DvB: defs at states where nothing is being shown (guards empty), their calls; the law's end. -/
namespace DV
open PySem PySem.Spec PyProof.Rows L2

/-- as FnOk, at states where no repr runs -/
structure FnG (P : Program) (w : World) (K : PySem.W.Frag) (mg : Str → Option Value) (base : Heap) (k : Nat) (f : Addr) (fd : FuncData) (ps : List Str) (sp : Sp) : Prop where
  len : ∀ vs H Q E, sp vs H Q E → vs.length = ps.length
  run : ∀ (A : Around) (outer : List PySem.Env) (s : Shared) (H : Hp) (args : Args) (us : List Value) (vs : List V) (Q : VK) (E : XK), A.guards = some [] → Room k A → Env0 P w K mg base A outer s H → BindsTo s fd args (ps.zip us) →
    Vals vs us → sp vs H Q E → codeAny (model P w) A (.call (.ref f) args) (CR (L2.CX P w) outer P w H s Q E) s
section
variable {P : Program} {w : World} {K : PySem.W.Frag} {mg : Str → Option Value} {base : Heap}
theorem FnG.mono {j k : Nat} {f : Addr} {fd : FuncData} {ps : List Str} {sp : Sp} (F : FnG P w K mg base j f fd ps sp) (h : j ≤ k) : FnG P w K mg base k f fd ps sp :=
  ⟨F.len, fun A outer s H args us vs Q E g r => F.run A outer s H args us vs Q E g (r.mono h)⟩

/-- a def of the text: its body at the entry -/
theorem okG {x qual : Str} {st : Stmt} {f : Addr} {fd : FuncData} {N ps : List Str} {k : Nat} {sp : Sp} (F : Fun K x qual st f fd) (S : FnScope N ps (defScope st)) (len : ∀ vs H Q E, sp vs H Q E → vs.length = ps.length)
    (body : ∀ (cdv : Value) (A : Around) (outer : List PySem.Env) (s : Shared) (H : Hp) (vs : List V) (Q : VK) (E : XK), A.guards = some [] → Room k (A.deeper (envOfC qual (defScope st) s.heap.objs.size f cdv)) → sp vs H Q E →
      ∃ t, PSs (cxOf (L2.CX P w) P w K mg base N qual (defScope st) f cdv A outer s H E) (defBody st) t ∧ t { nx := fun _ H' => Q .non H', rt := Q } (start N vs) H) : FnG P w K mg base (k + 1) f fd ps sp := by
  obtain ⟨oc, od, kV, doc, pm, an, cdv, ct, osl, rfl, lk, hcd⟩ := F.ex
  refine ⟨len, fun A outer s H args us vs Q E hgd hr e0 hb r hsp => ?_⟩
  have hl := len _ _ _ _ hsp
  have KX : K.In s.heap := e0.mod.kin.keeps (fun b o e => (e0.bs b o e).1)
  have lim : s.heap.NoLimit := e0.mod.nolimit.keeps (fun b o e => (e0.bs b o e).1)
  have hk : ∀ y ∈ ps.zip us, (defScope st).names.lookup y.1 = some .local ∨ ((defScope st).names.lookup y.1 = some .cell ∧ ((cellsFrom (s.heap.objs.size + 1) (defScope st).names []).lookup y.1).isSome = true) := by
    intro ⟨n, v⟩ hy
    rcases S.par n (List.of_mem_zip hy).1 with q | q
    · left; exact q
    · right; exact ⟨q, PySem.W.cellsFrom_some _ _ _ (.inl q)⟩
  refine codeAny_call_function hr.depth (KX _ _ lk) rfl S.co S.gen rfl (PySem.W.codeRec_of KX hcd) (hb _ _ _ _ ?_)
  refine wpAny_newFunctionEnv_cells S.kind hk (fun env he s1 x => ?_)
  subst he
  refine ⟨lim.keeps x.toInCall.keep, codeAny_func ?_⟩
  obtain ⟨t, ht, hq⟩ := body cdv A outer s H vs Q E hgd (hr.deeper _) hsp
  have I : Inv (cxOf (L2.CX P w) P w K mg base N qual (defScope st) f cdv A outer s H E) [] (start N vs) H s1 := inv_start S hr.hd e0 hl r x
  refine wpAny_mono (ht.run [] s1 (start N vs) H _ I hq) (fun fl s' hs => ?_) (fun e s' hs => hs)
  cases fl with
  | ret u => obtain ⟨v, σ', H', J, rv, q⟩ := hs; exact ⟨v, H', J.os, J.bare, J.base, J.hok, rv, q⟩
  | next => obtain ⟨σ', H', J, q⟩ := hs; exact ⟨.non, H', J.os, J.bare, J.base, J.hok, rfl, q⟩
  | brk => obtain ⟨_, _, _, q⟩ := hs; exact q.elim
  | cont => obtain ⟨_, _, _, q⟩ := hs; exact q.elim
end

section
variable {X : Cx} {k : Nat} {f C : Addr} {fd : FuncData} {ps : List Str} {sp : Sp} {ds : List Value} {dvs : List V} {W : WX} {x m : Str} {p pos apos : Pos} {e o : Expr} {es : List Expr} {ta : TE} {t : TA}
theorem run_G {pins : List (Addr × Obj)} {σ : L2.St} {H : Hp} {s : Shared} {Q : VK} {us : List Value} {vs : List V} (F : FnG X.prog X.w X.K X.mg X.base k f fd ps sp) (hg : X.A.guards = some []) (hr : Room k X.A) (hb : Binds X.K fd ps ds) (hd : Vals dvs ds) (tk : Takes X W)
    (I : Inv X pins σ H s) (r : Vals vs us) (h : sp (vs ++ dvs) H Q (WE W σ)) : wpAny (model X.prog X.w) X.A (call (.ref f) us) (EP X pins σ Q) X.xe s := by
  have r2 : Vals (vs ++ dvs) (us ++ ds) := Vals.append r hd
  have hl : (us ++ ds).length = ps.length := Eq.trans r2.length.symm (F.len _ _ _ _ h)
  refine wpAny_call (codeAny_mono (F.run X.A X.stack s H ⟨us, []⟩ (us ++ ds) (vs ++ dvs) Q (WE W σ) hg hr I.env0 (hb s us I.kIn hl) r2 h) (fun r s' hq => ?_))
  match r, hq with
  | .error e, hq => exact passAt tk σ pins H s e s' I hq
  | .ok (.ret u), hq => exact I.after hq
  | .ok .next, hq => exact (False.elim hq)
  | .ok .brk, hq => exact (False.elim hq)
  | .ok .cont, hq => exact (False.elim hq)
/-- f(e, ..): the def at the module's name x -/
theorem pe_G (F : FnG X.prog X.w X.K X.mg X.base k f fd ps sp) (hgd : X.A.guards = some []) (hr : Room k X.A) (hg : Gl X x) (hm : X.mg x = some (.ref f)) (hk : PySem.W.keepIn X.K (.ref f) = true) (hb : Binds X.K fd ps ds) (hd : Vals dvs ds) (tk : Takes X W)
    (ha : PA X (e :: es) t) (hdb : (x == ("__debug__" : Str)) = false := by decide) (he : starEach (e :: es) X.env = (false, eval e X.env) :: starEach es X.env := by rfl) (hpl : (backTo pos (starEach es X.env)).any (·.1) = false := by rfl) :
    PE X (.Call (.Name x p) (e :: es) [] pos) (fun σ H Q => t σ H fun vs H1 => sp (vs ++ dvs) H1 Q (WE W σ)) := by
  refine ⟨fun pins s σ H Q I h => wpAny_Call_Name_kw (ld_glob I hg hm ?_ hdb)⟩
  exact PySem.W.callWith_K (h₀ := X.base) I.ok.mod.kin hk (thn (ha.run pos pins s σ H _ I h) fun us s1 ⟨vs, H1, I1, r, q⟩ => ⟨I1.kIn, run_G F hgd hr hb hd tk I1 r q⟩) he hpl
theorem pe_G0 (F : FnG X.prog X.w X.K X.mg X.base k f fd ps sp) (hgd : X.A.guards = some []) (hr : Room k X.A) (hg : Gl X x) (hm : X.mg x = some (.ref f)) (hk : PySem.W.keepIn X.K (.ref f) = true) (hb : Binds X.K fd ps ds) (hd : Vals dvs ds) (tk : Takes X W)
    (hdb : (x == ("__debug__" : Str)) = false := by decide) : PE X (.Call (.Name x p) [] [] pos) (fun σ H Q => sp dvs H Q (WE W σ)) := by
  refine ⟨fun pins s σ H Q I h => wpAny_Call_Name_kw (ld_glob I hg hm ?_ hdb)⟩
  exact PySem.W.callWith_K0 I.kIn hk (run_G (us := []) (vs := []) F hgd hr hb hd tk I .nil h)
end

/-- the law's own call, from its promise (as law_call, for FnG) -/
theorem callG {P : Program} {w : World} {K : PySem.W.Frag} {mg mb : Str → Option Value} {k : Nat} {fa a : Addr} {fd : FuncData} {x : Str} {sp : Sp} {s₁ : Shared} {vs : List Value} {ns : List Int}
    (KX : K.In s₁.heap) (hns : s₁.heap.Ns mainGlobals mg) (hb : s₁.heap.Ns builtinsNs mb) (hbb : ∀ x : Str, x ≠ "__name__" → mb x = bootBuiltins x) (hlim : s₁.heap.NoLimit) (hg : s₁.gens = #[])
    (ha : s₁.heap.get? a = some { cls := .type "list", data := .seq vs.toArray }) (hi : IntsAre vs ns) (hl : ns.length ≤ sizeLine) (hr : Room k callerA)
    (F : ∀ base : Heap, K.In base → base.Ns mainGlobals mg → FnG P w K mg base k fa fd [x] sp) (hbind : ∀ (s : Shared) (u : Value), BindsTo s fd ⟨[u], []⟩ [(x, u)])
    (hsp : ∀ H : Hp, Scr K io0 H a (ns.map V.int) → sp [.ref a] H (fun v _ => v = .bl true) fun _ _ _ => False) :
    codeAny (model P w) callerA (.call (.ref fa) ⟨[.ref a], []⟩) (fun r s' => r = .ok (.ret (.bool true)) ∧ OldK s₁.heap s'.heap ∧ s'.os = s₁.os ∧ AllBare s'.gens) s₁ := by
  have rv := vals_ints hi
  obtain ⟨oa, hoa⟩ : ∃ oa : Obj, oa = { cls := .type "list", data := .seq vs.toArray } := ⟨_, rfl⟩
  have core : ∀ H : Hp, (∀ b, b ≠ a → H b = none) → (H a = none ∨ (H a = some (.frz oa (.lst (ns.map V.int))) ∧ K.lookup a = none)) → Scr K io0 H a (ns.map V.int) →
      codeAny (model P w) callerA (.call (.ref fa) ⟨[.ref a], []⟩) (fun r s' => r = .ok (.ret (.bool true)) ∧ OldK s₁.heap s'.heap ∧ s'.os = s₁.os ∧ AllBare s'.gens) s₁ := by
    intro H h2 h1 hS
    have hok : HOk P w H s₁.heap := fun b u z => by
      by_cases hb : b = a
      · rcases h1 with h1 | ⟨h1, _⟩
        · rw [hb, h1] at z; cases z
        · rw [hb, h1] at z
          cases z
          rw [hb]
          refine ⟨by rw [hoa]; exact ha, by rw [List.length_map]; exact hl, vs, _, rv, ha⟩
      · rw [h2 b hb] at z; cases z
    have free : ∀ {b : Addr} {o : Obj}, s₁.heap.get? b = some o → (b = a → K.lookup a = none → False) → H b = none := fun {b o} e d => by
      by_cases hb : b = a
      · rcases h1 with h1 | ⟨_, h1⟩
        · rw [hb]; exact h1
        · exact (d hb h1).elim
      · exact h2 b hb
    have nsK : ∀ {b : Addr} {m : Str → Option Value}, s₁.heap.Ns b m → (hidT s₁.heap H).Ns b m := fun {b m} ⟨o, es, ep, e, d, r⟩ => ⟨o, es, ep, hidT_get e (free e fun hb _ => by
      rw [hb, ha] at e
      cases e
      cases (show Data.seq vs.toArray _ = Data.dict es ep from d)), d, r⟩
    have hKb : K.In (hidT s₁.heap H) := fun b o e => hidT_get (KX b o e) (free (KX b o e) fun hb hn => by rw [hb, hn] at e; cases e)
    have hM : Mod K mg (hidT s₁.heap H) := ⟨hKb, nsK hns, ⟨mb, nsK hb, hbb⟩, let ⟨mc, q1, q2⟩ := hlim; ⟨mc, nsK q1, q2⟩⟩
    have e0 : Env0 P w K mg (hidT s₁.heap H) callerA [] s₁ H := ⟨rfl, hM, fun b o e => of_hidT e, Nat.le_of_eq (hidT_size _ _), trivial, fun b hb => absurd (show b ∈ ([] : List Addr) from hb) (by simp), hok, .of_eq hg⟩
    refine codeAny_mono ((F _ hKb (nsK hns)).run callerA [] s₁ H ⟨[.ref a], []⟩ [.ref a] [.ref a] _ _ rfl hr e0 (hbind s₁ (.ref a)) (.cons rfl .nil) (hsp H hS)) (fun r s' h => ?_)
    match r, h with
    | .error e, h => obtain ⟨_, _, _, _, _, _, _, _, _, _, _, _, z⟩ := h; exact z.elim
    | .ok .next, h => exact (False.elim h)
    | .ok .brk, h => exact (False.elim h)
    | .ok .cont, h => exact (False.elim h)
    | .ok (.ret u), h =>
      obtain ⟨v, H', os, bare, un, hok', r', q⟩ := h
      have q' : v = .bl true := q
      subst q'
      obtain rfl : u = Value.bool true := r'
      refine ⟨rfl, OldK.of_keep fun b o e => ?_, os, bare⟩
      by_cases hb : b = a
      · rcases h1 with h1 | ⟨h1, _⟩
        · rw [hb] at e ⊢
          exact un.keep a o e h1 (by intro z; exact absurd (show a ∈ ([] : List Addr) from z) (by simp)) (by simp)
        · obtain ⟨e2, _⟩ := hok' b _ (un.frzs b oa _ (by rw [hb]; exact h1))
          rw [hb, ha] at e
          cases e
          rw [e2, hoa]
      · exact un.keep b o e (h2 b hb) (by intro z; exact absurd (show b ∈ ([] : List Addr) from z) (by simp)) (by simp)
  cases hk : K.lookup a with
  | some o =>
    have e := KX a o hk
    rw [ha] at e
    cases e
    exact core (fun _ => none) (fun _ _ => rfl) (.inl rfl) (.inr ⟨_, vs.toArray, _, hk, rfl, rfl, rfl, by rw [List.size_toArray, hi.length]; exact hl, by simpa using rv⟩)
  | none =>
    refine core (fun b => if b = a then some (.frz oa (.lst (ns.map V.int))) else none) (fun b hb => if_neg hb) (.inr ⟨if_pos rfl, hk⟩) (.inl ⟨(by rintro (z | z) <;> cases z), oa, if_pos rfl⟩)

/-- the goal that k_head leaves, from the law's promise -/
theorem walkG {l : PySem.W.OpenLaw} {n k : Nat} {q : Program} {loose : List Str} {XP : (Str → Option Value) → Heap → Prop} {YP : World → Heap → Prop} {d : DefRec} {K : Params → PySem.W.Frag} {sp : World → Sp} {x : Str}
    (hn : l.most = some n) (hn2 : n ≤ sizeLine) (hdf : d.params.defaults = []) (hr : Room k callerA)
    (hY : ∀ (w : World) (h : Heap), YP w h → (K w.params).In h)
    (F : ∀ (w : World) (mg : Str → Option Value) (fa : Addr) (h : Heap), (K w.params).In h → h.Ns mainGlobals mg → mg d.name = some (.ref fa) →
      (∃ fd : FuncData, (∀ (s : Shared) (u : Value), BindsTo s fd ⟨[u], []⟩ [(x, u)]) ∧
        ∀ base : Heap, (K w.params).In base → base.Ns mainGlobals mg → FnG l.prog w (K w.params) mg base k fa fd [x] (sp w)) ∧
      ∀ (H : Hp) (a : Addr) (ns : List Int), ns.length ≤ n → Scr (K w.params) io0 H a (ns.map V.int) → sp w [.ref a] H (fun v _ => v = .bl true) fun _ _ _ => False) :
    PySem.W.WalkO q loose XP YP l.row.toRowW d [] (fun f vs => PySem.call f vs) := by
  refine Att.attach_call hn hdf fun w s₀ s₁ mg mb fa o pm cd doc a vs ns G Y ho hd hcd hmg hobj hints hlen hg => ?_
  have KX := hY w _ Y
  obtain ⟨⟨fd, hb, hF⟩, hsp⟩ := F w mg fa _ KX G.T.g hmg
  exact callG KX G.T.g G.T.b G.T.builtins G.T.nolimit hg hobj hints (Nat.le_trans hlen hn2) hr hF hb (fun H hS => hsp H a ns hlen hS)
end DV

set_option Elab.async false
set_option linter.all false
set_option maxRecDepth 100000
/-! DvC: results, what they ask of the heap, the judgements by data, names, constants, displays, and / or / not / if. -/
namespace DV
open PySem PySem.Spec PyProof.Rows L2

inductive R (α : Type) where
  | ok (a : α) (A : Hd) | err (c : Cl) (fs : List (Str × D)) (A : Hd) | stk
def R.bind {α β : Type} (r : R α) (k : α → Hd → R β) : R β := match r with
  | .ok a A => k a A
  | .err c fs A => .err c fs A
  | .stk => .stk
@[simp] theorem R.bind_ok {α β : Type} (a : α) (A : Hd) (k : α → Hd → R β) : (R.ok a A).bind k = k a A := rfl
@[simp] theorem R.bind_err {α β : Type} (c : Cl) (fs : List (Str × D)) (A : Hd) (k : α → Hd → R β) : (R.err c fs A : R α).bind k = .err c fs A := rfl
@[simp] theorem R.bind_stk {α β : Type} (k : α → Hd → R β) : (R.stk : R α).bind k = .stk := rfl
theorem R.bind_assoc {α β γ : Type} (r : R α) (k : α → Hd → R β) (l : β → Hd → R γ) : (r.bind k).bind l = r.bind fun a A => (k a A).bind l := by
  cases r <;> rfl

abbrev EF := Env → Hd → R D
abbrev TF := Env → Hd → R Bool
abbrev AF := Env → Hd → R (List D)

def ClV (ct : String → Addr) : Cl → Value
  | .own n => .ref (ct n)
  | .bi n => .type n
/-- an exception in the air -/
structure XR (K : PySem.W.Frag) (ct : String → Addr) (io : Io) (H : Hp) (c : Cl) (fs : List (Str × D)) (cls : Value) (dd : Option Addr) : Prop where
  cls : cls = ClV ct c
  fds : fs = [] ∨ ∃ p gs, dd = some p ∧ p ∉ io ∧ H p = some (.xd gs) ∧ gs.map (·.1) = fs.map (·.1) ∧ DRs K ct io H (gs.map (·.2)) (fs.map (·.2))

section
variable (K : PySem.W.Frag) (ct : String → Addr)
/-- what a result asks -/
def Post {α β : Type} (rep : Io → Hp → β → α → Prop) (W : WX) (σ : L2.St) (io : Io) (H : Hp) (r : R α) (Q : β → Hp → Prop) : Prop := match r with
  | .ok a A => ∀ b io' H', Ext io H io' H' → HR K ct io' H' A → rep io' H' b a → Q b H'
  | .err c fs A => ∀ cls dd io' H', Ext io H io' H' → HR K ct io' H' A → XR K ct io' H' c fs cls dd → W cls dd σ H'
  | .stk => False
abbrev repB : Io → Hp → Bool → Bool → Prop := fun _ _ b a => b = a
/-- a state -/
structure Sta (ro : Env) (A : Hd) (io : Io) (σ : L2.St) (H : Hp) : Prop where
  hr : HR K ct io H A
  env : EnvR K ct io H ro σ
def tD (W : WX) (f : EF) : TE := fun σ H Q => ∃ io A ro, Sta K ct ro A io σ H ∧ Post K ct (DR K ct) W σ io H (f ro A) Q
def tT (W : WX) (f : TF) : TT := fun σ H Q => ∃ io A ro, Sta K ct ro A io σ H ∧ Post K ct repB W σ io H (f ro A) Q
def tL (W : WX) (f : AF) : TA := fun σ H Q => ∃ io A ro, Sta K ct ro A io σ H ∧ Post K ct (DRs K ct) W σ io H (f ro A) Q
end

section
variable {K : PySem.W.Frag} {ct : String → Addr} {W : WX} {σ : L2.St} {io io' : Io} {H H' : Hp} {A A' : Hd} {ro : Env}
theorem Post.mono {α β : Type} {rep : Io → Hp → β → α → Prop} {r : R α} {Q Q' : β → Hp → Prop} (h : Post K ct rep W σ io H r Q) (m : ∀ b H', Q b H' → Q' b H') : Post K ct rep W σ io H r Q' := by
  cases r with
  | ok a A => exact fun b io' H' e h1 r => m _ _ (h b io' H' e h1 r)
  | err c fs A => exact h
  | stk => exact h
theorem Post.ext {α β : Type} {rep : Io → Hp → β → α → Prop} {r : R α} {Q : β → Hp → Prop} (e : Ext io H io' H') (h : Post K ct rep W σ io H r Q) : Post K ct rep W σ io' H' r Q := by
  cases r with
  | ok a A => exact fun b io2 H2 e2 h1 r => h b io2 H2 (e.trans e2) h1 r
  | err c fs A => exact fun cls dd io2 H2 e2 h1 r => h cls dd io2 H2 (e.trans e2) h1 r
  | stk => exact h
theorem Post.bind {α β γ δ : Type} {rep : Io → Hp → β → α → Prop} {rep2 : Io → Hp → δ → γ → Prop} {r : R α} {k : α → Hd → R γ} {Q : δ → Hp → Prop} (h : Post K ct rep2 W σ io H (r.bind k) Q) :
    Post K ct rep W σ io H r (fun b H1 => ∃ io1 A1 a, Ext io H io1 H1 ∧ HR K ct io1 H1 A1 ∧ rep io1 H1 b a ∧ Post K ct rep2 W σ io1 H1 (k a A1) Q) := by
  cases r with
  | ok a A => exact fun b io1 H1 e h1 r => ⟨io1, A, a, e, h1, r, Post.ext e h⟩
  | err c fs A => exact h
  | stk => exact h
theorem Sta.mono (s : Sta K ct ro A io σ H) (e : Ext io H io' H') (h : HR K ct io' H' A') : Sta K ct ro A' io' σ H' := ⟨h, s.env.mono e s.hr.noT⟩
/-- a value that stands already -/
theorem Post.here {α β : Type} {rep : Io → Hp → β → α → Prop} {a : α} {b : β} {Q : β → Hp → Prop} (h : Post K ct rep W σ io H (.ok a A) Q) (hr : HR K ct io H A) (r : rep io H b a) : Q b H := h b io H Ext.refl hr r
/-- a new object -/
theorem Post.new {d : D} {p : Addr} {o : HO} {Q : VK} (h : Post K ct (DR K ct) W σ io H (.ok d A) Q) (hr : HR K ct io H A) (n : H p = none) (r : DR K ct io (upd H p o) (.ref p) d) : Q (.ref p) (upd H p o) :=
  h _ io _ (Ext.laid n) (hr.laid n) r
theorem DRs.laid {vs : List V} {ds : List D} {p : Addr} {o : HO} (h : DRs K ct io H vs ds) (hr : HR K ct io H A) (n : H p = none) : DRs K ct io (upd H p o) vs ds := h.mono (Ext.laid n) hr.noT
theorem DR.laid {v : V} {d : D} {p : Addr} {o : HO} (h : DR K ct io H v d) (hr : HR K ct io H A) (n : H p = none) : DR K ct io (upd H p o) v d := h.mono (Ext.laid n) hr.noT
theorem DR.newLst {vs : List V} {ds : List D} {p : Addr} (hr : HR K ct io H A) (n : H p = none) (h : DRs K ct io H vs ds) : DR K ct io (upd H p (.lst vs)) (.ref p) (.lst ds) := .lst (hr.ne n) upd_same (h.laid hr n)
theorem DR.newTup {vs : List V} {ds : List D} {p : Addr} {o : Obj} (hr : HR K ct io H A) (n : H p = none) (ho : o.dict = none) (h : DRs K ct io H vs ds) : DR K ct io (upd H p (.frz o (.tup vs))) (.ref p) (.tup ds) := .tup (.inl ⟨o, upd_same, ho⟩) (h.laid hr n)
end

/-! ### judgements -/
section
variable (X : Cx) (ct : String → Addr) (W : WX)
abbrev PD (e : Expr) (f : EF) : Prop := PE X e (tD X.K ct W f)
abbrev PDt (e : Expr) (f : TF) : Prop := PT X e (tT X.K ct W f)
abbrev PDw (e : Expr) (f : TF) : Prop := PW X e (tT X.K ct W f)
abbrev PDa (es : List Expr) (f : AF) : Prop := PA X es (tL X.K ct W f)
end
theorem pe_mono {X : Cx} {e : Expr} {t t' : TE} (h : PE X e t) (m : ∀ σ H Q, t' σ H Q → t σ H Q) : PE X e t' := ⟨fun pins s σ H Q I q => h.run pins s σ H Q I (m _ _ _ q)⟩
theorem pt_mono {X : Cx} {e : Expr} {t t' : TT} (h : PT X e t) (m : ∀ σ H Q, t' σ H Q → t σ H Q) : PT X e t' := ⟨fun pins s σ H Q I q => h.run pins s σ H Q I (m _ _ _ q)⟩
theorem pw_mono {X : Cx} {e : Expr} {t t' : TT} (h : PW X e t) (m : ∀ σ H Q, t' σ H Q → t σ H Q) : PW X e t' := ⟨fun wh pins s σ H Q I q => h.run wh pins s σ H Q I (m _ _ _ q)⟩
theorem pa_mono {X : Cx} {e : List Expr} {t t' : TA} (h : PA X e t) (m : ∀ σ H Q, t' σ H Q → t σ H Q) : PA X e t' := ⟨fun pos pins s σ H Q I q => h.run pos pins s σ H Q I (m _ _ _ q)⟩

/-! ### combinators -/
def eVar (i : Nat) : EF := fun ro A => match ro[i]? with
  | some (some d) => .ok d A
  | _ => .stk
def eC (d : D) : EF := fun _ A => .ok d A
def eBin (g : D → D → Hd → R D) (a b : EF) : EF := fun ro A => (a ro A).bind fun d A1 => (b ro A1).bind fun e A2 => g d e A2
def eUn (g : D → Hd → R D) (a : EF) : EF := fun ro A => (a ro A).bind fun d A1 => g d A1
def aNil : AF := fun _ A => .ok [] A
def aCons (a : EF) (b : AF) : AF := fun ro A => (a ro A).bind fun d A1 => (b ro A1).bind fun ds A2 => .ok (d :: ds) A2
def eArgs (g : List D → Hd → R D) (a : AF) : EF := fun ro A => (a ro A).bind fun ds A1 => g ds A1
def gTupD (ds : List D) (A : Hd) : R D := if ds.length ≤ sizeLine then .ok (.tup ds) A else .stk
def gLstD (ds : List D) (A : Hd) : R D := if ds.length ≤ sizeLine then .ok (.lst ds) A else .stk
/-- a list that will change: it gets a number -/
def gLstM (ds : List D) (A : Hd) : R D := if ds.length ≤ sizeLine then .ok (.ref A.length) (A ++ [.lst ds]) else .stk

/-- a value's truth -/
def truD (d : D) (A : Hd) : Option Bool := match d with
  | .non => some false
  | .bl b => some b
  | .int i => some (i != 0)
  | .str y => if y.length ≤ sizeLine then some (y.length != 0) else none
  | .tup ds => some (!ds.isEmpty)
  | .lst ds => some (!ds.isEmpty)
  | .scr ds => some (!ds.isEmpty)
  | .dic es => some (!es.isEmpty)
  | .ref n => match A[n]? with
    | some (.lst ds) => some (!ds.isEmpty)
    | some (.dic es) => some (!es.isEmpty)
    | _ => none
  | .cls _ => none
def gTru (d : D) (A : Hd) : R Bool := match truD d A with
  | some b => .ok b A
  | none => .stk
/-- a bool's truth, as a test -/
def gBool (d : D) (A : Hd) : R Bool := match d with
  | .bl b => .ok b A
  | _ => .stk
def tOfE (a : EF) : TF := fun ro A => (a ro A).bind gTru
def tAndD (a b : TF) : TF := fun ro A => (a ro A).bind fun c A1 => if c then b ro A1 else .ok false A1
def tOrD (a b : TF) : TF := fun ro A => (a ro A).bind fun c A1 => if c then .ok true A1 else b ro A1
def tNotD (a : TF) : TF := fun ro A => (a ro A).bind fun c A1 => .ok (!c) A1
def eAndD (a b : EF) : EF := fun ro A => (a ro A).bind fun d A1 => (gTru d A1).bind fun c A2 => if c then b ro A2 else .ok d A2
def eOrD (a b : EF) : EF := fun ro A => (a ro A).bind fun d A1 => (gTru d A1).bind fun c A2 => if c then .ok d A2 else b ro A2
def eNotD (a : EF) : EF := fun ro A => (a ro A).bind fun d A1 => (gTru d A1).bind fun c A2 => .ok (.bl (!c)) A2
def eIf (c : TF) (a b : EF) : EF := fun ro A => (c ro A).bind fun k A1 => if k then a ro A1 else b ro A1

section
variable {X : Cx} {ct : String → Addr} {W : WX} {e a b : Expr} {pos : Pos} {fa fb : EF} {ft fu : TF}
theorem pd_var (i : Nat) {x : Str} (hN : X.N[i]? = some x := by rfl) (hv : Vis X.env.scope x := by first | exact Or.inl rfl | exact Or.inr (Or.inl rfl) | exact Or.inr (Or.inr rfl)) (hd : (x == ("__debug__" : Str)) = false := by decide)
    (hcd : (x == ("__classdict__" : Str)) = false := by decide) : PD X ct W (.Name x pos) (eVar i) :=
  pe_mono (pe_var hN hv hd hcd) fun σ H Q ⟨io, A, ro, s, p⟩ => by
    unfold eVar at p
    split at p
    · rename_i d q
      obtain ⟨v, e1, r⟩ := s.env.at_ i d q
      exact ⟨v, e1, p.here s.hr r⟩
    · exact p.elim
theorem pd_c {v : V} {d : D} (h : PE X e (tC v)) (r : ∀ io H, DR X.K ct io H v d) : PD X ct W e (eC d) :=
  pe_mono h fun σ H Q ⟨io, A, ro, s, p⟩ => p.here s.hr (r io H)
theorem pd_int {i j} : PD X ct W (.Constant (.int i) j pos) (eC (.int i)) := pd_c pe_int fun _ _ => .int i
theorem pd_bl {b j} : PD X ct W (.Constant (.bool b) j pos) (eC (.bl b)) := pd_c pe_bl fun _ _ => .bl b
theorem pd_non {j} : PD X ct W (.Constant .none j pos) (eC .non) := pd_c pe_non fun _ _ => .non
theorem pd_str {x j} : PD X ct W (.Constant (.str x) j pos) (eC (.str x)) := pd_c pe_str fun _ _ => .str x

/-- what a rule by values wants, from a function on data -/
def OpD (K : PySem.W.Frag) (ct : String → Addr) (r : R2) (g : D → D → Hd → R D) : Prop := ∀ (W : WX) σ io H A x y d e Q, HR K ct io H A → DR K ct io H x d → DR K ct io H y e → Post K ct (DR K ct) W σ io H (g d e A) Q → r x y H Q
def UnD (K : PySem.W.Frag) (ct : String → Addr) (r : V → Hp → VK → Prop) (g : D → Hd → R D) : Prop := ∀ (W : WX) σ io H A x d Q, HR K ct io H A → DR K ct io H x d → Post K ct (DR K ct) W σ io H (g d A) Q → r x H Q
def CaD (K : PySem.W.Frag) (ct : String → Addr) (r : List V → Hp → VK → Prop) (g : List D → Hd → R D) : Prop := ∀ (W : WX) σ io H A xs ds Q, HR K ct io H A → DRs K ct io H xs ds → Post K ct (DR K ct) W σ io H (g ds A) Q → r xs H Q

theorem tOp_D {K : PySem.W.Frag} {r : R2} {g : D → D → Hd → R D} (o : OpD K ct r g) {σ : L2.St} {H : Hp} {Q : VK} (h : tD K ct W (eBin g fa fb) σ H Q) : tOp r (tD K ct W fa) (tD K ct W fb) σ H Q := by
  obtain ⟨io, A, ro, s, p⟩ := h
  refine ⟨io, A, ro, s, (p.bind (rep := DR K ct)).mono ?_⟩
  rintro v H1 ⟨io1, A1, d, e1, h1, r1, p1⟩
  refine ⟨io1, A1, ro, s.mono e1 h1, (p1.bind (rep := DR K ct)).mono ?_⟩
  rintro w H2 ⟨io2, A2, d2, e2, h2, r2, p2⟩
  exact o W σ io2 H2 A2 v w d d2 Q h2 (r1.mono e2 h1.noT) r2 p2
theorem tUn_D {K : PySem.W.Frag} {r : V → Hp → VK → Prop} {g : D → Hd → R D} (o : UnD K ct r g) {σ : L2.St} {H : Hp} {Q : VK} (h : tD K ct W (eUn g fa) σ H Q) : tUn r (tD K ct W fa) σ H Q := by
  obtain ⟨io, A, ro, s, p⟩ := h
  refine ⟨io, A, ro, s, (p.bind (rep := DR K ct)).mono ?_⟩
  rintro v H1 ⟨io1, A1, d, e1, h1, r1, p1⟩
  exact o W σ io1 H1 A1 v d Q h1 r1 p1
theorem tCB_D {K : PySem.W.Frag} {r : List V → Hp → VK → Prop} {g : List D → Hd → R D} (o : CaD K ct r g) {fl : AF} {σ : L2.St} {H : Hp} {Q : VK} (h : tD K ct W (eArgs g fl) σ H Q) : tCB r (tL K ct W fl) σ H Q := by
  obtain ⟨io, A, ro, s, p⟩ := h
  refine ⟨io, A, ro, s, (p.bind (rep := DRs K ct)).mono ?_⟩
  rintro v H1 ⟨io1, A1, d, e1, h1, r1, p1⟩
  exact o W σ io1 H1 A1 v d Q h1 r1 p1

theorem pd_op {op : Operator} {r : R2} {g : D → D → Hd → R D} (ho : OpR X (binaryOp op) r) (o : OpD X.K ct r g) (ha : PD X ct W a fa) (hb : PD X ct W b fb) : PD X ct W (.BinOp a op b pos) (eBin g fa fb) :=
  pe_mono (pe_op ho ha hb) fun _ _ _ h => tOp_D o h
theorem pd_cmp {op : CmpOp} {r : R2} {g : D → D → Hd → R D} (ho : OpR X (compareOp op) r) (o : OpD X.K ct r g) (ha : PD X ct W a fa) (hb : PD X ct W b fb) (hm : behindInMarks op b = false) : PD X ct W (.Compare a [op] [b] pos) (eBin g fa fb) :=
  pe_mono (pe_cmpR ho ha hb hm) fun _ _ _ h => tOp_D o h
theorem pd_un {op : UnaryOp} {r : V → Hp → VK → Prop} {g : D → Hd → R D} (ho : UnR X (unaryOp op) r) (o : UnD X.K ct r g) (ha : PD X ct W a fa) : PD X ct W (.UnaryOp op a pos) (eUn g fa) :=
  pe_mono (pe_un ho ha) fun _ _ _ h => tUn_D o h
theorem pd_ix {r : R2} {g : D → D → Hd → R D} (ho : IxR X r) (o : OpD X.K ct r g) (ha : PD X ct W a fa) (hb : PD X ct W b fb) (hs : PlainIx b) : PD X ct W (.Subscript a b pos) (eBin g fa fb) :=
  pe_mono (pe_ix ho ha hb hs) fun _ _ _ h => tOp_D o h
theorem pd_callB {x : Str} {p : Pos} {es : List Expr} {fl : AF} {id : String} {r : List V → Hp → VK → Prop} {g : List D → Hd → R D} (hc : CallR X (.builtin id) r) (o : CaD X.K ct r g) (hg : Gl X x) (hm : X.mg x = none) (hv : bootBuiltins x = some (.builtin id)) (ha : PDa X ct W (e :: es) fl)
    (hn : x ≠ "__name__" := by decide) (hdb : (x == ("__debug__" : Str)) = false := by decide) (he : starEach (e :: es) X.env = (false, eval e X.env) :: starEach es X.env := by rfl) (hpl : (backTo pos (starEach es X.env)).any (·.1) = false := by rfl) :
    PD X ct W (.Call (.Name x p) (e :: es) [] pos) (eArgs g fl) := pe_mono (pe_callB hc hg hm hv ha hn hdb he hpl) fun _ _ _ h => tCB_D o h
theorem pd_callTy {x : Str} {p : Pos} {es : List Expr} {fl : AF} {T : String} {r : List V → Hp → VK → Prop} {g : List D → Hd → R D} (hc : CallR X (.type T) r) (o : CaD X.K ct r g) (hg : Gl X x) (hm : X.mg x = none) (hv : bootBuiltins x = some (.type T)) (ha : PDa X ct W (e :: es) fl)
    (hn : x ≠ "__name__" := by decide) (hdb : (x == ("__debug__" : Str)) = false := by decide) (he : starEach (e :: es) X.env = (false, eval e X.env) :: starEach es X.env := by rfl) (hpl : (backTo pos (starEach es X.env)).any (·.1) = false := by rfl) :
    PD X ct W (.Call (.Name x p) (e :: es) [] pos) (eArgs g fl) := pe_mono (pe_callTy hc hg hm hv ha hn hdb he hpl) fun _ _ _ h => tCB_D o h

theorem pda_nil : PDa X ct W [] aNil := pa_mono pa_nil fun σ H Q ⟨io, A, ro, s, p⟩ => p.here s.hr .nil
theorem pda_cons {es : List Expr} {fl : AF} (ha : PD X ct W e fa) (hl : PDa X ct W es fl) (he : starEach (e :: es) X.env = (false, eval e X.env) :: starEach es X.env := by rfl) : PDa X ct W (e :: es) (aCons fa fl) :=
  pa_mono (pa_cons ha hl he) fun σ H Q ⟨io, A, ro, s, p⟩ => by
    refine ⟨io, A, ro, s, (p.bind (rep := DR X.K ct)).mono ?_⟩
    rintro v H1 ⟨io1, A1, d, e1, h1, r1, p1⟩
    refine ⟨io1, A1, ro, s.mono e1 h1, (p1.bind (rep := DRs X.K ct)).mono ?_⟩
    rintro w H2 ⟨io2, A2, d2, e2, h2, r2, p2⟩
    exact p2.here h2 (.cons (r1.mono e2 h1.noT) r2)
def tTupF (t : TA) : TE := fun σ H Q => t σ H fun xs H1 => xs.length ≤ sizeLine ∧ ∀ (p : Addr) (o : Obj), o.dict = none → H1 p = none → Q (.ref p) (upd H1 p (.frz o (.tup xs)))
theorem pe_tupF {es : List Expr} {k : Nat} {t : TA} (h : PA X es t) : PE X (.Tuple es k pos) (tTupF t) := by
  refine ⟨fun pins s σ H Q I hq => ?_⟩
  refine wpAny_Tuple_spliced (thn (h.run pos pins s σ H _ I hq) fun us s1 ⟨xs, H1, I1, r, z, q⟩ => ⟨by rw [← r.length]; exact z, ?_⟩)
  have nn : H1 s1.heap.objs.size = none := I1.hok.fresh (Nat.le_refl _)
  have get : (s1.heap.push ({ cls := .type "tuple", data := .seq us.toArray } : Obj)).get? s1.heap.objs.size = some { cls := .type "tuple", data := .seq us.toArray } := Heap.get?_push_size _ rfl
  exact ⟨.ref s1.heap.objs.size, _, I1.laid (t' := s1.toks) (o := .frz { cls := .type "tuple", data := .seq us.toArray } (.tup xs)) (fun b u e => Heap.get?_push_of_some _ e) (Nat.le_refl _) ⟨get, z, us, r, ⟨_, get, rfl, _, rfl⟩⟩, rfl, q _ _ rfl nn⟩
theorem pd_tup {es : List Expr} {k : Nat} {fl : AF} (h : PDa X ct W es fl) : PD X ct W (.Tuple es k pos) (eArgs gTupD fl) :=
  pe_mono (pe_tupF h) fun σ H Q ⟨io, A, ro, s, p⟩ => by
    refine ⟨io, A, ro, s, (p.bind (rep := DRs X.K ct)).mono ?_⟩
    rintro v H1 ⟨io1, A1, d, e1, h1, r1, p1⟩
    unfold gTupD at p1
    split at p1
    · rename_i hz
      exact ⟨by rw [r1.length]; exact hz, fun q o ho hq => p1.new h1 hq (.newTup h1 hq ho r1)⟩
    · exact p1.elim
theorem pd_lst {es : List Expr} {fl : AF} (h : PDa X ct W es fl) : PD X ct W (.List es pos) (eArgs gLstD fl) :=
  pe_mono (pe_lst h) fun σ H Q ⟨io, A, ro, s, p⟩ => by
    refine ⟨io, A, ro, s, (p.bind (rep := DRs X.K ct)).mono ?_⟩
    rintro v H1 ⟨io1, A1, d, e1, h1, r1, p1⟩
    unfold gLstD at p1
    split at p1
    · rename_i hz
      exact ⟨by rw [r1.length]; exact hz, fun q hq => p1.new h1 hq (.newLst h1 hq r1)⟩
    · exact p1.elim

/-! ### a new numbered object -/
theorem Ext.num {io : Io} {H : Hp} {p : Addr} {o : HO} (n : H p = none) : Ext io H (io.add p) (upd H p o) := by
  refine ⟨⟨[p], rfl⟩, fun _ h => h, fun _ h => .inl h, fun b h k => ?_, fun b x e k => ?_, fun b x e => ⟨x, ?_⟩⟩
  · rcases List.mem_append.mp h with h | h
    · exact absurd h k
    · rw [List.mem_singleton.mp h]; exact n
  · rw [upd_ne (ne_of_none e n)]; exact e
  · rw [upd_ne (ne_of_none e n)]; exact e
theorem HR.num {K : PySem.W.Frag} {io : Io} {H : Hp} {A : Hd} {p : Addr} {o : HO} {m : M} (h : HR K ct io H A) (n : H p = none) (hm : MR K ct (io.add p) (upd H p o) p m) : HR K ct (io.add p) (upd H p o) (A ++ [m]) := by
  refine ⟨?_, by show (io.nm ++ [p]).length = _; rw [List.length_append, List.length_append, h.len]; rfl, fun k a m' e1 e2 => ?_, fun a ha => ?_⟩
  · show (io.nm ++ [p]).Nodup
    rw [List.nodup_append]
    refine ⟨h.nd, (by simp), fun a ha b hb => ?_⟩
    rw [List.mem_singleton.mp hb]
    rintro rfl
    exact h.ne n (.inl ha)
  · have e1 : (io.nm ++ [p])[k]? = some a := e1
    by_cases hk : k < io.nm.length
    · rw [List.getElem?_append_left hk] at e1
      rw [List.getElem?_append_left (by rw [← h.len]; exact hk)] at e2
      exact (h.at_ k a m' e1 e2).mono (Ext.num n) h.noT fun o' e => by rw [upd_ne (ne_of_none e n)]; exact e
    · rw [List.getElem?_append_right (by omega)] at e1
      rw [List.getElem?_append_right (by rw [← h.len]; omega)] at e2
      have l1 := (List.getElem?_eq_some_iff.mp e1).1
      have hk0 : k - io.nm.length = 0 := by simpa using l1
      have hk1 : k - A.length = 0 := by rw [← h.len]; exact hk0
      rw [hk0] at e1
      rw [hk1] at e2
      cases e1
      cases e2
      exact hm
  · obtain ⟨h1, xs, h2⟩ := h.hid a ha
    have hp : a ≠ p := ne_of_none h2 n
    refine ⟨fun z => ?_, xs, by rw [upd_ne hp]; exact h2⟩
    rcases List.mem_append.mp z with z | z
    · exact h1 z
    · exact hp (List.mem_singleton.mp z)
theorem pd_lstM {es : List Expr} {fl : AF} (h : PDa X ct W es fl) : PD X ct W (.List es pos) (eArgs gLstM fl) :=
  pe_mono (pe_lst h) fun σ H Q ⟨io, A, ro, s, p⟩ => by
    refine ⟨io, A, ro, s, (p.bind (rep := DRs X.K ct)).mono ?_⟩
    rintro v H1 ⟨io1, A1, d, e1, h1, r1, p1⟩
    unfold gLstM at p1
    split at p1
    · rename_i hz
      refine ⟨by rw [r1.length]; exact hz, fun q hq => ?_⟩
      refine p1 _ (io1.add q) _ (Ext.num hq) (h1.num hq ⟨_, upd_same, r1.mono (Ext.num hq) h1.noT⟩) (.ref ?_)
      show (io1.nm ++ [q])[A1.length]? = some q
      rw [← h1.len]
      simp
    · exact p1.elim

/-! ### truth, and, or, not, if -/
theorem tru_D {K : PySem.W.Frag} {io : Io} {H : Hp} {A : Hd} {v : V} {d : D} {b : Bool} (h : HR K ct io H A) (r : DR K ct io H v d) (e : truD d A = some b) : TruV K v H b := by
  cases r with
  | non => cases e; rfl
  | bl c => cases e; rfl
  | int i => cases e; rfl
  | str x =>
    unfold truD at e
    dsimp only at e
    split at e
    · rename_i hz
      cases e
      refine ⟨hz, ?_⟩
      cases hx : x.length with
      | zero => rfl
      | succ n => rfl
    · cases e
  | tup q rs => cases e; exact .inr (.inl ⟨_, q.sq, by rw [rs.isEmpty]⟩)
  | lst n q rs => cases e; exact .inl ⟨_, SqL.of q, by rw [rs.isEmpty]⟩
  | scr q rs => cases e; exact .inl ⟨_, q.sq, by rw [rs.isEmpty]⟩
  | dic n q k rs => cases e; exact .inr (.inr ⟨_, q, by rw [keys_isEmpty k]⟩)
  | ref q =>
    obtain ⟨m, hm⟩ := h.has q
    have mr := h.get q hm
    unfold truD at e
    dsimp only at e
    rw [hm] at e
    cases m with
    | lst ds => cases e; obtain ⟨xs, q1, rs⟩ := mr; exact .inl ⟨_, SqL.of q1, by rw [rs.isEmpty]⟩
    | dic es => cases e; obtain ⟨kvs, q1, k, rs⟩ := mr; exact .inr (.inr ⟨_, q1, by rw [keys_isEmpty k]⟩)
    | ins c fs => cases e
  | ty n => cases e
  | own n => cases e
theorem gTru_ok {d : D} {A A1 : Hd} {c : Bool} (e : gTru d A = .ok c A1) : truD d A = some c ∧ A1 = A := by
  unfold gTru at e
  cases h : truD d A with
  | none => rw [h] at e; cases e
  | some b => rw [h] at e; cases e; exact ⟨rfl, rfl⟩
theorem gTru_post {α β : Type} {rep : Io → Hp → β → α → Prop} {K : PySem.W.Frag} {σ : L2.St} {io : Io} {H : Hp} {A : Hd} {d : D} {k : Bool → Hd → R α} {Q : β → Hp → Prop} (p : Post K ct rep W σ io H ((gTru d A).bind k) Q) :
    ∃ c, truD d A = some c ∧ Post K ct rep W σ io H (k c A) Q := by
  unfold gTru at p
  cases h : truD d A with
  | none => rw [h] at p; exact p.elim
  | some b => rw [h] at p; exact ⟨b, rfl, p⟩

theorem pdt_truth (h : PD X ct W e fa) (he : ∀ whole, isTrue e X.env whole = (do let v ← whole; standAt e.pos; holding [v] (truthy v)) := by intro _; rfl) : PDt X ct W e (tOfE fa) :=
  pt_mono (pt_truth h he) fun σ H Q ⟨io, A, ro, s, p⟩ => by
    refine ⟨io, A, ro, s, (p.bind (rep := DR X.K ct)).mono ?_⟩
    rintro v H1 ⟨io1, A1, d, e1, h1, r1, p1⟩
    rw [show gTru d A1 = (gTru d A1).bind (fun c A => .ok c A) by cases gTru d A1 <;> rfl] at p1
    obtain ⟨c, hc, p2⟩ := gTru_post p1
    exact ⟨c, tru_D h1 r1 hc, p2.here h1 rfl⟩
theorem pt_of_pe {t : TE} (he : PT X e (tTest t)) {f : EF} (m : ∀ σ H Q, tD X.K ct W f σ H Q → t σ H Q) : PDt X ct W e (fun ro A => (f ro A).bind gBool) :=
  pt_mono he fun σ H Q ⟨io, A, ro, s, p⟩ => m _ _ _ ⟨io, A, ro, s, (p.bind (rep := DR X.K ct)).mono fun v H1 ⟨io1, A1, d, e1, h1, r1, p1⟩ => by
    cases r1 with
    | bl c => exact ⟨c, rfl, p1.here h1 rfl⟩
    | _ => exact p1.elim⟩
def tCmpD (g : D → D → Hd → R D) (a b : EF) : TF := fun ro A => (eBin g a b ro A).bind gBool
theorem pdt_cmp {op : CmpOp} {r : R2} {g : D → D → Hd → R D} (ho : OpR X (compareOp op) r) (o : OpD X.K ct r g) (ha : PD X ct W a fa) (hb : PD X ct W b fb) (hm : behindInMarks op b = false) : PDt X ct W (.Compare a [op] [b] pos) (tCmpD g fa fb) :=
  pt_of_pe (pt_cmpR ho ha hb hm) fun _ _ _ h => tOp_D o h
/-- a < b < c -/
def eChain (g g' : D → D → Hd → R D) (a b c : EF) : EF := fun ro A => (a ro A).bind fun x A1 => (b ro A1).bind fun y A2 => (g x y A2).bind fun z A3 => (gBool z A3).bind fun k A4 =>
  if k then (c ro A4).bind fun w A5 => g' y w A5 else .ok (.bl false) A4
theorem chain_D {K : PySem.W.Frag} {r r' : R2} {g g' : D → D → Hd → R D} (o : OpD K ct r g) (o' : OpD K ct r' g') {fc : EF} {σ : L2.St} {H : Hp} {Q : VK} (h : tD K ct W (eChain g g' fa fb fc) σ H Q) : tChain r r' (tD K ct W fa) (tD K ct W fb) (tD K ct W fc) σ H Q := by
  obtain ⟨io, A, ro, s, p⟩ := h
  refine ⟨io, A, ro, s, (p.bind (rep := DR K ct)).mono ?_⟩
  rintro v H1 ⟨io1, A1, d, e1, h1, r1, p1⟩
  refine ⟨io1, A1, ro, s.mono e1 h1, (p1.bind (rep := DR K ct)).mono ?_⟩
  rintro w H2 ⟨io2, A2, d2, e2, h2, r2, p2⟩
  refine o W σ io2 H2 A2 v w d d2 _ h2 (r1.mono e2 h1.noT) r2 ((p2.bind (rep := DR K ct)).mono ?_)
  rintro z H3 ⟨io3, A3, d3, e3, h3, r3, p3⟩
  cases r3 with
  | bl k =>
    refine ⟨k, rfl, ?_⟩
    cases k with
    | false => exact p3.here h3 (.bl false)
    | true =>
      refine ⟨io3, A3, ro, ((s.mono e1 h1).mono e2 h2).mono e3 h3, (Post.bind (rep := DR K ct) p3).mono ?_⟩
      rintro u H4 ⟨io4, A4, d4, e4, h4, r4, p4⟩
      exact o' W σ io4 H4 A4 w u d2 d4 _ h4 ((r2.mono e3 h2.noT).mono e4 h3.noT) r4 p4
  | _ => exact p3.elim
theorem pd_chain {c : Expr} {fc : EF} {op op' : CmpOp} {r r' : R2} {g g' : D → D → Hd → R D} (ho : OpR X (compareOp op) r) (o : OpD X.K ct r g) (ho' : OpR X (compareOp op') r') (o' : OpD X.K ct r' g') (ha : PD X ct W a fa) (hb : PD X ct W b fb) (hc : PD X ct W c fc) (hm : lastMarks [op, op'] [b, c] = false := by with_unfolding_all rfl) :
    PD X ct W (.Compare a [op, op'] [b, c] pos) (eChain g g' fa fb fc) := pe_mono (pe_chain ho ho' ha hb hc hm) fun _ _ _ h => chain_D o o' h
theorem pdt_chain {c : Expr} {fc : EF} {op op' : CmpOp} {r r' : R2} {g g' : D → D → Hd → R D} (ho : OpR X (compareOp op) r) (o : OpD X.K ct r g) (ho' : OpR X (compareOp op') r') (o' : OpD X.K ct r' g') (ha : PD X ct W a fa) (hb : PD X ct W b fb) (hc : PD X ct W c fc) (hm : lastMarks [op, op'] [b, c] = false := by with_unfolding_all rfl) :
    PDt X ct W (.Compare a [op, op'] [b, c] pos) (fun ro A => (eChain g g' fa fb fc ro A).bind gBool) := pt_of_pe (pt_chain ho ho' ha hb hc hm) fun _ _ _ h => chain_D o o' h

theorem pdt_not (h : PDt X ct W e ft) : PDt X ct W (.UnaryOp .Not e pos) (tNotD ft) :=
  pt_mono (pt_not h) fun σ H Q ⟨io, A, ro, s, p⟩ => ⟨io, A, ro, s, (p.bind (rep := repB)).mono fun c H1 ⟨io1, A1, d, e1, h1, r1, p1⟩ => by
    rw [show c = d from r1]
    exact p1.here h1 rfl⟩
theorem pdw_and1 (h : PDt X ct W e ft) : PDw X ct W (.BoolOp .And [e] pos) ft := pw_and1 h
theorem pdw_or1 (h : PDt X ct W e ft) : PDw X ct W (.BoolOp .Or [e] pos) ft := pw_or1 h
theorem pdw_and {rest : List Expr} (ha : PDt X ct W a ft) (hb : PDw X ct W (.BoolOp .And (b :: rest) pos) fu) : PDw X ct W (.BoolOp .And (a :: b :: rest) pos) (tAndD ft fu) :=
  pw_mono (pw_and ha hb) fun σ H Q ⟨io, A, ro, s, p⟩ => ⟨io, A, ro, s, (p.bind (rep := repB)).mono fun c H1 ⟨io1, A1, d, e1, h1, r1, p1⟩ => by
    rw [show c = d from r1]
    cases d with
    | true => exact ⟨io1, A1, ro, s.mono e1 h1, p1⟩
    | false => exact p1.here h1 rfl⟩
theorem pdw_or {rest : List Expr} (ha : PDt X ct W a ft) (hb : PDw X ct W (.BoolOp .Or (b :: rest) pos) fu) : PDw X ct W (.BoolOp .Or (a :: b :: rest) pos) (tOrD ft fu) :=
  pw_mono (pw_or ha hb) fun σ H Q ⟨io, A, ro, s, p⟩ => ⟨io, A, ro, s, (p.bind (rep := repB)).mono fun c H1 ⟨io1, A1, d, e1, h1, r1, p1⟩ => by
    rw [show c = d from r1]
    cases d with
    | false => exact ⟨io1, A1, ro, s.mono e1 h1, p1⟩
    | true => exact p1.here h1 rfl⟩
theorem pdw_t (h : PDw X ct W e ft) : PDt X ct W e ft := h.pt
theorem pd_and {rest : List Expr} (ha : PD X ct W a fa) (hb : PD X ct W (.BoolOp .And (b :: rest) pos) fb) : PD X ct W (.BoolOp .And (a :: b :: rest) pos) (eAndD fa fb) :=
  pe_mono (pe_andT ha hb) fun σ H Q ⟨io, A, ro, s, p⟩ => ⟨io, A, ro, s, (p.bind (rep := DR X.K ct)).mono fun v H1 ⟨io1, A1, d, e1, h1, r1, p1⟩ => by
    obtain ⟨c, hc, p2⟩ := gTru_post p1
    refine ⟨c, tru_D h1 r1 hc, ?_⟩
    cases c with
    | true => exact ⟨io1, A1, ro, s.mono e1 h1, p2⟩
    | false => exact p2.here h1 r1⟩
theorem pd_or {rest : List Expr} (ha : PD X ct W a fa) (hb : PD X ct W (.BoolOp .Or (b :: rest) pos) fb) : PD X ct W (.BoolOp .Or (a :: b :: rest) pos) (eOrD fa fb) :=
  pe_mono (pe_orT ha hb) fun σ H Q ⟨io, A, ro, s, p⟩ => ⟨io, A, ro, s, (p.bind (rep := DR X.K ct)).mono fun v H1 ⟨io1, A1, d, e1, h1, r1, p1⟩ => by
    obtain ⟨c, hc, p2⟩ := gTru_post p1
    refine ⟨c, tru_D h1 r1 hc, ?_⟩
    cases c with
    | false => exact ⟨io1, A1, ro, s.mono e1 h1, p2⟩
    | true => exact p2.here h1 r1⟩
theorem pd_one {op} (h : PD X ct W a fa) : PD X ct W (.BoolOp op [a] pos) fa := pe_one h
theorem pd_not (ha : PD X ct W a fa) : PD X ct W (.UnaryOp .Not a pos) (eNotD fa) :=
  pe_mono (pe_notT ha) fun σ H Q ⟨io, A, ro, s, p⟩ => ⟨io, A, ro, s, (p.bind (rep := DR X.K ct)).mono fun v H1 ⟨io1, A1, d, e1, h1, r1, p1⟩ => by
    obtain ⟨c, hc, p2⟩ := gTru_post p1
    exact ⟨c, tru_D h1 r1 hc, p2.here h1 (.bl _)⟩⟩
theorem pd_if {c : Expr} (hc : PDt X ct W c ft) (ha : PD X ct W a fa) (hb : PD X ct W b fb) : PD X ct W (.IfExp c a b pos) (eIf ft fa fb) :=
  pe_mono (pe_ifExp hc ha hb) fun σ H Q ⟨io, A, ro, s, p⟩ => ⟨io, A, ro, s, (p.bind (rep := repB)).mono fun k H1 ⟨io1, A1, d, e1, h1, r1, p1⟩ => by
    rw [show k = d from r1]
    cases d with
    | true => exact ⟨io1, A1, ro, s.mono e1 h1, p1⟩
    | false => exact ⟨io1, A1, ro, s.mono e1 h1, p1⟩⟩
end
end DV

set_option Elab.async false
set_option linter.all false
set_option maxRecDepth 100000
/-! DvD: operators, comparisons, subscripts, built-in functions by data. -/
namespace DV
open PySem PySem.Spec PyProof.Rows L2
section
variable {K : PySem.W.Frag} {ct : String → Addr} {io : Io} {H : Hp} {A : Hd}

/-- a list by itself or under its number -/
def asL (A : Hd) : D → Option (List D)
  | .lst ds => some ds
  | .ref n => match A[n]? with
    | some (.lst ds) => some ds
    | _ => none
  | _ => none
theorem asL_ok {v : V} {d : D} {ds : List D} (h : HR K ct io H A) (r : DR K ct io H v d) (e : asL A d = some ds) : ∃ a xs, v = .ref a ∧ H a = some (.lst xs) ∧ DRs K ct io H xs ds := by
  cases r with
  | lst n q rs => cases e; exact ⟨_, _, rfl, q, rs⟩
  | ref q =>
    obtain ⟨m, hm⟩ := h.has q
    have mr := h.get q hm
    unfold asL at e
    dsimp only at e
    rw [hm] at e
    cases m with
    | lst es => cases e; obtain ⟨xs, q1, rs⟩ := mr; exact ⟨_, xs, rfl, q1, rs⟩
    | dic es => cases e
    | ins c fs => cases e
  | _ => cases e
/-- a list that is read (also the script) -/
def asR (A : Hd) : D → Option (List D)
  | .scr ds => some ds
  | d => asL A d
theorem asR_ok {v : V} {d : D} {ds : List D} (h : HR K ct io H A) (r : DR K ct io H v d) (e : asR A d = some ds) : ∃ a xs, v = .ref a ∧ SqL K H a xs ∧ DRs K ct io H xs ds := by
  by_cases hs : ∃ es, d = .scr es
  · obtain ⟨es, rfl⟩ := hs
    cases e
    cases r with
    | scr q rs => exact ⟨_, _, rfl, q.sq, rs⟩
  · have e' : asL A d = some ds := by
      cases d with
      | scr es => exact absurd ⟨es, rfl⟩ hs
      | _ => exact e
    obtain ⟨a, xs, h1, h2, h3⟩ := asL_ok h r e'
    exact ⟨a, xs, h1, SqL.of h2, h3⟩
/-- a list or tuple that is read -/
def asQ (A : Hd) : D → Option (List D)
  | .tup ds => some ds
  | d => asR A d
theorem asQ_ok {v : V} {d : D} {ds : List D} (h : HR K ct io H A) (r : DR K ct io H v d) (e : asQ A d = some ds) : ∃ a xs, v = .ref a ∧ (SqL K H a xs ∨ SqT K H a xs) ∧ DRs K ct io H xs ds := by
  by_cases hs : ∃ es, d = .tup es
  · obtain ⟨es, rfl⟩ := hs
    cases e
    cases r with
    | tup q rs => exact ⟨_, _, rfl, .inr q.sq, rs⟩
  · have e' : asR A d = some ds := by
      cases d with
      | tup es => exact absurd ⟨es, rfl⟩ hs
      | _ => exact e
    obtain ⟨a, xs, h1, h2, h3⟩ := asR_ok h r e'
    exact ⟨a, xs, h1, .inl h2, h3⟩
def asD (A : Hd) : D → Option (List (Key × D))
  | .dic es => some es
  | .ref n => match A[n]? with
    | some (.dic es) => some es
    | _ => none
  | _ => none
theorem asD_ok {v : V} {d : D} {es : List (Key × D)} (h : HR K ct io H A) (r : DR K ct io H v d) (e : asD A d = some es) : ∃ a kvs, v = .ref a ∧ H a = some (.dK kvs) ∧ kvs.map (·.1) = es.map (·.1) ∧ DRs K ct io H (kvs.map (·.2)) (es.map (·.2)) := by
  cases r with
  | dic n q k rs => cases e; exact ⟨_, _, rfl, q, k, rs⟩
  | ref q =>
    obtain ⟨m, hm⟩ := h.has q
    have mr := h.get q hm
    unfold asD at e
    dsimp only at e
    rw [hm] at e
    cases m with
    | dic es => cases e; obtain ⟨xs, q1, k, rs⟩ := mr; exact ⟨_, xs, rfl, q1, k, rs⟩
    | lst es => cases e
    | ins c fs => cases e
  | _ => cases e

/-! ### arithmetic -/
def gAdd (d e : D) (A : Hd) : R D := match d, e with
  | .int i, .int j => .ok (.int (i + j)) A
  | .str x, .str y => if x.length + y.length ≤ sizeLine then .ok (.str (x ++ y)) A else .stk
  | .tup xs, .tup ys => if xs.length + ys.length ≤ sizeLine then .ok (.tup (xs ++ ys)) A else .stk
  | d, e => match asL A d, asL A e with
    | some xs, some ys => if xs.length + ys.length ≤ sizeLine then .ok (.lst (xs ++ ys)) A else .stk
    | _, _ => .stk
/-- t + u -/
def rCatF (K : PySem.W.Frag) : R2 := fun x y H Q => ∃ a b xs ys, x = .ref a ∧ y = .ref b ∧ SqT K H a xs ∧ SqT K H b ys ∧ xs.length + ys.length ≤ sizeLine ∧
  (xs = [] → Q (.ref b) H) ∧ (xs ≠ [] → ys = [] → Q (.ref a) H) ∧ (xs ≠ [] → ys ≠ [] → ∀ (p : Addr) (o : Obj), o.dict = none → H p = none → Q (.ref p) (upd H p (.frz o (.tup (xs ++ ys)))))
theorem op_catF {X : Cx} : OpR X (binaryOp .Add) (rCatF X.K) := by
  intro pins s σ H x y v u Q I rx ry h
  obtain ⟨a, b, xs, ys, rfl, rfl, ha, hb, hz, q0, q1, q2⟩ := h
  cases rx
  cases ry
  obtain ⟨its, r1, p1, _⟩ := I.tuple ha
  obtain ⟨its2, r2, p2, _⟩ := I.tuple hb
  by_cases hx : xs = []
  · subst hx
    cases r1
    exact cat_tup0 p1 p2 ⟨.ref b, H, I, rfl, q0 rfl⟩
  · refine HT.cat_tup p1 p2 (fun z => hx (r1.nil_iff.mp z)) (fun z => ⟨.ref a, H, I, rfl, q1 hx (r2.nil_iff.mp z)⟩) (fun z => ?_) (by rw [← r1.length, ← r2.length]; exact hz)
    refine ⟨.ref s.heap.objs.size, _, I.laid (t' := s.toks) (o := .frz { cls := .type "tuple", data := .seq (its ++ its2).toArray } (.tup (xs ++ ys))) (fun b ob q => Heap.get?_push_of_some _ q) (Nat.le_refl _) ?_, rfl, q2 hx (fun w => z (r2.nil_iff.mpr w)) _ _ rfl (I.hok.fresh (Nat.le_refl _))⟩
    exact ⟨Heap.get?_push_size _ rfl, by rw [List.length_append]; exact hz, _, r1.append r2, IsTup.new _ _⟩
abbrev rAddX (K : PySem.W.Frag) : R2 := fun x y H Q => (rI0 (fun i j => .int (i + j)) x y H Q ∨ (∃ i j, x = .str i ∧ y = .str j ∧ i.length + j.length ≤ sizeLine ∧ Q (.str (i ++ j)) H)) ∨ (rCatF K x y H Q ∨ rCat x y H Q)
theorem op_addX {X : Cx} : OpR X (binaryOp .Add) (rAddX X.K) := (op_add.or op_add_str).or (op_catF.or op_cat)
theorem gAdd_ok : OpD K ct (rAddX K) gAdd := by
  intro W σ io H A x y d e Q h rx ry p
  unfold gAdd at p
  split at p
  · cases rx; cases ry
    exact .inl (.inl ⟨_, _, rfl, rfl, p.here h (.int _)⟩)
  · cases rx; cases ry
    split at p
    · rename_i hz
      exact .inl (.inr ⟨_, _, rfl, rfl, hz, p.here h (.str _)⟩)
    · exact p.elim
  · rename_i ds es
    cases rx with
    | @tup a xs _ qx rx =>
      cases ry with
      | @tup b ys _ qy ry =>
        split at p
        · rename_i hz
          refine .inr (.inl ⟨_, _, xs, ys, rfl, rfl, qx.sq, qy.sq, by rw [rx.length, ry.length]; exact hz, fun e0 => ?_, fun _ e0 => ?_, fun _ _ q o ho hq => ?_⟩)
          · subst e0
            cases rx
            exact p.here h (.tup qy ry)
          · subst e0
            cases ry
            rw [List.append_nil] at p
            exact p.here h (.tup qx rx)
          · exact p.new h hq (.newTup h hq ho (rx.append ry))
        · exact p.elim
  · split at p
    · rename_i xs ys h1 h2
      obtain ⟨a, us, rfl, q1, r1⟩ := asL_ok h rx h1
      obtain ⟨b, ws, rfl, q2, r2⟩ := asL_ok h ry h2
      split at p
      · rename_i hz
        exact .inr (.inr ⟨a, b, us, ws, rfl, rfl, q1, q2, by rw [r1.length, r2.length]; exact hz, fun q hq => p.new h hq (.newLst h hq (r1.append r2))⟩)
      · exact p.elim
    · exact p.elim
def gSub (d e : D) (A : Hd) : R D := match d, e with
  | .int i, .int j => .ok (.int (i - j)) A
  | _, _ => .stk
theorem gSub_ok : OpD K ct (rI0 fun i j => .int (i - j)) gSub := by
  intro W σ io H A x y d e Q h rx ry p
  unfold gSub at p
  split at p
  · cases rx; cases ry
    exact ⟨_, _, rfl, rfl, p.here h (.int _)⟩
  · exact p.elim
instance (i j : Int) : Decidable (CMul i j) := by unfold CMul; infer_instance
instance (i j : Int) : Decidable (CPow i j) := by unfold CPow; infer_instance
instance (i j : Int) : Decidable (CDivW i j) := by unfold CDivW; infer_instance
def gMul (d e : D) (A : Hd) : R D := match d, e with
  | .int i, .int j => if CMul i j then .ok (.int (i * j)) A else .stk
  | d, .int k => match asL A d with
    | some xs => if -(2 ^ 63) ≤ k ∧ k < 2 ^ 63 ∧ xs.length * k.toNat ≤ sizeLine then .ok (.lst (List.replicate k.toNat xs).flatten) A else .stk
    | none => .stk
  | _, _ => .stk
abbrev rMulX : R2 := fun x y H Q => rI CMul (fun i j => .int (i * j)) x y H Q ∨ rRep x y H Q
theorem op_mulX {X : Cx} : OpR X (binaryOp .Mult) rMulX := op_mul.or op_rep
theorem DRs.flatrep {vs : List V} {ds : List D} (h : DRs K ct io H vs ds) : ∀ n : Nat, DRs K ct io H (List.replicate n vs).flatten (List.replicate n ds).flatten
  | 0 => .nil
  | n + 1 => by
    rw [List.replicate_succ, List.replicate_succ, List.flatten_cons, List.flatten_cons]
    exact h.append (DRs.flatrep h n)
theorem gMul_ok : OpD K ct rMulX gMul := by
  intro W σ io H A x y d e Q h rx ry p
  unfold gMul at p
  split at p
  · cases rx; cases ry
    split at p
    · rename_i hz
      exact .inl ⟨_, _, rfl, rfl, hz, p.here h (.int _)⟩
    · exact p.elim
  · cases ry
    split at p
    · rename_i xs h1
      obtain ⟨a, us, rfl, q1, r1⟩ := asL_ok h rx h1
      split at p
      · rename_i hz
        exact .inr ⟨a, _, us, rfl, rfl, q1, hz.1, hz.2.1, by rw [r1.length]; exact hz.2.2, fun q hq => p.new h hq (.newLst h hq (r1.flatrep _))⟩
      · exact p.elim
    · exact p.elim
  · exact p.elim
def gDiv (d e : D) (A : Hd) : R D := match d, e with
  | .int i, .int j => if CDivW i j then .ok (.int (i / j)) A else .stk
  | _, _ => .stk
theorem gDiv_ok : OpD K ct (rI CDivW fun i j => .int (i / j)) gDiv := by
  intro W σ io H A x y d e Q h rx ry p
  unfold gDiv at p
  split at p
  · cases rx; cases ry
    split at p
    · rename_i hz
      exact ⟨_, _, rfl, rfl, hz, p.here h (.int _)⟩
    · exact p.elim
  · exact p.elim
def gMod (d e : D) (A : Hd) : R D := match d, e with
  | .int i, .int j => if 0 < j then .ok (.int (i % j)) A else .stk
  | _, _ => .stk
theorem gMod_ok : OpD K ct (rI (fun _ j => 0 < j) fun i j => .int (i % j)) gMod := by
  intro W σ io H A x y d e Q h rx ry p
  unfold gMod at p
  split at p
  · cases rx; cases ry
    split at p
    · rename_i hz
      exact ⟨_, _, rfl, rfl, hz, p.here h (.int _)⟩
    · exact p.elim
  · exact p.elim
def gPow (d e : D) (A : Hd) : R D := match d, e with
  | .int i, .int j => if CPow i j then .ok (.int (i ^ j.toNat)) A else .stk
  | _, _ => .stk
theorem gPow_ok : OpD K ct (rI CPow fun i j => .int (i ^ j.toNat)) gPow := by
  intro W σ io H A x y d e Q h rx ry p
  unfold gPow at p
  split at p
  · cases rx; cases ry
    split at p
    · rename_i hz
      exact ⟨_, _, rfl, rfl, hz, p.here h (.int _)⟩
    · exact p.elim
  · exact p.elim
def gNeg (d : D) (A : Hd) : R D := match d with
  | .int i => .ok (.int (-i)) A
  | _ => .stk
theorem gNeg_ok : UnD K ct (rU fun i => .int (-i)) gNeg := by
  intro W σ io H A x d Q h rx p
  unfold gNeg at p
  split at p
  · cases rx
    exact ⟨_, rfl, p.here h (.int _)⟩
  · exact p.elim

/-! ### comparisons -/
def gLtL (cmpI : Int → Int → Bool) (cmpS : List Nat → List Nat → Bool) (d e : D) (A : Hd) : R D := match d, e with
  | .int i, .int j => .ok (.bl (cmpI i j)) A
  | .str x, .str y => .ok (.bl (cmpS x.cps.toList y.cps.toList)) A
  | _, _ => .stk
abbrev rLtL (cmpI : Int → Int → Bool) (cmpS : List Nat → List Nat → Bool) : R2 := fun x y H Q => rI0 (fun i j => .bl (cmpI i j)) x y H Q ∨ ∃ i j, x = .str i ∧ y = .str j ∧ Q (.bl (cmpS i.cps.toList j.cps.toList)) H
theorem gLtL_ok {cmpI : Int → Int → Bool} {cmpS : List Nat → List Nat → Bool} : OpD K ct (rLtL cmpI cmpS) (gLtL cmpI cmpS) := by
  intro W σ io H A x y d e Q h rx ry p
  unfold gLtL at p
  split at p
  · cases rx; cases ry
    exact .inl ⟨_, _, rfl, rfl, p.here h (.bl _)⟩
  · cases rx; cases ry
    exact .inr ⟨_, _, rfl, rfl, p.here h (.bl _)⟩
  · exact p.elim
abbrev gLt := gLtL (fun i j => decide (i < j)) (fun a b => decide (a < b))
abbrev gLe := gLtL (fun i j => decide (i ≤ j)) (fun a b => !decide (b < a))
abbrev gGt := gLtL (fun i j => decide (j < i)) (fun a b => decide (b < a))
abbrev gGe := gLtL (fun i j => decide (j ≤ i)) (fun a b => !decide (a < b))
theorem op_ltX {X : Cx} : OpR X (compareOp .Lt) (rLtL (fun i j => decide (i < j)) (fun a b => decide (a < b))) := op_lt.or op_lt_str
theorem op_leX {X : Cx} : OpR X (compareOp .LtE) (rLtL (fun i j => decide (i ≤ j)) (fun a b => !decide (b < a))) := op_le.or op_le_str
theorem op_gtX {X : Cx} : OpR X (compareOp .Gt) (rLtL (fun i j => decide (j < i)) (fun a b => decide (b < a))) := op_gt.or op_gt_str
theorem op_geX {X : Cx} : OpR X (compareOp .GtE) (rLtL (fun i j => decide (j ≤ i)) (fun a b => !decide (a < b))) := op_ge.or op_ge_str

mutual
def toP : D → Option PyData
  | .non => some .none
  | .bl b => some (.bool b)
  | .int i => some (.int i)
  | .str s => some (.str s)
  | .tup ds => match toPs ds with
    | some ps => some (.tuple ps)
    | none => none
  | .lst ds => match toPs ds with
    | some ps => some (.list ps)
    | none => none
  | .scr ds => match toPs ds with
    | some ps => some (.list ps)
    | none => none
  | .dic _ => none
  | .ref _ => none
  | .cls _ => none
def toPs : List D → Option (List PyData)
  | [] => some []
  | d :: ds => match toP d, toPs ds with
    | some p, some ps => some (p :: ps)
    | _, _ => none
end
mutual
theorem toP_ok : ∀ {v : V} {d : D} {p : PyData}, DR K ct io H v d → toP d = some p → Dp K H v p
  | _, _, _, .non, e => by unfold toP at e; cases e; exact .non
  | _, _, _, .bl b, e => by unfold toP at e; cases e; exact .bl b
  | _, _, _, .int i, e => by unfold toP at e; cases e; exact .int i
  | _, _, _, .str x, e => by unfold toP at e; cases e; exact .str x
  | _, _, _, .tup q rs, e => by
    unfold toP at e
    split at e
    · rename_i ps h; cases e; exact .tup q.sq (toPs_ok rs h)
    · cases e
  | _, _, _, .lst n q rs, e => by
    unfold toP at e
    split at e
    · rename_i ps h; cases e; exact .lst (SqL.of q) (toPs_ok rs h)
    · cases e
  | _, _, _, .scr q rs, e => by
    unfold toP at e
    split at e
    · rename_i ps h; cases e; exact .lst q.sq (toPs_ok rs h)
    · cases e
  | _, _, _, .dic _ _ _ _, e => by unfold toP at e; cases e
  | _, _, _, .ref _, e => by unfold toP at e; cases e
  | _, _, _, .ty _, e => by unfold toP at e; cases e
  | _, _, _, .own _, e => by unfold toP at e; cases e
theorem toPs_ok : ∀ {vs : List V} {ds : List D} {ps : List PyData}, DRs K ct io H vs ds → toPs ds = some ps → DpAll K H vs ps
  | _, _, _, .nil, e => by unfold toPs at e; cases e; exact .nil
  | _, _, _, .cons r rs, e => by
    unfold toPs at e
    split at e
    · rename_i p ps h1 h2; cases e; exact .cons (toP_ok r h1) (toPs_ok rs h2)
    · cases e
end
/-- a numbered list as the list that it is now -/
def deR (A : Hd) : D → D
  | .ref n => match A[n]? with
    | some (.lst ds) => .lst ds
    | _ => .ref n
  | d => d
theorem deR_ne {d : D} (h : ∀ n, d ≠ .ref n) : deR A d = d := by
  cases d with
  | ref n => exact absurd rfl (h n)
  | _ => rfl
theorem deR_ok {v : V} {d : D} {p : PyData} (h : HR K ct io H A) (r : DR K ct io H v d) (e : toP (deR A d) = some p) : Dp K H v p := by
  by_cases hd : ∃ n, d = .ref n
  · obtain ⟨n, rfl⟩ := hd
    cases r with
    | ref q =>
    obtain ⟨m, hm⟩ := h.has q
    have mr := h.get q hm
    unfold deR at e
    dsimp only at e
    rw [hm] at e
    cases m with
    | lst es =>
      obtain ⟨xs, q1, rs⟩ := mr
      dsimp only at e
      unfold toP at e
      split at e
      · rename_i ps h1; cases e; exact .lst (SqL.of q1) (toPs_ok rs h1)
      · cases e
    | dic es => dsimp only at e; unfold toP at e; cases e
    | ins c fs => dsimp only at e; unfold toP at e; cases e
  · rw [deR_ne fun n z => hd ⟨n, z⟩] at e
    exact toP_ok r e
def eqP (A : Hd) (d e : D) : Option Bool := match toP (deR A d), toP (deR A e) with
  | some p, some q => if SeqAt.shaped p = true ∧ SeqAt.shaped q = true then some (PyData.eqv p q) else none
  | _, _ => none
def gEq (d e : D) (A : Hd) : R D := match d, e with
  | .str x, .str y => .ok (.bl (decide (x = y))) A
  | d, e => match eqP A d e with
    | some b => .ok (.bl b) A
    | none => .stk
def gNe (d e : D) (A : Hd) : R D := match d, e with
  | .str x, .str y => .ok (.bl (!decide (x = y))) A
  | d, e => match eqP A d e with
    | some b => .ok (.bl (!b)) A
    | none => .stk
abbrev rEqX (K : PySem.W.Frag) : R2 := fun x y H Q => rEq x y H Q ∨ rEqD K x y H Q
abbrev rNeX (K : PySem.W.Frag) : R2 := fun x y H Q => rNe x y H Q ∨ rNeD K x y H Q
theorem op_eqX {X : Cx} (hu : X.A.units + 64 < cLine) : OpR X (compareOp .Eq) (rEqX X.K) := op_eq.or (op_eqD hu)
theorem op_neX {X : Cx} (hu : X.A.units + 64 < cLine) : OpR X (compareOp .NotEq) (rNeX X.K) := op_ne.or (op_neD hu)
theorem eqP_ok {x y : V} {d e : D} {b : Bool} (h : HR K ct io H A) (rx : DR K ct io H x d) (ry : DR K ct io H y e) (q : eqP A d e = some b) : ∃ p p', Dp K H x p ∧ Dp K H y p' ∧ SeqAt.shaped p = true ∧ SeqAt.shaped p' = true ∧ b = PyData.eqv p p' := by
  unfold eqP at q
  split at q
  · rename_i p p' h1 h2
    split at q
    · rename_i hs
      cases q
      exact ⟨p, p', deR_ok h rx h1, deR_ok h ry h2, hs.1, hs.2, rfl⟩
    · cases q
  · cases q
theorem str_dec {x y : Str} : decide (V.str x = V.str y) = decide (x = y) := decide_eq_decide.mpr ⟨fun z => V.str.inj z, fun z => by rw [z]⟩
theorem gEq_ok : OpD K ct (rEqX K) gEq := by
  intro W σ io H A x y d e Q h rx ry p
  unfold gEq at p
  split at p
  · cases rx; cases ry
    exact .inl ⟨rfl, p.here h (by rw [str_dec]; exact .bl _)⟩
  · split at p
    · rename_i b hb
      obtain ⟨p1, p2, h1, h2, h3, h4, rfl⟩ := eqP_ok h rx ry hb
      exact .inr ⟨p1, p2, h1, h2, h3, h4, p.here h (.bl _)⟩
    · exact p.elim
theorem gNe_ok : OpD K ct (rNeX K) gNe := by
  intro W σ io H A x y d e Q h rx ry p
  unfold gNe at p
  split at p
  · cases rx; cases ry
    exact .inl ⟨rfl, p.here h (by rw [str_dec]; exact .bl _)⟩
  · split at p
    · rename_i b hb
      obtain ⟨p1, p2, h1, h2, h3, h4, rfl⟩ := eqP_ok h rx ry hb
      exact .inr ⟨p1, p2, h1, h2, h3, h4, p.here h (.bl _)⟩
    · exact p.elim
/-- is None, is not None -/
def isNonD : D → Bool
  | .non => true
  | _ => false
def gIsN (d e : D) (A : Hd) : R D := match e with
  | .non => .ok (.bl (isNonD d)) A
  | _ => .stk
def gNotN (d e : D) (A : Hd) : R D := match e with
  | .non => .ok (.bl (!isNonD d)) A
  | _ => .stk
theorem isN_V {x : V} {d : D} (r : DR K ct io H x d) : decide (x = .non) = isNonD d := by
  cases r <;> first | rfl | exact decide_eq_false (by intro z; cases z)
theorem gIsN_ok : OpD K ct (fun x y H Q => y = .non ∧ Q (.bl (decide (x = .non))) H) gIsN := by
  intro W σ io H A x y d e Q h rx ry p
  unfold gIsN at p
  split at p
  · cases ry
    refine ⟨rfl, p.here h ?_⟩
    rw [isN_V rx]
    exact .bl _
  · exact p.elim
theorem gNotN_ok : OpD K ct (fun x y H Q => y = .non ∧ Q (.bl (!decide (x = .non))) H) gNotN := by
  intro W σ io H A x y d e Q h rx ry p
  unfold gNotN at p
  split at p
  · cases ry
    refine ⟨rfl, p.here h ?_⟩
    rw [isN_V rx]
    exact .bl _
  · exact p.elim

/-! ### in, not in -/
def flatD : D → Bool
  | .non => true
  | .bl _ => true
  | .int _ => true
  | .str _ => true
  | _ => false
/-- == of flat data -/
def eqF : D → D → Bool
  | .non, .non => true
  | .bl a, .bl b => a == b
  | .bl a, .int b => (if a then 1 else 0) == b
  | .int a, .bl b => a == (if b then 1 else 0)
  | .int a, .int b => a == b
  | .str a, .str b => a == b
  | _, _ => false
theorem flat_V {x : V} {d : D} (r : DR K ct io H x d) (f : flatD d = true) : flatV x = true := by
  cases r <;> first | rfl | cases f
theorem eqF_V {x y : V} {d e : D} (rx : DR K ct io H x d) (ry : DR K ct io H y e) (fd : flatD d = true) (fe : flatD e = true) : eqV x y = eqF d e := by
  cases rx <;> first | cases fd; done | (cases ry <;> first | rfl | cases fe)
theorem flatAll_V : ∀ {xs : List V} {ds : List D}, DRs K ct io H xs ds → ds.all flatD = true → xs.all flatV = true
  | _, _, .nil, _ => rfl
  | _, _, .cons r rs, f => by
    rw [List.all_cons, Bool.and_eq_true] at f
    rw [List.all_cons, flat_V r f.1, flatAll_V rs f.2]
    rfl
def memF (d : D) (ds : List D) : Bool := ds.any fun e => eqF e d
theorem memF_V {x : V} {d : D} (r : DR K ct io H x d) (f : flatD d = true) : ∀ {xs : List V} {ds : List D}, DRs K ct io H xs ds → ds.all flatD = true → inV x xs = memF d ds
  | _, _, .nil, _ => rfl
  | _, _, .cons q qs, g => by
    rw [List.all_cons, Bool.and_eq_true] at g
    have ih := memF_V r f qs g.2
    have e1 := eqF_V q r g.1 f
    show (eqV _ x || inV x _) = (eqF _ d || memF d _)
    rw [e1, ih]
/-- d in e for a text of one sign in a text, a flat value in a list or tuple of flat values -/
def inP (d e : D) (A : Hd) : Option Bool := match d, e with
  | .str x, .str z => match x.cps.toList with
    | [c] => some (decide (c ∈ z.cps.toList))
    | _ => none
  | d, e => match asQ A e with
    | some ds => if flatD d = true ∧ ds.all flatD = true then some (memF d ds) else none
    | none => none
def gIn (d e : D) (A : Hd) : R D := match inP d e A with
  | some b => .ok (.bl b) A
  | none => .stk
def gNotIn (d e : D) (A : Hd) : R D := match inP d e A with
  | some b => .ok (.bl (!b)) A
  | none => .stk
abbrev rInX (K : PySem.W.Frag) (neg : Bool) : R2 := fun x y H Q => (∃ (c : Nat) (z : Str), x = .str ⟨#[c]⟩ ∧ y = .str z ∧ Q (.bl (if neg then !decide (c ∈ z.cps.toList) else decide (c ∈ z.cps.toList))) H) ∨ rIn K neg x y H Q
theorem op_inX {X : Cx} : OpR X (compareOp .In) (rInX X.K false) := op_in_sign.or op_in_seq
theorem op_notInX {X : Cx} : OpR X (compareOp .NotIn) (rInX X.K true) := op_notIn_sign.or op_notIn_seq
theorem inP_ok {neg b : Bool} {x y : V} {d e : D} {Q : VK} (h : HR K ct io H A) (rx : DR K ct io H x d) (ry : DR K ct io H y e) (q : inP d e A = some b) (hQ : Q (.bl (if neg then !b else b)) H) : rInX K neg x y H Q := by
  unfold inP at q
  split at q
  · rename_i x z
    cases rx; cases ry
    split at q
    · rename_i c hc
      cases q
      refine .inl ⟨c, z, ?_, rfl, hQ⟩
      have : x = ⟨#[c]⟩ := by
        cases x with
        | mk a =>
          have : a = #[c] := Array.toList_inj.mp hc
          rw [this]
      rw [this]
    · cases q
  · split at q
    · rename_i ds hd
      split at q
      · rename_i hf
        cases q
        obtain ⟨a, xs, rfl, hs, rs⟩ := asQ_ok h ry hd
        refine .inr ⟨a, xs, rfl, hs, flat_V rx hf.1, flatAll_V rs hf.2, ?_⟩
        rw [memF_V rx hf.1 rs hf.2]
        exact hQ
      · cases q
    · cases q
theorem gIn_ok : OpD K ct (rInX K false) gIn := by
  intro W σ io H A x y d e Q h rx ry p
  unfold gIn at p
  split at p
  · rename_i b hb
    exact inP_ok h rx ry hb (p.here h (.bl _))
  · exact p.elim
theorem gNotIn_ok : OpD K ct (rInX K true) gNotIn := by
  intro W σ io H A x y d e Q h rx ry p
  unfold gNotIn at p
  split at p
  · rename_i b hb
    exact inP_ok h rx ry hb (p.here h (.bl _))
  · exact p.elim

/-! ### subscripts -/
theorem DRs.atI {xs : List V} {ds : List D} (h : DRs K ct io H xs ds) {i : Int} {d : D} (e : atI ds i = some d) : ∃ v, L2.atI xs i = some v ∧ DR K ct io H v d := by
  unfold L2.atI at e ⊢
  rw [h.length]
  cases q : ixN ds.length i with
  | none => rw [q] at e; cases e
  | some j =>
    rw [q] at e
    obtain ⟨v, h1, h2⟩ := h.get e
    exact ⟨v, h1, h2⟩
def gIx (d e : D) (A : Hd) : R D := match d, e with
  | .str z, .int i => if z.length ≤ sizeLine then (match L2.atI z.cps.toList i with | some c => .ok (.str ⟨#[c]⟩) A | none => .stk) else .stk
  | d, .int i => match asQ A d with
    | some ds => match L2.atI ds i with
      | some x => .ok x A
      | none => .stk
    | none => .stk
  | _, _ => .stk
theorem gIx_ok : OpD K ct (rIx K) gIx := by
  intro W σ io H A x y d e Q h rx ry p
  unfold gIx at p
  split at p
  · cases rx; cases ry
    split at p
    · rename_i hz
      split at p
      · rename_i c hc
        exact .inr (.inr ⟨_, _, c, rfl, rfl, hz, hc, p.here h (.str _)⟩)
      · exact p.elim
    · exact p.elim
  · cases ry
    split at p
    · rename_i ds hd
      split at p
      · rename_i z hz
        obtain ⟨a, xs, rfl, hs, rs⟩ := asQ_ok h rx hd
        obtain ⟨v, h1, h2⟩ := rs.atI hz
        rcases hs with hs | hs
        · exact .inl ⟨a, xs, _, v, rfl, rfl, hs, h1, p.here h h2⟩
        · exact .inr (.inl ⟨a, xs, _, v, rfl, rfl, hs, h1, p.here h h2⟩)
      · exact p.elim
    · exact p.elim
  · exact p.elim

/-! ### slices -/
def cutD (xs : List D) (lo hi : Option Int) : List D := (xs.drop (HT.sIx xs.length 0 lo)).take (HT.sIx xs.length xs.length hi - HT.sIx xs.length 0 lo)
theorem DRs.cut {xs : List V} {ds : List D} (h : DRs K ct io H xs ds) (lo hi : Option Int) : DRs K ct io H (cutV xs lo hi) (cutD ds lo hi) := by
  unfold cutV cutD
  rw [h.length]
  exact (h.drop _).take _
def gCut (d : D) (lo hi : Option Int) (A : Hd) : R D := match d with
  | .str z => if z.length ≤ sizeLine then .ok (.str (cutS z lo hi)) A else .stk
  | .tup ds => .ok (.tup (cutD ds lo hi)) A
  | d => match asR A d with
    | some ds => .ok (.lst (cutD ds lo hi)) A
    | none => .stk
/-- t[lo:hi]: the whole of it is t itself -/
def rSlF (K : PySem.W.Frag) : V → Option Int → Option Int → Hp → VK → Prop := fun x lo hi H Q => ∃ a xs, x = .ref a ∧ SqT K H a xs ∧
  (HT.sIx xs.length 0 lo = 0 ∧ HT.sIx xs.length xs.length hi = xs.length → Q (.ref a) H) ∧
  (¬ (HT.sIx xs.length 0 lo = 0 ∧ HT.sIx xs.length xs.length hi = xs.length) → ∀ (p : Addr) (o : Obj), o.dict = none → H p = none → Q (.ref p) (upd H p (.frz o (.tup (cutV xs lo hi)))))
theorem sl_tupF {X : Cx} : SlR X (rSlF X.K) := by
  intro pins s σ H x v vl vu lo hi sl Q I rx hs pl pu h
  obtain ⟨a, xs, rfl, hx, q1, q2⟩ := h
  cases rx
  obtain ⟨its, r, ht, hz⟩ := I.tuple hx
  have hlen : its.toArray.size = xs.length := by rw [List.size_toArray]; exact r.length.symm
  refine ⟨"tuple", _, PyProof.Rows.slot_tuple_getitem.lookup, ht.typeIs, ?_⟩
  by_cases hw : HT.sIx xs.length 0 lo = 0 ∧ HT.sIx xs.length xs.length hi = xs.length
  · exact getItem_tuple_whole ht hs pl pu (by rw [hlen]; exact hw) ⟨.ref a, H, I, rfl, q1 hw⟩
  · refine HT.getItem_tuple_cut ht hs pl pu (by rw [hlen]; exact hw) ?_ (by rw [hlen]; exact hz)
    rw [hlen]
    refine ⟨.ref s.heap.objs.size, _, I.laid (t' := s.toks) (o := .frz { cls := .type "tuple", data := .seq (List.take (HT.sIx xs.length xs.length hi - HT.sIx xs.length 0 lo) (List.drop (HT.sIx xs.length 0 lo) its.toArray.toList)).toArray } (.tup (cutV xs lo hi))) (fun b ob q => Heap.get?_push_of_some _ q) (Nat.le_refl _) ?_, rfl, q2 hw _ _ rfl (I.hok.fresh (Nat.le_refl _))⟩
    exact ⟨Heap.get?_push_size _ rfl, Nat.le_trans (cutV_length xs lo hi) hz, _, (r.drop (HT.sIx xs.length 0 lo)).take (HT.sIx xs.length xs.length hi - HT.sIx xs.length 0 lo), IsTup.new _ _⟩
abbrev rCutX (K : PySem.W.Frag) : V → Option Int → Option Int → Hp → VK → Prop := fun x lo hi H Q => rSlL K x lo hi H Q ∨ (rSlF K x lo hi H Q ∨ rSlS x lo hi H Q)
theorem sl_X {X : Cx} : SlR X (rCutX X.K) := sl_list.or (sl_tupF.or sl_str)
theorem gCut_ok {W : WX} {σ : L2.St} {x : V} {d : D} {lo hi : Option Int} {Q : VK} (h : HR K ct io H A) (rx : DR K ct io H x d) (p : Post K ct (DR K ct) W σ io H (gCut d lo hi A) Q) : rCutX K x lo hi H Q := by
  unfold gCut at p
  split at p
  · cases rx
    split at p
    · rename_i hz
      exact .inr (.inr ⟨_, rfl, hz, p.here h (.str _)⟩)
    · exact p.elim
  · rename_i ds
    cases rx with
    | @tup a xs _ qx rx =>
      refine .inr (.inl ⟨a, xs, rfl, qx.sq, fun hw => ?_, fun _ q o ho hq => p.new h hq (.newTup h hq ho (rx.cut lo hi))⟩)
      have e : cutD ds lo hi = ds := by
        unfold cutD
        rw [← rx.length, hw.1, hw.2]
        simp [rx.length]
      rw [e] at p
      exact p.here h (.tup qx rx)
  · split at p
    · rename_i ds hd
      obtain ⟨a, xs, rfl, hs, rs⟩ := asR_ok h rx hd
      exact .inl ⟨a, xs, rfl, hs, fun q hq => p.new h hq (.newLst h hq (rs.cut lo hi))⟩
    · exact p.elim
end

/-- a part of a slice -/
abbrev OF := Env → Hd → R (Option Int)
def oNone : OF := fun _ A => .ok none A
def oSome (a : EF) : OF := fun ro A => (a ro A).bind fun d A1 => match d with
  | .int i => .ok (some i) A1
  | _ => .stk
abbrev repO : Io → Hp → Option Int → Option Int → Prop := fun _ _ b a => b = a
def tO (K : PySem.W.Frag) (ct : String → Addr) (W : WX) (f : OF) : TO := fun σ H Q => ∃ io A ro, Sta K ct ro A io σ H ∧ Post K ct repO W σ io H (f ro A) Q
def eCut (a : EF) (lo hi : OF) : EF := fun ro A => (a ro A).bind fun d A1 => (lo ro A1).bind fun l A2 => (hi ro A2).bind fun u A3 => gCut d l u A3
section
variable {X : Cx} {ct : String → Addr} {W : WX} {e a b : Expr} {pos : Pos} {fa fb : EF} {ft fu : TF} {fl : AF}
theorem po_mono {e : Option Expr} {t t' : TO} (h : PO X e t) (m : ∀ σ H Q, t' σ H Q → t σ H Q) : PO X e t' := ⟨fun pins s σ H Q I q => h.run pins s σ H Q I (m _ _ _ q)⟩
theorem pdo_none : PO X none (tO X.K ct W oNone) := po_mono po_none fun σ H Q ⟨io, A, ro, s, p⟩ => p.here s.hr rfl
theorem pdo_some (h : PD X ct W e fa) : PO X (some e) (tO X.K ct W (oSome fa)) := po_mono (po_some h) fun σ H Q ⟨io, A, ro, s, p⟩ => ⟨io, A, ro, s, (p.bind (rep := DR X.K ct)).mono fun v H1 ⟨io1, A1, d, e1, h1, r1, p1⟩ => by
  cases r1 with
  | int i => exact ⟨i, rfl, p1.here h1 rfl⟩
  | _ => exact p1.elim⟩
theorem pd_cut {lo hi : Option Expr} {fl fh : OF} {p2 : Pos} (ha : PD X ct W a fa) (hl : PO X lo (tO X.K ct W fl)) (hh : PO X hi (tO X.K ct W fh)) : PD X ct W (.Subscript a (.Slice lo hi none p2) pos) (eCut fa fl fh) :=
  pe_mono (pe_slice sl_X ha hl hh) fun σ H Q ⟨io, A, ro, s, p⟩ => ⟨io, A, ro, s, (p.bind (rep := DR X.K ct)).mono fun v H1 ⟨io1, A1, d, e1, h1, r1, p1⟩ =>
    ⟨io1, A1, ro, s.mono e1 h1, (p1.bind (rep := repO)).mono fun l H2 ⟨io2, A2, l', e2, h2, r2, p2⟩ =>
      ⟨io2, A2, ro, (s.mono e1 h1).mono e2 h2, (p2.bind (rep := repO)).mono fun u H3 ⟨io3, A3, u', e3, h3, r3, p3⟩ => by
        rw [show l = l' from r2, show u = u' from r3]
        exact gCut_ok h3 ((r1.mono e2 h1.noT).mono e3 h2.noT) p3⟩⟩⟩

/-! ### dicts: d[k], k in d -/
def valD (es : List (Key × D)) (k : Key) : Option D := (es.find? fun kv => decide (kv.1 = k)).map (·.2)
/-- a key of a dict -/
def keyD : D → Option Key
  | .int i => some (.inl i)
  | .str x => some (.inr x)
  | _ => none
theorem keyD_ok {K : PySem.W.Frag} {io : Io} {H : Hp} {v : V} {d : D} {k : Key} (r : DR K ct io H v d) (e : keyD d = some k) : v = kV k := by
  cases r <;> first | (cases e; rfl) | cases e
theorem valD_ok {K : PySem.W.Frag} {io : Io} {H : Hp} (k : Key) : ∀ {kvs : List (Key × V)} {es : List (Key × D)}, kvs.map (·.1) = es.map (·.1) → DRs K ct io H (kvs.map (·.2)) (es.map (·.2)) →
    match valD es k with
    | some d => ∃ v, valV kvs k = some v ∧ DR K ct io H v d
    | none => valV kvs k = none
  | [], [], _, _ => rfl
  | [], _ :: _, e, _ => by cases e
  | _ :: _, [], e, _ => by cases e
  | p :: kvs, q :: es, e, r => by
    rw [List.map_cons, List.map_cons] at e r
    have e1 : p.1 = q.1 := (List.cons.inj e).1
    cases r with
    | cons r rs =>
      have ih := valD_ok k (List.cons.inj e).2 rs
      by_cases hk : q.1 = k
      · have h1 : valD (q :: es) k = some q.2 := by simp [valD, List.find?_cons, hk]
        rw [h1]
        exact ⟨p.2, valV_pos (e1.trans hk), r⟩
      · have h1 : valD (q :: es) k = valD es k := by simp [valD, List.find?_cons, hk]
        have h2 : valV (p :: kvs) k = valV kvs k := valV_neg fun z => hk (e1.symm.trans z)
        rw [h1, h2]
        exact ih
def gSubD (d e : D) (A : Hd) : R D := match asD A d, keyD e with
  | some es, some k => match valD es k with
    | some x => .ok x A
    | none => .stk
  | _, _ => gIx d e A
theorem asD_not {A : Hd} {d : D} {es : List (Key × D)} (h : asD A d = some es) (e : D) : gIx d e A = .stk := by
  cases d with
  | dic _ => cases e <;> rfl
  | ref n =>
    unfold asD at h
    dsimp only at h
    cases hm : A[n]? with
    | none => rw [hm] at h; cases h
    | some m =>
      rw [hm] at h
      cases m with
      | dic _ => cases e <;> first | rfl | (unfold gIx asQ asR asL; simp only [hm])
      | lst _ => cases h
      | ins _ _ => cases h
  | _ => cases h
theorem pd_sub (hu : X.A.units + 1 < cLine) (ha : PD X ct W a fa) (hb : PD X ct W b fb) (hs : PlainIx b) (hn : NoSl b) : PD X ct W (.Subscript a b pos) (eBin gSubD fa fb) := by
  have h1 := pe_ix (pos := pos) (X := X) ix_seq ha hb hs
  have h2 := pe_dget (pos := pos) hu ha hb hn
  refine ⟨fun pins s σ H Q I h => ?_⟩
  obtain ⟨io, A, ro, st, p⟩ := h
  -- what both give is known; the kind of the first decides
  by_cases hd : ∃ d A1 e A2 es, fa ro A = .ok d A1 ∧ fb ro A1 = .ok e A2 ∧ asD A2 d = some es
  · obtain ⟨d, A1, e, A2, es, q1, q2, q3⟩ := hd
    refine h2.run pins s σ H Q I ⟨io, A, ro, st, ?_⟩
    unfold eBin at p
    rw [q1, R.bind_ok, q2, R.bind_ok] at p
    rw [q1]
    intro v io1 H1 e1 hr1 r1
    refine ⟨io1, A1, ro, st.mono e1 hr1, ?_⟩
    rw [q2]
    intro w io2 H2 e2 hr2 r2
    have p := Post.ext (e1.trans e2) p
    unfold gSubD at p
    rw [q3] at p
    obtain ⟨b, kvs, rfl, hb1, hk, hrs⟩ := asD_ok hr2 (r1.mono e2 hr1.noT) q3
    cases hkd : keyD e with
    | none =>
      rw [hkd] at p
      dsimp only at p
      rw [asD_not q3] at p
      exact p.elim
    | some k =>
      rw [hkd] at p
      dsimp only at p
      have ew := keyD_ok r2 hkd
      subst ew
      have hv := valD_ok k hk hrs
      cases hx : valD es k with
      | none => rw [hx] at p; exact p.elim
      | some x =>
        rw [hx] at p hv
        obtain ⟨v', g1, g2⟩ := hv
        exact ⟨b, v', rfl, by rw [← g1]; exact DGet.k hb1, p.here hr2 g2⟩
  · refine h1.run pins s σ H Q I ⟨io, A, ro, st, ?_⟩
    unfold eBin at p
    cases q1 : fa ro A with
    | stk => rw [q1] at p; exact p.elim
    | err c fs A' => rw [q1] at p; exact p
    | ok d A1 =>
      rw [q1, R.bind_ok] at p
      intro v io1 H1 e1 hr1 r1
      refine ⟨io1, A1, ro, st.mono e1 hr1, ?_⟩
      cases q2 : fb ro A1 with
      | stk => rw [q2] at p; exact p.elim
      | err c fs A' => rw [q2] at p; exact Post.ext e1 p
      | ok e A2 =>
        rw [q2, R.bind_ok] at p
        intro w io2 H2 e2 hr2 r2
        have p := Post.ext (e1.trans e2) p
        have g : gSubD d e A2 = gIx d e A2 := by
          unfold gSubD
          cases q3 : asD A2 d with
          | none => rfl
          | some es => exact absurd ⟨d, A1, e, A2, es, q1, q2, q3⟩ hd
        rw [g] at p
        exact gIx_ok W σ io2 H2 A2 v w d e Q hr2 (r1.mono e2 hr1.noT) r2 p
end
end DV

set_option Elab.async false
set_option linter.all false
set_option maxRecDepth 100000
/-! DvE: built-in functions by data. -/
namespace DV
open PySem PySem.Spec PyProof.Rows L2
section
variable {K : PySem.W.Frag} {ct : String → Addr} {io : Io} {H : Hp} {A : Hd}
/-! ### len -/
def gLen (ds : List D) (A : Hd) : R D := match ds with
  | [.str x] => if x.length ≤ sizeLine then .ok (.int x.length) A else .stk
  | [d] => match asQ A d with
    | some es => .ok (.int es.length) A
    | none => match asD A d with
      | some es => .ok (.int es.length) A
      | none => .stk
  | _ => .stk
abbrev rLenX (K : PySem.W.Frag) : List V → Hp → VK → Prop := fun xs H Q => (∃ x n, xs = [x] ∧ LenV K x H n ∧ Q (.int n) H) ∨ ∃ a kvs, xs = [V.ref a] ∧ H a = some (.dK kvs) ∧ Q (.int kvs.length) H
theorem call_lenX {X : Cx} : CallR X (.builtin "len") (rLenX X.K) := call_len.or call_lenD
theorem gLen_ok : CaD K ct (rLenX K) gLen := by
  intro W σ io H A xs ds Q h r p
  unfold gLen at p
  split at p
  · cases r with
    | cons r rs =>
    cases r; cases rs
    split at p
    · rename_i hz
      exact .inl ⟨_, _, rfl, ⟨hz, rfl⟩, p.here h (.int _)⟩
    · exact p.elim
  · cases r with
    | cons r rs =>
    cases rs
    split at p
    · rename_i es he
      obtain ⟨a, us, rfl, hs, hr⟩ := asQ_ok h r he
      refine .inl ⟨_, us.length, rfl, ?_, by rw [hr.length]; exact p.here h (.int _)⟩
      rcases hs with hs | hs
      · exact .inl ⟨us, hs, rfl⟩
      · exact .inr ⟨us, hs, rfl⟩
    · split at p
      · rename_i es he
        obtain ⟨a, kvs, rfl, hs, hk, hr⟩ := asD_ok h r he
        refine .inr ⟨a, kvs, rfl, hs, ?_⟩
        have e : kvs.length = es.length := by
          have := congrArg List.length hk
          simpa using this
        rw [e]
        exact p.here h (.int _)
      · exact p.elim
  · exact p.elim

/-! ### isinstance, one built-in class -/
def tyD (A : Hd) : D → Option String
  | .non => some "NoneType"
  | .bl _ => some "bool"
  | .int _ => some "int"
  | .str _ => some "str"
  | .tup _ => some "tuple"
  | .lst _ => some "list"
  | .scr _ => some "list"
  | .dic _ => some "dict"
  | .ref n => match A[n]? with
    | some (.lst _) => some "list"
    | some (.dic _) => some "dict"
    | _ => none
  | .cls _ => none
theorem tyD_ok {v : V} {d : D} {T : String} (h : HR K ct io H A) (r : DR K ct io H v d) (e : tyD A d = some T) : TyX K H v (.type T) := by
  cases r with
  | non => cases e; exact .base .non
  | bl b => cases e; exact .base (.bl b)
  | int i => cases e; exact .base (.int i)
  | str x => cases e; exact .base (.str x)
  | tup q rs =>
    cases e
    rcases q.sq with (q | ⟨o, q⟩) | ⟨o, its, n, q, qc, _⟩
    · exact .base (.tup q)
    · exact .fTuple q
    · exact .kTuple q qc
  | lst n q rs => cases e; exact .base (.lst q)
  | scr q rs =>
    cases e
    rcases q with ⟨_, o, q⟩ | ⟨o, its, n, q, qc, _⟩
    · exact .base (.frz q)
    · exact .kList q qc
  | dic n q k rs => cases e; exact .base (.dK q)
  | ref q =>
    obtain ⟨m, hm⟩ := h.has q
    have mr := h.get q hm
    unfold tyD at e
    dsimp only at e
    rw [hm] at e
    cases m with
    | lst ds => cases e; obtain ⟨xs, q1, rs⟩ := mr; exact .base (.lst q1)
    | dic es => cases e; obtain ⟨kvs, q1, k, rs⟩ := mr; exact .base (.dK q1)
    | ins c fs => cases e
  | ty n => cases e
  | own n => cases e
/-- isinstance among the built-in classes that are met -/
def isaB (t T : String) : Option Bool :=
  if (["NoneType", "bool", "int", "str", "tuple", "list", "dict"] : List String).contains t ∧ (["int", "str", "tuple", "list", "dict", "bool"] : List String).contains T then some (t == T || (t == "bool" && T == "int")) else none
theorem isaB_ok {t T : String} {b : Bool} (e : isaB t T = some b) : PySem.W.kitOne K (.type t) (.type T) = some b := by
  refine kit_ty ?_
  unfold isaB at e
  split at e
  · rename_i hc
    have all : ∀ t ∈ (["NoneType", "bool", "int", "str", "tuple", "list", "dict"] : List String), ∀ T ∈ (["int", "str", "tuple", "list", "dict", "bool"] : List String), kitB t T = some (t == T || (t == "bool" && T == "int")) := by decide +kernel
    rw [← e]
    exact all t (by simpa using hc.1) T (by simpa using hc.2)
  · cases e
def gIsa (ds : List D) (A : Hd) : R D := match ds with
  | [d, .cls (.bi T)] => match tyD A d with
    | some t => match isaB t T with
      | some b => .ok (.bl b) A
      | none => .stk
    | none => .stk
  | _ => .stk
theorem gIsa_ok : CaD K ct (rIsi K) gIsa := by
  intro W σ io H A xs ds Q h r p
  unfold gIsa at p
  split at p
  · rename_i d T
    cases r with
    | cons r rs =>
    cases rs with
    | cons r2 rs =>
    cases rs
    cases r2
    split at p
    · rename_i t ht
      split at p
      · rename_i b hb
        exact ⟨_, _, _, _, b, rfl, .ty T, tyD_ok h r ht, isaB_ok hb, p.here h (.bl _)⟩
      · exact p.elim
    · exact p.elim
  · exact p.elim

/-! ### all, any of a list of bools -/
def boolsD : List D → Option (List Bool)
  | [] => some []
  | .bl b :: r => match boolsD r with
    | some bs => some (b :: bs)
    | none => none
  | _ :: _ => none
theorem boolsD_ok : ∀ {vs : List V} {ds : List D} {bs : List Bool}, DRs K ct io H vs ds → boolsD ds = some bs → vs = bs.map V.bl
  | _, _, _, .nil, e => by cases e; rfl
  | _, _, _, .cons r rs, e => by
    cases r with
    | bl b =>
      unfold boolsD at e
      split at e
      · rename_i bs h1
        cases e
        rw [boolsD_ok rs h1]
        rfl
      · cases e
    | _ => cases e
def gAll (ds : List D) (A : Hd) : R D := match ds with
  | [d] => match asR A d with
    | some es => match boolsD es with
      | some bs => .ok (.bl (bs.all id)) A
      | none => .stk
    | none => .stk
  | _ => .stk
def gAny (ds : List D) (A : Hd) : R D := match ds with
  | [d] => match asR A d with
    | some es => match boolsD es with
      | some bs => .ok (.bl (bs.any id)) A
      | none => .stk
    | none => .stk
  | _ => .stk
theorem gAll_ok : CaD K ct (rAll K) gAll := by
  intro W σ io H A xs ds Q h r p
  unfold gAll at p
  split at p
  · cases r with
    | cons r rs =>
    cases rs
    split at p
    · rename_i es he
      split at p
      · rename_i bs hb
        obtain ⟨a, us, rfl, hs, hr⟩ := asR_ok h r he
        have e := boolsD_ok hr hb
        subst e
        exact ⟨a, bs, rfl, hs, p.here h (.bl _)⟩
      · exact p.elim
    · exact p.elim
  · exact p.elim
theorem gAny_ok : CaD K ct (rAny K) gAny := by
  intro W σ io H A xs ds Q h r p
  unfold gAny at p
  split at p
  · cases r with
    | cons r rs =>
    cases rs
    split at p
    · rename_i es he
      split at p
      · rename_i bs hb
        obtain ⟨a, us, rfl, hs, hr⟩ := asR_ok h r he
        have e := boolsD_ok hr hb
        subst e
        exact ⟨a, bs, rfl, hs, p.here h (.bl _)⟩
      · exact p.elim
    · exact p.elim
  · exact p.elim

/-! ### tuple(x), list(x) -/
def gTuple (ds : List D) (A : Hd) : R D := match ds with
  | [.tup es] => .ok (.tup es) A
  | [d] => match asR A d with
    | some es => .ok (.tup es) A
    | none => .stk
  | _ => .stk
def rTupleX (K : PySem.W.Frag) : List V → Hp → VK → Prop := fun xs H Q => ∃ p ys, xs = [.ref p] ∧ ((SqL K H p ys ∧ ∀ (l : Addr) (o : Obj), o.dict = none → H l = none → Q (.ref l) (upd H l (.frz o (.tup ys)))) ∨ (SqT K H p ys ∧ Q (.ref p) H))
theorem call_tupleF {X : Cx} : CallR X (.type "tuple") (rTupleX X.K) := by
  intro pins s σ H x us Q I r h
  obtain ⟨p, ys, rfl, h⟩ := h
  obtain ⟨u, rfl, rx⟩ := vals1 r
  cases rx
  rcases h with ⟨hq, q⟩ | ⟨hq, q⟩
  · obtain ⟨its, r', pl, hz⟩ := I.list hq
    have hlen := r'.length
    refine call_tuple_list pl.isList (fun h' kp => ?_) (by simp only [List.size_toArray] <;> omega)
    have I1 : Inv X pins σ H { s with heap := h' } := I.kept (t' := s.toks) kp
    have get : (h'.push ({ cls := .type "tuple", data := .seq its.toArray } : Obj)).get? h'.objs.size = some { cls := .type "tuple", data := .seq its.toArray } := Heap.get?_push_size _ rfl
    exact ⟨.ref h'.objs.size, _, I1.laid (t' := s.toks) (o := .frz { cls := .type "tuple", data := .seq its.toArray } (.tup ys)) (fun b o e => Heap.get?_push_of_some _ e) (Nat.le_refl _) ⟨get, hz, its, r', IsTup.new _ _⟩, rfl, q _ _ rfl (I1.hok.fresh (Nat.le_refl _))⟩
  · obtain ⟨its, r', pl, hz⟩ := I.tuple hq
    exact call_tuple_same pl ⟨.ref p, H, I, rfl, q⟩
theorem gTuple_ok : CaD K ct (rTupleX K) gTuple := by
  intro W σ io H A xs ds Q h r p
  unfold gTuple at p
  split at p
  · cases r with
    | cons r rs =>
    cases rs
    cases r with
    | tup q hr => exact ⟨_, _, rfl, .inr ⟨q.sq, p.here h (.tup q hr)⟩⟩
  · cases r with
    | cons r rs =>
    cases rs
    split at p
    · rename_i es he
      obtain ⟨a, us, rfl, hs, hr⟩ := asR_ok h r he
      exact ⟨a, us, rfl, .inl ⟨hs, fun l o ho hl => p.new h hl (.newTup h hl ho hr)⟩⟩
    · exact p.elim
  · exact p.elim
def gListD (ds : List D) (A : Hd) : R D := match ds with
  | [d] => match asQ A d with
    | some es => .ok (.lst es) A
    | none => .stk
  | _ => .stk
def gListM (ds : List D) (A : Hd) : R D := match ds with
  | [d] => match asQ A d with
    | some es => .ok (.ref A.length) (A ++ [.lst es])
    | none => .stk
  | _ => .stk
abbrev rListX (K : PySem.W.Frag) : List V → Hp → VK → Prop := fun xs H Q => ∃ p ys, xs = [.ref p] ∧ (SqL K H p ys ∨ SqT K H p ys) ∧ ∀ l, H l = none → Q (.ref l) (upd H l (.lst ys))
theorem gListD_ok : CaD K ct (rListX K) gListD := by
  intro W σ io H A xs ds Q h r p
  unfold gListD at p
  split at p
  · cases r with
    | cons r rs =>
    cases rs
    split at p
    · rename_i es he
      obtain ⟨a, us, rfl, hs, hr⟩ := asQ_ok h r he
      exact ⟨a, us, rfl, hs, fun l hl => p.new h hl (.newLst h hl hr)⟩
    · exact p.elim
  · exact p.elim
theorem Post.num {W : WX} {σ : L2.St} {m : M} {p : Addr} {o : HO} {Q : VK} (q : Post K ct (DR K ct) W σ io H (.ok (.ref A.length) (A ++ [m])) Q) (h : HR K ct io H A) (n : H p = none) (hm : MR K ct (io.add p) (upd H p o) p m) : Q (.ref p) (upd H p o) :=
  q _ (io.add p) _ (Ext.num n) (h.num n hm) (.ref (by show (io.nm ++ [p])[A.length]? = some p; rw [← h.len]; simp))
theorem gListM_ok : CaD K ct (rListX K) gListM := by
  intro W σ io H A xs ds Q h r p
  unfold gListM at p
  split at p
  · cases r with
    | cons r rs =>
    cases rs
    split at p
    · rename_i es he
      obtain ⟨a, us, rfl, hs, hr⟩ := asQ_ok h r he
      exact ⟨a, us, rfl, hs, fun l hl => p.num h hl ⟨_, upd_same, hr.mono (Ext.num hl) h.noT⟩⟩
    · exact p.elim
  · exact p.elim

/-! ### min, max of two ints -/
def gMin2 (ds : List D) (A : Hd) : R D := match ds with
  | [.int i, .int j] => .ok (.int (if j < i then j else i)) A
  | _ => .stk
def gMax2 (ds : List D) (A : Hd) : R D := match ds with
  | [.int i, .int j] => .ok (.int (if j > i then j else i)) A
  | _ => .stk
theorem gMin2_ok : CaD K ct (fun xs H Q => ∃ i j, xs = [.int i, .int j] ∧ Q (.int (if j < i then j else i)) H) gMin2 := by
  intro W σ io H A xs ds Q h r p
  unfold gMin2 at p
  split at p
  · cases r with
    | cons r rs =>
    cases rs with
    | cons r2 rs =>
    cases rs; cases r; cases r2
    exact ⟨_, _, rfl, p.here h (.int _)⟩
  · exact p.elim
theorem gMax2_ok : CaD K ct (fun xs H Q => ∃ i j, xs = [.int i, .int j] ∧ Q (.int (if j > i then j else i)) H) gMax2 := by
  intro W σ io H A xs ds Q h r p
  unfold gMax2 at p
  split at p
  · cases r with
    | cons r rs =>
    cases rs with
    | cons r2 rs =>
    cases rs; cases r; cases r2
    exact ⟨_, _, rfl, p.here h (.int _)⟩
  · exact p.elim

/-! ### repr of data without dicts -/
mutual
theorem Dp.noDict {v : V} : ∀ {p : PyData}, Dp K H v p → p.hasDict = false
  | _, .non => rfl
  | _, .bl _ => rfl
  | _, .int _ => rfl
  | _, .str _ => rfl
  | _, .lst _ hs => by unfold PyData.hasDict; exact DpAll.noDict hs
  | _, .tup _ hs => by unfold PyData.hasDict; exact DpAll.noDict hs
theorem DpAll.noDict {vs : List V} : ∀ {ps : List PyData}, DpAll K H vs ps → PyData.hasDictAll ps = false
  | _, .nil => rfl
  | _, .cons h hs => by unfold PyData.hasDictAll; rw [Dp.noDict h, DpAll.noDict hs]; rfl
end
def rRepr (K : PySem.W.Frag) : List V → Hp → VK → Prop := fun xs H Q => ∃ x p, xs = [x] ∧ Dp K H x p ∧ p.showable = true ∧ p.depth ≤ 60 ∧ p.shown.length ≤ sizeLine ∧ Q (.str p.shown) H
theorem call_repr {X : Cx} (hg : X.A.guards = some []) (hu : X.A.units + 64 < cLine) : CallR X (.builtin "repr") (rRepr X.K) := by
  intro pins s σ H xs us Q I r h
  obtain ⟨x, p, rfl, hd, hs, hdp, hz, q⟩ := h
  obtain ⟨u, rfl, rx⟩ := vals1 r
  obtain ⟨as, rd⟩ := Dp.reads I p x u hd rx
  cases hd with
  | non => cases rx; exact PySem.P.repr_of_none ⟨.str _, H, I.tok _, ⟨_, rfl⟩, q⟩
  | bl b => cases rx; exact PySem.P.repr_of_bool ⟨.str _, H, I.tok _, ⟨_, rfl⟩, q⟩
  | int i =>
    obtain ⟨t, rfl⟩ := rx
    refine PySem.P.repr_of_int (by simpa [PyData.showable] using hs) ⟨.str _, H, I.tok _, ⟨_, rfl⟩, q⟩
  | str z =>
    obtain ⟨t, rfl⟩ := rx
    exact PySem.P.repr_of_str ⟨.str _, H, I.tok _, ⟨_, rfl⟩, q⟩ hz
  | lst h1 h2 =>
    cases rx
    refine repr_of_reads' rd hs (PyData.noDict_hsm (Dp.noDict (.lst h1 h2))) hg (by omega) (fun _ _ e => e) (fun h' u tk hk => ?_) hz
    exact ⟨.str _, H, I.kept (t' := tk) hk, ⟨_, rfl⟩, q⟩
  | tup h1 h2 =>
    cases rx
    refine repr_of_reads' rd hs (PyData.noDict_hsm (Dp.noDict (.tup h1 h2))) hg (by omega) (fun _ _ e => e) (fun h' u tk hk => ?_) hz
    exact ⟨.str _, H, I.kept (t' := tk) hk, ⟨_, rfl⟩, q⟩
def gRepr (ds : List D) (A : Hd) : R D := match ds with
  | [d] => match toP (deR A d) with
    | some p => if p.showable = true ∧ p.depth ≤ 60 ∧ p.shown.length ≤ sizeLine then .ok (.str p.shown) A else .stk
    | none => .stk
  | _ => .stk
theorem gRepr_ok : CaD K ct (rRepr K) gRepr := by
  intro W σ io H A xs ds Q h r p
  unfold gRepr at p
  split at p
  · cases r with
    | cons r rs =>
    cases rs
    split at p
    · rename_i q hq
      split at p
      · rename_i hc
        exact ⟨_, q, rfl, deR_ok h r hq, hc.1, hc.2.1, hc.2.2, p.here h (.str _)⟩
      · exact p.elim
    · exact p.elim
  · exact p.elim
end
end DV

set_option Elab.async false
set_option linter.all false
set_option maxRecDepth 100000
/-! DvF: statements by data. -/
namespace DV
open PySem PySem.Spec PyProof.Rows L2

inductive Fl where
  | nx | ret (d : D) | bk | ct
inductive Out where
  | go (f : Fl) (ro : Env) (A : Hd) | err (c : Cl) (fs : List (Str × D)) (ro : Env) (A : Hd) | stk
abbrev SF := Env → Hd → Out

section
variable (K : PySem.W.Frag) (ct : String → Addr)
def SPost (W : WX) (io : Io) (H : Hp) (o : Out) (Z : Ends) : Prop := match o with
  | .go .nx ro A => ∀ σ' io' H', Ext io H io' H' → Sta K ct ro A io' σ' H' → Z.nx σ' H'
  | .go .bk ro A => ∀ σ' io' H', Ext io H io' H' → Sta K ct ro A io' σ' H' → Z.bk σ' H'
  | .go .ct ro A => ∀ σ' io' H', Ext io H io' H' → Sta K ct ro A io' σ' H' → Z.ct σ' H'
  | .go (.ret d) ro A => ∀ v io' H', Ext io H io' H' → HR K ct io' H' A → DR K ct io' H' v d → Z.rt v H'
  | .err c fs ro A => ∀ cls dd σ' io' H', Ext io H io' H' → Sta K ct ro A io' σ' H' → XR K ct io' H' c fs cls dd → W cls dd σ' H'
  | .stk => False
def tS (W : WX) (f : SF) : TS := fun Z σ H => ∃ io A ro, Sta K ct ro A io σ H ∧ SPost K ct W io H (f ro A) Z
end
/-- an expression, then a statement's rest -/
def R.then {α : Type} (r : R α) (ro : Env) (k : α → Hd → Out) : Out := match r with
  | .ok a A => k a A
  | .err c fs A => .err c fs ro A
  | .stk => .stk
@[simp] theorem R.then_ok {α : Type} (a : α) (A : Hd) (ro : Env) (k : α → Hd → Out) : (R.ok a A).then ro k = k a A := rfl
@[simp] theorem R.then_err {α : Type} (c : Cl) (fs : List (Str × D)) (A : Hd) (ro : Env) (k : α → Hd → Out) : (R.err c fs A : R α).then ro k = .err c fs ro A := rfl
@[simp] theorem R.then_stk {α : Type} (ro : Env) (k : α → Hd → Out) : (R.stk : R α).then ro k = .stk := rfl
/-- a statement, then the rest of the block -/
def Out.next (o : Out) (k : Env → Hd → Out) : Out := match o with
  | .go .nx ro A => k ro A
  | o => o
@[simp] theorem Out.next_nx (ro : Env) (A : Hd) (k : Env → Hd → Out) : (Out.go .nx ro A).next k = k ro A := rfl
@[simp] theorem Out.next_bk (ro : Env) (A : Hd) (k : Env → Hd → Out) : (Out.go .bk ro A).next k = .go .bk ro A := rfl
@[simp] theorem Out.next_ct (ro : Env) (A : Hd) (k : Env → Hd → Out) : (Out.go .ct ro A).next k = .go .ct ro A := rfl
@[simp] theorem Out.next_ret (d : D) (ro : Env) (A : Hd) (k : Env → Hd → Out) : (Out.go (.ret d) ro A).next k = .go (.ret d) ro A := rfl
@[simp] theorem Out.next_err (c : Cl) (fs : List (Str × D)) (ro : Env) (A : Hd) (k : Env → Hd → Out) : (Out.err c fs ro A).next k = .err c fs ro A := rfl
@[simp] theorem Out.next_stk (k : Env → Hd → Out) : (Out.stk).next k = .stk := rfl

section
variable {K : PySem.W.Frag} {ct : String → Addr} {W : WX} {σ : L2.St} {io io' : Io} {H H' : Hp} {A A' : Hd} {ro : Env} {Z Z' : Ends}
theorem SPost.ext {o : Out} (e : Ext io H io' H') (h : SPost K ct W io H o Z) : SPost K ct W io' H' o Z := by
  cases o with
  | go f ro A => cases f with
    | nx => exact fun s i h' e2 => h s i h' (e.trans e2)
    | bk => exact fun s i h' e2 => h s i h' (e.trans e2)
    | ct => exact fun s i h' e2 => h s i h' (e.trans e2)
    | ret d => exact fun s i h' e2 => h s i h' (e.trans e2)
  | err c fs ro A => exact fun c d s i h' e2 => h c d s i h' (e.trans e2)
  | stk => exact h
theorem SPost.mono {o : Out} (h : SPost K ct W io H o Z) (h1 : ∀ σ H, Z.nx σ H → Z'.nx σ H) (h2 : ∀ v H, Z.rt v H → Z'.rt v H) (h3 : ∀ σ H, Z.bk σ H → Z'.bk σ H) (h4 : ∀ σ H, Z.ct σ H → Z'.ct σ H) : SPost K ct W io H o Z' := by
  cases o with
  | go f ro A => cases f with
    | nx => exact fun s i h' e q => h1 _ _ (h s i h' e q)
    | bk => exact fun s i h' e q => h3 _ _ (h s i h' e q)
    | ct => exact fun s i h' e q => h4 _ _ (h s i h' e q)
    | ret d => exact fun s i h' e q r => h2 _ _ (h s i h' e q r)
  | err c fs ro A => exact h
  | stk => exact h
/-- the value comes, then the rest -/
theorem Post.then {α β : Type} {rep : Io → Hp → β → α → Prop} {r : R α} {k : α → Hd → Out} (s : Sta K ct ro A io σ H) (h : SPost K ct W io H (r.then ro k) Z) :
    Post K ct rep W σ io H r (fun b H1 => ∃ io1 A1 a, Ext io H io1 H1 ∧ Sta K ct ro A1 io1 σ H1 ∧ rep io1 H1 b a ∧ SPost K ct W io1 H1 (k a A1) Z) := by
  cases r with
  | ok a A1 => exact fun b io1 H1 e h1 r => ⟨io1, A1, a, e, s.mono e h1, r, SPost.ext e h⟩
  | err c fs A1 => exact fun cls dd io1 H1 e h1 x => h cls dd σ io1 H1 e (s.mono e h1) x
  | stk => exact h
theorem SPost.next {o : Out} {k : Env → Hd → Out} (h : SPost K ct W io H (o.next k) Z) : SPost K ct W io H o { Z with nx := fun σ' H' => ∃ io1 A1 ro1, Sta K ct ro1 A1 io1 σ' H' ∧ SPost K ct W io1 H' (k ro1 A1) Z } := by
  cases o with
  | go f ro A => cases f with
    | nx => exact fun s i h' e q => ⟨i, A, ro, q, SPost.ext e h⟩
    | bk => exact h
    | ct => exact h
    | ret d => exact h
  | err c fs ro A => exact h
  | stk => exact h
end

section
variable (X : Cx) (ct : String → Addr) (W : WX)
abbrev PSD (st : Stmt) (f : SF) : Prop := PS X st (tS X.K ct W f)
abbrev PSsD (st : List Stmt) (f : SF) : Prop := PSs X st (tS X.K ct W f)
end
theorem ps_mono {X : Cx} {e : Stmt} {t t' : TS} (h : PS X e t) (m : ∀ Z σ H, t' Z σ H → t Z σ H) : PS X e t' := ⟨fun pins s σ H Q I q => h.run pins s σ H Q I (m _ _ _ q)⟩
theorem pss_mono {X : Cx} {e : List Stmt} {t t' : TS} (h : PSs X e t) (m : ∀ Z σ H, t' Z σ H → t Z σ H) : PSs X e t' := ⟨fun pins s σ H Q I q => h.run pins s σ H Q I (m _ _ _ q)⟩

def sNx : SF := fun ro A => .go .nx ro A
def sSeq (a b : SF) : SF := fun ro A => (a ro A).next b
def sEx (a : EF) : SF := fun ro A => (a ro A).then ro fun _ A1 => .go .nx ro A1
def sRet (a : EF) : SF := fun ro A => (a ro A).then ro fun d A1 => .go (.ret d) ro A1
def sRetN : SF := fun ro A => .go (.ret .non) ro A
def sIf (c : TF) (a b : SF) : SF := fun ro A => (c ro A).then ro fun k A1 => if k then a ro A1 else b ro A1
def sBk : SF := fun ro A => .go .bk ro A
def sCt : SF := fun ro A => .go .ct ro A
/-- where a value goes -/
abbrev GF := D → Env → Hd → R Env
def gNm (i : Nat) : GF := fun d ro A => .ok (ro.set i (some d)) A
def gTs : List GF → List D → Env → Hd → R Env
  | [], [], ro, A => .ok ro A
  | g :: gs, d :: ds, ro, A => (g d ro A).bind fun ro A => gTs gs ds ro A
  | _, _, _, _ => .stk
def gTpl (gs : List GF) : GF := fun d ro A => match d with
  | .tup ds => if ds.length = gs.length then gTs gs ds ro A else .stk
  | _ => .stk
/-- a target's end, no error served -/
def R.out (r : R Env) : Out := match r with
  | .ok ro A => .go .nx ro A
  | _ => .stk
def sAsg (a : EF) (g : GF) : SF := fun ro A => (a ro A).then ro fun d A1 => (g d ro A1).out

section
variable {X : Cx} {ct : String → Addr} {W : WX} {e a b : Expr} {pos : Pos} {fa fb : EF} {ft fu : TF} {fl : AF} {st : Stmt} {sts : List Stmt} {fs gs : SF}
theorem pssd_nil : PSsD X ct W [] sNx := pss_mono pss_nil fun Z σ H ⟨io, A, ro, s, p⟩ => p σ io H Ext.refl s
theorem pssd_cons (h : PSD X ct W st fs) (r : PSsD X ct W sts gs) : PSsD X ct W (st :: sts) (sSeq fs gs) := pss_mono (pss_cons h r) fun Z σ H ⟨io, A, ro, s, p⟩ => ⟨io, A, ro, s, p.next⟩
theorem pssd_one (h : PSD X ct W st fs) : PSsD X ct W [st] fs := pss_one h
theorem psd_pass : PSD X ct W (.Pass pos) sNx := ps_mono ps_pass fun Z σ H ⟨io, A, ro, s, p⟩ => p σ io H Ext.refl s
theorem psd_break : PSD X ct W (.Break pos) sBk := ps_mono ps_break fun Z σ H ⟨io, A, ro, s, p⟩ => p σ io H Ext.refl s
theorem psd_continue : PSD X ct W (.Continue pos) sCt := ps_mono ps_continue fun Z σ H ⟨io, A, ro, s, p⟩ => p σ io H Ext.refl s
theorem psd_expr (h : PD X ct W e fa) (hs : swapsWith e none pos.line X.env = pure false := by rfl) : PSD X ct W (.Expr e pos) (sEx fa) := ps_mono (ps_expr h hs) fun Z σ H ⟨io, A, ro, s, p⟩ =>
  ⟨io, A, ro, s, (Post.then (rep := DR X.K ct) s p).mono fun v H1 ⟨io1, A1, d, e1, s1, r, q⟩ => q σ io1 H1 Ext.refl s1⟩
theorem psd_ret (h : PD X ct W e fa) : PSD X ct W (.Return (some e) pos) (sRet fa) := ps_mono (ps_ret h) fun Z σ H ⟨io, A, ro, s, p⟩ =>
  ⟨io, A, ro, s, (Post.then (rep := DR X.K ct) s p).mono fun v H1 ⟨io1, A1, d, e1, s1, r, q⟩ => q v io1 H1 Ext.refl s1.hr r⟩
theorem psd_retN : PSD X ct W (.Return none pos) sRetN := ps_mono ps_retN fun Z σ H ⟨io, A, ro, s, p⟩ => p .non io H Ext.refl s.hr .non
theorem psd_if {c : Expr} {xs ys : List Stmt} (hc : PDt X ct W c ft) (hx : PSsD X ct W xs fs) (hy : PSsD X ct W ys gs) : PSD X ct W (.If c xs ys pos) (sIf ft fs gs) := ps_mono (ps_if hc hx hy) fun Z σ H ⟨io, A, ro, s, p⟩ =>
  ⟨io, A, ro, s, (Post.then (rep := repB) s p).mono fun k H1 ⟨io1, A1, d, e1, s1, r, q⟩ => by
    rw [show k = d from r]
    cases d with
    | true => exact ⟨io1, A1, ro, s1, q⟩
    | false => exact ⟨io1, A1, ro, s1, q⟩⟩

/-- where a value goes, by data -/
def GPost (K : PySem.W.Frag) (ct : String → Addr) (io : Io) (H : Hp) (r : R Env) (Q : L2.St → Hp → Prop) : Prop := match r with
  | .ok ro A => ∀ σ' io' H', Ext io H io' H' → Sta K ct ro A io' σ' H' → Q σ' H'
  | _ => False
def tG (K : PySem.W.Frag) (ct : String → Addr) (g : GF) : TG := fun v σ H Q => ∃ io A ro d, Sta K ct ro A io σ H ∧ DR K ct io H v d ∧ GPost K ct io H (g d ro A) Q
def tGs (K : PySem.W.Frag) (ct : String → Addr) (g : List D → Env → Hd → R Env) : TGs := fun vs σ H Q => ∃ io A ro ds, Sta K ct ro A io σ H ∧ DRs K ct io H vs ds ∧ GPost K ct io H (g ds ro A) Q
abbrev PGD (X : Cx) (ct : String → Addr) (e : Expr) (g : GF) : Prop := PG X e (tG X.K ct g)
abbrev PGsD (X : Cx) (ct : String → Addr) (e : List Expr) (g : List GF) : Prop := PGs X e (tGs X.K ct (gTs g))
theorem pg_mono {X : Cx} {e : Expr} {t t' : TG} (h : PG X e t) (m : ∀ v σ H Q, t' v σ H Q → t v σ H Q) : PG X e t' := ⟨fun pins s σ H v u Q I r q => h.run pins s σ H v u Q I r (m _ _ _ _ q)⟩
theorem pgs_mono {X : Cx} {e : List Expr} {t t' : TGs} (h : PGs X e t) (m : ∀ v σ H Q, t' v σ H Q → t v σ H Q) : PGs X e t' := ⟨fun pins s σ H v u Q I r q => h.run pins s σ H v u Q I r (m _ _ _ _ q)⟩
theorem GPost.ext {K : PySem.W.Frag} {io io' : Io} {H H' : Hp} {r : R Env} {Q : L2.St → Hp → Prop} (e : Ext io H io' H') (h : GPost K ct io H r Q) : GPost K ct io' H' r Q := by
  cases r with
  | ok ro A => exact fun s i h' e2 => h s i h' (e.trans e2)
  | err c fs A => exact h
  | stk => exact h
theorem pgd_name {i : Nat} {x : Str} (hN : X.N.Nodup) (hi : X.N[i]? = some x) (hx : Loc X.env.scope x) (hf : X.fn x = true ∨ X.env.scope.names.lookup x = some .local := by first | exact .inl rfl | exact .inr rfl | assumption) : PGD X ct (.Name x pos) (gNm i) :=
  pg_mono (pg_name hN hi hx hf) fun v σ H Q ⟨io, A, ro, d, s, r, p⟩ => p _ io H Ext.refl ⟨s.hr, s.env.set r⟩
theorem pgsd_nil : PGsD X ct [] [] := pgs_mono pgs_nil fun vs σ H Q ⟨io, A, ro, ds, s, r, p⟩ => by
  cases r with
  | nil => exact ⟨rfl, p σ io H Ext.refl s⟩
  | cons _ _ => exact p.elim
theorem pgsd_cons {es : List Expr} {g : GF} {gl : List GF} (h : PGD X ct e g) (hr : PGsD X ct es gl) (hs : (assignEach (e :: es) X.env).map (·.2) = assign e X.env :: (assignEach es X.env).map (·.2) := by rfl) : PGsD X ct (e :: es) (g :: gl) :=
  pgs_mono (pgs_cons h hr hs) fun vs σ H Q ⟨io, A, ro, ds, s, r, p⟩ => by
    cases r with
    | nil => exact p.elim
    | @cons v vs d ds r rs =>
      refine ⟨v, vs, rfl, io, A, ro, d, s, r, ?_⟩
      have p : GPost X.K ct io H ((g d ro A).bind fun ro A => gTs gl ds ro A) Q := p
      cases hg : g d ro A with
      | ok ro1 A1 => rw [hg] at p; exact fun σ1 io1 H1 e1 s1 => ⟨io1, A1, ro1, ds, s1, rs.mono e1 s.hr.noT, GPost.ext e1 p⟩
      | err c fs A1 => rw [hg] at p; exact p
      | stk => rw [hg] at p; exact p
theorem pgd_tup {es : List Expr} {k : Nat} {gl : List GF} (hc : X.calm = true) (h : PGsD X ct es gl) (hn : (assignEach es X.env).length = gl.length := by rfl) (hst : (assignEach es X.env).findIdx? (·.1) = none := by rfl) : PGD X ct (.Tuple es k pos) (gTpl gl) :=
  pg_mono (pg_tup hc h hn hst) fun v σ H Q ⟨io, A, ro, d, s, r, p⟩ => by
    unfold gTpl at p
    split at p
    · rename_i ds
      split at p
      · rename_i hl
        cases r with
        | tup q rs => exact ⟨_, _, rfl, q.sq, by rw [rs.length]; exact hl, io, A, ro, ds, s, rs, p⟩
      · exact p.elim
    · exact p.elim
theorem out_post {K : PySem.W.Frag} {io : Io} {H : Hp} {r : R Env} {Z : Ends} (h : SPost K ct W io H r.out Z) : GPost K ct io H r Z.nx := by
  cases r with
  | ok ro A => exact h
  | err c fs A => exact h
  | stk => exact h
theorem psd_asg {tg : Expr} {g : GF} (he : PD X ct W e fa) (hg : PGD X ct tg g) (hs : swapsWithSole [tg] e pos.line X.env = pure false := by rfl) (hw : swappedStores [tg] e X.env = pure none := by rfl)
    (h1 : (assignEach [tg] X.env).map (·.2) = [assign tg X.env] := by rfl) : PSD X ct W (.Assign [tg] e pos) (sAsg fa g) :=
  ps_mono (ps_asg he hg hs hw h1) fun Z σ H ⟨io, A, ro, s, p⟩ =>
    ⟨io, A, ro, s, (Post.then (rep := DR X.K ct) s p).mono fun v H1 ⟨io1, A1, d, e1, s1, r, q⟩ => ⟨io1, A1, ro, d, s1, r, out_post q⟩⟩
theorem psd_set {i : Nat} {x : Str} {pos' : Pos} (hN : X.N.Nodup) (hi : X.N[i]? = some x) (hx : Loc X.env.scope x) (he : PD X ct W e fa) (hs : swapsWith e (some (.Name x pos')) pos.line X.env = pure false := by rfl) (hf : X.fn x = true ∨ X.env.scope.names.lookup x = some .local := by first | exact .inl rfl | exact .inr rfl | assumption) :
    PSD X ct W (.Assign [.Name x pos'] e pos) (sAsg fa (gNm i)) :=
  ps_mono (ps_set hN hi hx he hs hf) fun Z σ H ⟨io, A, ro, s, p⟩ =>
    ⟨io, A, ro, s, (Post.then (rep := DR X.K ct) s p).mono fun v H1 ⟨io1, A1, d, e1, s1, r, q⟩ => q _ io1 H1 Ext.refl ⟨s1.hr, s1.env.set r⟩⟩

/-- x, y = a, b (and three), plain names: one after another by their places -/
def sPar (a : AF) (is : List Nat) : SF := fun ro A => (a ro A).then ro fun ds A1 => if ds.length = is.length then .go .nx ((is.zip ds).foldl (fun ro p => ro.set p.1 (some p.2)) ro) A1 else .stk
theorem psd_par {i j : Nat} {x y : Str} {px py pt : Pos} {kt k2 pt2} (hc : X.calm = true) (hN : X.N.Nodup) (hi : X.N[i]? = some x) (hj : X.N[j]? = some y) (hij : i ≠ j)
    (hx : X.env.scope.names.lookup x = some .local) (hy : X.env.scope.names.lookup y = some .local) (ha : PDa X ct W [a, b] fl)
    (hw : swappedStores [.Tuple [.Name x px, .Name y py] kt pt] (.Tuple [a, b] k2 pt2) X.env = pure (some [x, y]))
    (hs : swapsWithSole [.Tuple [.Name x px, .Name y py] kt pt] (.Tuple [a, b] k2 pt2) pos.line X.env = pure false := by rfl) :
    PSD X ct W (.Assign [.Tuple [.Name x px, .Name y py] kt pt] (.Tuple [a, b] k2 pt2) pos) (sPar fl [i, j]) :=
  ps_mono (ps_par hc hN hi hj hij hx hy ha hw hs) fun Z σ H ⟨io, A, ro, s, p⟩ =>
    ⟨io, A, ro, s, (Post.then (rep := DRs X.K ct) s p).mono fun v H1 ⟨io1, A1, d, e1, s1, r, q⟩ => by
      split at q
      · cases r with
        | nil => rename_i hl; cases hl
        | cons r rs => cases rs with
          | nil => rename_i hl; cases hl
          | cons r2 rs => cases rs with
            | nil => exact ⟨_, _, rfl, q _ io1 H1 Ext.refl ⟨s1.hr, (s1.env.set r).set r2⟩⟩
            | cons _ _ => rename_i hl; cases hl
      · exact q.elim⟩
end
end DV

set_option Elab.async false
set_option linter.all false
set_option maxRecDepth 100000
/-! DvG: what changes: stores by place, op= , methods of lists; loops. -/
namespace DV
open PySem PySem.Spec PyProof.Rows L2
section
variable {K : PySem.W.Frag} {ct : String → Addr} {W : WX} {σ : L2.St} {io io' : Io} {H H' : Hp} {A A' : Hd} {ro : Env}
theorem Ext.write {a : Addr} {o : HO} (ha : a ∈ io.nm) (hi : ∃ u, H a = some u) : Ext io H io (upd H a o) := by
  refine ⟨⟨[], by simp⟩, fun _ h => h, fun _ h => .inl h, fun b h k => absurd h k, fun b x e k => ?_, fun b x e => ?_⟩
  · rw [upd_ne (fun z : b = a => k (z ▸ ha))]; exact e
  · by_cases hb : b = a
    · subst hb; exact ⟨o, upd_same⟩
    · exact ⟨x, by rw [upd_ne hb]; exact e⟩
theorem HR.tracked {n : Nat} {a : Addr} (h : HR K ct io H A) (e : io.nm[n]? = some a) : a ∈ io.nm ∧ ∃ u, H a = some u := by
  refine ⟨List.mem_of_getElem? e, ?_⟩
  obtain ⟨m, hm⟩ := h.has e
  have mr := h.get e hm
  cases m with
  | lst ds => obtain ⟨xs, q, _⟩ := mr; exact ⟨_, q⟩
  | dic es => obtain ⟨xs, q, _⟩ := mr; exact ⟨_, q⟩
  | ins c fs => obtain ⟨dx, gs, q, _⟩ := mr; exact ⟨_, q⟩
theorem HR.write {n : Nat} {a : Addr} {o : HO} {m : M} (h : HR K ct io H A) (e : io.nm[n]? = some a) (hm : MR K ct io (upd H a o) a m) : HR K ct io (upd H a o) (A.set n m) := by
  obtain ⟨ha, hu⟩ := h.tracked e
  have x : Ext io H io (upd H a o) := Ext.write ha hu
  refine ⟨h.nd, by rw [List.length_set]; exact h.len, fun k b m' e1 e2 => ?_, fun b hb => ?_⟩
  · by_cases hk : n = k
    · subst hk
      have hl : n < A.length := by rw [← h.len]; exact (List.getElem?_eq_some_iff.mp e).1
      rw [List.getElem?_set_self hl] at e2
      rw [e] at e1
      cases e1; cases e2
      exact hm
    · rw [List.getElem?_set_ne hk] at e2
      refine (h.at_ k b m' e1 e2).mono x h.noT fun u q => ?_
      have hb : b ≠ a := fun z => by
        subst z
        obtain ⟨h1, q1⟩ := List.getElem?_eq_some_iff.mp e
        obtain ⟨h2, q2⟩ := List.getElem?_eq_some_iff.mp e1
        exact hk ((List.getElem_inj h.nd).mp (q1.trans q2.symm))
      rw [upd_ne hb]
      exact q
  · obtain ⟨h1, xs, h2⟩ := h.hid b hb
    exact ⟨h1, xs, by rw [upd_ne (fun z : b = a => h1 (z ▸ ha))]; exact h2⟩
/-- the object under n becomes m -/
theorem Sta.write {n : Nat} {a : Addr} {o : HO} {m : M} (s : Sta K ct ro A io σ H) (e : io.nm[n]? = some a) (hm : MR K ct io (upd H a o) a m) : Sta K ct ro (A.set n m) io σ (upd H a o) := by
  obtain ⟨ha, hu⟩ := s.hr.tracked e
  exact ⟨s.hr.write e hm, s.env.mono (Ext.write ha hu) s.hr.noT⟩
theorem HR.extW {n : Nat} {a : Addr} {o : HO} (h : HR K ct io H A) (e : io.nm[n]? = some a) : Ext io H io (upd H a o) := by
  obtain ⟨ha, hu⟩ := h.tracked e
  exact Ext.write ha hu
/-- the list under a number -/
def numL (A : Hd) : D → Option (Nat × List D)
  | .ref n => match A[n]? with
    | some (.lst ds) => some (n, ds)
    | _ => none
  | _ => none
theorem numL_ok {v : V} {d : D} {n : Nat} {ds : List D} (h : HR K ct io H A) (r : DR K ct io H v d) (e : numL A d = some (n, ds)) : ∃ a xs, v = .ref a ∧ d = .ref n ∧ io.nm[n]? = some a ∧ H a = some (.lst xs) ∧ DRs K ct io H xs ds := by
  cases r with
  | ref q =>
    obtain ⟨m, hm⟩ := h.has q
    have mr := h.get q hm
    unfold numL at e
    dsimp only at e
    rw [hm] at e
    cases m with
    | lst es => cases e; obtain ⟨xs, q1, rs⟩ := mr; exact ⟨_, xs, rfl, rfl, q, q1, rs⟩
    | dic es => cases e
    | ins c fs => cases e
  | _ => cases e
def numD (A : Hd) : D → Option (Nat × List (Key × D))
  | .ref n => match A[n]? with
    | some (.dic es) => some (n, es)
    | _ => none
  | _ => none
theorem numD_ok {v : V} {d : D} {n : Nat} {es : List (Key × D)} (h : HR K ct io H A) (r : DR K ct io H v d) (e : numD A d = some (n, es)) : ∃ a kvs, v = .ref a ∧ d = .ref n ∧ io.nm[n]? = some a ∧ H a = some (.dK kvs) ∧ kvs.map (·.1) = es.map (·.1) ∧ DRs K ct io H (kvs.map (·.2)) (es.map (·.2)) := by
  cases r with
  | ref q =>
    obtain ⟨m, hm⟩ := h.has q
    have mr := h.get q hm
    unfold numD at e
    dsimp only at e
    rw [hm] at e
    cases m with
    | dic es => cases e; obtain ⟨xs, q1, k, rs⟩ := mr; exact ⟨_, xs, rfl, rfl, q, q1, k, rs⟩
    | lst es => cases e
    | ins c fs => cases e
  | _ => cases e
def putD (es : List (Key × D)) (k : Key) (v : D) : List (Key × D) :=
  if (es.any fun kv => decide (kv.1 = k)) = true then es.map (fun kv => if kv.1 = k then (kv.1, v) else kv) else es ++ [(k, v)]
def dropD (es : List (Key × D)) (k : Key) : List (Key × D) := es.filter fun kv => decide (kv.1 ≠ k)
theorem keys_any (k : Key) : ∀ {kvs : List (Key × V)} {es : List (Key × D)}, kvs.map (·.1) = es.map (·.1) → (kvs.any fun kv => decide (kv.1 = k)) = es.any fun kv => decide (kv.1 = k)
  | [], [], _ => rfl
  | [], _ :: _, e => by cases e
  | _ :: _, [], e => by cases e
  | p :: kvs, q :: es, e => by
    rw [List.map_cons, List.map_cons] at e
    rw [List.any_cons, List.any_cons, keys_any k (List.cons.inj e).2, (List.cons.inj e).1]
theorem put_keys (k : Key) (v : V) (d : D) {kvs : List (Key × V)} {es : List (Key × D)} (e : kvs.map (·.1) = es.map (·.1)) : (putK kvs k v).map (·.1) = (putD es k d).map (·.1) := by
  unfold putK putD
  rw [keys_any k e]
  split
  · have h1 : ∀ l : List (Key × V), (l.map fun kv => if kv.1 = k then (kv.1, v) else kv).map (·.1) = l.map (·.1) := fun l => by
      rw [List.map_map]
      refine List.map_congr_left fun kv _ => ?_
      show (if kv.1 = k then (kv.1, v) else kv).1 = kv.1
      split <;> rfl
    have h2 : ∀ l : List (Key × D), (l.map fun kv => if kv.1 = k then (kv.1, d) else kv).map (·.1) = l.map (·.1) := fun l => by
      rw [List.map_map]
      refine List.map_congr_left fun kv _ => ?_
      show (if kv.1 = k then (kv.1, d) else kv).1 = kv.1
      split <;> rfl
    rw [h1, h2, e]
  · rw [List.map_append, List.map_append, e]
    rfl
theorem put_vals {k : Key} {v : V} {d : D} (r : DR K ct io H v d) : ∀ {kvs : List (Key × V)} {es : List (Key × D)}, kvs.map (·.1) = es.map (·.1) → DRs K ct io H (kvs.map (·.2)) (es.map (·.2)) → DRs K ct io H ((putK kvs k v).map (·.2)) ((putD es k d).map (·.2)) := by
  intro kvs es e rs
  unfold putK putD
  rw [keys_any k e]
  split
  · have go : ∀ {kvs : List (Key × V)} {es : List (Key × D)}, kvs.map (·.1) = es.map (·.1) → DRs K ct io H (kvs.map (·.2)) (es.map (·.2)) →
        DRs K ct io H ((kvs.map fun kv => if kv.1 = k then (kv.1, v) else kv).map (·.2)) ((es.map fun kv => if kv.1 = k then (kv.1, d) else kv).map (·.2)) := by
      intro kvs
      induction kvs with
      | nil => intro es e rs; cases es with
        | nil => exact .nil
        | cons _ _ => cases e
      | cons p kvs ih => intro es e rs; cases es with
        | nil => cases e
        | cons q es =>
          rw [List.map_cons, List.map_cons] at e rs
          cases rs with
          | cons r1 rs =>
            have h1 : p.1 = q.1 := (List.cons.inj e).1
            have ih := ih (List.cons.inj e).2 rs
            rw [List.map_cons, List.map_cons, List.map_cons, List.map_cons]
            refine .cons ?_ ih
            rw [h1]
            split
            · exact r
            · exact r1
    exact go e rs
  · rw [List.map_append, List.map_append]
    exact rs.append (.cons r .nil)

/-! ### o[i] = v -/
def setD (x y d : D) (ro : Env) (A : Hd) : R Env := match numL A x, y with
  | some (n, ds), .int k => match ixN ds.length k with
    | some j => .ok ro (A.set n (.lst (ds.set j d)))
    | none => .stk
  | some _, _ => .stk
  | none, y => match numD A x, keyD y with
    | some (n, es), some k => if es.length < sizeLine then .ok ro (A.set n (.dic (putD es k d))) else .stk
    | _, _ => .stk
abbrev rSetX : TSet := fun o i v H Q => rSetL o i v H Q ∨ rSetD o i v H Q
theorem set_X {X : Cx} (hu : X.A.units + 1 < cLine) : PSet X rSetX := by
  intro pins s σ H o i v ov iv u Q I ro ri rv h
  rcases h with h | h
  · exact set_list pins s σ H o i v ov iv u Q I ro ri rv h
  · exact set_dict hu pins s σ H o i v ov iv u Q I ro ri rv h
theorem setD_ok {x y v : V} {dx dy d : D} {Q : Hp → Prop} (s : Sta K ct ro A io σ H) (rx : DR K ct io H x dx) (ry : DR K ct io H y dy) (r : DR K ct io H v d)
    (p : GPost K ct io H (setD dx dy d ro A) (fun σ' H' => σ' = σ → Q H')) : rSetX x y v H Q := by
  unfold setD at p
  split at p
  · rename_i n ds k hn
    obtain ⟨a, xs, rfl, rfl, hio, hH, rs⟩ := numL_ok s.hr rx hn
    cases ry
    split at p
    · rename_i j hj
      refine .inl ⟨a, xs, k, j, rfl, rfl, hH, by rw [rs.length]; exact hj, ?_⟩
      have x1 := s.hr.extW (o := .lst (xs.set j v)) hio
      exact p σ io _ x1 (s.write hio ⟨_, upd_same, (rs.set r j).mono x1 s.hr.noT⟩) rfl
    · exact p.elim
  · exact p.elim
  · split at p
    · rename_i n es k hn hk
      obtain ⟨a, kvs, rfl, rfl, hio, hH, ek, rs⟩ := numD_ok s.hr rx hn
      have ey := keyD_ok ry hk
      subst ey
      split at p
      · rename_i hz
        have hl : kvs.length = es.length := by simpa using congrArg List.length ek
        have x1 := s.hr.extW (o := .dK (putK kvs k v)) hio
        exact .inr ⟨a, _, rfl, DPut.k hH (by rw [hl]; exact hz), p σ io _ x1 (s.write hio ⟨_, upd_same, put_keys k v d ek, (put_vals r ek rs).mono x1 s.hr.noT⟩) rfl⟩
      · exact p.elim
    · exact p.elim
end
def gAt (o i : EF) : GF := fun d ro A => (o ro A).bind fun x A1 => (i ro A1).bind fun y A2 => setD x y d ro A2
section
variable {X : Cx} {ct : String → Addr} {W : WX} {e a b o i : Expr} {pos : Pos} {fa fb fo fi : EF}
theorem tD_G {K : PySem.W.Frag} {σ : L2.St} {io : Io} {H : Hp} {A : Hd} {ro : Env} {k : D → Hd → R Env} {Q : L2.St → Hp → Prop} (s : Sta K ct ro A io σ H) (p : GPost K ct io H ((fa ro A).bind k) Q) :
    tD K ct (fun _ _ _ _ => False) fa σ H (fun v H1 => ∃ io1 A1 d, Ext io H io1 H1 ∧ Sta K ct ro A1 io1 σ H1 ∧ DR K ct io1 H1 v d ∧ GPost K ct io1 H1 (k d A1) Q) := by
  refine ⟨io, A, ro, s, ?_⟩
  cases h : fa ro A with
  | ok d A1 => rw [h] at p; exact fun v io1 H1 e1 h1 r => ⟨io1, A1, d, e1, s.mono e1 h1, r, GPost.ext e1 p⟩
  | err c fs A1 => rw [h] at p; exact p.elim
  | stk => rw [h] at p; exact p
theorem pgd_at (ho : PD X ct (fun _ _ _ _ => False) o fo) (hi : PD X ct (fun _ _ _ _ => False) i fi) (hu : X.A.units + 1 < cLine)
    (ha : ∀ v, assign (.Subscript o i pos) X.env v = (do
      let ov ← holding [v] (eval o X.env)
      let iv ← holding [v, ov] (eval i X.env)
      standAt pos
      holding [v, ov, iv] (setItem ov iv v)
      release [v, ov, iv] []) := by intro _; rfl) : PGD X ct (.Subscript o i pos) (gAt fo fi) :=
  pg_mono (pg_sub ho hi (set_X hu) ha) fun v σ H Q ⟨io, A, ro, d, s, r, p⟩ => by
    obtain ⟨jo, jA, jr, js, jp⟩ := tD_G (fa := fo) s p
    refine ⟨jo, jA, jr, js, jp.mono fun x H1 ⟨io1, A1, dx, e1, s1, rx, p1⟩ => ?_⟩
    obtain ⟨ko, kA, kr, ks, kp⟩ := tD_G (fa := fi) s1 p1
    refine ⟨ko, kA, kr, ks, kp.mono fun y H2 ⟨io2, A2, dy, e2, s2, ry, p2⟩ => ?_⟩
    refine setD_ok s2 (rx.mono e2 s1.hr.noT) ry ((r.mono e1 s.hr.noT).mono e2 s1.hr.noT) ?_
    cases hs : setD dx dy d ro A2 with
    | ok ro1 A3 =>
      rw [hs] at p2
      exact fun σ' io' H' ex st hσ => by have := p2 σ' io' H' ex st; rw [hσ] at this; exact this
    | err c fs A3 => rw [hs] at p2; exact p2
    | stk => rw [hs] at p2; exact p2
end
end DV

set_option Elab.async false
set_option linter.all false
set_option maxRecDepth 100000
/-! DvH: what is walked, for, while, list comprehensions by data. -/
namespace DV
open PySem PySem.Spec PyProof.Rows L2

/-- what is walked: items by value, or a numbered list that stays as it is -/
inductive Src where
  | fix (ds : List D) | num (n : Nat) (ds : List D) | mix (ds : List D) (ks : List (Nat × List D))
def Src.items : Src → List D
  | .fix ds => ds
  | .num _ ds => ds
  | .mix ds _ => ds
def Src.here : Src → Hd → Prop
  | .fix _, _ => True
  | .num n ds, A => A[n]? = some (.lst ds)
  | .mix _ ks, A => ∀ p ∈ ks, A[p.1]? = some (.lst p.2)
abbrev IF := Env → Hd → R Src

section
variable (K : PySem.W.Frag) (ct : String → Addr)
/-- J walks s from the state (io, H) on -/
def WalkR : Io → Hp → It → Src → Prop := fun io H J s => ∀ io2 H2 A2, Ext io H io2 H2 → HR K ct io2 H2 A2 → s.here A2 →
  (∀ i d, s.items[i]? = some d → J.go i H2 ∧ ∀ x H3, J.yld i H2 x H3 → Ext io2 H2 io2 H3 ∧ HR K ct io2 H3 A2 ∧ DR K ct io2 H3 x d) ∧ ∀ i, s.items.length ≤ i → J.stop i H2
def tI (W : WX) (f : IF) : TI := fun σ H Q => ∃ io A ro, Sta K ct ro A io σ H ∧ Post K ct (WalkR K ct) W σ io H (f ro A) Q
end
abbrev PID (X : Cx) (ct : String → Addr) (W : WX) (tg e : Expr) (f : IF) : Prop := PI X tg e (tI X.K ct W f)
theorem pi_mono {X : Cx} {tg e : Expr} {t t' : TI} (h : PI X tg e t) (m : ∀ σ H Q, t' σ H Q → t σ H Q) : PI X tg e t' := ⟨fun pins s σ H Q I q => h.run pins s σ H Q I (m _ _ _ q)⟩

/-! ### loops -/
/-- behind a turn: on, or out -/
def Out.loop (o : Out) (k : Env → Hd → Out) : Out := match o with
  | .go .nx ro A => k ro A
  | .go .ct ro A => k ro A
  | .go .bk ro A => .go .nx ro A
  | o => o
@[simp] theorem Out.loop_nx (ro : Env) (A : Hd) (k : Env → Hd → Out) : (Out.go .nx ro A).loop k = k ro A := rfl
@[simp] theorem Out.loop_ct (ro : Env) (A : Hd) (k : Env → Hd → Out) : (Out.go .ct ro A).loop k = k ro A := rfl
@[simp] theorem Out.loop_bk (ro : Env) (A : Hd) (k : Env → Hd → Out) : (Out.go .bk ro A).loop k = .go .nx ro A := rfl
@[simp] theorem Out.loop_ret (d : D) (ro : Env) (A : Hd) (k : Env → Hd → Out) : (Out.go (.ret d) ro A).loop k = .go (.ret d) ro A := rfl
@[simp] theorem Out.loop_err (c : Cl) (fs : List (Str × D)) (ro : Env) (A : Hd) (k : Env → Hd → Out) : (Out.err c fs ro A).loop k = .err c fs ro A := rfl
@[simp] theorem Out.loop_stk (k : Env → Hd → Out) : (Out.stk).loop k = .stk := rfl
def whileD (c : TF) (b : SF) : Nat → SF
  | 0 => fun _ _ => .stk
  | n + 1 => fun ro A => (c ro A).then ro fun k A1 => if k then (b ro A1).loop (whileD c b n) else .go .nx ro A1
open Classical in
noncomputable def forD (s : Src) (g : GF) (b : SF) : List D → SF
  | [] => fun ro A => if s.here A then .go .nx ro A else .stk
  | d :: ds => fun ro A => if s.here A then ((g d ro A).out.next b).loop (forD s g b ds) else .stk
noncomputable def sFor (i : IF) (g : GF) (b : SF) : SF := fun ro A => (i ro A).then ro fun s A1 => forD s g b s.items ro A1

section
variable {K : PySem.W.Frag} {ct : String → Addr} {W : WX} {σ : L2.St} {io io' : Io} {H H' : Hp} {A A' : Hd} {ro : Env} {Z Z' : Ends}
theorem SPost.loop {o : Out} {k : Env → Hd → Out} (h : SPost K ct W io H (o.loop k) Z) :
    SPost K ct W io H o { Z with nx := fun σ' H' => ∃ io1 A1 ro1, Ext io H io1 H' ∧ Sta K ct ro1 A1 io1 σ' H' ∧ SPost K ct W io1 H' (k ro1 A1) Z, ct := fun σ' H' => ∃ io1 A1 ro1, Ext io H io1 H' ∧ Sta K ct ro1 A1 io1 σ' H' ∧ SPost K ct W io1 H' (k ro1 A1) Z, bk := Z.nx } := by
  cases o with
  | go f ro A => cases f with
    | nx => exact fun s i h' e q => ⟨i, A, ro, e, q, SPost.ext e h⟩
    | bk => exact h
    | ct => exact fun s i h' e q => ⟨i, A, ro, e, q, SPost.ext e h⟩
    | ret d => exact h
  | err c fs ro A => exact h
  | stk => exact h
end
section
variable {X : Cx} {ct : String → Addr} {W : WX} {e a b : Expr} {pos : Pos} {fa fb : EF} {ft fu : TF} {fl : AF} {sts : List Stmt} {fs : SF}
theorem psd_while (n : Nat) {c : Expr} (hp : PassesOwn (model X.prog X.w) X.A X.env X.xe) (hc : PDt X ct W c ft) (hb : PSsD X ct W sts fs) : PSD X ct W (.While c sts [] pos) (whileD ft fs n) :=
  ps_mono (ps_while hp hc hb) fun Z σ H ⟨io, A, ro, s, p⟩ => by
    refine ⟨fun m σ H => ∃ io A ro, Sta X.K ct ro A io σ H ∧ SPost X.K ct W io H (whileD ft fs m ro A) Z, ⟨n, io, A, ro, s, p⟩, ?_⟩
    rintro m σ H ⟨io, A, ro, s, p⟩
    cases m with
    | zero => exact p.elim
    | succ m =>
      refine ⟨io, A, ro, s, (Post.then (rep := repB) s p).mono fun k H1 ⟨io1, A1, d, e1, s1, r, q⟩ => ?_⟩
      rw [show k = d from r]
      cases d with
      | false => exact q σ io1 H1 Ext.refl s1
      | true =>
        refine ⟨fun σ' H' => ∃ io1 A1 ro1, Sta X.K ct ro1 A1 io1 σ' H' ∧ SPost X.K ct W io1 H' (whileD ft fs m ro1 A1) Z, fun σ' H' h => ⟨m, Nat.lt_succ_self m, h⟩, io1, A1, ro, s1, ?_⟩
        refine q.loop.mono (fun σ H ⟨i, A, r, _, x, y⟩ => ⟨i, A, r, x, y⟩) (fun _ _ h => h) (fun _ _ h => h) (fun σ H ⟨i, A, r, _, x, y⟩ => ⟨i, A, r, x, y⟩)
theorem psd_for {tg iter : Expr} {fi : IF} {g : GF} (hp : PassesOwn (model X.prog X.w) X.A X.env X.xe) (hc : X.calm = true) (hi : PID X ct W tg iter fi) (hg : PGD X ct tg g) (hb : PSsD X ct W sts fs) (hs : ∀ x, foldedSetIterable iter X.env x = pure x := by intro _; rfl) :
    PSD X ct W (.For tg iter sts [] pos) (sFor fi g fs) :=
  ps_mono (ps_for hp hc hi hg hb hs) fun Z σ H ⟨io, A, ro, s, p⟩ => by
    refine ⟨io, A, ro, s, (Post.then (rep := WalkR X.K ct) s p).mono fun J H1 ⟨io1, A1, sr, e1, s1, wk, q⟩ => ?_⟩
    refine ⟨fun i m σ H => ∃ io2 A2 ro2, Ext io1 H1 io2 H ∧ Sta X.K ct ro2 A2 io2 σ H ∧ i + m = sr.items.length ∧ SPost X.K ct W io2 H (forD sr g fs (sr.items.drop i) ro2 A2) Z,
      ⟨sr.items.length, io1, A1, ro, Ext.refl, s1, Nat.zero_add _, q⟩, ?_⟩
    rintro i m σ H ⟨io2, A2, ro2, e2, s2, hm, q2⟩
    cases hd : sr.items.drop i with
    | nil =>
      rw [hd] at q2
      unfold forD at q2
      split at q2
      · rename_i hh
        have hl : sr.items.length ≤ i := by
          have := congrArg List.length hd
          rw [List.length_drop] at this
          simp at this
          omega
        exact .inl ⟨(wk io2 H A2 e2 s2.hr hh).2 i hl, q2 σ io2 H Ext.refl s2⟩
      · exact q2.elim
    | cons d ds =>
      rw [hd] at q2
      unfold forD at q2
      split at q2
      · rename_i hh
        have hx : sr.items[i]? = some d := by
          have := congrArg (fun l => l[0]?) hd
          simpa using this
        have hds : sr.items.drop (i + 1) = ds := by
          have := congrArg (List.drop 1) hd
          simpa [List.drop_drop, Nat.add_comm] using this
        obtain ⟨hgo, hy⟩ := (wk io2 H A2 e2 s2.hr hh).1 i d hx
        have hil : i < sr.items.length := (List.getElem?_eq_some_iff.mp hx).1
        refine .inr ⟨hgo, fun σ' H' => ∃ io3 A3 ro3, Ext io1 H1 io3 H' ∧ Sta X.K ct ro3 A3 io3 σ' H' ∧ SPost X.K ct W io3 H' (forD sr g fs ds ro3 A3) Z,
          fun σ' H' ⟨io3, A3, ro3, e3, s3, q3⟩ => ⟨m - 1, by omega, io3, A3, ro3, e3, s3, by omega, by rw [hds]; exact q3⟩, fun x H3 yy => ?_⟩
        obtain ⟨x1, x2, x3⟩ := hy x H3 yy
        refine ⟨io2, A2, ro2, d, s2.mono x1 x2, x3, ?_⟩
        have q2 := SPost.ext x1 q2
        cases hgd : g d ro2 A2 with
        | err c fs A3 => rw [hgd] at q2; exact q2
        | stk => rw [hgd] at q2; exact q2
        | ok ro3 A3 =>
          rw [hgd] at q2
          intro σ3 io3 H4 e3 s3
          refine ⟨io3, A3, ro3, s3, ?_⟩
          have q3 : SPost X.K ct W io3 H4 ((fs ro3 A3).loop (forD sr g fs ds)) Z := SPost.ext e3 q2
          have e4 := (e2.trans x1).trans e3
          exact q3.loop.mono (fun σ H ⟨i, A, r, x, y, z⟩ => ⟨i, A, r, e4.trans x, y, z⟩) (fun _ _ h => h) (fun _ _ h => h) (fun σ H ⟨i, A, r, x, y, z⟩ => ⟨i, A, r, e4.trans x, y, z⟩)
      · exact q2.elim
end
end DV

set_option Elab.async false
set_option linter.all false
set_option maxRecDepth 100000
/-! DvI: list comprehensions by data; what is walked: lists, tuples, texts, ranges. -/
namespace DV
open PySem PySem.Spec PyProof.Rows L2
section
variable {K : PySem.W.Frag} {ct : String → Addr} {W : WX} {σ : L2.St} {io io' : Io} {H H' : Hp} {A A' : Hd} {ro : Env}
theorem PTup.off {a p : Addr} {xs ys : List V} {o : HO} (e : H p = some (.lst ys)) (h : PTup K H a xs) : PTup K (upd H p o) a xs := by
  rcases h with ⟨u, h, d⟩ | h
  · exact .inl ⟨u, by rw [upd_ne (ne_of h e (by intro z; cases z))]; exact h, d⟩
  · exact .inr h
theorem SqT.off {a p : Addr} {xs ys : List V} {o : HO} (e : H p = some (.lst ys)) (h : SqT K H a xs) : SqT K (upd H p o) a xs := by
  rcases h with (h | ⟨u, h⟩) | h
  · exact .inl (.inl (by rw [upd_ne (ne_of h e (by intro z; cases z))]; exact h))
  · exact .inl (.inr ⟨u, by rw [upd_ne (ne_of h e (by intro z; cases z))]; exact h⟩)
  · exact .inr h
mutual
/-- a held list is filled: the data do not see it -/
theorem DR.step {p : Addr} {ys : List V} {o : HO} (hp : p ∈ io.hd) (e : H p = some (.lst ys)) : ∀ {v : V} {d : D}, DR K ct io H v d → DR K ct io (upd H p o) v d
  | _, _, .non => .non
  | _, _, .bl b => .bl b
  | _, _, .int i => .int i
  | _, _, .str x => .str x
  | _, _, .tup h hs => .tup (PTup.off e h) (DRs.step hp e hs)
  | _, _, .lst n h hs => .lst n (by rw [upd_ne (fun z => n (by rw [z]; exact .inr hp))]; exact h) (DRs.step hp e hs)
  | _, _, .scr h hs => .scr (h.elim (fun ⟨n, u, q⟩ => .inl ⟨n, u, by rw [upd_ne (fun z => n (by rw [z]; exact .inr hp))]; exact q⟩) .inr) (DRs.step hp e hs)
  | _, _, .dic n h k hs => .dic n (by rw [upd_ne (fun z => n (by rw [z]; exact .inr hp))]; exact h) k (DRs.step hp e hs)
  | _, _, .ref h => .ref h
  | _, _, .ty n => .ty n
  | _, _, .own n => .own n
theorem DRs.step {p : Addr} {ys : List V} {o : HO} (hp : p ∈ io.hd) (e : H p = some (.lst ys)) : ∀ {vs : List V} {ds : List D}, DRs K ct io H vs ds → DRs K ct io (upd H p o) vs ds
  | _, _, .nil => .nil
  | _, _, .cons h hs => .cons (DR.step hp e h) (DRs.step hp e hs)
end
mutual
/-- fewer objects are held, the same numbers -/
theorem DR.free (hn : io'.nm = io.nm) (hd : ∀ a ∈ io'.hd, a ∈ io.hd) : ∀ {v : V} {d : D}, DR K ct io H v d → DR K ct io' H v d
  | _, _, .non => .non
  | _, _, .bl b => .bl b
  | _, _, .int i => .int i
  | _, _, .str x => .str x
  | _, _, .tup h hs => .tup h (DRs.free hn hd hs)
  | _, _, .lst n h hs => .lst (fun z => n (z.elim (fun z => .inl (by rw [← hn]; exact z)) fun z => .inr (hd _ z))) h (DRs.free hn hd hs)
  | _, _, .scr h hs => .scr (h.elim (fun ⟨n, q⟩ => .inl ⟨fun z => n (z.elim (fun z => .inl (by rw [← hn]; exact z)) fun z => .inr (hd _ z)), q⟩) .inr) (DRs.free hn hd hs)
  | _, _, .dic n h k hs => .dic (fun z => n (z.elim (fun z => .inl (by rw [← hn]; exact z)) fun z => .inr (hd _ z))) h k (DRs.free hn hd hs)
  | _, _, .ref h => .ref (by rw [hn]; exact h)
  | _, _, .ty n => .ty n
  | _, _, .own n => .own n
theorem DRs.free (hn : io'.nm = io.nm) (hd : ∀ a ∈ io'.hd, a ∈ io.hd) : ∀ {vs : List V} {ds : List D}, DRs K ct io H vs ds → DRs K ct io' H vs ds
  | _, _, .nil => .nil
  | _, _, .cons h hs => .cons (DR.free hn hd h) (DRs.free hn hd hs)
end
theorem MR.step {p a : Addr} {ys : List V} {o : HO} {m : M} (hp : p ∈ io.hd) (e : H p = some (.lst ys)) (ne : a ≠ p) (h : MR K ct io H a m) : MR K ct io (upd H p o) a m := by
  cases m with
  | lst ds => obtain ⟨xs, q, r⟩ := h; exact ⟨xs, by rw [upd_ne ne]; exact q, r.step hp e⟩
  | dic es => obtain ⟨xs, q, k, r⟩ := h; exact ⟨xs, by rw [upd_ne ne]; exact q, k, r.step hp e⟩
  | ins c fs => obtain ⟨dx, gs, q, k, r⟩ := h; exact ⟨dx, gs, by rw [upd_ne ne]; exact q, k, r.step hp e⟩
theorem MR.free {a : Addr} {m : M} (hn : io'.nm = io.nm) (hd : ∀ a ∈ io'.hd, a ∈ io.hd) (h : MR K ct io H a m) : MR K ct io' H a m := by
  cases m with
  | lst ds => obtain ⟨xs, q, r⟩ := h; exact ⟨xs, q, r.free hn hd⟩
  | dic es => obtain ⟨xs, q, k, r⟩ := h; exact ⟨xs, q, k, r.free hn hd⟩
  | ins c fs => obtain ⟨dx, gs, q, k, r⟩ := h; exact ⟨dx, gs, q, k, r.free hn hd⟩
theorem HR.step {p : Addr} {ys zs : List V} (h : HR K ct io H A) (hp : p ∈ io.hd) (e : H p = some (.lst ys)) : HR K ct io (upd H p (.lst zs)) A := by
  refine ⟨h.nd, h.len, fun n a m e1 e2 => (h.at_ n a m e1 e2).step hp e fun z => (h.hid p hp).1 (by rw [← z]; exact List.mem_of_getElem? e1), fun a ha => ⟨(h.hid a ha).1, ?_⟩⟩
  by_cases hb : a = p
  · subst hb; exact ⟨zs, upd_same⟩
  · obtain ⟨xs, q⟩ := (h.hid a ha).2
    exact ⟨xs, by rw [upd_ne hb]; exact q⟩
theorem HR.free (h : HR K ct io H A) (hn : io'.nm = io.nm) (hd : ∀ a ∈ io'.hd, a ∈ io.hd) : HR K ct io' H A :=
  ⟨by rw [hn]; exact h.nd, by rw [hn]; exact h.len, fun n a m e1 e2 => (h.at_ n a m (by rw [← hn]; exact e1) e2).free hn hd, fun a ha => by rw [hn]; exact h.hid a (hd a ha)⟩
theorem Ext.hold {p : Addr} {xs : List V} (n : H p = none) : Ext io H (io.hold p) (upd H p (.lst xs)) := by
  refine ⟨⟨[], by simp [Io.hold]⟩, fun a h => List.mem_cons_of_mem _ h, fun a h => ?_, fun b h k => absurd h k, fun b x e k => ?_, fun b x e => ?_⟩
  · rcases List.mem_cons.mp h with h | h
    · rw [h]; exact .inr n
    · exact .inl h
  · rw [upd_ne (ne_of_none e n)]; exact e
  · exact ⟨x, by rw [upd_ne (ne_of_none e n)]; exact e⟩
theorem HR.hold {p : Addr} {xs : List V} (h : HR K ct io H A) (n : H p = none) : HR K ct (io.hold p) (upd H p (.lst xs)) A := by
  refine ⟨h.nd, h.len, fun k a m e1 e2 => (h.at_ k a m e1 e2).mono (Ext.hold n) h.noT fun o e => by rw [upd_ne (ne_of_none e n)]; exact e, fun a ha => ?_⟩
  rcases List.mem_cons.mp ha with ha | ha
  · subst ha
    exact ⟨fun z => h.ne n (.inl z), xs, upd_same⟩
  · obtain ⟨h1, xs, h2⟩ := h.hid a ha
    exact ⟨h1, xs, by rw [upd_ne (ne_of_none h2 n)]; exact h2⟩
/-- the held list is changed: seen from a state where it was not -/
theorem Ext.stepNew {p : Addr} {o : HO} (x : Ext io H io' H') (n : H p = none) (ht : ∃ u, H' p = some u) : Ext io H io' (upd H' p o) := by
  refine ⟨x.pre, x.hd1, x.hd2, x.fresh, fun b u e k => ?_, fun b u e => ?_⟩
  · rw [upd_ne (ne_of_none e n)]; exact x.keep b u e k
  · obtain ⟨o', e'⟩ := x.there b u e
    exact ⟨o', by rw [upd_ne (ne_of_none e n)]; exact e'⟩
/-- .. no longer held -/
theorem Ext.free {io2 : Io} (x : Ext io H io' H') (hn : io2.nm = io'.nm) (h1 : ∀ a ∈ io.hd, a ∈ io2.hd) (h2 : ∀ a ∈ io2.hd, a ∈ io'.hd) : Ext io H io2 H' :=
  ⟨by rw [hn]; exact x.pre, h1, fun a ha => x.hd2 a (h2 a ha), fun b h k => x.fresh b (by rw [← hn]; exact h) k, x.keep, x.there⟩
end

/-! ### a comprehension's target, its turn -/
inductive Pat where
  | one (i : Nat) | tup (is : List Nat)
def setAll (ro : Env) (is : List Nat) (ds : List D) : Env := (is.zip ds).foldl (fun ro p => ro.set p.1 (some p.2)) ro
def Pat.put (pt : Pat) (d : D) (ro : Env) : Option Env := match pt, d with
  | .one i, d => some (ro.set i (some d))
  | .tup is, .tup ds => if ds.length = is.length then some (setAll ro is ds) else none
  | _, _ => none
def wipeD (ro : Env) : List Nat → Env
  | [] => ro
  | v :: vs => (wipeD ro vs).set v none
/-- no error is let out -/
def R.calm {α : Type} (r : R α) : R α := match r with
  | .err _ _ _ => .stk
  | r => r
open Classical in
noncomputable def compD (s : Src) (pt : Pat) (vs : List Nat) (tt : TF) (te : EF) (ro : Env) : List D → List D → Hd → R (List D)
  | [], acc, A => if s.here A then .ok acc A else .stk
  | d :: ds, acc, A => if s.here A then (match pt.put d (wipeD ro vs) with
      | some ro1 => (tt ro1 A).calm.bind fun b A1 => if b then (te ro1 A1).calm.bind fun y A2 => if acc.length < sizeLine then compD s pt vs tt te ro ds (acc ++ [y]) A2 else .stk else compD s pt vs tt te ro ds acc A1
      | none => .stk) else .stk
noncomputable def eComp (i : IF) (pt : Pat) (vs : List Nat) (tt : TF) (te : EF) : EF := fun ro A => (i ro A).bind fun s A1 => (compD s pt vs tt te ro s.items [] A1).bind fun ds A2 => .ok (.lst ds) A2
noncomputable def eCompM (i : IF) (pt : Pat) (vs : List Nat) (tt : TF) (te : EF) : EF := fun ro A => (i ro A).bind fun s A1 => (compD s pt vs tt te ro s.items [] A1).bind fun ds A2 => .ok (.ref A2.length) (A2 ++ [.lst ds])
def ttYes : TF := fun _ A => .ok true A
def gNames : List Nat → TGs
  | [] => gNil
  | i :: is => gCons (gName i) (gNames is)
def Pat.g (K : PySem.W.Frag) : Pat → TG
  | .one i => gName i
  | .tup is => gTup K is.length (gNames is)
def Pat.slots : Pat → List Nat
  | .one i => [i]
  | .tup is => is
theorem wipe_set {σ : L2.St} {i : Nat} {v : Option V} : ∀ {vs : List Nat}, i ∈ vs → wipe (σ.set i v) vs = wipe σ vs
  | [], h => by cases h
  | j :: vs, h => by
    unfold wipe
    by_cases hij : i ∈ vs
    · rw [wipe_set hij]
    · have hj : i = j := (List.mem_cons.mp h).resolve_right hij
      subst hj
      have go : ∀ (vs : List Nat) (τ : L2.St), i ∉ vs → wipe (τ.set i v) vs = (wipe τ vs).set i v := by
        intro vs
        induction vs with
        | nil => intro τ _; rfl
        | cons k vs ih =>
          intro τ hn
          have h1 : i ≠ k := fun z => hn (by rw [z]; exact List.mem_cons_self)
          have h2 : i ∉ vs := fun z => hn (List.mem_cons_of_mem _ z)
          unfold wipe
          rw [ih τ h2, List.set_comm _ _ h1]
      rw [go vs σ hij]
      rw [List.set_set]
theorem wipe_wipe {σ : L2.St} (vs : List Nat) : wipe (wipe σ vs) vs = wipe σ vs := by
  have go : ∀ (us : List Nat) (τ : L2.St), (∀ i ∈ us, i ∈ vs) → wipe (wipe τ us) vs = wipe τ vs := by
    intro us
    induction us with
    | nil => intro τ _; rfl
    | cons u us ih =>
      intro τ h
      show wipe ((wipe τ us).set u none) vs = wipe τ vs
      rw [wipe_set (h u List.mem_cons_self), ih τ fun i hi => h i (List.mem_cons_of_mem _ hi)]
  exact go vs σ fun i hi => hi
section
variable {K : PySem.W.Frag} {ct : String → Addr} {W : WX} {σ : L2.St} {io io' : Io} {H H' : Hp} {A A' : Hd} {ro : Env}
theorem EnvR.wipe (h : EnvR K ct io H ro σ) : ∀ vs : List Nat, EnvR K ct io H (wipeD ro vs) (L2.wipe σ vs)
  | [] => h
  | v :: vs => by
    have ih := EnvR.wipe h vs
    refine ⟨by show ((wipeD ro vs).set v none).length = ((L2.wipe σ vs).set v none).length; rw [List.length_set, List.length_set, ih.len], fun i d e => ?_⟩
    have e : ((wipeD ro vs).set v none)[i]? = some (some d) := e
    by_cases hi : v = i
    · subst hi
      by_cases hl : v < (wipeD ro vs).length
      · rw [List.getElem?_set_self hl] at e; cases e
      · rw [List.getElem?_eq_none (by rw [List.length_set]; omega)] at e; cases e
    · rw [List.getElem?_set_ne hi] at e
      obtain ⟨w, e1, r⟩ := ih.at_ i d e
      exact ⟨w, by show ((L2.wipe σ vs).set v none)[i]? = _; rw [List.getElem?_set_ne hi]; exact e1, r⟩
/-- the target takes the item -/
theorem Pat.take {pt : Pat} {vs : List Nat} {x : V} {d : D} {ro1 : Env} {Q : L2.St → Hp → Prop} (hs : ∀ i ∈ pt.slots, i ∈ vs) (he : EnvR K ct io H (wipeD ro vs) (L2.wipe σ vs)) (r : DR K ct io H x d) (hp : pt.put d (wipeD ro vs) = some ro1)
    (hQ : ∀ σ2, EnvR K ct io H ro1 σ2 → L2.wipe σ2 vs = L2.wipe σ vs → Q σ2 H) : pt.g K x (L2.wipe σ vs) H Q := by
  cases pt with
  | one i =>
    cases hp
    refine hQ _ (he.set r) ?_
    rw [wipe_set (hs i List.mem_cons_self), wipe_wipe]
  | tup is =>
    unfold Pat.put at hp
    split at hp
    · rename_i h2
      cases h2
    · rename_i is' ds h1
      cases h1
      split at hp
      · rename_i hl
        cases hp
        cases r with
        | @tup a xs _ q rs =>
          refine ⟨a, xs, rfl, q.sq, by rw [rs.length]; exact hl, ?_⟩
          have go : ∀ (is : List Nat) (xs : List V) (ds : List D) (ro0 : Env) (σ0 : L2.St), DRs K ct io H xs ds → ds.length = is.length → (∀ i ∈ is, i ∈ vs) → EnvR K ct io H ro0 σ0 → L2.wipe σ0 vs = L2.wipe σ vs →
              (∀ σ2, EnvR K ct io H (setAll ro0 is ds) σ2 → L2.wipe σ2 vs = L2.wipe σ vs → Q σ2 H) → gNames is xs σ0 H Q := by
            intro is
            induction is with
            | nil =>
              intro xs ds ro0 σ0 rs hl _ h0 hw hQ
              cases rs with
              | nil => exact ⟨rfl, hQ σ0 h0 hw⟩
              | cons _ _ => cases hl
            | cons i is ih =>
              intro xs ds ro0 σ0 rs hl hi h0 hw hQ
              cases rs with
              | nil => cases hl
              | @cons v vs' d ds r rs =>
                refine ⟨v, vs', rfl, ?_⟩
                refine ih vs' ds _ _ rs (by simpa using hl) (fun j hj => hi j (List.mem_cons_of_mem _ hj)) (h0.set r) ?_ hQ
                rw [wipe_set (hi i List.mem_cons_self)]
                exact hw
          exact go is xs ds _ _ rs hl hs he (wipe_wipe vs) hQ
      · cases hp
    · cases hp
end
theorem Post.calm {K : PySem.W.Frag} {ct : String → Addr} {W W' : WX} {σ σ' : L2.St} {io ic : Io} {H Hc : Hp} {α β γ δ : Type} {rep : Io → Hp → β → α → Prop} {rep2 : Io → Hp → δ → γ → Prop} {r : R α} {k : α → Hd → R γ} {Q : δ → Hp → Prop} (h : Post K ct rep2 W σ io H (r.calm.bind k) Q) :
    Post K ct rep W' σ' ic Hc r (fun b H1 => ∃ io1 A1 a, Ext ic Hc io1 H1 ∧ HR K ct io1 H1 A1 ∧ rep io1 H1 b a ∧ Post K ct rep2 W σ io H (k a A1) Q) := by
  cases r with
  | ok a A => exact fun b io1 H1 e h1 r => ⟨io1, A, a, e, h1, r, h⟩
  | err c fs A => exact (show False from h).elim
  | stk => exact h
section
variable {X : Cx} {ct : String → Addr} {W : WX} {e a b : Expr} {pos : Pos} {fa fb : EF} {ft fu : TF} {fl : AF}
abbrev W0 : WX := fun _ _ _ _ => False
/-- the reading of a comprehension, from its function; fin says what is wanted of the list -/
theorem comp_D {K : PySem.W.Frag} {fi : IF} {pt : Pat} {vs : List Nat} {tt : TF} {te : EF} (hs : ∀ i ∈ pt.slots, i ∈ vs) {σ : L2.St} {H : Hp} {Q : VK} {io : Io} {A : Hd} {ro : Env} (st : Sta K ct ro A io σ H) {k : List D → Hd → R D}
    (p : Post K ct (DR K ct) W σ io H ((fi ro A).bind fun s A1 => (compD s pt vs tt te ro s.items [] A1).bind k) Q)
    (fin : ∀ (io2 io3 : Io) H2 A2 p ws ds, io3.nm = io2.nm → io3.hd = p :: io2.hd → HR K ct io3 H2 A2 → H2 p = some (.lst ws) → DRs K ct io3 H2 ws ds → HR K ct io2 H2 A2 → p ∉ io2 → Post K ct (DR K ct) W σ io2 H2 (k ds A2) Q → Q (.ref p) H2) :
    tLc (tI K ct W fi) (pt.g K) (tT K ct W0 tt) (tD K ct W0 te) vs σ H Q := by
  refine ⟨io, A, ro, st, (p.bind (rep := WalkR K ct)).mono ?_⟩
  rintro J H1 ⟨io1, A1, sr, e1, h1, wk, p1⟩ q hq
  have en1 : EnvR K ct io1 H1 ro σ := st.env.mono e1 st.hr.noT
  have x0 : Ext io1 H1 (io1.hold q) (upd H1 q (.lst [])) := Ext.hold hq
  have hqn : q ∉ io1 := h1.ne hq
  refine ⟨fun i m H => ∃ io2 A2 ws acc, io2.hd = q :: io1.hd ∧ Ext io1 H1 io2 H ∧ HR K ct io2 H A2 ∧ H q = some (.lst ws) ∧ DRs K ct io2 H ws acc ∧ i + m = sr.items.length ∧ Post K ct (DR K ct) W σ io1 H1 ((compD sr pt vs tt te ro (sr.items.drop i) acc A2).bind k) Q,
    ⟨sr.items.length, io1.hold q, A1, [], [], rfl, x0, h1.hold hq, upd_same, .nil, Nat.zero_add _, p1⟩, ?_⟩
  rintro i m H2 ⟨io2, A2, ws, acc, hhd, e2, h2, hw, hr, hm, p2⟩
  have hq2 : q ∈ io2.hd := by rw [hhd]; exact List.mem_cons_self
  cases hd : sr.items.drop i with
  | nil =>
    rw [hd] at p2
    unfold compD at p2
    split at p2
    · rename_i hh
      have hl : sr.items.length ≤ i := by
        have := congrArg List.length hd
        rw [List.length_drop] at this
        simp at this
        omega
      have sub : ∀ a ∈ io1.hd, a ∈ io2.hd := fun a ha => by rw [hhd]; exact List.mem_cons_of_mem _ ha
      refine .inl ⟨(wk io2 H2 A2 e2 h2 hh).2 i hl, ?_⟩
      refine fin ⟨io2.nm, io1.hd⟩ io2 H2 A2 q ws acc rfl hhd h2 hw hr (h2.free rfl sub) (fun z => ?_) (Post.ext (e2.free rfl (fun _ h => h) sub) p2)
      rcases z with z | z
      · exact (h2.hid q hq2).1 z
      · exact hqn (.inr z)
    · exact p2.elim
  | cons d ds =>
    rw [hd] at p2
    unfold compD at p2
    split at p2
    · rename_i hh
      have hx : sr.items[i]? = some d := by
        have := congrArg (fun l => l[0]?) hd
        simpa using this
      have hds : sr.items.drop (i + 1) = ds := by
        have := congrArg (List.drop 1) hd
        simpa [List.drop_drop, Nat.add_comm] using this
      obtain ⟨hgo, hy⟩ := (wk io2 H2 A2 e2 h2 hh).1 i d hx
      have hil : i < sr.items.length := (List.getElem?_eq_some_iff.mp hx).1
      refine .inr ⟨hgo, fun H' => ∃ io3 A3 ws acc, io3.hd = q :: io1.hd ∧ Ext io1 H1 io3 H' ∧ HR K ct io3 H' A3 ∧ H' q = some (.lst ws) ∧ DRs K ct io3 H' ws acc ∧ Post K ct (DR K ct) W σ io1 H1 ((compD sr pt vs tt te ro ds acc A3).bind k) Q,
        fun H' ⟨io3, A3, ws, acc, g1, g2, g3, g4, g5, g6⟩ => ⟨m - 1, by omega, io3, A3, ws, acc, g1, g2, g3, g4, g5, by omega, by rw [hds]; exact g6⟩, fun x H3 yy => ?_⟩
      obtain ⟨x1, x2, x3⟩ := hy x H3 yy
      have e3 := e2.trans x1
      have hw3 : H3 q = some (.lst ws) := x1.keep q _ hw (h2.hid q hq2).1
      have hr3 := hr.mono x1 h2.noT
      split at p2
      · rename_i ro1 hput
        refine Pat.take (K := K) hs ((en1.mono e3 h1.noT).wipe vs) x3 hput fun σ2 he hσ => ⟨hσ, ?_⟩
        rw [R.bind_assoc] at p2
        refine ⟨io2, A2, ro1, ⟨x2, he⟩, (Post.calm (rep := repB) p2).mono ?_⟩
        rintro b H4 ⟨io4, A4, b', e4, h4, rb, p4⟩
        rw [show b = b' from rb]
        have e14 := e3.trans e4
        cases b' with
        | false =>
          have s4 : ∀ a ∈ (q :: io1.hd), a ∈ io4.hd := fun a ha => e4.hd1 a (by rw [hhd]; exact ha)
          have f4 : Ext io1 H1 ⟨io4.nm, q :: io1.hd⟩ H4 := e14.free rfl (fun a ha => List.mem_cons_of_mem _ ha) s4
          exact ⟨⟨io4.nm, q :: io1.hd⟩, A4, ws, acc, rfl, f4, h4.free rfl s4, e4.keep q _ hw3 (h2.hid q hq2).1, DRs.free (io := io4) (io' := ⟨io4.nm, q :: io1.hd⟩) rfl s4 (hr3.mono e4 x2.noT), p4⟩
        | true =>
          have p4 : Post K ct (DR K ct) W σ io1 H1 (((te ro1 A4).calm.bind fun y A2 => if acc.length < sizeLine then compD sr pt vs tt te ro ds (acc ++ [y]) A2 else .stk).bind k) Q := p4
          rw [R.bind_assoc] at p4
          refine ⟨io4, A4, ro1, ⟨h4, he.mono e4 x2.noT⟩, (Post.calm (rep := DR K ct) p4).mono ?_⟩
          rintro y H5 ⟨io5, A5, dy, e5, h5, ry, p5⟩
          have e45 := e4.trans e5
          have hw5 : H5 q = some (.lst ws) := e45.keep q _ hw3 (h2.hid q hq2).1
          split at p5
          · rename_i hz
            refine ⟨ws, hw5, by rw [hr.length]; exact hz, ?_⟩
            have s5 : ∀ a ∈ (q :: io1.hd), a ∈ io5.hd := fun a ha => e45.hd1 a (by rw [hhd]; exact ha)
            have hq5 : q ∈ io5.hd := s5 q List.mem_cons_self
            have f5 : Ext io1 H1 ⟨io5.nm, q :: io1.hd⟩ (upd H5 q (.lst (ws ++ [y]))) := ((e3.trans e45).stepNew hq ⟨_, hw5⟩).free rfl (fun a ha => List.mem_cons_of_mem _ ha) s5
            refine ⟨⟨io5.nm, q :: io1.hd⟩, A5, ws ++ [y], acc ++ [dy], rfl, f5, (h5.step hq5 hw5).free rfl s5, upd_same, ?_, p5⟩
            exact DRs.free (io := io5) (io' := ⟨io5.nm, q :: io1.hd⟩) rfl s5 ((((hr3.mono e4 x2.noT).mono e5 h4.noT).append (.cons ry .nil)).step hq5 hw5)
          · exact p5.elim
      · exact p2.elim
    · exact p2.elim
theorem pd_comp {fi : IF} {pt : Pat} {tt : TF} {te : EF} {elt tg iter : Expr} {ifs : List Expr} {scope : Scope} {own : List (Str × Nat)} (hc : X.calm = true) (hN : X.N.Nodup) (hi : PID X ct W tg iter fi) (ok : BlkOk X.N X.env.scope scope own) (hs' : ∀ i ∈ pt.slots, i ∈ own.map (·.2))
    (hg : ∀ (s : Shared) (H : Hp) (C : Addr) (cl : List (Str × Addr)) (fp : List Addr), PG (X.blk s H scope (compEnvC scope cl C X.env) fp) tg (pt.g X.K)) (ht : ∀ (s : Shared) (H : Hp) (C : Addr) (cl : List (Str × Addr)) (fp : List Addr), PTs (X.blk s H scope (compEnvC scope cl C X.env) fp) ifs (tT X.K ct W0 tt))
    (he : ∀ (s : Shared) (H : Hp) (C : Addr) (cl : List (Str × Addr)) (fp : List Addr), PD (X.blk s H scope (compEnvC scope cl C X.env) fp) ct W0 elt te) (hs : ∀ x, foldedSetIterable iter X.env x = pure x := by intro _; rfl) :
    PD X ct W (.ListComp elt [⟨tg, iter, ifs, 0⟩] scope pos) (eComp fi pt (own.map (·.2)) tt te) :=
  pe_mono (pe_lc hc hN hi ok hg ht he hs) fun σ H Q ⟨io, A, ro, s, p⟩ =>
    comp_D hs' s p fun io2 io3 H2 A2 p ws ds g1 g2 g3 g4 g5 g6 g7 g8 => g8.here g6 (.lst g7 g4 (g5.free g1.symm fun a ha => by rw [g2]; exact List.mem_cons_of_mem _ ha))
theorem psd_setComp {fi : IF} {pt : Pat} {tt : TF} {te : EF} {i : Nat} {y : Str} {py spos : Pos} {elt tg iter : Expr} {ifs : List Expr} {scope : Scope} {own : List (Str × Nat)} (hc : X.calm = true) (hN : X.N.Nodup) (hy : X.N[i]? = some y) (hyl : X.env.scope.names.lookup y = some .local)
    (hsw : swapsWith (.ListComp elt [⟨tg, iter, ifs, 0⟩] scope pos) (some (.Name y py)) spos.line X.env = pure true) (hi : PID X ct W tg iter fi) (ok : BlkOk X.N X.env.scope scope own) (hs' : ∀ i ∈ pt.slots, i ∈ own.map (·.2))
    (hg : ∀ (s : Shared) (H : Hp) (C : Addr) (cl : List (Str × Addr)) (fp : List Addr), PG (X.blk s H scope (compEnvC scope cl C X.env) fp) tg (pt.g X.K)) (ht : ∀ (s : Shared) (H : Hp) (C : Addr) (cl : List (Str × Addr)) (fp : List Addr), PTs (X.blk s H scope (compEnvC scope cl C X.env) fp) ifs (tT X.K ct W0 tt))
    (he : ∀ (s : Shared) (H : Hp) (C : Addr) (cl : List (Str × Addr)) (fp : List Addr), PD (X.blk s H scope (compEnvC scope cl C X.env) fp) ct W0 elt te) (hs : ∀ x, foldedSetIterable iter X.env x = pure x := by intro _; rfl) :
    PSD X ct W (.Assign [.Name y py] (.ListComp elt [⟨tg, iter, ifs, 0⟩] scope pos) spos) (sAsg (eComp fi pt (own.map (·.2)) tt te) (gNm i)) :=
  ps_mono (ps_setLc hc hN hy hyl hsw hi ok hg ht he hs) fun Z σ H ⟨io, A, ro, s, p⟩ => by
    have p' : Post X.K ct (DR X.K ct) W σ io H (eComp fi pt (own.map (·.2)) tt te ro A) (fun x H1 => Z.nx (σ.set i (some x)) H1) :=
      (Post.then (rep := DR X.K ct) s p).mono fun v H1 ⟨io1, A1, d, e1, s1, r, q⟩ => q _ io1 H1 Ext.refl ⟨s1.hr, s1.env.set r⟩
    exact comp_D hs' s p' fun io2 io3 H2 A2 p ws ds g1 g2 g3 g4 g5 g6 g7 g8 => g8.here g6 (.lst g7 g4 (g5.free g1.symm fun a ha => by rw [g2]; exact List.mem_cons_of_mem _ ha))
theorem ptsd_nil : PTs X [] (tT X.K ct W ttYes) := ⟨fun pins s σ H Q I ⟨io, A, ro, st, p⟩ => pts_nil.run pins s σ H Q I (p.here st.hr rfl)⟩
theorem ptsd_one {c : Expr} (h : PDt X ct W c ft) : PTs X [c] (tT X.K ct W ft) := pts_one h
end
end DV

set_option Elab.async false
set_option linter.all false
set_option maxRecDepth 100000
/-! DvJ: what is walked; op=; methods of lists; defs by their functions on data. -/
namespace DV
open PySem PySem.Spec PyProof.Rows L2

/-! ### what is walked -/
def charsD (x : Str) : List D := x.cps.toList.map fun c => .str ⟨#[c]⟩
def srcD (d : D) (A : Hd) : Option Src := match d with
  | .tup ds => some (.fix ds)
  | .lst ds => some (.fix ds)
  | .scr ds => some (.fix ds)
  | .str x => some (.fix (charsD x))
  | .ref n => match A[n]? with
    | some (.lst ds) => some (.num n ds)
    | _ => none
  | _ => none
def iSeq (a : EF) : IF := fun ro A => (a ro A).bind fun d A1 => match srcD d A1 with
  | some s => .ok s A1
  | none => .stk
def rangeD (lo : Int) (n : Nat) : List D := (List.range n).map fun i => .int (lo + (i : Nat))
def iRange1 (a : AF) : IF := fun ro A => (a ro A).bind fun ds A1 => match ds with
  | [.int j] => if -(2 ^ 62) ≤ j ∧ j < 2 ^ 62 then .ok (.fix (rangeD 0 j.toNat)) A1 else .stk
  | _ => .stk
def iRange2 (a : AF) : IF := fun ro A => (a ro A).bind fun ds A1 => match ds with
  | [.int i, .int j] => if -(2 ^ 62) ≤ i ∧ i < 2 ^ 62 ∧ -(2 ^ 62) ≤ j ∧ j < 2 ^ 62 then .ok (.fix (rangeD i (j - i).toNat)) A1 else .stk
  | _ => .stk
def enumD (ds : List D) : List D := ds.zipIdx.map fun p => .tup [.int (p.2 : Nat), p.1]
section
variable {K : PySem.W.Frag} {ct : String → Addr} {W : WX} {σ : L2.St} {io io' : Io} {H H' : Hp} {A A' : Hd} {ro : Env}
theorem walkL {a : Addr} {s : Src} (hs : ∀ io2 H2 A2, Ext io H io2 H2 → HR K ct io2 H2 A2 → s.here A2 → ∃ xs, SqL K H2 a xs ∧ DRs K ct io2 H2 xs s.items) : WalkR K ct io H (Itl K a) s := by
  intro io2 H2 A2 e h hh
  obtain ⟨xs, q, rs⟩ := hs io2 H2 A2 e h hh
  refine ⟨fun i d hd => ?_, fun i hi => ⟨xs, q, by rw [rs.length]; exact hi⟩⟩
  obtain ⟨v, h1, h2⟩ := rs.get hd
  refine ⟨⟨xs, v, q, h1⟩, fun x H3 y => ?_⟩
  obtain ⟨rfl, y⟩ := y
  have e1 := y xs q
  rw [h1] at e1
  cases e1
  exact ⟨Ext.refl, h, h2⟩
theorem walkT {a : Addr} {s : Src} (hs : ∀ io2 H2 A2, Ext io H io2 H2 → HR K ct io2 H2 A2 → s.here A2 → ∃ xs, SqT K H2 a xs ∧ DRs K ct io2 H2 xs s.items) : WalkR K ct io H (Itt K a) s := by
  intro io2 H2 A2 e h hh
  obtain ⟨xs, q, rs⟩ := hs io2 H2 A2 e h hh
  refine ⟨fun i d hd => ?_, fun i hi => ⟨xs, q, by rw [rs.length]; exact hi⟩⟩
  obtain ⟨v, h1, h2⟩ := rs.get hd
  refine ⟨⟨xs, v, q, h1⟩, fun x H3 y => ?_⟩
  obtain ⟨rfl, y⟩ := y
  have e1 := y xs q
  rw [h1] at e1
  cases e1
  exact ⟨Ext.refl, h, h2⟩
theorem walkR {lo : Int} {n : Nat} : WalkR K ct io H (Itr lo n) (.fix (rangeD lo n)) := by
  intro io2 H2 A2 e h _
  refine ⟨fun i d hd => ?_, fun i hi => (show n ≤ i from (by simpa [Src.items, rangeD] using hi : n ≤ i))⟩
  have hi : i < n := by
    have := (List.getElem?_eq_some_iff.mp hd).1
    simpa [Src.items, rangeD] using this
  have ed : d = .int (lo + (i : Nat)) := by
    have : (rangeD lo n)[i]? = some d := hd
    unfold rangeD at this
    rw [List.getElem?_map, List.getElem?_range hi] at this
    exact (Option.some.inj this).symm
  refine ⟨hi, fun x H3 y => ?_⟩
  obtain ⟨rfl, rfl⟩ := y
  rw [ed]
  exact ⟨Ext.refl, h, .int _⟩
theorem walkS {x : Str} : WalkR K ct io H (Its x) (.fix (charsD x)) := by
  intro io2 H2 A2 e h _
  refine ⟨fun i d hd => ?_, fun i hi => (show x.cps.size ≤ i from (by simpa [Src.items, charsD] using hi : x.cps.size ≤ i))⟩
  have hd' : (charsD x)[i]? = some d := hd
  unfold charsD at hd'
  rw [List.getElem?_map] at hd'
  cases hc : x.cps.toList[i]? with
  | none => rw [hc] at hd'; cases hd'
  | some c =>
    rw [hc] at hd'
    cases hd'
    have hc' : x.cps[i]? = some c := by rw [← Array.getElem?_toList]; exact hc
    refine ⟨(Array.getElem?_eq_some_iff.mp hc').1, fun v H3 y => ?_⟩
    obtain ⟨rfl, c', h1, rfl⟩ := y
    rw [hc'] at h1
    cases h1
    exact ⟨Ext.refl, h, .str _⟩
/-- a list under its value: read at each later state -/
theorem list_later {v : V} {d : D} {s : Src} (hr : HR K ct io H A) (r : DR K ct io H v d) (e : srcD d A = some s) (hl : asR A d = some s.items) :
    ∃ a, v = .ref a ∧ (∃ xs, SqL K H a xs) ∧ ∀ io2 H2 A2, Ext io H io2 H2 → HR K ct io2 H2 A2 → s.here A2 → ∃ xs, SqL K H2 a xs ∧ DRs K ct io2 H2 xs s.items := by
  obtain ⟨a, xs, rfl, hs, rs⟩ := asR_ok hr r hl
  refine ⟨a, rfl, ⟨xs, hs⟩, fun io2 H2 A2 x h2 hh => ?_⟩
  cases d with
  | lst ds => cases e; obtain ⟨b, ys, e1, q, rs⟩ := asR_ok h2 (r.mono x hr.noT) (ds := ds) rfl; cases e1; exact ⟨ys, q, rs⟩
  | scr ds => cases e; obtain ⟨b, ys, e1, q, rs⟩ := asR_ok h2 (r.mono x hr.noT) (ds := ds) rfl; cases e1; exact ⟨ys, q, rs⟩
  | ref n =>
    unfold srcD at e
    dsimp only at e
    cases hm : A[n]? with
    | none => rw [hm] at e; cases e
    | some m =>
      rw [hm] at e
      cases m with
      | lst ds =>
        cases e
        have hh : A2[n]? = some (.lst ds) := hh
        obtain ⟨b, ys, e1, q, rs⟩ := asR_ok h2 (r.mono x hr.noT) (ds := ds) (by unfold asR asL; dsimp only; rw [hh])
        cases e1
        exact ⟨ys, q, rs⟩
      | dic es => cases e
      | ins c fs => cases e
  | _ => cases hl
end
section
variable {X : Cx} {ct : String → Addr} {W : WX} {e a b tg : Expr} {pos : Pos} {fa fb : EF} {ft fu : TF} {fl : AF}
theorem srcD_asR {d : D} {A : Hd} {s : Src} (e : srcD d A = some s) (h1 : ∀ ds, d ≠ .tup ds) (h2 : ∀ x, d ≠ .str x) : asR A d = some s.items := by
  cases d with
  | tup ds => exact absurd rfl (h1 ds)
  | str x => exact absurd rfl (h2 x)
  | lst ds => cases e; rfl
  | scr ds => cases e; rfl
  | ref n =>
    unfold srcD at e
    dsimp only at e
    cases hm : A[n]? with
    | none => rw [hm] at e; cases e
    | some m =>
      rw [hm] at e
      cases m with
      | lst ds => cases e; unfold asR asL; dsimp only; rw [hm]; rfl
      | dic es => cases e
      | ins c fs => cases e
  | _ => cases e
theorem pid_seq (ha : PD X ct W e fa) : PID X ct W tg e (iSeq fa) := by
  refine ⟨fun pins s σ H Rk I h => ?_⟩
  obtain ⟨io, A, ro, st, p⟩ := h
  unfold iSeq at p
  by_cases ht : ∃ ds A1, fa ro A = .ok (.tup ds) A1
  · obtain ⟨ds, A1, q⟩ := ht
    rw [q, R.bind_ok] at p
    refine (pi_tup ha).run pins s σ H Rk I ⟨io, A, ro, st, ?_⟩
    rw [q]
    intro v io1 H1 e1 h1 r
    cases r with
    | @tup a xs _ hs rs =>
      refine ⟨a, rfl, ⟨xs, hs.sq⟩, p _ io1 H1 e1 h1 (walkT fun io2 H2 A2 x h2 _ => ⟨xs, SqT.ext x h1.noT hs.sq, rs.mono x h1.noT⟩)⟩
  by_cases hx : ∃ x A1, fa ro A = .ok (.str x) A1
  · obtain ⟨x, A1, q⟩ := hx
    rw [q, R.bind_ok] at p
    refine (pi_str ha).run pins s σ H Rk I ⟨io, A, ro, st, ?_⟩
    rw [q]
    intro v io1 H1 e1 h1 r
    cases r with
    | str x => exact ⟨x, rfl, p _ io1 H1 e1 h1 walkS⟩
  refine (pi_list ha).run pins s σ H Rk I ⟨io, A, ro, st, ?_⟩
  cases q : fa ro A with
  | stk => rw [q] at p; exact p
  | err c fs A1 => rw [q] at p; exact p
  | ok d A1 =>
    rw [q, R.bind_ok] at p
    cases hs : srcD d A1 with
    | none => rw [hs] at p; exact p.elim
    | some sr =>
      rw [hs] at p
      intro v io1 H1 e1 h1 r
      obtain ⟨a, rfl, hx1, later⟩ := list_later h1 r hs (srcD_asR hs (fun ds z => ht ⟨ds, A1, by rw [q, z]⟩) fun x z => hx ⟨x, A1, by rw [q, z]⟩)
      exact ⟨a, rfl, hx1, p _ io1 H1 e1 h1 (walkL later)⟩
theorem pid_range1 {p : Pos} (hg : Gl X "range") (hm : X.mg "range" = none) (ha : PDa X ct W [a] fl) (hs : starEach [a] X.env = [(false, eval a X.env)] := by rfl) : PID X ct W tg (.Call (.Name "range" p) [a] [] pos) (iRange1 fl) :=
  pi_mono (pi_range1 hg hm ha hs) fun σ H Q ⟨io, A, ro, st, p⟩ => ⟨io, A, ro, st, (p.bind (rep := DRs X.K ct)).mono fun vs H1 ⟨io1, A1, ds, e1, h1, rs, p1⟩ => by
    split at p1
    · rename_i j
      split at p1
      · rename_i hb
        cases rs with
        | cons r rs => cases rs; cases r; exact ⟨j, rfl, hb.1, hb.2, p1 _ io1 H1 Ext.refl h1 walkR⟩
      · exact p1.elim
    · exact p1.elim⟩
theorem pid_range2 {p : Pos} (hg : Gl X "range") (hm : X.mg "range" = none) (ha : PDa X ct W [a, b] fl) (hs : starEach [a, b] X.env = [(false, eval a X.env), (false, eval b X.env)] := by rfl) (hs2 : starEach [b] X.env = [(false, eval b X.env)] := by rfl) :
    PID X ct W tg (.Call (.Name "range" p) [a, b] [] pos) (iRange2 fl) :=
  pi_mono (pi_range2 hg hm ha hs hs2) fun σ H Q ⟨io, A, ro, st, p⟩ => ⟨io, A, ro, st, (p.bind (rep := DRs X.K ct)).mono fun vs H1 ⟨io1, A1, ds, e1, h1, rs, p1⟩ => by
    split at p1
    · rename_i i j
      split at p1
      · rename_i hb
        cases rs with
        | cons r rs => cases rs with
          | cons r2 rs => cases rs; cases r; cases r2; exact ⟨i, j, rfl, hb, p1 _ io1 H1 Ext.refl h1 walkR⟩
      · exact p1.elim
    · exact p1.elim⟩

/-! ### name op= e -/
def sAug (i : Nat) (g : D → D → Hd → R D) (a : EF) : SF := fun ro A => match ro[i]? with
  | some (some x) => (a ro A).then ro fun y A1 => (g x y A1).then ro fun z A2 => .go .nx (ro.set i (some z)) A2
  | _ => .stk
theorem psd_aug {i : Nat} {x : Str} {op : Operator} {r : V → V → Hp → VK → Prop} {g : D → D → Hd → R D} {pos' : Pos} (hN : X.N.Nodup) (hi : X.N[i]? = some x) (hx : Loc X.env.scope x) (ha : PD X ct W e fa) (hop : PIp X op r) (o : OpD X.K ct r g)
    (hf : X.fn x = true ∨ X.env.scope.names.lookup x = some .local := by first | exact .inl rfl | exact .inr rfl | assumption) : PSD X ct W (.AugAssign (.Name x pos') op e pos) (sAug i g fa) :=
  ps_mono (ps_aug hN hi hx ha hop hf) fun Z σ H ⟨io, A, ro, s, p⟩ => by
    unfold sAug at p
    split at p
    · rename_i d hd
      obtain ⟨v, hv, rv⟩ := s.env.at_ i d hd
      refine ⟨v, hv, io, A, ro, s, (Post.then (rep := DR X.K ct) s p).mono fun y H1 ⟨io1, A1, dy, e1, s1, ry, q⟩ => ?_⟩
      exact o W σ io1 H1 A1 v y d dy _ s1.hr (rv.mono e1 s.hr.noT) ry ((Post.then (rep := DR X.K ct) s1 q).mono fun z H2 ⟨io2, A2, dz, e2, s2, rz, q2⟩ => q2 _ io2 H2 Ext.refl ⟨s2.hr, s2.env.set rz⟩)
    · exact p.elim
abbrev rIpI (g : Int → Int → Int) : V → V → Hp → VK → Prop := ipI g
def gAddI (d e : D) (A : Hd) : R D := match d, e with
  | .int i, .int j => .ok (.int (i + j)) A
  | _, _ => .stk
theorem gAddI_ok {K : PySem.W.Frag} : OpD K ct (ipI fun i j => i + j) gAddI := by
  intro W σ io H A x y d e Q h rx ry p
  unfold gAddI at p
  split at p
  · cases rx; cases ry
    exact ⟨_, _, rfl, rfl, p.here h (.int _)⟩
  · exact p.elim
theorem gSubI_ok {K : PySem.W.Frag} : OpD K ct (ipI fun i j => i - j) gSub := by
  intro W σ io H A x y d e Q h rx ry p
  unfold gSub at p
  split at p
  · cases rx; cases ry
    exact ⟨_, _, rfl, rfl, p.here h (.int _)⟩
  · exact p.elim

/-! ### o.m(..) of a list -/
def isL (A : Hd) (d : D) : Bool := (asR A d).isSome
def eMeth (chk : Hd → D → Bool) (g : D → List D → Hd → R D) (o : EF) (a : AF) : EF := fun ro A => (o ro A).bind fun x A1 => if chk A1 x then (a ro A1).bind fun ds A2 => g x ds A2 else .stk
def MeD (K : PySem.W.Frag) (ct : String → Addr) (r : V → List V → Hp → VK → Prop) (g : D → List D → Hd → R D) : Prop := ∀ (W : WX) σ io H A v x vs ds Q, HR K ct io H A → DR K ct io H v x → DRs K ct io H vs ds → Post K ct (DR K ct) W σ io H (g x ds A) Q → r v vs H Q
theorem meth_D {K : PySem.W.Frag} {T : String} {r : V → List V → Hp → VK → Prop} {g : D → List D → Hd → R D} {chk : Hd → D → Bool} {fo : EF} (o : MeD K ct r g) (hc : ∀ io H A v x, HR K ct io H A → DR K ct io H v x → chk A x = true → tyV K T v H) {σ : L2.St} {H : Hp} {Q : VK} (h : tD K ct W (eMeth chk g fo fl) σ H Q) :
    tBM K T r (tD K ct W fo) (tL K ct W fl) σ H Q := by
  obtain ⟨io, A, ro, s, p⟩ := h
  refine ⟨io, A, ro, s, (p.bind (rep := DR K ct)).mono ?_⟩
  rintro v H1 ⟨io1, A1, x, e1, h1, r1, p1⟩
  split at p1
  · rename_i hk
    refine ⟨hc _ _ _ _ _ h1 r1 hk, io1, A1, ro, s.mono e1 h1, (p1.bind (rep := DRs K ct)).mono ?_⟩
    rintro vs H2 ⟨io2, A2, ds, e2, h2, r2, p2⟩
    exact o W σ io2 H2 A2 v x vs ds Q h2 (r1.mono e2 h1.noT) r2 p2
  · exact p1.elim
theorem isL_ok {K : PySem.W.Frag} : ∀ io H A v x, HR K ct io H A → DR K ct io H v x → isL A x = true → tyV K "list" v H := by
  intro io H A v x h r e
  unfold isL at e
  obtain ⟨ds, hd⟩ := Option.isSome_iff_exists.mp e
  obtain ⟨a, xs, rfl, q, _⟩ := asR_ok h r hd
  exact .inl ⟨rfl, xs, q⟩
def gAppend (x : D) (ds : List D) (A : Hd) : R D := match numL A x, ds with
  | some (n, es), [d] => if es.length < sizeLine then .ok .non (A.set n (.lst (es ++ [d]))) else .stk
  | _, _ => .stk
theorem gAppend_ok {K : PySem.W.Frag} : MeD K ct rAppend gAppend := by
  intro W σ io H A v x vs ds Q h r rs p
  unfold gAppend at p
  split at p
  · rename_i n es d hn
    split at p
    · rename_i hz
      obtain ⟨a, xs, rfl, rfl, hio, hH, rx⟩ := numL_ok h r hn
      cases rs with
      | @cons y _ _ _ ry rs =>
        cases rs
        have x1 := h.extW (o := .lst (xs ++ [y])) hio
        exact ⟨a, xs, y, rfl, rfl, hH, by rw [rx.length]; exact hz, p _ io _ x1 (h.write hio ⟨_, upd_same, (rx.append (.cons ry .nil)).mono x1 h.noT⟩) .non⟩
    · exact p.elim
  · exact p.elim
def gPopAt (x : D) (ds : List D) (A : Hd) : R D := match numL A x, ds with
  | some (n, es), [.int i] => if 0 ≤ i ∧ i < 2 ^ 63 then (match es[i.toNat]? with
    | some y => .ok y (A.set n (.lst (es.eraseIdx i.toNat)))
    | none => .stk) else .stk
  | _, _ => .stk
theorem gPopAt_ok {K : PySem.W.Frag} : MeD K ct rPopAt gPopAt := by
  intro W σ io H A v x vs ds Q h r rs p
  unfold gPopAt at p
  split at p
  · rename_i n es i hn
    split at p
    · rename_i hz
      split at p
      · rename_i y hy
        obtain ⟨a, xs, rfl, rfl, hio, hH, rx⟩ := numL_ok h r hn
        cases rs with
        | cons ri rs =>
          cases rs
          cases ri
          obtain ⟨vy, hv, ry⟩ := rx.get hy
          have hlt : i.toNat < xs.length := (List.getElem?_eq_some_iff.mp hv).1
          have x1 := h.extW (o := .lst (xs.eraseIdx i.toNat)) hio
          refine ⟨a, xs, i, i.toNat, vy, rfl, rfl, hH, by omega, hz.2, seqIndex_of hz.1 (by omega), hv, ?_⟩
          exact p _ io _ x1 (h.write hio ⟨_, upd_same, (rx.eraseIdx _).mono x1 h.noT⟩) (ry.mono x1 h.noT)
      · exact p.elim
    · exact p.elim
  · exact p.elim
end
end DV

set_option Elab.async false
set_option linter.all false
set_option maxRecDepth 100000
/-! DvK: a def's promise by a function on data; its body; its calls. -/
namespace DV
open PySem PySem.Spec PyProof.Rows L2

abbrev FF := List D → Hd → R D
/-- the promise: n arguments, the function F -/
def spD (K : PySem.W.Frag) (ct : String → Addr) (n : Nat) (F : FF) : Sp := fun vs H Q E => ∃ io A ds, vs.length = n ∧ HR K ct io H A ∧ DRs K ct io H vs ds ∧ Post K ct (DR K ct) (fun cls dd _ H' => E cls dd H') [] io H (F ds A) Q

mutual
/-- every number within is below n -/
def D.lt (n : Nat) : D → Bool
  | .tup ds => D.lts n ds
  | .lst ds => D.lts n ds
  | .scr ds => D.lts n ds
  | .dic es => D.ltk n es
  | .ref k => decide (k < n)
  | _ => true
def D.lts (n : Nat) : List D → Bool
  | [] => true
  | d :: ds => D.lt n d && D.lts n ds
def D.ltk (n : Nat) : List (Key × D) → Bool
  | [] => true
  | (_, d) :: es => D.lt n d && D.ltk n es
end
theorem D.lts_all (n : Nat) : ∀ ds : List D, D.lts n ds = ds.all (D.lt n)
  | [] => by simp [D.lts]
  | d :: ds => by simp [D.lts, D.lts_all n ds]
theorem D.ltk_all (n : Nat) : ∀ es : List (Key × D), D.ltk n es = D.lts n (es.map (·.2))
  | [] => by simp [D.lts, D.ltk]
  | (k, d) :: es => by simp [D.lts, D.ltk, D.ltk_all n es]
def M.lt (n : Nat) : M → Bool
  | .lst ds => D.lts n ds
  | .dic es => D.ltk n es
  | .ins _ fs => D.lts n (fs.map (·.2))

section
variable {K : PySem.W.Frag} {ct : String → Addr} {W : WX} {σ : L2.St} {io io' : Io} {H H' : Hp} {A A' : Hd} {ro : Env}
def Io.cut (io : Io) (n : Nat) : Io := ⟨io.nm.take n, io.hd⟩
theorem Io.cut_mem {io : Io} {n : Nat} {a : Addr} (h : a ∈ io.cut n) : a ∈ io := h.elim (fun z => .inl (List.mem_of_mem_take z)) .inr
mutual
theorem DR.lop {n : Nat} : ∀ {v : V} {d : D}, DR K ct io H v d → d.lt n = true → DR K ct (io.cut n) H v d
  | _, _, .non, _ => .non
  | _, _, .bl b, _ => .bl b
  | _, _, .int i, _ => .int i
  | _, _, .str x, _ => .str x
  | _, _, .tup h hs, e => .tup h (DRs.lop hs (by simpa [D.lt] using e))
  | _, _, .lst n h hs, e => .lst (fun z => n (Io.cut_mem z)) h (DRs.lop hs (by simpa [D.lt] using e))
  | _, _, .scr h hs, e => .scr (h.elim (fun ⟨n, q⟩ => .inl ⟨fun z => n (Io.cut_mem z), q⟩) .inr) (DRs.lop hs (by simpa [D.lt] using e))
  | _, _, .dic n h k hs, e => .dic (fun z => n (Io.cut_mem z)) h k (DRs.lop hs (by simpa [D.lt, D.ltk_all] using e))
  | _, _, .ref (n := j) h, e => .ref (by
      have h2 : j < n := by simpa [D.lt] using e
      show (io.nm.take n)[j]? = _
      rw [List.getElem?_take_of_lt h2]; exact h)
  | _, _, .ty n, _ => .ty n
  | _, _, .own n, _ => .own n
theorem DRs.lop {n : Nat} : ∀ {vs : List V} {ds : List D}, DRs K ct io H vs ds → D.lts n ds = true → DRs K ct (io.cut n) H vs ds
  | _, _, .nil, _ => .nil
  | _, _, .cons h hs, e => by
    rw [D.lts, Bool.and_eq_true] at e
    have e' := e
    exact .cons (DR.lop h e'.1) (DRs.lop hs e'.2)
end
theorem MR.lop {n : Nat} {a : Addr} {m : M} (h : MR K ct io H a m) (e : m.lt n = true) : MR K ct (io.cut n) H a m := by
  cases m with
  | lst ds => obtain ⟨xs, q, r⟩ := h; exact ⟨xs, q, r.lop e⟩
  | dic es => obtain ⟨xs, q, k, r⟩ := h; exact ⟨xs, q, k, r.lop (by simpa [M.lt, D.ltk_all] using e)⟩
  | ins c fs => obtain ⟨dx, gs, q, k, r⟩ := h; exact ⟨dx, gs, q, k, r.lop e⟩
mutual
theorem DR.lt_of : ∀ {v : V} {d : D}, DR K ct io H v d → d.lt io.nm.length = true
  | _, _, .non => by simp [D.lt]
  | _, _, .bl b => by simp [D.lt]
  | _, _, .int i => by simp [D.lt]
  | _, _, .str x => by simp [D.lt]
  | _, _, .tup h hs => by simpa [D.lt] using DRs.lt_of hs
  | _, _, .lst n h hs => by simpa [D.lt] using DRs.lt_of hs
  | _, _, .scr h hs => by simpa [D.lt] using DRs.lt_of hs
  | _, _, .dic n h k hs => by simpa [D.lt, D.ltk_all] using DRs.lt_of hs
  | _, _, .ref h => by simpa [D.lt] using (List.getElem?_eq_some_iff.mp h).1
  | _, _, .ty n => by simp [D.lt]
  | _, _, .own n => by simp [D.lt]
theorem DRs.lt_of : ∀ {vs : List V} {ds : List D}, DRs K ct io H vs ds → D.lts io.nm.length ds = true
  | _, _, .nil => by simp [D.lts]
  | _, _, .cons h hs => by simp [D.lts, DR.lt_of h, DRs.lt_of hs]
end
theorem MR.lt_of {a : Addr} {m : M} (h : MR K ct io H a m) : m.lt io.nm.length = true := by
  cases m with
  | lst ds => obtain ⟨xs, q, r⟩ := h; exact r.lt_of
  | dic es => obtain ⟨xs, q, k, r⟩ := h; simpa [M.lt, D.ltk_all] using r.lt_of
  | ins c fs => obtain ⟨dx, gs, q, k, r⟩ := h; exact r.lt_of
theorem D.lt_le {n m : Nat} (h : n ≤ m) : ∀ {d : D}, d.lt n = true → d.lt m = true := by
  intro d
  refine D.rec (motive_1 := fun d => d.lt n = true → d.lt m = true) (motive_2 := fun ds => D.lts n ds = true → D.lts m ds = true) (motive_3 := fun es => D.ltk n es = true → D.ltk m es = true) (motive_4 := fun p => p.2.lt n = true → p.2.lt m = true) ?_ ?_ ?_ ?_ ?_ ?_ ?_ ?_ ?_ ?_ ?_ ?_ ?_ ?_ ?_ d
  all_goals (try (intros; simp [D.lt]; done))
  · intro ds ih e; simp only [D.lt] at e ⊢; exact ih e
  · intro ds ih e; simp only [D.lt] at e ⊢; exact ih e
  · intro ds ih e; simp only [D.lt] at e ⊢; exact ih e
  · intro ds ih e; simp only [D.lt] at e ⊢; exact ih e
  · intro k e; simp only [D.lt, decide_eq_true_eq] at e ⊢; omega
  · intro _; simp [D.lts]
  · intro d ds ih1 ih2 e; simp only [D.lts, Bool.and_eq_true] at e ⊢; exact ⟨ih1 e.1, ih2 e.2⟩
  · intro _; simp [D.ltk]
  · intro p es ih1 ih2 e; obtain ⟨k, d⟩ := p; simp only [D.ltk, Bool.and_eq_true] at e ⊢; exact ⟨ih1 e.1, ih2 e.2⟩
  · intro k d ih e; exact ih e
theorem HR.lop {n : Nat} (h : HR K ct io H A) (hm : ∀ k m, k < n → A[k]? = some m → m.lt n = true) : HR K ct (io.cut n) H (A.take n) := by
  refine ⟨h.nd.sublist (List.take_sublist _ _), by show (io.nm.take n).length = _; rw [List.length_take, List.length_take, h.len], fun k a m e1 e2 => ?_, fun a ha => ⟨fun z => (h.hid a ha).1 (List.mem_of_mem_take z), (h.hid a ha).2⟩⟩
  have hk : k < n := by
    have := (List.getElem?_eq_some_iff.mp e2).1
    rw [List.length_take] at this
    omega
  rw [List.getElem?_take_of_lt hk] at e2
  have e1 : (io.nm.take n)[k]? = some a := e1
  rw [List.getElem?_take_of_lt hk] at e1
  exact (h.at_ k a m e1 e2).lop (hm k m hk e2)
theorem Ext.lop {n : Nat} (x : Ext io H io' H') (hn : io.nm.length ≤ n) : Ext io H (io'.cut n) H' := by
  obtain ⟨more, e⟩ := x.pre
  refine ⟨⟨more.take (n - io.nm.length), ?_⟩, x.hd1, x.hd2, fun b h k => x.fresh b (List.mem_of_mem_take h) k, x.keep, x.there⟩
  show io'.nm.take n = _
  rw [e, List.take_append, List.take_of_length_le hn]

/-- the value that is handed back: a numbered list that is dropped stands by value -/
def frz (n : Nat) (A : Hd) (d : D) : Option D := if d.lt n = true then some d else match d with
  | .ref k => match A[k]? with
    | some (.lst ds) => if D.lts n ds = true then some (.lst ds) else none
    | some (.dic es) => if D.ltk n es = true then some (.dic es) else none
    | _ => none
  | _ => none
theorem frz_ok {n : Nat} {v : V} {d d' : D} (h : HR K ct io H A) (r : DR K ct io H v d) (e : frz n A d = some d') : DR K ct (io.cut n) H v d' := by
  unfold frz at e
  split at e
  · rename_i hl
    cases e
    exact r.lop hl
  · rename_i hl
    split at e
    · rename_i k
      cases r with
      | @ref a _ q =>
        have hk : ¬ k < n := by simpa [D.lt] using hl
        have na : a ∉ io.cut n := fun z => by
          rcases z with z | z
          · obtain ⟨j, hj, ej⟩ := List.getElem_of_mem (show a ∈ io.nm.take n from z)
            have hj' : j < n ∧ j < io.nm.length := by rw [List.length_take] at hj; omega
            rw [List.getElem_take] at ej
            obtain ⟨hk2, ek⟩ := List.getElem?_eq_some_iff.mp q
            have := (List.getElem_inj h.nd).mp (ej.trans ek.symm)
            omega
          · exact (h.hid a z).1 (List.mem_of_getElem? q)
        split at e
        · rename_i ds hm
          split at e
          · rename_i hc
            cases e
            obtain ⟨xs, q1, rs⟩ := h.get q hm
            exact .lst na q1 (rs.lop hc)
          · cases e
        · rename_i es hm
          split at e
          · rename_i hc
            cases e
            obtain ⟨xs, q1, k1, rs⟩ := h.get q hm
            exact .dic na q1 k1 (rs.lop (by rw [← D.ltk_all]; exact hc))
          · cases e
        · cases e
    · cases e

/-- how a body's end gives the function's result: all is kept, or the numbers from n on are dropped -/
def FinV (A : Hd) (d : D) (A' : Hd) (r : R D) : Prop :=
  r = .ok d A' ∨ ∃ n d', A.length ≤ n ∧ frz n A' d = some d' ∧ (∀ k m, k < n → A'[k]? = some m → A[k]? = some m ∨ m.lt n = true) ∧ r = .ok d' (A'.take n)
def FinOk (A : Hd) (o : Out) (r : R D) : Prop := match o with
  | .go (.ret d) _ A' => FinV A d A' r
  | .go .nx _ A' => FinV A .non A' r
  | .err c fs _ A' => r = .err c fs A' ∨ ∃ n, A.length ≤ n ∧ D.lts n (fs.map (·.2)) = true ∧ (∀ k m, k < n → A'[k]? = some m → A[k]? = some m ∨ m.lt n = true) ∧ r = .err c fs (A'.take n)
  | _ => False
theorem fin_cut {n : Nat} (h : HR K ct io H A) (x : Ext io H io' H') (h' : HR K ct io' H' A') (hn : A.length ≤ n) (hm : ∀ k m, k < n → A'[k]? = some m → A[k]? = some m ∨ m.lt n = true) : HR K ct (io'.cut n) H' (A'.take n) ∧ Ext io H (io'.cut n) H' := by
  refine ⟨h'.lop fun k m hk e => ?_, x.lop (by rw [h.len]; exact hn)⟩
  rcases hm k m hk e with q | q
  · have hl : k < io.nm.length := by rw [h.len]; exact (List.getElem?_eq_some_iff.mp q).1
    have mr := h.at_ k io.nm[k] m (List.getElem?_eq_getElem hl) q
    have := mr.lt_of
    cases m with
    | lst ds => simp only [M.lt] at this ⊢; rw [D.lts_all, List.all_eq_true] at this ⊢; exact fun d hd => D.lt_le (by rw [h.len]; exact hn) (this d hd)
    | dic es => simp only [M.lt] at this ⊢; rw [D.ltk_all, D.lts_all, List.all_eq_true] at this ⊢; exact fun d hd => D.lt_le (by rw [h.len]; exact hn) (this d hd)
    | ins c fs => simp only [M.lt] at this ⊢; rw [D.lts_all, List.all_eq_true] at this ⊢; exact fun d hd => D.lt_le (by rw [h.len]; exact hn) (this d hd)
  · exact q
theorem fin_ret {d : D} {r : R D} {v : V} {E : XK} {Q : VK} (h : HR K ct io H A) (x : Ext io H io' H') (h' : HR K ct io' H' A') (rv : DR K ct io' H' v d) (f : FinV A d A' r) (p : Post K ct (DR K ct) (fun cls dd _ H' => E cls dd H') [] io H r Q) : Q v H' := by
  rcases f with rfl | ⟨n, d', hn, hf, hm, rfl⟩
  · exact p v io' H' x h' rv
  · obtain ⟨g1, g2⟩ := fin_cut h x h' hn hm
    exact p v (io'.cut n) H' g2 g1 (frz_ok h' rv hf)
end

/-- the slots at the entry -/
def startD (N : Nat) (ds : List D) : Env := ds.map some ++ List.replicate (N - ds.length) none
theorem start_D {K : PySem.W.Frag} {ct : String → Addr} {io : Io} {H : Hp} {vs : List V} {ds : List D} {N : List Str} (r : DRs K ct io H vs ds) : EnvR K ct io H (startD N.length ds) (L2.start N vs) := by
  unfold startD L2.start
  refine ⟨by simp [r.length], fun i d e => ?_⟩
  by_cases hi : i < ds.length
  · rw [List.getElem?_append_left (by simpa using hi), List.getElem?_map] at e
    cases hd : ds[i]? with
    | none => rw [hd] at e; cases e
    | some d' =>
      rw [hd] at e
      have e' : d' = d := by simpa using e
      subst e'
      obtain ⟨v, hv, rv⟩ := r.get hd
      refine ⟨v, ?_, rv⟩
      rw [List.getElem?_append_left (by simpa [r.length] using hi), List.getElem?_map, hv]
      rfl
  · rw [List.getElem?_append_right (by simpa using hi), List.getElem?_replicate] at e
    split at e <;> cases e

section
variable {P : Program} {w : World} {K : PySem.W.Frag} {mg : Str → Option Value} {base : Heap} {ct : String → Addr}
/-- the context of a def's body -/
abbrev cxD (P : Program) (w : World) (K : PySem.W.Frag) (mg : Str → Option Value) (base : Heap) (N : List Str) (qual : Str) (st : Stmt) (f : Addr) (cdv : Value) (A : Around) (outer : List PySem.Env) (s : Shared) (H : Hp) (E : XK) : Cx :=
  cxOf (L2.CX P w) P w K mg base N qual (defScope st) f cdv A outer s H E
abbrev WD (E : XK) : WX := fun cls d _ H => E cls d H
/-- THE RULE for a def: its derivation fb, and that F is what the body gives -/
theorem okD {x qual : Str} {st : Stmt} {f : Addr} {fd : FuncData} {N ps : List Str} {k : Nat} {F : FF} {fb : SF} (Fn : Fun K x qual st f fd) (S : FnScope N ps (defScope st))
    (drv : ∀ (cdv : Value) (A : Around) (outer : List PySem.Env) (s : Shared) (H : Hp) (E : XK), A.guards = some [] → Room k (A.deeper (envOfC qual (defScope st) s.heap.objs.size f cdv)) → PSsD (cxD P w K mg base N qual st f cdv A outer s H E) ct (WD E) (defBody st) fb)
    (hF : ∀ ds A, ds.length = ps.length → F ds A ≠ .stk → FinOk A (fb (startD N.length ds) A) (F ds A)) : FnG P w K mg base (k + 1) f fd ps (spD K ct ps.length F) := by
  refine okG Fn S (fun vs H Q E ⟨_, _, _, h, _⟩ => h) fun cdv A0 outer s H vs Q E hg hr ⟨io, A, ds, hl, h, rs, p⟩ => ?_
  refine ⟨_, drv cdv A0 outer s H E hg hr, ?_⟩
  refine ⟨io, A, startD N.length ds, ⟨h, start_D rs⟩, ?_⟩
  have hns : F ds A ≠ .stk := fun z => by rw [z] at p; exact p
  have fo := hF ds A (by rw [← rs.length]; exact hl) hns
  cases ho : fb (startD N.length ds) A with
  | stk => rw [ho] at fo; exact fo.elim
  | go fl ro' A' =>
    rw [ho] at fo
    cases fl with
    | bk => exact fo.elim
    | ct => exact fo.elim
    | nx => exact fun σ' io' H' x s' => fin_ret h x s'.hr .non fo p
    | ret d => exact fun v io' H' x h' rv => fin_ret h x h' rv fo p
  | err c fs ro' A' =>
    rw [ho] at fo
    intro cls dd σ' io' H' x s' xr
    rcases fo with q | ⟨n, hn, hf, hm, q⟩
    · rw [q] at p
      exact p cls dd io' H' x s'.hr xr
    · rw [q] at p
      obtain ⟨g1, g2⟩ := fin_cut h x s'.hr hn hm
      refine p cls dd (io'.cut n) H' g2 g1 ⟨xr.cls, ?_⟩
      rcases xr.fds with z | ⟨pp, gs, h1, h2, h3, h4, h5⟩
      · exact .inl z
      · exact .inr ⟨pp, gs, h1, fun z => h2 (Io.cut_mem z), h3, h4, h5.lop hf⟩
end

/-- a def that may be called by the module's name x, with defaults dds -/
structure Cal (P : Program) (w : World) (K : PySem.W.Frag) (mg : Str → Option Value) (base : Heap) (ct : String → Addr) (k : Nat) (x : Str) (n : Nat) (dds : List D) (F : FF) : Prop where
  ex : ∃ f fd ps ds dvs, FnG P w K mg base k f fd ps (spD K ct n F) ∧ mg x = some (.ref f) ∧ PySem.W.keepIn K (.ref f) = true ∧ Binds K fd ps ds ∧ Vals dvs ds ∧ ∀ io H, DRs K ct io H dvs dds
section
variable {X : Cx} {ct : String → Addr} {W : WX} {k : Nat} {f : Addr} {fd : FuncData} {ps : List Str} {n : Nat} {F : FF} {ds : List Value} {dvs : List V} {dds : List D} {x : Str} {p pos : Pos} {e : Expr} {es : List Expr} {fl : AF}
theorem spD_call {n : Nat} {vs : List V} {ds : List D} {σ : L2.St} {io : Io} {H : Hp} {A : Hd} {Q : VK} (hl : vs.length = n) (h : HR X.K ct io H A) (r : DRs X.K ct io H vs ds) (q : Post X.K ct (DR X.K ct) W σ io H (F ds A) Q) : spD X.K ct n F vs H Q (WE W σ) := by
  refine ⟨io, A, ds, hl, h, r, ?_⟩
  cases hF : F ds A with
  | ok d A1 => rw [hF] at q; exact q
  | err c fs A1 => rw [hF] at q; exact q
  | stk => rw [hF] at q; exact q
/-- the arguments are as many -/
def Ar (n : Nat) (fl : AF) : Prop := ∀ ro A ds A', fl ro A = .ok ds A' → ds.length = n
theorem ar_nil : Ar 0 aNil := fun ro A ds A' h => by cases h; rfl
theorem ar_cons {n : Nat} {a : EF} {fl : AF} (h : Ar n fl) : Ar (n + 1) (aCons a fl) := fun ro A ds A' e => by
  unfold aCons at e
  cases ha : a ro A with
  | ok d A1 =>
    rw [ha, R.bind_ok] at e
    cases hl : fl ro A1 with
    | ok ds2 A2 =>
      rw [hl, R.bind_ok] at e
      cases e
      rw [List.length_cons, h _ _ _ _ hl]
    | err c fs A2 => rw [hl] at e; cases e
    | stk => rw [hl] at e; cases e
  | err c fs A1 => rw [ha] at e; cases e
  | stk => rw [ha] at e; cases e
/-- f(e, ..) -/
theorem pd_call {j m : Nat} (c : Cal X.prog X.w X.K X.mg X.base ct k x n dds F) (hgd : X.A.guards = some []) (hr : Room j X.A) (hk : k ≤ j) (hg : Gl X x) (tk : Takes X W) (ha : PDa X ct W (e :: es) fl) (hal : Ar m fl) (hn : m + dds.length = n)
    (hdb : (x == ("__debug__" : Str)) = false := by decide) (he : starEach (e :: es) X.env = (false, eval e X.env) :: starEach es X.env := by rfl) (hpl : (backTo pos (starEach es X.env)).any (·.1) = false := by rfl) :
    PD X ct W (.Call (.Name x p) (e :: es) [] pos) (eArgs (fun ds A => F (ds ++ dds) A) fl) := by
  obtain ⟨f, fd, ps, dsv, dvs, Fn, hm, hkp, hb, hd, hdd⟩ := c.ex
  refine pe_mono (pe_G Fn hgd (hr.mono hk) hg hm hkp hb hd tk ha hdb he hpl) fun σ H Q ⟨io, A, ro, s, q⟩ => ?_
  cases hf : fl ro A with
  | stk => unfold eArgs at q; rw [hf] at q; exact q.elim
  | err c fs A1 => refine ⟨io, A, ro, s, ?_⟩; unfold eArgs at q; rw [hf] at q ⊢; exact q
  | ok ds1 A1 =>
    refine ⟨io, A, ro, s, ?_⟩
    unfold eArgs at q
    rw [hf] at q ⊢
    intro vs io1 H1 e1 h1 r1
    have q : Post X.K ct (DR X.K ct) W σ io H (F (ds1 ++ dds) A1) Q := q
    refine spD_call ?_ h1 (r1.append (hdd io1 H1)) (Post.ext e1 q)
    rw [List.length_append, r1.length, hal ro A ds1 A1 hf, (hdd io1 H1).length]
    exact hn
theorem pd_call0 {j : Nat} (c : Cal X.prog X.w X.K X.mg X.base ct k x n dds F) (hgd : X.A.guards = some []) (hr : Room j X.A) (hk : k ≤ j) (hg : Gl X x) (tk : Takes X W) (hn : dds.length = n) (hdb : (x == ("__debug__" : Str)) = false := by decide) :
    PD X ct W (.Call (.Name x p) [] [] pos) (fun _ A => F dds A) := by
  obtain ⟨f, fd, ps, dsv, dvs, Fn, hm, hkp, hb, hd, hdd⟩ := c.ex
  exact pe_mono (pe_G0 Fn hgd (hr.mono hk) hg hm hkp hb hd tk hdb) fun σ H Q ⟨io, A, ro, s, q⟩ => spD_call (by rw [(hdd io H).length]; exact hn) s.hr (hdd io H) q
theorem Takes.of_takes {X : Cx} {E : XK} (h : Takes X (fun cls d _ H => E cls d H)) : Takes X (WD E) := h
end
end DV

set_option Elab.async false
set_option linter.all false
set_option maxRecDepth 100000
/-! DvL: a def's function from its body; attributes' rules; empty dicts. -/
namespace DV
open PySem PySem.Spec PyProof.Rows L2

def M.ltAll (n : Nat) (A : Hd) : Bool := A.all (M.lt n)
def cutR (A : Hd) (d : D) (A' : Hd) : R D := match frz A.length A' d with
  | some d' => if M.ltAll A.length (A'.take A.length) then .ok d' (A'.take A.length) else .ok d A'
  | none => .ok d A'
/-- the function of a def whose new lists are handed out by value -/
def finR (A : Hd) (o : Out) : R D := match o with
  | .go (.ret d) _ A' => cutR A d A'
  | .go .nx _ A' => cutR A .non A'
  | .err c fs _ A' => .err c fs A'
  | _ => .stk
/-- the function of a def whose new lists keep their numbers -/
def finK (o : Out) : R D := match o with
  | .go (.ret d) _ A' => .ok d A'
  | .go .nx _ A' => .ok .non A'
  | .err c fs _ A' => .err c fs A'
  | _ => .stk
theorem cutR_ok {A A' : Hd} {d : D} : FinV A d A' (cutR A d A') := by
  unfold cutR
  split
  · rename_i d' hd
    split
    · rename_i hl
      refine .inr ⟨A.length, d', Nat.le_refl _, hd, fun k m hk e => .inr ?_, rfl⟩
      unfold M.ltAll at hl
      rw [List.all_eq_true] at hl
      exact hl m (List.mem_of_getElem? (show (A'.take A.length)[k]? = some m by rw [List.getElem?_take_of_lt hk]; exact e))
    · exact .inl rfl
  · exact .inl rfl
theorem finR_ok {A : Hd} {o : Out} (h : finR A o ≠ .stk) : FinOk A o (finR A o) := by
  cases o with
  | stk => exact absurd rfl h
  | go fl ro A' =>
    cases fl with
    | nx => exact (cutR_ok : FinV A .non A' (cutR A .non A'))
    | ret d => exact (cutR_ok : FinV A d A' (cutR A d A'))
    | bk => exact absurd rfl h
    | ct => exact absurd rfl h
  | err c fs ro A' => exact .inl rfl
theorem finK_ok {A : Hd} {o : Out} (h : finK o ≠ .stk) : FinOk A o (finK o) := by
  cases o with
  | stk => exact absurd rfl h
  | go fl ro A' =>
    cases fl with
    | nx => exact .inl rfl
    | ret d => exact .inl rfl
    | bk => exact absurd rfl h
    | ct => exact absurd rfl h
  | err c fs ro A' => exact .inl rfl

section
variable {K : PySem.W.Frag} {ct : String → Addr} {io : Io} {H : Hp} {A : Hd}
/-! ### {} -/
def eDicN : EF := fun _ A => .ok (.dic []) A
def eDicM : EF := fun _ A => .ok (.ref A.length) (A ++ [.dic []])
end

section
variable {X : Cx} {ct : String → Addr} {W : WX} {o e : Expr} {fo : EF} {fl : AF} {pos apos cpos : Pos}
theorem pd_dicN : PD X ct W (.Dict [] [] pos) eDicN := pe_mono pe_dnewK fun σ H Q ⟨io, A, ro, s, p⟩ p' hp => p.new s.hr hp (.dic (s.hr.ne hp) upd_same rfl .nil)
theorem pd_dicM : PD X ct W (.Dict [] [] pos) eDicM := pe_mono pe_dnewK fun σ H Q ⟨io, A, ro, s, p⟩ p' hp => Post.num p s.hr hp ⟨_, upd_same, rfl, .nil⟩
/-! ### methods by data -/
theorem pd_meth {T name id : String} {r : V → List V → Hp → VK → Prop} {g : D → List D → Hd → R D} {chk : Hd → D → Bool} {es : List Expr} (pa : PlainAttrs T) (slot : Slot T name id) (hty : typeOf (.builtin id) = pure (.type "method_descriptor")) (hm : MtR X id r)
    (og : MeD X.K ct r g) (hc : ∀ io H A v x, HR X.K ct io H A → DR X.K ct io H v x → chk A x = true → tyV X.K T v H) (ho : PD X ct W o fo) (ha : PDa X ct W (e :: es) fl)
    (hbase : attributeBase o name X.env (eval o X.env) = eval o X.env := by rfl)
    (hfew : ((backTo cpos (starEach (e :: es) X.env)).all (fun x => !x.1) && (backToKw cpos (keywordEach [] X.env)).all (fun x => x.1.isSome) && decide ((e :: es).length + ([] : List Keyword).length + (if ([] : List Keyword).isEmpty then 0 else 1) < 30)) = true := by rfl)
    (hline : (apos.endLine == cpos.line) = true := by rfl) (hs : starEach (e :: es) X.env = (false, eval e X.env) :: starEach es X.env := by rfl) (hplain : (backTo cpos (starEach es X.env)).any (·.1) = false := by rfl) :
    PD X ct W (.Call (.Attribute o name apos) (e :: es) [] cpos) (eMeth chk g fo fl) :=
  pe_mono (pe_bm pa slot hty hm ho ha hbase hfew hline hs hplain) fun _ _ _ h => meth_D og hc h
end
end DV

set_option Elab.async false
set_option linter.all false
set_option maxRecDepth 100000
/-! DvM: len(set(xs)), xs a list or tuple of texts, of any number below 4000. -/
namespace DV
open PySem PySem.Spec PyProof.Rows L2

/-- the texts that are met, each once -/
def met1 (acc : List Str) (x : Str) : List Str := if acc.any (· == x) then acc else acc ++ [x]
def mets (xs : List Str) : List Str := xs.foldl met1 []
theorem mets_concat (xs : List Str) (x : Str) : mets (xs ++ [x]) = met1 (mets xs) x := by
  unfold mets
  rw [List.foldl_append]
  rfl
theorem mets_take {xs : List Str} {i : Nat} (h : i < xs.length) : mets (xs.take (i + 1)) = met1 (mets (xs.take i)) (xs.getD i Str.empty) := by
  rw [List.take_add_one, List.getElem?_eq_getElem h]
  have e : xs.getD i Str.empty = xs[i] := by simp [List.getD, List.getElem?_eq_getElem h]
  rw [e]
  exact mets_concat _ _
theorem met1_len (acc : List Str) (x : Str) : (met1 acc x).length = if acc.any (· == x) then acc.length else acc.length + 1 := by
  unfold met1
  split <;> simp
theorem met1_any (acc : List Str) (x k : Str) : (met1 acc x).any (· == k) = (acc.any (· == k) || decide (k = x)) := by
  unfold met1
  split
  · rename_i h
    by_cases e : k = x
    · subst e; simp [h]
    · simp [e]
  · by_cases e : k = x
    · subst e; simp
    · have hb : (x == k) = false := by simpa [beq_iff_eq] using (fun q : x = k => e q.symm)
      simp [e, hb]
theorem mets_le : ∀ xs : List Str, (mets xs).length ≤ xs.length := by
  intro xs
  have go : ∀ (ys acc : List Str), (ys.foldl met1 acc).length ≤ acc.length + ys.length := by
    intro ys
    induction ys with
    | nil => intro acc; simp
    | cons y ys ih =>
      intro acc
      have h1 := ih (met1 acc y)
      have h2 := met1_len acc y
      rw [List.foldl_cons, List.length_cons]
      split at h2 <;> omega
  simpa [mets] using go xs []

section
variable {P : Program} {w : World} {A : Around} {R : Result → Shared → Prop} {it : Addr} {fp wr : List Addr} {G : Array GenState → Array GenState → Prop} {n : Nat} {Pv : Nat → Value → Prop} {St : Nat → Shared → Prop}
/-- the loop of set(..) over texts -/
theorem fill_texts (W : WalksS P w A.in1 it fp wr G n Pv St) (a : Addr) (ha : a ∉ fp) (xs : List Str) (hsz : xs.length = n) (hb : n + 1 < scanBound) (hv : ∀ i v, Pv i v → ∃ t, v = .str (xs.getD i Str.empty) t) :
    ∀ (m i : Nat) (s : Shared), i + m = n → St i s → s.heap.SetOf (PySem.strKind P w) a (fun k => (mets (xs.take i)).any (· == k)) (mets (xs.take i)).length →
      (∀ s', Moved (a :: wr) G s s' → s'.heap.SetOf (PySem.strKind P w) a (fun k => (mets xs).any (· == k)) (mets xs).length → R (.ok (.ret .none)) s') →
      codeAny (model P w) A (.builtin "set.update.loop" ⟨[.ref a, .ref it], []⟩) R s := by
  have aw : a ∉ wr := fun h => ha (W.sub _ h)
  have up : ∀ b ∈ wr, b ∈ a :: wr := fun b hb => List.mem_cons_of_mem _ hb
  have keepS : ∀ {s s' : Shared} {S : Str → Bool} {j : Nat}, Moved wr G s s' → s.heap.SetOf (PySem.strKind P w) a S j → s'.heap.SetOf (PySem.strKind P w) a S j := fun hm ⟨o, es, ep, t, ho, rest⟩ => ⟨o, es, ep, t, hm.heap a _ aw ho, rest⟩
  intro m
  induction m with
  | zero =>
    intro i s hi st gS fin
    have ei : i = n := by omega
    refine codeAny_builtin PyProof.Rows.F.entry_set_update_loop ?_
    rw [Around.under_plainId PyProof.Rows.F.plain_set_update_loop _]
    show wpAny _ A.in1 (pyNext (.ref it) >>= _) _ _ s
    refine wpAny_bind (W.done s _ _ (ei ▸ st) fun s' hm => ?_)
    show wpAny _ A.in1 (ret Value.none) _ _ s'
    refine wpAny_pure (fin s' (hm.mono up) ?_)
    have q := keepS hm gS
    rw [List.take_of_length_le (by omega)] at q
    exact q
  | succ m ih =>
    intro i s hi st gS fin
    refine codeAny_builtin PyProof.Rows.F.entry_set_update_loop ?_
    rw [Around.under_plainId PyProof.Rows.F.plain_set_update_loop _]
    show wpAny _ A.in1 (pyNext (.ref it) >>= _) _ _ s
    refine wpAny_bind (W.item i s _ _ (by omega) st fun v s' pv st' hm => ?_)
    obtain ⟨t, rfl⟩ := hv i v pv
    have gS' := keepS hm gS
    show wpAny _ A.in1 (holding [Value.str (xs.getD i Str.empty) t] (setAdd a (.str (xs.getD i Str.empty) t)) >>= _) _ _ s'
    refine wpAny_bind (wpAny_holding ?_)
    unfold setAdd
    refine wpAny_holding (wpAny_bind ((PySem.strKind P w).pyHash (k := xs.getD i Str.empty) (strKind_is _ _ _ _) ?_))
    have le := mets_le (xs.take i)
    rw [List.length_take] at le
    refine wpAny_setAddHashed_of (knd := PySem.strKind P w) (s := { s' with toks := s'.toks + 1 }) (strKind_is _ _ _ _) rfl gS' (by omega) fun h' sb new => ?_
    have new' : h'.SetOf (PySem.strKind P w) a (fun k => (mets (xs.take (i + 1))).any (· == k)) (mets (xs.take (i + 1))).length :=
      SetOf_congr new (fun k => by rw [mets_take (by omega), met1_any]) (by rw [mets_take (by omega), met1_len])
    refine wpAny_pure ⟨plainId_quiet PyProof.Rows.F.plain_set_update_loop _, ih (i + 1) _ (by omega) (W.frame _ s' _ _ st' (Nat.le_succ _) fun b hb o e => ?_) new' fun s2 hm2 gS2 => ?_⟩
    · rw [sb.2 b (fun z : b = a => ha (z ▸ hb))]; exact e
    · refine fin s2 (Moved.trans W.gtrans ((hm.mono up).then_heap (Nat.le_succ _) fun b o hb e => ?_) hm2) gS2
      rw [sb.2 b (fun z : b = a => hb (by rw [z]; exact List.mem_cons_self))]; exact e
end
end DV

set_option Elab.async false
set_option linter.all false
set_option maxRecDepth 100000
namespace DV
open PySem PySem.Spec PyProof.Rows L2
section
variable {P : Program} {w : World} {A : Around} {E : Value → Shared → Prop} {s : Shared}
/-- a list or a tuple -/
def SeqObj (h : Heap) (l : Addr) (items : Array Value) (c : String) : Prop := (c = "list" ∧ h.IsList l items) ∨ (c = "tuple" ∧ h.IsTuple l items)
set_option maxHeartbeats 3200000 in
theorem make_texts {l : Addr} {items : Array Value} {xs : List Str} {c : String} {Q : Value → Shared → Prop} (nohand : A.handled = none) (sq : SeqObj s.heap l items c) (tx : PyProof.Rows.StrsAre items.toList xs) (few : xs.length + 1 < scanBound)
    (fin : ∀ (h' : Heap) (tk : Nat), h'.SetOf (PySem.strKind P w) s.heap.objs.size (fun k => (mets xs).any (· == k)) (mets xs).length → (∀ b o, b < s.heap.objs.size → s.heap.get? b = some o → h'.get? b = some o) → Q (.ref s.heap.objs.size) { s with heap := h', toks := tk }) :
    wpAny (model P w) A (call (.type "set") [.ref l]) Q E s := by
  have ⟨cc, tl, mro⟩ := PySem.F.called_set.mro
  have made := PySem.F.called_set.made
  have sub := PySem.F.called_set.sub
  refine wpAny_call (codeAny_of_tree ?_)
  show wpAny _ _ (callAny (.type "set") _) _ _ _
  refine wpAny_pure ⟨Code.quiet_builtin _ (by decide +kernel), codeAny_builtin PySem.F.entry_type_call ?_⟩
  rw [Around.under_plain (weight_type_call_type "set" [.ref l] []) rfl]
  have t1 := PySem.F.called_set.notType
  have t2 := PySem.F.called_set.canCreate
  have t3 := PySem.F.typeCall_set_1 (.ref l)
  repeat (any_goals (first | assumption | wp_step))
  refine codeAny_mono (code_set_new_1 (.ref l) (E := E) (Q₁ := fun v s1 => ∃ b : Bool, v = .ref s.heap.objs.size ∧ s1 = { s with heap := s.heap.push { cls := .type "set", dict := none, data := .set #[] 0 (.fresh 0 0 b) } }) fun b => ⟨b, rfl, rfl⟩) fun r s1 got => ?_
  cases r with
  | error e => exact got
  | ok fl =>
  obtain ⟨v, rfl⟩ : ∃ v, fl = .ret v := by
    cases fl with
    | ret v => exact ⟨v, rfl⟩
    | _ => exact got.elim
  obtain ⟨b, rfl, rfl⟩ := got
  have free : ({ cls := .type "set", dict := none, data := .set #[] 0 (.fresh 0 0 b) } : Obj).isFreed = false := rfl
  have atS : (s.heap.push { cls := .type "set", dict := none, data := .set #[] 0 (.fresh 0 0 b) }).get? s.heap.objs.size = some { cls := .type "set", dict := none, data := .set #[] 0 (.fresh 0 0 b) } := Heap.get?_push_size _ free
  have tyS : Shared.TypeIs { s with heap := s.heap.push { cls := .type "set", dict := none, data := .set #[] 0 (.fresh 0 0 b) } } (.ref s.heap.objs.size) "set" := ⟨_, atS, rfl⟩
  have look := PySem.F.called_set.init.lookup
  have bound := PySem.F.called_set.init.bind (.ref s.heap.objs.size)
  repeat (any_goals (first | assumption | wp_step))
  refine codeAny_mono (codeAny_call_builtin (R := wants (fun r s2 => r = .none ∧ ∃ h' tk, s2 = { s with heap := h', toks := tk } ∧ h'.SetOf (PySem.strKind P w) s.heap.objs.size (fun k => (mets xs).any (· == k)) (mets xs).length ∧ (∀ b o, b < s.heap.objs.size → s.heap.get? b = some o → h'.get? b = some o)) E)
    PySem.F.called_set.init.plain PySem.F.entry_set_init (check_set_init_1 tyS ?inn)) fun r s2 got => ?out
  case out =>
    cases r with
    | error e => exact got
    | ok fl =>
      cases fl with
      | ret r =>
        obtain ⟨rfl, h', tk, rfl, gS, gk⟩ := got
        repeat (any_goals (first | assumption | wp_step))
        exact fin _ _ gS gk
      | _ => exact got.elim
  case inn =>
    have hsz : xs.length = items.size := by rw [← StrsAre.len_eq tx, Array.length_toList]
    have val : ∀ (i : Nat) (v : Value), items[i]? = some v → ∃ t, v = .str (xs.getD i Str.empty) t := fun i v hv => SS.strs_at tx i v (by rw [Array.getElem?_toList]; exact hv)
    have nohand3 : A.in1.in1.in1.handled = none := by simp [nohand]
    have szI : (s.heap.push { cls := .type "set", dict := none, data := .set #[] 0 (.fresh 0 0 b) }).objs.size = s.heap.objs.size + 1 := Heap.size_push _ _
    rcases sq with ⟨rfl, hl⟩ | ⟨rfl, hl⟩
    all_goals
      obtain ⟨ol, hol, hcl, nl, hdl⟩ := hl
      obtain ⟨ocls, odict, odata, oslots⟩ := ol
      dsimp only at hcl hdl
      subst hcl
      subst hdl
      have below : l < s.heap.objs.size := Heap.lt_size hol
      have hol' := Heap.get?_push_of_some ({ cls := .type "set", dict := none, data := .set #[] 0 (.fresh 0 0 b) } : Obj) hol
    · have u1 := PySem.F.sub_list_set
      have u2 := PySem.F.sub_list_frozenset
      have u3 : (Value.type "list" == Value.type "dict") = false := by decide
      have seq : (s.heap.push { cls := .type "set", dict := none, data := .set #[] 0 (.fresh 0 0 b) }).IsList l items := ⟨_, hol', rfl, nl, rfl⟩
      unfold Builtin.«set.__init__» noKeywords Builtin.Frozenset.updateFrom
      generalize eI : pyIter = PI
      wp_walk
      subst eI
      refine wpAny_pyIter_list seq ?_
      refine wpAny_bind (wpAny_runValue ?_)
      have lneI : l ≠ (s.heap.push { cls := .type "set", dict := none, data := .set #[] 0 (.fresh 0 0 b) }).objs.size := Nat.ne_of_lt (by rw [szI]; exact Nat.lt_succ_of_lt below)
      have SnI : s.heap.objs.size ∉ [(s.heap.push { cls := .type "set", dict := none, data := .set #[] 0 (.fresh 0 0 b) }).objs.size, l] := by
        rw [szI]
        intro z
        rcases List.mem_cons.mp z with z | z
        · exact Nat.ne_of_lt (Nat.lt_succ_self _) z
        · exact Nat.ne_of_gt below (List.mem_singleton.mp z)
      refine fill_texts ((Walks.list nohand3 _ l lneI items).toS) s.heap.objs.size SnI xs hsz (by omega) val items.size 0 _ (by omega) ⟨⟨_, Heap.get?_push_size _ rfl, rfl, rfl⟩, (seq.push _)⟩ ?st ?fn
      case st =>
        exact SetOf_congr ((PyProof.Rows.setObjOf_fresh (knd := PySem.strKind P w) b).setOf (Heap.get?_push_of_some _ atS) (by unfold scanBound; omega)) (fun _ => rfl) rfl
      case fn =>
        intro s' hm gS
        obtain ⟨h', g', d', tk', os'⟩ := s'
        obtain rfl : g' = s.gens := hm.gens
        obtain rfl : d' = s.drawn := hm.drawn
        obtain rfl : os' = s.os := hm.os
        show wpAny _ _ _ _ _ _
        refine wpAny_pure ?_
        show wpAny _ _ (ret Value.none) _ _ _
        refine wpAny_pure ⟨rfl, h', tk', rfl, gS, fun p o hb e => hm.heap p o (fun z => ?_) (Heap.get?_push_of_some _ (Heap.get?_push_of_some _ e))⟩
        rcases List.mem_cons.mp z with z | z
        · exact Nat.ne_of_lt hb z
        · have z2 := List.mem_singleton.mp z
          rw [szI] at z2
          exact Nat.ne_of_lt (Nat.lt_succ_of_lt hb) z2
    · have u1 := PySem.F.sub_tuple_set
      have u2 := PySem.F.sub_tuple_frozenset
      have u3 : (Value.type "tuple" == Value.type "dict") = false := by decide
      have seq : (s.heap.push { cls := .type "set", dict := none, data := .set #[] 0 (.fresh 0 0 b) }).IsTuple l items := ⟨_, hol', rfl, nl, rfl⟩
      unfold Builtin.«set.__init__» noKeywords Builtin.Frozenset.updateFrom
      generalize eI : pyIter = PI
      wp_walk
      subst eI
      refine wpAny_pyIter_tuple seq ?_
      refine wpAny_bind (wpAny_runValue ?_)
      have lneI : l ≠ (s.heap.push { cls := .type "set", dict := none, data := .set #[] 0 (.fresh 0 0 b) }).objs.size := Nat.ne_of_lt (by rw [szI]; exact Nat.lt_succ_of_lt below)
      have SnI : s.heap.objs.size ∉ [(s.heap.push { cls := .type "set", dict := none, data := .set #[] 0 (.fresh 0 0 b) }).objs.size, l] := by
        rw [szI]
        intro z
        rcases List.mem_cons.mp z with z | z
        · exact Nat.ne_of_lt (Nat.lt_succ_self _) z
        · exact Nat.ne_of_gt below (List.mem_singleton.mp z)
      refine fill_texts ((Walks.tuple nohand3 _ l lneI items).toS) s.heap.objs.size SnI xs hsz (by omega) val items.size 0 _ (by omega) ⟨⟨_, Heap.get?_push_size _ rfl, rfl, rfl⟩, (seq.push _)⟩ ?st ?fn
      case st =>
        exact SetOf_congr ((PyProof.Rows.setObjOf_fresh (knd := PySem.strKind P w) b).setOf (Heap.get?_push_of_some _ atS) (by unfold scanBound; omega)) (fun _ => rfl) rfl
      case fn =>
        intro s' hm gS
        obtain ⟨h', g', d', tk', os'⟩ := s'
        obtain rfl : g' = s.gens := hm.gens
        obtain rfl : d' = s.drawn := hm.drawn
        obtain rfl : os' = s.os := hm.os
        show wpAny _ _ _ _ _ _
        refine wpAny_pure ?_
        show wpAny _ _ (ret Value.none) _ _ _
        refine wpAny_pure ⟨rfl, h', tk', rfl, gS, fun p o hb e => hm.heap p o (fun z => ?_) (Heap.get?_push_of_some _ (Heap.get?_push_of_some _ e))⟩
        rcases List.mem_cons.mp z with z | z
        · exact Nat.ne_of_lt hb z
        · have z2 := List.mem_singleton.mp z
          rw [szI] at z2
          exact Nat.ne_of_lt (Nat.lt_succ_of_lt hb) z2
end

section
variable {K : PySem.W.Frag} {ct : String → Addr} {io : Io} {H : Hp} {A : Hd}
def textsD : List D → Option (List Str)
  | [] => some []
  | .str x :: r => match textsD r with
    | some xs => some (x :: xs)
    | none => none
  | _ :: _ => none
theorem textsD_ok : ∀ {vs : List V} {ds : List D} {xs : List Str}, DRs K ct io H vs ds → textsD ds = some xs → vs = xs.map V.str
  | _, _, _, .nil, e => by cases e; rfl
  | _, _, _, .cons r rs, e => by
    cases r with
    | str x =>
      unfold textsD at e
      split at e
      · rename_i xs h1
        cases e
        rw [textsD_ok rs h1]
        rfl
      · cases e
    | _ => cases e
def gLenSet (d : D) (A : Hd) : R D := match asQ A d with
  | some es => match textsD es with
    | some xs => if xs.length < 4000 then .ok (.int (mets xs).length) A else .stk
    | none => .stk
  | none => .stk
def tLenTexts (K : PySem.W.Frag) (ta : TE) : TE := fun σ H Q => ta σ H fun x H1 => ∃ l, ∃ xs : List Str, x = .ref l ∧ (SqL K H1 l (xs.map V.str) ∨ SqT K H1 l (xs.map V.str)) ∧ xs.length < 4000 ∧ Q (.int (mets xs).length) H1
end
section
variable {X : Cx} {ct : String → Addr} {W : WX} {a : Expr} {fa : EF} {p p2 q pos : Pos}
theorem pe_lenTexts {ta : TE} (hc : X.calm = true) (hg : Gl X "len") (hm : X.mg "len" = none) (hg2 : Gl X "set") (hm2 : X.mg "set" = none) (ha : PE X a ta) (na : starEach [a] X.env = (false, eval a X.env) :: starEach [] X.env := by rfl) :
    PE X (.Call (.Name "len" p) [.Call (.Name "set" p2) [a] [] q] [] pos) (tLenTexts X.K ta) := by
  refine ⟨fun pins s σ H Q I h => ?_⟩
  refine Call_ (ld_blt I hg hm boot_len (PyProof.Rows.callWith_builtin1 (PyProof.Rows.args_cons ?_ rfl) rfl rfl))
  refine Call_ (ld_blt I hg2 hm2 boot_set ?_)
  refine PyProof.Rows.callWith_type1 (PyProof.Rows.args_cons (thn (ha.run pins s σ H _ I h) fun v s1 ⟨x, H1, I1, r1, q1⟩ => PyProof.Rows.args_nil ?_) na) na rfl
  obtain ⟨l, xs, rfl, sq, few, q1⟩ := q1
  cases r1
  have go : ∃ c items, SeqObj s1.heap l items c ∧ StrsAre items.toList xs := by
    rcases sq with sq | sq
    · obtain ⟨its, r, pl, hz⟩ := I1.list sq
      exact ⟨"list", its.toArray, .inl ⟨rfl, pl.isList⟩, by simpa using strsAre_of r⟩
    · obtain ⟨its, r, pl, hz⟩ := I1.tuple sq
      exact ⟨"tuple", its.toArray, .inr ⟨rfl, pl⟩, by simpa using strsAre_of r⟩
  obtain ⟨c, items, so, tx⟩ := go
  refine make_texts (I1.ok.hd hc) so tx (by unfold scanBound; omega) fun h' tk gS gk => ?_
  refine PyProof.Rows.args_nil ?_
  have le := mets_le xs
  obtain ⟨o, es, ep, t, ho, hex, hd, _, _, _, hf, hn⟩ := gS
  have I2 : Inv X pins σ H1 { s1 with heap := h', toks := tk } := I1.kept fun b o e => gk b o (Heap.lt_size e) e
  refine call_len_set ho hex hd hf (by rw [hn]; omega) ⟨.int (mets xs).length, H1, I2.tok _, ⟨_, by rw [hn]⟩, q1⟩
theorem pd_lenSet (hc : X.calm = true) (hg : Gl X "len") (hm : X.mg "len" = none) (hg2 : Gl X "set") (hm2 : X.mg "set" = none) (ha : PD X ct W a fa) (na : starEach [a] X.env = (false, eval a X.env) :: starEach [] X.env := by rfl) :
    PD X ct W (.Call (.Name "len" p) [.Call (.Name "set" p2) [a] [] q] [] pos) (eUn gLenSet fa) :=
  pe_mono (pe_lenTexts hc hg hm hg2 hm2 ha na) fun σ H Q ⟨io, A, ro, s, p⟩ => ⟨io, A, ro, s, (p.bind (rep := DR X.K ct)).mono fun v H1 ⟨io1, A1, d, e1, h1, r1, p1⟩ => by
    unfold gLenSet at p1
    split at p1
    · rename_i es he
      split at p1
      · rename_i xs hx
        split at p1
        · rename_i few
          obtain ⟨a, us, rfl, sq, rs⟩ := asQ_ok h1 r1 he
          have e := textsD_ok rs hx
          subst e
          exact ⟨a, xs, rfl, sq, few, p1.here h1 (.int _)⟩
        · exact p1.elim
      · exact p1.elim
    · exact p1.elim⟩
end
end DV

set_option Elab.async false
set_option linter.all false
set_option maxRecDepth 100000
/-! DvO: constants of the module; more rules. -/
namespace DV
open PySem PySem.Spec PyProof.Rows L2
section
variable {X : Cx} {ct : String → Addr} {W : WX} {x : Str} {pos : Pos}
theorem pd_gc {v : V} {d : D} (hg : Gl X x) (h : ∃ u, X.mg x = some u ∧ RelV v u) (r : ∀ io H, DR X.K ct io H v d) (hd : (x == ("__debug__" : Str)) = false := by decide) : PD X ct W (.Name x pos) (eC d) := by
  obtain ⟨u, h1, h2⟩ := h
  exact pd_c (pe_glob hg h1 h2 hd) r
end
end DV

set_option Elab.async false
set_option linter.all false
set_option maxRecDepth 100000
/-! DvP: plain laws of the functions on data. -/
namespace DV
open PySem PySem.Spec PyProof.Rows L2
theorem cut_same {A A' : Hd} {d : D} (h : A'.length = A.length) : cutR A d A' = .ok d A' := by
  have ht : A'.take A.length = A' := List.take_of_length_le (by omega)
  unfold cutR
  split
  · rename_i d' hd
    have e : d' = d := by
      unfold frz at hd
      split at hd
      · exact (Option.some.inj hd).symm
      · rename_i hl
        split at hd
        · rename_i k
          have : ¬ k < A.length := by simpa [D.lt] using hl
          rw [List.getElem?_eq_none (by omega)] at hd
          cases hd
        · cases hd
    rw [e, ht]
    split <;> rfl
  · rfl
@[simp] theorem cut_self {A : Hd} {d : D} : cutR A d A = .ok d A := cut_same rfl
@[simp] theorem cut_set {A : Hd} {d : D} {k : Nat} {m : M} : cutR A d (A.set k m) = .ok d (A.set k m) := cut_same (by simp)
@[simp] theorem calm_ok {α : Type} (a : α) (A : Hd) : (R.ok a A).calm = R.ok a A := rfl
@[simp] theorem here_fix (ds : List D) (A : Hd) : (Src.fix ds).here A := trivial
/-- loops that go through -/
theorem forD_run {s : Src} {g : GF} {b : SF} {I : Nat → Env → Hd → Prop} (hs : ∀ i ro A, I i ro A → s.here A) : ∀ (ds : List D) (i : Nat) (ro : Env) (A : Hd), I i ro A →
    (∀ j d ro A, ds[j]? = some d → I (i + j) ro A → ∃ ro' A', (g d ro A).out.next b = .go .nx ro' A' ∧ I (i + j + 1) ro' A') →
    ∃ ro' A', forD s g b ds ro A = .go .nx ro' A' ∧ I (i + ds.length) ro' A'
  | [], i, ro, A, h, _ => ⟨ro, A, by unfold forD; rw [if_pos (hs i ro A h)], h⟩
  | d :: ds, i, ro, A, h, st => by
    obtain ⟨ro1, A1, e1, h1⟩ := st 0 d ro A rfl h
    obtain ⟨ro2, A2, e2, h2⟩ := forD_run hs ds (i + 1) ro1 A1 h1 fun j d' ro A hd hI => by
      have := st (j + 1) d' ro A (by simpa using hd) (by rw [show i + (j + 1) = i + 1 + j by omega]; exact hI)
      rw [show i + (j + 1) + 1 = i + 1 + j + 1 by omega] at this
      exact this
    refine ⟨ro2, A2, ?_, by rw [List.length_cons, show i + (ds.length + 1) = i + 1 + ds.length by omega]; exact h2⟩
    unfold forD
    rw [if_pos (hs i ro A h), e1, Out.loop_nx, e2]
/-- a comprehension of a plain test and a plain item -/
theorem compD_pure {s : Src} {pt : Pat} {vs : List Nat} {tt : TF} {te : EF} {ro : Env} {A : Hd} {p : D → Bool} {f : D → D} (hs : s.here A) : ∀ (ds acc : List D), acc.length + ds.length ≤ sizeLine →
    (∀ d ∈ ds, ∃ ro1, pt.put d (wipeD ro vs) = some ro1 ∧ tt ro1 A = .ok (p d) A ∧ (p d = true → te ro1 A = .ok (f d) A)) →
    compD s pt vs tt te ro ds acc A = .ok (acc ++ (ds.filter p).map f) A
  | [], acc, _, _ => by unfold compD; rw [if_pos hs]; simp
  | d :: ds, acc, hl, h => by
    obtain ⟨ro1, e1, e2, e3⟩ := h d List.mem_cons_self
    rw [List.length_cons] at hl
    unfold compD
    rw [if_pos hs, e1]
    simp only [e2, calm_ok, R.bind_ok]
    cases hp : p d with
    | true =>
      rw [if_pos rfl, e3 hp, calm_ok, R.bind_ok, if_pos (by omega), compD_pure hs ds _ (by rw [List.length_append]; simp; omega) fun d hd => h d (List.mem_cons_of_mem _ hd)]
      simp [List.filter_cons, hp]
    | false =>
      rw [if_neg (by simp), compD_pure hs ds acc (by omega) fun d hd => h d (List.mem_cons_of_mem _ hd)]
      simp [List.filter_cons, hp]
/-- a comprehension whose items are drawn -/
theorem compD_run {s : Src} {pt : Pat} {vs : List Nat} {tt : TF} {te : EF} {ro : Env} {I : Nat → Hd → Prop} {G : D → Prop} (hs : ∀ i A, I i A → s.here A) : ∀ (ds acc : List D) (i : Nat) (A : Hd), acc.length + ds.length ≤ sizeLine → I i A → (∀ d ∈ acc, G d) →
    (∀ j d A, ds[j]? = some d → I (i + j) A → ∃ ro1, pt.put d (wipeD ro vs) = some ro1 ∧ ∃ b A1, tt ro1 A = .ok b A1 ∧ (b = false → I (i + j + 1) A1) ∧ (b = true → ∃ y A2, te ro1 A1 = .ok y A2 ∧ G y ∧ I (i + j + 1) A2)) →
    ∃ ys A', compD s pt vs tt te ro ds acc A = .ok ys A' ∧ I (i + ds.length) A' ∧ (∀ d ∈ ys, G d) ∧ ys.length ≤ acc.length + ds.length
  | [], acc, i, A, _, h, g, _ => ⟨acc, A, by unfold compD; rw [if_pos (hs i A h)], h, g, by simp⟩
  | d :: ds, acc, i, A, hl, h, g, st => by
    obtain ⟨ro1, e1, b, A1, e2, h1, h2⟩ := st 0 d A rfl h
    rw [List.length_cons] at hl
    have nx : ∀ j d A, ds[j]? = some d → I (i + 1 + j) A → ∃ ro1, pt.put d (wipeD ro vs) = some ro1 ∧ ∃ b A1, tt ro1 A = .ok b A1 ∧ (b = false → I (i + 1 + j + 1) A1) ∧ (b = true → ∃ y A2, te ro1 A1 = .ok y A2 ∧ G y ∧ I (i + 1 + j + 1) A2) := fun j d' A hd hI => by
      have := st (j + 1) d' A (by simpa using hd) (by rw [show i + (j + 1) = i + 1 + j by omega]; exact hI)
      rw [show i + (j + 1) + 1 = i + 1 + j + 1 by omega] at this
      exact this
    unfold compD
    rw [if_pos (hs i A h), e1]
    simp only [e2, calm_ok, R.bind_ok]
    cases b with
    | true =>
      obtain ⟨y, A2, e3, gy, h3⟩ := h2 rfl
      obtain ⟨ys, A', q1, q2, q3, q4⟩ := compD_run hs ds (acc ++ [y]) (i + 1) A2 (by rw [List.length_append]; simp; omega) h3 (fun d hd => (List.mem_append.mp hd).elim (g d) fun z => by rw [List.mem_singleton.mp z]; exact gy) nx
      refine ⟨ys, A', ?_, by rw [List.length_cons, show i + (ds.length + 1) = i + 1 + ds.length by omega]; exact q2, q3, by rw [List.length_append] at q4; simp at q4 ⊢; omega⟩
      rw [if_pos rfl, e3, calm_ok, R.bind_ok, if_pos (by omega), q1]
    | false =>
      obtain ⟨ys, A', q1, q2, q3, q4⟩ := compD_run hs ds acc (i + 1) A1 (by omega) (h1 rfl) g nx
      refine ⟨ys, A', ?_, by rw [List.length_cons, show i + (ds.length + 1) = i + 1 + ds.length by omega]; exact q2, q3, by simp at q4 ⊢; omega⟩
      rw [if_neg (by simp), q1]
/-- the source of draws stands under number k; at most T draws are done -/
def SRC (A : Hd) (k : Nat) (T : Int) : Prop := ∃ c t h : Int, A[k]? = some (.lst [.int c, .int t, .int h]) ∧ 0 ≤ t ∧ t ≤ T ∧ 0 ≤ h
theorem SRC.le {A : Hd} {k : Nat} {T T' : Int} (h : SRC A k T) (e : T ≤ T') : SRC A k T' := let ⟨c, t, q, h1, h2, h3, h4⟩ := h; ⟨c, t, q, h1, h2, Int.le_trans h3 e, h4⟩
theorem sub_num {A : Hd} {k : Nat} {ds : List D} {i : Int} {x : D} (h : A[k]? = some (.lst ds)) (e : L2.atI ds i = some x) : gSubD (.ref k) (.int i) A = .ok x A := by
  unfold gSubD asD
  simp only [h]
  unfold gIx asQ asR asL
  simp only [h, e]
theorem sub_lst {A : Hd} {ds : List D} {i : Int} {x : D} (e : L2.atI ds i = some x) : gSubD (.lst ds) (.int i) A = .ok x A := by
  unfold gSubD asD gIx asQ asR asL
  simp only [e]
theorem sub_tup {A : Hd} {ds : List D} {i : Int} {x : D} (e : L2.atI ds i = some x) : gSubD (.tup ds) (.int i) A = .ok x A := by
  unfold gSubD asD gIx asQ
  simp only [e]
theorem sub_scr {A : Hd} {ds : List D} {i : Int} {x : D} (e : L2.atI ds i = some x) : gSubD (.scr ds) (.int i) A = .ok x A := by
  unfold gSubD asD gIx asQ asR
  simp only [e]
theorem set_num {A : Hd} {k : Nat} {ds : List D} {i : Int} {j : Nat} {d : D} {ro : Env} (h : A[k]? = some (.lst ds)) (e : ixN ds.length i = some j) : setD (.ref k) (.int i) d ro A = .ok ro (A.set k (.lst (ds.set j d))) := by
  unfold setD numL
  simp only [h, e]
theorem atI_of {α : Type} {xs : List α} {i : Int} (h0 : 0 ≤ i) (h1 : i < xs.length) : ∃ x, L2.atI xs i = some x ∧ x ∈ xs := by
  have hi : i.toNat < xs.length := by omega
  refine ⟨xs[i.toNat], ?_, List.getElem_mem hi⟩
  unfold L2.atI ixN
  rw [if_pos h0, if_pos h1]
  exact List.getElem?_eq_getElem hi

/-! ### one step each -/
section
variable {a b c : EF} {fl : AF} {t u : TF} {p q : SF} {g : D → D → Hd → R D} {h : D → Hd → R D} {k : List D → Hd → R D} {ro ro' : Env} {A A0 A1 A2 : Hd} {d e : D} {ds : List D} {r : R D} {o : Out} {i : Nat}
theorem bin_ok (h1 : a ro A = .ok d A1) (h2 : b ro A1 = .ok e A2) (h3 : g d e A2 = r) : eBin g a b ro A = r := by unfold eBin; rw [h1, R.bind_ok, h2, R.bind_ok, h3]
theorem un_ok (h1 : a ro A = .ok d A1) (h3 : h d A1 = r) : eUn h a ro A = r := by unfold eUn; rw [h1, R.bind_ok, h3]
theorem acons_ok (h1 : a ro A = .ok d A1) (h2 : fl ro A1 = .ok ds A2) : aCons a fl ro A = .ok (d :: ds) A2 := by unfold aCons; rw [h1, R.bind_ok, h2, R.bind_ok]
theorem args_ok (h1 : fl ro A = .ok ds A1) (h2 : k ds A1 = r) : eArgs k fl ro A = r := by unfold eArgs; rw [h1, R.bind_ok, h2]
theorem args1_ok (h1 : a ro A = .ok d A1) (h2 : k [d] A1 = r) : eArgs k (aCons a aNil) ro A = r := args_ok (acons_ok h1 rfl) h2
theorem args2_ok (h1 : a ro A = .ok d A1) (h2 : b ro A1 = .ok e A2) (h3 : k [d, e] A2 = r) : eArgs k (aCons a (aCons b aNil)) ro A = r := args_ok (acons_ok h1 (acons_ok h2 rfl)) h3
theorem comp_ok {f : IF} {s : Src} {pt : Pat} {vs : List Nat} (h1 : f ro A = .ok s A1) (h2 : compD s pt vs t a ro s.items [] A1 = .ok ds A2) : eComp f pt vs t a ro A = .ok (.lst ds) A2 := by unfold eComp; rw [h1, R.bind_ok, h2, R.bind_ok]
theorem seq_ok {s : Src} (h1 : a ro A = .ok d A1) (h2 : srcD d A1 = some s) : iSeq a ro A = .ok s A1 := by unfold iSeq; rw [h1, R.bind_ok, h2]
theorem if_ok {z : Bool} (h1 : t ro A = .ok z A1) (h2 : (if z then a ro A1 else b ro A1) = r) : eIf t a b ro A = r := by unfold eIf; rw [h1, R.bind_ok, h2]
theorem and_ok {z : Bool} (h1 : a ro A = .ok (.bl z) A1) (h2 : (if z then b ro A1 else .ok (.bl z) A1) = r) : eAndD a b ro A = r := by
  unfold eAndD
  rw [h1, R.bind_ok]
  show (R.ok z A1).bind _ = r
  rw [R.bind_ok, ← h2]
theorem not_ok {z : Bool} (h1 : a ro A = .ok (.bl z) A1) : eNotD a ro A = .ok (.bl (!z)) A1 := by
  unfold eNotD
  rw [h1, R.bind_ok]
  show (R.ok z A1).bind _ = _
  rw [R.bind_ok]
theorem tnot_ok {z : Bool} (h1 : t ro A = .ok z A1) : tNotD t ro A = .ok (!z) A1 := by unfold tNotD; rw [h1, R.bind_ok]
theorem tru_ok {z : Bool} (h1 : a ro A = .ok d A1) (h2 : gTru d A1 = .ok z A1) : tOfE a ro A = .ok z A1 := by unfold tOfE; rw [h1, R.bind_ok, h2]
theorem trub_ok {z : Bool} (h1 : a ro A = .ok (.bl z) A1) : tOfE a ro A = .ok z A1 := tru_ok h1 rfl
theorem tor_ok {z w : Bool} {A3 : Hd} (h1 : t ro A = .ok z A1) (h2 : (if z then .ok true A1 else u ro A1) = .ok w A3) : tOrD t u ro A = .ok w A3 := by unfold tOrD; rw [h1, R.bind_ok, h2]
theorem tand_ok {z w : Bool} {A3 : Hd} (h1 : t ro A = .ok z A1) (h2 : (if z then u ro A1 else .ok false A1) = .ok w A3) : tAndD t u ro A = .ok w A3 := by unfold tAndD; rw [h1, R.bind_ok, h2]
theorem tcmp_ok {z : Bool} {A3 : Hd} (h1 : a ro A = .ok d A1) (h2 : b ro A1 = .ok e A2) (h3 : g d e A2 = .ok (.bl z) A3) : tCmpD g a b ro A = .ok z A3 := by unfold tCmpD; rw [bin_ok h1 h2 h3]; rfl
theorem sif_ok {z : Bool} (h1 : t ro A = .ok z A1) (h2 : (if z then p ro A1 else q ro A1) = o) : sIf t p q ro A = o := by unfold sIf; rw [h1, R.then_ok, h2]
theorem sseq_ok (h1 : p ro A = .go .nx ro' A1) (h2 : q ro' A1 = o) : sSeq p q ro A = o := by unfold sSeq; rw [h1, Out.next_nx, h2]
theorem sret_ok (h1 : a ro A = .ok d A1) : sRet a ro A = .go (.ret d) ro A1 := by unfold sRet; rw [h1, R.then_ok]
theorem sasg_ok (h1 : a ro A = .ok d A1) : sAsg a (gNm i) ro A = .go .nx (ro.set i (some d)) A1 := by unfold sAsg; rw [h1, R.then_ok]; rfl
theorem sfor_ok {f : IF} {s : Src} {gf : GF} (h1 : f ro A = .ok s A1) (h2 : forD s gf p s.items ro A1 = o) : sFor f gf p ro A = o := by unfold sFor; rw [h1, R.then_ok, h2]
theorem fin_ok (h1 : o = .go (.ret d) ro A1) (h2 : A1.length = A.length) : finR A o = .ok d A1 := by rw [h1]; exact cut_same h2
theorem rng_ok {n : Int} (h1 : a ro A = .ok (.int n) A1) (h0 : 0 ≤ n) (h2 : n < 2 ^ 62) : iRange1 (aCons a aNil) ro A = .ok (.fix (rangeD 0 n.toNat)) A1 := by
  unfold iRange1
  rw [acons_ok h1 (show aNil ro A1 = .ok [] A1 from rfl), R.bind_ok]
  show (if -(2 ^ 62) ≤ n ∧ n < 2 ^ 62 then R.ok (Src.fix (rangeD 0 n.toNat)) A1 else .stk) = _
  rw [if_pos ⟨by omega, h2⟩]
end
end DV

set_option Elab.async false
set_option linter.all false
set_option maxRecDepth 100000
set_option maxHeartbeats 1000000
/-! DvQ: zip(xs, ys, strict=True), each a list or a tuple, of one length. -/
namespace DV
open PySem PySem.Spec PyProof.Rows L2
/-- an iterator at place k of a list (false) or tuple (true) -/
def It1 (h : Heap) (tp : Bool) (i l : Addr) (k : Nat) : Prop := match tp with
  | false => h.IsListIter i l k
  | true => h.IsTupleIter i l k
def Sq1 (h : Heap) (tp : Bool) (l : Addr) (xs : Array Value) : Prop := match tp with
  | false => h.IsList l xs
  | true => h.IsTuple l xs
def SqIt (tp : Bool) (h : Heap) (i l : Addr) (k : Nat) (xs : Array Value) : Prop := It1 h tp i l k ∧ Sq1 h tp l xs
theorem It1.at {h h' : Heap} {tp : Bool} {i l : Addr} {k : Nat} (S : It1 h tp i l k) (ki : ∀ o, h.get? i = some o → h'.get? i = some o) : It1 h' tp i l k := by
  cases tp
  · exact Heap.IsListIter.at S ki
  · exact Heap.IsTupleIter.at S ki
theorem Sq1.at {h h' : Heap} {tp : Bool} {l : Addr} {xs : Array Value} (S : Sq1 h tp l xs) (ki : ∀ o, h.get? l = some o → h'.get? l = some o) : Sq1 h' tp l xs := by
  cases tp
  · exact Heap.IsList.at S ki
  · exact Heap.IsTuple.at S ki
theorem SqIt.at {tp : Bool} {h h' : Heap} {i l : Addr} {k : Nat} {xs : Array Value} (S : SqIt tp h i l k xs) (ki : ∀ o, h.get? i = some o → h'.get? i = some o) (kl : ∀ o, h.get? l = some o → h'.get? l = some o) : SqIt tp h' i l k xs := ⟨S.1.at ki, S.2.at kl⟩
theorem It1.obj {h : Heap} {tp : Bool} {i l : Addr} {k : Nat} (S : It1 h tp i l k) : ∃ o, h.get? i = some o ∧ ∀ v, o.data ≠ .cell v := by
  cases tp
  · obtain ⟨o, e, _, d⟩ := S; exact ⟨o, e, fun v z => by rw [d] at z; cases z⟩
  · obtain ⟨o, e, _, d⟩ := S; exact ⟨o, e, fun v z => by rw [d] at z; cases z⟩
section
variable {prog : Program} {w : World} {A : Around} {E : Value → Shared → Prop} {s : Shared}
theorem nextOrEnd_item {tp : Bool} {i l : Addr} {k : Nat} {xs : Array Value} {x : Value} {Q : Option Value → Shared → Prop} (S : SqIt tp s.heap i l k xs) (ne : l ≠ i) (hx : xs[k]? = some x)
    (fin : ∀ h', SqIt tp h' i l (k + 1) xs → Heap.SameBut i s.heap h' → Q (some x) { s with heap := h' }) : wpAny (model prog w) A (Builtin.SmallTypes.nextOrEnd (.ref i)) Q E s := by
  unfold Builtin.SmallTypes.nextOrEnd
  refine wpAny_bind (wpAny_attempt ?_)
  obtain ⟨a, b⟩ := S
  cases tp
  · exact wpAny_nextOf_list_item a b hx fun h' a' sb => wpAny_pure (fin h' ⟨a', b.at fun o e => (sb.2 l ne).trans e⟩ sb)
  · exact RZ.nextOf_tuple_item a b hx fun h' a' sb => wpAny_pure (fin h' ⟨a', b.at fun o e => (sb.2 l ne).trans e⟩ sb)
theorem nextOrEnd_end {tp : Bool} {i l : Addr} {k : Nat} {xs : Array Value} {Q : Option Value → Shared → Prop} (hh : A.handled = none) (S : SqIt tp s.heap i l k xs) (hx : xs[k]? = none)
    (fin : ∀ h', Heap.ExtBut i s.heap h' → Q none { s with heap := h' }) : wpAny (model prog w) A (Builtin.SmallTypes.nextOrEnd (.ref i)) Q E s := by
  unfold Builtin.SmallTypes.nextOrEnd
  refine wpAny_bind (wpAny_attempt ?_)
  obtain ⟨a, b⟩ := S
  cases tp
  · refine wpAny_nextOf_list_end hh a b hx fun h' e sb he => ?_
    obtain ⟨o, ho, hc⟩ := he
    exact wpAny_bind (wpAny_isInstance (T := "StopIteration") (b := true) ⟨o, ho, hc⟩ isSubtype_stop (wpAny_pure (fin h' sb)))
  · refine RZ.nextOf_tuple_end hh a b hx fun h' e sb he => ?_
    obtain ⟨o, ho, hc⟩ := he
    exact wpAny_bind (wpAny_isInstance (T := "StopIteration") (b := true) ⟨o, ho, hc⟩ isSubtype_stop (wpAny_pure (fin h' sb)))
/-- zip, strict -/
abbrev ZipS (h : Heap) (z TI TO : Addr) (f : Value) : Prop := h.get? z = some { cls := .type "zip", dict := none, data := .fields #[f, .bool false, .bool true, .ref TI, .ref TO], slots := #[] }
theorem zipS_item {tp tq : Bool} {z TI TO i1 i2 l1 l2 : Addr} {k : Nat} {xs ys : Array Value} {x y a b : Value} {Q : Value → Shared → Prop} (D : ZipApart z TI TO i1 i2 l1 l2) (hz : ZipS s.heap z TI TO .none) (hTI : IsPair s.heap TI (.ref i1) (.ref i2)) (hTO : IsPair s.heap TO a b)
    (h1 : SqIt tp s.heap i1 l1 k xs) (h2 : SqIt tq s.heap i2 l2 k ys) (hx : xs[k]? = some x) (hy : ys[k]? = some y)
    (fin : ∀ h', ZipS h' z TI TO (rawInt s.heap.objs.size) → IsPair h' TO x y → SqIt tp h' i1 l1 (k + 1) xs → SqIt tq h' i2 l2 (k + 1) ys → IsPair h' s.heap.objs.size x y → h'.objs.size = s.heap.objs.size + 1 →
      (∀ c o, c ≠ z → c ≠ TO → c ≠ i1 → c ≠ i2 → s.heap.get? c = some o → h'.get? c = some o) → Q (.ref s.heap.objs.size) { s with heap := h' }) :
    wpAny (model prog w) A (Builtin.«zip.__next__» ⟨[.ref z], []⟩) (fun r s' => ∃ v, r = .done (.ret v) ∧ Q v s') E s := by
  show wpAny _ _ (field (.ref z) 2 >>= _) _ _ _
  refine wpAny_bind (wpAny_field hz rfl (x := .bool true) rfl ?_)
  show wpAny _ _ (field (.ref z) 3 >>= _) _ _ _
  refine wpAny_bind (wpAny_field hz rfl (x := .ref TI) rfl ?_)
  refine wpAny_bind (wpAny_seqItems hTI rfl ?_)
  show wpAny _ _ (Builtin.SmallTypes.ownedTupleIsFree (.ref z) >>= _) _ _ _
  refine wpAny_bind ?_
  unfold Builtin.SmallTypes.ownedTupleIsFree
  refine wpAny_bind (wpAny_field hz rfl (x := .none) rfl (wpAny_pure ?_))
  simp only [if_true]
  refine wpAny_bind (wpAny_rule ?_)
  refine wpAny_bind (wpAny_field hz rfl (x := .ref TO) rfl ?_)
  refine wpAny_bind (wpAny_setField_rec hz (by simp) fun m1 z1 sb1 => ?_)
  replace z1 : ZipS m1 z TI TO .ellipsis := z1
  refine wpAny_bind ?_
  simp only [List.zipIdx_cons, List.zipIdx_nil, List.forIn_cons, List.forIn_nil]
  refine wpAny_bind (wpAny_bind (wpAny_onRaise ?_))
  show wpAny _ _ (Builtin.SmallTypes.nextOrEnd (.ref i1)) _ _ _
  refine nextOrEnd_item (h1.at (fun o e => (sb1.2 _ D.i1z).trans e) fun o e => (sb1.2 _ D.l1z).trans e) D.l1i1 hx fun m2 j1 sb2 => ?_
  have t2 : IsPair m2 TO a b := (sb2.2 _ D.TOi1).trans ((sb1.2 _ D.TOz).trans hTO)
  refine wpAny_bind (wpAny_seqItems t2 rfl ?_)
  refine wpAny_bind (wpAny_updateSeq_pair t2 fun m3 t3 sb3 => ?_)
  replace t3 : IsPair m3 TO x b := t3
  refine wpAny_bind (wpAny_letGo (wpAny_pure ?_))
  refine wpAny_bind (wpAny_bind (wpAny_onRaise ?_))
  show wpAny _ _ (Builtin.SmallTypes.nextOrEnd (.ref i2)) _ _ _
  have j2 : SqIt tq m3 i2 l2 k ys := h2.at (fun o e => (sb3.2 _ D.TOi2.symm).trans ((sb2.2 _ D.i12.symm).trans ((sb1.2 _ D.i2z).trans e))) fun o e => (sb3.2 _ D.l2TO).trans ((sb2.2 _ D.l2i1).trans ((sb1.2 _ D.l2z).trans e))
  refine nextOrEnd_item j2 D.l2i2 hy fun m4 j3 sb4 => ?_
  have t4 : IsPair m4 TO x b := (sb4.2 _ D.TOi2).trans t3
  refine wpAny_bind (wpAny_seqItems t4 rfl ?_)
  refine wpAny_bind (wpAny_updateSeq_pair t4 fun m5 t5 sb5 => ?_)
  replace t5 : IsPair m5 TO x y := t5
  refine wpAny_bind (wpAny_letGo (wpAny_pure (wpAny_pure ?_)))
  refine wpAny_bind (wpAny_seqItems t5 rfl ?_)
  refine wpAny_bind (wpAny_newTuple ?_)
  have sz : m5.objs.size = s.heap.objs.size := by rw [sb5.1, sb4.1, sb3.1, sb2.1, sb1.1]
  have keep : ∀ c o, c ≠ z → c ≠ TO → c ≠ i1 → c ≠ i2 → s.heap.get? c = some o → m5.get? c = some o := fun c o c1 c2 c3 c4 e =>
    (sb5.2 _ c2).trans ((sb4.2 _ c4).trans ((sb3.2 _ c2).trans ((sb2.2 _ c3).trans ((sb1.2 _ c1).trans e))))
  have z5 : ZipS m5 z TI TO .ellipsis := (sb5.2 _ D.TOz.symm).trans ((sb4.2 _ D.i2z.symm).trans ((sb3.2 _ D.TOz.symm).trans ((sb2.2 _ D.i1z.symm).trans z1)))
  have n1 : SqIt tp m5 i1 l1 (k + 1) xs := j1.at (fun o e => (sb5.2 _ D.TOi1.symm).trans ((sb4.2 _ D.i12).trans ((sb3.2 _ D.TOi1.symm).trans e))) fun o e => (sb5.2 _ D.l1TO).trans ((sb4.2 _ D.l1i2).trans ((sb3.2 _ D.l1TO).trans e))
  have n2 : SqIt tq m5 i2 l2 (k + 1) ys := j3.at (fun o e => (sb5.2 _ D.TOi2.symm).trans e) fun o e => (sb5.2 _ D.l2TO).trans e
  have zlt : z < m5.objs.size := Heap.lt_size z5
  show wpAny _ _ (Builtin.SmallTypes.ownedTupleHandOut (.ref z) (.ref m5.objs.size) >>= _) _ _ _
  refine wpAny_bind ?_
  unfold Builtin.SmallTypes.ownedTupleHandOut
  have z6 : ZipS (m5.push { cls := .type "tuple", data := .seq #[x, y] }) z TI TO .ellipsis := Heap.get?_push_of_some _ z5
  refine wpAny_bind (wpAny_setField_rec z6 (by simp) fun m7 z7 sb7 => ?_)
  replace z7 : ZipS m7 z TI TO (rawInt m5.objs.size) := z7
  refine wpAny_setField_rec z7 (by simp) fun m8 z8 sb8 => ?_
  replace z8 : ZipS m8 z TI TO (rawInt m5.objs.size) := z8
  have up : ∀ c o, c ≠ z → m5.get? c = some o → m8.get? c = some o := fun c o c1 e => (sb8.2 _ c1).trans ((sb7.2 _ c1).trans (Heap.get?_push_of_some _ e))
  have tp : IsPair m8 m5.objs.size x y := (sb8.2 _ (Nat.ne_of_gt zlt)).trans ((sb7.2 _ (Nat.ne_of_gt zlt)).trans (Heap.get?_push_size _ rfl))
  have sz8 : m8.objs.size = m5.objs.size + 1 := by rw [sb8.1, sb7.1, Heap.size_push]
  rw [sz] at z8 tp sz8
  refine wpAny_pure ⟨_, rfl, ?_⟩
  show Q (.ref m5.objs.size) _
  rw [sz]
  exact fin m8 z8 (up _ _ D.TOz t5) (n1.at (fun o e => up _ o D.i1z e) fun o e => up _ o D.l1z e) (n2.at (fun o e => up _ o D.i2z e) fun o e => up _ o D.l2z e) tp sz8 fun c o c1 c2 c3 c4 e => up c o c1 (keep c o c1 c2 c3 c4 e)
theorem zipS_end {tp tq : Bool} {z TI TO i1 i2 l1 l2 : Addr} {k : Nat} {xs ys : Array Value} {a b : Value} {Q : Fin → Shared → Prop} (hh : A.handled = none) (D : ZipApart z TI TO i1 i2 l1 l2) (hz : ZipS s.heap z TI TO .none) (hTI : IsPair s.heap TI (.ref i1) (.ref i2)) (hTO : IsPair s.heap TO a b)
    (h1 : SqIt tp s.heap i1 l1 k xs) (h2 : SqIt tq s.heap i2 l2 k ys) (hx : xs[k]? = none) (hy : ys[k]? = none)
    (fin : ∀ h' e, (∀ c o, c ≠ z → c ≠ TO → c ≠ i1 → c ≠ i2 → s.heap.get? c = some o → h'.get? c = some o) → (∃ o, h'.get? e = some o ∧ o.cls = .type "StopIteration") → E (.ref e) { s with heap := h' }) :
    wpAny (model prog w) A (Builtin.«zip.__next__» ⟨[.ref z], []⟩) Q E s := by
  show wpAny _ _ (field (.ref z) 2 >>= _) _ _ _
  refine wpAny_bind (wpAny_field hz rfl (x := .bool true) rfl ?_)
  show wpAny _ _ (field (.ref z) 3 >>= _) _ _ _
  refine wpAny_bind (wpAny_field hz rfl (x := .ref TI) rfl ?_)
  refine wpAny_bind (wpAny_seqItems hTI rfl ?_)
  show wpAny _ _ (Builtin.SmallTypes.ownedTupleIsFree (.ref z) >>= _) _ _ _
  refine wpAny_bind ?_
  unfold Builtin.SmallTypes.ownedTupleIsFree
  refine wpAny_bind (wpAny_field hz rfl (x := .none) rfl (wpAny_pure ?_))
  simp only [if_true]
  refine wpAny_bind (wpAny_rule ?_)
  refine wpAny_bind (wpAny_field hz rfl (x := .ref TO) rfl ?_)
  refine wpAny_bind (wpAny_setField_rec hz (by simp) fun m1 z1 sb1 => ?_)
  replace z1 : ZipS m1 z TI TO .ellipsis := z1
  refine wpAny_bind ?_
  simp only [List.zipIdx_cons, List.zipIdx_nil, List.forIn_cons, List.forIn_nil]
  refine wpAny_bind (wpAny_bind (wpAny_onRaise ?_))
  show wpAny _ _ (Builtin.SmallTypes.nextOrEnd (.ref i1)) _ _ _
  refine nextOrEnd_end hh (h1.at (fun o e => (sb1.2 _ D.i1z).trans e) fun o e => (sb1.2 _ D.l1z).trans e) hx fun m2 sb2 => ?_
  have z2 : ZipS m2 z TI TO .ellipsis := sb2 _ _ D.i1z.symm z1
  refine wpAny_bind (wpAny_setField_rec z2 (by simp) fun m3 z3 sb3 => ?_)
  refine wpAny_bind ?_
  let say1 : String := s!"zip() argument {(0 : Nat) + 1} is shorter than {(if (0 : Nat) == 1 then "argument 1" else s!"arguments 1-{(0 : Nat)}")}"
  let say2 : Nat → String := fun j => s!"zip() argument {j + 1} is longer than {(if j == 1 then "argument 1" else s!"arguments 1-{j}")}"
  show wpAny _ _ (do
      if (0 : Nat) > 0 then
        rule "zip.__next__.shorter"
        raiseError "ValueError" say1
      for (it, j) in ([Value.ref i1, .ref i2].drop 1).zipIdx 1 do
        if (← Builtin.SmallTypes.nextOrEnd it).isSome then
          rule "zip.__next__.longer"
          raiseError "ValueError" (say2 j)
      rule "zip.__next__.all-ended"
      (Builtin.SmallTypes.stopIteration : Sem PySem.Fin)) _ _ _
  rw [if_neg (by omega)]
  dsimp only
  refine wpAny_bind ?_
  simp only [List.drop_succ_cons, List.drop_zero, List.zipIdx_cons, List.zipIdx_nil, List.forIn_cons, List.forIn_nil]
  have kk : ∀ c o, c ≠ z → c ≠ i1 → s.heap.get? c = some o → m3.get? c = some o := fun c o c1 c2 e => (sb3.2 _ c1).trans (sb2 _ _ c2 ((sb1.2 _ c1).trans e))
  refine wpAny_bind (wpAny_bind ?_)
  refine nextOrEnd_end hh (h2.at (fun o e => kk _ _ D.i2z D.i12.symm e) fun o e => kk _ _ D.l2z D.l2i1 e) hy fun m4 sb4 => ?_
  simp only [Option.isSome_none, Bool.false_eq_true, if_false]
  refine wpAny_pure (wpAny_pure ?_)
  refine wpAny_bind (wpAny_rule ?_)
  unfold Builtin.SmallTypes.stopIteration
  show wpAny _ _ (newExc (.type "StopIteration") [] >>= _) _ _ _
  refine wpAny_bind ?_
  simp only [newExc, newTuple]
  refine wpAny_bind (wpAny_newObj_type ?_ (by size_fits))
  refine wpAny_bind (m := firstArgMember _ _) (wpAny_of_eq (a := Value.none) (by first | rfl | (simp only [firstArgMember]; rfl)) ?_)
  refine wpAny_newObj_type ?_ (by size_fits)
  simp only [raiseNew]
  refine wpAny_bind (wpAny_handled ?_)
  rw [hh]
  refine wpAny_bind (wpAny_pure (wpAny_throw ?_))
  exact fin _ _ (fun c o c1 c2 c3 c4 e => Heap.get?_push_of_some _ (Heap.get?_push_of_some _ (sb4 _ _ c4 (kk c o c1 c3 e)))) ⟨_, Heap.get?_push_size _ rfl, rfl⟩
theorem pyNext_zipS_item {tp tq : Bool} {z TI TO i1 i2 l1 l2 : Addr} {k : Nat} {xs ys : Array Value} {x y a b : Value} {Q : Option Value → Shared → Prop} (D : ZipApart z TI TO i1 i2 l1 l2) (hz : ZipS s.heap z TI TO .none) (hTI : IsPair s.heap TI (.ref i1) (.ref i2)) (hTO : IsPair s.heap TO a b)
    (h1 : SqIt tp s.heap i1 l1 k xs) (h2 : SqIt tq s.heap i2 l2 k ys) (hx : xs[k]? = some x) (hy : ys[k]? = some y)
    (fin : ∀ h', ZipS h' z TI TO (rawInt s.heap.objs.size) → IsPair h' TO x y → SqIt tp h' i1 l1 (k + 1) xs → SqIt tq h' i2 l2 (k + 1) ys → IsPair h' s.heap.objs.size x y → h'.objs.size = s.heap.objs.size + 1 →
      (∀ c o, c ≠ z → c ≠ TO → c ≠ i1 → c ≠ i2 → s.heap.get? c = some o → h'.get? c = some o) → Q (some (.ref s.heap.objs.size)) { s with heap := h' }) : wpAny (model prog w) A (pyNext (.ref z)) Q E s := by
  have ty : s.TypeIs (.ref z) "zip" := ⟨_, hz, rfl⟩
  unfold pyNext
  exact wpAny_bind (wpAny_attempt (wpAny_callSpecial?_slot (name := Str.ofString "__next__") ty F.slot_zip_next (wpAny_call_entry F.slot_zip_next ty F.entry_zip_next
    (zipS_item D hz hTI hTO h1 h2 hx hy fun h' a1 a2 a3 a4 a5 a6 a7 => wpAny_pure (fin h' a1 a2 a3 a4 a5 a6 a7)) (F.args_zip_next_1 _))))
theorem pyNext_zipS_end {tp tq : Bool} {z TI TO i1 i2 l1 l2 : Addr} {k : Nat} {xs ys : Array Value} {a b : Value} {Q : Option Value → Shared → Prop} (hh : A.handled = none) (D : ZipApart z TI TO i1 i2 l1 l2) (hz : ZipS s.heap z TI TO .none) (hTI : IsPair s.heap TI (.ref i1) (.ref i2)) (hTO : IsPair s.heap TO a b)
    (h1 : SqIt tp s.heap i1 l1 k xs) (h2 : SqIt tq s.heap i2 l2 k ys) (hx : xs[k]? = none) (hy : ys[k]? = none)
    (fin : ∀ h', (∀ c o, c ≠ z → c ≠ TO → c ≠ i1 → c ≠ i2 → s.heap.get? c = some o → h'.get? c = some o) → Q none { s with heap := h' }) : wpAny (model prog w) A (pyNext (.ref z)) Q E s := by
  have ty : s.TypeIs (.ref z) "zip" := ⟨_, hz, rfl⟩
  unfold pyNext
  refine wpAny_bind (wpAny_attempt (wpAny_callSpecial?_slot (name := Str.ofString "__next__") ty F.slot_zip_next (wpAny_call_entry F.slot_zip_next ty F.entry_zip_next (zipS_end hh D hz hTI hTO h1 h2 hx hy fun h' e hk he => ?_) (F.args_zip_next_1 _))))
  obtain ⟨o, ho, hc⟩ := he
  exact wpAny_bind (wpAny_isInstance (T := "StopIteration") (b := true) ⟨o, ho, hc⟩ isSubtype_stop (wpAny_pure (fin _ hk)))
theorem handOut_zipS {elts : List Expr} {x1} {pos : Pos} {z TI TO T : Addr} {Q : Unit → Shared → Prop} (hz : ZipS s.heap z TI TO (rawInt T)) (fin : ∀ h', ZipS h' z TI TO .none → Heap.SameBut z s.heap h' → Q () { s with heap := h' }) :
    wpAny (model prog w) A (letOwnedTupleGo (.Tuple elts x1 pos) (.ref z) (.ref T)) Q E s := by
  unfold letOwnedTupleGo
  refine wpAny_bind (wpAny_load hz ?_)
  show wpAny _ _ (if (["enumerate", "zip", "dict_itemiterator", "dict_reverseitemiterator", "odict_iterator", "itertools.zip_longest", "itertools.pairwise"].contains "zip" && (#[rawInt T, .bool false, .bool true, .ref TI, .ref TO] : Array Value)[0]? == some (rawInt T)) = true then _ else _) Q E s
  rw [if_pos (by simp)]
  refine wpAny_bind (wpAny_rule ?_)
  show wpAny _ _ (setField (.ref z) 0 .none) Q E s
  exact wpAny_setField_rec hz (by simp) fun h' hz' hs' => fin h' hz' hs'
theorem iter_zipS {z TI TO : Addr} {f : Value} {Q : Value → Shared → Prop} (hz : ZipS s.heap z TI TO f) (h : Q (.ref z) s) : wpAny (model prog w) A (pyIter (.ref z)) Q E s := by
  have ty : s.TypeIs (.ref z) "zip" := ⟨_, hz, rfl⟩
  refine wpAny_pyIter_slot ty F.slot_zip_iter (wpAny_call_entry F.slot_zip_iter ty F.entry_zip_iter ?_ (F.args_zip_iter_1 _))
  show wpAny _ _ (ret (.ref z)) _ _ s
  exact wpAny_pure ⟨_, rfl, "zip", _, ty, F.slot_zip_next.lookup, h⟩
end
end DV

set_option Elab.async false
set_option linter.all false
set_option maxRecDepth 100000
set_option maxHeartbeats 1000000
/-! DvR: the walk over zip(.., strict=True) and enumerate(tuple). -/
namespace DV
open PySem PySem.Spec PyProof.Rows L2
/-- a list (false) or tuple (true) that is read -/
def SqV (K : PySem.W.Frag) (H : Hp) (tp : Bool) (a : Addr) (xs : List V) : Prop := match tp with
  | false => SqL K H a xs
  | true => SqT K H a xs
section
variable {X : Cx} {pins : List (Addr × Obj)} {σ : L2.St} {H : Hp} {s : Shared}
theorem SqV.get {tp : Bool} {a : Addr} {xs : List V} (I : Inv X pins σ H s) (h : SqV X.K H tp a xs) : ∃ its : List Value, Vals xs its ∧ Sq1 s.heap tp a its.toArray := by
  cases tp
  · obtain ⟨its, r, p, _⟩ := I.list h; exact ⟨its, r, p.isList⟩
  · obtain ⟨its, r, p, _⟩ := I.tuple h; exact ⟨its, r, p⟩
theorem SqV.one {tp : Bool} {a : Addr} {xs ys : List V} (I : Inv X pins σ H s) (h : SqV X.K H tp a xs) (h2 : SqV X.K H tp a ys) : xs = ys := by
  cases tp
  · exact I.list_inj h h2
  · exact I.tuple_inj h h2
end
def ItS (K : PySem.W.Frag) (tp tq : Bool) (a b : Addr) : It :=
  ⟨fun i H => ∃ (xs ys : List V) (x y : V), SqV K H tp a xs ∧ SqV K H tq b ys ∧ xs[i]? = some x ∧ ys[i]? = some y,
    fun i H v H' => ∃ T x y, ∃ o : Obj, v = .ref T ∧ H T = none ∧ o.dict = none ∧ H' = upd H T (.frz o (.tup [x, y])) ∧ (∀ xs, SqV K H tp a xs → xs[i]? = some x) ∧ ∀ ys, SqV K H tq b ys → ys[i]? = some y,
    fun i H => ∃ xs ys : List V, SqV K H tp a xs ∧ SqV K H tq b ys ∧ xs.length ≤ i ∧ ys.length ≤ i⟩
theorem five_mem {c z TI TO i1 i2 : Addr} (h : c ∈ [z, TI, TO, i1, i2]) : c = z ∨ c = TI ∨ c = TO ∨ c = i1 ∨ c = i2 := by simpa using h
theorem five_not {c z TI TO i1 i2 : Addr} (h : c ∉ [z, TI, TO, i1, i2]) : c ≠ z ∧ c ≠ TO ∧ c ≠ i1 ∧ c ≠ i2 := by
  simp only [List.mem_cons, List.not_mem_nil, or_false, not_or] at h
  exact ⟨h.1, h.2.2.1, h.2.2.2.1, h.2.2.2.2⟩
theorem turn_zipS {P : Program} {w : World} {K : PySem.W.Frag} {elts : List Expr} {kk : Nat} {tpos : Pos} {tp tq : Bool} {a b z TI TO i1 i2 : Addr} (D : ZipApart z TI TO i1 i2 a b) :
    Turn P w K (.Tuple elts kk tpos) (ItS K tp tq a b) [z, TI, TO, i1, i2] z (fun i h => ZipS h z TI TO .none ∧ IsPair h TI (.ref i1) (.ref i2) ∧ (∃ x y, IsPair h TO x y) ∧ It1 h tp i1 a i ∧ It1 h tq i2 b i) where
  mem := List.mem_cons_self
  obj := fun i h ⟨hz, hTI, ⟨x, y, hTO⟩, h1, h2⟩ c hc => by
    rcases five_mem hc with q | q | q | q | q <;> rw [q]
    · exact ⟨_, hz, fun v q => nomatch q⟩
    · exact ⟨_, hTI, fun v q => nomatch q⟩
    · exact ⟨_, hTO, fun v q => nomatch q⟩
    · exact h1.obj
    · exact h2.obj
  keep := fun i h h' ⟨hz, hTI, ⟨x, y, hTO⟩, h1, h2⟩ k => ⟨k z (by simp) _ hz, k TI (by simp) _ hTI, ⟨x, y, k TO (by simp) _ hTO⟩, h1.at fun o q => k i1 (by simp) o q, h2.at fun o q => k i2 (by simp) o q⟩
  item := by
    intro X hP hw hK hc i pins s σ H E I hf st hg
    subst hP hw hK
    obtain ⟨hz, hTI, ⟨x0, y0, hTO⟩, h1, h2⟩ := st
    obtain ⟨xs, ys, x, y, qx, qy, hx, hy⟩ := hg
    obtain ⟨us, rv, s1⟩ := qx.get I
    obtain ⟨ws, rv2, s2⟩ := qy.get I
    obtain ⟨u, hu, ru⟩ := rv.get hx
    obtain ⟨u2, hu2, ru2⟩ := rv2.get hy
    have zl : z < s.heap.objs.size := Heap.lt_size hz
    refine pyNext_zipS_item D hz hTI hTO ⟨h1, s1⟩ ⟨h2, s2⟩ (x := u) (y := u2) (by simpa using hu) (by simpa using hu2) fun m z1 t1 j1 j2 tn _ hk => ?_
    refine ⟨_, rfl, handOut_zipS (s := { s with heap := m }) z1 fun m2 z2 sb => ?_⟩
    have kept : ∀ c o, c ∉ [z, TI, TO, i1, i2] → s.heap.get? c = some o → m2.get? c = some o := fun c o hb q =>
      have ⟨c1, c2, c3, c4⟩ := five_not hb
      (sb.2 c c1).trans (hk c o c1 c2 c3 c4 q)
    have tn2 : IsPair m2 s.heap.objs.size u u2 := (sb.2 _ (Nat.ne_of_gt zl)).trans tn
    have new : ObjOk X.prog X.w (upd H s.heap.objs.size (.frz { cls := .type "tuple", data := .seq #[u, u2] } (.tup [x, y]))) m2 s.heap.objs.size (.frz { cls := .type "tuple", data := .seq #[u, u2] } (.tup [x, y])) := ⟨tn2, by show 2 ≤ sizeLine; decide, [u, u2], .cons ru (.cons ru2 .nil), ⟨_, tn2, rfl, _, rfl⟩⟩
    have I1 : Inv X pins σ (upd H s.heap.objs.size (.frz { cls := .type "tuple", data := .seq #[u, u2] } (.tup [x, y]))) { s with heap := m2 } := I.turnedNew (t' := s.toks) (ch := [z, TI, TO, i1, i2]) (fun c o hb q => kept c o hb q) hf (Nat.le_refl _) new
    refine ⟨.ref s.heap.objs.size, _, I1, rfl, ⟨_, x, y, _, rfl, I.hok.fresh (Nat.le_refl _), rfl, rfl, fun l hl => by rw [hl.one I qx]; exact hx, fun l hl => by rw [hl.one I qy]; exact hy⟩,
      ⟨z2, (sb.2 _ D.TIz).trans (hk _ _ D.TIz D.TITO D.TIi1 D.TIi2 hTI), ⟨u, u2, (sb.2 _ D.TOz).trans t1⟩, j1.1.at fun o q => (sb.2 _ D.i1z).trans q, j2.1.at fun o q => (sb.2 _ D.i2z).trans q⟩, fun c hcm => ?_⟩
    have lt : c < s.heap.objs.size := by
      rcases five_mem hcm with q | q | q | q | q <;> rw [q]
      · exact zl
      · exact Heap.lt_size hTI
      · exact Heap.lt_size hTO
      · obtain ⟨_, e, _⟩ := h1.obj; exact Heap.lt_size e
      · obtain ⟨_, e, _⟩ := h2.obj; exact Heap.lt_size e
    rw [upd_ne (Nat.ne_of_lt lt)]
    exact (hf c hcm).1
  done := by
    intro X hP hw hK hc i pins s σ H E I hf st hg
    subst hP hw hK
    obtain ⟨hz, hTI, ⟨x0, y0, hTO⟩, h1, h2⟩ := st
    obtain ⟨xs, ys, qx, qy, ex, ey⟩ := hg
    obtain ⟨us, rv, s1⟩ := qx.get I
    obtain ⟨ws, rv2, s2⟩ := qy.get I
    have l1 := rv.length
    have l2 := rv2.length
    exact pyNext_zipS_end (I.ok.hd hc) D hz hTI hTO ⟨h1, s1⟩ ⟨h2, s2⟩ (by simp; omega) (by simp; omega) fun m hk => ⟨rfl, I.turnedL (t' := s.toks) (ch := [z, TI, TO, i1, i2]) (fun c o hb q =>
      have ⟨c1, c2, c3, c4⟩ := five_not hb
      hk c o c1 c2 c3 c4 q) hf⟩
  self := fun A i s Q E st h => iter_zipS st.1 h

/-! ### made -/
def itO (tp : Bool) (l : Addr) : Obj := match tp with
  | false => { cls := .type "list_iterator", data := .fields #[.ref l, .int 0 0] }
  | true => { cls := .type "tuple_iterator", data := .fields #[.ref l, .int 0 0] }
theorem begins (tp : Bool) (l : Addr) (xs : Array Value) : PySem.Begins (.ref l) (itO tp l) fun h => Sq1 h tp l xs := by
  cases tp
  · exact begins_list l xs
  · exact begins_tuple l xs
theorem itO_it {h : Heap} {tp : Bool} {i l : Addr} (e : h.get? i = some (itO tp l)) : It1 h tp i l 0 := by
  cases tp
  · exact ⟨_, e, rfl, rfl⟩
  · exact ⟨_, e, rfl, rfl⟩
abbrev zo1 (h : Heap) (o1 : Obj) : Heap := h.push o1
abbrev zo2 (h : Heap) (o1 o2 : Obj) : Heap := (zo1 h o1).push o2
abbrev zo3 (h : Heap) (o1 o2 : Obj) : Heap := (zo2 h o1 o2).push { cls := .type "tuple", data := .seq #[.ref h.objs.size, .ref (zo1 h o1).objs.size] }
abbrev zo4 (h : Heap) (o1 o2 : Obj) : Heap := (zo3 h o1 o2).push { cls := .type "tuple", data := .seq #[.none, .none] }
abbrev zo5 (h : Heap) (o1 o2 : Obj) : Heap := (zo4 h o1 o2).push { cls := .type "zip", data := .fields #[.none, .bool false, .bool true, .ref (zo2 h o1 o2).objs.size, .ref (zo3 h o1 o2).objs.size] }
theorem typeCall_zipS (a b c : Value) : checkTypeCall "zip" ⟨[a, b], [(Str.ofString "strict", c)]⟩ = pure () := by kernel_rfl
theorem newCall_zipS (a b c : Value) : checkBuiltinCall "zip.__new__" ⟨[.type "zip", a, b], [(Str.ofString "strict", c)]⟩ = pure () := by kernel_rfl
theorem args_initS (o a b c : Value) : argsOk "object.__init__" ⟨[o, a, b], [(Str.ofString "strict", c)]⟩ := by unfold argsOk; kernel_rfl
theorem meets_zipS {v1 v2 : Value} {o1 o2 : Obj} {H1 H2 : Heap → Prop} (B1 : PySem.Begins v1 o1 H1) (B2 : PySem.Begins v2 o2 H2) :
    Meets (Builtin.«zip.__new__» ⟨[.type "zip", v1, v2], [(Str.ofString "strict", .bool true)]⟩) (fun _ R s => H1 s.heap ∧ H2 s.heap ∧ R (.ok (.ret (.ref (zo4 s.heap o1 o2).objs.size))) { s with heap := zo5 s.heap o1 o2 }) :=
  .of_wp fun prog w A R s h => by
    obtain ⟨hp, g, d, tk, os⟩ := s
    obtain ⟨h1, h2, h⟩ := h
    have hsub := sub_zip
    have e1 : (Str.ofString "strict" == ("strict" : Str)) = true := by decide +kernel
    have e2 : (Str.ofString "strict" != ("strict" : Str)) = false := by decide +kernel
    have q1 : ∀ {A' : Around} {E : Value → Shared → Prop} {Q : Value → Shared → Prop}, Q (.ref hp.objs.size) ⟨hp.push o1, g, d, tk, os⟩ → wpAny (model prog w) A' (pyIter v1) Q E ⟨hp, g, d, tk, os⟩ :=
      fun q => B1.iter prog w _ _ ⟨hp, g, d, tk, os⟩ _ h1 q
    have q2 : ∀ {A' : Around} {E : Value → Shared → Prop} {Q : Value → Shared → Prop}, Q (.ref (hp.push o1).objs.size) ⟨(hp.push o1).push o2, g, d, tk, os⟩ → wpAny (model prog w) A' (pyIter v2) Q E ⟨hp.push o1, g, d, tk, os⟩ :=
      fun q => B2.iter prog w _ _ ⟨hp.push o1, g, d, tk, os⟩ _ (B2.keeps _ _ h2 fun b o e => Heap.get?_push_of_some _ e) q
    wp_walk using q1, q2
    exact ⟨_, rfl, h⟩
end DV

set_option Elab.async false
set_option linter.all false
set_option maxRecDepth 100000
set_option maxHeartbeats 1000000
/-! DvS: zip(xs, ys, strict=True) and enumerate(xs) as what is walked, by data; tuple.index; [::-1]. -/
namespace DV
open PySem PySem.Spec PyProof.Rows L2
section
variable {prog : Program} {w : World} {A : Around} {E : Value → Shared → Prop} {s : Shared}
theorem call_zipS {tp tq : Bool} {l1 l2 : Addr} {xs ys : Array Value} {Q : Value → Shared → Prop} (h1 : Sq1 s.heap tp l1 xs) (h2 : Sq1 s.heap tq l2 ys)
    (fin : ∀ h', ZipS h' (s.heap.objs.size + 4) (s.heap.objs.size + 2) (s.heap.objs.size + 3) .none → IsPair h' (s.heap.objs.size + 2) (.ref s.heap.objs.size) (.ref (s.heap.objs.size + 1)) → IsPair h' (s.heap.objs.size + 3) .none .none →
      It1 h' tp s.heap.objs.size l1 0 → It1 h' tq (s.heap.objs.size + 1) l2 0 → (∀ c o, s.heap.get? c = some o → h'.get? c = some o) → Q (.ref (s.heap.objs.size + 4)) { s with heap := h' }) :
    wpAny (model prog w) A (call (.type "zip") [.ref l1, .ref l2] [(Str.ofString "strict", .bool true)]) Q E s := by
  have B1 := begins tp l1 xs
  have B2 := begins tq l2 ys
  refine callType_newKw PySem.F.called_zip (by decide) (typeCall_zipS _ _ _) (newCall_zipS _ _ _) (fun obj => args_initS obj _ _ _) PySem.F.entry_zip_new (meets_zipS B1 B2) ⟨h1, h2, ?_⟩
  have z1 : (zo1 s.heap (itO tp l1)).objs.size = s.heap.objs.size + 1 := Heap.size_push ..
  have z2 : (zo2 s.heap (itO tp l1) (itO tq l2)).objs.size = s.heap.objs.size + 2 := by rw [Heap.size_push, z1]
  have z3 : (zo3 s.heap (itO tp l1) (itO tq l2)).objs.size = s.heap.objs.size + 3 := by rw [Heap.size_push, z2]
  have z4 : (zo4 s.heap (itO tp l1) (itO tq l2)).objs.size = s.heap.objs.size + 4 := by rw [Heap.size_push, z3]
  have g5 : (zo5 s.heap (itO tp l1) (itO tq l2)).get? (zo4 s.heap (itO tp l1) (itO tq l2)).objs.size = some _ := Heap.get?_push_size _ rfl
  have g4 : (zo5 s.heap (itO tp l1) (itO tq l2)).get? (zo3 s.heap (itO tp l1) (itO tq l2)).objs.size = some _ := Heap.get?_push_of_some _ (Heap.get?_push_size _ rfl)
  have g3 : (zo5 s.heap (itO tp l1) (itO tq l2)).get? (zo2 s.heap (itO tp l1) (itO tq l2)).objs.size = some _ := Heap.get?_push_of_some _ (Heap.get?_push_of_some _ (Heap.get?_push_size _ rfl))
  have g2 : (zo5 s.heap (itO tp l1) (itO tq l2)).get? (zo1 s.heap (itO tp l1)).objs.size = some _ := Heap.get?_push_of_some _ (Heap.get?_push_of_some _ (Heap.get?_push_of_some _ (Heap.get?_push_size _ B2.free)))
  have g1 : (zo5 s.heap (itO tp l1) (itO tq l2)).get? s.heap.objs.size = some _ := Heap.get?_push_of_some _ (Heap.get?_push_of_some _ (Heap.get?_push_of_some _ (Heap.get?_push_of_some _ (Heap.get?_push_size _ B1.free))))
  show _ ∧ _
  rw [z2, z3, z4] at g5
  rw [z1, z2] at g3
  rw [z3] at g4
  rw [z1] at g2
  rw [z4]
  exact ⟨⟨_, g5, rfl⟩, fin _ g5 g3 g4 (itO_it g1) (itO_it g2) fun c o x => Heap.get?_push_of_some _ (Heap.get?_push_of_some _ (Heap.get?_push_of_some _ (Heap.get?_push_of_some _ (Heap.get?_push_of_some _ x))))⟩
theorem callWith_tyKw {pos : Pos} {T : String} {env : PySem.Env} {e : Expr} {rest : List Expr} {kws : List Keyword} {Q : Value → Shared → Prop} {M : Model}
    (h : wpAny M A (spliced (backTo pos (starEach (e :: rest) env))) (fun vs s1 => wpAny M A (evalAll ((backToKw pos (keywordEach kws env)).map (·.2))) (fun ks s2 => wpAny M A (call (.type T) vs (((backToKw pos (keywordEach kws env)).filterMap (·.1)).zip ks)) Q E s2) E s1) E s)
    (he : backTo pos (starEach (e :: rest) env) = (false, eval e env) :: backTo pos (starEach rest env)) (hplain : (backTo pos (starEach (e :: rest) env)).any (·.1) = false)
    (hall : (backToKw pos (keywordEach kws env)).all (·.1.isSome) = true) (hkw : (backToKw pos (keywordEach kws env)).any (·.1.isNone) = false) :
    wpAny M A (callWith pos (.type T) [] (backTo pos (starEach (e :: rest) env)) (backToKw pos (keywordEach kws env))) Q E s := by
  have key : wpAny M A (evalArgs (.type T) true (backTo pos (starEach (e :: rest) env)) (backToKw pos (keywordEach kws env))) (fun a s1 => wpAny M A (call (.type T) ([] ++ a.pos) a.kw) Q E s1) E s := by
    rw [he] at h ⊢
    exact PyProof.Rows.evalArgs_kwB hall h
  unfold callWith
  refine wpAny_bind (wpAny_holding (wpAny_mono key (fun a s1 h1 => wpAny_bind (wpAny_standAt ?_)) fun _ _ x => x))
  simp only [hplain, hkw, Bool.or_false]
  refine wpAny_bind (wpAny_pure ?_)
  exact wpAny_bind (wpAny_mono h1 (fun r s2 hr => wpAny_bind (wpAny_holding (wpAny_point (wpAny_pure hr)))) fun _ _ x => x)
end
def iZipS0 (K : PySem.W.Frag) (ta : TA) : TI := fun σ H R => ta σ H fun vs H1 => ∃ (tp tq : Bool) (a b : Addr) (xs ys : List V), vs = [.ref a, .ref b] ∧ SqV K H1 tp a xs ∧ SqV K H1 tq b ys ∧ R (ItS K tp tq a b) H1
theorem pi_zipS {X : Cx} {e e2 : Expr} {ta : TA} {p pos tpos kp cp : Pos} {j : Nat} {elts : List Expr} {kk : Nat} (hg : Gl X "zip") (hm : X.mg "zip" = none) (ha : PA X [e, e2] ta)
    (hs : backTo pos (starEach [e, e2] X.env) = (false, eval e X.env) :: backTo pos (starEach [e2] X.env) := by rfl) (hpl : (backTo pos (starEach [e, e2] X.env)).any (·.1) = false := by rfl) :
    PI X (.Tuple elts kk tpos) (.Call (.Name "zip" p) [e, e2] [⟨some "strict", .Constant (.bool true) j cp, kp⟩] pos) (iZipS0 X.K ta) := by
  refine ⟨fun pins s σ H R I h => ?_⟩
  refine wpAny_Call_Name_kw (ld_blt I hg hm PyProof.Rows.boot_zip (callWith_tyKw (thn (ha.run pos pins s σ H _ I h) fun us s1 ⟨vs, H1, I1, r1, q1⟩ => ?_) hs hpl rfl rfl))
  refine PyProof.Rows.kws_cons (wpAny_Constant_bool (PyProof.Rows.kws_nil ?_))
  obtain ⟨tp, tq, a, b, xs, ys, ex, qx, qy, q⟩ := q1
  subst ex
  cases r1 with
  | cons r rr =>
    cases rr with
    | cons r' rr =>
      cases rr
      cases r
      cases r'
      obtain ⟨us, rv, s1'⟩ := qx.get I1
      obtain ⟨ws, rv2, s2'⟩ := qy.get I1
      show wpAny _ _ (call (.type "zip") [.ref a, .ref b] [(Str.ofString "strict", .bool true)]) _ _ _
      refine call_zipS s1' s2' fun h' hz hTI hTO h1 h2 hk => iter_zipS hz ?_
      have I2 : Inv X pins σ H1 { s1 with heap := h' } := I1.kept (t' := s1.toks) hk
      have la : a < s1.heap.objs.size := by cases tp <;> (obtain ⟨_, e, _⟩ := s1'; exact Heap.lt_size e)
      have lb : b < s1.heap.objs.size := by cases tq <;> (obtain ⟨_, e, _⟩ := s2'; exact Heap.lt_size e)
      refine ⟨s1.heap.objs.size + 4, [s1.heap.objs.size + 4, s1.heap.objs.size + 2, s1.heap.objs.size + 3, s1.heap.objs.size, s1.heap.objs.size + 1], _, _, H1, rfl, I2, turn_zipS (PySem.W.ktu_apart s1.heap.objs.size a b la lb), ⟨hz, hTI, ⟨_, _, hTO⟩, h1, h2⟩, fun c hc => ?_, q⟩
      have le : s1.heap.objs.size ≤ c := by
        rcases five_mem hc with z | z | z | z | z <;> rw [z]
        · exact Nat.le_add_right _ _
        · exact Nat.le_add_right _ _
        · exact Nat.le_add_right _ _
        · exact Nat.le_refl _
        · exact Nat.le_add_right _ _
      exact I1.fpOk le (I1.hok.fresh le)

/-! ### enumerate -/
theorem drawsS {prog : Program} {w : World} {A : Around} (hh : A.handled = none) (tp : Bool) (it l : Addr) (ne : l ≠ it) (xs : Array Value) : Draws prog w A it [it, l] xs.size (fun i v => xs[i]? = some v) (fun i h => SqIt tp h it l i xs) where
  live := fun _ _ st => let ⟨o, e, _⟩ := st.1.obj; ⟨o, e⟩
  frame := fun _ _ _ st hk => st.at (fun o e => hk it (by simp) o e) fun o e => hk l (by simp) o e
  item := fun i s Q E hi st hQ => by
    obtain ⟨a, b⟩ := st
    cases tp
    · exact wpAny_nextOf_list_item a b (x := xs[i]) (by simp [hi]) fun h' a' sb => hQ _ h' s.toks (by simp [hi]) ⟨a', b.at fun o e => (sb.2 l ne).trans e⟩ sb
    · exact RZ.nextOf_tuple_item a b (x := xs[i]) (by simp [hi]) fun h' a' sb => hQ _ h' s.toks (by simp [hi]) ⟨a', b.at fun o e => (sb.2 l ne).trans e⟩ sb
  done := fun s Q E st hE => by
    obtain ⟨a, b⟩ := st
    cases tp
    · exact wpAny_nextOf_list_end hh a b (by simp) hE
    · exact RZ.nextOf_tuple_end hh a b (by simp) hE
theorem drawsEnd {prog : Program} {w : World} {A : Around} (hh : A.handled = none) (tp : Bool) (it l : Addr) (xs : Array Value) (n : Nat) (hn : xs.size ≤ n) : Draws prog w A it [it, l] n (fun _ _ => True) (fun i h => i = n ∧ SqIt tp h it l n xs) where
  live := fun _ _ st => let ⟨o, e, _⟩ := st.2.1.obj; ⟨o, e⟩
  frame := fun _ _ _ st hk => ⟨st.1, st.2.at (fun o e => hk it (by simp) o e) fun o e => hk l (by simp) o e⟩
  item := fun i s Q E hi st _ => absurd st.1 (Nat.ne_of_lt hi)
  done := fun s Q E st hE => by
    obtain ⟨_, a, b⟩ := st
    cases tp
    · exact wpAny_nextOf_list_end hh a b (by simp; omega) hE
    · exact RZ.nextOf_tuple_end hh a b (by simp; omega) hE
def ItE (K : PySem.W.Frag) (tp : Bool) (a : Addr) : It :=
  ⟨fun i H => ∃ (xs : List V) (x : V), SqV K H tp a xs ∧ xs[i]? = some x, fun i H v H' => ∃ T x, ∃ o : Obj, v = .ref T ∧ H T = none ∧ o.dict = none ∧ H' = upd H T (.frz o (.tup [.int (i : Nat), x])) ∧ ∀ xs, SqV K H tp a xs → xs[i]? = some x, fun i H => ∃ xs : List V, SqV K H tp a xs ∧ xs.length ≤ i⟩
theorem two_mem {c e it : Addr} (h : c ∈ [e, it]) : c = e ∨ c = it := by simpa using h
theorem two_not {c e it : Addr} (h : c ∉ [e, it]) : c ≠ e ∧ c ≠ it := by simpa using h
theorem turn_enumS {P : Program} {w : World} {K : PySem.W.Frag} {elts : List Expr} {kk : Nat} {tpos : Pos} {tp : Bool} {a e it : Addr} (ne : e ≠ it) (na : a ≠ it) (nb : a ≠ e) :
    Turn P w K (.Tuple elts kk tpos) (ItE K tp a) [e, it] e (fun i h => (∃ old, IsEnum h e it ((i : Nat) : Int) old) ∧ It1 h tp it a i) where
  mem := List.mem_cons_self
  obj := fun i h ⟨⟨old, he⟩, h1⟩ c hc => by
    rcases two_mem hc with q | q <;> rw [q]
    · exact ⟨_, he, fun v q => nomatch q⟩
    · exact h1.obj
  keep := fun i h h' ⟨⟨old, he⟩, h1⟩ k => ⟨⟨old, k e (by simp) _ he⟩, h1.at fun o q => k it (by simp) o q⟩
  item := by
    intro X hP hw hK hc i pins s σ H E I hf st hg
    subst hP hw hK
    obtain ⟨⟨old, he⟩, h1⟩ := st
    obtain ⟨xs, x, qx, hx⟩ := hg
    obtain ⟨us, rv, s1⟩ := qx.get I
    have hl := rv.length
    have hi : i < us.length := by rw [← hl]; exact (List.getElem?_eq_some_iff.mp hx).1
    have el : e < s.heap.objs.size := Heap.lt_size he
    have nf : e ∉ [it, a] := by simp; exact ⟨ne, Ne.symm nb⟩
    refine wpAny_pyNext_enum_itemC (drawsS (by simp [I.ok.hd hc]) tp it a na us.toArray) he ⟨h1, s1⟩ (by simpa using hi) ne nf fun u m tk hu ho j1 ht _ hk => ?_
    obtain ⟨u', hu', ru⟩ := rv.get hx
    have eu : u = u' := by
      have : us[i]? = some u := by simpa using hu
      rw [hu'] at this
      exact (Option.some.inj this).symm
    subst eu
    refine ⟨_, rfl, wpAny_letOwnedTupleGo_enum (s := { s with heap := m, toks := tk + 1 }) ho fun m2 he2 sb => ?_⟩
    have tn : IsPair m2 s.heap.objs.size (.int i tk) u := (sb.2 _ (Nat.ne_of_gt el)).trans ht
    have new : ObjOk X.prog X.w (upd H s.heap.objs.size (.frz { cls := .type "tuple", data := .seq #[.int i tk, u] } (.tup [.int (i : Nat), x]))) m2 s.heap.objs.size (.frz { cls := .type "tuple", data := .seq #[.int i tk, u] } (.tup [.int (i : Nat), x])) := ⟨tn, by show 2 ≤ sizeLine; decide, [.int i tk, u], .cons ⟨_, rfl⟩ (.cons ru .nil), ⟨_, tn, rfl, _, rfl⟩⟩
    have I1 : Inv X pins σ (upd H s.heap.objs.size (.frz { cls := .type "tuple", data := .seq #[.int i tk, u] } (.tup [.int (i : Nat), x]))) { s with heap := m2, toks := tk + 1 } :=
      I.turnedNew (ch := [e, it]) (fun c o hb q => have ⟨c1, c2⟩ := two_not hb; (sb.2 c c1).trans (hk c o c1 c2 q)) hf (Nat.le_refl _) new
    refine ⟨.ref s.heap.objs.size, _, I1, rfl, ⟨_, x, _, rfl, I.hok.fresh (Nat.le_refl _), rfl, rfl, fun l hl => by rw [hl.one I qx]; exact hx⟩, ⟨⟨u, ?_⟩, j1.1.at fun o q => (sb.2 _ (Ne.symm ne)).trans q⟩, fun c hcm => ?_⟩
    · rw [show ((i + 1 : Nat) : Int) = (i : Int) + 1 by omega]
      exact he2
    · have lt : c < s.heap.objs.size := by
        rcases two_mem hcm with q | q <;> rw [q]
        · exact el
        · obtain ⟨_, e1, _⟩ := h1.obj; exact Heap.lt_size e1
      rw [upd_ne (Nat.ne_of_lt lt)]
      exact (hf c hcm).1
  done := by
    intro X hP hw hK hc i pins s σ H E I hf st hg
    subst hP hw hK
    obtain ⟨⟨old, he⟩, h1⟩ := st
    obtain ⟨xs, qx, ex⟩ := hg
    obtain ⟨us, rv, s1⟩ := qx.get I
    have hl := rv.length
    exact wpAny_pyNext_enum_endD (drawsEnd (by simp [I.ok.hd hc]) tp it a us.toArray i (by rw [List.size_toArray, ← hl]; exact ex)) he ⟨rfl, h1, s1⟩ fun m hk => ⟨rfl, I.turnedL (t' := s.toks) (ch := [e, it]) (fun c o hb q => have ⟨c1, c2⟩ := two_not hb; hk c o c2 q) hf⟩
  self := fun A i s Q E st h => let ⟨⟨_, he⟩, _⟩ := st; wpAny_pyIter_enum he h
/-! ### enumerate made -/
theorem meets_enumT (l : Addr) (items : Array Value) (n : Nat) (dct : Option Addr) (sl : Array (Option Value)) :
    Meets (Builtin.«enumerate.__new__» ⟨[.type "enumerate", .ref l], []⟩) (fun _ R s => s.heap.get? l = some { cls := .type "tuple", dict := dct, data := .seq items n, slots := sl } ∧
      R (.ok (.ret (.ref (s.heap.push (itO true l)).objs.size))) { s with heap := (s.heap.push (itO true l)).push { cls := .type "enumerate", data := .fields #[.none, .bool false, .ref s.heap.objs.size, rawInt 0, .none, .none] } }) :=
  .of_wp fun prog w A R s h => by
    obtain ⟨hp, g, d, tk, os⟩ := s
    obtain ⟨hl, h⟩ := h
    have hsub := sub_enumerate
    have hT : Heap.IsTuple (Shared.heap ⟨hp, g, d, tk, os⟩) l items := ⟨_, hl, rfl, n, rfl⟩
    wp_walk using AutoSeq1.wpAny_loadPart' hl
    refine wpAny_stack_any fun st => wpAny_pure ?_
    split
    · rename_i c _ _ _ _ _
      cases (c == Value.type "enumerate")
      · wp_walk using AutoSeq1.wpAny_loadPart' hl, wpAny_pyIter_tuple hT
        exact ⟨_, rfl, h⟩
      · wp_walk using AutoSeq1.wpAny_loadPart' hl, wpAny_pyIter_tuple hT
        exact ⟨_, rfl, h⟩
    · wp_walk using AutoSeq1.wpAny_loadPart' hl, wpAny_pyIter_tuple hT
      exact ⟨_, rfl, h⟩
section
variable {prog : Program} {w : World} {A : Around} {E : Value → Shared → Prop} {s : Shared}
theorem call_enumS {tp : Bool} {l : Addr} {xs : Array Value} {Q : Value → Shared → Prop} (h1 : Sq1 s.heap tp l xs)
    (fin : ∀ h', IsEnum h' (s.heap.objs.size + 1) s.heap.objs.size 0 .none → It1 h' tp s.heap.objs.size l 0 → (∀ b o, s.heap.get? b = some o → h'.get? b = some o) → Q (.ref (s.heap.objs.size + 1)) { s with heap := h' }) :
    wpAny (model prog w) A (call (.type "enumerate") [.ref l]) Q E s := by
  cases tp
  · exact call_enumerate_list h1 fun h' he hit _ hk => fin h' he hit hk
  · obtain ⟨⟨c, dct, dt, sl⟩, hl, hc, n, hd⟩ := h1
    dsimp only at hc hd
    subst hc hd
    refine callType_new F.called_enumerate (by decide) (F.typeCall_enumerate_1 _) (F.newCall_enumerate_1 _) (fun obj => F.args_object_init_2 obj _) F.entry_enumerate_new (meets_enumT l xs n dct sl) ⟨hl, ?_⟩
    have hz : (s.heap.push (itO true l)).objs.size = s.heap.objs.size + 1 := Heap.size_push ..
    show _ ∧ _
    rw [hz]
    have he : IsEnum ((s.heap.push (itO true l)).push { cls := .type "enumerate", data := .fields #[.none, .bool false, .ref s.heap.objs.size, rawInt 0, .none, .none] }) (s.heap.objs.size + 1) s.heap.objs.size 0 .none := by
      have := Heap.get?_push_size (s.heap.push (itO true l)) (o := { cls := .type "enumerate", data := .fields #[.none, .bool false, .ref s.heap.objs.size, rawInt 0, .none, .none] }) rfl
      rw [hz] at this
      exact this
    exact ⟨⟨_, he, rfl⟩, fin _ he (itO_it (Heap.get?_push_of_some _ (Heap.get?_push_size _ rfl))) fun b o x => Heap.get?_push_of_some _ (Heap.get?_push_of_some _ x)⟩
end
def iEnum0 (K : PySem.W.Frag) (ta : TA) : TI := fun σ H R => ta σ H fun vs H1 => ∃ (tp : Bool) (a : Addr) (xs : List V), vs = [.ref a] ∧ SqV K H1 tp a xs ∧ R (ItE K tp a) H1
theorem pi_enumS {X : Cx} {e : Expr} {ta : TA} {p pos tpos : Pos} {elts : List Expr} {kk : Nat} (hg : Gl X "enumerate") (hm : X.mg "enumerate" = none) (ha : PA X [e] ta) (hs : starEach [e] X.env = [(false, eval e X.env)] := by rfl) :
    PI X (.Tuple elts kk tpos) (.Call (.Name "enumerate" p) [e] [] pos) (iEnum0 X.K ta) := by
  refine ⟨fun pins s σ H R I h => ?_⟩
  refine Call_ (ld_blt I hg hm boot_enumerate (PyProof.Rows.callWith_type1 (thn (ha.run pos pins s σ H _ I h) fun us s1 ⟨vs, H1, I1, r1, q1⟩ => ?_) hs rfl))
  obtain ⟨tp, a, xs, ex, qx, q⟩ := q1
  subst ex
  cases r1 with
  | cons r rr =>
    cases rr
    cases r
    obtain ⟨us, rv, s1'⟩ := qx.get I1
    have la : a < s1.heap.objs.size := by cases tp <;> (obtain ⟨_, e, _⟩ := s1'; exact Heap.lt_size e)
    refine call_enumS s1' fun h' he hit hk => wpAny_pyIter_enum he ?_
    have I2 : Inv X pins σ H1 { s1 with heap := h' } := I1.kept (t' := s1.toks) hk
    refine ⟨s1.heap.objs.size + 1, [s1.heap.objs.size + 1, s1.heap.objs.size], _, _, H1, rfl, I2, turn_enumS (Nat.succ_ne_self _) (Nat.ne_of_lt la) (Nat.ne_of_lt (Nat.lt_succ_of_lt la)), ⟨⟨.none, he⟩, hit⟩, fun c hc => ?_, q⟩
    have le : s1.heap.objs.size ≤ c := by
      rcases two_mem hc with z | z <;> rw [z]
      · exact Nat.le_add_right _ _
      · exact Nat.le_refl _
    exact I1.fpOk le (I1.hok.fresh le)
end DV

set_option Elab.async false
set_option linter.all false
set_option maxRecDepth 100000
set_option maxHeartbeats 1000000
/-! DvT: enumerate and strict zip by data; tuple.index; what a text may leave open. -/
namespace DV
open PySem PySem.Spec PyProof.Rows L2
/-! ### what is not reached -/
section
variable {X : Cx} {ct : String → Addr} {W : WX} {e : Expr} {st : Stmt}
theorem pd_stk : PD X ct W e (fun _ _ => .stk) := ⟨fun pins s σ H Q I ⟨_, _, _, _, p⟩ => p.elim⟩
theorem psd_stk : PSD X ct W st (fun _ _ => .stk) := ⟨fun pins s σ H Q I ⟨_, _, _, _, p⟩ => p.elim⟩
end
/-! ### a list or tuple at later states -/
def keepD (A : Hd) : D → List (Nat × List D)
  | .ref n => match A[n]? with
    | some (.lst ds) => [(n, ds)]
    | _ => []
  | _ => []
section
variable {K : PySem.W.Frag} {ct : String → Addr} {io : Io} {H : Hp} {A : Hd}
theorem seq_later {v : V} {d : D} {ds : List D} (hr : HR K ct io H A) (r : DR K ct io H v d) (e : asQ A d = some ds) :
    ∃ tp a xs, v = .ref a ∧ SqV K H tp a xs ∧ ∀ io2 H2 A2, Ext io H io2 H2 → HR K ct io2 H2 A2 → (∀ p ∈ keepD A d, A2[p.1]? = some (.lst p.2)) → ∃ ys, SqV K H2 tp a ys ∧ DRs K ct io2 H2 ys ds := by
  by_cases ht : ∃ es, d = .tup es
  · obtain ⟨es, rfl⟩ := ht
    cases e
    cases r with
    | @tup a xs _ q rs => exact ⟨true, a, xs, rfl, q.sq, fun io2 H2 A2 x h2 _ => ⟨xs, SqT.ext x hr.noT q.sq, rs.mono x hr.noT⟩⟩
  · have e1 : asR A d = some ds := by
      cases d with
      | tup es => exact absurd ⟨es, rfl⟩ ht
      | _ => exact e
    obtain ⟨a, xs, rfl, q, rs⟩ := asR_ok hr r e1
    refine ⟨false, a, xs, rfl, q, fun io2 H2 A2 x h2 hk => ?_⟩
    have e2 : asR A2 d = some ds := by
      cases d with
      | ref n =>
        have e3 : asL A (.ref n) = some ds := e1
        unfold asL at e3
        dsimp only at e3
        cases hm : A[n]? with
        | none => rw [hm] at e3; cases e3
        | some m =>
          rw [hm] at e3
          cases m with
          | lst es =>
            cases e3
            have := hk (n, ds) (by unfold keepD; dsimp only; rw [hm]; exact List.mem_singleton.mpr rfl)
            show asL A2 (.ref n) = _
            unfold asL
            dsimp only at this ⊢
            rw [this]
          | dic es => cases e3
          | ins c fs => cases e3
      | _ => exact e1
    obtain ⟨b, ys, eb, q2, rs2⟩ := asR_ok h2 (r.mono x hr.noT) e2
    cases eb
    exact ⟨ys, q2, rs2⟩
end
def enD (i : Nat) : List D → List D
  | [] => []
  | d :: ds => .tup [.int (i : Nat), d] :: enD (i + 1) ds
theorem enD_get : ∀ (ds : List D) (i j : Nat), (enD i ds)[j]? = (ds[j]?).map fun d => .tup [.int ((i + j : Nat) : Int), d]
  | [], _, _ => rfl
  | d :: ds, i, 0 => rfl
  | d :: ds, i, j + 1 => by
    show (enD (i + 1) ds)[j]? = (ds[j]?).map _
    rw [enD_get ds (i + 1) j, show i + 1 + j = i + (j + 1) by omega]
theorem enD_len : ∀ (ds : List D) (i : Nat), (enD i ds).length = ds.length
  | [], _ => rfl
  | d :: ds, i => by
    show (enD (i + 1) ds).length + 1 = _
    rw [enD_len ds]
    rfl
def iEnumS (a : EF) : IF := fun ro A => (a ro A).bind fun d A1 => match asQ A1 d with
  | some ds => .ok (.mix (enD 0 ds) (keepD A1 d)) A1
  | none => .stk
def zpD (xs ys : List D) : List D := (xs.zip ys).map fun p => .tup [p.1, p.2]
def iZipS (a b : EF) : IF := fun ro A => (a ro A).bind fun d A1 => (b ro A1).bind fun e A2 => match asQ A2 d, asQ A2 e with
  | some xs, some ys => if xs.length = ys.length then .ok (.mix (zpD xs ys) (keepD A2 d ++ keepD A2 e)) A2 else .stk
  | _, _ => .stk
/-- a new pair -/
theorem pair_new {K : PySem.W.Frag} {ct : String → Addr} {io : Io} {H : Hp} {A : Hd} {T : Addr} {x y : V} {d e : D} {o : Obj} (h : HR K ct io H A) (n : H T = none) (ho : o.dict = none) (rx : DR K ct io H x d) (ry : DR K ct io H y e) :
    Ext io H io (upd H T (.frz o (.tup [x, y]))) ∧ HR K ct io (upd H T (.frz o (.tup [x, y]))) A ∧ DR K ct io (upd H T (.frz o (.tup [x, y]))) (.ref T) (.tup [d, e]) :=
  ⟨Ext.laid n, h.laid n, .newTup h n ho (.cons rx (.cons ry .nil))⟩

section
variable {K : PySem.W.Frag} {ct : String → Addr} {io : Io} {H : Hp} {A : Hd}
theorem walkE {tp : Bool} {a : Addr} {ds : List D} {ks : List (Nat × List D)} (hs : ∀ io2 H2 A2, Ext io H io2 H2 → HR K ct io2 H2 A2 → (∀ p ∈ ks, A2[p.1]? = some (.lst p.2)) → ∃ ys, SqV K H2 tp a ys ∧ DRs K ct io2 H2 ys ds) : WalkR K ct io H (ItE K tp a) (.mix (enD 0 ds) ks) := by
  intro io2 H2 A2 e h hh
  obtain ⟨xs, q, rs⟩ := hs io2 H2 A2 e h hh
  refine ⟨fun i d hd => ?_, fun i hi => ?_⟩
  · have hd' : (enD 0 ds)[i]? = some d := hd
    rw [enD_get, Nat.zero_add] at hd'
    cases hx : ds[i]? with
    | none => rw [hx] at hd'; cases hd'
    | some x =>
      rw [hx] at hd'
      cases hd'
      obtain ⟨v, h1, h2⟩ := rs.get hx
      refine ⟨⟨xs, v, q, h1⟩, fun z H3 y => ?_⟩
      obtain ⟨T, w, o, rfl, nT, ho, rfl, y⟩ := y
      have e1 := y xs q
      rw [h1] at e1
      cases e1
      exact pair_new h nT ho (.int _) h2
  · exact ⟨xs, q, by rw [rs.length]; simpa [Src.items, enD_len] using hi⟩
end
section
variable {K : PySem.W.Frag} {ct : String → Addr} {io : Io} {H : Hp} {A : Hd}
theorem walkZ {tp tq : Bool} {a b : Addr} {ds es : List D} {ks : List (Nat × List D)} (hl : ds.length = es.length) (hs : ∀ io2 H2 A2, Ext io H io2 H2 → HR K ct io2 H2 A2 → (∀ p ∈ ks, A2[p.1]? = some (.lst p.2)) → (∃ ys, SqV K H2 tp a ys ∧ DRs K ct io2 H2 ys ds) ∧ ∃ ys, SqV K H2 tq b ys ∧ DRs K ct io2 H2 ys es) :
    WalkR K ct io H (ItS K tp tq a b) (.mix (zpD ds es) ks) := by
  intro io2 H2 A2 e h hh
  obtain ⟨⟨xs, q, rs⟩, ys, q2, rs2⟩ := hs io2 H2 A2 e h hh
  have l1 := rs.length
  have l2 := rs2.length
  refine ⟨fun i d hd => ?_, fun i hi => ?_⟩
  · have hd' : (zpD ds es)[i]? = some d := hd
    unfold zpD at hd'
    rw [List.getElem?_map] at hd'
    cases hp : (ds.zip es)[i]? with
    | none => rw [hp] at hd'; cases hd'
    | some p =>
      rw [hp] at hd'
      cases hd'
      obtain ⟨g1, g2⟩ := List.getElem?_zip_eq_some.mp hp
      obtain ⟨v, h1, r1⟩ := rs.get g1
      obtain ⟨w, h2, r2⟩ := rs2.get g2
      refine ⟨⟨xs, ys, v, w, q, q2, h1, h2⟩, fun z H3 y => ?_⟩
      obtain ⟨T, v', w', o, rfl, nT, ho, rfl, y1, y2⟩ := y
      have e1 := y1 xs q
      have e2 := y2 ys q2
      rw [h1] at e1
      rw [h2] at e2
      cases e1
      cases e2
      exact pair_new h nT ho r1 r2
  · have hi' : (zpD ds es).length ≤ i := hi
    unfold zpD at hi'
    rw [List.length_map, List.length_zip] at hi'
    exact ⟨xs, ys, q, q2, by omega, by omega⟩
end
section
variable {X : Cx} {ct : String → Addr} {W : WX} {e a b o : Expr} {fa fb : EF} {elts : List Expr} {kk : Nat} {tpos p pos apos cpos : Pos}
theorem pid_enum (hg : Gl X "enumerate") (hm : X.mg "enumerate" = none) (ha : PD X ct W e fa) (hs : starEach [e] X.env = [(false, eval e X.env)] := by rfl) : PID X ct W (.Tuple elts kk tpos) (.Call (.Name "enumerate" p) [e] [] pos) (iEnumS fa) :=
  pi_mono (pi_enumS hg hm (pda_cons ha pda_nil hs) hs) fun σ H Q ⟨io, A, ro, st, q⟩ => by
    unfold iEnumS at q
    refine ⟨io, A, ro, st, ?_⟩
    unfold aCons
    cases hf : fa ro A with
    | stk => rw [hf] at q; exact q.elim
    | err c fs A1 => rw [hf] at q; exact q
    | ok d A1 =>
      rw [hf, R.bind_ok] at q
      rw [R.bind_ok]
      intro vs io1 H1 e1 h1 r1
      cases r1 with
      | cons r rs =>
      cases rs
      split at q
      · rename_i ds hds
        obtain ⟨tp, a, xs, rfl, qx, lat⟩ := seq_later h1 r hds
        exact ⟨tp, a, xs, rfl, qx, q _ io1 H1 e1 h1 (walkE lat)⟩
      · exact q.elim
theorem pid_zipS {j : Nat} {cp kp : Pos} (hg : Gl X "zip") (hm : X.mg "zip" = none) (ha : PD X ct W a fa) (hb : PD X ct W b fb)
    (h1 : starEach [a, b] X.env = (false, eval a X.env) :: starEach [b] X.env := by rfl) (h2 : starEach [b] X.env = (false, eval b X.env) :: starEach [] X.env := by rfl)
    (hs : backTo pos (starEach [a, b] X.env) = (false, eval a X.env) :: backTo pos (starEach [b] X.env) := by rfl) (hpl : (backTo pos (starEach [a, b] X.env)).any (·.1) = false := by rfl) :
    PID X ct W (.Tuple elts kk tpos) (.Call (.Name "zip" p) [a, b] [⟨some "strict", .Constant (.bool true) j cp, kp⟩] pos) (iZipS fa fb) :=
  pi_mono (pi_zipS hg hm (pda_cons ha (pda_cons hb pda_nil h2) h1) hs hpl) fun σ H Q ⟨io, A, ro, st, q⟩ => by
    unfold iZipS at q
    refine ⟨io, A, ro, st, ?_⟩
    unfold aCons
    cases hf : fa ro A with
    | stk => rw [hf] at q; exact q.elim
    | err c fs A1 => rw [hf] at q; exact q
    | ok d A1 =>
    rw [hf, R.bind_ok] at q
    rw [R.bind_ok]
    cases hg : fb ro A1 with
    | stk => rw [hg] at q; exact q.elim
    | err c fs A2 => rw [hg] at q; exact q
    | ok d2 A2 =>
    rw [hg, R.bind_ok] at q
    rw [R.bind_ok]
    intro vs io1 H1 e1 h1 r1
    cases r1 with
    | cons r rs =>
    cases rs with
    | cons r2 rs =>
    cases rs
    split at q
    · rename_i ds es hds hes
      split at q
      · rename_i hl
        obtain ⟨tp, a, xs, rfl, qx, lat⟩ := seq_later h1 r hds
        obtain ⟨tq, b, ys, rfl, qy, lat2⟩ := seq_later h1 r2 hes
        refine ⟨tp, tq, a, b, xs, ys, rfl, qx, qy, q _ io1 H1 e1 h1 (walkZ hl fun io2 H2 A2 x h2 hk => ⟨lat io2 H2 A2 x h2 fun p hp => hk p (List.mem_append_left _ hp), lat2 io2 H2 A2 x h2 fun p hp => hk p (List.mem_append_right _ hp)⟩)⟩
      · exact q.elim
    · exact q.elim

/-! ### t.index(x) -/
theorem ptup_is {pins : List (Addr × Obj)} {σ : L2.St} {H : Hp} {s : Shared} {a : Addr} {xs : List V} (I : Inv X pins σ H s) (h : PTup X.K H a xs) : s.TypeIs (.ref a) "tuple" ∧ ∀ b, Value.ref a = .ref b → ∃ ob, s.heap.get? b = some ob ∧ ob.dict = none := by
  rcases h with ⟨o, e, d⟩ | ⟨o, its, n, e, c, d, _⟩
  · obtain ⟨get, _, its, _, o', get', hc, _⟩ := I.hok a _ e
    rw [get] at get'
    cases get'
    exact ⟨⟨o, get, hc⟩, fun b z => by cases z; exact ⟨o, get, d⟩⟩
  · exact ⟨⟨o, I.kIn a o e, c⟩, fun b z => by cases z; exact ⟨o, I.kIn _ o e, d⟩⟩
def gIndex (d e : D) (A : Hd) : R D := match d, e with
  | .tup ds, .str z => match textsD ds with
    | some ys => match ys.findIdx? fun y => decide (y = z) with
      | some j => .ok (.int (j : Nat)) A
      | none => .stk
    | none => .stk
  | _, _ => .stk
def isTupD : D → Bool
  | .tup _ => true
  | _ => false
def eIdx (a b : EF) : EF := fun ro A => (a ro A).bind fun d A1 => if isTupD d then (b ro A1).bind fun e A2 => gIndex d e A2 else .stk
theorem textsD_at : ∀ {ds : List D} {ys : List Str}, textsD ds = some ys → ds = ys.map D.str
  | [], _, e => by cases e; rfl
  | .str x :: ds, ys, e => by
    unfold textsD at e
    split at e
    · rename_i xs h
      cases e
      rw [textsD_at h]
      rfl
    · cases e
  | .non :: _, _, e => by cases e
  | .bl _ :: _, _, e => by cases e
  | .int _ :: _, _, e => by cases e
  | .tup _ :: _, _, e => by cases e
  | .lst _ :: _, _, e => by cases e
  | .scr _ :: _, _, e => by cases e
  | .dic _ :: _, _, e => by cases e
  | .ref _ :: _, _, e => by cases e
  | .cls _ :: _, _, e => by cases e
theorem pd_indexT (ho : PD X ct W o fa) (ha : PD X ct W e fb)
    (hbase : attributeBase o "index" X.env (eval o X.env) = eval o X.env := by rfl)
    (hfew : ((backTo cpos (starEach [e] X.env)).all (fun x => !x.1) && (backToKw cpos (keywordEach [] X.env)).all (fun x => x.1.isSome) && decide ([e].length + ([] : List Keyword).length + (if ([] : List Keyword).isEmpty then 0 else 1) < 30)) = true := by rfl)
    (hline : (apos.endLine == cpos.line) = true := by rfl) (hs : starEach [e] X.env = (false, eval e X.env) :: starEach [] X.env := by rfl) (hplain : (backTo cpos (starEach [] X.env)).any (·.1) = false := by rfl) :
    PD X ct W (.Call (.Attribute o "index" apos) [e] [] cpos) (eIdx fa fb) := by
  refine ⟨fun pins s σ H Q I ⟨io, A, ro, st, p⟩ => ?_⟩
  refine wpAny_Call_method_late hbase hfew hline rfl (thn (ho.run pins s σ H (fun v H1 => ∃ io1 A1 ds, Sta X.K ct ro A1 io1 σ H1 ∧ DR X.K ct io1 H1 v (.tup ds) ∧ Post X.K ct (DR X.K ct) W σ io1 H1 ((fb ro A1).bind fun d2 A2 => gIndex (.tup ds) d2 A2) Q) I ?_) fun v s1 ⟨x, H1, I1, r1, io1, A1, ds, st1, rx, p1⟩ => ?_)
  · refine ⟨io, A, ro, st, (p.bind (rep := DR X.K ct)).mono fun v H1 ⟨io1, A1, d, e1, h1, r1, p1⟩ => ?_⟩
    split at p1
    · rename_i ht
      cases d with
      | tup ds => exact ⟨io1, A1, ds, st.mono e1 h1, r1, p1⟩
      | _ => cases ht
    · exact p1.elim
  · cases rx with
    | @tup a xs _ q rs =>
      cases r1
      obtain ⟨t1, t2⟩ := ptup_is I1 q
      refine ⟨"tuple", "tuple.index", PySem.F.plainAttrs_tuple, PySem.F.slot_tuple_index, PySem.F.type_tuple_index, t1, t2, ?_⟩
      have hA := (pda_cons ha pda_nil hs).run cpos pins s1 σ H1 (fun vs H2 => ∃ io2 A2 d2 v2, vs = [v2] ∧ Ext io1 H1 io2 H2 ∧ HR X.K ct io2 H2 A2 ∧ DR X.K ct io2 H2 v2 d2 ∧ Post X.K ct (DR X.K ct) W σ io2 H2 (gIndex (.tup ds) d2 A2) Q) I1 ⟨io1, A1, ro, st1, ?_⟩
      · rw [hs] at hA ⊢
        refine Calls.callWith_builtin (by show (false || (backTo cpos (starEach [] X.env)).any (·.1)) = false; rw [hplain] <;> rfl) (Calls.evalArgs_plain ?_)
        refine thn hA fun us s2 ⟨vs, H2, I2, r2, io2, A2, d2, v2, ev, x2, h2, rd, p2⟩ => ?_
        subst ev
        refine mt_tup_index pins s2 σ H2 (.ref a) [v2] (.ref a) us Q I2 rfl r2 ?_
        unfold gIndex at p2
        split at p2
        · rename_i ds' z ed
          cases ed
          split at p2
          · rename_i ys hy
            split at p2
            · rename_i j hj
              cases rd
              have rs2 := rs.mono x2 st1.hr.noT
              have ex := textsD_ok rs2 hy
              subst ex
              obtain ⟨hjl, hj1, hj2⟩ := List.findIdx?_eq_some_iff_getElem.mp hj
              refine ⟨a, ys, z, j, rfl, rfl, (PTup.ext x2 st1.hr.noT q).sq, ?_, fun m hm hz => ?_, p2.here h2 (.int _)⟩
              · rw [List.getElem?_eq_getElem hjl, of_decide_eq_true hj1]
              · have hml := (List.getElem?_eq_some_iff.mp hz)
                obtain ⟨hl, he⟩ := hml
                have := hj2 m hm
                rw [he] at this
                simp at this
            · exact p2.elim
          · exact p2.elim
        · exact p2.elim
      · unfold aCons
        cases hf : fb ro A1 with
        | stk => rw [hf] at p1; exact p1.elim
        | err c fs A2 => rw [hf] at p1; exact p1
        | ok d2 A2 =>
          rw [hf, R.bind_ok] at p1
          rw [R.bind_ok]
          intro vs io2 H2 e2 h2 r2
          cases r2 with
          | cons r rr =>
          cases rr
          exact ⟨io2, A2, d2, _, rfl, e2, h2, r, Post.ext e2 p1⟩
end
end DV

set_option Elab.async false
set_option linter.all false
set_option maxRecDepth 100000
set_option maxHeartbeats 1000000
/-! DvU: xs[::-1] of lists and tuples. -/
namespace DV
open PySem PySem.Spec PyProof.Rows L2
theorem fm_congr {α β : Type} {f g : α → Option β} : ∀ {l : List α}, (∀ a ∈ l, f a = g a) → l.filterMap f = l.filterMap g
  | [], _ => rfl
  | a :: l, h => by rw [List.filterMap_cons, List.filterMap_cons, h a List.mem_cons_self, fm_congr fun b hb => h b (List.mem_cons_of_mem _ hb)]
theorem rev_pick (xs : Array Value) : ((List.range xs.size).filterMap fun (k : Nat) => xs[((xs.size : Int) - 1 + (k : Int) * (-1)).toNat]?).toArray = xs.toList.reverse.toArray := by
  congr 1
  have e : ∀ l : List Value, (List.range l.length).filterMap (fun (k : Nat) => l[((l.length : Int) - 1 + (k : Int) * (-1)).toNat]?) = l.reverse := by
    intro l
    have h1 : (List.range l.length).filterMap (fun (k : Nat) => l[((l.length : Int) - 1 + (k : Int) * (-1)).toNat]?) = (List.range l.length).filterMap (fun k => l.reverse[k]?) := by
      refine fm_congr fun k hk => ?_
      have hk' := List.mem_range.mp hk
      rw [List.getElem?_reverse hk']
      congr 1
      omega
    rw [h1, ← List.length_reverse (as := l)]
    generalize l.reverse = m
    induction m with
    | nil => rfl
    | cons x m ih =>
      rw [List.length_cons, List.range_succ_eq_map, List.filterMap_cons]
      simp only [List.getElem?_cons_zero, List.filterMap_map]
      congr 1
  have := e xs.toList
  simpa using this
section
variable {prog : Program} {w : World} {A : Around} {E : Value → Shared → Prop} {s : Shared}
theorem tuple_rev {t sl : Addr} {items : Array Value} {vl vu vs : Value} {Q : Value → Shared → Prop} (ht : IsTup s.heap t items) (hs : s.heap.IsSliceOf sl vl vu vs) (pl : IsPart vl none) (pu : IsPart vu none) (ps : IsPart vs (some (-1)))
    (h : Q (.ref s.heap.objs.size) { s with heap := s.heap.push { cls := .type "tuple", data := .seq items.toList.reverse.toArray } }) (hsz : items.size ≤ sizeLine) : wpAny (model prog w) A (getItem (.ref t) (.ref sl)) Q E s := by
  obtain ⟨os, hos, hcs, hds⟩ := id hs
  have tyS : s.TypeIs (.ref sl) "slice" := ⟨os, hos, hcs⟩
  have fit : sizeOk (.seq items.toList.reverse.toArray) := by
    show items.toList.reverse.toArray.size ≤ sizeLine
    rw [List.size_toArray, List.length_reverse, Array.length_toList]
    exact hsz
  unfold getItem
  try with_reducible refine wpAny_holding ?_
  first | refine wpAny_bind (wpAny_pure ?_) | skip
  refine wpAny_bind (wpAny_sequenceKey ht.typeIs (by decide) ?_)
  refine wpAny_bind (wpAny_callSpecial?_slot (name := Str.ofString "__getitem__") ht.typeIs PyProof.Rows.slot_tuple_getitem (wpAny_call_entry PyProof.Rows.slot_tuple_getitem ht.typeIs entry_tuple_getitem ?_ (args_tuple_getitem _ _)))
  show wpAny _ _ (Builtin.Tuple.tupleItemsOf (.ref t) >>= _) _ _ s
  refine wpAny_bind (tupleItemsOf_ ht ?_)
  refine wpAny_bind (wpAny_typeOf tyS ?_)
  rw [if_pos (by decide)]
  refine wpAny_bind ?_
  unfold Builtin.Slice.sliceApplied Builtin.Slice.sliceFields
  refine wpAny_bind (wpAny_bind (wpAny_field hos hds (x := vl) rfl (wpAny_bind (wpAny_field hos hds (x := vu) rfl (wpAny_bind (wpAny_field hos hds (x := vs) rfl (wpAny_pure ?_)))))))
  refine wpAny_bind (HT.slicePart_ ps ?_)
  show wpAny _ _ (if ((-1 : Int) == 0) = true then _ else _) _ _ s
  rw [if_neg (by decide)]
  refine wpAny_bind (HT.slicePart_ pl (wpAny_bind (HT.slicePart_ pu (wpAny_bind (wpAny_pure ?_)))))
  show wpAny _ _ (match Builtin.Slice.sliceAdjust none none (-1) (items.size : Int) with | (lo, hi) => pure (lo, (-1 : Int), Builtin.Slice.slicePlaces lo hi (-1))) _ _ s
  have ea : Builtin.Slice.sliceAdjust none none (-1) (items.size : Int) = ((items.size : Int) - 1, -1) := by
    unfold Builtin.Slice.sliceAdjust
    simp
  have ep : Builtin.Slice.slicePlaces ((items.size : Int) - 1) (-1) (-1) = items.size := by
    unfold Builtin.Slice.slicePlaces
    simp
    omega
  rw [ea]
  show wpAny _ _ (pure ((items.size : Int) - 1, (-1 : Int), Builtin.Slice.slicePlaces ((items.size : Int) - 1) (-1) (-1))) _ _ s
  rw [ep]
  refine wpAny_pure ?_
  show wpAny _ _ (if (((items.size : Int) - 1 == 0) && ((-1 : Int) == 1) && (items.size == items.size)) = true then _ else _) _ _ s
  rw [if_neg (by simp), rev_pick]
  first
    | exact wpAny_bind (m := Builtin.Tuple.tupleExact _) (wpAny_newObj_type (wpAny_pure ⟨_, rfl, wpAny_pure h⟩) fit)
    | exact wpAny_bind (m := Builtin.Tuple.tupleExact _) (wpAny_newObj_type (wpAny_bind (wpAny_pure (wpAny_pure ⟨_, rfl, wpAny_pure h⟩))) fit)
    | exact wpAny_bind (wpAny_bind (m := Builtin.Tuple.tupleExact _) (wpAny_newObj_type (wpAny_pure (wpAny_pure ⟨_, rfl, wpAny_pure h⟩)) fit))
    | exact wpAny_bind (wpAny_bind (m := Builtin.Tuple.tupleExact _) (wpAny_newObj_type (wpAny_pure ⟨_, rfl, wpAny_pure h⟩) fit))
end
section
variable {X : Cx} {ct : String → Addr} {W : WX} {e : Expr} {fa : EF} {k : Nat} {p1 p2 p3 pos : Pos}
def tRevS (K : PySem.W.Frag) (te : TE) : TE := fun σ H Q => te σ H fun x H1 => ∃ a xs, x = .ref a ∧ ((SqL K H1 a xs ∧ ∀ p, H1 p = none → Q (.ref p) (upd H1 p (.lst xs.reverse))) ∨ (SqT K H1 a xs ∧ ∀ (p : Addr) (o : Obj), o.dict = none → H1 p = none → Q (.ref p) (upd H1 p (.frz o (.tup xs.reverse)))))
theorem pe_revS {te : TE} (he : PE X e te) : PE X (.Subscript e (.Slice none none (some (.UnaryOp .USub (.Constant (.int 1) k p1) p2)) p3) pos) (tRevS X.K te) := by
  refine ⟨fun pins s σ H Q I h => ?_⟩
  refine Subscript_ (thn (he.run pins s σ H _ I h) fun v s1 ⟨x, H1, I1, r1, q1⟩ => ?_)
  obtain ⟨a, xs, ex, q⟩ := q1
  subst ex
  cases r1
  have minus : PO X (some (.UnaryOp .USub (.Constant (.int 1) k p1) p2)) (tPart (tUn (rU fun i => .int (-i)) (tC (.int 1)))) := po_some (pe_un un_neg pe_int)
  refine wpAny_Slice (thn (po_none.run pins s1 σ H1 (fun o H2 => o = none ∧ H2 = H1) I1 ⟨rfl, rfl⟩) fun vl s2 ⟨l, H2, I2, pl, el, e2⟩ => ?_)
  subst el e2
  refine thn (po_none.run pins s2 σ H2 (fun o H3 => o = none ∧ H3 = H2) I2 ⟨rfl, rfl⟩) fun vu s3 ⟨u, H3, I3, pu, eu, e3⟩ => ?_
  subst eu e3
  refine thn (minus.run pins s3 σ H3 (fun o H4 => o = some (-1) ∧ H4 = H3) I3 ⟨1, rfl, -1, rfl, rfl, rfl⟩) fun vs s4 ⟨o, H4, I4, ps, eo, e4⟩ => ?_
  subst eo e4
  have I5 : Inv X pins σ H4 { s4 with heap := s4.heap.push { cls := .type "slice", data := .fields #[vl, vu, vs] } } := I4.kept (t' := s4.toks) fun b ob q => Heap.get?_push_of_some _ q
  show wpAny (model X.prog X.w) X.A (subscriptTail e (.Slice none none (some (.UnaryOp .USub (.Constant (.int 1) k p1) p2)) p3) (.ref a) (.ref s4.heap.objs.size)) (EP X pins σ Q) X.xe { s4 with heap := s4.heap.push { cls := .type "slice", data := .fields #[vl, vu, vs] } }
  rcases q with ⟨hx, q⟩ | ⟨hx, q⟩
  · obtain ⟨its, r, ht, hz⟩ := I5.list hx
    have hlen := r.length
    refine tail_any (ops := [.ref a, .ref s4.heap.objs.size]) ht.isList.typeIs (PySem.slot_list_getitem.lookup) ?_ (by with_unfolding_all rfl)
    refine wpAny_getItem_list_slice ht.isList (Heap.IsSliceOf.new _ vl vu vs) pl pu ps (by decide) ?_ (by rw [List.size_toArray]; omega)
    rw [PySem.W.krv_pick]
    refine ⟨.ref _, _, I5.laid (t' := s4.toks) (o := .lst xs.reverse) (fun b ob q => Heap.get?_push_of_some _ q) (Nat.le_refl _) ?_, rfl, q _ (I5.hok.fresh (Nat.le_refl _))⟩
    exact ⟨by rw [List.length_reverse]; exact hz, _, 0, r.reverse, Heap.get?_push_size _ rfl⟩
  · obtain ⟨its, r, ht, hz⟩ := I5.tuple hx
    have hlen := r.length
    refine tail_any (ops := [.ref a, .ref s4.heap.objs.size]) ht.typeIs (PyProof.Rows.slot_tuple_getitem.lookup) ?_ (by with_unfolding_all rfl)
    refine tuple_rev ht (Heap.IsSliceOf.new _ vl vu vs) pl pu ps ?_ (by rw [List.size_toArray]; omega)
    refine ⟨.ref _, _, I5.laid (t' := s4.toks) (o := .frz { cls := .type "tuple", data := .seq its.toArray.toList.reverse.toArray } (.tup xs.reverse)) (fun b ob q => Heap.get?_push_of_some _ q) (Nat.le_refl _) ?_, rfl, q _ _ rfl (I5.hok.fresh (Nat.le_refl _))⟩
    exact ⟨Heap.get?_push_size _ rfl, by rw [List.length_reverse]; exact hz, _, r.reverse, IsTup.new _ _⟩
def gRev (d : D) (A : Hd) : R D := match d with
  | .tup ds => .ok (.tup ds.reverse) A
  | d => match asR A d with
    | some ds => .ok (.lst ds.reverse) A
    | none => .stk
theorem pd_rev (ha : PD X ct W e fa) : PD X ct W (.Subscript e (.Slice none none (some (.UnaryOp .USub (.Constant (.int 1) k p1) p2)) p3) pos) (eUn gRev fa) :=
  pe_mono (pe_revS ha) fun σ H Q ⟨io, A, ro, st, p⟩ => ⟨io, A, ro, st, (p.bind (rep := DR X.K ct)).mono fun v H1 ⟨io1, A1, d, e1, h1, r1, p1⟩ => by
    unfold gRev at p1
    split at p1
    · cases r1 with
      | @tup a xs _ q rs => exact ⟨a, xs, rfl, .inr ⟨q.sq, fun p o ho hp => p1.new h1 hp (.newTup h1 hp ho rs.reverse)⟩⟩
    · split at p1
      · rename_i ds hd
        obtain ⟨a, xs, rfl, q, rs⟩ := asR_ok h1 r1 hd
        exact ⟨a, xs, rfl, .inl ⟨q, fun p hp => p1.new h1 hp (.newLst h1 hp rs.reverse)⟩⟩
      · exact p1.elim⟩
end
end DV

set_option Elab.async false
set_option linter.all false
set_option maxRecDepth 100000
/-! DvV: x in t, data of any depth; plain laws of == and in. -/
namespace DV
open PySem PySem.Spec PyProof.Rows L2
def inByData (p : PyData) (qs : List PyData) : Option Bool := if p.canLay0 = true ∧ PyData.canLayAll0 qs = true ∧ p.depth ≤ 60 then some (qs.any fun z => PyData.eqv z p) else none
def inW (d e : D) (A : Hd) : Option Bool := match inP d e A with
  | some b => some b
  | none => match toP (deR A d), toP (deR A e) with
    | some p, some (.list qs) => inByData p qs
    | some p, some (.tuple qs) => inByData p qs
    | _, _ => none
def gInW (d e : D) (A : Hd) : R D := match inW d e A with
  | some b => .ok (.bl b) A
  | none => .stk
def rInW (K : PySem.W.Frag) : R2 := fun x y H Q => rInX K false x y H Q ∨ ∃ p qs, Dp K H x p ∧ (Dp K H y (.list qs) ∨ Dp K H y (.tuple qs)) ∧ p.canLay0 = true ∧ PyData.canLayAll0 qs = true ∧ p.depth ≤ 60 ∧ Q (.bl (qs.any fun z => PyData.eqv z p)) H
theorem op_inData {X : Cx} (hu : X.A.units + 64 < cLine) : OpR X (compareOp .In) (fun x y H Q => ∃ p qs, Dp X.K H x p ∧ (Dp X.K H y (.list qs) ∨ Dp X.K H y (.tuple qs)) ∧ p.canLay0 = true ∧ PyData.canLayAll0 qs = true ∧ p.depth ≤ 60 ∧ Q (.bl (qs.any fun z => PyData.eqv z p)) H) := by
  intro pins s σ H x y v u Q I rx ry h
  obtain ⟨p, qs, hd, he, c1, c2, dp, q⟩ := h
  obtain ⟨as, r1⟩ := Dp.reads I p x v hd rx
  have room : X.A.units + 1 + min (PyData.depthAll qs) p.depth < cLine := by
    have : min (PyData.depthAll qs) p.depth ≤ p.depth := Nat.min_le_right _ _
    omega
  rcases he with he | he
  · obtain ⟨bs, r2⟩ := Dp.reads I (.list qs) y u he ry
    exact SeqAt.in_list_reads r2 r1 c2 c1 room ⟨.bl _, H, I, rfl, q⟩
  · obtain ⟨bs, r2⟩ := Dp.reads I (.tuple qs) y u he ry
    exact SeqAt.in_tuple_reads r2 r1 c2 c1 room ⟨.bl _, H, I, rfl, q⟩
theorem op_inW {X : Cx} (hu : X.A.units + 64 < cLine) : OpR X (compareOp .In) (rInW X.K) := op_inX.or (op_inData hu)
theorem gInW_ok {K : PySem.W.Frag} {ct : String → Addr} : OpD K ct (rInW K) gInW := by
  intro W σ io H A x y d e Q h rx ry p
  unfold gInW at p
  split at p
  · rename_i b hb
    unfold inW at hb
    split at hb
    · rename_i b' hb'
      cases hb
      exact .inl (inP_ok h rx ry hb' (p.here h (.bl _)))
    · split at hb
      · rename_i q qs h1 h2
        unfold inByData at hb
        split at hb
        · rename_i hc
          cases hb
          exact .inr ⟨q, qs, deR_ok h rx h1, .inl (deR_ok h ry h2), hc.1, hc.2.1, hc.2.2, p.here h (.bl _)⟩
        · cases hb
      · rename_i q qs h1 h2
        unfold inByData at hb
        split at hb
        · rename_i hc
          cases hb
          exact .inr ⟨q, qs, deR_ok h rx h1, .inr (deR_ok h ry h2), hc.1, hc.2.1, hc.2.2, p.here h (.bl _)⟩
        · cases hb
      · cases hb
  · exact p.elim

/-! ### plain laws -/
theorem sz1000 : 1000 ≤ sizeLine := by rw [sizeLine_eq]; omega
theorem boolsD_map {α : Type} (h : α → Bool) : ∀ l : List α, boolsD (l.map fun c => D.bl (h c)) = some (l.map h)
  | [] => rfl
  | c :: l => by
    rw [List.map_cons, List.map_cons]
    unfold boolsD
    rw [boolsD_map h l]
theorem textsD_map : ∀ xs : List Str, textsD (xs.map D.str) = some xs
  | [] => rfl
  | x :: xs => by
    rw [List.map_cons]
    unfold textsD
    rw [textsD_map xs]
/-- what == and repr can read -/
def layD (d : D) : Bool := match toP d with
  | some p => p.canLay0 && decide (p.depth ≤ 50)
  | none => false
theorem toPs_lay2 : ∀ {ds : List D}, (∀ d ∈ ds, layD d = true) → ∃ ps, toPs ds = some ps ∧ PyData.canLayAll0 ps = true ∧ PyData.depthAll ps ≤ 50 ∧ ps.length = ds.length
  | [], _ => ⟨[], rfl, rfl, Nat.zero_le _, rfl⟩
  | d :: ds, h => by
    obtain ⟨ps, h1, h2, h3, h4⟩ := toPs_lay2 (ds := ds) fun d hd => h d (List.mem_cons_of_mem _ hd)
    have hd := h d List.mem_cons_self
    unfold layD at hd
    split at hd
    · rename_i p hp
      rw [Bool.and_eq_true] at hd
      have h5 := of_decide_eq_true hd.2
      refine ⟨p :: ps, ?_, ?_, ?_, by rw [List.length_cons, List.length_cons, h4]⟩
      · unfold toPs
        rw [h1, hp]
      · unfold PyData.canLayAll0
        rw [h2, hd.1]
        rfl
      · unfold PyData.depthAll
        omega
    · cases hd
theorem eqvAll_nil {ps : List PyData} : PyData.eqvAll ps [] = ps.isEmpty := by cases ps <;> rfl
theorem deR_val {A : Hd} {d : D} (h : layD d = true) : deR A d = d := by
  cases d with
  | ref n => cases h
  | _ => rfl
theorem shaped_lst {ps : List PyData} (h2 : PyData.canLayAll0 ps = true) (h3 : PyData.depthAll ps ≤ 60) : SeqAt.shaped (.list ps) = true := by
  unfold SeqAt.shaped
  rw [Bool.and_eq_true]
  refine ⟨by unfold PyData.canLay0; exact h2, decide_eq_true ?_⟩
  unfold PyData.depth
  omega
theorem eqP_nil {ds : List D} {A : Hd} (h : ∀ d ∈ ds, layD d = true) : eqP A (.lst ds) (.lst []) = some ds.isEmpty := by
  obtain ⟨ps, q1, q2, q3, q4⟩ := toPs_lay2 h
  unfold eqP
  have e1 : toP (deR A (.lst ds)) = some (.list ps) := by
    show toP (.lst ds) = _
    unfold toP
    rw [q1]
  have e2 : toP (deR A (.lst [])) = some (.list []) := by
    show toP (.lst []) = _
    unfold toP
    rfl
  rw [e1, e2]
  show (if SeqAt.shaped (.list ps) = true ∧ SeqAt.shaped (.list []) = true then some (PyData.eqv (.list ps) (.list [])) else none) = _
  rw [if_pos ⟨shaped_lst q2 (by omega), shaped_lst rfl (by decide)⟩]
  show some (PyData.eqvAll ps []) = _
  rw [eqvAll_nil]
  cases ds with
  | nil => cases ps with
    | nil => rfl
    | cons _ _ => cases q4
  | cons _ _ => cases ps with
    | nil => cases q4
    | cons _ _ => rfl
theorem gEq_nil {ds : List D} {A : Hd} (h : ∀ d ∈ ds, layD d = true) : gEq (.lst ds) (.lst []) A = .ok (.bl ds.isEmpty) A := by
  unfold gEq
  simp only [eqP_nil h]
theorem gNe_nil {ds : List D} {A : Hd} (h : ∀ d ∈ ds, layD d = true) : gNe (.lst ds) (.lst []) A = .ok (.bl (!ds.isEmpty)) A := by
  unfold gNe
  simp only [eqP_nil h]
/-- a numbered list against [] -/
theorem eqP_num {k : Nat} {ds : List D} {A : Hd} (e : A[k]? = some (.lst ds)) (h : ∀ d ∈ ds, layD d = true) : eqP A (.ref k) (.lst []) = some ds.isEmpty := by
  have : deR A (.ref k) = .lst ds := by
    unfold deR
    dsimp only
    rw [e]
  have h2 := eqP_nil (A := A) h
  unfold eqP at h2 ⊢
  rw [this]
  exact h2
theorem gEq_num {k : Nat} {ds : List D} {A : Hd} (e : A[k]? = some (.lst ds)) (h : ∀ d ∈ ds, layD d = true) : gEq (.ref k) (.lst []) A = .ok (.bl ds.isEmpty) A := by
  unfold gEq
  simp only [eqP_num e h]
theorem gNe_num {k : Nat} {ds : List D} {A : Hd} (e : A[k]? = some (.lst ds)) (h : ∀ d ∈ ds, layD d = true) : gNe (.ref k) (.lst []) A = .ok (.bl (!ds.isEmpty)) A := by
  unfold gNe
  simp only [eqP_num e h]
theorem layD_int (i : Int) : layD (.int i) = true := by
  unfold layD toP
  rfl
theorem layD_str {x : Str} (h : PyData.canLay0 (.str x) = true) : layD (.str x) = true := by
  unfold layD toP
  show (PyData.canLay0 (.str x) && decide (PyData.depth (.str x) ≤ 50)) = true
  rw [h]
  rfl
/-- == of data -/
theorem gEq_lay {d e : D} {A : Hd} (h : layD d = true) (h2 : layD e = true) : ∃ b, gEq d e A = .ok (.bl b) A ∧ gNe d e A = .ok (.bl (!b)) A ∧ (∀ x y, d = .str x → e = .str y → b = decide (x = y)) ∧ (∀ i j : Int, d = .int i → e = .int j → b = decide (i = j)) := by
  have go : ∃ p q, toP d = some p ∧ toP e = some q ∧ SeqAt.shaped p = true ∧ SeqAt.shaped q = true := by
    unfold layD at h h2
    split at h
    · split at h2
      · rename_i p hp _ q hq
        rw [Bool.and_eq_true] at h h2
        have a1 := of_decide_eq_true h.2
        have a2 := of_decide_eq_true h2.2
        exact ⟨p, q, hp, hq, by unfold SeqAt.shaped; rw [h.1, decide_eq_true (by omega)]; rfl, by unfold SeqAt.shaped; rw [h2.1, decide_eq_true (by omega)]; rfl⟩
      · cases h2
    · cases h
  obtain ⟨p, q, e1, e2, s1, s2⟩ := go
  by_cases hs : ∃ x y, d = .str x ∧ e = .str y
  · obtain ⟨x, y, rfl, rfl⟩ := hs
    exact ⟨decide (x = y), rfl, rfl, fun a b h1 h2 => by cases h1; cases h2; rfl, fun a b h1 => by cases h1⟩
  · have e3 : eqP A d e = some (PyData.eqv p q) := by
      unfold eqP
      rw [deR_val h, deR_val h2, e1, e2]
      show (if SeqAt.shaped p = true ∧ SeqAt.shaped q = true then some (PyData.eqv p q) else none) = _
      rw [if_pos ⟨s1, s2⟩]
    refine ⟨PyData.eqv p q, ?_, ?_, fun x y h1 h2 => absurd ⟨x, y, h1, h2⟩ hs, fun i j h1 h2 => ?_⟩
    · unfold gEq
      split
      · rename_i x y
        exact absurd ⟨x, y, rfl, rfl⟩ hs
      · rw [e3]
    · unfold gNe
      split
      · rename_i x y
        exact absurd ⟨x, y, rfl, rfl⟩ hs
      · rw [e3]
    · subst h1 h2
      unfold toP at e1 e2
      cases e1
      cases e2
      show (i == j) = decide (i = j)
      rfl
theorem gEq_int (i j : Int) (A : Hd) : gEq (.int i) (.int j) A = .ok (.bl (decide (i = j))) A := by
  obtain ⟨b, h1, _, _, h4⟩ := gEq_lay (A := A) (layD_int i) (layD_int j)
  rw [h1, h4 i j rfl rfl]
theorem gNe_int (i j : Int) (A : Hd) : gNe (.int i) (.int j) A = .ok (.bl (!decide (i = j))) A := by
  obtain ⟨b, _, h1, _, h4⟩ := gEq_lay (A := A) (layD_int i) (layD_int j)
  rw [h1, h4 i j rfl rfl]
end DV

set_option Elab.async false
set_option linter.all false
set_option maxRecDepth 100000
/-! DvW: xs * n for a list that changes; d.get(k, x). -/
namespace DV
open PySem PySem.Spec PyProof.Rows L2
section
variable {K : PySem.W.Frag} {ct : String → Addr}
def gMulM (d e : D) (A : Hd) : R D := match asL A d, e with
  | some xs, .int k => if -(2 ^ 63) ≤ k ∧ k < 2 ^ 63 ∧ xs.length * k.toNat ≤ sizeLine then .ok (.ref A.length) (A ++ [.lst (List.replicate k.toNat xs).flatten]) else .stk
  | _, _ => .stk
theorem gMulM_ok : OpD K ct rMulX gMulM := by
  intro W σ io H A x y d e Q h rx ry p
  unfold gMulM at p
  split at p
  · rename_i xs k h1
    cases ry
    obtain ⟨a, us, rfl, q1, r1⟩ := asL_ok h rx h1
    split at p
    · rename_i hz
      exact .inr ⟨a, _, us, rfl, rfl, q1, hz.1, hz.2.1, by rw [r1.length]; exact hz.2.2, fun q hq => Post.num p h hq ⟨_, upd_same, (r1.flatrep _).mono (Ext.num hq) h.noT⟩⟩
    · exact p.elim
  · exact p.elim
end
/-! ### o.get(b, d) -/
def eGet2 (o b d : EF) : EF := fun ro A => (o ro A).bind fun x A1 => match asD A1 x with
  | some _ => (b ro A1).bind fun y A2 => (d ro A2).bind fun z A3 => match asD A3 x, keyD y with
    | some es, some k => .ok ((valD es k).getD z) A3
    | _, _ => .stk
  | none => .stk
section
variable {X : Cx} {ct : String → Addr} {W : WX} {o b d : Expr} {fo fb fd : EF} {apos cpos : Pos}
theorem pd_get2 (hu : X.A.units + 1 < cLine) (ho : PD X ct W o fo) (hb : PD X ct W b fb) (hd : PD X ct W d fd) (m : M2 X o "get" apos b d cpos := by exact ⟨rfl, rfl, rfl, rfl⟩) :
    PD X ct W (.Call (.Attribute o "get" apos) [b, d] [] cpos) (eGet2 fo fb fd) :=
  pe_mono (pe_dget2 hu ho hb hd m) fun σ H Q ⟨io, A, ro, s, p⟩ => ⟨io, A, ro, s, (p.bind (rep := DR X.K ct)).mono fun x H1 ⟨io1, A1, dx, e1, h1, r1, p1⟩ => by
    split at p1
    · rename_i es0 hes0
      obtain ⟨a, kvs0, rfl, ha, _, _⟩ := asD_ok h1 r1 hes0
      refine ⟨a, rfl, .inl ⟨kvs0, .inl ha⟩, io1, A1, ro, s.mono e1 h1, (p1.bind (rep := DR X.K ct)).mono fun y H2 ⟨io2, A2, dy, e2, h2, r2, p2⟩ => ⟨io2, A2, ro, (s.mono e1 h1).mono e2 h2, (p2.bind (rep := DR X.K ct)).mono fun z H3 ⟨io3, A3, dz, e3, h3, r3, p3⟩ => ?_⟩⟩
      split at p3
      · rename_i es k hes hk
        obtain ⟨a', kvs, ea, ha', hks, hrs⟩ := asD_ok h3 ((r1.mono e2 h1.noT).mono e3 h2.noT) hes
        cases ea
        have ey := keyD_ok (r2.mono e3 h2.noT) hk
        subst ey
        refine ⟨valV kvs k, DGet.k ha', ?_⟩
        have hv := valD_ok k hks hrs
        cases hx : valD es k with
        | none => rw [hx] at p3 hv; rw [hv]; exact p3.here h3 r3
        | some x => rw [hx] at p3 hv; obtain ⟨v', g1, g2⟩ := hv; rw [g1]; exact p3.here h3 g2
      · exact p3.elim
    · exact p1.elim⟩
end
end DV

set_option Elab.async false
set_option linter.all false
set_option maxRecDepth 100000
/-! DvX: o[i] op= e for lists and dicts that change. -/
namespace DV
open PySem PySem.Spec PyProof.Rows L2
abbrev rGetX (K : PySem.W.Frag) : V → V → Hp → VK → Prop := fun o i H Q => rIxL K o i H Q ∨ ∃ a v, o = .ref a ∧ DGet H a i (some v) ∧ Q v H
theorem get_X {X : Cx} (hu : X.A.units + 1 < cLine) : PGet X (rGetX X.K) := by
  intro pins s σ H o i ov iv Q I ro ri h
  rcases h with h | ⟨a, v, rfl, g, q⟩
  · obtain ⟨p, xs, i, z, rfl, rfl, hq, he, q⟩ := h
    cases ro
    obtain ⟨t, rfl⟩ := ri
    obtain ⟨its, r, pl, hz⟩ := I.list hq
    obtain ⟨j, h1, h2, h3, h4, h5⟩ := atI_get he
    obtain ⟨w, ew, rw'⟩ := r.get h2
    have hl := r.length
    have hn := line63
    have fin : EP X pins σ Q w s := ⟨z, H, I, rw', q⟩
    by_cases h0 : 0 ≤ i
    · have hj : i.toNat = j := by
        rw [seqIndex_of h0 h5] at h1
        exact Option.some.inj h1
      exact wpAny_getItem_list pl.isList h0 (by omega) (by rw [hj]; simpa using ew) fin
    · have hj : (i + (its.toArray.size : Int)).toNat = j := by
        rw [seqIndex_neg (by omega) h4] at h1
        rw [List.size_toArray, ← hl]
        exact Option.some.inj h1
      exact wpAny_getItem_list_neg pl.isList (by omega) (by rw [List.size_toArray] <;> omega) (by omega) (by rw [hj]; simpa using ew) fin
  · obtain rfl : ov = Value.ref a := ro
    exact d_getItem hu I g ri fun w' s' I' rw' => ⟨v, H, I', rw', q⟩
def gItem (x y : D) (A : Hd) : R D := match numL A x, y with
  | some (_, ds), .int k => match L2.atI ds k with
    | some v => .ok v A
    | none => .stk
  | some _, _ => .stk
  | none, y => match numD A x, keyD y with
    | some (_, es), some k => match valD es k with
      | some v => .ok v A
      | none => .stk
    | _, _ => .stk
section
variable {K : PySem.W.Frag} {ct : String → Addr} {W : WX} {σ : L2.St} {io : Io} {H : Hp} {A : Hd}
theorem gItem_ok {x y : V} {dx dy : D} {Q : VK} (h : HR K ct io H A) (rx : DR K ct io H x dx) (ry : DR K ct io H y dy) (p : Post K ct (DR K ct) W σ io H (gItem dx dy A) Q) : rGetX K x y H Q := by
  unfold gItem at p
  split at p
  · rename_i n ds k hn
    obtain ⟨a, xs, rfl, rfl, hio, hH, rs⟩ := numL_ok h rx hn
    cases ry
    split at p
    · rename_i d hd
      obtain ⟨v, e, r⟩ := rs.atI hd
      exact .inl ⟨a, xs, k, v, rfl, rfl, .inl (.inl hH), e, p.here h r⟩
    · exact p.elim
  · exact p.elim
  · split at p
    · rename_i n es k hn hk
      obtain ⟨a, kvs, rfl, rfl, hio, hH, ek, rs⟩ := numD_ok h rx hn
      have ey := keyD_ok ry hk
      subst ey
      have hv := valD_ok k ek rs
      cases hx : valD es k with
      | none => rw [hx] at p; exact p.elim
      | some d =>
        rw [hx] at p hv
        obtain ⟨v', g1, g2⟩ := hv
        exact .inr ⟨a, v', rfl, by rw [← g1]; exact DGet.k hH, p.here h g2⟩
    · exact p.elim
end
def sAugAt (g : D → D → Hd → R D) (o i e : EF) : SF := fun ro A => (o ro A).then ro fun x A1 => (i ro A1).then ro fun y A2 => (gItem x y A2).then ro fun v A3 => (e ro A3).then ro fun w A4 => (g v w A4).then ro fun z A5 =>
  match setD x y z ro A5 with
  | .ok ro1 A6 => .go .nx ro1 A6
  | _ => .stk
section
variable {X : Cx} {ct : String → Addr} {W : WX} {o i e : Expr} {fo fi fe : EF} {pos tpos : Pos} {op : Operator} {r : V → V → Hp → VK → Prop} {g : D → D → Hd → R D}
theorem psd_augAt (hu : X.A.units + 1 < cLine) (ho : PD X ct W o fo) (hi : PD X ct W i fi) (he : PD X ct W e fe) (hop : PIp X op r) (og : OpD X.K ct r g)
    (ha : ∀ ov iv new, augStore i ov iv new = (do holding [new, ov, iv] (setItem ov iv new); release [new, ov, iv] []; pure .next) := by intros; rfl) :
    PSD X ct W (.AugAssign (.Subscript o i tpos) op e pos) (sAugAt g fo fi fe) :=
  ps_mono (ps_augS ho hi (get_X hu) he hop (set_X hu) ha) fun Z σ H ⟨io, A, ro, s, p⟩ =>
    ⟨io, A, ro, s, (Post.then (rep := DR X.K ct) s p).mono fun x H1 ⟨io1, A1, dx, e1, s1, rx, p1⟩ =>
      ⟨io1, A1, ro, s1, (Post.then (rep := DR X.K ct) s1 p1).mono fun y H2 ⟨io2, A2, dy, e2, s2, ry, p2⟩ =>
        gItem_ok (W := W) (σ := σ) s2.hr (rx.mono e2 s1.hr.noT) ry ((Post.then (rep := DR X.K ct) s2 p2).mono fun v H3 ⟨io3, A3, dv, e3, s3, rv, p3⟩ =>
          ⟨io3, A3, ro, s3, (Post.then (rep := DR X.K ct) s3 p3).mono fun w H4 ⟨io4, A4, dw, e4, s4, rw', p4⟩ =>
            og W σ io4 H4 A4 v w dv dw _ s4.hr (rv.mono e4 s3.hr.noT) rw' ((Post.then (rep := DR X.K ct) s4 p4).mono fun z H5 ⟨io5, A5, dz, e5, s5, rz, p5⟩ => by
              refine setD_ok (ro := ro) s5 ((((rx.mono e2 s1.hr.noT).mono e3 s2.hr.noT).mono e4 s3.hr.noT).mono e5 s4.hr.noT) (((ry.mono e3 s2.hr.noT).mono e4 s3.hr.noT).mono e5 s4.hr.noT) rz ?_
              cases hs : setD dx dy dz ro A5 with
              | ok ro1 A6 =>
                rw [hs] at p5
                exact fun σ' io' H' ex st hσ => by have := p5 σ' io' H' ex st; rw [hσ] at this; exact this
              | err c fs A6 => rw [hs] at p5; exact p5.elim
              | stk => rw [hs] at p5; exact p5.elim)⟩)⟩⟩
end
end DV

set_option Elab.async false
set_option linter.all false
set_option maxRecDepth 100000
/-! DvY: def f(*names): the arguments become a new tuple. -/
namespace DV
open PySem PySem.Spec PyProof.Rows L2
/-- a def with a star parameter, called with plain arguments -/
structure FnS (P : Program) (w : World) (K : PySem.W.Frag) (mg : Str → Option Value) (base : Heap) (k : Nat) (f : Addr) (sp : Sp) : Prop where
  run : ∀ (A : Around) (outer : List PySem.Env) (s : Shared) (H : Hp) (us : List Value) (vs : List V) (Q : VK) (E : XK), A.guards = some [] → Room k A → Env0 P w K mg base A outer s H →
    Vals vs us → sp vs H Q E → codeAny (model P w) A (.call (.ref f) ⟨us, []⟩) (CR (L2.CX P w) outer P w H s Q E) s
section
variable {P : Program} {w : World} {K : PySem.W.Frag} {mg : Str → Option Value} {base : Heap} {ct : String → Addr}
theorem okS {x qual : Str} {st : Stmt} {f : Addr} {fd : FuncData} {N : List Str} {pv : Str} {k : Nat} {sp : Sp} (F : Fun K x qual st f fd) (S : FnScope N [pv] (defScope st)) (hb : ∀ us : List Value, bindArgs fd ⟨us, []⟩ = (newTuple us >>= fun t => pure [(pv, t)]))
    (body : ∀ (cdv : Value) (A : Around) (outer : List PySem.Env) (s : Shared) (H : Hp) (vs : List V) (Q : VK) (E : XK), A.guards = some [] → Room k (A.deeper (envOfC qual (defScope st) s.heap.objs.size f cdv)) → sp vs H Q E →
      ∃ t, PSs (cxOf (L2.CX P w) P w K mg base N qual (defScope st) f cdv A outer s H E) (defBody st) t ∧ t { nx := fun _ H' => Q .non H', rt := Q } (start N vs) H) :
    FnS P w K mg base (k + 1) f (fun vs H Q E => vs.length ≤ sizeLine ∧ ∀ p o, o.dict = none → H p = none → sp [V.ref p] (upd H p (.frz o (.tup vs))) Q E) := by
  obtain ⟨oc, od, kV, doc, pm, an, cdv, ct, osl, rfl, lk, hcd⟩ := F.ex
  refine ⟨fun A outer s H us vs Q E hgd hr e0 r ⟨hz, hq⟩ => ?_⟩
  have hn : H s.heap.objs.size = none := e0.hok.fresh (Nat.le_refl _)
  have hl2 : us.length ≤ sizeLine := by rw [← r.length]; exact hz
  refine StX.run_bnd lk hcd S hr e0 (G := fun xs H2 => ∃ p o, o.dict = none ∧ H p = none ∧ xs = [V.ref p] ∧ H2 = upd H p (.frz o (.tup vs))) (fun A' Ex Q' h => ?_) fun s2 H2 xs ⟨p, o, ho, hp, ex, eH⟩ hr' => ?_
  · rw [hb us]
    refine wpAny_bind (wpAny_newTuple (wpAny_pure ?_) hl2)
    have new : ObjOk P w (upd H s.heap.objs.size (.frz { cls := .type "tuple", data := .seq us.toArray } (.tup vs))) (s.heap.push ({ cls := .type "tuple", data := .seq us.toArray } : Obj)) s.heap.objs.size (.frz { cls := .type "tuple", data := .seq us.toArray } (.tup vs)) :=
      ⟨Heap.get?_push_size _ rfl, hz, us, r, IsTup.new _ _⟩
    have un := StX.un_laid (fs := frs outer) (s := s) (o := ({ cls := .type "tuple", data := .seq us.toArray } : Obj)) (u := .frz { cls := .type "tuple", data := .seq us.toArray } (.tup vs)) hn
    exact h _ _ [V.ref s.heap.objs.size] [Value.ref s.heap.objs.size] (StX.env0_laid e0 new) un rfl (fun e s' => StX.cxUp outer s H _ _ E e s' un (fun b o q => Heap.get?_push_of_some _ q) rfl) (.cons rfl .nil) rfl ⟨_, _, rfl, hn, rfl, rfl⟩
  · subst ex eH
    exact body cdv A outer s2 _ _ Q E hgd hr' (hq p o ho hp)
def starF (F : FF) : FF := fun ds A => if ds.length ≤ sizeLine then F [.tup ds] A else .stk
def spS (K : PySem.W.Frag) (ct : String → Addr) (F : FF) : Sp := fun vs H Q E => ∃ io A ds, HR K ct io H A ∧ DRs K ct io H vs ds ∧ Post K ct (DR K ct) (fun cls dd _ H' => E cls dd H') [] io H (starF F ds A) Q
theorem FnS.mono {j k : Nat} {f : Addr} {sp : Sp} (F : FnS P w K mg base j f sp) (h : j ≤ k) : FnS P w K mg base k f sp := ⟨fun A outer s H us vs Q E g r => F.run A outer s H us vs Q E g (r.mono h)⟩
theorem FnS.less {k : Nat} {f : Addr} {sp sp' : Sp} (F : FnS P w K mg base k f sp) (h : ∀ vs H Q E, sp' vs H Q E → sp vs H Q E) : FnS P w K mg base k f sp' := ⟨fun A outer s H us vs Q E g r e v q => F.run A outer s H us vs Q E g r e v (h _ _ _ _ q)⟩
theorem okDS {x qual : Str} {st : Stmt} {f : Addr} {fd : FuncData} {N : List Str} {pv : Str} {k : Nat} {F : FF} {fb : SF} (Fn : Fun K x qual st f fd) (S : FnScope N [pv] (defScope st)) (hb : ∀ us : List Value, bindArgs fd ⟨us, []⟩ = (newTuple us >>= fun t => pure [(pv, t)]))
    (drv : ∀ (cdv : Value) (A : Around) (outer : List PySem.Env) (s : Shared) (H : Hp) (E : XK), A.guards = some [] → Room k (A.deeper (envOfC qual (defScope st) s.heap.objs.size f cdv)) → PSsD (cxD P w K mg base N qual st f cdv A outer s H E) ct (WD E) (defBody st) fb)
    (hF : ∀ ds A, ds.length = 1 → F ds A ≠ .stk → FinOk A (fb (startD N.length ds) A) (F ds A)) : FnS P w K mg base (k + 1) f (spS K ct F) := by
  refine (okS (sp := spD K ct 1 F) Fn S hb fun cdv A0 outer s H vs Q E hg hr ⟨io, A, ds, hl, h, rs, p⟩ => ?_).less fun vs H Q E ⟨io, A, ds, h, rs, p⟩ => ?_
  · refine ⟨_, drv cdv A0 outer s H E hg hr, ?_⟩
    refine ⟨io, A, startD N.length ds, ⟨h, start_D rs⟩, ?_⟩
    have hns : F ds A ≠ .stk := fun z => by rw [z] at p; exact p
    have fo := hF ds A (by rw [← rs.length]; exact hl) hns
    cases ho : fb (startD N.length ds) A with
    | stk => rw [ho] at fo; exact fo.elim
    | go fl ro' A' =>
      rw [ho] at fo
      cases fl with
      | bk => exact fo.elim
      | ct => exact fo.elim
      | nx => exact fun σ' io' H' x s' => fin_ret h x s'.hr .non fo p
      | ret d => exact fun v io' H' x h' rv => fin_ret h x h' rv fo p
    | err c fs ro' A' =>
      rw [ho] at fo
      intro cls dd σ' io' H' x s' xr
      rcases fo with q | ⟨n, hn, hf, hm, q⟩
      · rw [q] at p
        exact p cls dd io' H' x s'.hr xr
      · rw [q] at p
        obtain ⟨g1, g2⟩ := fin_cut h x s'.hr hn hm
        refine p cls dd (io'.cut n) H' g2 g1 ⟨xr.cls, ?_⟩
        rcases xr.fds with z | ⟨pp, gs, h1, h2, h3, h4, h5⟩
        · exact .inl z
        · exact .inr ⟨pp, gs, h1, fun z => h2 (Io.cut_mem z), h3, h4, h5.lop hf⟩
  · unfold starF at p
    split at p
    · rename_i hz
      exact ⟨by rw [rs.length]; exact hz, fun q o ho hq => ⟨io, A, [.tup ds], rfl, h.laid hq, .cons (.tup (.inl ⟨o, upd_same, ho⟩) (rs.laid h hq)) .nil, Post.ext (Ext.laid hq) p⟩⟩
    · exact p.elim
/-- a def with a star parameter that may be called by the module's name x -/
structure CalS (P : Program) (w : World) (K : PySem.W.Frag) (mg : Str → Option Value) (base : Heap) (ct : String → Addr) (k : Nat) (x : Str) (F : FF) : Prop where
  ex : ∃ f, FnS P w K mg base k f (spS K ct F) ∧ mg x = some (.ref f) ∧ PySem.W.keepIn K (.ref f) = true
end
section
variable {X : Cx} {ct : String → Addr} {W : WX} {k : Nat} {f : Addr} {F : FF} {x : Str} {p pos : Pos} {e : Expr} {es : List Expr} {fl : AF} {sp : Sp} {t : TA}
theorem run_S {pins : List (Addr × Obj)} {σ : L2.St} {H : Hp} {s : Shared} {Q : VK} {us : List Value} {vs : List V} (F : FnS X.prog X.w X.K X.mg X.base k f sp) (hg : X.A.guards = some []) (hr : Room k X.A) (tk : Takes X W)
    (I : Inv X pins σ H s) (r : Vals vs us) (h : sp vs H Q (WE W σ)) : wpAny (model X.prog X.w) X.A (call (.ref f) us) (EP X pins σ Q) X.xe s := by
  refine wpAny_call (codeAny_mono (F.run X.A X.stack s H us vs Q (WE W σ) hg hr I.env0 r h) (fun r s' hq => ?_))
  match r, hq with
  | .error e, hq => exact passAt tk σ pins H s e s' I hq
  | .ok (.ret u), hq => exact I.after hq
  | .ok .next, hq => exact (False.elim hq)
  | .ok .brk, hq => exact (False.elim hq)
  | .ok .cont, hq => exact (False.elim hq)
theorem spS_call {vs : List V} {ds : List D} {σ : L2.St} {io : Io} {H : Hp} {A : Hd} {Q : VK} (h : HR X.K ct io H A) (r : DRs X.K ct io H vs ds) (q : Post X.K ct (DR X.K ct) W σ io H (starF F ds A) Q) : spS X.K ct F vs H Q (WE W σ) := by
  refine ⟨io, A, ds, h, r, ?_⟩
  cases hF : starF F ds A with
  | ok d A1 => rw [hF] at q; exact q
  | err c fs A1 => rw [hF] at q; exact q
  | stk => rw [hF] at q; exact q
theorem pd_callS {j : Nat} (c : CalS X.prog X.w X.K X.mg X.base ct k x F) (hgd : X.A.guards = some []) (hr : Room j X.A) (hk : k ≤ j) (hg : Gl X x) (tk : Takes X W) (ha : PDa X ct W (e :: es) fl)
    (hdb : (x == ("__debug__" : Str)) = false := by decide) (he : starEach (e :: es) X.env = (false, eval e X.env) :: starEach es X.env := by rfl) (hpl : (backTo pos (starEach es X.env)).any (·.1) = false := by rfl) :
    PD X ct W (.Call (.Name x p) (e :: es) [] pos) (eArgs (fun ds A => starF F ds A) fl) := by
  obtain ⟨f, Fn, hm, hkp⟩ := c.ex
  refine pe_mono (t := fun σ H Q => tL X.K ct W fl σ H fun vs H1 => spS X.K ct F vs H1 Q (WE W σ)) ⟨fun pins s σ H Q I h => wpAny_Call_Name_kw (ld_glob I hg hm ?_ hdb)⟩ fun σ H Q ⟨io, A, ro, s, q⟩ => ?_
  · exact PySem.W.callWith_K (h₀ := X.base) I.ok.mod.kin hkp (thn (ha.run pos pins s σ H _ I h) fun us s1 ⟨vs, H1, I1, r, q⟩ => ⟨I1.kIn, run_S Fn hgd (hr.mono hk) tk I1 r q⟩) he hpl
  · refine ⟨io, A, ro, s, ?_⟩
    cases hf : fl ro A with
    | stk => unfold eArgs at q; rw [hf] at q; exact q.elim
    | err c fs A1 => unfold eArgs at q; rw [hf] at q; exact q
    | ok ds1 A1 =>
      unfold eArgs at q
      rw [hf] at q
      intro vs io1 H1 e1 h1 r1
      exact spS_call h1 r1 (Post.ext e1 q)
theorem pd_callS0 {j : Nat} (c : CalS X.prog X.w X.K X.mg X.base ct k x F) (hgd : X.A.guards = some []) (hr : Room j X.A) (hk : k ≤ j) (hg : Gl X x) (tk : Takes X W) (hdb : (x == ("__debug__" : Str)) = false := by decide) :
    PD X ct W (.Call (.Name x p) [] [] pos) (fun _ A => starF F [] A) := by
  obtain ⟨f, Fn, hm, hkp⟩ := c.ex
  refine pe_mono (t := fun σ H Q => spS X.K ct F [] H Q (WE W σ)) ⟨fun pins s σ H Q I h => wpAny_Call_Name_kw (ld_glob I hg hm ?_ hdb)⟩ fun σ H Q ⟨io, A, ro, s, q⟩ => spS_call s.hr .nil q
  exact PySem.W.callWith_K0 I.kIn hkp (run_S (us := []) (vs := []) Fn hgd (hr.mono hk) tk I .nil h)
end
end DV

set_option Elab.async false
set_option linter.all false
namespace Mg
open PySem
abbrev St := PySem.Str
/-! ### merging, with no program in sight: ls are the rests of the tuples -/
def headsOf (ls : List (List St)) : List St := ls.filterMap List.head?
def inTail (x : St) (ls : List (List St)) : Bool := ls.any fun l => decide (x ∈ l.tail)
def tails (x : St) (ls : List (List St)) : Nat := ls.countP fun l => decide (x ∈ l.tail)
def goodOf (ls : List (List St)) : List St := (headsOf ls).filter fun h => !inTail h ls
def dropHead (g : St) (l : List St) : List St := if l.head? = some g then l.tail else l
def step (ls : List (List St)) (g : St) : List (List St) := ls.map (dropHead g)
def size (ls : List (List St)) : Nat := (ls.map List.length).sum
theorem inTail_zero {x : St} {ls : List (List St)} : inTail x ls = false ↔ tails x ls = 0 := by
  unfold inTail tails
  rw [List.countP_eq_zero, List.any_eq_false]
/-- the law's way to leave a name out, and the program's -/
theorem filter_drop {g : St} {l : List St} (nd : l.Nodup) (h : g ∉ l.tail) : l.filter (fun x => decide (x ≠ g)) = dropHead g l := by
  cases l with
  | nil => rfl
  | cons a l =>
    have hl : l.filter (fun x => decide (x ≠ g)) = l := List.filter_eq_self.mpr fun x hx => decide_eq_true fun e => h (e ▸ hx)
    unfold dropHead
    by_cases e : a = g
    · subst e
      rw [List.filter_cons_of_neg (by simp), hl]
      simp
    · rw [List.filter_cons_of_pos (by simpa using e), hl, if_neg (by simpa using e)]
theorem filter_step {g : St} {ls : List (List St)} (nd : ∀ l ∈ ls, l.Nodup) (h : inTail g ls = false) : ls.map (fun l => l.filter fun x => decide (x ≠ g)) = step ls g := by
  unfold step
  refine List.map_congr_left fun l hl => filter_drop (nd l hl) fun hm => ?_
  unfold inTail at h
  rw [List.any_eq_false] at h
  exact h l hl (decide_eq_true hm)
theorem drop_nodup {g : St} {l : List St} (h : l.Nodup) : (dropHead g l).Nodup := by
  unfold dropHead
  split
  · exact h.sublist (List.tail_sublist _)
  · exact h
theorem step_nodup {g : St} {ls : List (List St)} (nd : ∀ l ∈ ls, l.Nodup) : ∀ l ∈ step ls g, l.Nodup := by
  intro l hl
  obtain ⟨l0, h0, rfl⟩ := List.mem_map.mp hl
  exact drop_nodup (nd l0 h0)
/-- leaving out the head: what stands in the tail now -/
theorem tail_drop {g : St} {l : List St} (nd : l.Nodup) (x : St) : decide (x ∈ (dropHead g l).tail) = (decide (x ∈ l.tail) && !(decide (l.head? = some g) && decide (l.tail.head? = some x))) := by
  unfold dropHead
  by_cases e : l.head? = some g
  · rw [if_pos e, decide_eq_true e, Bool.true_and]
    cases l with
    | nil => cases e
    | cons a l =>
      cases l with
      | nil => simp
      | cons b l =>
        have nb : b ∉ l := (List.nodup_cons.mp (List.nodup_cons.mp nd).2).1
        by_cases hx : x = b
        · subst hx
          simp [nb]
        · have hb : ¬ b = x := fun h => hx h.symm
          by_cases m : x ∈ l <;> simp [hx, hb, m]
  · rw [if_neg e, decide_eq_false e]
    simp
theorem heads_nil {ls : List (List St)} : headsOf ls = [] ↔ ∀ l ∈ ls, l = [] := by
  unfold headsOf
  rw [List.filterMap_eq_nil_iff]
  exact ⟨fun h l hl => List.head?_eq_none_iff.mp (h l hl), fun h l hl => by rw [h l hl]; rfl⟩
theorem size_drop {g : St} {l : List St} : (dropHead g l).length ≤ l.length := by
  unfold dropHead
  split
  · rw [List.length_tail]; omega
  · exact Nat.le_refl _
theorem size_step {g : St} : ∀ {ls : List (List St)}, g ∈ headsOf ls → size (step ls g) < size ls := by
  have le : ∀ ls : List (List St), size (step ls g) ≤ size ls := by
    intro ls
    induction ls with
    | nil => exact Nat.le_refl _
    | cons l ls ih =>
      have := size_drop (g := g) (l := l)
      simp only [size, step, List.map_cons, List.sum_cons] at ih ⊢
      omega
  intro ls
  induction ls with
  | nil => intro h; cases h
  | cons l ls ih =>
    intro h
    have h1 := le ls
    have h2 := size_drop (g := g) (l := l)
    by_cases e : l.head? = some g
    · have : (dropHead g l).length < l.length := by
        unfold dropHead
        rw [if_pos e]
        cases l with
        | nil => cases e
        | cons _ _ => simp
      simp only [size, step, List.map_cons, List.sum_cons] at h1 ⊢
      omega
    · have h' : g ∈ headsOf ls := by
        unfold headsOf at h ⊢
        rw [List.mem_filterMap] at h ⊢
        obtain ⟨l1, m1, e1⟩ := h
        rcases List.mem_cons.mp m1 with rfl | m
        · exact absurd e1 e
        · exact ⟨l1, m, e1⟩
      have := ih h'
      simp only [size, step, List.map_cons, List.sum_cons] at this ⊢
      omega
/-- the merge -/
def mergeN : Nat → List (List St) → Option (List St)
  | 0, _ => none
  | n + 1, ls => if headsOf ls = [] then some [] else match goodOf ls with
    | [] => none
    | g :: _ => (mergeN n (step ls g)).map (g :: ·)
def mergeL (ls : List (List St)) : Option (List St) := mergeN (size ls + 1) ls
theorem good_mem {g : St} {gs : List St} {ls : List (List St)} (h : goodOf ls = g :: gs) : g ∈ headsOf ls ∧ inTail g ls = false := by
  have m : g ∈ goodOf ls := by rw [h]; exact List.mem_cons_self
  obtain ⟨a, b⟩ := List.mem_filter.mp m
  exact ⟨a, by simpa using b⟩
theorem mergeN_more : ∀ {n m : Nat} {ls : List (List St)}, size ls < n → size ls < m → mergeN n ls = mergeN m ls
  | 0, _, _, h, _ => absurd h (Nat.not_lt_zero _)
  | _ + 1, 0, _, _, h => absurd h (Nat.not_lt_zero _)
  | n + 1, m + 1, ls, h, h2 => by
    unfold mergeN
    split
    · rfl
    · cases e : goodOf ls with
      | nil => rfl
      | cons g gs =>
        have := size_step (good_mem e).1
        show Option.map _ (mergeN n _) = Option.map _ (mergeN m _)
        rw [mergeN_more (n := n) (m := m) (by omega) (by omega)]
theorem mergeL_eq (ls : List (List St)) : mergeL ls = if headsOf ls = [] then some [] else match goodOf ls with
    | [] => none
    | g :: _ => (mergeL (step ls g)).map (g :: ·) := by
  show mergeN (size ls + 1) ls = _
  unfold mergeN
  split
  · rfl
  · cases e : goodOf ls with
    | nil => rfl
    | cons g gs =>
      have := size_step (good_mem e).1
      show Option.map _ (mergeN _ _) = Option.map _ (mergeN _ _)
      rw [mergeN_more (m := size (step ls g) + 1) this (Nat.lt_succ_self _)]
/-- each tuple stands in the merge, in its order -/
theorem merge_sub : ∀ {n : Nat} {ls : List (List St)} {r : List St}, mergeN n ls = some r → ∀ l ∈ ls, l.Sublist r
  | 0, _, _, h => by cases h
  | n + 1, ls, r, h => by
    unfold mergeN at h
    split at h
    · rename_i e
      cases h
      intro l hl
      rw [heads_nil.mp e l hl]
      exact List.nil_sublist _
    · cases e : goodOf ls with
      | nil => rw [e] at h; cases h
      | cons g gs =>
        rw [e] at h
        obtain ⟨r', hr, rfl⟩ := Option.map_eq_some_iff.mp h
        intro l hl
        have := merge_sub hr (dropHead g l) (List.mem_map.mpr ⟨l, hl, rfl⟩)
        unfold dropHead at this
        split at this
        · rename_i eh
          cases l with
          | nil => cases eh
          | cons a l =>
            cases eh
            exact List.Sublist.cons_cons _ this
        · exact List.Sublist.cons _ this
/-- no name comes twice, and none but those of the tuples -/
theorem merge_nodup : ∀ {n : Nat} {ls : List (List St)} {r : List St}, (∀ l ∈ ls, l.Nodup) → mergeN n ls = some r → r.Nodup ∧ ∀ x ∈ r, ∃ l ∈ ls, x ∈ l
  | 0, _, _, _, h => by cases h
  | n + 1, ls, r, nd, h => by
    unfold mergeN at h
    split at h
    · cases h
      exact ⟨List.nodup_nil, fun x hx => by cases hx⟩
    · cases e : goodOf ls with
      | nil => rw [e] at h; cases h
      | cons g gs =>
        rw [e] at h
        obtain ⟨r', hr, rfl⟩ := Option.map_eq_some_iff.mp h
        obtain ⟨i1, i2⟩ := merge_nodup (step_nodup nd) hr
        obtain ⟨gh, gt⟩ := good_mem e
        have back : ∀ x l, x ∈ dropHead g l → x ∈ l := fun x l hx => by
          unfold dropHead at hx
          split at hx
          · exact List.mem_of_mem_tail hx
          · exact hx
        refine ⟨List.nodup_cons.mpr ⟨fun hg => ?_, i1⟩, fun x hx => ?_⟩
        · obtain ⟨l', m, hgl⟩ := i2 g hg
          obtain ⟨l, hl, rfl⟩ := List.mem_map.mp m
          have nt : g ∉ l.tail := fun hm => by
            unfold inTail at gt
            rw [List.any_eq_false] at gt
            exact gt l hl (decide_eq_true hm)
          unfold dropHead at hgl
          split at hgl
          · exact nt hgl
          · rename_i ne
            cases l with
            | nil => cases hgl
            | cons a l =>
              rcases List.mem_cons.mp hgl with q | q
              · exact ne (by rw [q]; rfl)
              · exact nt q
        · rcases List.mem_cons.mp hx with rfl | q
          · obtain ⟨l, hl, eh⟩ := List.mem_filterMap.mp gh
            exact ⟨l, hl, List.mem_of_mem_head? eh⟩
          · obtain ⟨l', m, hxl⟩ := i2 x q
            obtain ⟨l, hl, rfl⟩ := List.mem_map.mp m
            exact ⟨l, hl, back x l hxl⟩
end Mg

set_option Elab.async false
set_option linter.all false
namespace Mg
open PySem
/-! ### how merges hang together -/
theorem drop_part {g : St} {f l : List St} (h : l.Sublist (g :: f)) : (dropHead g l).Sublist f := by
  unfold dropHead
  split
  · rename_i e
    cases h with
    | cons _ h => exact (List.tail_sublist _).trans h
    | cons_cons _ h => exact h
  · rename_i e
    cases h with
    | cons _ h => exact h
    | cons_cons _ h => exact absurd rfl e
theorem drop_self (g : St) (l : List St) : dropHead g (g :: l) = l := by
  unfold dropHead
  rw [if_pos (show (g :: l).head? = some g from rfl)]
  rfl
theorem tail_part {g : St} {f l : List St} (h : l.Sublist (g :: f)) : l.tail.Sublist f := by
  cases h with
  | cons _ h => exact (List.tail_sublist _).trans h
  | cons_cons _ h => exact h
/-- a tuple that has all the others in it, in order, is the merge -/
theorem merge_whole : ∀ {f : List St} {ls : List (List St)}, f.Nodup → f ∈ ls → (∀ l ∈ ls, l.Sublist f) → mergeL ls = some f
  | [], ls, _, _, h => by
    rw [mergeL_eq, if_pos (heads_nil.mpr fun l hl => List.sublist_nil.mp (h l hl))]
  | g :: f, ls, nd, hm, h => by
    obtain ⟨n1, n2⟩ := List.nodup_cons.mp nd
    have hh : g ∈ headsOf ls := List.mem_filterMap.mpr ⟨g :: f, hm, rfl⟩
    have ht : inTail g ls = false := by
      unfold inTail
      rw [List.any_eq_false]
      intro l hl
      have := tail_part (h l hl)
      exact fun z => n1 (this.subset (of_decide_eq_true z))
    have hg : g ∈ goodOf ls := List.mem_filter.mpr ⟨hh, by rw [ht]; rfl⟩
    have all : ∀ x ∈ goodOf ls, x = g := fun x hx => by
      obtain ⟨a, b⟩ := List.mem_filter.mp hx
      obtain ⟨l, hl, e⟩ := List.mem_filterMap.mp a
      have xm : x ∈ g :: f := (h l hl).subset (List.mem_of_mem_head? e)
      rcases List.mem_cons.mp xm with q | q
      · exact q
      · have : inTail x ls = true := List.any_eq_true.mpr ⟨g :: f, hm, decide_eq_true q⟩
        rw [this] at b
        cases b
    rw [mergeL_eq, if_neg (fun e => by rw [e] at hh; cases hh)]
    cases e : goodOf ls with
    | nil => rw [e] at hg; cases hg
    | cons a gs =>
      have ea : a = g := all a (by rw [e]; exact List.mem_cons_self)
      subst ea
      show Option.map (a :: ·) (mergeL (step ls a)) = _
      rw [merge_whole (f := f) (ls := step ls a) n2 (List.mem_map.mpr ⟨a :: f, hm, drop_self a f⟩) fun l hl => by
        obtain ⟨l0, h0, rfl⟩ := List.mem_map.mp hl
        exact drop_part (h l0 h0)]
      rfl
theorem heads_append (ls ms : List (List St)) : headsOf (ls ++ ms) = headsOf ls ++ headsOf ms := List.filterMap_append ..
theorem merge_cons {ls : List (List St)} {g : St} {f : List St} (h : mergeL ls = some (g :: f)) : headsOf ls ≠ [] ∧ (∃ gs, goodOf ls = g :: gs) ∧ mergeL (step ls g) = some f := by
  rw [mergeL_eq] at h
  split at h
  · cases h
  · rename_i e
    cases q : goodOf ls with
    | nil => rw [q] at h; cases h
    | cons a gs =>
      rw [q] at h
      obtain ⟨r, hr, er⟩ := Option.map_eq_some_iff.mp h
      cases er
      exact ⟨e, ⟨gs, rfl⟩, hr⟩
theorem merge_empty {ls : List (List St)} (h : mergeL ls = some []) : headsOf ls = [] := by
  rw [mergeL_eq] at h
  split at h
  · assumption
  · cases q : goodOf ls with
    | nil => rw [q] at h; cases h
    | cons a gs =>
      rw [q] at h
      obtain ⟨r, hr, er⟩ := Option.map_eq_some_iff.mp h
      cases er
theorem merge_of_cons {ls : List (List St)} {g : St} {gs f : List St} (h : headsOf ls ≠ []) (hg : goodOf ls = g :: gs) (hr : mergeL (step ls g) = some f) : mergeL ls = some (g :: f) := by
  rw [mergeL_eq, if_neg h, hg]
  show Option.map (g :: ·) (mergeL (step ls g)) = _
  rw [hr]
  rfl
/-- a part of the merge behind all others changes nothing -/
theorem merge_part : ∀ {f : List St} {ls : List (List St)} {s : List St}, f.Nodup → s.Sublist f → mergeL ls = some f → mergeL (ls ++ [s]) = some f
  | [], ls, s, _, hs, h => by
    have e := merge_empty h
    rw [List.sublist_nil.mp hs, mergeL_eq, if_pos]
    rw [heads_append, e]
    rfl
  | g :: f, ls, s, nd, hs, h => by
    obtain ⟨n1, n2⟩ := List.nodup_cons.mp nd
    obtain ⟨h1, ⟨gs, hg⟩, h3⟩ := merge_cons h
    have gs' : g ∉ s.tail := fun q => n1 ((tail_part hs).subset q)
    have hgood : ∃ gs', goodOf (ls ++ [s]) = g :: gs' := by
      unfold goodOf at hg ⊢
      rw [heads_append, List.filter_append]
      have e : (headsOf ls).filter (fun h => !inTail h (ls ++ [s])) = ((headsOf ls).filter fun h => !inTail h ls).filter fun h => !decide (h ∈ s.tail) := by
        rw [List.filter_filter]
        refine List.filter_congr fun x _ => ?_
        unfold inTail
        rw [List.any_append]
        simp [Bool.and_comm]
      rw [e, hg, List.filter_cons, if_pos (by simpa using gs')]
      exact ⟨_, rfl⟩
    obtain ⟨gs', hg'⟩ := hgood
    refine merge_of_cons (fun e => h1 ?_) hg' ?_
    · rw [heads_append] at e
      exact (List.append_eq_nil_iff.mp e).1
    · have : step (ls ++ [s]) g = step ls g ++ [dropHead g s] := by
        unfold step
        rw [List.map_append]
        rfl
      rw [this]
      exact merge_part n2 (drop_part hs) h3
/-! other names -/
section
variable {φ : St → St} (hφ : ∀ x y, φ x = φ y → x = y)
include hφ
theorem mem_map_inj {x : St} {l : List St} : φ x ∈ l.map φ ↔ x ∈ l := ⟨fun h => by obtain ⟨y, hy, e⟩ := List.mem_map.mp h; rw [← hφ _ _ e]; exact hy, fun h => List.mem_map.mpr ⟨x, h, rfl⟩⟩
theorem drop_map (g : St) (l : List St) : dropHead (φ g) (l.map φ) = (dropHead g l).map φ := by
  cases l with
  | nil => rfl
  | cons a l =>
    unfold dropHead
    by_cases q : a = g
    · subst q
      simp
    · have q2 : ¬ φ a = φ g := fun e => q (hφ _ _ e)
      simp [q, q2]
theorem inTail_map (x : St) (ls : List (List St)) : inTail (φ x) (ls.map (List.map φ)) = inTail x ls := by
  unfold inTail
  rw [List.any_map]
  congr 1
  funext l
  show decide (φ x ∈ (l.map φ).tail) = decide (x ∈ l.tail)
  rw [← List.map_tail]
  exact decide_eq_decide.mpr (mem_map_inj hφ)
omit hφ in
theorem heads_map (ls : List (List St)) : headsOf (ls.map (List.map φ)) = (headsOf ls).map φ := by
  unfold headsOf
  rw [List.filterMap_map, List.map_filterMap]
  congr 1
  funext l
  show (l.map φ).head? = l.head?.map φ
  rw [List.head?_map]
theorem good_map (ls : List (List St)) : goodOf (ls.map (List.map φ)) = (goodOf ls).map φ := by
  unfold goodOf
  rw [heads_map, List.filter_map]
  congr 1
  refine List.filter_congr fun x _ => ?_
  show (!inTail (φ x) (ls.map (List.map φ))) = _
  rw [inTail_map hφ]
theorem merge_map : ∀ {n : Nat} {ls : List (List St)}, mergeN n (ls.map (List.map φ)) = (mergeN n ls).map (List.map φ)
  | 0, _ => rfl
  | n + 1, ls => by
    unfold mergeN
    rw [heads_map, good_map hφ]
    by_cases q : headsOf ls = []
    · rw [q]
      rfl
    · rw [if_neg q, if_neg (by simpa using q)]
      cases e : goodOf ls with
      | nil => rfl
      | cons g gs =>
        show Option.map (φ g :: ·) (mergeN n (step (ls.map (List.map φ)) (φ g))) = Option.map (List.map φ) (Option.map (g :: ·) (mergeN n (step ls g)))
        have es : step (ls.map (List.map φ)) (φ g) = (step ls g).map (List.map φ) := by
          unfold step
          rw [List.map_map, List.map_map]
          exact List.map_congr_left fun l _ => drop_map hφ g l
        rw [es, merge_map, Option.map_map, Option.map_map]
        rfl
theorem mergeL_map {ls : List (List St)} : mergeL (ls.map (List.map φ)) = (mergeL ls).map (List.map φ) := by
  have : size (ls.map (List.map φ)) = size ls := by
    unfold size
    rw [List.map_map]
    congr 1
    exact List.map_congr_left fun l _ => List.length_map _
  unfold mergeL
  rw [this]
  exact merge_map hφ
end
/-- a name at the front of all tuples -/
theorem merge_top {t : St} {ls : List (List St)} (h : ∀ l ∈ ls, t ∉ l) (hn : ls ≠ []) : mergeL (ls.map (t :: ·)) = (mergeL ls).map (t :: ·) := by
  have hh : headsOf (ls.map (t :: ·)) = ls.map fun _ => t := by
    unfold headsOf
    rw [List.filterMap_map]
    show ls.filterMap (fun _ => some t) = _
    induction ls with
    | nil => rfl
    | cons a ls ih =>
      clear hn
      rw [List.filterMap_cons, List.map_cons]
      by_cases q : ls = []
      · subst q; rfl
      · rw [ih (fun l hl => h l (List.mem_cons_of_mem _ hl)) q]
  have ht : inTail t (ls.map (t :: ·)) = false := by
    unfold inTail
    rw [List.any_map, List.any_eq_false]
    intro l hl
    exact fun z => h l hl (of_decide_eq_true z)
  have hg : goodOf (ls.map (t :: ·)) = ls.map fun _ => t := by
    unfold goodOf
    rw [hh]
    refine List.filter_eq_self.mpr fun x hx => ?_
    obtain ⟨_, _, rfl⟩ := List.mem_map.mp hx
    rw [ht]
    rfl
  have hs : step (ls.map (t :: ·)) t = ls := by
    unfold step
    rw [List.map_map]
    refine (List.map_congr_left fun l _ => ?_).trans (List.map_id _)
    exact drop_self t l
  cases ls with
  | nil => exact absurd rfl hn
  | cons a ls =>
    rw [mergeL_eq, if_neg (by rw [hh]; simp), hg]
    show Option.map (t :: ·) (mergeL (step ((a :: ls).map (t :: ·)) t)) = _
    rw [hs]
/-- a name at the end of all tuples -/
theorem heads_end {x : St} {P : St → Bool} (hx : P x = false) : ∀ ls : List (List St), (headsOf (ls.map (· ++ [x]))).filter P = (headsOf ls).filter P
  | [] => rfl
  | [] :: ls => by
    have ih := heads_end hx ls
    unfold headsOf at ih ⊢
    rw [List.map_cons, List.filterMap_cons, List.filterMap_cons]
    show (x :: (ls.map (· ++ [x])).filterMap List.head?).filter P = (ls.filterMap List.head?).filter P
    rw [List.filter_cons, hx, if_neg (by simp), ih]
  | (a :: l) :: ls => by
    have ih := heads_end hx ls
    unfold headsOf at ih ⊢
    rw [List.map_cons, List.filterMap_cons, List.filterMap_cons]
    show (a :: (ls.map (· ++ [x])).filterMap List.head?).filter P = (a :: ls.filterMap List.head?).filter P
    rw [List.filter_cons, List.filter_cons, ih]
theorem merge_end {x : St} : ∀ (n : Nat) {ls : List (List St)}, size ls < n → (∀ l ∈ ls, x ∉ l) → ls ≠ [] → mergeL (ls.map (· ++ [x])) = (mergeL ls).map (· ++ [x])
  | 0, _, hn, _, _ => absurd hn (Nat.not_lt_zero _)
  | n + 1, ls, hn, h, hne => by
    by_cases q : headsOf ls = []
    · have e : ls.map (· ++ [x]) = ls.map (x :: ·) := List.map_congr_left fun l hl => by rw [heads_nil.mp q l hl]; rfl
      rw [e, merge_top h hne, mergeL_eq, if_pos q]
      rfl
    · obtain ⟨l0, hl0, hl0'⟩ : ∃ l ∈ ls, l ≠ [] := by
        refine Classical.byContradiction fun z => q (heads_nil.mpr fun l hl => Classical.byContradiction fun z2 => z ⟨l, hl, z2⟩)
      have tx : inTail x (ls.map (· ++ [x])) = true := by
        unfold inTail
        refine List.any_eq_true.mpr ⟨l0 ++ [x], List.mem_map.mpr ⟨l0, hl0, rfl⟩, decide_eq_true ?_⟩
        cases l0 with
        | nil => exact absurd rfl hl0'
        | cons a l => show x ∈ l ++ [x]; simp
      have ty : ∀ y, y ≠ x → inTail y (ls.map (· ++ [x])) = inTail y ls := fun y hy => by
        unfold inTail
        rw [List.any_map]
        congr 1
        funext l
        show decide (y ∈ (l ++ [x]).tail) = decide (y ∈ l.tail)
        refine decide_eq_decide.mpr ?_
        cases l with
        | nil => simp
        | cons a l =>
          show y ∈ l ++ [x] ↔ y ∈ l
          simp [hy]
      have hx : ∀ y ∈ headsOf ls, y ≠ x := fun y hy e => by
        obtain ⟨l, hl, e2⟩ := List.mem_filterMap.mp hy
        exact h l hl (e ▸ List.mem_of_mem_head? e2)
      have hg : goodOf (ls.map (· ++ [x])) = goodOf ls := by
        unfold goodOf
        rw [heads_end (P := fun h => !inTail h (ls.map (· ++ [x]))) (by rw [tx]; rfl)]
        refine List.filter_congr fun y hy => ?_
        rw [ty y (hx y hy)]
      have hh : headsOf (ls.map (· ++ [x])) ≠ [] := fun e => by
        have := heads_nil.mp e (l0 ++ [x]) (List.mem_map.mpr ⟨l0, hl0, rfl⟩)
        simp at this
      rw [mergeL_eq, if_neg hh, hg, mergeL_eq ls, if_neg q]
      cases e : goodOf ls with
      | nil => rfl
      | cons g gs =>
        have gm := (good_mem e).1
        have gx := hx g gm
        have es : step (ls.map (· ++ [x])) g = (step ls g).map (· ++ [x]) := by
          unfold step
          rw [List.map_map, List.map_map]
          refine List.map_congr_left fun l _ => ?_
          show dropHead g (l ++ [x]) = dropHead g l ++ [x]
          cases l with
          | nil =>
            unfold dropHead
            have q2 : ¬ x = g := fun z => gx z.symm
            simp [q2]
          | cons a l =>
            unfold dropHead
            by_cases q2 : a = g <;> simp [q2]
        have hsz := size_step gm
        show Option.map (g :: ·) (mergeL (step (ls.map (· ++ [x])) g)) = Option.map (· ++ [x]) (Option.map (g :: ·) (mergeL (step ls g)))
        rw [es, merge_end n (by omega) (fun l hl => by
          obtain ⟨l1, h1, rfl⟩ := List.mem_map.mp hl
          exact fun hm => h l1 h1 (by
            unfold dropHead at hm
            split at hm
            · exact List.mem_of_mem_tail hm
            · exact hm)) (by
          unfold step
          simpa using hne), Option.map_map, Option.map_map]
        rfl
theorem mergeL_end {x : St} {ls : List (List St)} (h : ∀ l ∈ ls, x ∉ l) (hn : ls ≠ []) : mergeL (ls.map (· ++ [x])) = (mergeL ls).map (· ++ [x]) := merge_end (size ls + 1) (Nat.lt_succ_self _) h hn
/-- tuples without a common name -/
theorem merge_join : ∀ {f t : List St}, f.Nodup → t.Nodup → (∀ x ∈ f, x ∉ t) → mergeL [f, t] = some (f ++ t)
  | [], t, _, nt, _ => merge_whole nt (by simp) fun l hl => by
    simp only [List.mem_cons, List.not_mem_nil, or_false] at hl
    rcases hl with rfl | rfl
    · exact List.nil_sublist _
    · exact List.Sublist.refl _
  | g :: f, t, nf, nt, hd => by
    obtain ⟨n1, n2⟩ := List.nodup_cons.mp nf
    have gt : g ∉ t := hd g List.mem_cons_self
    have ht : inTail g [g :: f, t] = false := by
      unfold inTail
      rw [List.any_eq_false]
      intro l hl
      simp only [List.mem_cons, List.not_mem_nil, or_false] at hl
      rcases hl with rfl | rfl
      · exact fun z => n1 (of_decide_eq_true z)
      · exact fun z => gt (List.mem_of_mem_tail (of_decide_eq_true z))
    have hg : ∃ gs, goodOf [g :: f, t] = g :: gs := by
      unfold goodOf headsOf
      rw [List.filterMap_cons]
      show ∃ gs, (g :: [t].filterMap List.head?).filter (fun h => !inTail h [g :: f, t]) = g :: gs
      rw [List.filter_cons, if_pos (by rw [ht]; rfl)]
      exact ⟨_, rfl⟩
    obtain ⟨gs, hg⟩ := hg
    refine merge_of_cons (fun e => ?_) hg ?_
    · unfold headsOf at e
      rw [List.filterMap_cons] at e
      cases e
    · have es : step [g :: f, t] g = [f, t] := by
        show [dropHead g (g :: f), dropHead g t] = _
        have e1 : dropHead g (g :: f) = f := drop_self g f
        have e2 : dropHead g t = t := by
          unfold dropHead
          rw [if_neg (show ¬ t.head? = some g from fun e => gt (List.mem_of_mem_head? e))]
        rw [e1, e2]
      rw [es]
      exact merge_join n2 nt fun x hx => hd x (List.mem_cons_of_mem _ hx)
/-- parts of one tuple can be merged -/
theorem good_some : ∀ {w : List St} {ls : List (List St)}, w.Nodup → (∀ l ∈ ls, l.Sublist w) → headsOf ls ≠ [] → goodOf ls ≠ []
  | [], ls, _, h, hn => absurd (heads_nil.mpr fun l hl => List.sublist_nil.mp (h l hl)) hn
  | a :: w, ls, nd, h, hn => by
    obtain ⟨n1, n2⟩ := List.nodup_cons.mp nd
    by_cases q : a ∈ headsOf ls
    · have ht : inTail a ls = false := by
        unfold inTail
        rw [List.any_eq_false]
        intro l hl
        exact fun z => n1 ((tail_part (h l hl)).subset (of_decide_eq_true z))
      intro e
      have : a ∈ goodOf ls := List.mem_filter.mpr ⟨q, by rw [ht]; rfl⟩
      rw [e] at this
      cases this
    · refine good_some (w := w) n2 (fun l hl => ?_) hn
      have e : dropHead a l = l := by
        unfold dropHead
        rw [if_neg (show ¬ l.head? = some a from fun e => q (List.mem_filterMap.mpr ⟨l, hl, e⟩))]
      rw [← e]
      exact drop_part (h l hl)
theorem merge_some : ∀ (n : Nat) {w : List St} {ls : List (List St)}, size ls < n → w.Nodup → (∀ l ∈ ls, l.Sublist w) → ∃ f, mergeL ls = some f
  | 0, _, _, h, _, _ => absurd h (Nat.not_lt_zero _)
  | n + 1, w, ls, hn, nd, h => by
    by_cases q : headsOf ls = []
    · exact ⟨[], by rw [mergeL_eq, if_pos q]⟩
    · cases e : goodOf ls with
      | nil => exact absurd e (good_some nd h q)
      | cons g gs =>
        have hsz := size_step (good_mem e).1
        obtain ⟨f, hf⟩ := merge_some n (w := w) (ls := step ls g) (by omega) nd fun l hl => by
          obtain ⟨l0, h0, rfl⟩ := List.mem_map.mp hl
          refine List.Sublist.trans ?_ (h l0 h0)
          unfold dropHead
          split
          · exact List.tail_sublist _
          · exact List.Sublist.refl _
        exact ⟨g :: f, merge_of_cons q e hf⟩
/-- no more names than stand in the tuples -/
theorem nodup_le : ∀ {r l : List St}, r.Nodup → (∀ x ∈ r, x ∈ l) → r.length ≤ l.length
  | [], _, _, _ => Nat.zero_le _
  | x :: r, l, nd, h => by
    obtain ⟨n1, n2⟩ := List.nodup_cons.mp nd
    have hx := h x List.mem_cons_self
    have ih := nodup_le (l := l.erase x) n2 fun y hy => (List.mem_erase_of_ne (show y ≠ x from fun e => n1 (by rw [← e]; exact hy))).mpr (h y (List.mem_cons_of_mem _ hy))
    have := List.length_erase_of_mem hx
    have := List.length_pos_of_mem hx
    rw [List.length_cons]
    omega
end Mg

set_option Elab.async false
set_option linter.all false
set_option maxRecDepth 100000
namespace K07
open PySem PySem.Spec PyProof.Rows L2 DV
def topS (i : Nat) : Stmt := PySem.Challenge.pw_nextbehind_k07_merges_related.main.body.getD i (.Pass ⟨0, 0, 0, 0⟩)
section
variable {P : Program} {w : World} {K : PySem.W.Frag} {mg : Str → Option Value} {base : Heap} {ct : String → Addr}

abbrev s_is_name : Stmt := topS 8
theorem sc_is_name : FnScope ["thing", "sign"] ["thing"] (defScope s_is_name) := ⟨rfl, rfl, rfl, by decide +kernel, rfl, by decide +kernel, by decide +kernel⟩
noncomputable def b_is_name : SF := (sSeq (sIf (tOrD (tNotD (tOfE (eArgs gIsa (aCons (eVar 0) (aCons (eC (.cls (.bi "str"))) aNil))))) (tNotD (fun ro A => ((eChain gLe gLe (eC (.int 1)) (eArgs gLen (aCons (eVar 0) aNil)) (eC (.int 8))) ro A).bind gBool)))
  (sRet (eC (.bl false)))
  sNx)
  (sRet (eArgs gAll (aCons (eComp (iSeq (eVar 0)) (.one 1) [1] ttYes (eBin gIn (eVar 1) (eC (.str "abcdefghijklmnopqrstuvwxyz")))) aNil))))
theorem d_is_name (m_isinstance : mg "isinstance" = none) (m_str : mg "str" = none) (m_len : mg "len" = none) (m_all : mg "all" = none) (g_MOST_LETTERS : ∃ u, mg "MOST_LETTERS" = some u ∧ RelV (.int 8) u) (g_LETTERS : ∃ u, mg "LETTERS" = some u ∧ RelV (.str "abcdefghijklmnopqrstuvwxyz") u) (f : Addr) :
    ∀ (cdv : Value) (A : Around) (outer : List PySem.Env) (s : Shared) (H : Hp) (E : XK), A.guards = some [] → Room 0 (A.deeper (envOfC "is_name" (defScope s_is_name) s.heap.objs.size f cdv)) → PSsD (cxD P w K mg base ["thing", "sign"] "is_name" s_is_name f cdv A outer s H E) ct (WD E) (defBody s_is_name) b_is_name := by
  intro cdv A outer s H E hg hr
  have tk : Takes (cxD P w K mg base ["thing", "sign"] "is_name" s_is_name f cdv A outer s H E) (WD E) := takes_of rfl rfl rfl rfl
  have hp : PassesOwn (model (cxD P w K mg base ["thing", "sign"] "is_name" s_is_name f cdv A outer s H E).prog (cxD P w K mg base ["thing", "sign"] "is_name" s_is_name f cdv A outer s H E).w) (cxD P w K mg base ["thing", "sign"] "is_name" s_is_name f cdv A outer s H E).A (cxD P w K mg base ["thing", "sign"] "is_name" s_is_name f cdv A outer s H E).env (cxD P w K mg base ["thing", "sign"] "is_name" s_is_name f cdv A outer s H E).xe := passes_of rfl
  exact (pssd_cons (psd_if (pdw_t (pdw_or (pdt_not (pdt_truth (pd_callB call_isi gIsa_ok (by rfl) m_isinstance (by decide +kernel) (pda_cons (pd_var 0) (pda_cons (pd_c (pe_bltn (v := .ty "str") (u := .type "str") (by rfl) m_str (by decide +kernel) rfl) (fun _ _ => .ty _)) pda_nil))))) (pdw_or1 (pdt_not (pdt_chain op_leX gLtL_ok op_leX gLtL_ok pd_int (pd_callB call_lenX gLen_ok (by rfl) m_len PySem.boot_len (pda_cons (pd_var 0) pda_nil)) (pd_gc (by rfl) g_MOST_LETTERS (fun _ _ => .int _)))))))
  (pssd_one (psd_ret pd_bl))
  pssd_nil)
  (pssd_one (psd_ret (pd_callB (cr_all rfl) gAll_ok (by rfl) m_all (by decide +kernel) (pda_cons (pd_comp (own := [("sign", 1)]) rfl sc_is_name.nd (pid_seq (pd_var 0)) (blkOk_by (N := ["thing", "sign"]) (sc := (defScope s_is_name)) (by decide +kernel)) (by decide) (fun _ _ _ _ _ => pg_name (i := 1) sc_is_name.nd rfl (Or.inl rfl)) (fun _ _ _ _ _ => ptsd_nil) (fun _ _ _ _ _ => (pd_cmp op_inX gIn_ok (pd_var 1) (pd_gc (by rfl) g_LETTERS (fun _ _ => .str _)) (by with_unfolding_all rfl)))) pda_nil)))))
noncomputable def F_is_name : FF := fun ds A => finR A (b_is_name (startD 2 ds) A)
theorem o_is_name (m_isinstance : mg "isinstance" = none) (m_str : mg "str" = none) (m_len : mg "len" = none) (m_all : mg "all" = none) (g_MOST_LETTERS : ∃ u, mg "MOST_LETTERS" = some u ∧ RelV (.int 8) u) (g_LETTERS : ∃ u, mg "LETTERS" = some u ∧ RelV (.str "abcdefghijklmnopqrstuvwxyz") u) {f : Addr} {fd : FuncData} (Fn : Fun K "is_name" "is_name" s_is_name f fd) : FnG P w K mg base 1 f fd ["thing"] (spD K ct 1 F_is_name) := okD Fn sc_is_name (d_is_name m_isinstance m_str m_len m_all g_MOST_LETTERS g_LETTERS f) fun ds A _ h => finR_ok h

abbrev s_are_different : Stmt := topS 9
theorem sc_are_different : FnScope ["thing", "name"] ["thing"] (defScope s_are_different) := ⟨rfl, rfl, rfl, by decide +kernel, rfl, by decide +kernel, by decide +kernel⟩
noncomputable def b_are_different : SF := (sSeq (sIf (tOrD (tNotD (tOfE (eArgs gIsa (aCons (eVar 0) (aCons (eC (.cls (.bi "tuple"))) aNil))))) (tNotD (tOfE (eArgs gAll (aCons (eComp (iSeq (eVar 0)) (.one 1) [1] ttYes (eArgs (fun ds A => F_is_name (ds ++ []) A) (aCons (eVar 1) aNil))) aNil)))))
  (sRet (eC (.bl false)))
  sNx)
  (sRet (eBin gEq (eUn gLenSet (eVar 0)) (eArgs gLen (aCons (eVar 0) aNil)))))
theorem d_are_different (c_is_name : Cal P w K mg base ct 1 "is_name" 1 [] F_is_name) (m_isinstance : mg "isinstance" = none) (m_tuple : mg "tuple" = none) (m_all : mg "all" = none) (m_len : mg "len" = none) (m_set : mg "set" = none) (f : Addr) :
    ∀ (cdv : Value) (A : Around) (outer : List PySem.Env) (s : Shared) (H : Hp) (E : XK), A.guards = some [] → Room 1 (A.deeper (envOfC "are_different" (defScope s_are_different) s.heap.objs.size f cdv)) → PSsD (cxD P w K mg base ["thing", "name"] "are_different" s_are_different f cdv A outer s H E) ct (WD E) (defBody s_are_different) b_are_different := by
  intro cdv A outer s H E hg hr
  have tk : Takes (cxD P w K mg base ["thing", "name"] "are_different" s_are_different f cdv A outer s H E) (WD E) := takes_of rfl rfl rfl rfl
  have hp : PassesOwn (model (cxD P w K mg base ["thing", "name"] "are_different" s_are_different f cdv A outer s H E).prog (cxD P w K mg base ["thing", "name"] "are_different" s_are_different f cdv A outer s H E).w) (cxD P w K mg base ["thing", "name"] "are_different" s_are_different f cdv A outer s H E).A (cxD P w K mg base ["thing", "name"] "are_different" s_are_different f cdv A outer s H E).env (cxD P w K mg base ["thing", "name"] "are_different" s_are_different f cdv A outer s H E).xe := passes_of rfl
  exact (pssd_cons (psd_if (pdw_t (pdw_or (pdt_not (pdt_truth (pd_callB call_isi gIsa_ok (by rfl) m_isinstance (by decide +kernel) (pda_cons (pd_var 0) (pda_cons (pd_c (pe_bltn (v := .ty "tuple") (u := .type "tuple") (by rfl) m_tuple (by decide +kernel) rfl) (fun _ _ => .ty _)) pda_nil))))) (pdw_or1 (pdt_not (pdt_truth (pd_callB (cr_all rfl) gAll_ok (by rfl) m_all (by decide +kernel) (pda_cons (pd_comp (own := [("name", 1)]) rfl sc_are_different.nd (pid_seq (pd_var 0)) (blkOk_by (N := ["thing", "name"]) (sc := (defScope s_are_different)) (by decide +kernel)) (by decide) (fun _ _ _ _ _ => pg_name (i := 1) sc_are_different.nd rfl (Or.inl rfl)) (fun _ _ _ _ _ => ptsd_nil) (fun _ _ _ _ _ => (pd_call c_is_name hg hr (by decide) (by rfl) takes0 (pda_cons (pd_var 1) pda_nil) (ar_cons ar_nil) rfl))) pda_nil)))))))
  (pssd_one (psd_ret pd_bl))
  pssd_nil)
  (pssd_one (psd_ret (pd_cmp (op_eqX hr.units) gEq_ok (pd_lenSet rfl (by rfl) m_len (by rfl) m_set (pd_var 0)) (pd_callB call_lenX gLen_ok (by rfl) m_len PySem.boot_len (pda_cons (pd_var 0) pda_nil)) (nomark _)))))
noncomputable def F_are_different : FF := fun ds A => finR A (b_are_different (startD 2 ds) A)
theorem o_are_different (c_is_name : Cal P w K mg base ct 1 "is_name" 1 [] F_is_name) (m_isinstance : mg "isinstance" = none) (m_tuple : mg "tuple" = none) (m_all : mg "all" = none) (m_len : mg "len" = none) (m_set : mg "set" = none) {f : Addr} {fd : FuncData} (Fn : Fun K "are_different" "are_different" s_are_different f fd) : FnG P w K mg base 2 f fd ["thing"] (spD K ct 1 F_are_different) := okD Fn sc_are_different (d_are_different c_is_name m_isinstance m_tuple m_all m_len m_set f) fun ds A _ h => finR_ok h

abbrev s_check_tuples : Stmt := topS 15
theorem sc_check_tuples : FnScope ["tuples", "index", "one"] ["tuples"] (defScope s_check_tuples) := ⟨rfl, rfl, rfl, by decide +kernel, rfl, by decide +kernel, by decide +kernel⟩
noncomputable def b_check_tuples : SF := (sFor (iEnumS (eVar 0)) (gTpl [(gNm 1), (gNm 2)])
  (sIf (tNotD (tOfE (eArgs (fun ds A => F_are_different (ds ++ []) A) (aCons (eVar 2) aNil))))
  (fun _ _ => .stk)
  sNx))
theorem d_check_tuples (c_are_different : Cal P w K mg base ct 2 "are_different" 1 [] F_are_different) (m_enumerate : mg "enumerate" = none) (f : Addr) :
    ∀ (cdv : Value) (A : Around) (outer : List PySem.Env) (s : Shared) (H : Hp) (E : XK), A.guards = some [] → Room 2 (A.deeper (envOfC "check_tuples" (defScope s_check_tuples) s.heap.objs.size f cdv)) → PSsD (cxD P w K mg base ["tuples", "index", "one"] "check_tuples" s_check_tuples f cdv A outer s H E) ct (WD E) (defBody s_check_tuples) b_check_tuples := by
  intro cdv A outer s H E hg hr
  have tk : Takes (cxD P w K mg base ["tuples", "index", "one"] "check_tuples" s_check_tuples f cdv A outer s H E) (WD E) := takes_of rfl rfl rfl rfl
  have hp : PassesOwn (model (cxD P w K mg base ["tuples", "index", "one"] "check_tuples" s_check_tuples f cdv A outer s H E).prog (cxD P w K mg base ["tuples", "index", "one"] "check_tuples" s_check_tuples f cdv A outer s H E).w) (cxD P w K mg base ["tuples", "index", "one"] "check_tuples" s_check_tuples f cdv A outer s H E).A (cxD P w K mg base ["tuples", "index", "one"] "check_tuples" s_check_tuples f cdv A outer s H E).env (cxD P w K mg base ["tuples", "index", "one"] "check_tuples" s_check_tuples f cdv A outer s H E).xe := passes_of rfl
  exact (pssd_one (psd_for hp rfl (pid_enum (by rfl) m_enumerate (pd_var 0)) (pgd_tup rfl (pgsd_cons (pgd_name (i := 1) sc_check_tuples.nd rfl (Or.inl rfl)) (pgsd_cons (pgd_name (i := 2) sc_check_tuples.nd rfl (Or.inl rfl)) pgsd_nil)))
  (pssd_one (psd_if (pdt_not (pdt_truth (pd_call c_are_different hg hr (by decide) (by rfl) tk (pda_cons (pd_var 2) pda_nil) (ar_cons ar_nil) rfl)))
  (pssd_one psd_stk)
  pssd_nil))))
noncomputable def F_check_tuples : FF := fun ds A => finR A (b_check_tuples (startD 3 ds) A)
theorem o_check_tuples (c_are_different : Cal P w K mg base ct 2 "are_different" 1 [] F_are_different) (m_enumerate : mg "enumerate" = none) {f : Addr} {fd : FuncData} (Fn : Fun K "check_tuples" "check_tuples" s_check_tuples f fd) : FnG P w K mg base 3 f fd ["tuples"] (spD K ct 1 F_check_tuples) := okD Fn sc_check_tuples (d_check_tuples c_are_different m_enumerate f) fun ds A _ h => finR_ok h

abbrev s_merge_of : Stmt := topS 11
theorem sc_merge_of : FnScope ["tuples", "places", "found", "behind", "one", "name", "heads", "free", "index", "place"] ["tuples"] (defScope s_merge_of) := ⟨rfl, rfl, rfl, by decide +kernel, rfl, by decide +kernel, by decide +kernel⟩
noncomputable def b_merge_of : SF := (sSeq (sAsg (eArgs gTupD (aCons (eBin gMulM (eArgs gLstD (aCons (eC (.int 0)) aNil)) (eArgs gLen (aCons (eVar 0) aNil))) (aCons (eArgs gLstM aNil) (aCons eDicM aNil)))) (gTpl [(gNm 1), (gNm 2), (gNm 3)]))
  (sSeq (sFor (iSeq (eVar 0)) (gNm 4)
  (sFor (iSeq (eCut (eVar 4) (oSome (eC (.int 1))) oNone)) (gNm 5)
  (sAsg (eBin gAdd (eGet2 (eVar 3) (eVar 5) (eC (.int 0))) (eC (.int 1))) (gAt (eVar 3) (eVar 5)))))
  (whileD (tOfE (eC (.bl true)))
  (sSeq (sAsg (eComp (iZipS (eVar 0) (eVar 1)) (.tup [4, 9]) [4, 9] (tCmpD gLt (eVar 9) (eArgs gLen (aCons (eVar 4) aNil))) (eBin gSubD (eVar 4) (eVar 9))) (gNm 6))
  (sSeq (sAsg (eComp (iSeq (eVar 6)) (.one 5) [5] (tCmpD gEq (eGet2 (eVar 3) (eVar 5) (eC (.int 0))) (eC (.int 0))) (eVar 5)) (gNm 7))
  (sSeq (sIf (tCmpD gEq (eVar 6) (eArgs gLstD aNil))
  (sRet (eArgs gTupD (aCons (eArgs gTuple (aCons (eVar 2) aNil)) (aCons (eC .non) aNil))))
  sNx)
  (sSeq (sIf (tCmpD gEq (eVar 7) (eArgs gLstD aNil))
  (sRet (eArgs gTupD (aCons (eC .non) (aCons (fun _ _ => .stk) aNil))))
  sNx)
  (sSeq (sEx (eMeth isL gAppend (eVar 2) (aCons (eBin gSubD (eVar 7) (eC (.int 0))) aNil)))
  (sFor (iEnumS (eVar 0)) (gTpl [(gNm 8), (gNm 4)])
  (sIf (tCmpD gEq (eCut (eVar 4) (oSome (eBin gSubD (eVar 1) (eVar 8))) (oSome (eBin gAdd (eBin gSubD (eVar 1) (eVar 8)) (eC (.int 1))))) (eArgs gTupD (aCons (eBin gSubD (eVar 7) (eC (.int 0))) aNil)))
  (sSeq (sAugAt gAddI (eVar 1) (eVar 8) (eC (.int 1)))
  (sIf (tCmpD gLt (eBin gSubD (eVar 1) (eVar 8)) (eArgs gLen (aCons (eVar 4) aNil)))
  (sAugAt gSub (eVar 3) (eBin gSubD (eVar 4) (eBin gSubD (eVar 1) (eVar 8))) (eC (.int 1)))
  sNx))
  sNx))))))) 200)))
theorem d_merge_of (m_len : mg "len" = none) (m_zip : mg "zip" = none) (m_tuple : mg "tuple" = none) (m_enumerate : mg "enumerate" = none) (f : Addr) :
    ∀ (cdv : Value) (A : Around) (outer : List PySem.Env) (s : Shared) (H : Hp) (E : XK), A.guards = some [] → Room 2 (A.deeper (envOfC "merge_of" (defScope s_merge_of) s.heap.objs.size f cdv)) → PSsD (cxD P w K mg base ["tuples", "places", "found", "behind", "one", "name", "heads", "free", "index", "place"] "merge_of" s_merge_of f cdv A outer s H E) ct (WD E) (defBody s_merge_of) b_merge_of := by
  intro cdv A outer s H E hg hr
  have tk : Takes (cxD P w K mg base ["tuples", "places", "found", "behind", "one", "name", "heads", "free", "index", "place"] "merge_of" s_merge_of f cdv A outer s H E) (WD E) := takes_of rfl rfl rfl rfl
  have hp : PassesOwn (model (cxD P w K mg base ["tuples", "places", "found", "behind", "one", "name", "heads", "free", "index", "place"] "merge_of" s_merge_of f cdv A outer s H E).prog (cxD P w K mg base ["tuples", "places", "found", "behind", "one", "name", "heads", "free", "index", "place"] "merge_of" s_merge_of f cdv A outer s H E).w) (cxD P w K mg base ["tuples", "places", "found", "behind", "one", "name", "heads", "free", "index", "place"] "merge_of" s_merge_of f cdv A outer s H E).A (cxD P w K mg base ["tuples", "places", "found", "behind", "one", "name", "heads", "free", "index", "place"] "merge_of" s_merge_of f cdv A outer s H E).env (cxD P w K mg base ["tuples", "places", "found", "behind", "one", "name", "heads", "free", "index", "place"] "merge_of" s_merge_of f cdv A outer s H E).xe := passes_of rfl
  exact (pssd_cons (psd_asg (pd_tup (pda_cons (pd_op op_mulX gMulM_ok (pd_lst (pda_cons pd_int pda_nil)) (pd_callB call_lenX gLen_ok (by rfl) m_len PySem.boot_len (pda_cons (pd_var 0) pda_nil))) (pda_cons (pd_lstM pda_nil) (pda_cons pd_dicM pda_nil)))) (pgd_tup rfl (pgsd_cons (pgd_name (i := 1) sc_merge_of.nd rfl (Or.inl rfl)) (pgsd_cons (pgd_name (i := 2) sc_merge_of.nd rfl (Or.inl rfl)) (pgsd_cons (pgd_name (i := 3) sc_merge_of.nd rfl (Or.inr rfl)) pgsd_nil)))))
  (pssd_cons (psd_for hp rfl (pid_seq (pd_var 0)) (pgd_name (i := 4) sc_merge_of.nd rfl (Or.inl rfl))
  (pssd_one (psd_for hp rfl (pid_seq (pd_cut (pd_var 4) (pdo_some pd_int) pdo_none)) (pgd_name (i := 5) sc_merge_of.nd rfl (Or.inl rfl))
  (pssd_one (psd_asg (pd_op op_addX gAdd_ok (pd_get2 (hu_of hr) (pd_var 3) (pd_var 5) pd_int) pd_int) (pgd_at (pd_var 3) (pd_var 5) (hu_of hr)))))))
  (pssd_one (psd_while 200 hp (pdt_truth pd_bl)
  (pssd_cons (psd_setComp (i := 6) (own := [("one", 4), ("place", 9)]) rfl sc_merge_of.nd rfl rfl (sw_true rfl rfl rfl (by decide +kernel)) (pid_zipS (by rfl) m_zip (pd_var 0) (pd_var 1)) (blkOk_by (N := ["tuples", "places", "found", "behind", "one", "name", "heads", "free", "index", "place"]) (sc := (defScope s_merge_of)) (by decide +kernel)) (by decide) (fun _ _ _ _ _ => pg_tup rfl (pgs_cons (pg_name (i := 4) sc_merge_of.nd rfl (Or.inl rfl)) (pgs_cons (pg_name (i := 9) sc_merge_of.nd rfl (Or.inl rfl)) pgs_nil))) (fun _ _ _ _ _ => (ptsd_one (pdt_cmp op_ltX gLtL_ok (pd_var 9) (pd_callB call_lenX gLen_ok (by rfl) m_len PySem.boot_len (pda_cons (pd_var 4) pda_nil)) (nomark _)))) (fun _ _ _ _ _ => (pd_sub (hu_of hr) (pd_var 4) (pd_var 9) (fun _ _ => rfl) (fun _ _ => rfl))))
  (pssd_cons (psd_setComp (i := 7) (own := [("name", 5)]) rfl sc_merge_of.nd rfl rfl (sw_true rfl rfl rfl (by decide +kernel)) (pid_seq (pd_var 6)) (blkOk_by (N := ["tuples", "places", "found", "behind", "one", "name", "heads", "free", "index", "place"]) (sc := (defScope s_merge_of)) (by decide +kernel)) (by decide) (fun _ _ _ _ _ => pg_name (i := 5) sc_merge_of.nd rfl (Or.inl rfl)) (fun _ _ _ _ _ => (ptsd_one (pdt_cmp (op_eqX hr.units) gEq_ok (pd_get2 (hu_of hr) (pd_var 3) (pd_var 5) pd_int) pd_int (nomark _)))) (fun _ _ _ _ _ => (pd_var 5)))
  (pssd_cons (psd_if (pdt_cmp (op_eqX hr.units) gEq_ok (pd_var 6) (pd_lst pda_nil) (nomark _))
  (pssd_one (psd_ret (pd_tup (pda_cons (pd_callTy call_tupleF gTuple_ok (by rfl) m_tuple (by decide +kernel) (pda_cons (pd_var 2) pda_nil)) (pda_cons pd_non pda_nil)))))
  pssd_nil)
  (pssd_cons (psd_if (pdt_cmp (op_eqX hr.units) gEq_ok (pd_var 7) (pd_lst pda_nil) (nomark _))
  (pssd_one (psd_ret (pd_tup (pda_cons pd_non (pda_cons pd_stk pda_nil)))))
  pssd_nil)
  (pssd_cons (psd_expr (pd_meth PySem.F.plainAttrs_list PySem.F.slot_list_append PySem.F.type_list_append mt_append gAppend_ok isL_ok (pd_var 2) (pda_cons (pd_sub (hu_of hr) (pd_var 7) pd_int (fun _ _ => rfl) (fun _ _ => rfl)) pda_nil)))
  (pssd_one (psd_for hp rfl (pid_enum (by rfl) m_enumerate (pd_var 0)) (pgd_tup rfl (pgsd_cons (pgd_name (i := 8) sc_merge_of.nd rfl (Or.inl rfl)) (pgsd_cons (pgd_name (i := 4) sc_merge_of.nd rfl (Or.inl rfl)) pgsd_nil)))
  (pssd_one (psd_if (pdt_cmp (op_eqX hr.units) gEq_ok (pd_cut (pd_var 4) (pdo_some (pd_sub (hu_of hr) (pd_var 1) (pd_var 8) (fun _ _ => rfl) (fun _ _ => rfl))) (pdo_some (pd_op op_addX gAdd_ok (pd_sub (hu_of hr) (pd_var 1) (pd_var 8) (fun _ _ => rfl) (fun _ _ => rfl)) pd_int))) (pd_tup (pda_cons (pd_sub (hu_of hr) (pd_var 7) pd_int (fun _ _ => rfl) (fun _ _ => rfl)) pda_nil)) (nomark _))
  (pssd_cons (psd_augAt (hu_of hr) (pd_var 1) (pd_var 8) pd_int ip_add gAddI_ok)
  (pssd_one (psd_if (pdt_cmp op_ltX gLtL_ok (pd_sub (hu_of hr) (pd_var 1) (pd_var 8) (fun _ _ => rfl) (fun _ _ => rfl)) (pd_callB call_lenX gLen_ok (by rfl) m_len PySem.boot_len (pda_cons (pd_var 4) pda_nil)) (nomark _))
  (pssd_one (psd_augAt (hu_of hr) (pd_var 3) (pd_sub (hu_of hr) (pd_var 4) (pd_sub (hu_of hr) (pd_var 1) (pd_var 8) (fun _ _ => rfl) (fun _ _ => rfl)) (fun _ _ => rfl) (fun _ _ => rfl)) pd_int ip_sub gSubI_ok))
  pssd_nil)))
  pssd_nil)))))))))))))
noncomputable def F_merge_of : FF := fun ds A => finR A (b_merge_of (startD 10 ds) A)
theorem o_merge_of (m_len : mg "len" = none) (m_zip : mg "zip" = none) (m_tuple : mg "tuple" = none) (m_enumerate : mg "enumerate" = none) {f : Addr} {fd : FuncData} (Fn : Fun K "merge_of" "merge_of" s_merge_of f fd) : FnG P w K mg base 3 f fd ["tuples"] (spD K ct 1 F_merge_of) := okD Fn sc_merge_of (d_merge_of m_len m_zip m_tuple m_enumerate f) fun ds A _ h => finR_ok h

abbrev s_merged : Stmt := topS 16
theorem sc_merged : FnScope ["tuples", "found", "steps"] ["tuples"] (defScope s_merged) := ⟨rfl, rfl, rfl, by decide +kernel, rfl, by decide +kernel, by decide +kernel⟩
noncomputable def b_merged : SF := (sSeq (sEx (eArgs (fun ds A => F_check_tuples (ds ++ []) A) (aCons (eVar 0) aNil)))
  (sSeq (sAsg (eArgs (fun ds A => F_merge_of (ds ++ []) A) (aCons (eVar 0) aNil)) (gTpl [(gNm 1), (gNm 2)]))
  (sSeq (sIf (tCmpD gIsN (eVar 1) (eC .non))
  (fun _ _ => .stk)
  sNx)
  (sRet (eVar 1)))))
theorem d_merged (c_check_tuples : Cal P w K mg base ct 3 "check_tuples" 1 [] F_check_tuples) (c_merge_of : Cal P w K mg base ct 3 "merge_of" 1 [] F_merge_of) (f : Addr) :
    ∀ (cdv : Value) (A : Around) (outer : List PySem.Env) (s : Shared) (H : Hp) (E : XK), A.guards = some [] → Room 3 (A.deeper (envOfC "merged" (defScope s_merged) s.heap.objs.size f cdv)) → PSsD (cxD P w K mg base ["tuples", "found", "steps"] "merged" s_merged f cdv A outer s H E) ct (WD E) (defBody s_merged) b_merged := by
  intro cdv A outer s H E hg hr
  have tk : Takes (cxD P w K mg base ["tuples", "found", "steps"] "merged" s_merged f cdv A outer s H E) (WD E) := takes_of rfl rfl rfl rfl
  have hp : PassesOwn (model (cxD P w K mg base ["tuples", "found", "steps"] "merged" s_merged f cdv A outer s H E).prog (cxD P w K mg base ["tuples", "found", "steps"] "merged" s_merged f cdv A outer s H E).w) (cxD P w K mg base ["tuples", "found", "steps"] "merged" s_merged f cdv A outer s H E).A (cxD P w K mg base ["tuples", "found", "steps"] "merged" s_merged f cdv A outer s H E).env (cxD P w K mg base ["tuples", "found", "steps"] "merged" s_merged f cdv A outer s H E).xe := passes_of rfl
  exact (pssd_cons (psd_expr (pd_call c_check_tuples hg hr (by decide) (by rfl) tk (pda_cons (pd_var 0) pda_nil) (ar_cons ar_nil) rfl))
  (pssd_cons (psd_asg (pd_call c_merge_of hg hr (by decide) (by rfl) tk (pda_cons (pd_var 0) pda_nil) (ar_cons ar_nil) rfl) (pgd_tup rfl (pgsd_cons (pgd_name (i := 1) sc_merged.nd rfl (Or.inl rfl)) (pgsd_cons (pgd_name (i := 2) sc_merged.nd rfl (Or.inl rfl)) pgsd_nil))))
  (pssd_cons (psd_if (pdt_cmp op_isN gIsN_ok (pd_var 1) pd_non (nomark _))
  (pssd_one psd_stk)
  pssd_nil)
  (pssd_one (psd_ret (pd_var 1))))))
noncomputable def F_merged : FF := fun ds A => finR A (b_merged (startD 3 ds) A)
theorem o_merged (c_check_tuples : Cal P w K mg base ct 3 "check_tuples" 1 [] F_check_tuples) (c_merge_of : Cal P w K mg base ct 3 "merge_of" 1 [] F_merge_of) {f : Addr} {fd : FuncData} (Fn : Fun K "merged" "merged" s_merged f fd) (hb : ∀ us : List Value, bindArgs fd ⟨us, []⟩ = (newTuple us >>= fun t => pure [(("tuples" : Str), t)])) : FnS P w K mg base 4 f (spS K ct F_merged) := okDS Fn sc_merged hb (d_merged c_check_tuples c_merge_of f) fun ds A _ h => finR_ok h

abbrev s__law_source : Stmt := topS 18
theorem sc__law_source : FnScope ["_law_script", "_law_k", "_law_cell"] ["_law_script", "_law_k"] (defScope s__law_source) := ⟨rfl, rfl, rfl, by decide +kernel, rfl, by decide +kernel, by decide +kernel⟩
noncomputable def b__law_source : SF := (sSeq (sAsg (eIf (tCmpD gNe (eVar 0) (eArgs gLstD aNil)) (eBin gSubD (eVar 0) (eBin gMod (eVar 1) (eArgs gLen (aCons (eVar 0) aNil)))) (eC (.int 1))) (gNm 2))
  (sRet (eArgs gLstM (aCons (eVar 2) (aCons (eBin gMul (eC (.int 3)) (eVar 1)) (aCons (eIf (tCmpD gGe (eVar 2) (eBin gPow (eC (.int 10)) (eC (.int 18)))) (eBin gDiv (eVar 2) (eBin gPow (eC (.int 10)) (eC (.int 18)))) (eC (.int 0))) aNil))))))
theorem d__law_source (m_len : mg "len" = none) (f : Addr) :
    ∀ (cdv : Value) (A : Around) (outer : List PySem.Env) (s : Shared) (H : Hp) (E : XK), A.guards = some [] → Room 0 (A.deeper (envOfC "_law_source" (defScope s__law_source) s.heap.objs.size f cdv)) → PSsD (cxD P w K mg base ["_law_script", "_law_k", "_law_cell"] "_law_source" s__law_source f cdv A outer s H E) ct (WD E) (defBody s__law_source) b__law_source := by
  intro cdv A outer s H E hg hr
  have tk : Takes (cxD P w K mg base ["_law_script", "_law_k", "_law_cell"] "_law_source" s__law_source f cdv A outer s H E) (WD E) := takes_of rfl rfl rfl rfl
  have hp : PassesOwn (model (cxD P w K mg base ["_law_script", "_law_k", "_law_cell"] "_law_source" s__law_source f cdv A outer s H E).prog (cxD P w K mg base ["_law_script", "_law_k", "_law_cell"] "_law_source" s__law_source f cdv A outer s H E).w) (cxD P w K mg base ["_law_script", "_law_k", "_law_cell"] "_law_source" s__law_source f cdv A outer s H E).A (cxD P w K mg base ["_law_script", "_law_k", "_law_cell"] "_law_source" s__law_source f cdv A outer s H E).env (cxD P w K mg base ["_law_script", "_law_k", "_law_cell"] "_law_source" s__law_source f cdv A outer s H E).xe := passes_of rfl
  exact (pssd_cons (psd_set (i := 2) sc__law_source.nd rfl (Or.inl rfl) (pd_if (pdt_cmp (op_neX hr.units) gNe_ok (pd_var 0) (pd_lst pda_nil) (nomark _)) (pd_sub (hu_of hr) (pd_var 0) (pd_op op_mod gMod_ok (pd_var 1) (pd_callB call_lenX gLen_ok (by rfl) m_len PySem.boot_len (pda_cons (pd_var 0) pda_nil))) (fun _ _ => rfl) (fun _ _ => rfl)) pd_int))
  (pssd_one (psd_ret (pd_lstM (pda_cons (pd_var 2) (pda_cons (pd_op op_mulX gMul_ok pd_int (pd_var 1)) (pda_cons (pd_if (pdt_cmp op_geX gLtL_ok (pd_var 2) (pd_op op_pow gPow_ok pd_int pd_int) (nomark _)) (pd_op op_fdivW gDiv_ok (pd_var 2) (pd_op op_pow gPow_ok pd_int pd_int)) pd_int) pda_nil)))))))
noncomputable def F__law_source : FF := fun ds A => finK (b__law_source (startD 3 ds) A)
theorem o__law_source (m_len : mg "len" = none) {f : Addr} {fd : FuncData} (Fn : Fun K "_law_source" "_law_source" s__law_source f fd) : FnG P w K mg base 1 f fd ["_law_script", "_law_k"] (spD K ct 2 F__law_source) := okD Fn sc__law_source (d__law_source m_len f) fun ds A _ h => finK_ok h

abbrev s__law_next : Stmt := topS 19
theorem sc__law_next : FnScope ["_law_source_here", "_law_many", "_law_found", "_law_primes", "_law_prime"] ["_law_source_here", "_law_many"] (defScope s__law_next) := ⟨rfl, rfl, rfl, by decide +kernel, rfl, by decide +kernel, by decide +kernel⟩
noncomputable def b__law_next : SF := (sSeq (sIf (tCmpD gGt (eBin gSubD (eVar 0) (eC (.int 2))) (eC (.int 0)))
  (sSeq (sAsg (eBin gMod (eBin gSubD (eVar 0) (eC (.int 2))) (eVar 1)) (gNm 2))
  (sSeq (sAsg (eBin gDiv (eBin gSubD (eVar 0) (eC (.int 2))) (eVar 1)) (gAt (eVar 0) (eC (.int 2))))
  (sRet (eVar 2))))
  sNx)
  (sSeq (sAsg (eBin gAdd (eBin gSubD (eVar 0) (eC (.int 1))) (eC (.int 1))) (gAt (eVar 0) (eC (.int 1))))
  (sSeq (sAsg (eArgs gLstD (aCons (eC (.int 2147483647)) (aCons (eC (.int 2147483629)) (aCons (eC (.int 2147483587)) (aCons (eC (.int 2147483579)) (aCons (eC (.int 2147483563)) (aCons (eC (.int 2147483549)) (aCons (eC (.int 2147483543)) (aCons (eC (.int 2147483497)) aNil))))))))) (gNm 3))
  (sSeq (sAsg (eBin gSubD (eBin gAdd (eVar 3) (eArgs gLstD (aCons (eC (.int 2147483489)) (aCons (eC (.int 2147483477)) (aCons (eC (.int 2147483423)) aNil))))) (eBin gMod (eBin gSubD (eVar 0) (eC (.int 1))) (eC (.int 11)))) (gNm 4))
  (sRet (eBin gMod (eBin gDiv (eBin gMod (eBin gPow (eBin gAdd (eBin gAdd (eBin gMod (eBin gSubD (eVar 0) (eC (.int 0))) (eVar 4)) (eBin gMul (eC (.int 7919)) (eBin gSubD (eVar 0) (eC (.int 1))))) (eC (.int 1))) (eC (.int 5))) (eVar 4)) (eC (.int 13))) (eVar 1)))))))
theorem d__law_next  (f : Addr) :
    ∀ (cdv : Value) (A : Around) (outer : List PySem.Env) (s : Shared) (H : Hp) (E : XK), A.guards = some [] → Room 0 (A.deeper (envOfC "_law_next" (defScope s__law_next) s.heap.objs.size f cdv)) → PSsD (cxD P w K mg base ["_law_source_here", "_law_many", "_law_found", "_law_primes", "_law_prime"] "_law_next" s__law_next f cdv A outer s H E) ct (WD E) (defBody s__law_next) b__law_next := by
  intro cdv A outer s H E hg hr
  have tk : Takes (cxD P w K mg base ["_law_source_here", "_law_many", "_law_found", "_law_primes", "_law_prime"] "_law_next" s__law_next f cdv A outer s H E) (WD E) := takes_of rfl rfl rfl rfl
  have hp : PassesOwn (model (cxD P w K mg base ["_law_source_here", "_law_many", "_law_found", "_law_primes", "_law_prime"] "_law_next" s__law_next f cdv A outer s H E).prog (cxD P w K mg base ["_law_source_here", "_law_many", "_law_found", "_law_primes", "_law_prime"] "_law_next" s__law_next f cdv A outer s H E).w) (cxD P w K mg base ["_law_source_here", "_law_many", "_law_found", "_law_primes", "_law_prime"] "_law_next" s__law_next f cdv A outer s H E).A (cxD P w K mg base ["_law_source_here", "_law_many", "_law_found", "_law_primes", "_law_prime"] "_law_next" s__law_next f cdv A outer s H E).env (cxD P w K mg base ["_law_source_here", "_law_many", "_law_found", "_law_primes", "_law_prime"] "_law_next" s__law_next f cdv A outer s H E).xe := passes_of rfl
  exact (pssd_cons (psd_if (pdt_cmp op_gtX gLtL_ok (pd_sub (hu_of hr) (pd_var 0) pd_int (fun _ _ => rfl) (fun _ _ => rfl)) pd_int (nomark _))
  (pssd_cons (psd_set (i := 2) sc__law_next.nd rfl (Or.inl rfl) (pd_op op_mod gMod_ok (pd_sub (hu_of hr) (pd_var 0) pd_int (fun _ _ => rfl) (fun _ _ => rfl)) (pd_var 1)))
  (pssd_cons (psd_asg (pd_op op_fdivW gDiv_ok (pd_sub (hu_of hr) (pd_var 0) pd_int (fun _ _ => rfl) (fun _ _ => rfl)) (pd_var 1)) (pgd_at (pd_var 0) pd_int (hu_of hr)))
  (pssd_one (psd_ret (pd_var 2)))))
  pssd_nil)
  (pssd_cons (psd_asg (pd_op op_addX gAdd_ok (pd_sub (hu_of hr) (pd_var 0) pd_int (fun _ _ => rfl) (fun _ _ => rfl)) pd_int) (pgd_at (pd_var 0) pd_int (hu_of hr)))
  (pssd_cons (psd_set (i := 3) sc__law_next.nd rfl (Or.inl rfl) (pd_lst (pda_cons pd_int (pda_cons pd_int (pda_cons pd_int (pda_cons pd_int (pda_cons pd_int (pda_cons pd_int (pda_cons pd_int (pda_cons pd_int pda_nil))))))))))
  (pssd_cons (psd_set (i := 4) sc__law_next.nd rfl (Or.inl rfl) (pd_sub (hu_of hr) (pd_op op_addX gAdd_ok (pd_var 3) (pd_lst (pda_cons pd_int (pda_cons pd_int (pda_cons pd_int pda_nil))))) (pd_op op_mod gMod_ok (pd_sub (hu_of hr) (pd_var 0) pd_int (fun _ _ => rfl) (fun _ _ => rfl)) pd_int) (fun _ _ => rfl) (fun _ _ => rfl)))
  (pssd_one (psd_ret (pd_op op_mod gMod_ok (pd_op op_fdivW gDiv_ok (pd_op op_mod gMod_ok (pd_op op_pow gPow_ok (pd_op op_addX gAdd_ok (pd_op op_addX gAdd_ok (pd_op op_mod gMod_ok (pd_sub (hu_of hr) (pd_var 0) pd_int (fun _ _ => rfl) (fun _ _ => rfl)) (pd_var 4)) (pd_op op_mulX gMul_ok pd_int (pd_sub (hu_of hr) (pd_var 0) pd_int (fun _ _ => rfl) (fun _ _ => rfl)))) pd_int) pd_int) (pd_var 4)) pd_int) (pd_var 1))))))))
noncomputable def F__law_next : FF := fun ds A => finR A (b__law_next (startD 5 ds) A)
theorem o__law_next  {f : Addr} {fd : FuncData} (Fn : Fun K "_law_next" "_law_next" s__law_next f fd) : FnG P w K mg base 1 f fd ["_law_source_here", "_law_many"] (spD K ct 2 F__law_next) := okD Fn sc__law_next (d__law_next  f) fun ds A _ h => finR_ok h

abbrev s__law_mixed : Stmt := topS 20
theorem sc__law_mixed : FnScope ["_law_source_here", "_law_items", "_law_rest", "_law_found"] ["_law_source_here", "_law_items"] (defScope s__law_mixed) := ⟨rfl, rfl, rfl, by decide +kernel, rfl, by decide +kernel, by decide +kernel⟩
noncomputable def b__law_mixed : SF := (sSeq (sPar (aCons (eArgs gListM (aCons (eVar 1) aNil)) (aCons (eArgs gLstM aNil) aNil)) [2, 3])
  (sSeq (whileD (tCmpD gNe (eVar 2) (eArgs gLstD aNil))
  (sEx (eMeth isL gAppend (eVar 3) (aCons (eMeth isL gPopAt (eVar 2) (aCons (eArgs (fun ds A => F__law_next (ds ++ []) A) (aCons (eVar 0) (aCons (eArgs gLen (aCons (eVar 2) aNil)) aNil))) aNil)) aNil))) 200)
  (sRet (eVar 3))))
theorem d__law_mixed (c__law_next : Cal P w K mg base ct 1 "_law_next" 2 [] F__law_next) (m_list : mg "list" = none) (m_len : mg "len" = none) (f : Addr) :
    ∀ (cdv : Value) (A : Around) (outer : List PySem.Env) (s : Shared) (H : Hp) (E : XK), A.guards = some [] → Room 1 (A.deeper (envOfC "_law_mixed" (defScope s__law_mixed) s.heap.objs.size f cdv)) → PSsD (cxD P w K mg base ["_law_source_here", "_law_items", "_law_rest", "_law_found"] "_law_mixed" s__law_mixed f cdv A outer s H E) ct (WD E) (defBody s__law_mixed) b__law_mixed := by
  intro cdv A outer s H E hg hr
  have tk : Takes (cxD P w K mg base ["_law_source_here", "_law_items", "_law_rest", "_law_found"] "_law_mixed" s__law_mixed f cdv A outer s H E) (WD E) := takes_of rfl rfl rfl rfl
  have hp : PassesOwn (model (cxD P w K mg base ["_law_source_here", "_law_items", "_law_rest", "_law_found"] "_law_mixed" s__law_mixed f cdv A outer s H E).prog (cxD P w K mg base ["_law_source_here", "_law_items", "_law_rest", "_law_found"] "_law_mixed" s__law_mixed f cdv A outer s H E).w) (cxD P w K mg base ["_law_source_here", "_law_items", "_law_rest", "_law_found"] "_law_mixed" s__law_mixed f cdv A outer s H E).A (cxD P w K mg base ["_law_source_here", "_law_items", "_law_rest", "_law_found"] "_law_mixed" s__law_mixed f cdv A outer s H E).env (cxD P w K mg base ["_law_source_here", "_law_items", "_law_rest", "_law_found"] "_law_mixed" s__law_mixed f cdv A outer s H E).xe := passes_of rfl
  exact (pssd_cons (psd_par (i := 2) (j := 3) rfl sc__law_mixed.nd rfl rfl (by decide) rfl rfl (pda_cons (pd_callTy call_list_of gListM_ok (by rfl) m_list (by decide +kernel) (pda_cons (pd_var 1) pda_nil)) (pda_cons (pd_lstM pda_nil) pda_nil)) rfl)
  (pssd_cons (psd_while 200 hp (pdt_cmp (op_neX hr.units) gNe_ok (pd_var 2) (pd_lst pda_nil) (nomark _))
  (pssd_one (psd_expr (pd_meth PySem.F.plainAttrs_list PySem.F.slot_list_append PySem.F.type_list_append mt_append gAppend_ok isL_ok (pd_var 3) (pda_cons (pd_meth PySem.F.plainAttrs_list PySem.F.slot_list_pop PySem.F.type_list_pop mt_popAt gPopAt_ok isL_ok (pd_var 2) (pda_cons (pd_call c__law_next hg hr (by decide) (by rfl) tk (pda_cons (pd_var 0) (pda_cons (pd_callB call_lenX gLen_ok (by rfl) m_len PySem.boot_len (pda_cons (pd_var 2) pda_nil)) pda_nil)) (ar_cons (ar_cons ar_nil)) rfl) pda_nil)) pda_nil)))))
  (pssd_one (psd_ret (pd_var 3)))))
noncomputable def F__law_mixed : FF := fun ds A => finR A (b__law_mixed (startD 4 ds) A)
theorem o__law_mixed (c__law_next : Cal P w K mg base ct 1 "_law_next" 2 [] F__law_next) (m_list : mg "list" = none) (m_len : mg "len" = none) {f : Addr} {fd : FuncData} (Fn : Fun K "_law_mixed" "_law_mixed" s__law_mixed f fd) : FnG P w K mg base 2 f fd ["_law_source_here", "_law_items"] (spD K ct 2 F__law_mixed) := okD Fn sc__law_mixed (d__law_mixed c__law_next m_list m_len f) fun ds A _ h => finR_ok h

abbrev s__law_name_rows : Stmt := topS 21
theorem sc__law_name_rows : FnScope ["_law_source_here", "_law_many", "_law_most", "_law_is_free", "_law_whole", "_law_found", "_law_turn", "_law_some", "_law_item"] ["_law_source_here", "_law_many", "_law_most", "_law_is_free"] (defScope s__law_name_rows) := ⟨rfl, rfl, rfl, by decide +kernel, rfl, by decide +kernel, by decide +kernel⟩
noncomputable def b__law_name_rows : SF := (sSeq (sPar (aCons (eCut (eArgs (fun ds A => F__law_mixed (ds ++ []) A) (aCons (eVar 0) (aCons (eArgs gLstD (aCons (eC (.str "a")) (aCons (eC (.str "b")) (aCons (eC (.str "c")) (aCons (eC (.str "d")) (aCons (eC (.str "node")) (aCons (eC (.str "f")) (aCons (eC (.str "box")) (aCons (eC (.str "h")) aNil))))))))) aNil))) oNone (oSome (eVar 2))) (aCons (eArgs gLstM aNil) aNil)) [4, 5])
  (sSeq (sFor (iRange1 (aCons (eVar 1) aNil)) (gNm 6)
  (sSeq (sAsg (eIf (tOrD (tNotD (tOfE (eVar 3))) (tCmpD gEq (eArgs (fun ds A => F__law_next (ds ++ []) A) (aCons (eVar 0) (aCons (eC (.int 2)) aNil))) (eC (.int 0)))) (eVar 4) (eArgs (fun ds A => F__law_mixed (ds ++ []) A) (aCons (eVar 0) (aCons (eVar 4) aNil)))) (gNm 7))
  (sEx (eMeth isL gAppend (eVar 5) (aCons (eArgs gTuple (aCons (eComp (iSeq (eVar 7)) (.one 8) [8] (tCmpD gGt (eArgs (fun ds A => F__law_next (ds ++ []) A) (aCons (eVar 0) (aCons (eC (.int 3)) aNil))) (eC (.int 0))) (eVar 8)) aNil)) aNil)))))
  (sRet (eVar 5))))
theorem d__law_name_rows (c__law_mixed : Cal P w K mg base ct 2 "_law_mixed" 2 [] F__law_mixed) (c__law_next : Cal P w K mg base ct 1 "_law_next" 2 [] F__law_next) (m_range : mg "range" = none) (m_tuple : mg "tuple" = none) (f : Addr) :
    ∀ (cdv : Value) (A : Around) (outer : List PySem.Env) (s : Shared) (H : Hp) (E : XK), A.guards = some [] → Room 2 (A.deeper (envOfC "_law_name_rows" (defScope s__law_name_rows) s.heap.objs.size f cdv)) → PSsD (cxD P w K mg base ["_law_source_here", "_law_many", "_law_most", "_law_is_free", "_law_whole", "_law_found", "_law_turn", "_law_some", "_law_item"] "_law_name_rows" s__law_name_rows f cdv A outer s H E) ct (WD E) (defBody s__law_name_rows) b__law_name_rows := by
  intro cdv A outer s H E hg hr
  have tk : Takes (cxD P w K mg base ["_law_source_here", "_law_many", "_law_most", "_law_is_free", "_law_whole", "_law_found", "_law_turn", "_law_some", "_law_item"] "_law_name_rows" s__law_name_rows f cdv A outer s H E) (WD E) := takes_of rfl rfl rfl rfl
  have hp : PassesOwn (model (cxD P w K mg base ["_law_source_here", "_law_many", "_law_most", "_law_is_free", "_law_whole", "_law_found", "_law_turn", "_law_some", "_law_item"] "_law_name_rows" s__law_name_rows f cdv A outer s H E).prog (cxD P w K mg base ["_law_source_here", "_law_many", "_law_most", "_law_is_free", "_law_whole", "_law_found", "_law_turn", "_law_some", "_law_item"] "_law_name_rows" s__law_name_rows f cdv A outer s H E).w) (cxD P w K mg base ["_law_source_here", "_law_many", "_law_most", "_law_is_free", "_law_whole", "_law_found", "_law_turn", "_law_some", "_law_item"] "_law_name_rows" s__law_name_rows f cdv A outer s H E).A (cxD P w K mg base ["_law_source_here", "_law_many", "_law_most", "_law_is_free", "_law_whole", "_law_found", "_law_turn", "_law_some", "_law_item"] "_law_name_rows" s__law_name_rows f cdv A outer s H E).env (cxD P w K mg base ["_law_source_here", "_law_many", "_law_most", "_law_is_free", "_law_whole", "_law_found", "_law_turn", "_law_some", "_law_item"] "_law_name_rows" s__law_name_rows f cdv A outer s H E).xe := passes_of rfl
  exact (pssd_cons (psd_par (i := 4) (j := 5) rfl sc__law_name_rows.nd rfl rfl (by decide) rfl rfl (pda_cons (pd_cut (pd_call c__law_mixed hg hr (by decide) (by rfl) tk (pda_cons (pd_var 0) (pda_cons (pd_lst (pda_cons pd_str (pda_cons pd_str (pda_cons pd_str (pda_cons pd_str (pda_cons pd_str (pda_cons pd_str (pda_cons pd_str (pda_cons pd_str pda_nil))))))))) pda_nil)) (ar_cons (ar_cons ar_nil)) rfl) pdo_none (pdo_some (pd_var 2))) (pda_cons (pd_lstM pda_nil) pda_nil)) rfl)
  (pssd_cons (psd_for hp rfl (pid_range1 (by rfl) m_range (pda_cons (pd_var 1) pda_nil)) (pgd_name (i := 6) sc__law_name_rows.nd rfl (Or.inl rfl))
  (pssd_cons (psd_set (i := 7) sc__law_name_rows.nd rfl (Or.inl rfl) (pd_if (pdw_t (pdw_or (pdt_not (pdt_truth (pd_var 3))) (pdw_or1 (pdt_cmp (op_eqX hr.units) gEq_ok (pd_call c__law_next hg hr (by decide) (by rfl) tk (pda_cons (pd_var 0) (pda_cons pd_int pda_nil)) (ar_cons (ar_cons ar_nil)) rfl) pd_int (nomark _))))) (pd_var 4) (pd_call c__law_mixed hg hr (by decide) (by rfl) tk (pda_cons (pd_var 0) (pda_cons (pd_var 4) pda_nil)) (ar_cons (ar_cons ar_nil)) rfl)))
  (pssd_one (psd_expr (pd_meth PySem.F.plainAttrs_list PySem.F.slot_list_append PySem.F.type_list_append mt_append gAppend_ok isL_ok (pd_var 5) (pda_cons (pd_callTy call_tupleF gTuple_ok (by rfl) m_tuple (by decide +kernel) (pda_cons (pd_comp (own := [("_law_item", 8)]) rfl sc__law_name_rows.nd (pid_seq (pd_var 7)) (blkOk_by (N := ["_law_source_here", "_law_many", "_law_most", "_law_is_free", "_law_whole", "_law_found", "_law_turn", "_law_some", "_law_item"]) (sc := (defScope s__law_name_rows)) (by decide +kernel)) (by decide) (fun _ _ _ _ _ => pg_name (i := 8) sc__law_name_rows.nd rfl (Or.inl rfl)) (fun _ _ _ _ _ => (ptsd_one (pdt_cmp op_gtX gLtL_ok (pd_call c__law_next hg hr (by decide) (by rfl) takes0 (pda_cons (pd_var 0) (pda_cons pd_int pda_nil)) (ar_cons (ar_cons ar_nil)) rfl) pd_int (nomark _)))) (fun _ _ _ _ _ => (pd_var 8))) pda_nil)) pda_nil))))))
  (pssd_one (psd_ret (pd_var 5)))))
noncomputable def F__law_name_rows : FF := fun ds A => finR A (b__law_name_rows (startD 9 ds) A)
theorem o__law_name_rows (c__law_mixed : Cal P w K mg base ct 2 "_law_mixed" 2 [] F__law_mixed) (c__law_next : Cal P w K mg base ct 1 "_law_next" 2 [] F__law_next) (m_range : mg "range" = none) (m_tuple : mg "tuple" = none) {f : Addr} {fd : FuncData} (Fn : Fun K "_law_name_rows" "_law_name_rows" s__law_name_rows f fd) : FnG P w K mg base 3 f fd ["_law_source_here", "_law_many", "_law_most", "_law_is_free"] (spD K ct 4 F__law_name_rows) := okD Fn sc__law_name_rows (d__law_name_rows c__law_mixed c__law_next m_range m_tuple f) fun ds A _ h => finR_ok h

abbrev s__law_merged_by : Stmt := topS 22
theorem sc__law_merged_by : FnScope ["_law_rows"] ["_law_rows"] (defScope s__law_merged_by) := ⟨rfl, rfl, rfl, by decide +kernel, rfl, by decide +kernel, by decide +kernel⟩
noncomputable def b__law_merged_by : SF := (sSeq (sIf (tCmpD gLt (eArgs gLen (aCons (eVar 0) aNil)) (eC (.int 2)))
  (sRet (eIf (tCmpD gNe (eVar 0) (eArgs gLstD aNil)) (eArgs (fun ds A => starF F_merged ds A) (aCons (eBin gSubD (eVar 0) (eC (.int 0))) aNil)) (fun _ A => starF F_merged [] A)))
  sNx)
  (sSeq (sIf (tCmpD gEq (eArgs gLen (aCons (eVar 0) aNil)) (eC (.int 2)))
  (sRet (eArgs (fun ds A => starF F_merged ds A) (aCons (eBin gSubD (eVar 0) (eC (.int 0))) (aCons (eBin gSubD (eVar 0) (eC (.int 1))) aNil))))
  sNx)
  (sSeq (sIf (tCmpD gEq (eArgs gLen (aCons (eVar 0) aNil)) (eC (.int 3)))
  (sRet (eArgs (fun ds A => starF F_merged ds A) (aCons (eBin gSubD (eVar 0) (eC (.int 0))) (aCons (eBin gSubD (eVar 0) (eC (.int 1))) (aCons (eBin gSubD (eVar 0) (eC (.int 2))) aNil)))))
  sNx)
  (sSeq (sIf (tCmpD gEq (eArgs gLen (aCons (eVar 0) aNil)) (eC (.int 4)))
  (sRet (eArgs (fun ds A => starF F_merged ds A) (aCons (eBin gSubD (eVar 0) (eC (.int 0))) (aCons (eBin gSubD (eVar 0) (eC (.int 1))) (aCons (eBin gSubD (eVar 0) (eC (.int 2))) (aCons (eBin gSubD (eVar 0) (eC (.int 3))) aNil))))))
  sNx)
  (sRet (eArgs (fun ds A => starF F_merged ds A) (aCons (eBin gSubD (eVar 0) (eC (.int 0))) (aCons (eBin gSubD (eVar 0) (eC (.int 1))) (aCons (eBin gSubD (eVar 0) (eC (.int 2))) (aCons (eBin gSubD (eVar 0) (eC (.int 3))) (aCons (eBin gSubD (eVar 0) (eC (.int 4))) aNil)))))))))))
theorem d__law_merged_by (c_merged : CalS P w K mg base ct 4 "merged" F_merged) (m_len : mg "len" = none) (f : Addr) :
    ∀ (cdv : Value) (A : Around) (outer : List PySem.Env) (s : Shared) (H : Hp) (E : XK), A.guards = some [] → Room 4 (A.deeper (envOfC "_law_merged_by" (defScope s__law_merged_by) s.heap.objs.size f cdv)) → PSsD (cxD P w K mg base ["_law_rows"] "_law_merged_by" s__law_merged_by f cdv A outer s H E) ct (WD E) (defBody s__law_merged_by) b__law_merged_by := by
  intro cdv A outer s H E hg hr
  have tk : Takes (cxD P w K mg base ["_law_rows"] "_law_merged_by" s__law_merged_by f cdv A outer s H E) (WD E) := takes_of rfl rfl rfl rfl
  have hp : PassesOwn (model (cxD P w K mg base ["_law_rows"] "_law_merged_by" s__law_merged_by f cdv A outer s H E).prog (cxD P w K mg base ["_law_rows"] "_law_merged_by" s__law_merged_by f cdv A outer s H E).w) (cxD P w K mg base ["_law_rows"] "_law_merged_by" s__law_merged_by f cdv A outer s H E).A (cxD P w K mg base ["_law_rows"] "_law_merged_by" s__law_merged_by f cdv A outer s H E).env (cxD P w K mg base ["_law_rows"] "_law_merged_by" s__law_merged_by f cdv A outer s H E).xe := passes_of rfl
  exact (pssd_cons (psd_if (pdt_cmp op_ltX gLtL_ok (pd_callB call_lenX gLen_ok (by rfl) m_len PySem.boot_len (pda_cons (pd_var 0) pda_nil)) pd_int (nomark _))
  (pssd_one (psd_ret (pd_if (pdt_cmp (op_neX hr.units) gNe_ok (pd_var 0) (pd_lst pda_nil) (nomark _)) (pd_callS c_merged hg hr (by decide) (by rfl) tk (pda_cons (pd_sub (hu_of hr) (pd_var 0) pd_int (fun _ _ => rfl) (fun _ _ => rfl)) pda_nil)) (pd_callS0 c_merged hg hr (by decide) (by rfl) tk))))
  pssd_nil)
  (pssd_cons (psd_if (pdt_cmp (op_eqX hr.units) gEq_ok (pd_callB call_lenX gLen_ok (by rfl) m_len PySem.boot_len (pda_cons (pd_var 0) pda_nil)) pd_int (nomark _))
  (pssd_one (psd_ret (pd_callS c_merged hg hr (by decide) (by rfl) tk (pda_cons (pd_sub (hu_of hr) (pd_var 0) pd_int (fun _ _ => rfl) (fun _ _ => rfl)) (pda_cons (pd_sub (hu_of hr) (pd_var 0) pd_int (fun _ _ => rfl) (fun _ _ => rfl)) pda_nil)))))
  pssd_nil)
  (pssd_cons (psd_if (pdt_cmp (op_eqX hr.units) gEq_ok (pd_callB call_lenX gLen_ok (by rfl) m_len PySem.boot_len (pda_cons (pd_var 0) pda_nil)) pd_int (nomark _))
  (pssd_one (psd_ret (pd_callS c_merged hg hr (by decide) (by rfl) tk (pda_cons (pd_sub (hu_of hr) (pd_var 0) pd_int (fun _ _ => rfl) (fun _ _ => rfl)) (pda_cons (pd_sub (hu_of hr) (pd_var 0) pd_int (fun _ _ => rfl) (fun _ _ => rfl)) (pda_cons (pd_sub (hu_of hr) (pd_var 0) pd_int (fun _ _ => rfl) (fun _ _ => rfl)) pda_nil))))))
  pssd_nil)
  (pssd_cons (psd_if (pdt_cmp (op_eqX hr.units) gEq_ok (pd_callB call_lenX gLen_ok (by rfl) m_len PySem.boot_len (pda_cons (pd_var 0) pda_nil)) pd_int (nomark _))
  (pssd_one (psd_ret (pd_callS c_merged hg hr (by decide) (by rfl) tk (pda_cons (pd_sub (hu_of hr) (pd_var 0) pd_int (fun _ _ => rfl) (fun _ _ => rfl)) (pda_cons (pd_sub (hu_of hr) (pd_var 0) pd_int (fun _ _ => rfl) (fun _ _ => rfl)) (pda_cons (pd_sub (hu_of hr) (pd_var 0) pd_int (fun _ _ => rfl) (fun _ _ => rfl)) (pda_cons (pd_sub (hu_of hr) (pd_var 0) pd_int (fun _ _ => rfl) (fun _ _ => rfl)) pda_nil)))))))
  pssd_nil)
  (pssd_one (psd_ret (pd_callS c_merged hg hr (by decide) (by rfl) tk (pda_cons (pd_sub (hu_of hr) (pd_var 0) pd_int (fun _ _ => rfl) (fun _ _ => rfl)) (pda_cons (pd_sub (hu_of hr) (pd_var 0) pd_int (fun _ _ => rfl) (fun _ _ => rfl)) (pda_cons (pd_sub (hu_of hr) (pd_var 0) pd_int (fun _ _ => rfl) (fun _ _ => rfl)) (pda_cons (pd_sub (hu_of hr) (pd_var 0) pd_int (fun _ _ => rfl) (fun _ _ => rfl)) (pda_cons (pd_sub (hu_of hr) (pd_var 0) pd_int (fun _ _ => rfl) (fun _ _ => rfl)) pda_nil))))))))))))
noncomputable def F__law_merged_by : FF := fun ds A => finR A (b__law_merged_by (startD 1 ds) A)
theorem o__law_merged_by (c_merged : CalS P w K mg base ct 4 "merged" F_merged) (m_len : mg "len" = none) {f : Addr} {fd : FuncData} (Fn : Fun K "_law_merged_by" "_law_merged_by" s__law_merged_by f fd) : FnG P w K mg base 5 f fd ["_law_rows"] (spD K ct 1 F__law_merged_by) := okD Fn sc__law_merged_by (d__law_merged_by c_merged m_len f) fun ds A _ h => finR_ok h

abbrev s__law_named_anew : Stmt := topS 23
theorem sc__law_named_anew : FnScope ["_law_row", "_law_item"] ["_law_row"] (defScope s__law_named_anew) := ⟨rfl, rfl, rfl, by decide +kernel, rfl, by decide +kernel, by decide +kernel⟩
noncomputable def b__law_named_anew : SF := (sRet (eArgs gTuple (aCons (eComp (iSeq (eVar 0)) (.one 1) [1] ttYes (eIf (tCmpD gLt (eArgs gLen (aCons (eVar 1) aNil)) (eC (.int 8))) (eBin gAdd (eVar 1) (eC (.str "x"))) (eC (.str "y")))) aNil)))
theorem d__law_named_anew (m_tuple : mg "tuple" = none) (m_len : mg "len" = none) (f : Addr) :
    ∀ (cdv : Value) (A : Around) (outer : List PySem.Env) (s : Shared) (H : Hp) (E : XK), A.guards = some [] → Room 0 (A.deeper (envOfC "_law_named_anew" (defScope s__law_named_anew) s.heap.objs.size f cdv)) → PSsD (cxD P w K mg base ["_law_row", "_law_item"] "_law_named_anew" s__law_named_anew f cdv A outer s H E) ct (WD E) (defBody s__law_named_anew) b__law_named_anew := by
  intro cdv A outer s H E hg hr
  have tk : Takes (cxD P w K mg base ["_law_row", "_law_item"] "_law_named_anew" s__law_named_anew f cdv A outer s H E) (WD E) := takes_of rfl rfl rfl rfl
  have hp : PassesOwn (model (cxD P w K mg base ["_law_row", "_law_item"] "_law_named_anew" s__law_named_anew f cdv A outer s H E).prog (cxD P w K mg base ["_law_row", "_law_item"] "_law_named_anew" s__law_named_anew f cdv A outer s H E).w) (cxD P w K mg base ["_law_row", "_law_item"] "_law_named_anew" s__law_named_anew f cdv A outer s H E).A (cxD P w K mg base ["_law_row", "_law_item"] "_law_named_anew" s__law_named_anew f cdv A outer s H E).env (cxD P w K mg base ["_law_row", "_law_item"] "_law_named_anew" s__law_named_anew f cdv A outer s H E).xe := passes_of rfl
  exact (pssd_one (psd_ret (pd_callTy call_tupleF gTuple_ok (by rfl) m_tuple (by decide +kernel) (pda_cons (pd_comp (own := [("_law_item", 1)]) rfl sc__law_named_anew.nd (pid_seq (pd_var 0)) (blkOk_by (N := ["_law_row", "_law_item"]) (sc := (defScope s__law_named_anew)) (by decide +kernel)) (by decide) (fun _ _ _ _ _ => pg_name (i := 1) sc__law_named_anew.nd rfl (Or.inl rfl)) (fun _ _ _ _ _ => ptsd_nil) (fun _ _ _ _ _ => (pd_if (pdt_cmp op_ltX gLtL_ok (pd_callB call_lenX gLen_ok (by rfl) m_len PySem.boot_len (pda_cons (pd_var 1) pda_nil)) pd_int (nomark _)) (pd_op op_addX gAdd_ok (pd_var 1) pd_str) pd_str))) pda_nil))))
noncomputable def F__law_named_anew : FF := fun ds A => finR A (b__law_named_anew (startD 2 ds) A)
theorem o__law_named_anew (m_tuple : mg "tuple" = none) (m_len : mg "len" = none) {f : Addr} {fd : FuncData} (Fn : Fun K "_law_named_anew" "_law_named_anew" s__law_named_anew f fd) : FnG P w K mg base 1 f fd ["_law_row"] (spD K ct 1 F__law_named_anew) := okD Fn sc__law_named_anew (d__law_named_anew m_tuple m_len f) fun ds A _ h => finR_ok h

abbrev s_law : Stmt := topS 24
theorem sc_law : FnScope ["_law_script", "_law_k", "_law_source_here", "_law_turn", "_law_rows", "_law_found", "_law_part", "_law_some", "_law_turn_here", "_law_at", "_law_item", "_law_row"] ["_law_script"] (defScope s_law) := ⟨rfl, rfl, rfl, by decide +kernel, rfl, by decide +kernel, by decide +kernel⟩
noncomputable def b_law : SF := (sSeq (sFor (iRange1 (aCons (eArgs gMax2 (aCons (eC (.int 1)) (aCons (eArgs gMin2 (aCons (eC (.int 6)) (aCons (eArgs gLen (aCons (eVar 0) aNil)) aNil))) aNil))) aNil)) (gNm 1)
  (sSeq (sAsg (eArgs (fun ds A => F__law_source (ds ++ []) A) (aCons (eVar 0) (aCons (eVar 1) aNil))) (gNm 2))
  (sFor (iRange1 (aCons (eC (.int 3)) aNil)) (gNm 3)
  (sSeq (sAsg (eArgs (fun ds A => F__law_name_rows (ds ++ []) A) (aCons (eVar 2) (aCons (eBin gAdd (eC (.int 1)) (eArgs (fun ds A => F__law_next (ds ++ []) A) (aCons (eVar 2) (aCons (eC (.int 4)) aNil)))) (aCons (eBin gAdd (eC (.int 1)) (eArgs (fun ds A => F__law_next (ds ++ []) A) (aCons (eVar 2) (aCons (eC (.int 7)) aNil)))) (aCons (eC (.bl false)) aNil))))) (gNm 4))
  (sSeq (sAsg (eArgs gTupD (aCons (eArgs (fun ds A => F__law_merged_by (ds ++ []) A) (aCons (eVar 4) aNil)) (aCons (eComp (iRange1 (aCons (eC (.int 8)) aNil)) (.one 8) [8] ttYes (eArgs (fun ds A => F__law_next (ds ++ []) A) (aCons (eVar 2) (aCons (eC (.int 2)) aNil)))) aNil))) (gTpl [(gNm 5), (gNm 6)]))
  (sSeq (sAsg (eArgs gTuple (aCons (eComp (iEnumS (eVar 5)) (.tup [9, 10]) [9, 10] (tCmpD gEq (eBin gSubD (eVar 6) (eVar 9)) (eC (.int 1))) (eVar 10)) aNil)) (gNm 7))
  (sSeq (sIf (tOrD (tCmpD gNe (eArgs (fun ds A => starF F_merged ds A) (aCons (eVar 5) aNil)) (eVar 5)) (tOrD (tCmpD gNe (eArgs (fun ds A => starF F_merged ds A) (aCons (eVar 5) (aCons (eVar 5) aNil))) (eVar 5)) (tCmpD gNe (eArgs (fun ds A => F__law_merged_by (ds ++ []) A) (aCons (eBin gAdd (eArgs gLstD (aCons (eVar 5) aNil)) (eVar 4)) aNil)) (eVar 5))))
  (sRet (eC (.bl false)))
  sNx)
  (sSeq (sIf (tOrD (tCmpD gNe (eArgs (fun ds A => F__law_merged_by (ds ++ []) A) (aCons (eBin gAdd (eVar 4) (eArgs gLstD (aCons (eVar 7) aNil))) aNil)) (eVar 5)) (tCmpD gNe (eArgs (fun ds A => starF F_merged ds A) (aCons (eVar 5) (aCons (eVar 7) aNil))) (eVar 5)))
  (sRet (eC (.bl false)))
  sNx)
  (sSeq (sIf (tCmpD gNe (eArgs (fun ds A => starF F_merged ds A) (aCons (eBin gSubD (eVar 4) (eC (.int 0))) (aCons (eVar 5) aNil))) (eVar 5))
  (sRet (eC (.bl false)))
  sNx)
  (sSeq (sIf (tCmpD gNe (eArgs (fun ds A => F__law_merged_by (ds ++ []) A) (aCons (eComp (iSeq (eVar 4)) (.one 11) [11] ttYes (eArgs (fun ds A => F__law_named_anew (ds ++ []) A) (aCons (eVar 11) aNil))) aNil)) (eArgs (fun ds A => F__law_named_anew (ds ++ []) A) (aCons (eVar 5) aNil)))
  (sRet (eC (.bl false)))
  sNx)
  (sSeq (sIf (tCmpD gNe (eArgs (fun ds A => F__law_merged_by (ds ++ []) A) (aCons (eComp (iSeq (eVar 4)) (.one 11) [11] ttYes (eBin gAdd (eArgs gTupD (aCons (eC (.str "top")) aNil)) (eVar 11))) aNil)) (eBin gAdd (eArgs gTupD (aCons (eC (.str "top")) aNil)) (eVar 5)))
  (sRet (eC (.bl false)))
  sNx)
  (sSeq (sIf (tCmpD gNe (eArgs (fun ds A => F__law_merged_by (ds ++ []) A) (aCons (eComp (iSeq (eVar 4)) (.one 11) [11] ttYes (eBin gAdd (eVar 11) (eArgs gTupD (aCons (eC (.str "end")) aNil)))) aNil)) (eBin gAdd (eVar 5) (eArgs gTupD (aCons (eC (.str "end")) aNil))))
  (sRet (eC (.bl false)))
  sNx)
  (sIf (tOrD (tCmpD gNe (eArgs (fun ds A => starF F_merged ds A) (aCons (eVar 5) (aCons (eArgs gTupD (aCons (eC (.str "top")) (aCons (eC (.str "end")) aNil))) aNil))) (eBin gAdd (eVar 5) (eArgs gTupD (aCons (eC (.str "top")) (aCons (eC (.str "end")) aNil))))) (tCmpD gNe (eArgs (fun ds A => starF F_merged ds A) (aCons (eArgs gTupD aNil) (aCons (eVar 5) (aCons (eArgs gTupD aNil) aNil)))) (eVar 5)))
  (sRet (eC (.bl false)))
  sNx)))))))))))))
  (sRet (eC (.bl true))))
theorem d_law (c__law_source : Cal P w K mg base ct 1 "_law_source" 2 [] F__law_source) (c__law_name_rows : Cal P w K mg base ct 3 "_law_name_rows" 4 [] F__law_name_rows) (c__law_next : Cal P w K mg base ct 1 "_law_next" 2 [] F__law_next) (c__law_merged_by : Cal P w K mg base ct 5 "_law_merged_by" 1 [] F__law_merged_by) (c_merged : CalS P w K mg base ct 4 "merged" F_merged) (c__law_named_anew : Cal P w K mg base ct 1 "_law_named_anew" 1 [] F__law_named_anew) (m_range : mg "range" = none) (m_max : mg "max" = none) (m_min : mg "min" = none) (m_len : mg "len" = none) (m_tuple : mg "tuple" = none) (m_enumerate : mg "enumerate" = none) (f : Addr) :
    ∀ (cdv : Value) (A : Around) (outer : List PySem.Env) (s : Shared) (H : Hp) (E : XK), A.guards = some [] → Room 5 (A.deeper (envOfC "law" (defScope s_law) s.heap.objs.size f cdv)) → PSsD (cxD P w K mg base ["_law_script", "_law_k", "_law_source_here", "_law_turn", "_law_rows", "_law_found", "_law_part", "_law_some", "_law_turn_here", "_law_at", "_law_item", "_law_row"] "law" s_law f cdv A outer s H E) ct (WD E) (defBody s_law) b_law := by
  intro cdv A outer s H E hg hr
  have tk : Takes (cxD P w K mg base ["_law_script", "_law_k", "_law_source_here", "_law_turn", "_law_rows", "_law_found", "_law_part", "_law_some", "_law_turn_here", "_law_at", "_law_item", "_law_row"] "law" s_law f cdv A outer s H E) (WD E) := takes_of rfl rfl rfl rfl
  have hp : PassesOwn (model (cxD P w K mg base ["_law_script", "_law_k", "_law_source_here", "_law_turn", "_law_rows", "_law_found", "_law_part", "_law_some", "_law_turn_here", "_law_at", "_law_item", "_law_row"] "law" s_law f cdv A outer s H E).prog (cxD P w K mg base ["_law_script", "_law_k", "_law_source_here", "_law_turn", "_law_rows", "_law_found", "_law_part", "_law_some", "_law_turn_here", "_law_at", "_law_item", "_law_row"] "law" s_law f cdv A outer s H E).w) (cxD P w K mg base ["_law_script", "_law_k", "_law_source_here", "_law_turn", "_law_rows", "_law_found", "_law_part", "_law_some", "_law_turn_here", "_law_at", "_law_item", "_law_row"] "law" s_law f cdv A outer s H E).A (cxD P w K mg base ["_law_script", "_law_k", "_law_source_here", "_law_turn", "_law_rows", "_law_found", "_law_part", "_law_some", "_law_turn_here", "_law_at", "_law_item", "_law_row"] "law" s_law f cdv A outer s H E).env (cxD P w K mg base ["_law_script", "_law_k", "_law_source_here", "_law_turn", "_law_rows", "_law_found", "_law_part", "_law_some", "_law_turn_here", "_law_at", "_law_item", "_law_row"] "law" s_law f cdv A outer s H E).xe := passes_of rfl
  exact (pssd_cons (psd_for hp rfl (pid_range1 (by rfl) m_range (pda_cons (pd_callB (call_max2 rfl) gMax2_ok (by rfl) m_max (by decide +kernel) (pda_cons pd_int (pda_cons (pd_callB (call_min2 rfl) gMin2_ok (by rfl) m_min (by decide +kernel) (pda_cons pd_int (pda_cons (pd_callB call_lenX gLen_ok (by rfl) m_len PySem.boot_len (pda_cons (pd_var 0) pda_nil)) pda_nil))) pda_nil))) pda_nil)) (pgd_name (i := 1) sc_law.nd rfl (Or.inl rfl))
  (pssd_cons (psd_set (i := 2) sc_law.nd rfl (Or.inr rfl) (pd_call c__law_source hg hr (by decide) (by rfl) tk (pda_cons (pd_var 0) (pda_cons (pd_var 1) pda_nil)) (ar_cons (ar_cons ar_nil)) rfl))
  (pssd_one (psd_for hp rfl (pid_range1 (by rfl) m_range (pda_cons pd_int pda_nil)) (pgd_name (i := 3) sc_law.nd rfl (Or.inl rfl))
  (pssd_cons (psd_set (i := 4) sc_law.nd rfl (Or.inl rfl) (pd_call c__law_name_rows hg hr (by decide) (by rfl) tk (pda_cons (pd_var 2) (pda_cons (pd_op op_addX gAdd_ok pd_int (pd_call c__law_next hg hr (by decide) (by rfl) tk (pda_cons (pd_var 2) (pda_cons pd_int pda_nil)) (ar_cons (ar_cons ar_nil)) rfl)) (pda_cons (pd_op op_addX gAdd_ok pd_int (pd_call c__law_next hg hr (by decide) (by rfl) tk (pda_cons (pd_var 2) (pda_cons pd_int pda_nil)) (ar_cons (ar_cons ar_nil)) rfl)) (pda_cons pd_bl pda_nil)))) (ar_cons (ar_cons (ar_cons (ar_cons ar_nil)))) rfl))
  (pssd_cons (psd_asg (pd_tup (pda_cons (pd_call c__law_merged_by hg hr (by decide) (by rfl) tk (pda_cons (pd_var 4) pda_nil) (ar_cons ar_nil) rfl) (pda_cons (pd_comp (own := [("_law_turn_here", 8)]) rfl sc_law.nd (pid_range1 (by rfl) m_range (pda_cons pd_int pda_nil)) (blkOk_by (N := ["_law_script", "_law_k", "_law_source_here", "_law_turn", "_law_rows", "_law_found", "_law_part", "_law_some", "_law_turn_here", "_law_at", "_law_item", "_law_row"]) (sc := (defScope s_law)) (by decide +kernel)) (by decide) (fun _ _ _ _ _ => pg_name (i := 8) sc_law.nd rfl (Or.inl rfl)) (fun _ _ _ _ _ => ptsd_nil) (fun _ _ _ _ _ => (pd_call c__law_next hg hr (by decide) (by rfl) takes0 (pda_cons (pd_var 2) (pda_cons pd_int pda_nil)) (ar_cons (ar_cons ar_nil)) rfl))) pda_nil))) (pgd_tup rfl (pgsd_cons (pgd_name (i := 5) sc_law.nd rfl (Or.inl rfl)) (pgsd_cons (pgd_name (i := 6) sc_law.nd rfl (Or.inr rfl)) pgsd_nil))))
  (pssd_cons (psd_set (i := 7) sc_law.nd rfl (Or.inl rfl) (pd_callTy call_tupleF gTuple_ok (by rfl) m_tuple (by decide +kernel) (pda_cons (pd_comp (own := [("_law_at", 9), ("_law_item", 10)]) rfl sc_law.nd (pid_enum (by rfl) m_enumerate (pd_var 5)) (blkOk_by (N := ["_law_script", "_law_k", "_law_source_here", "_law_turn", "_law_rows", "_law_found", "_law_part", "_law_some", "_law_turn_here", "_law_at", "_law_item", "_law_row"]) (sc := (defScope s_law)) (by decide +kernel)) (by decide) (fun _ _ _ _ _ => pg_tup rfl (pgs_cons (pg_name (i := 9) sc_law.nd rfl (Or.inl rfl)) (pgs_cons (pg_name (i := 10) sc_law.nd rfl (Or.inl rfl)) pgs_nil))) (fun _ _ _ _ _ => (ptsd_one (pdt_cmp (op_eqX hr.units) gEq_ok (pd_sub (hu_of hr) (pd_var 6) (pd_var 9) (fun _ _ => rfl) (fun _ _ => rfl)) pd_int (nomark _)))) (fun _ _ _ _ _ => (pd_var 10))) pda_nil)))
  (pssd_cons (psd_if (pdw_t (pdw_or (pdt_cmp (op_neX hr.units) gNe_ok (pd_callS c_merged hg hr (by decide) (by rfl) tk (pda_cons (pd_var 5) pda_nil)) (pd_var 5) (nomark _)) (pdw_or (pdt_cmp (op_neX hr.units) gNe_ok (pd_callS c_merged hg hr (by decide) (by rfl) tk (pda_cons (pd_var 5) (pda_cons (pd_var 5) pda_nil))) (pd_var 5) (nomark _)) (pdw_or1 (pdt_cmp (op_neX hr.units) gNe_ok (pd_call c__law_merged_by hg hr (by decide) (by rfl) tk (pda_cons (pd_op op_addX gAdd_ok (pd_lst (pda_cons (pd_var 5) pda_nil)) (pd_var 4)) pda_nil) (ar_cons ar_nil) rfl) (pd_var 5) (nomark _))))))
  (pssd_one (psd_ret pd_bl))
  pssd_nil)
  (pssd_cons (psd_if (pdw_t (pdw_or (pdt_cmp (op_neX hr.units) gNe_ok (pd_call c__law_merged_by hg hr (by decide) (by rfl) tk (pda_cons (pd_op op_addX gAdd_ok (pd_var 4) (pd_lst (pda_cons (pd_var 7) pda_nil))) pda_nil) (ar_cons ar_nil) rfl) (pd_var 5) (nomark _)) (pdw_or1 (pdt_cmp (op_neX hr.units) gNe_ok (pd_callS c_merged hg hr (by decide) (by rfl) tk (pda_cons (pd_var 5) (pda_cons (pd_var 7) pda_nil))) (pd_var 5) (nomark _)))))
  (pssd_one (psd_ret pd_bl))
  pssd_nil)
  (pssd_cons (psd_if (pdt_cmp (op_neX hr.units) gNe_ok (pd_callS c_merged hg hr (by decide) (by rfl) tk (pda_cons (pd_sub (hu_of hr) (pd_var 4) pd_int (fun _ _ => rfl) (fun _ _ => rfl)) (pda_cons (pd_var 5) pda_nil))) (pd_var 5) (nomark _))
  (pssd_one (psd_ret pd_bl))
  pssd_nil)
  (pssd_cons (psd_if (pdt_cmp (op_neX hr.units) gNe_ok (pd_call c__law_merged_by hg hr (by decide) (by rfl) tk (pda_cons (pd_comp (own := [("_law_row", 11)]) rfl sc_law.nd (pid_seq (pd_var 4)) (blkOk_by (N := ["_law_script", "_law_k", "_law_source_here", "_law_turn", "_law_rows", "_law_found", "_law_part", "_law_some", "_law_turn_here", "_law_at", "_law_item", "_law_row"]) (sc := (defScope s_law)) (by decide +kernel)) (by decide) (fun _ _ _ _ _ => pg_name (i := 11) sc_law.nd rfl (Or.inl rfl)) (fun _ _ _ _ _ => ptsd_nil) (fun _ _ _ _ _ => (pd_call c__law_named_anew hg hr (by decide) (by rfl) takes0 (pda_cons (pd_var 11) pda_nil) (ar_cons ar_nil) rfl))) pda_nil) (ar_cons ar_nil) rfl) (pd_call c__law_named_anew hg hr (by decide) (by rfl) tk (pda_cons (pd_var 5) pda_nil) (ar_cons ar_nil) rfl) (nomark _))
  (pssd_one (psd_ret pd_bl))
  pssd_nil)
  (pssd_cons (psd_if (pdt_cmp (op_neX hr.units) gNe_ok (pd_call c__law_merged_by hg hr (by decide) (by rfl) tk (pda_cons (pd_comp (own := [("_law_row", 11)]) rfl sc_law.nd (pid_seq (pd_var 4)) (blkOk_by (N := ["_law_script", "_law_k", "_law_source_here", "_law_turn", "_law_rows", "_law_found", "_law_part", "_law_some", "_law_turn_here", "_law_at", "_law_item", "_law_row"]) (sc := (defScope s_law)) (by decide +kernel)) (by decide) (fun _ _ _ _ _ => pg_name (i := 11) sc_law.nd rfl (Or.inl rfl)) (fun _ _ _ _ _ => ptsd_nil) (fun _ _ _ _ _ => (pd_op op_addX gAdd_ok (pd_tup (pda_cons pd_str pda_nil)) (pd_var 11)))) pda_nil) (ar_cons ar_nil) rfl) (pd_op op_addX gAdd_ok (pd_tup (pda_cons pd_str pda_nil)) (pd_var 5)) (nomark _))
  (pssd_one (psd_ret pd_bl))
  pssd_nil)
  (pssd_cons (psd_if (pdt_cmp (op_neX hr.units) gNe_ok (pd_call c__law_merged_by hg hr (by decide) (by rfl) tk (pda_cons (pd_comp (own := [("_law_row", 11)]) rfl sc_law.nd (pid_seq (pd_var 4)) (blkOk_by (N := ["_law_script", "_law_k", "_law_source_here", "_law_turn", "_law_rows", "_law_found", "_law_part", "_law_some", "_law_turn_here", "_law_at", "_law_item", "_law_row"]) (sc := (defScope s_law)) (by decide +kernel)) (by decide) (fun _ _ _ _ _ => pg_name (i := 11) sc_law.nd rfl (Or.inl rfl)) (fun _ _ _ _ _ => ptsd_nil) (fun _ _ _ _ _ => (pd_op op_addX gAdd_ok (pd_var 11) (pd_tup (pda_cons pd_str pda_nil))))) pda_nil) (ar_cons ar_nil) rfl) (pd_op op_addX gAdd_ok (pd_var 5) (pd_tup (pda_cons pd_str pda_nil))) (nomark _))
  (pssd_one (psd_ret pd_bl))
  pssd_nil)
  (pssd_one (psd_if (pdw_t (pdw_or (pdt_cmp (op_neX hr.units) gNe_ok (pd_callS c_merged hg hr (by decide) (by rfl) tk (pda_cons (pd_var 5) (pda_cons (pd_tup (pda_cons pd_str (pda_cons pd_str pda_nil))) pda_nil))) (pd_op op_addX gAdd_ok (pd_var 5) (pd_tup (pda_cons pd_str (pda_cons pd_str pda_nil)))) (nomark _)) (pdw_or1 (pdt_cmp (op_neX hr.units) gNe_ok (pd_callS c_merged hg hr (by decide) (by rfl) tk (pda_cons (pd_tup pda_nil) (pda_cons (pd_var 5) (pda_cons (pd_tup pda_nil) pda_nil)))) (pd_var 5) (nomark _)))))
  (pssd_one (psd_ret pd_bl))
  pssd_nil)))))))))))))))
  (pssd_one (psd_ret pd_bl)))
noncomputable def F_law : FF := fun ds A => finR A (b_law (startD 12 ds) A)
theorem o_law (c__law_source : Cal P w K mg base ct 1 "_law_source" 2 [] F__law_source) (c__law_name_rows : Cal P w K mg base ct 3 "_law_name_rows" 4 [] F__law_name_rows) (c__law_next : Cal P w K mg base ct 1 "_law_next" 2 [] F__law_next) (c__law_merged_by : Cal P w K mg base ct 5 "_law_merged_by" 1 [] F__law_merged_by) (c_merged : CalS P w K mg base ct 4 "merged" F_merged) (c__law_named_anew : Cal P w K mg base ct 1 "_law_named_anew" 1 [] F__law_named_anew) (m_range : mg "range" = none) (m_max : mg "max" = none) (m_min : mg "min" = none) (m_len : mg "len" = none) (m_tuple : mg "tuple" = none) (m_enumerate : mg "enumerate" = none) {f : Addr} {fd : FuncData} (Fn : Fun K "law" "law" s_law f fd) : FnG P w K mg base 6 f fd ["_law_script"] (spD K ct 1 F_law) := okD Fn sc_law (d_law c__law_source c__law_name_rows c__law_next c__law_merged_by c_merged c__law_named_anew m_range m_max m_min m_len m_tuple m_enumerate f) fun ds A _ h => finR_ok h

end
end K07

set_option Elab.async false
set_option linter.all false
set_option maxRecDepth 100000
namespace K07
open PySem PySem.Spec PyProof.Rows L2 DV
theorem prime_at {j : Int} (h0 : 0 ≤ j) (h1 : j < 11) : ∃ p : Int, L2.atI [D.int 2147483647, .int 2147483629, .int 2147483587, .int 2147483579, .int 2147483563, .int 2147483549, .int 2147483543, .int 2147483497, .int 2147483489, .int 2147483477, .int 2147483423] j = some (.int p) ∧ 2147483000 < p ∧ p < 2 ^ 32 := by
  obtain ⟨x, hx, hm⟩ := atI_of (xs := [D.int 2147483647, .int 2147483629, .int 2147483587, .int 2147483579, .int 2147483563, .int 2147483549, .int 2147483543, .int 2147483497, .int 2147483489, .int 2147483477, .int 2147483423]) h0 (by simpa using h1)
  rw [hx]
  simp only [List.mem_cons, List.not_mem_nil, or_false] at hm
  rcases hm with e | e | e | e | e | e | e | e | e | e | e <;> rw [e] <;> exact ⟨_, rfl, by omega, by omega⟩
theorem next_ok {A : Hd} {k : Nat} {T m : Int} (S : SRC A k T) (hT : T ≤ 2 ^ 40) (hm : 0 < m) (hm2 : m < 2 ^ 60) : ∃ r l, F__law_next [.ref k, .int m] A = .ok (.int r) (A.set k l) ∧ 0 ≤ r ∧ r < m ∧ SRC (A.set k l) k (T + 1) := by
  obtain ⟨c, t, h, hA, ht0, ht1, hh⟩ := S
  have hk : k < A.length := (List.getElem?_eq_some_iff.mp hA).1
  have s0 : ∀ a b : Int, L2.atI [D.int c, .int a, .int b] 0 = some (.int c) := fun _ _ => rfl
  have s1 : ∀ a b : Int, L2.atI [D.int c, .int a, .int b] 1 = some (.int a) := fun _ _ => rfl
  have s2 : ∀ a b : Int, L2.atI [D.int c, .int a, .int b] 2 = some (.int b) := fun _ _ => rfl
  have big : m.natAbs.log2 < 9000 := by
    have : m.natAbs.log2 < 60 := by
      by_cases h0 : m.natAbs = 0
      · omega
      · exact (Nat.log2_lt h0).mpr (by omega)
    omega
  have mp : ∀ x : Int, 0 ≤ x % m ∧ x % m < m := fun x => ⟨Int.emod_nonneg _ (by omega), Int.emod_lt_of_pos _ hm⟩
  by_cases hp : 0 < h
  · refine ⟨h % m, .lst [.int c, .int t, .int (h / m)], ?_, (mp h).1, (mp h).2, c, t, h / m, by rw [List.getElem?_set_self hk], ht0, by omega, Int.ediv_nonneg hh (by omega)⟩
    unfold F__law_next b__law_next
    have w1 : ∀ d ro, setD (.ref k) (.int 2) d ro A = .ok ro (A.set k (.lst [.int c, .int t, d])) := fun d ro => set_num hA (i := 2) (j := 2) rfl
    simp [startD, sSeq, sIf, sAsg, sRet, sNx, tCmpD, eBin, eVar, eC, gNm, gAt, R.out, sub_num hA (s2 t h), gLtL, gBool, hp, gMod, gDiv, hm, CDivW, big, w1, finR]
  · have h1 : (A.set k (.lst [.int c, .int (t + 1), .int h]))[k]? = some (.lst [.int c, .int (t + 1), .int h]) := by rw [List.getElem?_set_self hk]
    generalize hA1 : A.set k (.lst [.int c, .int (t + 1), .int h]) = A1 at h1
    have w1 : ∀ ro, setD (.ref k) (.int 1) (.int (t + 1)) ro A = .ok ro A1 := fun ro => by rw [← hA1]; exact set_num hA (i := 1) (j := 1) rfl
    obtain ⟨p, hp1, hp2, hp3⟩ := prime_at (j := (t + 1) % 11) (Int.emod_nonneg _ (by omega)) (Int.emod_lt_of_pos _ (by omega))
    have p0 : 0 < p := by omega
    have cp := Int.emod_nonneg c (show p ≠ 0 by omega)
    have cq := Int.emod_lt_of_pos c p0
    have hpow : CPow (c % p + 7919 * (t + 1) + 1) 5 := ⟨by omega, by omega, by omega⟩
    have hmul : CMul 7919 (t + 1) := .inl ⟨by omega, by omega⟩
    have l13 : CDivW ((c % p + 7919 * (t + 1) + 1) ^ 5 % p) 13 := ⟨by omega, by decide⟩
    have sz : 11 ≤ sizeLine := by rw [sizeLine_eq]; omega
    have sz8 : 8 ≤ sizeLine := by omega
    have sz3 : 3 ≤ sizeLine := by omega
    refine ⟨_, .lst [.int c, .int (t + 1), .int h], ?_, (mp ((c % p + 7919 * (t + 1) + 1) ^ 5 % p / 13)).1, (mp _).2, c, t + 1, h, by rw [List.getElem?_set_self hk], by omega, by omega, hh⟩
    rw [hA1]
    have cs : ∀ i : Int, cutR A (.int i) A1 = .ok (.int i) A1 := fun i => cut_same (by rw [← hA1]; simp)
    unfold F__law_next b__law_next
    simp [startD, sSeq, sIf, sAsg, sRet, sNx, tCmpD, eBin, eVar, eC, gNm, gAt, R.out, sub_num hA (s2 t h), sub_num hA (s1 t h), gLtL, gBool, hp, gMod, gDiv, gAdd, gMul, gPow, hm, w1, finR, sub_num h1 (s1 _ _), sub_num h1 (s0 _ _), eArgs, aCons, aNil, gLstD, asL, sz, sz8, sz3, sub_lst hp1, p0, hpow, hmul, l13, cs]
end K07

set_option Elab.async false
set_option linter.all false
set_option maxRecDepth 100000
namespace K07
open PySem PySem.Spec PyProof.Rows L2 DV
def abc : Str := "abcdefghijklmnopqrstuvwxyz"
def isName : D → Bool
  | .str x => decide (1 ≤ x.length) && decide (x.length ≤ 8) && x.cps.toList.all fun c => decide (c ∈ abc.cps.toList)
  | _ => false
def okName : D → Bool
  | .str x => decide (x.length ≤ 1000) && PyData.canLay0 (.str x)
  | .ref _ => false
  | .scr _ => false
  | .cls _ => false
  | _ => true
def sgn : D → D := fun d => match d with | .str y => .bl (match y.cps.toList with | [c] => decide (c ∈ abc.cps.toList) | _ => false) | _ => .bl false
theorem name_ok {d : D} {A : Hd} (h : okName d = true) : F_is_name [d] A = .ok (.bl (isName d)) A := by
  cases d with
  | str x =>
    have hz : x.length ≤ sizeLine := Nat.le_trans (by unfold okName at h; rw [Bool.and_eq_true] at h; exact of_decide_eq_true h.1) sz1000
    unfold F_is_name b_is_name isName
    by_cases h1 : 1 ≤ x.length
    · by_cases h2 : x.length ≤ 8
      · have e1 : decide ((1 : Int) ≤ (x.length : Int)) = true := decide_eq_true (by omega)
        have e2 : decide ((x.length : Int) ≤ 8) = true := decide_eq_true (by omega)
        have hc : compD (.fix (charsD x)) (.one 1) [1] ttYes (eBin gIn (eVar 1) (eC (.str abc))) [some (.str x), none] (charsD x) [] A = .ok (([] : List D) ++ ((charsD x).filter fun _ => true).map sgn) A :=
          compD_pure (here_fix _ _) _ _ (by simp only [charsD, List.length_nil, List.length_map, Array.length_toList, Nat.zero_add]; exact hz) fun d hd => by
            obtain ⟨c, hc, rfl⟩ := List.mem_map.mp hd
            refine ⟨[some (.str x), some (.str ⟨#[c]⟩)], rfl, rfl, fun _ => ?_⟩
            simp [eBin, eVar, eC, gIn, inP, sgn]
        have hb : boolsD ((charsD x).map sgn) = some (x.cps.toList.map fun c => decide (c ∈ abc.cps.toList)) := by
          unfold charsD
          rw [List.map_map]
          exact boolsD_map (fun c => decide (c ∈ abc.cps.toList)) _
        have ht : (charsD x).filter (fun _ => true) = charsD x := List.filter_eq_self.mpr fun _ _ => rfl
        rw [ht] at hc
        unfold abc at hc
        simp [startD, sSeq, sIf, sRet, sNx, tOrD, tNotD, tOfE, eArgs, aCons, aNil, eVar, eC, gIsa, tyD, isaB, gTru, truD, eChain, gLen, hz, gLtL, e1, e2, gBool, gAll, eComp, iSeq, srcD, Src.items, hc, asR, asL, hb, finR, h1, h2, abc]
      · have e1 : decide ((1 : Int) ≤ (x.length : Int)) = true := decide_eq_true (by omega)
        have e2 : decide ((x.length : Int) ≤ 8) = false := decide_eq_false (by omega)
        simp [startD, sSeq, sIf, sRet, sNx, tOrD, tNotD, tOfE, eArgs, aCons, aNil, eVar, eC, gIsa, tyD, isaB, gTru, truD, eChain, gLen, hz, gLtL, e1, e2, gBool, finR, h1, h2]
    · have e1 : decide ((1 : Int) ≤ (x.length : Int)) = false := decide_eq_false (by omega)
      simp [startD, sSeq, sIf, sRet, sNx, tOrD, tNotD, tOfE, eArgs, aCons, aNil, eVar, eC, gIsa, tyD, isaB, gTru, truD, eChain, gLen, hz, gLtL, e1, gBool, finR, h1]
  | ref n => cases h
  | scr n => cases h
  | cls n => cases h
  | _ =>
    unfold F_is_name b_is_name isName
    simp [startD, sSeq, sIf, sRet, sNx, tOrD, tNotD, tOfE, eArgs, aCons, aNil, eVar, eC, gIsa, tyD, isaB, gTru, truD, finR]

end K07

set_option Elab.async false
set_option linter.all false
set_option maxRecDepth 100000
namespace K07
open PySem PySem.Spec PyProof.Rows L2 DV
def okIt (d : D) : Bool := okName d && layD d
def okRow : D → Bool
  | .tup ds => ds.all okIt && decide (ds.length ≤ 1000)
  | .ref _ => false
  | .scr _ => false
  | .cls _ => false
  | _ => true
def dist (ds : List D) : Bool := match textsD ds with
  | some xs => decide (((mets xs).length : Int) = (ds.length : Int))
  | none => false
def isDiff : D → Bool
  | .tup ds => ds.all isName && dist ds
  | _ => false
theorem names_texts : ∀ {ds : List D}, ds.all isName = true → ∃ xs, textsD ds = some xs ∧ xs.length = ds.length
  | [], _ => ⟨[], rfl, rfl⟩
  | d :: ds, h => by
    rw [List.all_cons, Bool.and_eq_true] at h
    obtain ⟨xs, e, l⟩ := names_texts h.2
    cases d with
    | str x => exact ⟨x :: xs, by unfold textsD; rw [e], by rw [List.length_cons, List.length_cons, l]⟩
    | _ => cases h.1
theorem isT_ok {d : D} {A : Hd} {ro : DV.Env} {T t : String} {b : Bool} (h0 : ro[0]? = some (some d)) (h : tyD A d = some t) (h2 : isaB t T = some b) : tNotD (tOfE (eArgs gIsa (aCons (eVar 0) (aCons (eC (.cls (.bi T))) aNil)))) ro A = .ok (!b) A := by
  refine tnot_ok (trub_ok (args2_ok (d := d) (A1 := A) (by unfold eVar; rw [h0]) rfl ?_))
  unfold gIsa
  simp only [h, h2]
def isTup : D → Bool
  | .tup _ => true
  | _ => false
theorem okRow_ty {d : D} {A : Hd} (h : okRow d = true) : ∃ t b, tyD A d = some t ∧ isaB t "tuple" = some b ∧ b = isTup d := by
  cases d with
  | ref n => cases h
  | scr n => cases h
  | cls n => cases h
  | non => exact ⟨"NoneType", false, rfl, by decide +kernel, rfl⟩
  | bl b => exact ⟨"bool", false, rfl, by decide +kernel, rfl⟩
  | int i => exact ⟨"int", false, rfl, by decide +kernel, rfl⟩
  | str x => exact ⟨"str", false, rfl, by decide +kernel, rfl⟩
  | tup x => exact ⟨"tuple", true, rfl, by decide +kernel, rfl⟩
  | lst x => exact ⟨"list", false, rfl, by decide +kernel, rfl⟩
  | dic x => exact ⟨"dict", false, rfl, by decide +kernel, rfl⟩
theorem setLen_ok {ds : List D} {A : Hd} (h : ds.all isName = true) (hl : ds.length ≤ 1000) : eBin gEq (eUn gLenSet (eVar 0)) (eArgs gLen (aCons (eVar 0) aNil)) [some (.tup ds), none] A = .ok (.bl (dist ds)) A := by
  obtain ⟨xs, e, l⟩ := names_texts h
  refine bin_ok (d := .int (mets xs).length) (e := .int ds.length) (A1 := A) (A2 := A) (un_ok rfl ?_) (args1_ok rfl ?_) ?_
  · unfold gLenSet
    show (match textsD ds with | some xs => if xs.length < 4000 then R.ok (D.int (mets xs).length) A else .stk | none => .stk) = _
    rw [e]
    show (if xs.length < 4000 then R.ok (D.int (mets xs).length) A else .stk) = _
    rw [if_pos (by omega)]
  · rfl
  · rw [gEq_int]
    unfold dist
    rw [e]
theorem comp1_ok {ds : List D} {A : Hd} {f : D → D} {te : EF} (hl : ds.length ≤ 1000) (h : ∀ d ∈ ds, te [some (.tup ds), some d] A = .ok (f d) A) : eComp (iSeq (eVar 0)) (.one 1) [1] ttYes te [some (.tup ds), none] A = .ok (.lst (ds.map f)) A := by
  have := compD_pure (s := .fix ds) (pt := .one 1) (vs := [1]) (tt := ttYes) (te := te) (ro := [some (.tup ds), none]) (p := fun _ => true) (f := f) (here_fix ds A) ds [] (by have := sz1000; simp; omega) fun d hd => ⟨_, rfl, rfl, fun _ => h d hd⟩
  rw [List.filter_eq_self.mpr fun _ _ => rfl, List.nil_append] at this
  exact comp_ok (seq_ok rfl rfl) this
theorem isDiff_tup (ds : List D) : isDiff (.tup ds) = (ds.all isName && dist ds) := rfl
theorem diff_ok {d : D} {A : Hd} (h : okRow d = true) : F_are_different [d] A = .ok (.bl (isDiff d)) A := by
  obtain ⟨t, b, h1, h2, h3⟩ := okRow_ty (A := A) h
  have hi := isT_ok (ro := [some d, none]) rfl h1 h2
  unfold F_are_different b_are_different
  by_cases ht : ∃ ds, d = .tup ds
  · obtain ⟨ds, rfl⟩ := ht
    subst h3
    unfold okRow at h
    rw [Bool.and_eq_true] at h
    have hl := of_decide_eq_true h.2
    have hall : eArgs gAll (aCons (eComp (iSeq (eVar 0)) (.one 1) [1] ttYes (eArgs (fun ds A => F_is_name (ds ++ []) A) (aCons (eVar 1) aNil))) aNil) [some (.tup ds), none] A = .ok (.bl (ds.all isName)) A := by
      refine args1_ok (comp1_ok (f := fun d => .bl (isName d)) hl fun d hd => args1_ok rfl ?_) ?_
      · refine name_ok ?_
        have := List.all_eq_true.mp h.1 d hd
        unfold okIt at this
        rw [Bool.and_eq_true] at this
        exact this.1
      · have hb := boolsD_map isName ds
        unfold gAll
        show (match boolsD (ds.map fun d => D.bl (isName d)) with | some bs => R.ok (D.bl (bs.all id)) A | none => R.stk) = _
        rw [hb]
        show R.ok (D.bl ((ds.map isName).all id)) A = _
        rw [List.all_map]
        rfl
    cases hn : ds.all isName with
    | true =>
      refine fin_ok (ro := [some (.tup ds), none]) (sseq_ok (ro' := [some (.tup ds), none]) (A1 := A) (sif_ok (z := false) (A1 := A) (tor_ok hi ((tnot_ok (trub_ok hall)).trans (by rw [hn]; rfl))) rfl) (sret_ok ((setLen_ok hn hl).trans ?_))) rfl
      rw [isDiff_tup, hn]; rfl
    | false =>
      have hz : isDiff (.tup ds) = false := by rw [isDiff_tup, hn]; rfl
      rw [hz]
      have ht : sIf (tOrD (tNotD (tOfE (eArgs gIsa (aCons (eVar 0) (aCons (eC (.cls (.bi "tuple"))) aNil))))) (tNotD (tOfE (eArgs gAll (aCons (eComp (iSeq (eVar 0)) (.one 1) [1] ttYes (eArgs (fun ds A => F_is_name (ds ++ []) A) (aCons (eVar 1) aNil))) aNil))))) (sRet (eC (.bl false))) sNx [some (.tup ds), none] A = .go (.ret (.bl false)) [some (.tup ds), none] A :=
        sif_ok (z := true) (A1 := A) (tor_ok hi ((tnot_ok (trub_ok hall)).trans (by rw [hn]; rfl))) rfl
      unfold sSeq startD
      exact fin_ok (ro := [some (.tup ds), none]) (by show (sIf _ _ _ [some (.tup ds), none] A).next _ = _; rw [ht]; rfl) rfl
  · have hb : b = false := by
      rw [h3]
      cases d with
      | tup ds => exact absurd ⟨ds, rfl⟩ ht
      | _ => rfl
    have hz : isDiff d = false := by
      cases d with
      | tup ds => exact absurd ⟨ds, rfl⟩ ht
      | _ => rfl
    rw [hz]
    subst hb
    have ht : sIf (tOrD (tNotD (tOfE (eArgs gIsa (aCons (eVar 0) (aCons (eC (.cls (.bi "tuple"))) aNil))))) (tNotD (tOfE (eArgs gAll (aCons (eComp (iSeq (eVar 0)) (.one 1) [1] ttYes (eArgs (fun ds A => F_is_name (ds ++ []) A) (aCons (eVar 1) aNil))) aNil))))) (sRet (eC (.bl false))) sNx [some d, none] A = .go (.ret (.bl false)) [some d, none] A :=
      sif_ok (z := true) (A1 := A) (tor_ok hi rfl) rfl
    unfold sSeq startD
    exact fin_ok (ro := [some d, none]) (by show (sIf _ _ _ [some d, none] A).next _ = _; rw [ht]; rfl) rfl

end K07

set_option Elab.async false
set_option linter.all false
set_option maxRecDepth 100000
namespace K07
open PySem PySem.Spec PyProof.Rows L2 DV
def laid (x : Str) : Bool := PyData.canLay0 (.str x)
def rowD (r : List Str) : D := .tup (r.map D.str)
def rowsD (rs : List (List Str)) : D := .tup (rs.map rowD)
/-- n sources of draws stand under numbers; the one at k has done at most T -/
structure SN (n k : Nat) (A : Hd) (T : Int) : Prop where
  len : A.length = n
  src : SRC A k T
  low : ∀ m ∈ A, ∀ z, M.lt z m = true
theorem SN.le {n k : Nat} {A : Hd} {T T' : Int} (h : SN n k A T) (e : T ≤ T') : SN n k A T' := ⟨h.len, h.src.le e, h.low⟩
theorem SN.kn {n k : Nat} {A : Hd} {T : Int} (h : SN n k A T) : k < n := by
  obtain ⟨c, t, q, e, _⟩ := h.src
  have := (List.getElem?_eq_some_iff.mp e).1
  rw [h.len] at this
  exact this
theorem SN.ml {n k : Nat} {A : Hd} {T : Int} (h : SN n k A T) (z : Nat) : ∀ m ∈ A, M.lt z m = true := fun m hm => h.low m hm z
theorem nextN {n k : Nat} {A X : Hd} {T m : Int} (S : SN n k A T) (hT : T ≤ 2 ^ 40) (hm : 0 < m) (hm2 : m < 2 ^ 60) : ∃ r A', F__law_next [.ref k, .int m] (A ++ X) = .ok (.int r) (A' ++ X) ∧ 0 ≤ r ∧ r < m ∧ SN n k A' (T + 1) := by
  have hk : k < A.length := by rw [S.len]; exact S.kn
  have S' : SRC (A ++ X) k T := by
    obtain ⟨c, t, q, e, r⟩ := S.src
    exact ⟨c, t, q, by rw [List.getElem?_append_left hk]; exact e, r⟩
  obtain ⟨r, l, e, h0, h1, h2⟩ := next_ok S' hT hm hm2
  have es : (A ++ X).set k l = A.set k l ++ X := List.set_append_left _ _ hk
  rw [es] at e h2
  have S2 : SRC (A.set k l) k (T + 1) := by
    obtain ⟨c, t, q, e, r⟩ := h2
    exact ⟨c, t, q, by rw [List.getElem?_append_left (by rw [List.length_set]; exact hk)] at e; exact e, r⟩
  refine ⟨r, A.set k l, e, h0, h1, by rw [List.length_set]; exact S.len, S2, fun x hx z => ?_⟩
  rcases List.mem_or_eq_of_mem_set hx with w | w
  · exact S.low x w z
  · obtain ⟨c, t, q, e, _⟩ := S2
    rw [List.getElem?_set_self hk] at e
    cases e
    rw [w]
    simp [M.lt, D.lts, D.lt]
theorem cut_tail {A A1 X : Hd} (hl : A1.length = A.length) (hf : ∀ m ∈ A1, M.lt A.length m = true) : (A1 ++ X).take A.length = A1 ∧ M.ltAll A.length ((A1 ++ X).take A.length) = true := by
  have e : (A1 ++ X).take A.length = A1 := by rw [← hl]; exact List.take_left
  refine ⟨e, ?_⟩
  rw [e]
  unfold M.ltAll
  exact List.all_eq_true.mpr hf
theorem cut_val {A A1 X : Hd} {d : D} (hl : A1.length = A.length) (hf : ∀ m ∈ A1, M.lt A.length m = true) (hd : d.lt A.length = true) : cutR A d (A1 ++ X) = .ok d A1 := by
  obtain ⟨e1, e2⟩ := cut_tail (X := X) hl hf
  unfold cutR frz
  rw [if_pos hd]
  show (if M.ltAll A.length ((A1 ++ X).take A.length) = true then R.ok d ((A1 ++ X).take A.length) else .ok d (A1 ++ X)) = _
  rw [if_pos e2, e1]
theorem cut_ref {A A1 X : Hd} {j : Nat} {ds : List D} (hl : A1.length = A.length) (hf : ∀ m ∈ A1, M.lt A.length m = true) (hx : X[j]? = some (.lst ds)) (hd : D.lts A.length ds = true) : cutR A (.ref (A.length + j)) (A1 ++ X) = .ok (.lst ds) A1 := by
  obtain ⟨e1, e2⟩ := cut_tail (X := X) hl hf
  have g : (A1 ++ X)[A.length + j]? = some (.lst ds) := by
    rw [List.getElem?_append_right (by omega), show A.length + j - A1.length = j by omega]
    exact hx
  have hn : ¬ (D.lt A.length (.ref (A.length + j)) = true) := by simp [D.lt]
  unfold cutR frz
  rw [if_neg hn]
  simp only [g, hd, if_true]
  rw [if_pos e2, e1]
theorem strs_lt (n : Nat) : ∀ xs : List Str, D.lts n (xs.map D.str) = true
  | [] => by simp [D.lts]
  | x :: xs => by
    rw [List.map_cons]
    unfold D.lts
    rw [strs_lt n xs]
    rfl
theorem map_erase {α β : Type} (f : α → β) : ∀ (l : List α) (i : Nat), (l.map f).eraseIdx i = (l.eraseIdx i).map f
  | [], _ => rfl
  | _ :: _, 0 => rfl
  | a :: l, i + 1 => by
    show f a :: (l.map f).eraseIdx i = f a :: (l.eraseIdx i).map f
    rw [map_erase f l i]
theorem perm_erase {α : Type} : ∀ (l : List α) (i : Nat) (h : i < l.length), (l[i] :: l.eraseIdx i).Perm l
  | [], _, h => absurd h (Nat.not_lt_zero _)
  | a :: l, 0, _ => List.Perm.refl _
  | a :: l, i + 1, h => by
    have hi : i < l.length := Nat.lt_of_succ_lt_succ h
    have ih := perm_erase l i hi
    show (l[i] :: a :: l.eraseIdx i).Perm (a :: l)
    exact (List.Perm.swap _ _ _).trans (ih.cons a)
/-! ### _law_mixed -/
theorem whileD_step {c : TF} {b : SF} {N : Nat} {ro ro' : DV.Env} {A A1 A2 : Hd} {o : Out} (h1 : c ro A = .ok true A1) (h2 : b ro A1 = .go .nx ro' A2) (h3 : whileD c b N ro' A2 = o) : whileD c b (N + 1) ro A = o := by
  unfold whileD
  rw [h1, R.then_ok, if_pos rfl, h2, Out.loop_nx, h3]
theorem whileD_stop {c : TF} {b : SF} {N : Nat} {ro : DV.Env} {A A1 : Hd} (h1 : c ro A = .ok false A1) : whileD c b (N + 1) ro A = .go .nx ro A1 := by
  unfold whileD
  rw [h1, R.then_ok, if_neg (by simp)]
theorem lenX {n k : Nat} {A X : Hd} {T : Int} (S : SN n k A T) : (A ++ X).length = n + X.length := by rw [List.length_append, S.len]
theorem nextX {n k : Nat} {A X : Hd} (L : Hd) {T m : Int} (S : SN n k A T) (hT : T ≤ 2 ^ 40) (hm : 0 < m) (hm2 : m < 2 ^ 60) : ∃ r A', F__law_next [.ref k, .int m] (A ++ X ++ L) = .ok (.int r) (A' ++ X ++ L) ∧ 0 ≤ r ∧ r < m ∧ SN n k A' (T + 1) := by
  obtain ⟨r, A', e, h⟩ := nextN (X := X ++ L) S hT hm hm2
  exact ⟨r, A', by rw [List.append_assoc, e, List.append_assoc], h⟩
theorem mixN {n k : Nat} {A : Hd} (X : Hd) (hX : ∀ m ∈ X, ∀ z, M.lt z m = true) {T : Int} {xs : List Str} (S : SN n k A T) (hT : T + 200 ≤ 2 ^ 40) (hl : xs.length ≤ 100) (hy : xs.all laid = true) : ∃ (ys : List Str) (A' : Hd), F__law_mixed [.ref k, .lst (xs.map D.str)] (A ++ X) = .ok (.lst (ys.map D.str)) (A' ++ X) ∧ ys.Perm xs ∧ SN n k A' (T + xs.length) := by
  have z := sz1000
  obtain ⟨nb, hnb⟩ : ∃ nb, nb = n + X.length := ⟨_, rfl⟩
  have lay : ∀ ys : List Str, (∀ y ∈ ys, y ∈ xs) → ∀ d ∈ ys.map D.str, layD d = true := fun ys h d hd => by
    obtain ⟨y, hy', rfl⟩ := List.mem_map.mp hd
    exact layD_str (List.all_eq_true.mp hy y (h y hy'))
  have loop : ∀ (m : Nat) (rest found : List Str) (A1 : Hd) (N : Nat), rest.length = m → m < N → found.length + rest.length = xs.length → (found ++ rest).Perm xs → SN n k A1 (T + found.length) →
      ∃ (ys : List Str) (A2 : Hd), whileD (tCmpD gNe (eVar 2) (eArgs gLstD aNil)) (sEx (eMeth isL gAppend (eVar 3) (aCons (eMeth isL gPopAt (eVar 2) (aCons (eArgs (fun ds A => F__law_next (ds ++ []) A) (aCons (eVar 0) (aCons (eArgs gLen (aCons (eVar 2) aNil)) aNil))) aNil)) aNil))) N [some (.ref k), some (.lst (xs.map D.str)), some (.ref nb), some (.ref (nb + 1))] (A1 ++ X ++ [.lst (rest.map D.str), .lst (found.map D.str)])
        = .go .nx [some (.ref k), some (.lst (xs.map D.str)), some (.ref nb), some (.ref (nb + 1))] (A2 ++ X ++ [.lst [], .lst (ys.map D.str)]) ∧ ys.Perm xs ∧ SN n k A2 (T + xs.length) := by
    intro m
    induction m with
    | zero =>
      intro rest found A1 N hr hN hlen hp S1
      have er : rest = [] := List.length_eq_zero_iff.mp hr
      subst er
      obtain ⟨N, rfl⟩ : ∃ M, N = M + 1 := ⟨N - 1, by omega⟩
      have g : (A1 ++ X ++ [M.lst [], .lst (found.map D.str)])[nb]? = some (.lst []) := by rw [List.getElem?_append_right (by rw [lenX S1, ← hnb]; exact Nat.le_refl _), lenX S1, ← hnb, Nat.sub_self]; rfl
      refine ⟨found, A1, whileD_stop (tcmp_ok (d := .ref nb) (e := .lst []) (A1 := A1 ++ X ++ [.lst [], .lst (found.map D.str)]) (A2 := A1 ++ X ++ [.lst [], .lst (found.map D.str)]) rfl (args_ok (ds := []) rfl rfl) ?_), by rw [List.append_nil] at hp; exact hp, S1.le (by simp at hlen; omega)⟩
      exact (gNe_num g (by intro d hd; cases hd)).trans rfl
    | succ m ih =>
      intro rest found A1 N hr hN hlen hp S1
      obtain ⟨N, rfl⟩ : ∃ M, N = M + 1 := ⟨N - 1, by omega⟩
      have g : (A1 ++ X ++ [M.lst (rest.map D.str), .lst (found.map D.str)])[nb]? = some (.lst (rest.map D.str)) := by rw [List.getElem?_append_right (by rw [lenX S1, ← hnb]; exact Nat.le_refl _), lenX S1, ← hnb, Nat.sub_self]; rfl
      have hrest : ∀ y ∈ rest, y ∈ xs := fun y h => hp.mem_iff.mp (List.mem_append_right _ h)
      obtain ⟨r, A2, e, r0, r1, S2⟩ := nextX (X := X) [M.lst (rest.map D.str), .lst (found.map D.str)] (m := (m + 1 : Nat)) S1 (by omega) (by omega) (by omega)
      have hrl : r.toNat < rest.length := by omega
      have g2 : (A2 ++ X ++ [M.lst (rest.map D.str), .lst (found.map D.str)])[nb]? = some (.lst (rest.map D.str)) := by rw [List.getElem?_append_right (by rw [lenX S2, ← hnb]; exact Nat.le_refl _), lenX S2, ← hnb, Nat.sub_self]; rfl
      have u1 : (A2 ++ X ++ [M.lst (rest.map D.str), .lst (found.map D.str)]).set nb (.lst ((rest.map D.str).eraseIdx r.toNat)) = A2 ++ X ++ [M.lst ((rest.eraseIdx r.toNat).map D.str), .lst (found.map D.str)] := by
        rw [List.set_append_right _ _ (by rw [lenX S2, ← hnb]; exact Nat.le_refl _), lenX S2, ← hnb, Nat.sub_self, map_erase]
        rfl
      have g3 : (A2 ++ X ++ [M.lst ((rest.eraseIdx r.toNat).map D.str), .lst (found.map D.str)])[nb + 1]? = some (.lst (found.map D.str)) := by rw [List.getElem?_append_right (by rw [lenX S2, ← hnb]; omega), lenX S2, ← hnb, show nb + 1 - nb = 1 by omega]; rfl
      have u2 : (A2 ++ X ++ [M.lst ((rest.eraseIdx r.toNat).map D.str), .lst (found.map D.str)]).set (nb + 1) (.lst (found.map D.str ++ [.str rest[r.toNat]])) = A2 ++ X ++ [M.lst ((rest.eraseIdx r.toNat).map D.str), .lst ((found ++ [rest[r.toNat]]).map D.str)] := by
        rw [List.set_append_right _ _ (by rw [lenX S2, ← hnb]; omega), lenX S2, ← hnb, show nb + 1 - nb = 1 by omega, List.map_append]
        rfl
      let ro : DV.Env := [some (.ref k), some (.lst (xs.map D.str)), some (.ref nb), some (.ref (nb + 1))]
      have hpop : eMeth isL gPopAt (eVar 2) (aCons (eArgs (fun ds A => F__law_next (ds ++ []) A) (aCons (eVar 0) (aCons (eArgs gLen (aCons (eVar 2) aNil)) aNil))) aNil) ro (A1 ++ X ++ [.lst (rest.map D.str), .lst (found.map D.str)]) = .ok (.str rest[r.toNat]) (A2 ++ X ++ [M.lst ((rest.eraseIdx r.toNat).map D.str), .lst (found.map D.str)]) := by
        have e1 : eArgs gLen (aCons (eVar 2) aNil) ro (A1 ++ X ++ [.lst (rest.map D.str), .lst (found.map D.str)]) = .ok (.int (m + 1 : Nat)) (A1 ++ X ++ [.lst (rest.map D.str), .lst (found.map D.str)]) := args1_ok (d := .ref nb) rfl (by
          unfold gLen asQ asR asL
          simp only [g]
          rw [List.length_map, hr])
        have e2 : eArgs (fun ds A => F__law_next (ds ++ []) A) (aCons (eVar 0) (aCons (eArgs gLen (aCons (eVar 2) aNil)) aNil)) ro (A1 ++ X ++ [.lst (rest.map D.str), .lst (found.map D.str)]) = .ok (.int r) (A2 ++ X ++ [.lst (rest.map D.str), .lst (found.map D.str)]) := args2_ok (d := .ref k) rfl e1 e
        unfold eMeth
        rw [show eVar 2 ro (A1 ++ X ++ [.lst (rest.map D.str), .lst (found.map D.str)]) = .ok (.ref nb) (A1 ++ X ++ [.lst (rest.map D.str), .lst (found.map D.str)]) from rfl, R.bind_ok]
        have il : isL (A1 ++ X ++ [.lst (rest.map D.str), .lst (found.map D.str)]) (.ref nb) = true := by
          unfold isL asR asL
          simp only [g]
          rfl
        rw [if_pos il, acons_ok e2 (show aNil ro _ = .ok [] _ from rfl), R.bind_ok]
        unfold gPopAt numL
        simp only [g2]
        have hg : (rest.map D.str)[r.toNat]? = some (.str rest[r.toNat]) := by rw [List.getElem?_map, List.getElem?_eq_getElem hrl]; rfl
        rw [if_pos ⟨r0, by omega⟩, hg]
        show R.ok _ _ = _
        rw [u1]
      have happ : eMeth isL gAppend (eVar 3) (aCons (eMeth isL gPopAt (eVar 2) (aCons (eArgs (fun ds A => F__law_next (ds ++ []) A) (aCons (eVar 0) (aCons (eArgs gLen (aCons (eVar 2) aNil)) aNil))) aNil)) aNil) ro (A1 ++ X ++ [.lst (rest.map D.str), .lst (found.map D.str)]) = .ok .non (A2 ++ X ++ [M.lst ((rest.eraseIdx r.toNat).map D.str), .lst ((found ++ [rest[r.toNat]]).map D.str)]) := by
        unfold eMeth at hpop ⊢
        rw [show eVar 3 ro (A1 ++ X ++ [.lst (rest.map D.str), .lst (found.map D.str)]) = .ok (.ref (nb + 1)) (A1 ++ X ++ [.lst (rest.map D.str), .lst (found.map D.str)]) from rfl, R.bind_ok]
        have g' : (A1 ++ X ++ [M.lst (rest.map D.str), .lst (found.map D.str)])[nb + 1]? = some (.lst (found.map D.str)) := by rw [List.getElem?_append_right (by rw [lenX S1, ← hnb]; omega), lenX S1, ← hnb, show nb + 1 - nb = 1 by omega]; rfl
        have il : isL (A1 ++ X ++ [.lst (rest.map D.str), .lst (found.map D.str)]) (.ref (nb + 1)) = true := by
          unfold isL asR asL
          simp only [g']
          rfl
        rw [if_pos il, acons_ok hpop (show aNil ro _ = .ok [] _ from rfl), R.bind_ok]
        unfold gAppend numL
        simp only [g3]
        rw [if_pos (by rw [List.length_map]; omega), u2]
      have hlr : (rest.eraseIdx r.toNat).length = m := by rw [List.length_eraseIdx_of_lt hrl, hr]; omega
      obtain ⟨ys, A3, e3, p3, S3⟩ := ih (rest.eraseIdx r.toNat) (found ++ [rest[r.toNat]]) A2 N hlr (by omega) (by rw [List.length_append, hlr]; simp; omega) (by
        refine List.Perm.trans ?_ hp
        rw [List.append_assoc]
        refine List.Perm.append_left _ ?_
        exact perm_erase rest r.toNat hrl) (S2.le (by rw [List.length_append]; simp; omega))
      refine ⟨ys, A3, whileD_step (A1 := A1 ++ X ++ [.lst (rest.map D.str), .lst (found.map D.str)]) (tcmp_ok (d := .ref nb) (e := .lst []) (A1 := A1 ++ X ++ [.lst (rest.map D.str), .lst (found.map D.str)]) (A2 := A1 ++ X ++ [.lst (rest.map D.str), .lst (found.map D.str)]) rfl (args_ok (ds := []) rfl rfl) ((gNe_num g (lay rest hrest)).trans ?_)) ?_ e3, p3, S3⟩
      · cases rest with
        | nil => cases hr
        | cons _ _ => rfl
      · unfold sEx
        rw [happ]
        rfl
  obtain ⟨ys, A2, e, p, S2⟩ := loop xs.length xs [] A 200 rfl (by omega) (by simp) (by simp) (S.le (by simp))
  refine ⟨ys, A2, ?_, p, S2⟩
  show finR (A ++ X) (b__law_mixed [some (.ref k), some (.lst (xs.map D.str)), none, none] (A ++ X)) = _
  have par : sPar (aCons (eArgs gListM (aCons (eVar 1) aNil)) (aCons (eArgs gLstM aNil) aNil)) [2, 3] [some (.ref k), some (.lst (xs.map D.str)), none, none] (A ++ X) = .go .nx [some (.ref k), some (.lst (xs.map D.str)), some (.ref nb), some (.ref (nb + 1))] (A ++ X ++ [.lst (xs.map D.str), .lst []]) := by
    have a1 : eArgs gListM (aCons (eVar 1) aNil) [some (.ref k), some (.lst (xs.map D.str)), none, none] (A ++ X) = .ok (.ref nb) (A ++ X ++ [.lst (xs.map D.str)]) := args1_ok (A1 := A ++ X) (d := .lst (xs.map D.str)) rfl (by
      show R.ok (D.ref (A ++ X).length) (A ++ X ++ [.lst (xs.map D.str)]) = _
      rw [lenX S, ← hnb])
    have a2 : eArgs gLstM aNil [some (.ref k), some (.lst (xs.map D.str)), none, none] (A ++ X ++ [.lst (xs.map D.str)]) = .ok (.ref (nb + 1)) ((A ++ X ++ [.lst (xs.map D.str)]) ++ [.lst []]) := args_ok (ds := []) (A1 := A ++ X ++ [.lst (xs.map D.str)]) rfl (by
      show R.ok (D.ref (A ++ X ++ [M.lst (xs.map D.str)]).length) _ = _
      rw [List.length_append, lenX S, ← hnb]
      rfl)
    unfold sPar
    rw [acons_ok a1 (acons_ok a2 (show aNil _ _ = .ok [] _ from rfl))]
    rw [List.append_assoc (A ++ X)]
    rfl
  unfold b__law_mixed
  have body := sseq_ok par (sseq_ok e (sret_ok (a := eVar 3) (d := .ref (nb + 1)) (A1 := A2 ++ X ++ [.lst [], .lst (ys.map D.str)]) rfl))
  rw [body]
  show cutR (A ++ X) (.ref (nb + 1)) (A2 ++ X ++ [.lst [], .lst (ys.map D.str)]) = _
  have := cut_ref (A := A ++ X) (A1 := A2 ++ X) (X := [.lst [], .lst (ys.map D.str)]) (j := 1) (ds := ys.map D.str) (by rw [lenX S, lenX S2]) (fun m hm => (List.mem_append.mp hm).elim (fun w => S2.low m w _) fun w => hX m w _) rfl (strs_lt _ _)
  rw [lenX S, ← hnb] at this
  exact this
end K07

set_option Elab.async false
set_option linter.all false
set_option maxRecDepth 100000
namespace K07
open PySem PySem.Spec PyProof.Rows L2 DV
theorem tor_f {t u : TF} {A A1 A3 : Hd} {ro : DV.Env} {w : Bool} (h1 : t ro A = .ok false A1) (h2 : u ro A1 = .ok w A3) : tOrD t u ro A = .ok w A3 := tor_ok h1 h2
theorem tor_t {t u : TF} {A A1 : Hd} {ro : DV.Env} (h1 : t ro A = .ok true A1) : tOrD t u ro A = .ok true A1 := tor_ok h1 rfl
/-- a comprehension that keeps some of the items, by drawn tests -/
theorem compD_sub {s : Src} {pt : Pat} {vs : List Nat} {tt : TF} {te : EF} {ro : DV.Env} {I : Nat → Hd → Prop} (hs : ∀ i A, I i A → s.here A) : ∀ (ds acc : List D) (i : Nat) (A : Hd), acc.length + ds.length ≤ sizeLine → I i A →
    (∀ j d A, ds[j]? = some d → I (i + j) A → ∃ ro1, pt.put d (wipeD ro vs) = some ro1 ∧ ∃ b A1, tt ro1 A = .ok b A1 ∧ I (i + j + 1) A1 ∧ te ro1 A1 = .ok d A1) →
    ∃ ys A', compD s pt vs tt te ro ds acc A = .ok (acc ++ ys) A' ∧ I (i + ds.length) A' ∧ ys.Sublist ds
  | [], acc, i, A, _, h, _ => ⟨[], A, by unfold compD; rw [if_pos (hs i A h), List.append_nil], h, List.Sublist.refl _⟩
  | d :: ds, acc, i, A, hl, h, st => by
    obtain ⟨ro1, e1, b, A1, e2, h1, h2⟩ := st 0 d A rfl h
    rw [List.length_cons] at hl
    have nx : ∀ j d A, ds[j]? = some d → I (i + 1 + j) A → ∃ ro1, pt.put d (wipeD ro vs) = some ro1 ∧ ∃ b A1, tt ro1 A = .ok b A1 ∧ I (i + 1 + j + 1) A1 ∧ te ro1 A1 = .ok d A1 := fun j d' A hd hI => by
      have := st (j + 1) d' A (by simpa using hd) (by rw [show i + (j + 1) = i + 1 + j by omega]; exact hI)
      rw [show i + (j + 1) + 1 = i + 1 + j + 1 by omega] at this
      exact this
    unfold compD
    rw [if_pos (hs i A h), e1]
    simp only [e2, calm_ok, R.bind_ok]
    cases b with
    | true =>
      obtain ⟨ys, A', q1, q2, q3⟩ := compD_sub hs ds (acc ++ [d]) (i + 1) A1 (by rw [List.length_append]; simp; omega) h1 nx
      refine ⟨d :: ys, A', ?_, by rw [List.length_cons, show i + (ds.length + 1) = i + 1 + ds.length by omega]; exact q2, q3.cons₂ d⟩
      rw [if_pos rfl, h2, calm_ok, R.bind_ok, if_pos (by omega), q1, List.append_assoc]
      rfl
    | false =>
      obtain ⟨ys, A', q1, q2, q3⟩ := compD_sub hs ds acc (i + 1) A1 (by omega) h1 nx
      refine ⟨ys, A', ?_, by rw [List.length_cons, show i + (ds.length + 1) = i + 1 + ds.length by omega]; exact q2, q3.cons d⟩
      rw [if_neg (by simp), q1]
theorem step_okL {i : Nat} {d : D} {ro0 ro : DV.Env} {A : Hd} {b : SF} {o : Out} (h : b ro A = o) (e : ro0.set i (some d) = ro := by rfl) : (gNm i d ro0 A).out.next b = o := by subst e; exact h
def names8 : List Str := ["a", "b", "c", "d", "node", "f", "box", "h"]
theorem sub_strs {xs : List Str} {ys : List D} (h : ys.Sublist (xs.map D.str)) : ∃ zs : List Str, ys = zs.map D.str ∧ zs.Sublist xs := by
  obtain ⟨zs, h1, h2⟩ := List.sublist_map_iff.mp h
  exact ⟨zs, h2, h1⟩
/-- a row of the law: different names of the eight -/
def rowOf (r : List Str) : Prop := ∃ p : List Str, p.Perm names8 ∧ r.Sublist p
theorem rowOf_mem {r : List Str} (h : rowOf r) : r.Nodup ∧ (∀ x ∈ r, x ∈ names8) ∧ r.length ≤ 8 := by
  obtain ⟨p, hp, hs⟩ := h
  have nd : names8.Nodup := by decide +kernel
  exact ⟨(hp.nodup_iff.mpr nd).sublist hs, fun x hx => hp.mem_iff.mp (hs.subset hx), Nat.le_trans hs.length_le (Nat.le_of_eq hp.length_eq)⟩
theorem low_row (r : List Str) (z : Nat) : D.lt z (rowD r) = true := by
  unfold rowD D.lt
  exact strs_lt z r
theorem low_rows : ∀ (rs : List (List Str)) (z : Nat), D.lts z (rs.map rowD) = true
  | [], _ => by simp [D.lts]
  | r :: rs, z => by
    rw [List.map_cons]
    unfold D.lts
    rw [low_row, low_rows rs z]
    rfl
theorem cut_sub (ds : List D) (lo hi : Option Int) : (DV.cutD ds lo hi).Sublist ds := (List.take_sublist _ _).trans (List.drop_sublist _ _)
theorem rowsN {n k : Nat} {A : Hd} {T : Int} {many most : Nat} (free : Bool) (S : SN n k A T) (hT : T + 400 ≤ 2 ^ 40) (hm : many ≤ 10) (hm2 : most ≤ 10) : ∃ (rs : List (List Str)) (A' : Hd), F__law_name_rows [.ref k, .int many, .int most, .bl free] A = .ok (.lst (rs.map rowD)) A' ∧ (∀ r ∈ rs, rowOf r) ∧ rs.length = many ∧ SN n k A' (T + 200) ∧ (free = false → ∃ w, rowOf w ∧ ∀ r ∈ rs, r.Sublist w) := by
  have z := sz1000
  have lay8 : names8.all laid = true := by decide +kernel
  have l8 : ∀ (ro : DV.Env) (A : Hd), eArgs gLstD (aCons (eC (.str "a")) (aCons (eC (.str "b")) (aCons (eC (.str "c")) (aCons (eC (.str "d")) (aCons (eC (.str "node")) (aCons (eC (.str "f")) (aCons (eC (.str "box")) (aCons (eC (.str "h")) aNil)))))))) ro A = .ok (.lst (names8.map D.str)) A := fun ro A => args_ok (A1 := A) (ds := names8.map D.str) rfl (by unfold gLstD; rw [if_pos (by show 8 ≤ sizeLine; omega)])
  obtain ⟨ys, A1, e1, p1, S1⟩ := mixN (X := []) (by intro m hm; cases hm) S (by omega) (by decide) lay8
  rw [List.append_nil, List.append_nil] at e1
  have S1 : SN n k A1 (T + 8) := S1
  let ro0 : DV.Env := [some (.ref k), some (.int many), some (.int most), some (.bl free), none, none, none, none, none]
  have ecut : eCut (eArgs (fun ds A => F__law_mixed (ds ++ []) A) (aCons (eVar 0) (aCons (eArgs gLstD (aCons (eC (.str "a")) (aCons (eC (.str "b")) (aCons (eC (.str "c")) (aCons (eC (.str "d")) (aCons (eC (.str "node")) (aCons (eC (.str "f")) (aCons (eC (.str "box")) (aCons (eC (.str "h")) aNil))))))))) aNil))) oNone (oSome (eVar 2)) ro0 A = .ok (.lst (DV.cutD (ys.map D.str) none (some (most : Int)))) A1 := by
    have ea : eArgs (fun ds A => F__law_mixed (ds ++ []) A) (aCons (eVar 0) (aCons (eArgs gLstD (aCons (eC (.str "a")) (aCons (eC (.str "b")) (aCons (eC (.str "c")) (aCons (eC (.str "d")) (aCons (eC (.str "node")) (aCons (eC (.str "f")) (aCons (eC (.str "box")) (aCons (eC (.str "h")) aNil))))))))) aNil)) ro0 A = .ok (.lst (ys.map D.str)) A1 := args2_ok (d := .ref k) (A1 := A) rfl (l8 _ _) e1
    unfold eCut
    rw [ea]
    rfl
  obtain ⟨ws, hws, sws⟩ := sub_strs (cut_sub (ys.map D.str) none (some (most : Int)))
  rw [hws] at ecut
  have wsrow : rowOf ws := ⟨ys, p1, sws⟩
  obtain ⟨_, wmem, wlen⟩ := rowOf_mem wsrow
  have wlay : ws.all laid = true := List.all_eq_true.mpr fun x hx => List.all_eq_true.mp lay8 x (wmem x hx)
  have par : sPar (aCons (eCut (eArgs (fun ds A => F__law_mixed (ds ++ []) A) (aCons (eVar 0) (aCons (eArgs gLstD (aCons (eC (.str "a")) (aCons (eC (.str "b")) (aCons (eC (.str "c")) (aCons (eC (.str "d")) (aCons (eC (.str "node")) (aCons (eC (.str "f")) (aCons (eC (.str "box")) (aCons (eC (.str "h")) aNil))))))))) aNil))) oNone (oSome (eVar 2))) (aCons (eArgs gLstM aNil) aNil)) [4, 5] ro0 A = .go .nx [some (.ref k), some (.int many), some (.int most), some (.bl free), some (.lst (ws.map D.str)), some (.ref n), none, none, none] (A1 ++ [.lst []]) := by
    have a2 : eArgs gLstM aNil ro0 A1 = .ok (.ref n) (A1 ++ [.lst []]) := args_ok (ds := []) (A1 := A1) rfl (by
      show R.ok (D.ref A1.length) _ = _
      rw [S1.len])
    unfold sPar
    rw [acons_ok ecut (acons_ok a2 (show aNil _ _ = .ok [] _ from rfl))]
    rfl
  -- the rows
  obtain ⟨ro2, A2, e2, rs, A3, t6, t7, t8, rfl, rfl, hrs, lrs, S3, hw3⟩ := forD_run (s := .fix (rangeD 0 many)) (g := gNm 6)
    (b := sSeq (sAsg (eIf (tOrD (tNotD (tOfE (eVar 3))) (tCmpD gEq (eArgs (fun ds A => F__law_next (ds ++ []) A) (aCons (eVar 0) (aCons (eC (.int 2)) aNil))) (eC (.int 0)))) (eVar 4) (eArgs (fun ds A => F__law_mixed (ds ++ []) A) (aCons (eVar 0) (aCons (eVar 4) aNil)))) (gNm 7))
      (sEx (eMeth isL gAppend (eVar 5) (aCons (eArgs gTuple (aCons (eComp (iSeq (eVar 7)) (.one 8) [8] (tCmpD gGt (eArgs (fun ds A => F__law_next (ds ++ []) A) (aCons (eVar 0) (aCons (eC (.int 3)) aNil))) (eC (.int 0))) (eVar 8)) aNil)) aNil))))
    (I := fun i ro A' => ∃ (rs : List (List Str)) (A3 : Hd) (t6 t7 t8 : Option D), ro = [some (.ref k), some (.int many), some (.int most), some (.bl free), some (.lst (ws.map D.str)), some (.ref n), t6, t7, t8] ∧ A' = A3 ++ [M.lst (rs.map rowD)] ∧ (∀ r ∈ rs, rowOf r) ∧ rs.length = i ∧ SN n k A3 (T + 8 + 18 * (i : Nat)) ∧ (free = false → ∀ r ∈ rs, r.Sublist ws))
    (fun _ _ A _ => here_fix _ A) (rangeD 0 many) 0 [some (.ref k), some (.int many), some (.int most), some (.bl free), some (.lst (ws.map D.str)), some (.ref n), none, none, none] (A1 ++ [.lst []]) ⟨[], A1, none, none, none, rfl, rfl, (by intro r hr; cases hr), rfl, S1.le (by omega), (by intro _ r hr; cases hr)⟩ (by
      rintro j d ro A' hd ⟨rs, A3, t6, t7, t8, rfl, rfl, hrs, lrs, S3, hw3⟩
      have hj : j < many := by
        have := (List.getElem?_eq_some_iff.mp hd).1
        simpa [rangeD] using this
      have lowX : ∀ m ∈ [M.lst (rs.map rowD)], ∀ z, M.lt z m = true := fun m hm z => by
        rw [List.mem_singleton.mp hm]
        exact low_rows rs z
      let ro6 : DV.Env := [some (.ref k), some (.int many), some (.int most), some (.bl free), some (.lst (ws.map D.str)), some (.ref n), some d, t7, t8]
      obtain ⟨r, A4, g1, r0, r1, S4⟩ := nextN (X := [M.lst (rs.map rowD)]) (m := 2) S3 (by omega) (by omega) (by omega)
      have test : free = true → tOrD (tNotD (tOfE (eVar 3))) (tCmpD gEq (eArgs (fun ds A => F__law_next (ds ++ []) A) (aCons (eVar 0) (aCons (eC (.int 2)) aNil))) (eC (.int 0))) ro6 (A3 ++ [M.lst (rs.map rowD)]) = .ok (decide (r = 0)) (A4 ++ [M.lst (rs.map rowD)]) := fun hf => by
        subst hf
        exact tor_f (tnot_ok (z := true) (A1 := A3 ++ [M.lst (rs.map rowD)]) (trub_ok rfl)) (tcmp_ok (d := .int r) (args2_ok (d := .ref k) (e := .int 2) (A1 := A3 ++ [M.lst (rs.map rowD)]) (A2 := A3 ++ [M.lst (rs.map rowD)]) rfl rfl g1) rfl (gEq_int _ _ _))
      have some7 : ∃ (qs : List Str) (A5 : Hd), eIf (tOrD (tNotD (tOfE (eVar 3))) (tCmpD gEq (eArgs (fun ds A => F__law_next (ds ++ []) A) (aCons (eVar 0) (aCons (eC (.int 2)) aNil))) (eC (.int 0)))) (eVar 4) (eArgs (fun ds A => F__law_mixed (ds ++ []) A) (aCons (eVar 0) (aCons (eVar 4) aNil))) ro6 (A3 ++ [M.lst (rs.map rowD)]) = .ok (.lst (qs.map D.str)) (A5 ++ [M.lst (rs.map rowD)]) ∧ rowOf qs ∧ SN n k A5 (T + 8 + 18 * ((0 + j : Nat) : Int) + 9) ∧ (free = false → qs = ws) := by
        cases free with
        | false => exact ⟨ws, A3, if_ok (z := true) (A1 := A3 ++ [M.lst (rs.map rowD)]) (tor_t (tnot_ok (z := false) (A1 := A3 ++ [M.lst (rs.map rowD)]) (trub_ok rfl))) rfl, wsrow, S3.le (by omega), fun _ => rfl⟩
        | true =>
        have test := test rfl
        by_cases q : r = 0
        · refine ⟨ws, A4, if_ok (z := true) (test.trans (by rw [decide_eq_true q])) rfl, wsrow, S4.le (by omega), fun _ => rfl⟩
        · obtain ⟨qs, A5, g2, p2, S5⟩ := mixN [M.lst (rs.map rowD)] lowX S4 (by omega) (by omega) wlay
          have g2' : eArgs (fun ds A => F__law_mixed (ds ++ []) A) (aCons (eVar 0) (aCons (eVar 4) aNil)) ro6 (A4 ++ [M.lst (rs.map rowD)]) = .ok (.lst (qs.map D.str)) (A5 ++ [M.lst (rs.map rowD)]) := args2_ok (d := .ref k) (e := .lst (ws.map D.str)) (A1 := A4 ++ [M.lst (rs.map rowD)]) (A2 := A4 ++ [M.lst (rs.map rowD)]) rfl rfl g2
          refine ⟨qs, A5, if_ok (z := false) (test.trans (by rw [decide_eq_false q])) g2', ?_, S5.le (by omega), fun h => by cases h⟩
          obtain ⟨p, hp, hs⟩ := wsrow
          -- a permutation of a part of the names
          obtain ⟨rest, hrest⟩ : ∃ rest, p.Perm (ws ++ rest) := hs.exists_perm_append
          exact ⟨qs ++ rest, ((p2.append_right rest).trans hrest.symm).trans hp, List.sublist_append_left _ _⟩
      obtain ⟨qs, A5, g2, rq, S5, hq5⟩ := some7
      obtain ⟨_, _, ql⟩ := rowOf_mem rq
      let ro7 : DV.Env := [some (.ref k), some (.int many), some (.int most), some (.bl free), some (.lst (ws.map D.str)), some (.ref n), some d, some (.lst (qs.map D.str)), t8]
      obtain ⟨zs, A6, g3, ⟨A7, rfl, S7⟩, sub⟩ := compD_sub (s := .fix (qs.map D.str)) (pt := .one 8) (vs := [8]) (tt := tCmpD gGt (eArgs (fun ds A => F__law_next (ds ++ []) A) (aCons (eVar 0) (aCons (eC (.int 3)) aNil))) (eC (.int 0))) (te := eVar 8) (ro := ro7) (I := fun i A' => ∃ A7, A' = A7 ++ [M.lst (rs.map rowD)] ∧ SN n k A7 (T + 8 + 18 * ((0 + j : Nat) : Int) + 9 + (i : Nat)))
        (fun _ A _ => here_fix _ A) (qs.map D.str) [] 0 (A5 ++ [M.lst (rs.map rowD)]) (by simp; omega) ⟨A5, rfl, S5.le (by omega)⟩ (by
          rintro i x A' hx ⟨A7, rfl, S7⟩
          have hi : i < 8 := by
            have := (List.getElem?_eq_some_iff.mp hx).1
            rw [List.length_map] at this
            omega
          obtain ⟨r, A8, g4, r0, r1, S8⟩ := nextN (X := [M.lst (rs.map rowD)]) (m := 3) S7 (by omega) (by omega) (by omega)
          refine ⟨_, rfl, decide (0 < r), A8 ++ [M.lst (rs.map rowD)], ?_, ⟨A8, rfl, S8.le (by omega)⟩, rfl⟩
          exact tcmp_ok (d := .int r) (args2_ok (d := .ref k) (e := .int 3) (A1 := A7 ++ [M.lst (rs.map rowD)]) (A2 := A7 ++ [M.lst (rs.map rowD)]) rfl rfl g4) rfl rfl)
      rw [List.nil_append] at g3
      obtain ⟨vs, rfl, sv⟩ := sub_strs sub
      have rv : rowOf vs := by
        obtain ⟨p, hp, hs⟩ := rq
        exact ⟨p, hp, sv.trans hs⟩
      have g5 : eArgs gTuple (aCons (eComp (iSeq (eVar 7)) (.one 8) [8] (tCmpD gGt (eArgs (fun ds A => F__law_next (ds ++ []) A) (aCons (eVar 0) (aCons (eC (.int 3)) aNil))) (eC (.int 0))) (eVar 8)) aNil) ro7 (A5 ++ [M.lst (rs.map rowD)]) = .ok (rowD vs) (A7 ++ [M.lst (rs.map rowD)]) := args1_ok (comp_ok (seq_ok rfl rfl) g3) rfl
      have gx : (A7 ++ [M.lst (rs.map rowD)])[n]? = some (.lst (rs.map rowD)) := by rw [List.getElem?_append_right (by rw [S7.len]; exact Nat.le_refl _), S7.len, Nat.sub_self]; rfl
      have gy : (A5 ++ [M.lst (rs.map rowD)])[n]? = some (.lst (rs.map rowD)) := by rw [List.getElem?_append_right (by rw [S5.len]; exact Nat.le_refl _), S5.len, Nat.sub_self]; rfl
      have happ : eMeth isL gAppend (eVar 5) (aCons (eArgs gTuple (aCons (eComp (iSeq (eVar 7)) (.one 8) [8] (tCmpD gGt (eArgs (fun ds A => F__law_next (ds ++ []) A) (aCons (eVar 0) (aCons (eC (.int 3)) aNil))) (eC (.int 0))) (eVar 8)) aNil)) aNil) ro7 (A5 ++ [M.lst (rs.map rowD)]) = .ok .non (A7 ++ [M.lst ((rs ++ [vs]).map rowD)]) := by
        unfold eMeth
        rw [show eVar 5 ro7 (A5 ++ [M.lst (rs.map rowD)]) = .ok (.ref n) (A5 ++ [M.lst (rs.map rowD)]) from rfl, R.bind_ok]
        have il : isL (A5 ++ [M.lst (rs.map rowD)]) (.ref n) = true := by
          unfold isL asR asL
          simp only [gy]
          rfl
        rw [if_pos il, acons_ok g5 (show aNil ro7 _ = .ok [] _ from rfl), R.bind_ok]
        unfold gAppend numL
        simp only [gx]
        rw [if_pos (by rw [List.length_map]; omega), List.set_append_right _ _ (by rw [S7.len]; exact Nat.le_refl _), S7.len, Nat.sub_self, List.map_append]
        rfl
      refine ⟨ro7, A7 ++ [M.lst ((rs ++ [vs]).map rowD)], ?_, rs ++ [vs], A7, _, _, _, rfl, rfl, ?_, by rw [List.length_append, lrs]; rfl, S7.le (by rw [List.length_map]; omega), ?_⟩
      · refine step_okL (ro := ro6) ?_
        refine sseq_ok (ro' := ro7) (sasg_ok g2) ?_
        unfold sEx
        rw [happ]
        rfl
      · intro r hr
        rcases List.mem_append.mp hr with w | w
        · exact hrs r w
        · rw [List.mem_singleton.mp w]; exact rv
      · intro hf r hr
        rcases List.mem_append.mp hr with w | w
        · exact hw3 hf r w
        · rw [List.mem_singleton.mp w, ← hq5 hf]
          exact sv)
  have lm : (rangeD 0 many).length = many := by simp [rangeD]
  rw [lm, Nat.zero_add] at lrs
  rw [lm, Nat.zero_add] at S3
  refine ⟨rs, A3, ?_, hrs, lrs, S3.le (by omega), fun hf => ⟨ws, wsrow, hw3 hf⟩⟩
  show finR A (b__law_name_rows ro0 A) = _
  unfold b__law_name_rows
  have rn := rng_ok (a := eVar 1) (ro := [some (.ref k), some (.int many), some (.int most), some (.bl free), some (.lst (ws.map D.str)), some (.ref n), none, none, none]) (A := A1 ++ [.lst []]) (A1 := A1 ++ [.lst []]) (n := many) rfl (by omega) (by omega)
  have body := sseq_ok par (sseq_ok (sfor_ok rn e2) (sret_ok (a := eVar 5) (d := .ref n) (A1 := A3 ++ [M.lst (rs.map rowD)]) rfl))
  rw [body]
  show cutR A (.ref n) (A3 ++ [M.lst (rs.map rowD)]) = _
  have := cut_ref (A := A) (A1 := A3) (X := [M.lst (rs.map rowD)]) (j := 0) (ds := rs.map rowD) (by rw [S.len, S3.len]) (S3.ml _) rfl (low_rows _ _)
  rw [S.len] at this
  exact this
end K07

set_option Elab.async false
set_option linter.all false
set_option maxRecDepth 100000
namespace K07
open PySem PySem.Spec PyProof.Rows L2 DV
/-! ### lists of texts as data -/
def listD (r : List Str) : D := .lst (r.map D.str)
theorem strs_lay : ∀ {r : List Str}, r.all laid = true → ∃ ps, toPs (r.map D.str) = some ps ∧ PyData.canLayAll0 ps = true ∧ PyData.depthAll ps = 0
  | [], _ => ⟨[], rfl, rfl, rfl⟩
  | x :: r, h => by
    rw [List.all_cons, Bool.and_eq_true] at h
    obtain ⟨ps, h1, h2, h3⟩ := strs_lay h.2
    refine ⟨.str x :: ps, ?_, ?_, ?_⟩
    · rw [List.map_cons]
      unfold toPs
      rw [h1]
      simp [toP]
    · unfold PyData.canLayAll0
      rw [h2, show PyData.canLay0 (.str x) = true from h.1]
      rfl
    · unfold PyData.depthAll
      rw [h3]
      rfl
theorem lay_listD {r : List Str} (h : r.all laid = true) : layD (listD r) = true := by
  obtain ⟨ps, h1, h2, h3⟩ := strs_lay h
  have e : toP (listD r) = some (.list ps) := by
    unfold listD toP
    rw [h1]
  unfold layD
  rw [e]
  have d1 : PyData.depth (.list ps) = PyData.depthAll ps + 1 := by
    first | rfl | (unfold PyData.depth; omega)
  show (PyData.canLay0 (.list ps) && decide (PyData.depth (.list ps) ≤ 50)) = true
  rw [d1, h3]
  unfold PyData.canLay0
  rw [h2]
  rfl
theorem lay_strs {r : List Str} (h : r.all laid = true) : ∀ d ∈ r.map D.str, layD d = true := fun d hd => by
  obtain ⟨y, hy, rfl⟩ := List.mem_map.mp hd
  exact layD_str (List.all_eq_true.mp h y hy)
theorem flat_strs (r : List Str) : (r.map D.str).all flatD = true := by
  rw [List.all_map]
  exact List.all_eq_true.mpr fun _ _ => rfl
theorem in_list (x : Str) (r : List Str) (A : Hd) : gIn (.str x) (listD r) A = .ok (.bl (decide (x ∈ r))) A := by
  have e : inP (.str x) (listD r) A = some (decide (x ∈ r)) := by
    show (if flatD (.str x) = true ∧ (r.map D.str).all flatD = true then some (memF (.str x) (r.map D.str)) else none) = _
    rw [if_pos ⟨rfl, flat_strs r⟩]
    congr 1
    unfold memF
    rw [List.any_map]
    induction r with
    | nil => rfl
    | cons a r ih =>
      rw [List.any_cons, ih]
      by_cases q : a = x
      · subst q
        simp [eqF]
      · have q2 : ¬ x = a := fun z => q z.symm
        simp [eqF, q, q2]
  unfold gIn
  rw [e]
/-- what the law's tests say of a row -/
def someD (d : D) : Bool := match d with
  | .lst xs => !xs.isEmpty
  | _ => false
def headD (d : D) : D := match d with
  | .lst (x :: _) => x
  | _ => .non
theorem heads_D : ∀ ls : List (List Str), ((ls.map listD).filter someD).map headD = (Mg.headsOf ls).map D.str
  | [] => rfl
  | [] :: ls => heads_D ls
  | (x :: l) :: ls => by
    have ih := heads_D ls
    simpa [Mg.headsOf, listD, someD, headD] using ih
theorem filter_listD (p : List Str → Bool) (q : D → Bool) (h : ∀ r, q (listD r) = p r) (ls : List (List Str)) : (ls.map listD).filter q = (ls.filter p).map listD := by
  rw [List.filter_map]
  congr 1
  exact List.filter_congr fun r _ => h r
theorem cut_listD (r : List Str) : DV.cutD (r.map D.str) (some 1) none = r.tail.map D.str := by
  have e : ∀ n : Nat, HT.sIx n 0 (some 1) = min 1 n := fun n => by
    unfold HT.sIx
    simp
  have e2 : ∀ n : Nat, HT.sIx n n none = n := fun n => rfl
  unfold DV.cutD
  rw [e, e2]
  cases r with
  | nil => rfl
  | cons a r =>
    simp
    exact List.take_of_length_le (by rw [List.length_map]; exact Nat.le_refl _)
end K07

set_option Elab.async false
set_option linter.all false
set_option maxRecDepth 100000
namespace K07
open PySem PySem.Spec PyProof.Rows L2 DV
/-- lists of different names -/
structure Fine (ls : List (List Str)) : Prop where
  nd : ∀ l ∈ ls, l.Nodup
  lay : ∀ l ∈ ls, l.all laid = true
  cnt : ls.length ≤ 10
  len : ∀ l ∈ ls, l.length ≤ 12
theorem drop_sub (g : Str) (l : List Str) : (Mg.dropHead g l).Sublist l := by
  unfold Mg.dropHead
  split
  · exact List.tail_sublist _
  · exact List.Sublist.refl _
theorem Fine.step {ls : List (List Str)} (h : Fine ls) (g : Str) : Fine (Mg.step ls g) := by
  refine ⟨Mg.step_nodup h.nd, fun l hl => ?_, by unfold Mg.step; rw [List.length_map]; exact h.cnt, fun l hl => ?_⟩
  · obtain ⟨l0, h0, rfl⟩ := List.mem_map.mp hl
    exact List.all_eq_true.mpr fun x hx => List.all_eq_true.mp (h.lay l0 h0) x ((drop_sub g l0).subset hx)
  · obtain ⟨l0, h0, rfl⟩ := List.mem_map.mp hl
    exact Nat.le_trans (drop_sub g l0).length_le (h.len l0 h0)
theorem heads_le (ls : List (List Str)) : (Mg.headsOf ls).length ≤ ls.length := List.length_filterMap_le _ _
theorem heads_lay {ls : List (List Str)} (h : Fine ls) : (Mg.headsOf ls).all laid = true := List.all_eq_true.mpr fun x hx => by
  obtain ⟨l, hl, e⟩ := List.mem_filterMap.mp hx
  exact List.all_eq_true.mp (h.lay l hl) x (List.mem_of_mem_head? e)
theorem atI_zero (d : D) (ds : List D) : L2.atI (d :: ds) 0 = some d := by
  have h : (0 : Int) < ((d :: ds).length : Nat) := by rw [List.length_cons]; omega
  unfold L2.atI ixN
  rw [if_pos (by omega), if_pos h]
  rfl
section
variable {ls : List (List Str)} {F t2 t3 t4 t5 t6 : Option D} {B : Hd}
abbrev env (ls : List (List Str)) (F t2 t3 t4 t5 t6 : Option D) : DV.Env := [some (.lst (ls.map listD)), F, t2, t3, t4, t5, t6]
theorem rows_lay (h : Fine ls) : ∀ d ∈ ls.map listD, layD d = true := fun d hd => by
  obtain ⟨r, hr, rfl⟩ := List.mem_map.mp hd
  exact lay_listD (h.lay r hr)
/-- while [one for one in lists if one != []] != [] -/
theorem test_ok (h : Fine ls) : tCmpD gNe (eComp (iSeq (eVar 0)) (.one 4) [4] (tCmpD gNe (eVar 4) (eArgs gLstD aNil)) (eVar 4)) (eArgs gLstD aNil) (env ls F t2 t3 t4 t5 t6) B = .ok (!(Mg.headsOf ls).isEmpty) B := by
  have z := sz1000
  have c1 := compD_pure (s := .fix (ls.map listD)) (pt := .one 4) (vs := [4]) (tt := tCmpD gNe (eVar 4) (eArgs gLstD aNil)) (te := eVar 4) (ro := env ls F t2 t3 t4 t5 t6) (A := B) (p := someD) (f := id) (here_fix _ _) (ls.map listD) [] (by have := h.cnt; simp; omega) (fun d hd => by
    obtain ⟨r, hr, rfl⟩ := List.mem_map.mp hd
    exact ⟨[some (.lst (ls.map listD)), F, t2, t3, some (listD r), t5, t6], rfl, tcmp_ok (d := listD r) (e := .lst []) (A1 := B) (A2 := B) rfl (args_ok (ds := []) (A1 := B) rfl rfl) (gNe_nil (lay_strs (h.lay r hr))), fun _ => rfl⟩)
  rw [List.nil_append, List.map_id] at c1
  have c2 := comp_ok (f := iSeq (eVar 0)) (ro := env ls F t2 t3 t4 t5 t6) (A := B) (A1 := B) (s := .fix (ls.map listD)) (seq_ok (d := .lst (ls.map listD)) (A1 := B) rfl rfl) c1
  refine tcmp_ok (d := .lst ((ls.map listD).filter someD)) (e := .lst []) (A1 := B) (A2 := B) c2 (args_ok (ds := []) (A1 := B) rfl rfl) ((gNe_nil fun d hd => rows_lay h d (List.mem_filter.mp hd).1).trans ?_)
  have e := congrArg List.length (heads_D ls)
  rw [List.length_map, List.length_map] at e
  have e2 : ((ls.map listD).filter someD).isEmpty = (Mg.headsOf ls).isEmpty := by
    cases q : (ls.map listD).filter someD with
    | nil => rw [q] at e; rw [List.length_eq_zero_iff.mp e.symm]; rfl
    | cons a as =>
      cases q2 : Mg.headsOf ls with
      | nil => rw [q, q2] at e; cases e
      | cons _ _ => rfl
  rw [e2]
theorem heads_ok (h : Fine ls) : eComp (iSeq (eVar 0)) (.one 4) [4] (tCmpD gNe (eVar 4) (eArgs gLstD aNil)) (eBin gSubD (eVar 4) (eC (.int 0))) (env ls F t2 t3 t4 t5 t6) B = .ok (.lst ((Mg.headsOf ls).map D.str)) B := by
  have z := sz1000
  have c1 := compD_pure (s := .fix (ls.map listD)) (pt := .one 4) (vs := [4]) (tt := tCmpD gNe (eVar 4) (eArgs gLstD aNil)) (te := eBin gSubD (eVar 4) (eC (.int 0))) (ro := env ls F t2 t3 t4 t5 t6) (A := B) (p := someD) (f := headD) (here_fix _ _) (ls.map listD) [] (by have := h.cnt; simp; omega) (fun d hd => by
    obtain ⟨r, hr, rfl⟩ := List.mem_map.mp hd
    refine ⟨[some (.lst (ls.map listD)), F, t2, t3, some (listD r), t5, t6], rfl, tcmp_ok (d := listD r) (e := .lst []) (A1 := B) (A2 := B) rfl (args_ok (ds := []) (A1 := B) rfl rfl) (gNe_nil (lay_strs (h.lay r hr))), fun hp => ?_⟩
    cases r with
    | nil => cases hp
    | cons a r => exact bin_ok (d := listD (a :: r)) (e := .int 0) (A1 := B) (A2 := B) rfl rfl (sub_lst (atI_zero _ _)))
  rw [List.nil_append, heads_D] at c1
  exact comp_ok (f := iSeq (eVar 0)) (ro := env ls F t2 t3 t4 t5 t6) (A := B) (A1 := B) (s := .fix (ls.map listD)) (seq_ok (d := .lst (ls.map listD)) (A1 := B) rfl rfl) c1
theorem mem_strs (x : Str) (r : List Str) : memF (.str x) (r.map D.str) = decide (x ∈ r) := by
  unfold memF
  rw [List.any_map]
  induction r with
  | nil => rfl
  | cons a r ih =>
    rw [List.any_cons, ih]
    by_cases q : a = x
    · subst q
      simp [eqF]
    · have q2 : ¬ x = a := fun z => q z.symm
      simp [eqF, q, q2]
def tailD (x : Str) (d : D) : Bool := match d with
  | .lst xs => memF (.str x) xs.tail
  | _ => false
theorem tail_listD (x : Str) (r : List Str) : tailD x (listD r) = decide (x ∈ r.tail) := by
  show memF (.str x) (r.map D.str).tail = _
  rw [← List.map_tail, mem_strs]
theorem empty_any {α : Type} (p : α → Bool) : ∀ l : List α, (l.filter p).isEmpty = !l.any p
  | [] => rfl
  | a :: l => by
    rw [List.filter_cons, List.any_cons]
    cases p a with
    | true => rfl
    | false => simpa using empty_any p l
def goodD (ls : List (List Str)) (d : D) : Bool := match d with
  | .str x => !Mg.inTail x ls
  | _ => false
/-- the heads that stand in no tail -/
theorem good_ok (h : Fine ls) : eComp (iSeq (eVar 2)) (.one 5) [5] (tCmpD gEq (eComp (iSeq (eVar 0)) (.one 4) [4] (tCmpD gIn (eVar 5) (eCut (eVar 4) (oSome (eC (.int 1))) oNone)) (eVar 4)) (eArgs gLstD aNil)) (eVar 5) (env ls F (some (.lst ((Mg.headsOf ls).map D.str))) t3 t4 t5 t6) B = .ok (.lst ((Mg.goodOf ls).map D.str)) B := by
  have z := sz1000
  let ro := env ls F (some (.lst ((Mg.headsOf ls).map D.str))) t3 t4 t5 t6
  have c1 := compD_pure (s := .fix ((Mg.headsOf ls).map D.str)) (pt := .one 5) (vs := [5]) (tt := tCmpD gEq (eComp (iSeq (eVar 0)) (.one 4) [4] (tCmpD gIn (eVar 5) (eCut (eVar 4) (oSome (eC (.int 1))) oNone)) (eVar 4)) (eArgs gLstD aNil)) (te := eVar 5) (ro := ro) (A := B) (p := goodD ls) (f := id) (here_fix _ _) ((Mg.headsOf ls).map D.str) [] (by have := h.cnt; have := heads_le ls; simp; omega) (fun d hd => by
    obtain ⟨x, hx, rfl⟩ := List.mem_map.mp hd
    let ro5 : DV.Env := [some (.lst (ls.map listD)), F, some (.lst ((Mg.headsOf ls).map D.str)), t3, t4, some (.str x), t6]
    refine ⟨ro5, rfl, ?_, fun _ => rfl⟩
    have i2 := compD_pure (s := .fix (ls.map listD)) (pt := .one 4) (vs := [4]) (tt := tCmpD gIn (eVar 5) (eCut (eVar 4) (oSome (eC (.int 1))) oNone)) (te := eVar 4) (ro := ro5) (A := B) (p := tailD x) (f := id) (here_fix _ _) (ls.map listD) [] (by have := h.cnt; simp; omega) (fun d hd => by
      obtain ⟨u, hu, rfl⟩ := List.mem_map.mp hd
      refine ⟨[some (.lst (ls.map listD)), F, some (.lst ((Mg.headsOf ls).map D.str)), t3, some (listD u), some (.str x), t6], rfl, ?_, fun _ => rfl⟩
      rw [tail_listD]
      refine tcmp_ok (d := .str x) (e := listD u.tail) (A1 := B) (A2 := B) rfl ?_ (in_list x u.tail B)
      show R.ok (D.lst (DV.cutD (u.map D.str) (some 1) none)) B = _
      rw [cut_listD]
      rfl)
    rw [List.nil_append, List.map_id] at i2
    have c2 := comp_ok (f := iSeq (eVar 0)) (ro := ro5) (A := B) (A1 := B) (s := .fix (ls.map listD)) (seq_ok (d := .lst (ls.map listD)) (A1 := B) rfl rfl) i2
    refine tcmp_ok (e := .lst []) (A1 := B) (A2 := B) c2 (args_ok (ds := []) (A1 := B) rfl rfl) ((gEq_nil fun d hd => rows_lay h d (List.mem_filter.mp hd).1).trans ?_)
    rw [empty_any, List.any_map]
    show R.ok (D.bl (!ls.any fun u => tailD x (listD u))) B = R.ok (D.bl (!Mg.inTail x ls)) B
    have e : (ls.any fun u => tailD x (listD u)) = Mg.inTail x ls := by
      unfold Mg.inTail
      congr 1
      funext u
      exact tail_listD x u
    rw [e])
  rw [List.nil_append, List.map_id] at c1
  refine (comp_ok (f := iSeq (eVar 2)) (ro := ro) (A := B) (A1 := B) (s := .fix ((Mg.headsOf ls).map D.str)) (seq_ok (d := .lst ((Mg.headsOf ls).map D.str)) (A1 := B) rfl rfl) c1).trans ?_
  rw [List.filter_map]
  rfl
end
end K07

set_option Elab.async false
set_option linter.all false
set_option maxRecDepth 100000
namespace K07
open PySem PySem.Spec PyProof.Rows L2 DV
theorem gNe_strs (x y : Str) (A : Hd) : gNe (.str x) (.str y) A = .ok (.bl (!decide (x = y))) A := rfl
def notD (g : Str) (d : D) : Bool := match d with
  | .str x => !decide (x = g)
  | _ => false
def leaveD (g : Str) (d : D) : D := match d with
  | .lst xs => .lst (xs.filter (notD g))
  | d => d
theorem leave_listD (g : Str) (r : List Str) : leaveD g (listD r) = listD (r.filter fun x => decide (x ≠ g)) := by
  show D.lst ((r.map D.str).filter (notD g)) = D.lst _
  rw [List.filter_map]
  congr 2
  refine List.filter_congr fun x _ => ?_
  show (!decide (x = g)) = decide (x ≠ g)
  by_cases q : x = g <;> simp [q]
section
variable {ls : List (List Str)} {F t2 t4 t5 t6 : Option D} {B : Hd} {g : Str} {gs : List Str}
theorem leave_ok (h : Fine ls) : eComp (iSeq (eVar 0)) (.one 4) [4] ttYes (eComp (iSeq (eVar 4)) (.one 6) [6] (tCmpD gNe (eVar 6) (eBin gSubD (eVar 3) (eC (.int 0)))) (eVar 6)) (env ls F t2 (some (.lst ((g :: gs).map D.str))) t4 t5 t6) B = .ok (.lst ((ls.map fun l => l.filter fun x => decide (x ≠ g)).map listD)) B := by
  have z := sz1000
  let G : Option D := some (.lst ((g :: gs).map D.str))
  have c1 := compD_pure (s := .fix (ls.map listD)) (pt := .one 4) (vs := [4]) (tt := ttYes) (te := eComp (iSeq (eVar 4)) (.one 6) [6] (tCmpD gNe (eVar 6) (eBin gSubD (eVar 3) (eC (.int 0)))) (eVar 6)) (ro := env ls F t2 G t4 t5 t6) (A := B) (p := fun _ => true) (f := leaveD g) (here_fix _ _) (ls.map listD) [] (by have := h.cnt; simp; omega) (fun d hd => by
    obtain ⟨r, hr, rfl⟩ := List.mem_map.mp hd
    let ro4 : DV.Env := [some (.lst (ls.map listD)), F, t2, G, some (listD r), t5, t6]
    refine ⟨ro4, rfl, rfl, fun _ => ?_⟩
    have c2 := compD_pure (s := .fix (r.map D.str)) (pt := .one 6) (vs := [6]) (tt := tCmpD gNe (eVar 6) (eBin gSubD (eVar 3) (eC (.int 0)))) (te := eVar 6) (ro := ro4) (A := B) (p := notD g) (f := id) (here_fix _ _) (r.map D.str) [] (by have := h.len r hr; simp; omega) (fun d hd => by
      obtain ⟨x, hx, rfl⟩ := List.mem_map.mp hd
      exact ⟨[some (.lst (ls.map listD)), F, t2, G, some (listD r), t5, some (.str x)], rfl, tcmp_ok (d := .str x) (e := .str g) (A1 := B) (A2 := B) rfl (bin_ok (d := .lst ((g :: gs).map D.str)) (e := .int 0) (A1 := B) (A2 := B) rfl rfl (sub_lst (atI_zero _ _))) (gNe_strs x g B), fun _ => rfl⟩)
    rw [List.nil_append, List.map_id] at c2
    exact comp_ok (f := iSeq (eVar 4)) (ro := ro4) (A := B) (A1 := B) (s := .fix (r.map D.str)) (seq_ok (d := listD r) (A1 := B) rfl rfl) c2)
  rw [List.nil_append, List.filter_eq_self.mpr fun _ _ => rfl, List.map_map] at c1
  refine (comp_ok (f := iSeq (eVar 0)) (ro := env ls F t2 G t4 t5 t6) (A := B) (A1 := B) (s := .fix (ls.map listD)) (seq_ok (d := .lst (ls.map listD)) (A1 := B) rfl rfl) c1).trans ?_
  rw [List.map_map]
  congr 2
  exact List.map_congr_left fun r _ => leave_listD g r
end
end K07

set_option Elab.async false
set_option linter.all false
set_option maxRecDepth 100000
namespace K07
open PySem PySem.Spec PyProof.Rows L2 DV
noncomputable def mTest : TF := tCmpD gNe (eComp (iSeq (eVar 0)) (.one 4) [4] (tCmpD gNe (eVar 4) (eArgs gLstD aNil)) (eVar 4)) (eArgs gLstD aNil)
noncomputable def mBody : SF := (sSeq (sAsg (eComp (iSeq (eVar 0)) (.one 4) [4] (tCmpD gNe (eVar 4) (eArgs gLstD aNil)) (eBin gSubD (eVar 4) (eC (.int 0)))) (gNm 2))
  (sSeq (sAsg (eComp (iSeq (eVar 2)) (.one 5) [5] (tCmpD gEq (eComp (iSeq (eVar 0)) (.one 4) [4] (tCmpD gIn (eVar 5) (eCut (eVar 4) (oSome (eC (.int 1))) oNone)) (eVar 4)) (eArgs gLstD aNil)) (eVar 5)) (gNm 3))
  (sSeq (sIf (tCmpD gEq (eVar 3) (eArgs gLstD aNil))
  (sRet (eC .non))
  sNx)
  (sSeq (sEx (eMeth isL gAppend (eVar 1) (aCons (eBin gSubD (eVar 3) (eC (.int 0))) aNil)))
  (sAsg (eComp (iSeq (eVar 0)) (.one 4) [4] ttYes (eComp (iSeq (eVar 4)) (.one 6) [6] (tCmpD gNe (eVar 6) (eBin gSubD (eVar 3) (eC (.int 0)))) (eVar 6))) (gNm 0))))))
theorem sseq_ret {p q : SF} {ro ro' : DV.Env} {A A' : Hd} {d : D} (h : p ro A = .go (.ret d) ro' A') : sSeq p q ro A = .go (.ret d) ro' A' := by
  unfold sSeq
  rw [h]
  rfl
theorem loop_ok {A : Hd} {n : Nat} (hn : A.length = n) : ∀ (N : Nat) (ls : List (List Str)) (acc : List Str) (t2 t3 t4 t5 t6 : Option D), Mg.size ls < N → Fine ls → acc.length + Mg.size ls ≤ 900 →
    (∃ r ro', Mg.mergeL ls = some r ∧ ro'[1]? = some (some (D.ref n)) ∧ whileD mTest mBody N (env ls (some (.ref n)) t2 t3 t4 t5 t6) (A ++ [M.lst (acc.map D.str)]) = .go .nx ro' (A ++ [M.lst ((acc ++ r).map D.str)])) ∨
    (Mg.mergeL ls = none ∧ ∃ ro' acc', whileD mTest mBody N (env ls (some (.ref n)) t2 t3 t4 t5 t6) (A ++ [M.lst (acc.map D.str)]) = .go (.ret .non) ro' (A ++ [M.lst acc']))
  | 0, _, _, _, _, _, _, _, h, _, _ => absurd h (Nat.not_lt_zero _)
  | N + 1, ls, acc, t2, t3, t4, t5, t6, h, hf, ha => by
    have z := sz1000
    let B : Hd := A ++ [M.lst (acc.map D.str)]
    have tst := test_ok (F := some (.ref n)) (t2 := t2) (t3 := t3) (t4 := t4) (t5 := t5) (t6 := t6) (B := B) hf
    cases q : Mg.headsOf ls with
    | nil =>
      left
      rw [q] at tst
      refine ⟨[], env ls (some (.ref n)) t2 t3 t4 t5 t6, ?_, rfl, ?_⟩
      · rw [Mg.mergeL_eq, if_pos q]
      · rw [List.append_nil]
        exact whileD_stop tst
    | cons hd hs =>
      rw [q] at tst
      have hh := heads_ok (F := some (.ref n)) (t2 := t2) (t3 := t3) (t4 := t4) (t5 := t5) (t6 := t6) (B := B) hf
      have hg := good_ok (F := some (.ref n)) (t3 := t3) (t4 := t4) (t5 := t5) (t6 := t6) (B := B) hf
      have gl : (Mg.goodOf ls).all laid = true := List.all_eq_true.mpr fun x hx => List.all_eq_true.mp (heads_lay hf) x (List.mem_filter.mp hx).1
      have t3' : tCmpD gEq (eVar 3) (eArgs gLstD aNil) (env ls (some (.ref n)) (some (.lst ((Mg.headsOf ls).map D.str))) (some (.lst ((Mg.goodOf ls).map D.str))) t4 t5 t6) B = .ok ((Mg.goodOf ls).map D.str).isEmpty B :=
        tcmp_ok (d := .lst ((Mg.goodOf ls).map D.str)) (e := .lst []) (A1 := B) (A2 := B) rfl (args_ok (ds := []) (A1 := B) rfl rfl) (gEq_nil (lay_strs gl))
      cases qg : Mg.goodOf ls with
      | nil =>
        right
        refine ⟨by rw [Mg.mergeL_eq, if_neg (by rw [q]; simp), qg], env ls (some (.ref n)) (some (.lst ((Mg.headsOf ls).map D.str))) (some (.lst (([] : List Str).map D.str))) t4 t5 t6, acc.map D.str, ?_⟩
        rw [qg] at t3' hg
        unfold whileD
        rw [show mTest _ (A ++ [M.lst (acc.map D.str)]) = .ok true B from tst, R.then_ok, if_pos rfl]
        have body : mBody (env ls (some (.ref n)) t2 t3 t4 t5 t6) B = .go (.ret .non) (env ls (some (.ref n)) (some (.lst ((Mg.headsOf ls).map D.str))) (some (.lst (([] : List Str).map D.str))) t4 t5 t6) B := by
          unfold mBody
          refine sseq_ok (sasg_ok hh) (sseq_ok (sasg_ok hg) ?_)
          exact sseq_ret (sif_ok (z := true) (A1 := B) t3' rfl)
        rw [body]
        rfl
      | cons g gs =>
        obtain ⟨gm, gt⟩ := Mg.good_mem qg
        rw [qg] at t3' hg
        have hsz := Mg.size_step gm
        have hl := leave_ok (F := some (.ref n)) (t2 := some (.lst ((Mg.headsOf ls).map D.str))) (t4 := t4) (t5 := t5) (t6 := t6) (B := A ++ [M.lst ((acc ++ [g]).map D.str)]) (g := g) (gs := gs) hf
        rw [Mg.filter_step hf.nd gt] at hl
        have gx : B[n]? = some (.lst (acc.map D.str)) := by
          show (A ++ [M.lst (acc.map D.str)])[n]? = _
          rw [List.getElem?_append_right (by omega), hn, Nat.sub_self]
          rfl
        have happ : eMeth isL gAppend (eVar 1) (aCons (eBin gSubD (eVar 3) (eC (.int 0))) aNil) (env ls (some (.ref n)) (some (.lst ((Mg.headsOf ls).map D.str))) (some (.lst ((g :: gs).map D.str))) t4 t5 t6) B = .ok .non (A ++ [M.lst ((acc ++ [g]).map D.str)]) := by
          unfold eMeth
          rw [show eVar 1 (env ls (some (.ref n)) (some (.lst ((Mg.headsOf ls).map D.str))) (some (.lst ((g :: gs).map D.str))) t4 t5 t6) B = .ok (.ref n) B from rfl, R.bind_ok]
          have il : isL B (.ref n) = true := by
            unfold isL asR asL
            simp only [gx]
            rfl
          rw [if_pos il, acons_ok (d := .str g) (A1 := B) (bin_ok (d := .lst ((g :: gs).map D.str)) (e := .int 0) (A1 := B) (A2 := B) rfl rfl (sub_lst (atI_zero _ _))) (show aNil _ B = .ok [] B from rfl), R.bind_ok]
          unfold gAppend numL
          simp only [gx]
          rw [if_pos (by rw [List.length_map]; omega)]
          show R.ok D.non ((A ++ [M.lst (acc.map D.str)]).set n _) = _
          rw [List.set_append_right _ _ (by omega), hn, Nat.sub_self, List.map_append]
          rfl
        have body : mBody (env ls (some (.ref n)) t2 t3 t4 t5 t6) B = .go .nx (env (Mg.step ls g) (some (.ref n)) (some (.lst ((Mg.headsOf ls).map D.str))) (some (.lst ((g :: gs).map D.str))) t4 t5 t6) (A ++ [M.lst ((acc ++ [g]).map D.str)]) := by
          unfold mBody
          refine sseq_ok (sasg_ok hh) (sseq_ok (sasg_ok hg) (sseq_ok (sif_ok (z := false) (A1 := B) t3' rfl) (sseq_ok (ro' := env ls (some (.ref n)) (some (.lst ((Mg.headsOf ls).map D.str))) (some (.lst ((g :: gs).map D.str))) t4 t5 t6) ?_ (sasg_ok hl))))
          exact (show sEx (eMeth isL gAppend (eVar 1) (aCons (eBin gSubD (eVar 3) (eC (.int 0))) aNil)) (env ls (some (.ref n)) (some (.lst ((Mg.headsOf ls).map D.str))) (some (.lst ((g :: gs).map D.str))) t4 t5 t6) B = _ by
            unfold sEx
            rw [happ]
            rfl)
        have e : Mg.mergeL ls = (Mg.mergeL (Mg.step ls g)).map (g :: ·) := by
          rw [Mg.mergeL_eq ls, if_neg (by rw [q]; simp), qg]
        rcases loop_ok hn N (Mg.step ls g) (acc ++ [g]) (some (.lst ((Mg.headsOf ls).map D.str))) (some (.lst ((g :: gs).map D.str))) t4 t5 t6 (by omega) (hf.step g) (by rw [List.length_append]; simp; omega) with ⟨r, ro', e1, e2, e3⟩ | ⟨e1, ro', acc', e3⟩
        · left
          refine ⟨g :: r, ro', by rw [e, e1]; rfl, e2, ?_⟩
          rw [List.append_assoc] at e3
          exact whileD_step tst body e3
        · right
          exact ⟨by rw [e, e1]; rfl, ro', acc', whileD_step tst body e3⟩
end K07

set_option Elab.async false
set_option linter.all false
set_option maxRecDepth 100000
namespace K07
open PySem PySem.Spec PyProof.Rows L2 DV
def openD (d : D) : D := match d with
  | .tup xs => .lst xs
  | d => d
theorem strs_low (z : Nat) : ∀ r : List Str, D.lts z (r.map D.str) = true
  | [] => by simp [D.lts]
  | x :: r => by
    rw [List.map_cons]
    unfold D.lts
    rw [strs_low z r]
    simp [D.lt]
end K07

set_option Elab.async false
set_option linter.all false
set_option maxRecDepth 100000
namespace K07
open PySem PySem.Spec PyProof.Rows L2 DV
/-! ### the counts -/
theorem valD_pos {p : Key × D} {es : List (Key × D)} {k : Key} (e : p.1 = k) : valD (p :: es) k = some p.2 := by simp [valD, List.find?_cons, e]
theorem valD_neg {p : Key × D} {es : List (Key × D)} {k : Key} (e : ¬ p.1 = k) : valD (p :: es) k = valD es k := by simp [valD, List.find?_cons, e]
theorem valD_any (k : Key) : ∀ es : List (Key × D), (es.any fun kv => decide (kv.1 = k)) = (valD es k).isSome
  | [] => rfl
  | p :: es => by
    rw [List.any_cons]
    by_cases q : p.1 = k
    · rw [valD_pos q, decide_eq_true q]
      rfl
    · rw [valD_neg q, decide_eq_false q, valD_any k es]
      rfl
theorem valD_map (k j : Key) (v : D) : ∀ es : List (Key × D), valD (es.map fun kv => if kv.1 = k then (kv.1, v) else kv) j = (valD es j).map fun x => if j = k then v else x
  | [] => rfl
  | p :: es => by
    rw [List.map_cons]
    have hk : (if p.1 = k then (p.1, v) else p).1 = p.1 := by split <;> rfl
    by_cases q : p.1 = j
    · rw [valD_pos q, valD_pos (hk.trans q)]
      subst q
      by_cases q2 : p.1 = k <;> simp [q2]
    · rw [valD_neg q, valD_neg (fun e => q (hk.symm.trans e)), valD_map k j v es]
theorem valD_snoc (k j : Key) (v : D) : ∀ es : List (Key × D), valD es k = none → valD (es ++ [(k, v)]) j = if j = k then some v else valD es j
  | [], _ => by
    by_cases q : k = j
    · rw [List.nil_append, valD_pos q, if_pos q.symm]
    · rw [List.nil_append, valD_neg q, if_neg (fun e => q e.symm)]
  | p :: es, h => by
    have hp : ¬ p.1 = k := fun e => by rw [valD_pos e] at h; cases h
    rw [valD_neg hp] at h
    rw [List.cons_append]
    by_cases q : p.1 = j
    · rw [valD_pos q, valD_pos q, if_neg (fun e => hp (q.trans e))]
    · rw [valD_neg q, valD_neg q, valD_snoc k j v es h]
theorem valD_put (es : List (Key × D)) (k j : Key) (v : D) : valD (putD es k v) j = if j = k then some v else valD es j := by
  unfold putD
  rw [valD_any]
  cases q : valD es k with
  | none =>
    rw [if_neg (by simp)]
    exact valD_snoc k j v es q
  | some x =>
    rw [if_pos (show (some x).isSome = true from rfl), valD_map]
    by_cases q2 : j = k
    · subst q2
      rw [q, if_pos rfl]
      simp
    · rw [if_neg q2]
      simp [q2]
theorem putD_len (es : List (Key × D)) (k : Key) (v : D) : (putD es k v).length ≤ es.length + 1 := by
  unfold putD
  split
  · rw [List.length_map]; omega
  · rw [List.length_append]; exact Nat.le_refl _
/-- the dict tells f, 0 where it has no key -/
structure Beh (es : List (Key × D)) (f : Str → Int) (b : Nat) : Prop where
  at_ : ∀ x : Str, (valD es (.inr x)).getD (.int 0) = .int (f x)
  len : es.length ≤ b
theorem Beh.nil : Beh [] (fun _ => 0) 0 := ⟨fun _ => rfl, Nat.le_refl _⟩
theorem Beh.put {es : List (Key × D)} {f : Str → Int} {b : Nat} (h : Beh es f b) (x : Str) (i : Int) : Beh (putD es (.inr x) (.int i)) (fun y => if y = x then i else f y) (b + 1) := by
  refine ⟨fun y => ?_, Nat.le_trans (putD_len _ _ _) (by have := h.len; omega)⟩
  rw [valD_put]
  by_cases q : y = x
  · subst q
    rw [if_pos rfl, if_pos rfl]
    rfl
  · rw [if_neg (fun e => q (Sum.inr.inj e)), if_neg q]
    exact h.at_ y
end K07

set_option Elab.async false
set_option linter.all false
set_option maxRecDepth 100000
namespace K07
open PySem PySem.Spec PyProof.Rows L2 DV
/-! ### merge_of: the counts are filled -/
/-- places is at n, found at n + 1, behind at n + 2 -/
abbrev hp (A : Hd) (ps : List Int) (fs : List Str) (es : List (Key × D)) : Hd := A ++ [M.lst (ps.map D.int), M.lst (fs.map D.str), M.dic es]
theorem hp_at0 {A : Hd} {ps fs es} : (hp A ps fs es)[A.length]? = some (.lst (ps.map D.int)) := by
  unfold hp
  rw [List.getElem?_append_right (Nat.le_refl _), Nat.sub_self]
  rfl
theorem hp_at1 {A : Hd} {ps fs es} : (hp A ps fs es)[A.length + 1]? = some (.lst (fs.map D.str)) := by
  unfold hp
  rw [List.getElem?_append_right (by omega), show A.length + 1 - A.length = 1 by omega]
  rfl
theorem hp_at2 {A : Hd} {ps fs es} : (hp A ps fs es)[A.length + 2]? = some (.dic es) := by
  unfold hp
  rw [List.getElem?_append_right (by omega), show A.length + 2 - A.length = 2 by omega]
  rfl
theorem hp_set0 {A : Hd} {ps fs es} (qs : List Int) : (hp A ps fs es).set A.length (.lst (qs.map D.int)) = hp A qs fs es := by
  unfold hp
  rw [List.set_append_right _ _ (Nat.le_refl _), Nat.sub_self]
  rfl
theorem hp_set1 {A : Hd} {ps fs es} (gs : List Str) : (hp A ps fs es).set (A.length + 1) (.lst (gs.map D.str)) = hp A ps gs es := by
  unfold hp
  rw [List.set_append_right _ _ (by omega), show A.length + 1 - A.length = 1 by omega]
  rfl
theorem hp_set2 {A : Hd} {ps fs es} (es' : List (Key × D)) : (hp A ps fs es).set (A.length + 2) (.dic es') = hp A ps fs es' := by
  unfold hp
  rw [List.set_append_right _ _ (by omega), show A.length + 2 - A.length = 2 by omega]
  rfl
/-- behind.get(name, 0) -/
theorem get_ok {A : Hd} {ps fs es} {f : Str → Int} {b : Nat} {ro : DV.Env} {x : Str} (h : Beh es f b) (h3 : ro[3]? = some (some (.ref (A.length + 2)))) (h5 : ro[5]? = some (some (.str x))) : eGet2 (eVar 3) (eVar 5) (eC (.int 0)) ro (hp A ps fs es) = .ok (.int (f x)) (hp A ps fs es) := by
  have e3 : eVar 3 ro (hp A ps fs es) = .ok (.ref (A.length + 2)) (hp A ps fs es) := by unfold eVar; rw [h3]
  have e5 : eVar 5 ro (hp A ps fs es) = .ok (.str x) (hp A ps fs es) := by unfold eVar; rw [h5]
  have ad : asD (hp A ps fs es) (.ref (A.length + 2)) = some es := by
    unfold asD
    simp only [hp_at2]
  unfold eGet2
  rw [e3, R.bind_ok, ad]
  show ((eVar 5 ro (hp A ps fs es)).bind _) = _
  rw [e5, R.bind_ok]
  show ((eC (.int 0) ro (hp A ps fs es)).bind _) = _
  rw [show eC (.int 0) ro (hp A ps fs es) = .ok (.int 0) (hp A ps fs es) from rfl, R.bind_ok, ad]
  show R.ok ((valD es (.inr x)).getD (.int 0)) (hp A ps fs es) = _
  rw [h.at_ x]
end K07

set_option Elab.async false
set_option linter.all false
set_option maxRecDepth 100000
namespace K07
open PySem PySem.Spec PyProof.Rows L2 DV
/-- behind[name] = v -/
theorem store_ok {A : Hd} {ps fs es} {f : Str → Int} {b : Nat} {ro : DV.Env} {x : Str} {i : Int} {e : EF} (h : Beh es f b) (hb : b < 900) (h3 : ro[3]? = some (some (.ref (A.length + 2)))) (h5 : ro[5]? = some (some (.str x))) (he : e ro (hp A ps fs es) = .ok (.int i) (hp A ps fs es)) :
    sAsg e (gAt (eVar 3) (eVar 5)) ro (hp A ps fs es) = .go .nx ro (hp A ps fs (putD es (.inr x) (.int i))) := by
  have z := sz1000
  have e3 : eVar 3 ro (hp A ps fs es) = .ok (.ref (A.length + 2)) (hp A ps fs es) := by unfold eVar; rw [h3]
  have e5 : eVar 5 ro (hp A ps fs es) = .ok (.str x) (hp A ps fs es) := by unfold eVar; rw [h5]
  have hl := h.len
  have st : gAt (eVar 3) (eVar 5) (.int i) ro (hp A ps fs es) = .ok ro (hp A ps fs (putD es (.inr x) (.int i))) := by
    unfold gAt
    rw [e3, R.bind_ok, e5, R.bind_ok]
    have n1 : numL (hp A ps fs es) (.ref (A.length + 2)) = none := by
      unfold numL
      simp only [hp_at2]
    have n2 : numD (hp A ps fs es) (.ref (A.length + 2)) = some (A.length + 2, es) := by
      unfold numD
      simp only [hp_at2]
    unfold setD
    rw [n1, n2]
    show (if es.length < sizeLine then R.ok ro ((hp A ps fs es).set (A.length + 2) (.dic (putD es (.inr x) (.int i)))) else .stk) = _
    rw [if_pos (by omega), hp_set2]
  unfold sAsg
  rw [he, R.then_ok, st]
  rfl
/-- behind[name] = behind.get(name, 0) + 1 -/
theorem count_ok {A : Hd} {ps fs es} {f : Str → Int} {b : Nat} {ro : DV.Env} {x : Str} (h : Beh es f b) (hb : b < 900) (h3 : ro[3]? = some (some (.ref (A.length + 2)))) (h5 : ro[5]? = some (some (.str x))) :
    ∃ es', sAsg (eBin gAdd (eGet2 (eVar 3) (eVar 5) (eC (.int 0))) (eC (.int 1))) (gAt (eVar 3) (eVar 5)) ro (hp A ps fs es) = .go .nx ro (hp A ps fs es') ∧ Beh es' (fun y => if y = x then f x + 1 else f y) (b + 1) :=
  ⟨_, store_ok h hb h3 h5 (bin_ok (d := .int (f x)) (e := .int 1) (get_ok h h3 h5) rfl rfl), h.put x (f x + 1)⟩
end K07

set_option Elab.async false
set_option linter.all false
set_option maxRecDepth 100000
namespace K07
open PySem PySem.Spec PyProof.Rows L2 DV
def times (y : Str) (xs : List Str) : Nat := xs.countP fun z => decide (z = y)
theorem Beh.congr {es f g b} (h : Beh es f b) (e : ∀ y, f y = g y) : Beh es g b := ⟨fun x => by rw [h.at_ x, e x], h.len⟩
/-- for name in xs: behind[name] = behind.get(name, 0) + 1 -/
theorem fill1 {A : Hd} {ps fs es} {f : Str → Int} {b : Nat} {v0 v1 v2 v4 t5 t6 t7 t8 t9 : Option D} (xs : List Str) (h : Beh es f b) (hb : b + xs.length < 900) :
    ∃ es' t5', forD (.fix (xs.map D.str)) (gNm 5) (sAsg (eBin gAdd (eGet2 (eVar 3) (eVar 5) (eC (.int 0))) (eC (.int 1))) (gAt (eVar 3) (eVar 5))) (xs.map D.str) [v0, v1, v2, some (.ref (A.length + 2)), v4, t5, t6, t7, t8, t9] (hp A ps fs es) = .go .nx [v0, v1, v2, some (.ref (A.length + 2)), v4, t5', t6, t7, t8, t9] (hp A ps fs es') ∧ Beh es' (fun y => f y + times y xs) (b + xs.length) := by
  obtain ⟨ro', A', e, es', t5', rfl, rfl, hB⟩ := forD_run (s := .fix (xs.map D.str)) (g := gNm 5) (b := sAsg (eBin gAdd (eGet2 (eVar 3) (eVar 5) (eC (.int 0))) (eC (.int 1))) (gAt (eVar 3) (eVar 5)))
    (I := fun i ro A' => ∃ es' t5', ro = [v0, v1, v2, some (.ref (A.length + 2)), v4, t5', t6, t7, t8, t9] ∧ A' = hp A ps fs es' ∧ Beh es' (fun y => f y + times y (xs.take i)) (b + i))
    (fun _ _ A _ => here_fix _ A) (xs.map D.str) 0 _ (hp A ps fs es) ⟨es, t5, rfl, rfl, h.congr fun y => by simp [times]⟩ (by
      rintro i d ro A' hd ⟨es', t5', rfl, rfl, hB⟩
      rw [Nat.zero_add] at hB ⊢
      rw [List.getElem?_map] at hd
      obtain ⟨x, hx, rfl⟩ := Option.map_eq_some_iff.mp hd
      have hi : i < xs.length := (List.getElem?_eq_some_iff.mp hx).1
      obtain ⟨es2, g1, g2⟩ := count_ok (ro := [v0, v1, v2, some (.ref (A.length + 2)), v4, some (.str x), t6, t7, t8, t9]) (x := x) (A := A) (ps := ps) (fs := fs) hB (by omega) rfl rfl
      refine ⟨_, _, step_okL g1, es2, some (.str x), rfl, rfl, g2.congr fun y => ?_⟩
      have tk : xs.take (i + 1) = xs.take i ++ [x] := by rw [List.take_add_one, hx]; rfl
      rw [tk]
      unfold times
      rw [List.countP_append]
      by_cases q : y = x
      · subst q
        rw [if_pos rfl]
        simp
        omega
      · rw [if_neg q]
        have q2 : ¬ x = y := fun z => q z.symm
        simp [q2])
  rw [List.length_map, Nat.zero_add, List.take_length] at hB
  exact ⟨es', t5', e, hB⟩
end K07

set_option Elab.async false
set_option linter.all false
set_option maxRecDepth 100000
namespace K07
open PySem PySem.Spec PyProof.Rows L2 DV
theorem times_nodup {y : Str} : ∀ {xs : List Str}, xs.Nodup → times y xs = if y ∈ xs then 1 else 0
  | [], _ => rfl
  | a :: xs, h => by
    obtain ⟨h1, h2⟩ := List.nodup_cons.mp h
    have ih := times_nodup (y := y) h2
    unfold times at ih ⊢
    rw [List.countP_cons, ih]
    by_cases q : a = y
    · subst q
      simp [h1]
    · have q2 : ¬ y = a := fun z => q z.symm
      simp [q, q2]
/-- the counts of the tails -/
theorem fill2 {A : Hd} {ps fs} {rs : List (List Str)} {v1 v2 t4 t5 t6 t7 t8 t9 : Option D} (h : Fine rs) :
    ∃ es t4' t5', sFor (iSeq (eVar 0)) (gNm 4) (sFor (iSeq (eCut (eVar 4) (oSome (eC (.int 1))) oNone)) (gNm 5) (sAsg (eBin gAdd (eGet2 (eVar 3) (eVar 5) (eC (.int 0))) (eC (.int 1))) (gAt (eVar 3) (eVar 5)))) [some (rowsD rs), v1, v2, some (.ref (A.length + 2)), t4, t5, t6, t7, t8, t9] (hp A ps fs []) = .go .nx [some (rowsD rs), v1, v2, some (.ref (A.length + 2)), t4', t5', t6, t7, t8, t9] (hp A ps fs es) ∧ Beh es (fun y => Mg.tails y rs) 120 := by
  obtain ⟨ro', A', e, es', t4', t5', rfl, rfl, hB⟩ := forD_run (s := .fix (rs.map rowD)) (g := gNm 4) (b := sFor (iSeq (eCut (eVar 4) (oSome (eC (.int 1))) oNone)) (gNm 5) (sAsg (eBin gAdd (eGet2 (eVar 3) (eVar 5) (eC (.int 0))) (eC (.int 1))) (gAt (eVar 3) (eVar 5))))
    (I := fun i ro A' => ∃ es' t4' t5', ro = [some (rowsD rs), v1, v2, some (.ref (A.length + 2)), t4', t5', t6, t7, t8, t9] ∧ A' = hp A ps fs es' ∧ Beh es' (fun y => Mg.tails y (rs.take i)) (12 * i))
    (fun _ _ A _ => here_fix _ A) (rs.map rowD) 0 _ (hp A ps fs []) ⟨[], t4, t5, rfl, rfl, Beh.nil.congr fun y => by simp [Mg.tails]⟩ (by
      rintro i d ro A' hd ⟨es', t4', t5', rfl, rfl, hB⟩
      rw [Nat.zero_add] at hB ⊢
      rw [List.getElem?_map] at hd
      obtain ⟨r, hr, rfl⟩ := Option.map_eq_some_iff.mp hd
      have hi : i < rs.length := (List.getElem?_eq_some_iff.mp hr).1
      have hm : r ∈ rs := List.mem_of_getElem? hr
      have hl := h.len r hm
      have hc := h.cnt
      have tl : r.tail.length ≤ 12 := by rw [List.length_tail]; omega
      obtain ⟨es2, t5'', g1, g2⟩ := fill1 (A := A) (ps := ps) (fs := fs) (v0 := some (rowsD rs)) (v1 := v1) (v2 := v2) (v4 := some (rowD r)) (t5 := t5') (t6 := t6) (t7 := t7) (t8 := t8) (t9 := t9) r.tail hB (by omega)
      have cut : iSeq (eCut (eVar 4) (oSome (eC (.int 1))) oNone) [some (rowsD rs), v1, v2, some (.ref (A.length + 2)), some (rowD r), t5', t6, t7, t8, t9] (hp A ps fs es') = .ok (.fix (r.tail.map D.str)) (hp A ps fs es') := by
        refine seq_ok (d := .tup (r.tail.map D.str)) (A1 := hp A ps fs es') ?_ rfl
        show R.ok (D.tup (DV.cutD (r.map D.str) (some 1) none)) (hp A ps fs es') = _
        rw [cut_listD]
      refine ⟨_, _, step_okL (sfor_ok cut g1), es2, some (rowD r), t5'', rfl, rfl, (g2.congr fun y => ?_).at_, ?_⟩
      · have tk : rs.take (i + 1) = rs.take i ++ [r] := by rw [List.take_add_one, hr]; rfl
        rw [tk, times_nodup ((h.nd r hm).sublist (List.tail_sublist _))]
        unfold Mg.tails
        rw [List.countP_append]
        by_cases q : y ∈ r.tail <;> simp [q]
      · have := g2.len
        omega)
  rw [List.length_map, Nat.zero_add, List.take_length] at hB
  have hc := h.cnt
  exact ⟨es', t4', t5', sfor_ok (seq_ok (d := rowsD rs) (A1 := hp A ps fs []) rfl rfl) e, hB.at_, by have := hB.len; omega⟩
end K07

set_option Elab.async false
set_option linter.all false
set_option maxRecDepth 100000
namespace K07
open PySem PySem.Spec PyProof.Rows L2 DV
/-! ### merge_of: rows with their places -/
abbrev LP := List (List Str × Nat)
def rowsOf (L : LP) : List (List Str) := L.map (·.1)
def placesOf (L : LP) : List Int := L.map fun p => (p.2 : Int)
def restsOf (L : LP) : List (List Str) := L.map fun p => p.1.drop p.2
def pairD (p : List Str × Nat) : D := .tup [rowD p.1, .int p.2]
theorem zip_L : ∀ L : LP, zpD ((rowsOf L).map rowD) ((placesOf L).map D.int) = L.map pairD
  | [] => rfl
  | p :: L => by
    have ih := zip_L L
    unfold zpD at ih ⊢
    unfold rowsOf placesOf at ih ⊢
    rw [List.map_cons, List.map_cons, List.map_cons, List.map_cons, List.zip_cons_cons, List.map_cons, ih, List.map_cons]
    rfl
def openP (d : D) : Bool := match d with
  | .tup [.tup xs, .int i] => decide (i < xs.length)
  | _ => false
def headP (d : D) : D := match d with
  | .tup [.tup xs, .int i] => (xs[i.toNat]?).getD .non
  | _ => .non
theorem heads_P : ∀ L : LP, ((L.map pairD).filter openP).map headP = (Mg.headsOf (restsOf L)).map D.str
  | [] => rfl
  | p :: L => by
    have ih := heads_P L
    have hd : openP (pairD p) = decide (p.2 < p.1.length) := by
      show decide ((p.2 : Int) < ((p.1.map D.str).length : Nat)) = _
      rw [List.length_map]
      by_cases q : p.2 < p.1.length
      · rw [decide_eq_true q]; exact decide_eq_true (by omega)
      · rw [decide_eq_false q]; exact decide_eq_false (by omega)
    unfold restsOf Mg.headsOf at ih ⊢
    rw [List.map_cons, List.map_cons, List.filterMap_cons, List.head?_drop, List.filter_cons, hd]
    by_cases q : p.2 < p.1.length
    · rw [decide_eq_true q, if_pos rfl, List.map_cons, ih, List.getElem?_eq_getElem q]
      have e : headP (pairD p) = .str p.1[p.2] := by
        show ((p.1.map D.str)[(p.2 : Int).toNat]?).getD .non = _
        rw [Int.toNat_natCast, List.getElem?_map, List.getElem?_eq_getElem q]
        rfl
      rw [e]
      rfl
    · rw [decide_eq_false q, if_neg (by simp), ih, List.getElem?_eq_none (by omega)]
end K07

set_option Elab.async false
set_option linter.all false
set_option maxRecDepth 100000
namespace K07
open PySem PySem.Spec PyProof.Rows L2 DV
/-! ### merge_of: the heads, and the free ones -/
theorem atI_nat {α : Type} (xs : List α) (i : Nat) : L2.atI xs (i : Int) = xs[i]? := by
  unfold L2.atI ixN
  rw [if_pos (Int.natCast_nonneg i)]
  by_cases h : i < xs.length
  · rw [if_pos (by omega)]
    rfl
  · rw [if_neg (by omega), List.getElem?_eq_none (by omega)]
    rfl
abbrev menv (rs : List (List Str)) (n : Nat) (t4 t5 t6 t7 t8 t9 : Option D) : DV.Env := [some (rowsD rs), some (.ref n), some (.ref (n + 1)), some (.ref (n + 2)), t4, t5, t6, t7, t8, t9]
theorem zip_ok {A : Hd} {L : LP} {fs es} {t4 t5 t6 t7 t8 t9 : Option D} : iZipS (eVar 0) (eVar 1) (menv (rowsOf L) A.length t4 t5 t6 t7 t8 t9) (hp A (placesOf L) fs es) = .ok (.mix (L.map pairD) [(A.length, (placesOf L).map D.int)]) (hp A (placesOf L) fs es) := by
  have a1 : asQ (hp A (placesOf L) fs es) (.ref A.length) = some ((placesOf L).map D.int) := by
    unfold asQ asR asL
    simp only [hp_at0]
  have k1 : keepD (hp A (placesOf L) fs es) (.ref A.length) = [(A.length, (placesOf L).map D.int)] := by
    unfold keepD
    simp only [hp_at0]
  unfold iZipS
  rw [show eVar 0 (menv (rowsOf L) A.length t4 t5 t6 t7 t8 t9) (hp A (placesOf L) fs es) = .ok (rowsD (rowsOf L)) (hp A (placesOf L) fs es) from rfl, R.bind_ok,
    show eVar 1 (menv (rowsOf L) A.length t4 t5 t6 t7 t8 t9) (hp A (placesOf L) fs es) = .ok (.ref A.length) (hp A (placesOf L) fs es) from rfl, R.bind_ok, a1, k1]
  show (if ((rowsOf L).map rowD).length = ((placesOf L).map D.int).length then R.ok (Src.mix (zpD ((rowsOf L).map rowD) ((placesOf L).map D.int)) [(A.length, (placesOf L).map D.int)]) (hp A (placesOf L) fs es) else .stk) = _
  rw [if_pos (by simp [rowsOf, placesOf]), zip_L]
theorem mheads_ok {A : Hd} {L : LP} {fs es} {t4 t5 t6 t7 t8 t9 : Option D} (hc : L.length ≤ 10) : eComp (iZipS (eVar 0) (eVar 1)) (.tup [4, 9]) [4, 9] (tCmpD gLt (eVar 9) (eArgs gLen (aCons (eVar 4) aNil))) (eBin gSubD (eVar 4) (eVar 9)) (menv (rowsOf L) A.length t4 t5 t6 t7 t8 t9) (hp A (placesOf L) fs es) = .ok (.lst ((Mg.headsOf (restsOf L)).map D.str)) (hp A (placesOf L) fs es) := by
  have z := sz1000
  have c1 := compD_pure (s := .mix (L.map pairD) [(A.length, (placesOf L).map D.int)]) (pt := .tup [4, 9]) (vs := [4, 9]) (tt := tCmpD gLt (eVar 9) (eArgs gLen (aCons (eVar 4) aNil))) (te := eBin gSubD (eVar 4) (eVar 9)) (ro := menv (rowsOf L) A.length t4 t5 t6 t7 t8 t9) (A := hp A (placesOf L) fs es) (p := openP) (f := headP) (fun p hp => by rw [List.mem_singleton.mp hp]; exact hp_at0) (L.map pairD) [] (by simp; omega) (fun d hd => by
    obtain ⟨p, hm, rfl⟩ := List.mem_map.mp hd
    refine ⟨menv (rowsOf L) A.length (some (rowD p.1)) t5 t6 t7 t8 (some (.int p.2)), rfl, ?_, fun ho => ?_⟩
    · exact tcmp_ok (d := .int p.2) (e := .int ((p.1.map D.str).length : Nat)) (A1 := hp A (placesOf L) fs es) (A2 := hp A (placesOf L) fs es) rfl (args1_ok (d := rowD p.1) (A1 := hp A (placesOf L) fs es) rfl rfl) rfl
    · have hl : p.2 < (p.1.map D.str).length := by
        have : decide ((p.2 : Int) < ((p.1.map D.str).length : Nat)) = true := ho
        have := of_decide_eq_true this
        omega
      refine bin_ok (d := rowD p.1) (e := .int p.2) (A1 := hp A (placesOf L) fs es) (A2 := hp A (placesOf L) fs es) rfl rfl (sub_tup ?_)
      rw [atI_nat, List.getElem?_eq_getElem hl]
      show some _ = some (headP (pairD p))
      show some _ = some (((p.1.map D.str)[(p.2 : Int).toNat]?).getD .non)
      rw [Int.toNat_natCast, List.getElem?_eq_getElem hl]
      rfl)
  rw [List.nil_append, heads_P] at c1
  exact comp_ok (f := iZipS (eVar 0) (eVar 1)) (s := .mix (L.map pairD) [(A.length, (placesOf L).map D.int)]) (A1 := hp A (placesOf L) fs es) zip_ok c1
theorem mfree_ok {A : Hd} {ps fs es} {rs : List (List Str)} {ls : List (List Str)} {t4 t5 t7 t8 t9 : Option D} (hB : Beh es (fun y => Mg.tails y ls) 120) (hc : ls.length ≤ 10) : eComp (iSeq (eVar 6)) (.one 5) [5] (tCmpD gEq (eGet2 (eVar 3) (eVar 5) (eC (.int 0))) (eC (.int 0))) (eVar 5) (menv rs A.length t4 t5 (some (.lst ((Mg.headsOf ls).map D.str))) t7 t8 t9) (hp A ps fs es) = .ok (.lst ((Mg.goodOf ls).map D.str)) (hp A ps fs es) := by
  have z := sz1000
  have hl := heads_le ls
  have c1 := compD_pure (s := .fix ((Mg.headsOf ls).map D.str)) (pt := .one 5) (vs := [5]) (tt := tCmpD gEq (eGet2 (eVar 3) (eVar 5) (eC (.int 0))) (eC (.int 0))) (te := eVar 5) (ro := menv rs A.length t4 t5 (some (.lst ((Mg.headsOf ls).map D.str))) t7 t8 t9) (A := hp A ps fs es) (p := goodD ls) (f := id) (here_fix _ _) ((Mg.headsOf ls).map D.str) [] (by simp; omega) (fun d hd => by
    obtain ⟨x, hx, rfl⟩ := List.mem_map.mp hd
    refine ⟨menv rs A.length t4 (some (.str x)) (some (.lst ((Mg.headsOf ls).map D.str))) t7 t8 t9, rfl, ?_, fun _ => rfl⟩
    refine tcmp_ok (d := .int (Mg.tails x ls)) (e := .int 0) (A1 := hp A ps fs es) (A2 := hp A ps fs es) (get_ok hB rfl rfl) rfl ((gEq_int _ _ _).trans ?_)
    show R.ok (D.bl (decide ((Mg.tails x ls : Int) = 0))) _ = R.ok (D.bl (!Mg.inTail x ls)) _
    congr 2
    cases q : Mg.inTail x ls with
    | false =>
      have := Mg.inTail_zero.mp q
      rw [this]
      rfl
    | true =>
      refine decide_eq_false fun h => ?_
      have := Mg.inTail_zero.mpr (show Mg.tails x ls = 0 by omega)
      rw [q] at this
      cases this)
  rw [List.nil_append, List.map_id] at c1
  refine (comp_ok (f := iSeq (eVar 6)) (A1 := hp A ps fs es) (s := .fix ((Mg.headsOf ls).map D.str)) (seq_ok (d := .lst ((Mg.headsOf ls).map D.str)) (A1 := hp A ps fs es) rfl rfl) c1).trans ?_
  rw [List.filter_map]
  rfl
end K07

set_option Elab.async false
set_option linter.all false
set_option maxRecDepth 100000
namespace K07
open PySem PySem.Spec PyProof.Rows L2 DV
/-! ### merge_of: one row behind a name that was found -/
theorem eqvAll_strs : ∀ xs ys : List Str, PyData.eqvAll (xs.map PyData.str) (ys.map PyData.str) = decide (xs = ys)
  | [], [] => rfl
  | [], _ :: _ => rfl
  | _ :: _, [] => rfl
  | x :: xs, y :: ys => by
    rw [List.map_cons, List.map_cons]
    unfold PyData.eqvAll
    rw [eqvAll_strs xs ys]
    show ((x == y) && decide (xs = ys)) = decide (x :: xs = y :: ys)
    by_cases q : x = y <;> simp [q]
theorem toPs_strs : ∀ xs : List Str, toPs (xs.map D.str) = some (xs.map PyData.str)
  | [] => rfl
  | x :: xs => by
    rw [List.map_cons]
    unfold toPs
    rw [toPs_strs xs]
    rfl
theorem lay_all {r : List Str} (h : r.all laid = true) : PyData.canLayAll0 (r.map PyData.str) = true ∧ PyData.depthAll (r.map PyData.str) = 0 := by
  obtain ⟨ps, h1, h2, h3⟩ := strs_lay h
  rw [toPs_strs] at h1
  cases h1
  exact ⟨h2, h3⟩
theorem gEq_strs {xs ys : List Str} (A : Hd) (h : xs.all laid = true) (h2 : ys.all laid = true) : gEq (.tup (xs.map D.str)) (.tup (ys.map D.str)) A = .ok (.bl (decide (xs = ys))) A := by
  have e : ∀ zs : List Str, toP (deR A (.tup (zs.map D.str))) = some (.tuple (zs.map PyData.str)) := fun zs => by
    show toP (.tup (zs.map D.str)) = _
    unfold toP
    rw [toPs_strs]
  have s : ∀ {zs : List Str}, zs.all laid = true → SeqAt.shaped (.tuple (zs.map PyData.str)) = true := fun {zs} hz => by
    obtain ⟨a, b⟩ := lay_all hz
    unfold SeqAt.shaped
    rw [Bool.and_eq_true]
    refine ⟨by unfold PyData.canLay0; exact a, decide_eq_true ?_⟩
    unfold PyData.depth
    omega
  have e3 : eqP A (.tup (xs.map D.str)) (.tup (ys.map D.str)) = some (decide (xs = ys)) := by
    unfold eqP
    rw [e, e]
    show (if SeqAt.shaped (.tuple (xs.map PyData.str)) = true ∧ SeqAt.shaped (.tuple (ys.map PyData.str)) = true then some (PyData.eqv (.tuple (xs.map PyData.str)) (.tuple (ys.map PyData.str))) else none) = _
    rw [if_pos ⟨s h, s h2⟩]
    show some (PyData.eqvAll _ _) = _
    rw [eqvAll_strs]
  unfold gEq
  simp only [e3]
def adv (g : Str) (p : List Str × Nat) : List Str × Nat := if (p.1.drop p.2).head? = some g then (p.1, p.2 + 1) else p
theorem adv_rest (g : Str) (p : List Str × Nat) : (adv g p).1.drop (adv g p).2 = Mg.dropHead g (p.1.drop p.2) := by
  unfold adv Mg.dropHead
  split
  · rw [List.tail_drop]
  · rfl
theorem adv_rests (g : Str) (L : LP) : restsOf (L.map (adv g)) = Mg.step (restsOf L) g := by
  unfold restsOf Mg.step
  rw [List.map_map, List.map_map]
  exact List.map_congr_left fun p _ => adv_rest g p
theorem adv_row (g : Str) (p : List Str × Nat) : (adv g p).1 = p.1 := by
  unfold adv
  split <;> rfl
theorem adv_rows (g : Str) (L : LP) : rowsOf (L.map (adv g)) = rowsOf L := by
  unfold rowsOf
  rw [List.map_map]
  exact List.map_congr_left fun p _ => adv_row g p
theorem tails_mid (y : Str) (P S : LP) (p : List Str × Nat) : Mg.tails y (restsOf (P ++ p :: S)) = Mg.tails y (restsOf P) + (if y ∈ (p.1.drop p.2).tail then 1 else 0) + Mg.tails y (restsOf S) := by
  unfold Mg.tails restsOf
  rw [List.map_append, List.map_cons, List.countP_append, List.countP_cons]
  by_cases q : y ∈ (p.1.drop p.2).tail <;> simp [q] <;> omega
theorem cut_one (r : List Str) (i : Nat) : DV.cutD (r.map D.str) (some (i : Int)) (some ((i : Int) + 1)) = ((r.drop i).head?.toList).map D.str := by
  have e1 : HT.sIx (r.map D.str).length 0 (some (i : Int)) = min i r.length := by rw [HT.sIx_nat, List.length_map]
  have e2 : HT.sIx (r.map D.str).length (r.map D.str).length (some ((i : Int) + 1)) = min (i + 1) r.length := by
    rw [show (i : Int) + 1 = ((i + 1 : Nat) : Int) by omega, HT.sIx_nat, List.length_map]
  unfold DV.cutD
  rw [e1, e2]
  by_cases h : i < r.length
  · rw [show min i r.length = i by omega, show min (i + 1) r.length - i = 1 by omega, ← List.map_drop]
    cases q : r.drop i with
    | nil =>
      have := congrArg List.length q
      rw [List.length_drop] at this
      simp at this
      omega
    | cons a l => rfl
  · rw [List.drop_eq_nil_of_le (show r.length ≤ i by omega), List.drop_eq_nil_of_le (by rw [List.length_map]; omega)]
    simp
theorem putD_len_in {es : List (Key × D)} {k : Key} {v w : D} (h : valD es k = some w) : (putD es k v).length = es.length := by
  unfold putD
  rw [valD_any, h, if_pos (show (some w).isSome = true from rfl), List.length_map]
theorem at_place {P S : LP} {p : List Str × Nat} : L2.atI ((placesOf (P ++ p :: S)).map D.int) (P.length : Int) = some (D.int p.2) := by
  rw [atI_nat]
  unfold placesOf
  rw [List.getElem?_map, List.getElem?_map, List.getElem?_append_right (Nat.le_refl _), Nat.sub_self]
  rfl
theorem set_place {P S : LP} {p : List Str × Nat} : ((placesOf (P ++ p :: S)).map D.int).set P.length (D.int ((p.2 : Int) + 1)) = (placesOf (P ++ (p.1, p.2 + 1) :: S)).map D.int := by
  unfold placesOf
  rw [List.map_append, List.map_append, List.map_append, List.map_append]
  rw [List.set_append_right _ _ (by simp)]
  simp
section
variable {A : Hd} {rs : List (List Str)} {fs : List Str} {es : List (Key × D)} {P S : LP} {p : List Str × Nat} {g : Str} {gs : List Str} {t5 t6 t9 : Option D}
abbrev e18 : EF := eBin gSubD (eVar 1) (eVar 8)
abbrev env8 (rs : List (List Str)) (A : Hd) (P : LP) (p : List Str × Nat) (g : Str) (gs : List Str) (t5 t6 t9 : Option D) : DV.Env := menv rs A.length (some (rowD p.1)) t5 t6 (some (.lst ((g :: gs).map D.str))) (some (.int (P.length : Nat))) t9
theorem e18_ok : e18 (env8 rs A P p g gs t5 t6 t9) (hp A (placesOf (P ++ p :: S)) fs es) = .ok (.int p.2) (hp A (placesOf (P ++ p :: S)) fs es) :=
  bin_ok (d := .ref A.length) (e := .int (P.length : Nat)) (A1 := hp A (placesOf (P ++ p :: S)) fs es) (A2 := hp A (placesOf (P ++ p :: S)) fs es) rfl rfl (sub_num hp_at0 at_place)
theorem cutOne_ok : eCut (eVar 4) (oSome e18) (oSome (eBin gAdd e18 (eC (.int 1)))) (env8 rs A P p g gs t5 t6 t9) (hp A (placesOf (P ++ p :: S)) fs es) = .ok (.tup (((p.1.drop p.2).head?.toList).map D.str)) (hp A (placesOf (P ++ p :: S)) fs es) := by
  let B := hp A (placesOf (P ++ p :: S)) fs es
  let ro := env8 rs A P p g gs t5 t6 t9
  have e2 : eBin gAdd e18 (eC (.int 1)) ro B = .ok (.int ((p.2 : Int) + 1)) B := bin_ok (e := .int 1) e18_ok rfl rfl
  have o1 : oSome e18 ro B = .ok (some (p.2 : Int)) B := by
    unfold oSome
    rw [show e18 ro B = _ from e18_ok, R.bind_ok]
  have o2 : oSome (eBin gAdd e18 (eC (.int 1))) ro B = .ok (some ((p.2 : Int) + 1)) B := by
    unfold oSome
    rw [e2, R.bind_ok]
  show eCut (eVar 4) (oSome e18) (oSome (eBin gAdd e18 (eC (.int 1)))) ro B = _
  unfold eCut
  rw [show eVar 4 ro B = .ok (rowD p.1) B from rfl, R.bind_ok, o1, R.bind_ok, o2, R.bind_ok]
  show R.ok (D.tup (DV.cutD (p.1.map D.str) (some (p.2 : Int)) (some ((p.2 : Int) + 1)))) B = _
  rw [cut_one]
theorem augP_ok : sAugAt gAddI (eVar 1) (eVar 8) (eC (.int 1)) (env8 rs A P p g gs t5 t6 t9) (hp A (placesOf (P ++ p :: S)) fs es) = .go .nx (env8 rs A P p g gs t5 t6 t9) (hp A (placesOf (P ++ (p.1, p.2 + 1) :: S)) fs es) := by
  let B := hp A (placesOf (P ++ p :: S)) fs es
  let ro := env8 rs A P p g gs t5 t6 t9
  have n1 : numL B (.ref A.length) = some (A.length, (placesOf (P ++ p :: S)).map D.int) := by
    unfold numL
    simp only [B, hp_at0]
  have i1 : gItem (.ref A.length) (.int (P.length : Nat)) B = .ok (.int p.2) B := by
    unfold gItem
    rw [n1]
    simp only [at_place]
  have ix : ixN ((placesOf (P ++ p :: S)).map D.int).length ((P.length : Nat) : Int) = some P.length := by
    unfold ixN
    rw [if_pos (Int.natCast_nonneg _), if_pos (by unfold placesOf; simp; omega)]
    rfl
  have s1 : setD (.ref A.length) (.int (P.length : Nat)) (.int ((p.2 : Int) + 1)) ro B = .ok ro (hp A (placesOf (P ++ (p.1, p.2 + 1) :: S)) fs es) := by
    unfold setD
    rw [n1]
    simp only [ix]
    rw [set_place, hp_set0]
  show sAugAt gAddI (eVar 1) (eVar 8) (eC (.int 1)) ro B = _
  unfold sAugAt
  rw [show eVar 1 ro B = .ok (.ref A.length) B from rfl, R.then_ok, show eVar 8 ro B = .ok (.int (P.length : Nat)) B from rfl, R.then_ok, i1, R.then_ok, show eC (.int 1) ro B = .ok (.int 1) B from rfl, R.then_ok,
    show gAddI (.int p.2) (.int 1) B = .ok (.int ((p.2 : Int) + 1)) B from rfl, R.then_ok, s1]
end
end K07

set_option Elab.async false
set_option linter.all false
set_option maxRecDepth 100000
namespace K07
open PySem PySem.Spec PyProof.Rows L2 DV
section
variable {A : Hd} {rs : List (List Str)} {fs : List Str} {es : List (Key × D)} {P S : LP} {p : List Str × Nat} {g : Str} {gs : List Str} {t5 t6 t9 : Option D}
noncomputable def tBody : SF := (sIf (tCmpD gEq (eCut (eVar 4) (oSome (eBin gSubD (eVar 1) (eVar 8))) (oSome (eBin gAdd (eBin gSubD (eVar 1) (eVar 8)) (eC (.int 1))))) (eArgs gTupD (aCons (eBin gSubD (eVar 7) (eC (.int 0))) aNil)))
  (sSeq (sAugAt gAddI (eVar 1) (eVar 8) (eC (.int 1)))
  (sIf (tCmpD gLt (eBin gSubD (eVar 1) (eVar 8)) (eArgs gLen (aCons (eVar 4) aNil)))
  (sAugAt gSub (eVar 3) (eBin gSubD (eVar 4) (eBin gSubD (eVar 1) (eVar 8))) (eC (.int 1)))
  sNx))
  sNx)
/-- the counts behind[x] -= 1 -/
theorem augB_ok {x : Str} {t : Nat} (hx : p.1[p.2]? = some x) (hv : valD es (.inr x) = some (.int (t : Nat))) (hl : es.length < 900) : sAugAt gSub (eVar 3) (eBin gSubD (eVar 4) (eBin gSubD (eVar 1) (eVar 8))) (eC (.int 1)) (env8 rs A P p g gs t5 t6 t9) (hp A (placesOf (P ++ p :: S)) fs es) = .go .nx (env8 rs A P p g gs t5 t6 t9) (hp A (placesOf (P ++ p :: S)) fs (putD es (.inr x) (.int ((t : Int) - 1)))) := by
  have z := sz1000
  let B := hp A (placesOf (P ++ p :: S)) fs es
  let ro := env8 rs A P p g gs t5 t6 t9
  have n1 : numL B (.ref (A.length + 2)) = none := by
    unfold numL
    simp only [B, hp_at2]
  have n2 : numD B (.ref (A.length + 2)) = some (A.length + 2, es) := by
    unfold numD
    simp only [B, hp_at2]
  have k : keyD (.str x) = some (.inr x) := rfl
  have i1 : gItem (.ref (A.length + 2)) (.str x) B = .ok (.int (t : Nat)) B := by
    unfold gItem
    rw [n1]
    simp only [n2, k, hv]
  have s1 : setD (.ref (A.length + 2)) (.str x) (.int ((t : Int) - 1)) ro B = .ok ro (hp A (placesOf (P ++ p :: S)) fs (putD es (.inr x) (.int ((t : Int) - 1)))) := by
    unfold setD
    rw [n1]
    simp only [n2, k]
    rw [if_pos (by omega), hp_set2]
  have e4 : eBin gSubD (eVar 4) (eBin gSubD (eVar 1) (eVar 8)) ro B = .ok (.str x) B := bin_ok (d := rowD p.1) (A1 := B) rfl e18_ok (sub_tup (by rw [atI_nat, List.getElem?_map, hx]; rfl))
  show sAugAt gSub (eVar 3) (eBin gSubD (eVar 4) (eBin gSubD (eVar 1) (eVar 8))) (eC (.int 1)) ro B = _
  unfold sAugAt
  rw [show eVar 3 ro B = .ok (.ref (A.length + 2)) B from rfl, R.then_ok, e4, R.then_ok, i1, R.then_ok, show eC (.int 1) ro B = .ok (.int 1) B from rfl, R.then_ok,
    show gSub (.int (t : Nat)) (.int 1) B = .ok (.int ((t : Int) - 1)) B from rfl, R.then_ok, s1]
theorem turn1 (hB : Beh es (fun y => Mg.tails y (restsOf (P ++ p :: S))) 120) (nd : (p.1.drop p.2).Nodup) (hla : p.1.all laid = true) (hlg : laid g = true) :
    ∃ es', tBody (env8 rs A P p g gs t5 t6 t9) (hp A (placesOf (P ++ p :: S)) fs es) = .go .nx (env8 rs A P p g gs t5 t6 t9) (hp A (placesOf (P ++ adv g p :: S)) fs es') ∧ Beh es' (fun y => Mg.tails y (restsOf (P ++ adv g p :: S))) 120 := by
  have z := sz1000
  have hhl : ((p.1.drop p.2).head?.toList).all laid = true := List.all_eq_true.mpr fun x hx => by
    have : x ∈ p.1.drop p.2 := by
      cases q : p.1.drop p.2 with
      | nil => rw [q] at hx; cases hx
      | cons a l => rw [q] at hx; rw [List.mem_singleton.mp hx]; exact List.mem_cons_self
    exact List.all_eq_true.mp hla x ((List.drop_sublist _ _).subset this)
  have tst : tCmpD gEq (eCut (eVar 4) (oSome (eBin gSubD (eVar 1) (eVar 8))) (oSome (eBin gAdd (eBin gSubD (eVar 1) (eVar 8)) (eC (.int 1))))) (eArgs gTupD (aCons (eBin gSubD (eVar 7) (eC (.int 0))) aNil)) (env8 rs A P p g gs t5 t6 t9) (hp A (placesOf (P ++ p :: S)) fs es) = .ok (decide ((p.1.drop p.2).head?.toList = [g])) (hp A (placesOf (P ++ p :: S)) fs es) := by
    refine tcmp_ok (e := .tup ([g].map D.str)) (A2 := hp A (placesOf (P ++ p :: S)) fs es) cutOne_ok (args1_ok (d := .str g) (A1 := hp A (placesOf (P ++ p :: S)) fs es) (bin_ok (d := .lst ((g :: gs).map D.str)) (e := .int 0) (A1 := hp A (placesOf (P ++ p :: S)) fs es) (A2 := hp A (placesOf (P ++ p :: S)) fs es) rfl rfl (sub_lst (atI_zero _ _))) ?_) (gEq_strs _ hhl (by simp [hlg]))
    unfold gTupD
    rw [if_pos (by show 1 ≤ sizeLine; omega)]
    rfl
  have hdec : ((p.1.drop p.2).head?.toList = [g]) ↔ (p.1.drop p.2).head? = some g := by
    cases (p.1.drop p.2).head? <;> simp
  by_cases hh : (p.1.drop p.2).head? = some g
  · rw [decide_eq_true (hdec.mpr hh)] at tst
    have ea : adv g p = (p.1, p.2 + 1) := by unfold adv; rw [if_pos hh]
    have er : Mg.dropHead g (p.1.drop p.2) = (p.1.drop p.2).tail := by unfold Mg.dropHead; rw [if_pos hh]
    have lt : tCmpD gLt (eBin gSubD (eVar 1) (eVar 8)) (eArgs gLen (aCons (eVar 4) aNil)) (env8 rs A P p g gs t5 t6 t9) (hp A (placesOf (P ++ (p.1, p.2 + 1) :: S)) fs es) = .ok (decide (((p.2 + 1 : Nat) : Int) < ((p.1.map D.str).length : Nat))) (hp A (placesOf (P ++ (p.1, p.2 + 1) :: S)) fs es) :=
      tcmp_ok (d := .int ((p.2 + 1 : Nat) : Int)) (e := .int ((p.1.map D.str).length : Nat)) (A1 := hp A (placesOf (P ++ (p.1, p.2 + 1) :: S)) fs es) (A2 := hp A (placesOf (P ++ (p.1, p.2 + 1) :: S)) fs es) (e18_ok (p := (p.1, p.2 + 1))) (args1_ok (d := rowD p.1) (A1 := hp A (placesOf (P ++ (p.1, p.2 + 1) :: S)) fs es) rfl rfl) rfl
    rw [ea]
    have tl : ∀ y, (if y ∈ (p.1.drop (p.2 + 1)).tail then 1 else 0 : Nat) = (if y ∈ (p.1.drop p.2).tail then (if (p.1.drop p.2).tail.head? = some y then 0 else 1) else 0) := fun y => by
      have := Mg.tail_drop (g := g) nd y
      rw [er, List.tail_drop, decide_eq_true hh, Bool.true_and] at this
      have h2 : (y ∈ (p.1.drop (p.2 + 1)).tail) ↔ (y ∈ (p.1.drop (p.2 + 1)) ∧ ¬ (p.1.drop (p.2 + 1)).head? = some y) := by
        constructor
        · intro h
          rw [decide_eq_true h] at this
          have h3 := this.symm
          rw [Bool.and_eq_true] at h3
          exact ⟨of_decide_eq_true h3.1, fun h4 => by rw [decide_eq_true h4] at h3; cases h3.2⟩
        · rintro ⟨a, b⟩
          rw [decide_eq_true a, decide_eq_false b] at this
          exact of_decide_eq_true this
      rw [show (p.1.drop p.2).tail = p.1.drop (p.2 + 1) from List.tail_drop ..]
      by_cases a : y ∈ p.1.drop (p.2 + 1)
      · by_cases b : (p.1.drop (p.2 + 1)).head? = some y
        · rw [if_neg (fun h => (h2.mp h).2 b), if_pos a, if_pos b]
        · rw [if_pos (h2.mpr ⟨a, b⟩), if_pos a, if_neg b]
      · rw [if_neg (fun h => a (h2.mp h).1), if_neg a]
    by_cases hlt : p.2 + 1 < p.1.length
    · rw [show decide (((p.2 + 1 : Nat) : Int) < ((p.1.map D.str).length : Nat)) = true from decide_eq_true (by rw [List.length_map]; omega)] at lt
      let x := p.1[p.2 + 1]
      have hx : p.1[p.2 + 1]? = some x := List.getElem?_eq_getElem hlt
      have hd : (p.1.drop (p.2 + 1)).head? = some x := by rw [List.head?_drop, hx]
      have hm : x ∈ p.1.drop (p.2 + 1) := List.mem_of_mem_head? hd
      have ht : (p.1.drop p.2).tail = p.1.drop (p.2 + 1) := List.tail_drop ..
      have hv : valD es (.inr x) = some (.int (Mg.tails x (restsOf (P ++ p :: S)) : Nat)) := by
        have h1 := hB.at_ x
        have h2 := tails_mid x P S p
        rw [ht, if_pos hm] at h2
        cases q : valD es (.inr x) with
        | none =>
          rw [q] at h1
          have h3 : (0 : Int) = (Mg.tails x (restsOf (P ++ p :: S)) : Nat) := by
            have : D.int 0 = D.int (Mg.tails x (restsOf (P ++ p :: S)) : Nat) := h1
            exact D.int.inj this
          omega
        | some v =>
          rw [q] at h1
          exact congrArg some h1
      have hle := hB.len
      refine ⟨putD es (.inr x) (.int ((Mg.tails x (restsOf (P ++ p :: S)) : Int) - 1)), sif_ok (z := true) tst (sseq_ok augP_ok (sif_ok (z := true) lt (augB_ok (p := (p.1, p.2 + 1)) hx hv (by omega)))), ?_⟩
      refine ⟨fun y => ?_, by rw [putD_len_in hv]; exact hle⟩
      have h2 := tails_mid y P S p
      have h3 := tails_mid y P S (p.1, p.2 + 1)
      have h4 := tl y
      rw [ht] at h2 h4
      rw [hd] at h4
      rw [valD_put]
      by_cases q : y = x
      · subst q
        rw [if_pos rfl]
        rw [if_pos hm] at h2
        rw [if_pos hm, if_pos rfl] at h4
        show D.int _ = D.int _
        congr 1
        show ((Mg.tails x (restsOf (P ++ p :: S)) : Nat) : Int) - 1 = _
        have h5 : Mg.tails x (restsOf (P ++ (p.1, p.2 + 1) :: S)) = Mg.tails x (restsOf P) + (if x ∈ (p.1.drop (p.2 + 1)).tail then 1 else 0) + Mg.tails x (restsOf S) := h3
        rw [h4] at h5
        omega
      · rw [if_neg (fun e => q (Sum.inr.inj e)), hB.at_ y]
        have q2 : ¬ (some x = some y) := fun e => q (Option.some.inj e).symm
        rw [if_neg q2] at h4
        congr 1
        have h5 : Mg.tails y (restsOf (P ++ (p.1, p.2 + 1) :: S)) = Mg.tails y (restsOf P) + (if y ∈ (p.1.drop (p.2 + 1)).tail then 1 else 0) + Mg.tails y (restsOf S) := h3
        rw [h4] at h5
        omega
    · rw [show decide (((p.2 + 1 : Nat) : Int) < ((p.1.map D.str).length : Nat)) = false from decide_eq_false (by rw [List.length_map]; omega)] at lt
      refine ⟨es, sif_ok (z := true) tst (sseq_ok augP_ok (sif_ok (z := false) lt rfl)), hB.congr fun y => ?_⟩
      have h2 := tails_mid y P S p
      have h5 : Mg.tails y (restsOf (P ++ (p.1, p.2 + 1) :: S)) = Mg.tails y (restsOf P) + (if y ∈ (p.1.drop (p.2 + 1)).tail then 1 else 0) + Mg.tails y (restsOf S) := tails_mid y P S (p.1, p.2 + 1)
      have h0 : p.1.drop (p.2 + 1) = [] := List.drop_eq_nil_of_le (by omega)
      rw [List.tail_drop, h0, if_neg (by simp)] at h2
      rw [h0, if_neg (by simp)] at h5
      omega
  · rw [decide_eq_false (fun h => hh (hdec.mp h))] at tst
    have ea : adv g p = p := by unfold adv; rw [if_neg hh]
    rw [ea]
    exact ⟨es, sif_ok (z := false) tst rfl, hB⟩
end
end K07

set_option Elab.async false
set_option linter.all false
set_option maxRecDepth 100000
namespace K07
open PySem PySem.Spec PyProof.Rows L2 DV
theorem fine_rests {L : LP} (h : Fine (rowsOf L)) : Fine (restsOf L) := by
  have mem : ∀ l ∈ restsOf L, ∃ r ∈ rowsOf L, l.Sublist r := fun l hl => by
    obtain ⟨p, hp, rfl⟩ := List.mem_map.mp hl
    exact ⟨p.1, List.mem_map.mpr ⟨p, hp, rfl⟩, List.drop_sublist _ _⟩
  refine ⟨fun l hl => ?_, fun l hl => ?_, ?_, fun l hl => ?_⟩
  · obtain ⟨r, hr, hs⟩ := mem l hl
    exact (h.nd r hr).sublist hs
  · obtain ⟨r, hr, hs⟩ := mem l hl
    exact List.all_eq_true.mpr fun x hx => List.all_eq_true.mp (h.lay r hr) x (hs.subset hx)
  · have := h.cnt
    unfold rowsOf at this
    unfold restsOf
    rw [List.length_map] at this ⊢
    exact this
  · obtain ⟨r, hr, hs⟩ := mem l hl
    exact Nat.le_trans hs.length_le (h.len r hr)
section
variable {A : Hd} {fs : List Str} {g : Str} {gs : List Str} {t5 t6 t9 : Option D}
theorem turns {L : LP} {es : List (Key × D)} {t4 t8 : Option D} (h : Fine (rowsOf L)) (hlg : laid g = true) (hB : Beh es (fun y => Mg.tails y (restsOf L)) 120) :
    ∃ es' t4' t8', sFor (iEnumS (eVar 0)) (gTpl [(gNm 8), (gNm 4)]) tBody (menv (rowsOf L) A.length t4 t5 t6 (some (.lst ((g :: gs).map D.str))) t8 t9) (hp A (placesOf L) fs es) = .go .nx (menv (rowsOf L) A.length t4' t5 t6 (some (.lst ((g :: gs).map D.str))) t8' t9) (hp A (placesOf (L.map (adv g))) fs es') ∧ Beh es' (fun y => Mg.tails y (restsOf (L.map (adv g)))) 120 := by
  obtain ⟨ro', A', e, es', t4', t8', rfl, rfl, hB'⟩ := forD_run (s := .mix (enD 0 ((rowsOf L).map rowD)) []) (g := gTpl [(gNm 8), (gNm 4)]) (b := tBody)
    (I := fun i ro A' => ∃ es' t4' t8', ro = menv (rowsOf L) A.length t4' t5 t6 (some (.lst ((g :: gs).map D.str))) t8' t9 ∧ A' = hp A (placesOf ((L.take i).map (adv g) ++ L.drop i)) fs es' ∧ Beh es' (fun y => Mg.tails y (restsOf ((L.take i).map (adv g) ++ L.drop i))) 120)
    (fun _ _ A _ => by intro p hp; cases hp) (enD 0 ((rowsOf L).map rowD)) 0 _ (hp A (placesOf L) fs es) ⟨es, t4, t8, rfl, rfl, hB⟩ (by
      rintro j d ro A' hd ⟨es', t4', t8', rfl, rfl, hB⟩
      rw [Nat.zero_add] at hB ⊢
      rw [enD_get] at hd
      obtain ⟨r, hr, rfl⟩ := Option.map_eq_some_iff.mp hd
      rw [List.getElem?_map] at hr
      obtain ⟨r', hr', rfl⟩ := Option.map_eq_some_iff.mp hr
      unfold rowsOf at hr'
      rw [List.getElem?_map] at hr'
      obtain ⟨p, hp', rfl⟩ := Option.map_eq_some_iff.mp hr'
      have hj : j < L.length := (List.getElem?_eq_some_iff.mp hp').1
      have hm : p ∈ L := List.mem_of_getElem? hp'
      have hrm : p.1 ∈ rowsOf L := List.mem_map.mpr ⟨p, hm, rfl⟩
      have ed : L.drop j = p :: L.drop (j + 1) := by
        rw [List.drop_eq_getElem_cons hj, (List.getElem?_eq_some_iff.mp hp').2]
      have lp : ((L.take j).map (adv g)).length = j := by rw [List.length_map, List.length_take]; omega
      have en : (L.take (j + 1)).map (adv g) ++ L.drop (j + 1) = (L.take j).map (adv g) ++ adv g p :: L.drop (j + 1) := by
        rw [List.take_add_one, hp', List.map_append, List.append_assoc]
        rfl
      rw [ed] at hB ⊢
      obtain ⟨es2, g1, g2⟩ := turn1 (A := A) (rs := rowsOf L) (fs := fs) (g := g) (gs := gs) (t5 := t5) (t6 := t6) (t9 := t9) hB ((h.nd p.1 hrm).sublist (List.drop_sublist _ _)) (h.lay p.1 hrm) hlg
      rw [en]
      refine ⟨_, _, ?_, es2, some (rowD p.1), some (.int (((L.take j).map (adv g)).length : Nat)), rfl, rfl, g2⟩
      rw [← g1]
      show (tBody (menv (rowsOf L) A.length (some (rowD p.1)) t5 t6 (some (.lst ((g :: gs).map D.str))) (some (.int ((0 + j : Nat) : Int))) t9) _) = tBody (menv (rowsOf L) A.length (some (rowD p.1)) t5 t6 (some (.lst ((g :: gs).map D.str))) (some (.int ((((L.take j).map (adv g)).length : Nat) : Int))) t9) _
      rw [lp, Nat.zero_add])
  rw [enD_len, List.length_map, Nat.zero_add] at hB'
  have el : (rowsOf L).length = L.length := List.length_map ..
  have ef : (L.take (rowsOf L).length).map (adv g) ++ L.drop (rowsOf L).length = L.map (adv g) := by
    rw [el, List.take_length, List.drop_length, List.append_nil]
  rw [ef] at hB'
  refine ⟨es', t4', t8', ?_, hB'⟩
  have en : iEnumS (eVar 0) (menv (rowsOf L) A.length t4 t5 t6 (some (.lst ((g :: gs).map D.str))) t8 t9) (hp A (placesOf L) fs es) = .ok (.mix (enD 0 ((rowsOf L).map rowD)) []) (hp A (placesOf L) fs es) := rfl
  refine sfor_ok en (e.trans ?_)
  rw [enD_len, List.length_map, Nat.zero_add, ef]
end
noncomputable def wBody : SF := (sSeq (sAsg (eComp (iZipS (eVar 0) (eVar 1)) (.tup [4, 9]) [4, 9] (tCmpD gLt (eVar 9) (eArgs gLen (aCons (eVar 4) aNil))) (eBin gSubD (eVar 4) (eVar 9))) (gNm 6))
  (sSeq (sAsg (eComp (iSeq (eVar 6)) (.one 5) [5] (tCmpD gEq (eGet2 (eVar 3) (eVar 5) (eC (.int 0))) (eC (.int 0))) (eVar 5)) (gNm 7))
  (sSeq (sIf (tCmpD gEq (eVar 6) (eArgs gLstD aNil))
  (sRet (eArgs gTupD (aCons (eArgs gTuple (aCons (eVar 2) aNil)) (aCons (eC .non) aNil))))
  sNx)
  (sSeq (sIf (tCmpD gEq (eVar 7) (eArgs gLstD aNil))
  (sRet (eArgs gTupD (aCons (eC .non) (aCons (fun _ _ => .stk) aNil))))
  sNx)
  (sSeq (sEx (eMeth isL gAppend (eVar 2) (aCons (eBin gSubD (eVar 7) (eC (.int 0))) aNil)))
  (sFor (iEnumS (eVar 0)) (gTpl [(gNm 8), (gNm 4)]) tBody))))))
theorem wloop {A : Hd} : ∀ (N : Nat) (L : LP) (acc : List Str) (es : List (Key × D)) (t4 t5 t6 t7 t8 t9 : Option D) (r : List Str), Mg.size (restsOf L) < N → Fine (rowsOf L) → Beh es (fun y => Mg.tails y (restsOf L)) 120 → acc.length + Mg.size (restsOf L) ≤ 900 → Mg.mergeL (restsOf L) = some r →
    ∃ ro' ps' es', whileD (tOfE (eC (.bl true))) wBody N (menv (rowsOf L) A.length t4 t5 t6 t7 t8 t9) (hp A (placesOf L) acc es) = .go (.ret (.tup [.tup ((acc ++ r).map D.str), .non])) ro' (hp A ps' (acc ++ r) es')
  | 0, _, _, _, _, _, _, _, _, _, _, h, _, _, _, _ => absurd h (Nat.not_lt_zero _)
  | N + 1, L, acc, es, t4, t5, t6, t7, t8, t9, r, h, hf, hB, ha, hr => by
    have z := sz1000
    have hfr := fine_rests hf
    have hcl : L.length ≤ 10 := by have := hf.cnt; unfold rowsOf at this; rw [List.length_map] at this; exact this
    let B : Hd := hp A (placesOf L) acc es
    have tst : tOfE (eC (.bl true)) (menv (rowsOf L) A.length t4 t5 t6 t7 t8 t9) B = .ok true B := trub_ok rfl
    have hh := mheads_ok (A := A) (L := L) (fs := acc) (es := es) (t4 := t4) (t5 := t5) (t6 := t6) (t7 := t7) (t8 := t8) (t9 := t9) hcl
    have hg := mfree_ok (A := A) (ps := placesOf L) (fs := acc) (rs := rowsOf L) (t4 := t4) (t5 := t5) (t7 := t7) (t8 := t8) (t9 := t9) hB hfr.cnt
    have gl : (Mg.goodOf (restsOf L)).all laid = true := List.all_eq_true.mpr fun x hx => List.all_eq_true.mp (heads_lay hfr) x (List.mem_filter.mp hx).1
    let H : Option D := some (.lst ((Mg.headsOf (restsOf L)).map D.str))
    let G : Option D := some (.lst ((Mg.goodOf (restsOf L)).map D.str))
    have t6' : tCmpD gEq (eVar 6) (eArgs gLstD aNil) (menv (rowsOf L) A.length t4 t5 H G t8 t9) B = .ok ((Mg.headsOf (restsOf L)).map D.str).isEmpty B :=
      tcmp_ok (d := .lst ((Mg.headsOf (restsOf L)).map D.str)) (e := .lst []) (A1 := B) (A2 := B) rfl (args_ok (ds := []) (A1 := B) rfl rfl) (gEq_nil (lay_strs (heads_lay hfr)))
    have t7' : tCmpD gEq (eVar 7) (eArgs gLstD aNil) (menv (rowsOf L) A.length t4 t5 H G t8 t9) B = .ok ((Mg.goodOf (restsOf L)).map D.str).isEmpty B :=
      tcmp_ok (d := .lst ((Mg.goodOf (restsOf L)).map D.str)) (e := .lst []) (A1 := B) (A2 := B) rfl (args_ok (ds := []) (A1 := B) rfl rfl) (gEq_nil (lay_strs gl))
    have e := Mg.mergeL_eq (restsOf L)
    rw [hr] at e
    cases q : Mg.headsOf (restsOf L) with
    | nil =>
      rw [if_pos q] at e
      cases e
      have t6'' : tCmpD gEq (eVar 6) (eArgs gLstD aNil) (menv (rowsOf L) A.length t4 t5 H G t8 t9) B = .ok true B := by rw [t6', q]; rfl
      have asr : gTuple [.ref (A.length + 1)] B = .ok (.tup (acc.map D.str)) B := by
        unfold gTuple asR asL
        simp only [B, hp_at1]
      have rt : sRet (eArgs gTupD (aCons (eArgs gTuple (aCons (eVar 2) aNil)) (aCons (eC .non) aNil))) (menv (rowsOf L) A.length t4 t5 H G t8 t9) B = .go (.ret (.tup [.tup (acc.map D.str), .non])) (menv (rowsOf L) A.length t4 t5 H G t8 t9) B := sret_ok (args2_ok (e := .non) (A1 := B) (A2 := B) (args1_ok (d := .ref (A.length + 1)) (A1 := B) rfl asr) rfl (by
        unfold gTupD
        rw [if_pos (by show 2 ≤ sizeLine; omega)]))
      have body : wBody (menv (rowsOf L) A.length t4 t5 t6 t7 t8 t9) B = .go (.ret (.tup [.tup (acc.map D.str), .non])) (menv (rowsOf L) A.length t4 t5 H G t8 t9) B := by
        unfold wBody
        refine sseq_ok (sasg_ok hh) (sseq_ok (sasg_ok hg) ?_)
        exact sseq_ret (sif_ok (z := true) (A1 := B) t6'' rt)
      refine ⟨menv (rowsOf L) A.length t4 t5 H G t8 t9, placesOf L, es, ?_⟩
      rw [List.append_nil]
      unfold whileD
      rw [tst, R.then_ok, if_pos rfl, body]
      rfl
    | cons hd hs =>
      rw [if_neg (by rw [q]; simp)] at e
      cases qg : Mg.goodOf (restsOf L) with
      | nil => rw [qg] at e; cases e
      | cons g gs =>
        rw [qg] at e
        obtain ⟨r', hr', er⟩ := Option.map_eq_some_iff.mp e.symm
        obtain ⟨gm, gt⟩ := Mg.good_mem qg
        have hsz := Mg.size_step gm
        have lg : laid g = true := List.all_eq_true.mp gl g (by rw [qg]; exact List.mem_cons_self)
        have t6'' : tCmpD gEq (eVar 6) (eArgs gLstD aNil) (menv (rowsOf L) A.length t4 t5 H G t8 t9) B = .ok false B := by rw [t6', q]; rfl
        have t7'' : tCmpD gEq (eVar 7) (eArgs gLstD aNil) (menv (rowsOf L) A.length t4 t5 H G t8 t9) B = .ok false B := by rw [t7', qg]; rfl
        have hG : G = some (.lst ((g :: gs).map D.str)) := by show some (D.lst _) = _; rw [qg]
        have happ : sEx (eMeth isL gAppend (eVar 2) (aCons (eBin gSubD (eVar 7) (eC (.int 0))) aNil)) (menv (rowsOf L) A.length t4 t5 H (some (.lst ((g :: gs).map D.str))) t8 t9) B = .go .nx (menv (rowsOf L) A.length t4 t5 H (some (.lst ((g :: gs).map D.str))) t8 t9) (hp A (placesOf L) (acc ++ [g]) es) := by
          unfold sEx eMeth
          rw [show eVar 2 (menv (rowsOf L) A.length t4 t5 H (some (.lst ((g :: gs).map D.str))) t8 t9) B = .ok (.ref (A.length + 1)) B from rfl, R.bind_ok]
          have il : isL B (.ref (A.length + 1)) = true := by
            unfold isL asR asL
            simp only [B, hp_at1]
            rfl
          rw [if_pos il, acons_ok (d := .str g) (A1 := B) (bin_ok (d := .lst ((g :: gs).map D.str)) (e := .int 0) (A1 := B) (A2 := B) rfl rfl (sub_lst (atI_zero _ _))) (show aNil _ B = .ok [] B from rfl), R.bind_ok]
          unfold gAppend numL
          simp only [B, hp_at1]
          rw [if_pos (by rw [List.length_map]; omega), show acc.map D.str ++ [D.str g] = (acc ++ [g]).map D.str by rw [List.map_append]; rfl, hp_set1]
          rfl
        obtain ⟨es2, t4', t8', g1, g2⟩ := turns (A := A) (fs := acc ++ [g]) (g := g) (gs := gs) (t4 := t4) (t5 := t5) (t6 := H) (t8 := t8) (t9 := t9) hf lg hB
        have body : wBody (menv (rowsOf L) A.length t4 t5 t6 t7 t8 t9) B = .go .nx (menv (rowsOf L) A.length t4' t5 H (some (.lst ((g :: gs).map D.str))) t8' t9) (hp A (placesOf (L.map (adv g))) (acc ++ [g]) es2) := by
          unfold wBody
          refine sseq_ok (sasg_ok hh) (sseq_ok (sasg_ok hg) (sseq_ok (sif_ok (z := false) (A1 := B) t6'' rfl) (sseq_ok (sif_ok (z := false) (A1 := B) t7'' rfl) ?_)))
          show sSeq _ _ (menv (rowsOf L) A.length t4 t5 H G t8 t9) B = _
          rw [hG]
          exact sseq_ok happ g1
        have ih := wloop (A := A) N (L.map (adv g)) (acc ++ [g]) es2 t4' t5 H (some (.lst ((g :: gs).map D.str))) t8' t9 r' (by rw [adv_rests]; omega) (by rw [adv_rows]; exact hf) g2 (by rw [adv_rests, List.length_append]; simp; omega) (by rw [adv_rests]; exact hr')
        obtain ⟨ro', ps', es', e3⟩ := ih
        rw [adv_rows] at e3
        subst er
        refine ⟨ro', ps', es', ?_⟩
        rw [List.append_assoc] at e3
        exact whileD_step tst body e3
end K07

set_option Elab.async false
set_option linter.all false
set_option maxRecDepth 100000
namespace K07
open PySem PySem.Spec PyProof.Rows L2 DV
/-- merge_of of rows that can be merged -/
theorem merge_ok {rs : List (List Str)} {A : Hd} {r : List Str} (low : ∀ m ∈ A, ∀ z, M.lt z m = true) (h : Fine rs) (hs : Mg.size rs < 200) (hr : Mg.mergeL rs = some r) : F_merge_of [rowsD rs] A = .ok (.tup [.tup (r.map D.str), .non]) A := by
  have z := sz1000
  have hc := h.cnt
  let L0 : LP := rs.map fun r => (r, 0)
  have r0 : rowsOf L0 = rs := by
    show (rs.map _).map _ = rs
    rw [List.map_map]
    exact (List.map_congr_left fun _ _ => rfl).trans (List.map_id _)
  have r1 : restsOf L0 = rs := by
    show (rs.map _).map _ = rs
    rw [List.map_map]
    exact (List.map_congr_left fun _ _ => rfl).trans (List.map_id _)
  have r2 : (placesOf L0).map D.int = List.replicate rs.length (D.int 0) := by
    show ((rs.map _).map _).map _ = _
    rw [List.map_map, List.map_map]
    exact List.map_eq_replicate_iff.mpr fun _ _ => rfl
  let ro : DV.Env := [some (rowsD rs), none, none, none, none, none, none, none, none, none]
  have e1 : eBin gMulM (eArgs gLstD (aCons (eC (.int 0)) aNil)) (eArgs gLen (aCons (eVar 0) aNil)) ro A = .ok (.ref A.length) (A ++ [M.lst ((placesOf L0).map D.int)]) := by
    refine bin_ok (d := .lst [.int 0]) (e := .int ((rs.map rowD).length : Nat)) (A1 := A) (A2 := A) (args1_ok (d := .int 0) (A1 := A) rfl ?_) (args1_ok (d := rowsD rs) (A1 := A) rfl rfl) ?_
    · unfold gLstD
      rw [if_pos (by show 1 ≤ sizeLine; omega)]
    · unfold gMulM asL
      dsimp only
      rw [if_pos (by rw [List.length_map]; exact ⟨by omega, by omega, by show 1 * _ ≤ _; omega⟩), Int.toNat_natCast, List.length_map, r2]
      exact congrArg (fun l => R.ok (D.ref A.length) (A ++ [M.lst l])) List.flatten_replicate_singleton
  have e2 : eArgs gLstM aNil ro (A ++ [M.lst ((placesOf L0).map D.int)]) = .ok (.ref (A.length + 1)) (A ++ [M.lst ((placesOf L0).map D.int)] ++ [M.lst []]) := args_ok (ds := []) (A1 := A ++ [M.lst ((placesOf L0).map D.int)]) rfl (by
    unfold gLstM
    rw [if_pos (by show 0 ≤ sizeLine; omega), List.length_append]
    rfl)
  have e3 : eDicM ro (A ++ [M.lst ((placesOf L0).map D.int)] ++ [M.lst []]) = .ok (.ref (A.length + 2)) (A ++ [M.lst ((placesOf L0).map D.int)] ++ [M.lst []] ++ [M.dic []]) := by
    unfold eDicM
    rw [List.length_append, List.length_append]
    rfl
  have hh : A ++ [M.lst ((placesOf L0).map D.int)] ++ [M.lst []] ++ [M.dic []] = hp A (placesOf L0) [] [] := by
    unfold hp
    rw [List.append_assoc, List.append_assoc]
    rfl
  have par : sAsg (eArgs gTupD (aCons (eBin gMulM (eArgs gLstD (aCons (eC (.int 0)) aNil)) (eArgs gLen (aCons (eVar 0) aNil))) (aCons (eArgs gLstM aNil) (aCons eDicM aNil)))) (gTpl [(gNm 1), (gNm 2), (gNm 3)]) ro A = .go .nx (menv rs A.length none none none none none none) (hp A (placesOf L0) [] []) := by
    unfold sAsg
    rw [args_ok (k := gTupD) (r := .ok (.tup [.ref A.length, .ref (A.length + 1), .ref (A.length + 2)]) (hp A (placesOf L0) [] [])) (acons_ok e1 (acons_ok e2 (acons_ok e3 (show aNil ro _ = .ok [] _ from rfl)))) (by
      unfold gTupD
      rw [if_pos (by show 3 ≤ sizeLine; omega), hh])]
    rfl
  obtain ⟨es, t4, t5, f1, f2⟩ := fill2 (A := A) (ps := placesOf L0) (fs := []) (v1 := some (.ref A.length)) (v2 := some (.ref (A.length + 1))) (t4 := none) (t5 := none) (t6 := none) (t7 := none) (t8 := none) (t9 := none) h
  obtain ⟨ro', ps', es', w⟩ := wloop (A := A) 200 L0 [] es t4 t5 none none none none r (by rw [r1]; exact hs) (by rw [r0]; exact h) (by rw [r1]; exact f2) (by rw [r1]; simp; omega) (by rw [r1]; exact hr)
  rw [r0, List.nil_append] at w
  show finR A (b_merge_of ro A) = _
  have body : b_merge_of ro A = .go (.ret (.tup [.tup (r.map D.str), .non])) ro' (hp A ps' r es') := sseq_ok par (sseq_ok f1 w)
  rw [body]
  exact cut_val (A1 := A) (X := [M.lst (ps'.map D.int), M.lst (r.map D.str), M.dic es']) rfl (fun m hm => low m hm _) (by simp [D.lt, D.lts, strs_low])
end K07

set_option Elab.async false
set_option linter.all false
set_option maxRecDepth 100000
namespace K07
open PySem PySem.Spec PyProof.Rows L2 DV
/-! ### the checks; merged -/
theorem mets_nodup : ∀ (xs acc : List Str), (acc ++ xs).Nodup → xs.foldl met1 acc = acc ++ xs
  | [], acc, _ => by simp
  | x :: xs, acc, h => by
    have hx : x ∉ acc := fun z => by
      rw [List.nodup_append] at h
      exact h.2.2 x z x List.mem_cons_self rfl
    have e : met1 acc x = acc ++ [x] := by
      unfold met1
      rw [if_neg]
      intro z
      obtain ⟨y, hy, e⟩ := List.any_eq_true.mp z
      rw [eq_of_beq e] at hy
      exact hx hy
    rw [List.foldl_cons, e, mets_nodup xs (acc ++ [x]) (by rw [List.append_assoc]; exact h), List.append_assoc]
    rfl
/-- a name as the program wants it -/
def good1 (x : Str) : Bool := laid x && (okIt (.str x) && isName (.str x))
structure RowG (r : List Str) : Prop where
  nd : r.Nodup
  all : r.all good1 = true
  len : r.length ≤ 100
theorem good1_laid {x : Str} (h : good1 x = true) : laid x = true := by
  unfold good1 at h
  rw [Bool.and_eq_true] at h
  exact h.1
theorem RowG.laid {r : List Str} (h : RowG r) : r.all K07.laid = true := List.all_eq_true.mpr fun x hx => good1_laid (List.all_eq_true.mp h.all x hx)
theorem RowG.ok {r : List Str} (h : RowG r) : okRow (rowD r) = true ∧ isDiff (rowD r) = true := by
  have each : ∀ x ∈ r, okIt (.str x) = true ∧ isName (.str x) = true := fun x hx => by
    have := List.all_eq_true.mp h.all x hx
    unfold good1 at this
    rw [Bool.and_eq_true, Bool.and_eq_true] at this
    exact this.2
  have hl := h.len
  refine ⟨?_, ?_⟩
  · show ((r.map D.str).all okIt && decide ((r.map D.str).length ≤ 1000)) = true
    rw [List.all_eq_true.mpr (fun d hd => by obtain ⟨x, hx, rfl⟩ := List.mem_map.mp hd; exact (each x hx).1), decide_eq_true (by rw [List.length_map]; omega)]
    rfl
  · show ((r.map D.str).all isName && dist (r.map D.str)) = true
    rw [List.all_eq_true.mpr (fun d hd => by obtain ⟨x, hx, rfl⟩ := List.mem_map.mp hd; exact (each x hx).2), Bool.true_and]
    unfold dist
    rw [textsD_map]
    show decide (((mets r).length : Int) = ((r.map D.str).length : Int)) = true
    have e : mets r = r := by
      have := mets_nodup r [] h.nd
      simpa [mets] using this
    rw [e, List.length_map]
    exact decide_eq_true rfl
theorem rowG_of {r : List Str} (h : rowOf r) : RowG r := by
  obtain ⟨nd, mem, len⟩ := rowOf_mem h
  have all8 : names8.all good1 = true := by decide +kernel
  exact ⟨nd, List.all_eq_true.mpr fun x hx => List.all_eq_true.mp all8 x (mem x hx), by omega⟩
theorem step2_ok {b : SF} {o : Out} {d : D} {ro0 ro : DV.Env} {A : Hd} {g : GF} (h : b ro A = o) (e : g d ro0 A = .ok ro A := by rfl) : (g d ro0 A).out.next b = o := by rw [e]; exact h
theorem check_ok {rs : List (List Str)} {A : Hd} (h : ∀ r ∈ rs, RowG r) : F_check_tuples [rowsD rs] A = .ok .non A := by
  show finR A (b_check_tuples [some (rowsD rs), none, none] A) = _
  unfold b_check_tuples
  have src : iEnumS (eVar 0) [some (rowsD rs), none, none] A = .ok (.mix (enD 0 (rs.map rowD)) []) A := rfl
  obtain ⟨ro', A', e, t1, t2, rfl, rfl⟩ := forD_run (s := .mix (enD 0 (rs.map rowD)) []) (g := gTpl [gNm 1, gNm 2]) (b := sIf (tNotD (tOfE (eArgs (fun ds A => F_are_different (ds ++ []) A) (aCons (eVar 2) aNil)))) (fun _ _ => .stk) sNx)
    (I := fun _ ro A' => ∃ t1 t2, ro = [some (rowsD rs), t1, t2] ∧ A' = A) (fun _ _ _ _ => fun p hp => by cases hp) (enD 0 (rs.map rowD)) 0 [some (rowsD rs), none, none] A ⟨none, none, rfl, rfl⟩ (by
      rintro j d ro A' hd ⟨t1, t2, rfl, rfl⟩
      rw [enD_get] at hd
      cases hx : (rs.map rowD)[j]? with
      | none => rw [hx] at hd; cases hd
      | some x =>
        rw [hx] at hd
        cases hd
        obtain ⟨r, hr, rfl⟩ := List.mem_map.mp (List.mem_of_getElem? hx)
        obtain ⟨f2, f3⟩ := (h r hr).ok
        refine ⟨[some (rowsD rs), some (.int ((0 + j : Nat) : Int)), some (rowD r)], A', ?_, ⟨_, _, rfl, rfl⟩⟩
        have dk : F_are_different [rowD r] A' = .ok (.bl true) A' := by rw [← f3]; exact diff_ok f2
        have ea : eArgs (fun ds A => F_are_different (ds ++ []) A) (aCons (eVar 2) aNil) [some (rowsD rs), some (.int ((0 + j : Nat) : Int)), some (rowD r)] A' = .ok (.bl true) A' := args1_ok (d := rowD r) (A1 := A') rfl dk
        have et : tNotD (tOfE (eArgs (fun ds A => F_are_different (ds ++ []) A) (aCons (eVar 2) aNil))) [some (rowsD rs), some (.int ((0 + j : Nat) : Int)), some (rowD r)] A' = .ok false A' := tnot_ok (trub_ok ea)
        have es : sIf (tNotD (tOfE (eArgs (fun ds A => F_are_different (ds ++ []) A) (aCons (eVar 2) aNil)))) (fun _ _ => .stk) sNx [some (rowsD rs), some (.int ((0 + j : Nat) : Int)), some (rowD r)] A' = .go .nx [some (rowsD rs), some (.int ((0 + j : Nat) : Int)), some (rowD r)] A' := sif_ok (z := false) (A1 := A') et rfl
        exact step2_ok es)
  have e2 := sfor_ok (s := .mix (enD 0 (rs.map rowD)) []) src e
  rw [e2]
  exact (cut_self : cutR A' .non A' = _)
/-- rows that merged takes: at most ten of at most twelve names -/
structure Rows (rs : List (List Str)) : Prop where
  row : ∀ r ∈ rs, RowG r
  cnt : rs.length ≤ 10
  len : ∀ r ∈ rs, r.length ≤ 12
theorem Rows.fine {rs : List (List Str)} (h : Rows rs) : Fine rs := ⟨fun r hr => (h.row r hr).nd, fun r hr => (h.row r hr).laid, h.cnt, h.len⟩
theorem size_le {m : Nat} : ∀ {rs : List (List Str)}, (∀ r ∈ rs, r.length ≤ m) → Mg.size rs ≤ m * rs.length
  | [], _ => Nat.zero_le _
  | r :: rs, h => by
    have := size_le (rs := rs) fun r hr => h r (List.mem_cons_of_mem _ hr)
    have h1 := h r List.mem_cons_self
    unfold Mg.size at this ⊢
    rw [List.map_cons, List.sum_cons, List.length_cons, Nat.mul_succ]
    omega
theorem Rows.size {rs : List (List Str)} (h : Rows rs) : Mg.size rs < 200 := by
  have h1 := size_le h.len
  have h2 := h.cnt
  have : 12 * rs.length ≤ 120 := by omega
  omega
theorem merged_ok {rs : List (List Str)} {A : Hd} {r : List Str} (low : ∀ m ∈ A, ∀ z, M.lt z m = true) (h : Rows rs) (hr : Mg.mergeL rs = some r) : F_merged [rowsD rs] A = .ok (.tup (r.map D.str)) A := by
  show finR A (b_merged [some (rowsD rs), none, none] A) = _
  have e1 : sEx (eArgs (fun ds A => F_check_tuples (ds ++ []) A) (aCons (eVar 0) aNil)) [some (rowsD rs), none, none] A = .go .nx [some (rowsD rs), none, none] A := by
    have e : eArgs (fun ds A => F_check_tuples (ds ++ []) A) (aCons (eVar 0) aNil) [some (rowsD rs), none, none] A = .ok .non A := args1_ok (d := rowsD rs) (A1 := A) rfl (check_ok h.row)
    unfold sEx
    rw [e]
    rfl
  have e2 : eArgs (fun ds A => F_merge_of (ds ++ []) A) (aCons (eVar 0) aNil) [some (rowsD rs), none, none] A = .ok (.tup [.tup (r.map D.str), .non]) A := args1_ok (d := rowsD rs) (A1 := A) rfl (merge_ok low h.fine h.size hr)
  have e3 : sAsg (eArgs (fun ds A => F_merge_of (ds ++ []) A) (aCons (eVar 0) aNil)) (gTpl [(gNm 1), (gNm 2)]) [some (rowsD rs), none, none] A = .go .nx [some (rowsD rs), some (.tup (r.map D.str)), some .non] A := by
    unfold sAsg
    rw [e2]
    rfl
  have e4 : tCmpD gIsN (eVar 1) (eC .non) [some (rowsD rs), some (.tup (r.map D.str)), some .non] A = .ok false A := tcmp_ok (d := .tup (r.map D.str)) (e := .non) (A1 := A) (A2 := A) rfl rfl rfl
  have body : b_merged [some (rowsD rs), none, none] A = .go (.ret (.tup (r.map D.str))) [some (rowsD rs), some (.tup (r.map D.str)), some .non] A := sseq_ok e1 (sseq_ok e3 (sseq_ok (sif_ok (z := false) (A1 := A) e4 rfl) (sret_ok (d := .tup (r.map D.str)) (A1 := A) rfl)))
  rw [body]
  exact (cut_self : cutR A _ A = _)
theorem star_ok {rs : List (List Str)} {A : Hd} {r : List Str} (low : ∀ m ∈ A, ∀ z, M.lt z m = true) (h : Rows rs) (hr : Mg.mergeL rs = some r) : starF F_merged (rs.map rowD) A = .ok (.tup (r.map D.str)) A := by
  have z := sz1000
  have hc := h.cnt
  unfold starF
  rw [if_pos (by rw [List.length_map]; omega)]
  exact merged_ok low h hr
theorem mergedBy_ok {rs : List (List Str)} {A : Hd} {r : List Str} (low : ∀ m ∈ A, ∀ z, M.lt z m = true) (h : Rows rs) (h5 : rs.length ≤ 5) (hr : Mg.mergeL rs = some r) : F__law_merged_by [.lst (rs.map rowD)] A = .ok (.tup (r.map D.str)) A := by
  have st := star_ok low h hr
  let ro : DV.Env := [some (.lst (rs.map rowD))]
  have hlen : eArgs gLen (aCons (eVar 0) aNil) ro A = .ok (.int ((rs.map rowD).length : Nat)) A := args1_ok (d := .lst (rs.map rowD)) (A1 := A) rfl rfl
  have sub : ∀ (i : Nat) (x : D), (rs.map rowD)[i]? = some x → eBin gSubD (eVar 0) (eC (.int (i : Nat))) ro A = .ok x A := fun i x hx => bin_ok (d := .lst (rs.map rowD)) (e := .int (i : Nat)) (A1 := A) (A2 := A) rfl rfl (sub_lst (by rw [atI_nat]; exact hx))
  have eq : ∀ n : Int, tCmpD gEq (eArgs gLen (aCons (eVar 0) aNil)) (eC (.int n)) ro A = .ok (decide (((rs.map rowD).length : Int) = n)) A := fun n => tcmp_ok (e := .int n) (A2 := A) hlen rfl (gEq_int _ _ _)
  have lt : tCmpD gLt (eArgs gLen (aCons (eVar 0) aNil)) (eC (.int 2)) ro A = .ok (decide (((rs.map rowD).length : Int) < 2)) A := tcmp_ok (e := .int 2) (A2 := A) hlen rfl rfl
  show finR A (b__law_merged_by ro A) = _
  have fin : ∀ o, o = Out.go (.ret (.tup (r.map D.str))) ro A → finR A o = .ok (.tup (r.map D.str)) A := fun o e => by rw [e]; exact (cut_self : cutR A _ A = _)
  refine fin _ ?_
  unfold b__law_merged_by
  rcases rs with _ | ⟨a, _ | ⟨b, _ | ⟨c, _ | ⟨d, _ | ⟨e, _ | ⟨f, rs⟩⟩⟩⟩⟩⟩
  · refine sseq_ret (sif_ok (z := true) lt (sret_ok (if_ok (z := false) (A1 := A) (tcmp_ok (d := .lst []) (e := .lst []) (A1 := A) (A2 := A) rfl (args_ok (ds := []) (A1 := A) rfl rfl) (gNe_nil (fun d hd => by cases hd))) st)))
  · have hne : tCmpD gNe (eVar 0) (eArgs gLstD aNil) ro A = .ok true A := tcmp_ok (d := .lst ([a].map rowD)) (e := .lst []) (A1 := A) (A2 := A) rfl (args_ok (ds := []) (A1 := A) rfl rfl) (gNe_nil (ds := [a].map rowD) (fun d hd => by
      rw [List.mem_singleton.mp hd]
      obtain ⟨ps, h1, h2, h3⟩ := strs_lay ((h.row a List.mem_cons_self).laid)
      have e : toP (rowD a) = some (.tuple ps) := by
        unfold rowD toP
        rw [h1]
      unfold layD
      rw [e]
      show (PyData.canLay0 (.tuple ps) && decide (PyData.depth (.tuple ps) ≤ 50)) = true
      have d1 : PyData.depth (.tuple ps) = PyData.depthAll ps + 1 := by
        first | rfl | (unfold PyData.depth; omega)
      rw [d1, h3]
      unfold PyData.canLay0
      rw [h2]
      rfl))
    exact sseq_ret (sif_ok (z := true) lt (sret_ok (if_ok (z := true) (A1 := A) hne (args1_ok (sub 0 _ rfl) st))))
  · refine sseq_ok (ro' := ro) (A1 := A) (sif_ok (z := false) lt rfl) (sseq_ret (sif_ok (z := true) (eq 2) (sret_ok (args2_ok (sub 0 _ rfl) (sub 1 _ rfl) st))))
  · refine sseq_ok (ro' := ro) (A1 := A) (sif_ok (z := false) lt rfl) (sseq_ok (ro' := ro) (A1 := A) (sif_ok (z := false) (eq 2) rfl) (sseq_ret (sif_ok (z := true) (eq 3) (sret_ok (args_ok (acons_ok (sub 0 _ rfl) (acons_ok (sub 1 _ rfl) (acons_ok (sub 2 _ rfl) rfl))) st)))))
  · refine sseq_ok (ro' := ro) (A1 := A) (sif_ok (z := false) lt rfl) (sseq_ok (ro' := ro) (A1 := A) (sif_ok (z := false) (eq 2) rfl) (sseq_ok (ro' := ro) (A1 := A) (sif_ok (z := false) (eq 3) rfl) (sseq_ret (sif_ok (z := true) (eq 4) (sret_ok (args_ok (acons_ok (sub 0 _ rfl) (acons_ok (sub 1 _ rfl) (acons_ok (sub 2 _ rfl) (acons_ok (sub 3 _ rfl) rfl)))) st))))))
  · refine sseq_ok (ro' := ro) (A1 := A) (sif_ok (z := false) lt rfl) (sseq_ok (ro' := ro) (A1 := A) (sif_ok (z := false) (eq 2) rfl) (sseq_ok (ro' := ro) (A1 := A) (sif_ok (z := false) (eq 3) rfl) (sseq_ok (ro' := ro) (A1 := A) (sif_ok (z := false) (eq 4) rfl) (sret_ok (args_ok (acons_ok (sub 0 _ rfl) (acons_ok (sub 1 _ rfl) (acons_ok (sub 2 _ rfl) (acons_ok (sub 3 _ rfl) (acons_ok (sub 4 _ rfl) rfl))))) st)))))
  · simp only [List.length_cons] at h5
    omega
end K07

set_option Elab.async false
set_option linter.all false
set_option maxRecDepth 100000
namespace K07
open PySem PySem.Spec PyProof.Rows L2 DV
theorem toPs_ints : ∀ ns : List Int, toPs (ns.map D.int) = some (ns.map PyData.int) ∧ PyData.canLayAll0 (ns.map PyData.int) = true ∧ PyData.depthAll (ns.map PyData.int) = 0
  | [] => ⟨rfl, rfl, rfl⟩
  | n :: ns => by
    obtain ⟨h1, h2, h3⟩ := toPs_ints ns
    refine ⟨?_, ?_, ?_⟩
    · rw [List.map_cons]; unfold toPs; rw [h1]; rfl
    · rw [List.map_cons]; unfold PyData.canLayAll0; rw [h2]; rfl
    · rw [List.map_cons]; unfold PyData.depthAll; rw [h3]; rfl
theorem gNe_scr {ns : List Int} {A : Hd} : gNe (.scr (ns.map D.int)) (.lst []) A = .ok (.bl (!ns.isEmpty)) A := by
  obtain ⟨h1, h2, h3⟩ := toPs_ints ns
  have e : eqP A (.scr (ns.map D.int)) (.lst []) = some ns.isEmpty := by
    unfold eqP
    have e1 : toP (deR A (.scr (ns.map D.int))) = some (.list (ns.map PyData.int)) := by
      show toP (.scr _) = _
      unfold toP
      rw [h1]
    have e2 : toP (deR A (.lst [])) = some (.list []) := by
      show toP (.lst []) = _
      unfold toP
      rfl
    rw [e1, e2]
    have s1 : SeqAt.shaped (.list (ns.map PyData.int)) = true := by
      unfold SeqAt.shaped
      rw [Bool.and_eq_true]
      refine ⟨by unfold PyData.canLay0; exact h2, decide_eq_true ?_⟩
      unfold PyData.depth
      omega
    have s2 : SeqAt.shaped (.list []) = true := by decide +kernel
    show (if SeqAt.shaped (.list (ns.map PyData.int)) = true ∧ SeqAt.shaped (.list []) = true then some (PyData.eqv (.list (ns.map PyData.int)) (.list [])) else none) = _
    rw [if_pos ⟨s1, s2⟩]
    cases ns <;> rfl
  unfold gNe
  simp only [e]
theorem sourceN {ns : List Int} {kk : Nat} {A : Hd} (hl : ns.length ≤ 63) (hk : kk ≤ 10) (low : ∀ m ∈ A, ∀ z, M.lt z m = true) : ∃ A', F__law_source [.scr (ns.map D.int), .int kk] A = .ok (.ref A.length) A' ∧ SN (A.length + 1) A.length A' 30 := by
  have pw : CPow 10 18 := ⟨by omega, by omega, by decide⟩
  have z3 : 3 ≤ sizeLine := by have := sz1000; omega
  have mul : CMul 3 (kk : Int) := .inl ⟨by omega, by omega⟩
  have cell : ∃ c : Int, eIf (tCmpD gNe (eVar 0) (eArgs gLstD aNil)) (eBin gSubD (eVar 0) (eBin gMod (eVar 1) (eArgs gLen (aCons (eVar 0) aNil)))) (eC (.int 1)) [some (.scr (ns.map D.int)), some (.int kk), none] A = .ok (.int c) A := by
    by_cases hn : ns = []
    · subst hn
      exact ⟨1, if_ok (z := false) (A1 := A) (tcmp_ok (d := .scr (([] : List Int).map D.int)) (e := .lst []) (A1 := A) (A2 := A) rfl (args_ok (ds := []) (A1 := A) rfl rfl) (gNe_scr (ns := []))) rfl⟩
    · have hpos : 0 < ns.length := List.length_pos_iff.mpr hn
      have ml : (ns.map D.int).length = ns.length := List.length_map ..
      obtain ⟨x, hx, mx⟩ := atI_of (xs := ns.map D.int) (i := (kk : Int) % (ns.length : Int)) (Int.emod_nonneg _ (by omega)) (by rw [ml]; exact Int.emod_lt_of_pos _ (by omega))
      obtain ⟨c, _, rfl⟩ := List.mem_map.mp mx
      refine ⟨c, if_ok (z := true) (A1 := A) (tcmp_ok (d := .scr (ns.map D.int)) (e := .lst []) (A1 := A) (A2 := A) rfl (args_ok (ds := []) (A1 := A) rfl rfl) ((gNe_scr (ns := ns)).trans ?_)) ?_⟩
      · cases ns with
        | nil => exact absurd rfl hn
        | cons _ _ => rfl
      · rw [if_pos rfl]
        refine bin_ok (d := .scr (ns.map D.int)) (e := .int ((kk : Int) % (ns.length : Int))) (A1 := A) (A2 := A) rfl (bin_ok (d := .int kk) (e := .int ns.length) (A1 := A) (A2 := A) rfl (args1_ok (d := .scr (ns.map D.int)) (A1 := A) rfl (by
          show R.ok (D.int ((ns.map D.int).length : Nat)) A = _
          rw [ml])) ?_) (sub_scr hx)
        show (if (0 : Int) < (ns.length : Int) then R.ok (D.int ((kk : Int) % (ns.length : Int))) A else .stk) = _
        rw [if_pos (by omega)]
  obtain ⟨c, hc⟩ := cell
  let m0 : M := .lst [.int c, .int (3 * kk), .int (if 10 ^ 18 ≤ c then c / 10 ^ 18 else 0)]
  have h3 : eIf (tCmpD gGe (eVar 2) (eBin gPow (eC (.int 10)) (eC (.int 18)))) (eBin gDiv (eVar 2) (eBin gPow (eC (.int 10)) (eC (.int 18)))) (eC (.int 0)) [some (.scr (ns.map D.int)), some (.int kk), some (.int c)] A = .ok (.int (if 10 ^ 18 ≤ c then c / 10 ^ 18 else 0)) A := by
    have hp : eBin gPow (eC (.int 10)) (eC (.int 18)) [some (.scr (ns.map D.int)), some (.int kk), some (.int c)] A = .ok (.int (10 ^ 18)) A := bin_ok (A1 := A) (A2 := A) rfl rfl (by unfold gPow; simp [pw])
    refine if_ok (z := decide ((10 : Int) ^ 18 ≤ c)) (A1 := A) (tcmp_ok (d := .int c) (A1 := A) (A2 := A) rfl hp rfl) ?_
    by_cases q : (10 : Int) ^ 18 ≤ c
    · rw [if_pos (decide_eq_true q), if_pos q]
      refine bin_ok (d := .int c) (A1 := A) (A2 := A) rfl hp ?_
      have cd : CDivW c (10 ^ 18) := ⟨by omega, by decide +kernel⟩
      unfold gDiv
      simp only [cd, if_true]
    · rw [if_neg (by simpa using q), if_neg q]
      rfl
  have hm : eBin gMul (eC (.int 3)) (eVar 1) [some (.scr (ns.map D.int)), some (.int kk), some (.int c)] A = .ok (.int (3 * kk)) A := bin_ok (d := .int 3) (e := .int kk) (A1 := A) (A2 := A) rfl rfl (by unfold gMul; simp [mul])
  have hr : eArgs gLstM (aCons (eVar 2) (aCons (eBin gMul (eC (.int 3)) (eVar 1)) (aCons (eIf (tCmpD gGe (eVar 2) (eBin gPow (eC (.int 10)) (eC (.int 18)))) (eBin gDiv (eVar 2) (eBin gPow (eC (.int 10)) (eC (.int 18)))) (eC (.int 0))) aNil))) [some (.scr (ns.map D.int)), some (.int kk), some (.int c)] A = .ok (.ref A.length) (A ++ [m0]) := args_ok (acons_ok (a := eVar 2) (d := .int c) (A1 := A) rfl (acons_ok hm (acons_ok h3 (show aNil _ _ = .ok [] A from rfl)))) (by
    unfold gLstM
    rw [if_pos (by exact z3)])
  refine ⟨A ++ [m0], ?_, by rw [List.length_append]; rfl, ⟨c, 3 * kk, _, by rw [List.getElem?_append_right (Nat.le_refl _), Nat.sub_self]; rfl, by omega, by omega, ?_⟩, fun m hm z => ?_⟩
  · show finK (b__law_source [some (.scr (ns.map D.int)), some (.int kk), none] A) = _
    unfold b__law_source
    have all := sseq_ok (p := sAsg (eIf (tCmpD gNe (eVar 0) (eArgs gLstD aNil)) (eBin gSubD (eVar 0) (eBin gMod (eVar 1) (eArgs gLen (aCons (eVar 0) aNil)))) (eC (.int 1))) (gNm 2)) (ro := [some (.scr (ns.map D.int)), some (.int kk), none]) (A := A) (sasg_ok hc) (sret_ok hr)
    rw [all]
    rfl
  · split
    · exact Int.ediv_nonneg (by omega) (by omega)
    · omega
  · rcases List.mem_append.mp hm with w | w
    · exact low m w z
    · rw [List.mem_singleton.mp w]
      simp [m0, M.lt, D.lts, D.lt]
end K07

set_option Elab.async false
set_option linter.all false
set_option maxRecDepth 100000
namespace K07
open PySem PySem.Spec PyProof.Rows L2 DV
/-! ### what k07 needs besides -/
theorem catL_ok {xs ys : List D} {A : Hd} (h : xs.length + ys.length ≤ 1000) : gAdd (.lst xs) (.lst ys) A = .ok (.lst (xs ++ ys)) A := by
  have := sz1000
  show (if xs.length + ys.length ≤ sizeLine then R.ok (D.lst (xs ++ ys)) A else .stk) = _
  rw [if_pos (by omega)]
theorem catT_ok {xs ys : List D} {A : Hd} (h : xs.length + ys.length ≤ 1000) : gAdd (.tup xs) (.tup ys) A = .ok (.tup (xs ++ ys)) A := by
  have := sz1000
  show (if xs.length + ys.length ≤ sizeLine then R.ok (D.tup (xs ++ ys)) A else .stk) = _
  rw [if_pos (by omega)]
theorem catR_ok {xs ys : List Str} {A : Hd} (h : xs.length + ys.length ≤ 1000) : gAdd (rowD xs) (rowD ys) A = .ok (rowD (xs ++ ys)) A := by
  unfold rowD
  rw [List.map_append]
  exact catT_ok (by rw [List.length_map, List.length_map]; exact h)
theorem gNe_row {xs : List Str} (A : Hd) (h : xs.all laid = true) : gNe (rowD xs) (rowD xs) A = .ok (.bl false) A := by
  have e : toP (deR A (.tup (xs.map D.str))) = some (.tuple (xs.map PyData.str)) := by
    show toP (.tup (xs.map D.str)) = _
    unfold toP
    rw [toPs_strs]
  have s : SeqAt.shaped (.tuple (xs.map PyData.str)) = true := by
    obtain ⟨a, b⟩ := lay_all h
    unfold SeqAt.shaped
    rw [Bool.and_eq_true]
    refine ⟨by unfold PyData.canLay0; exact a, decide_eq_true ?_⟩
    unfold PyData.depth
    omega
  have e3 : eqP A (.tup (xs.map D.str)) (.tup (xs.map D.str)) = some true := by
    unfold eqP
    rw [e]
    show (if SeqAt.shaped (.tuple (xs.map PyData.str)) = true ∧ SeqAt.shaped (.tuple (xs.map PyData.str)) = true then some (PyData.eqv (.tuple (xs.map PyData.str)) (.tuple (xs.map PyData.str))) else none) = _
    rw [if_pos ⟨s, s⟩]
    show some (PyData.eqvAll _ _) = _
    rw [eqvAll_strs]
    simp
  unfold rowD gNe
  simp only [e3]
  rfl
/-- a comprehension that draws one item each turn -/
theorem compD_draw {s : Src} {pt : Pat} {vs : List Nat} {te : EF} {ro : DV.Env} {I : Nat → Hd → Prop} {G : D → Prop} (hs : ∀ i A, I i A → s.here A) : ∀ (ds acc : List D) (i : Nat) (A : Hd), acc.length + ds.length ≤ sizeLine → I i A →
    (∀ j d A, ds[j]? = some d → I (i + j) A → ∃ ro1, pt.put d (wipeD ro vs) = some ro1 ∧ ∃ y A1, te ro1 A = .ok y A1 ∧ G y ∧ I (i + j + 1) A1) →
    ∃ ys A', compD s pt vs ttYes te ro ds acc A = .ok (acc ++ ys) A' ∧ I (i + ds.length) A' ∧ ys.length = ds.length ∧ ∀ y ∈ ys, G y
  | [], acc, i, A, _, h, _ => ⟨[], A, by unfold compD; rw [if_pos (hs i A h), List.append_nil], h, rfl, fun y hy => by cases hy⟩
  | d :: ds, acc, i, A, hl, h, st => by
    obtain ⟨ro1, e1, y, A1, e2, gy, h1⟩ := st 0 d A rfl h
    rw [List.length_cons] at hl
    obtain ⟨ys, A', q1, q2, q3, q4⟩ := compD_draw hs ds (acc ++ [y]) (i + 1) A1 (by rw [List.length_append]; simp; omega) h1 fun j d' A hd hI => by
      have := st (j + 1) d' A (by simpa using hd) (by rw [show i + (j + 1) = i + 1 + j by omega]; exact hI)
      rw [show i + (j + 1) + 1 = i + 1 + j + 1 by omega] at this
      exact this
    refine ⟨y :: ys, A', ?_, by rw [List.length_cons, show i + (ds.length + 1) = i + 1 + ds.length by omega]; exact q2, by rw [List.length_cons, List.length_cons, q3], fun z hz => (List.mem_cons.mp hz).elim (fun e => e ▸ gy) (q4 z)⟩
    unfold compD
    rw [if_pos (hs i A h), e1]
    simp only []
    rw [show ttYes ro1 A = .ok true A from rfl, calm_ok, R.bind_ok, if_pos rfl, e2, calm_ok, R.bind_ok, if_pos (by omega), q1, List.append_assoc]
    rfl
/-! other names -/
def phi (x : Str) : Str := x ++ "x"
theorem phi_inj (x y : Str) (h : phi x = phi y) : x = y := by
  have h1 : (x.cps ++ ("x" : Str).cps) = (y.cps ++ ("x" : Str).cps) := congrArg Str.cps h
  have h2 := congrArg Array.toList h1
  rw [Array.toList_append, Array.toList_append] at h2
  have h3 := List.append_cancel_right h2
  cases x
  cases y
  congr 1
  exact Array.toList_inj.mp h3
def phiD (d : D) : D := match d with
  | .str x => .str (phi x)
  | d => d
theorem anew_ok {r : List Str} {A : Hd} (h : ∀ x ∈ r, x.length < 8) (hl : r.length ≤ 100) : F__law_named_anew [rowD r] A = .ok (rowD (r.map phi)) A := by
  have z := sz1000
  let ro : DV.Env := [some (rowD r), none]
  have c1 := compD_pure (s := .fix (r.map D.str)) (pt := .one 1) (vs := [1]) (tt := ttYes) (te := eIf (tCmpD gLt (eArgs gLen (aCons (eVar 1) aNil)) (eC (.int 8))) (eBin gAdd (eVar 1) (eC (.str "x"))) (eC (.str "y"))) (ro := ro) (A := A) (p := fun _ => true) (f := phiD) (here_fix _ _) (r.map D.str) [] (by simp; omega) (fun d hd => by
    obtain ⟨x, hx, rfl⟩ := List.mem_map.mp hd
    have hlx := h x hx
    refine ⟨[some (rowD r), some (.str x)], rfl, rfl, fun _ => ?_⟩
    refine if_ok (z := true) (A1 := A) (tcmp_ok (d := .int (x.length : Nat)) (e := .int 8) (A1 := A) (A2 := A) (args1_ok (d := .str x) (A1 := A) rfl ?_) rfl ?_) ?_
    · show (if x.length ≤ sizeLine then R.ok (D.int (x.length : Nat)) A else .stk) = _
      rw [if_pos (by omega)]
    · show R.ok (D.bl (decide (((x.length : Nat) : Int) < 8))) A = _
      rw [decide_eq_true (by omega)]
    · rw [if_pos rfl]
      refine bin_ok (d := .str x) (e := .str "x") (A1 := A) (A2 := A) rfl rfl ?_
      have l1 : ("x" : Str).length = 1 := by decide +kernel
      show (if x.length + ("x" : Str).length ≤ sizeLine then R.ok (D.str (x ++ "x")) A else .stk) = _
      rw [if_pos (by omega)]
      rfl)
  rw [List.nil_append, List.filter_eq_self.mpr fun _ _ => rfl, List.map_map] at c1
  have e1 : eComp (iSeq (eVar 0)) (.one 1) [1] ttYes (eIf (tCmpD gLt (eArgs gLen (aCons (eVar 1) aNil)) (eC (.int 8))) (eBin gAdd (eVar 1) (eC (.str "x"))) (eC (.str "y"))) ro A = .ok (.lst ((r.map phi).map D.str)) A := by
    refine (comp_ok (f := iSeq (eVar 0)) (ro := ro) (A := A) (A1 := A) (s := .fix (r.map D.str)) (seq_ok (d := rowD r) (A1 := A) rfl rfl) c1).trans ?_
    rw [List.map_map]
    rfl
  have e2 : eArgs gTuple (aCons (eComp (iSeq (eVar 0)) (.one 1) [1] ttYes (eIf (tCmpD gLt (eArgs gLen (aCons (eVar 1) aNil)) (eC (.int 8))) (eBin gAdd (eVar 1) (eC (.str "x"))) (eC (.str "y")))) aNil) ro A = .ok (rowD (r.map phi)) A := args1_ok (A1 := A) e1 rfl
  show finR A (b__law_named_anew ro A) = _
  have body : b__law_named_anew ro A = .go (.ret (rowD (r.map phi))) ro A := sret_ok e2
  rw [body]
  exact (cut_self : cutR A (rowD (r.map phi)) A = _)
/-! parts by marks -/
def sndD (d : D) : D := match d with
  | .tup [_, y] => y
  | d => d
theorem snd_enD : ∀ (ds : List D) (i : Nat), (enD i ds).map sndD = ds
  | [], _ => rfl
  | d :: ds, i => by
    show d :: (enD (i + 1) ds).map sndD = _
    rw [snd_enD ds (i + 1)]
theorem marked_sub (ds : List D) (p : D → Bool) : (((enD 0 ds).filter p).map sndD).Sublist ds := by
  have := (List.filter_sublist (p := p) (l := enD 0 ds)).map sndD
  rw [snd_enD] at this
  exact this
end K07

set_option Elab.async false
set_option linter.all false
set_option maxRecDepth 100000
namespace K07
open PySem PySem.Spec PyProof.Rows L2 DV
/-! ### the law -/
noncomputable def bIn : SF := (sSeq (sAsg (eArgs (fun ds A => F__law_name_rows (ds ++ []) A) (aCons (eVar 2) (aCons (eBin gAdd (eC (.int 1)) (eArgs (fun ds A => F__law_next (ds ++ []) A) (aCons (eVar 2) (aCons (eC (.int 4)) aNil)))) (aCons (eBin gAdd (eC (.int 1)) (eArgs (fun ds A => F__law_next (ds ++ []) A) (aCons (eVar 2) (aCons (eC (.int 7)) aNil)))) (aCons (eC (.bl false)) aNil))))) (gNm 4))
  (sSeq (sAsg (eArgs gTupD (aCons (eArgs (fun ds A => F__law_merged_by (ds ++ []) A) (aCons (eVar 4) aNil)) (aCons (eComp (iRange1 (aCons (eC (.int 8)) aNil)) (.one 8) [8] ttYes (eArgs (fun ds A => F__law_next (ds ++ []) A) (aCons (eVar 2) (aCons (eC (.int 2)) aNil)))) aNil))) (gTpl [(gNm 5), (gNm 6)]))
  (sSeq (sAsg (eArgs gTuple (aCons (eComp (iEnumS (eVar 5)) (.tup [9, 10]) [9, 10] (tCmpD gEq (eBin gSubD (eVar 6) (eVar 9)) (eC (.int 1))) (eVar 10)) aNil)) (gNm 7))
  (sSeq (sIf (tOrD (tCmpD gNe (eArgs (fun ds A => starF F_merged ds A) (aCons (eVar 5) aNil)) (eVar 5)) (tOrD (tCmpD gNe (eArgs (fun ds A => starF F_merged ds A) (aCons (eVar 5) (aCons (eVar 5) aNil))) (eVar 5)) (tCmpD gNe (eArgs (fun ds A => F__law_merged_by (ds ++ []) A) (aCons (eBin gAdd (eArgs gLstD (aCons (eVar 5) aNil)) (eVar 4)) aNil)) (eVar 5))))
  (sRet (eC (.bl false)))
  sNx)
  (sSeq (sIf (tOrD (tCmpD gNe (eArgs (fun ds A => F__law_merged_by (ds ++ []) A) (aCons (eBin gAdd (eVar 4) (eArgs gLstD (aCons (eVar 7) aNil))) aNil)) (eVar 5)) (tCmpD gNe (eArgs (fun ds A => starF F_merged ds A) (aCons (eVar 5) (aCons (eVar 7) aNil))) (eVar 5)))
  (sRet (eC (.bl false)))
  sNx)
  (sSeq (sIf (tCmpD gNe (eArgs (fun ds A => starF F_merged ds A) (aCons (eBin gSubD (eVar 4) (eC (.int 0))) (aCons (eVar 5) aNil))) (eVar 5))
  (sRet (eC (.bl false)))
  sNx)
  (sSeq (sIf (tCmpD gNe (eArgs (fun ds A => F__law_merged_by (ds ++ []) A) (aCons (eComp (iSeq (eVar 4)) (.one 11) [11] ttYes (eArgs (fun ds A => F__law_named_anew (ds ++ []) A) (aCons (eVar 11) aNil))) aNil)) (eArgs (fun ds A => F__law_named_anew (ds ++ []) A) (aCons (eVar 5) aNil)))
  (sRet (eC (.bl false)))
  sNx)
  (sSeq (sIf (tCmpD gNe (eArgs (fun ds A => F__law_merged_by (ds ++ []) A) (aCons (eComp (iSeq (eVar 4)) (.one 11) [11] ttYes (eBin gAdd (eArgs gTupD (aCons (eC (.str "top")) aNil)) (eVar 11))) aNil)) (eBin gAdd (eArgs gTupD (aCons (eC (.str "top")) aNil)) (eVar 5)))
  (sRet (eC (.bl false)))
  sNx)
  (sSeq (sIf (tCmpD gNe (eArgs (fun ds A => F__law_merged_by (ds ++ []) A) (aCons (eComp (iSeq (eVar 4)) (.one 11) [11] ttYes (eBin gAdd (eVar 11) (eArgs gTupD (aCons (eC (.str "end")) aNil)))) aNil)) (eBin gAdd (eVar 5) (eArgs gTupD (aCons (eC (.str "end")) aNil))))
  (sRet (eC (.bl false)))
  sNx)
  (sIf (tOrD (tCmpD gNe (eArgs (fun ds A => starF F_merged ds A) (aCons (eVar 5) (aCons (eArgs gTupD (aCons (eC (.str "top")) (aCons (eC (.str "end")) aNil))) aNil))) (eBin gAdd (eVar 5) (eArgs gTupD (aCons (eC (.str "top")) (aCons (eC (.str "end")) aNil))))) (tCmpD gNe (eArgs (fun ds A => starF F_merged ds A) (aCons (eArgs gTupD aNil) (aCons (eVar 5) (aCons (eArgs gTupD aNil) aNil)))) (eVar 5)))
  (sRet (eC (.bl false)))
  sNx))))))))))
noncomputable def bTurn : SF := (sSeq (sAsg (eArgs (fun ds A => F__law_source (ds ++ []) A) (aCons (eVar 0) (aCons (eVar 1) aNil))) (gNm 2)) (sFor (iRange1 (aCons (eC (.int 3)) aNil)) (gNm 3) bIn))
noncomputable def bRest : SF := (sRet (eC (.bl true)))
theorem law_parts : b_law = sSeq (sFor (iRange1 (aCons (eArgs gMax2 (aCons (eC (.int 1)) (aCons (eArgs gMin2 (aCons (eC (.int 6)) (aCons (eArgs gLen (aCons (eVar 0) aNil)) aNil))) aNil))) aNil)) (gNm 1) bTurn) bRest := rfl
theorem draw {n k : Nat} {A : Hd} {T c : Int} {ro : DV.Env} (S : SN n k A T) (hT : T ≤ 2 ^ 40) (hc : 0 < c) (hc2 : c ≤ 100) (h2 : ro[2]? = some (some (.ref k))) : ∃ (m : Nat) (A' : Hd), eArgs (fun ds A => F__law_next (ds ++ []) A) (aCons (eVar 2) (aCons (eC (.int c)) aNil)) ro A = .ok (.int (m : Nat)) A' ∧ (m : Int) < c ∧ SN n k A' (T + 1) := by
  obtain ⟨r, A', g, r0, r1, S'⟩ := nextN (X := []) (m := c) S hT hc (by omega)
  rw [List.append_nil, List.append_nil] at g
  obtain ⟨m, rfl⟩ : ∃ m : Nat, r = (m : Nat) := ⟨r.toNat, by omega⟩
  exact ⟨m, A', args2_ok (d := .ref k) (e := .int c) (A1 := A) (A2 := A) (by unfold eVar; rw [h2]) rfl g, r1, S'⟩
/-- a row that merged takes -/
def GR (r : List Str) : Prop := RowG r ∧ r.length ≤ 12
theorem rowsL {L : List (List Str)} (h : ∀ r ∈ L, GR r) (hn : L.length ≤ 10) : Rows L := ⟨fun r hr => (h r hr).1, hn, fun r hr => (h r hr).2⟩
theorem GR.lay {r : List Str} (h : GR r) : r.all laid = true := h.1.laid
theorem GR.sub {r f : List Str} (h : GR f) (s : r.Sublist f) : GR r := by
  refine ⟨⟨h.1.nd.sublist s, List.all_eq_true.mpr fun x hx => List.all_eq_true.mp h.1.all x (s.subset hx), ?_⟩, ?_⟩
  · have := s.length_le
    have := h.1.len
    omega
  · have := s.length_le
    have := h.2
    omega
theorem gr8 {r : List Str} (nd : r.Nodup) (mem : ∀ x ∈ r, x ∈ names8) : GR r ∧ r.length ≤ 8 := by
  have all8 : names8.all good1 = true := by decide +kernel
  have hl : r.length ≤ 8 := Mg.nodup_le nd mem
  exact ⟨⟨⟨nd, List.all_eq_true.mpr fun x hx => List.all_eq_true.mp all8 x (mem x hx), by omega⟩, by omega⟩, hl⟩
theorem gr_phi {r : List Str} (nd : r.Nodup) (mem : ∀ x ∈ r, x ∈ names8) : GR (r.map phi) := by
  have all8 : names8.all (fun x => good1 (phi x)) = true := by decide +kernel
  have hl := (gr8 nd mem).2
  refine ⟨⟨?_, List.all_eq_true.mpr fun y hy => ?_, by rw [List.length_map]; omega⟩, by rw [List.length_map]; omega⟩
  · exact List.Pairwise.map phi (fun a b h e => h (phi_inj a b e)) nd
  · obtain ⟨x, hx, rfl⟩ := List.mem_map.mp hy
    exact List.all_eq_true.mp all8 x (mem x hx)
theorem top_not {r : List Str} (mem : ∀ x ∈ r, x ∈ names8) : ("top" : Str) ∉ r := fun h => absurd (mem _ h) (by decide +kernel)
theorem end_not {r : List Str} (mem : ∀ x ∈ r, x ∈ names8) : ("end" : Str) ∉ r := fun h => absurd (mem _ h) (by decide +kernel)
theorem gr_top {r : List Str} (nd : r.Nodup) (mem : ∀ x ∈ r, x ∈ names8) : GR ("top" :: r) := by
  obtain ⟨h, hl⟩ := gr8 nd mem
  refine ⟨⟨List.nodup_cons.mpr ⟨top_not mem, nd⟩, ?_, by rw [List.length_cons]; omega⟩, by rw [List.length_cons]; omega⟩
  rw [List.all_cons, h.1.all, show good1 "top" = true by decide +kernel]
  rfl
theorem gr_end {r : List Str} (nd : r.Nodup) (mem : ∀ x ∈ r, x ∈ names8) : GR (r ++ [("end" : Str)]) := by
  obtain ⟨h, hl⟩ := gr8 nd mem
  refine ⟨⟨List.nodup_append.mpr ⟨nd, by simp, fun a ha b hb e => end_not mem (by rw [← List.mem_singleton.mp hb, ← e]; exact ha)⟩, ?_, by rw [List.length_append]; simp; omega⟩, by rw [List.length_append]; simp; omega⟩
  rw [List.all_append, h.1.all]
  decide +kernel
theorem gr_two : GR ["top", "end"] := ⟨⟨by decide +kernel, by decide +kernel, by decide⟩, by decide⟩
theorem gr_nil : GR [] := ⟨⟨by decide +kernel, by decide +kernel, by decide⟩, by decide⟩
theorem gr_all {r : List Str} (nd : r.Nodup) (mem : ∀ x ∈ r, x ∈ names8) : GR (r ++ [("top" : Str), "end"]) := by
  obtain ⟨h, hl⟩ := gr8 nd mem
  refine ⟨⟨List.nodup_append.mpr ⟨nd, by decide +kernel, fun a ha b hb e => ?_⟩, ?_, by rw [List.length_append]; simp; omega⟩, by rw [List.length_append]; simp; omega⟩
  · rcases List.mem_cons.mp hb with q | q
    · exact top_not mem (by rw [← q, ← e]; exact ha)
    · exact end_not mem (by rw [← List.mem_singleton.mp q, ← e]; exact ha)
  · rw [List.all_append, h.1.all]
    decide +kernel
theorem ne_ok {X Y : EF} {ro : DV.Env} {A : Hd} {f : List Str} (hx : X ro A = .ok (rowD f) A) (hy : Y ro A = .ok (rowD f) A) (hl : GR f) : tCmpD gNe X Y ro A = .ok false A := tcmp_ok (A2 := A) hx hy (gNe_row A hl.lay)
end K07

set_option Elab.async false
set_option linter.all false
set_option maxRecDepth 100000
namespace K07
open PySem PySem.Spec PyProof.Rows L2 DV
structure Sit (rs : List (List Str)) (f zs : List Str) : Prop where
  row : ∀ r ∈ rs, r.Nodup ∧ ∀ x ∈ r, x ∈ names8
  fn : f.Nodup
  fm : ∀ x ∈ f, x ∈ names8
  mg : Mg.mergeL rs = some f
  sub : zs.Sublist f
  n1 : 1 ≤ rs.length
  n4 : rs.length ≤ 4
section
variable {rs : List (List Str)} {f zs : List Str} {A : Hd} {s t1 t2 t3 t6 t8 t9 t10 t11 : Option D}
abbrev env7 (rs : List (List Str)) (f zs : List Str) (s t1 t2 t3 t6 t8 t9 t10 t11 : Option D) : DV.Env := [s, t1, t2, t3, some (.lst (rs.map rowD)), some (rowD f), t6, some (rowD zs), t8, t9, t10, t11]
theorem Sit.gf (h : Sit rs f zs) : GR f := (gr8 h.fn h.fm).1
theorem Sit.gr (h : Sit rs f zs) : ∀ r ∈ rs, GR r := fun r hr => (gr8 (h.row r hr).1 (h.row r hr).2).1
theorem Sit.part (h : Sit rs f zs) : ∀ r ∈ rs, r.Sublist f := fun r hr => Mg.merge_sub h.mg r hr
theorem Sit.ne (h : Sit rs f zs) : rs ≠ [] := fun e => by have := h.n1; rw [e] at this; cases this
/-- merged(..) of some rows -/
theorem star2 {L : List (List Str)} {r : List Str} (low : ∀ m ∈ A, ∀ z, M.lt z m = true) (h : ∀ r ∈ L, GR r) (hn : L.length ≤ 10) (hm : Mg.mergeL L = some r) : starF F_merged (L.map rowD) A = .ok (rowD r) A := star_ok low (rowsL h hn) hm
theorem by2 {L : List (List Str)} {r : List Str} (low : ∀ m ∈ A, ∀ z, M.lt z m = true) (h : ∀ r ∈ L, GR r) (hn : L.length ≤ 5) (hm : Mg.mergeL L = some r) : F__law_merged_by [.lst (L.map rowD)] A = .ok (rowD r) A := mergedBy_ok low (rowsL h (by omega)) hn hm
theorem t1_ok (low : ∀ m ∈ A, ∀ z, M.lt z m = true) (h : Sit rs f zs) : tOrD (tCmpD gNe (eArgs (fun ds A => starF F_merged ds A) (aCons (eVar 5) aNil)) (eVar 5)) (tOrD (tCmpD gNe (eArgs (fun ds A => starF F_merged ds A) (aCons (eVar 5) (aCons (eVar 5) aNil))) (eVar 5)) (tCmpD gNe (eArgs (fun ds A => F__law_merged_by (ds ++ []) A) (aCons (eBin gAdd (eArgs gLstD (aCons (eVar 5) aNil)) (eVar 4)) aNil)) (eVar 5))) (env7 rs f zs s t1 t2 t3 t6 t8 t9 t10 t11) A = .ok false A := by
  have z := sz1000
  have n4 := h.n4
  have a1 := star2 (L := [f]) (r := f) low (fun r hr => by rw [List.mem_singleton.mp hr]; exact h.gf) (by simp) (Mg.merge_whole h.fn (by simp) fun l hl => by rw [List.mem_singleton.mp hl]; exact List.Sublist.refl _)
  have a2 := star2 (L := [f, f]) (r := f) low (fun r hr => by simp at hr; rw [hr]; exact h.gf) (by simp) (Mg.merge_whole h.fn (by simp) fun l hl => by simp at hl; rw [hl]; exact List.Sublist.refl _)
  have a3 := by2 (L := f :: rs) (r := f) low (fun r hr => (List.mem_cons.mp hr).elim (fun e => e ▸ h.gf) (h.gr r)) (by rw [List.length_cons]; omega) (Mg.merge_whole h.fn (by simp) fun l hl => (List.mem_cons.mp hl).elim (fun e => e ▸ List.Sublist.refl _) (h.part l))
  have e3 : eBin gAdd (eArgs gLstD (aCons (eVar 5) aNil)) (eVar 4) (env7 rs f zs s t1 t2 t3 t6 t8 t9 t10 t11) A = .ok (.lst ((f :: rs).map rowD)) A :=
    bin_ok (d := .lst [rowD f]) (e := .lst (rs.map rowD)) (A1 := A) (A2 := A) (args1_ok (d := rowD f) (A1 := A) rfl (by unfold gLstD; rw [if_pos (by show 1 ≤ sizeLine; omega)])) rfl (catL_ok (by rw [List.length_map]; simp; omega))
  exact tor_f (A1 := A) (ne_ok (args1_ok (d := rowD f) (A1 := A) rfl a1) rfl h.gf) (tor_f (A1 := A) (ne_ok (args2_ok (d := rowD f) (e := rowD f) (A1 := A) (A2 := A) rfl rfl a2) rfl h.gf) (ne_ok (args1_ok (A1 := A) e3 a3) rfl h.gf))
theorem t2_ok (low : ∀ m ∈ A, ∀ z, M.lt z m = true) (h : Sit rs f zs) : tOrD (tCmpD gNe (eArgs (fun ds A => F__law_merged_by (ds ++ []) A) (aCons (eBin gAdd (eVar 4) (eArgs gLstD (aCons (eVar 7) aNil))) aNil)) (eVar 5)) (tCmpD gNe (eArgs (fun ds A => starF F_merged ds A) (aCons (eVar 5) (aCons (eVar 7) aNil))) (eVar 5)) (env7 rs f zs s t1 t2 t3 t6 t8 t9 t10 t11) A = .ok false A := by
  have z := sz1000
  have n4 := h.n4
  have gz := h.gf.sub h.sub
  have a1 := by2 (L := rs ++ [zs]) (r := f) low (fun r hr => (List.mem_append.mp hr).elim (h.gr r) fun e => by rw [List.mem_singleton.mp e]; exact gz) (by rw [List.length_append]; simp; omega) (Mg.merge_part h.fn h.sub h.mg)
  have a2 := star2 (L := [f, zs]) (r := f) low (fun r hr => by simp at hr; rcases hr with rfl | rfl; exact h.gf; exact gz) (by simp) (Mg.merge_whole h.fn (by simp) fun l hl => by simp at hl; rcases hl with rfl | rfl; exact List.Sublist.refl _; exact h.sub)
  have e1 : eBin gAdd (eVar 4) (eArgs gLstD (aCons (eVar 7) aNil)) (env7 rs f zs s t1 t2 t3 t6 t8 t9 t10 t11) A = .ok (.lst ((rs ++ [zs]).map rowD)) A := by
    rw [List.map_append]
    exact bin_ok (d := .lst (rs.map rowD)) (e := .lst [rowD zs]) (A1 := A) (A2 := A) rfl (args1_ok (d := rowD zs) (A1 := A) rfl (by unfold gLstD; rw [if_pos (by show 1 ≤ sizeLine; omega)])) (catL_ok (by rw [List.length_map]; simp; omega))
  exact tor_f (A1 := A) (ne_ok (args1_ok (A1 := A) e1 a1) rfl h.gf) (ne_ok (args2_ok (d := rowD f) (e := rowD zs) (A1 := A) (A2 := A) rfl rfl a2) rfl h.gf)
theorem t3_ok (low : ∀ m ∈ A, ∀ z, M.lt z m = true) (h : Sit rs f zs) : tCmpD gNe (eArgs (fun ds A => starF F_merged ds A) (aCons (eBin gSubD (eVar 4) (eC (.int 0))) (aCons (eVar 5) aNil))) (eVar 5) (env7 rs f zs s t1 t2 t3 t6 t8 t9 t10 t11) A = .ok false A := by
  cases rs with
  | nil => exact absurd rfl h.ne
  | cons a rs =>
    have ga := h.gr a List.mem_cons_self
    have pa := h.part a List.mem_cons_self
    have a2 := star2 (L := [a, f]) (r := f) low (fun r hr => by simp at hr; rcases hr with rfl | rfl; exact ga; exact h.gf) (by simp) (Mg.merge_whole h.fn (by simp) fun l hl => by simp at hl; rcases hl with rfl | rfl; exact pa; exact List.Sublist.refl _)
    exact ne_ok (args2_ok (d := rowD a) (e := rowD f) (A1 := A) (A2 := A) (bin_ok (d := .lst ((a :: rs).map rowD)) (e := .int 0) (A1 := A) (A2 := A) rfl rfl (sub_lst (atI_zero _ _))) rfl a2) rfl h.gf
def rowMap (g : List Str → List Str) (d : D) : D := match d with
  | .tup xs => (match textsD xs with
    | some ys => rowD (g ys)
    | none => .non)
  | _ => .non
theorem rowMap_row (g : List Str → List Str) (r : List Str) : rowMap g (rowD r) = rowD (g r) := by
  show (match textsD (r.map D.str) with
    | some ys => rowD (g ys)
    | none => .non) = _
  rw [textsD_map]
/-- a comprehension over the rows -/
theorem rows_comp {te : EF} {g : List Str → List Str} (hn : rs.length ≤ 10) (ht : ∀ r ∈ rs, te [s, t1, t2, t3, some (.lst (rs.map rowD)), some (rowD f), t6, some (rowD zs), t8, t9, t10, some (rowD r)] A = .ok (rowD (g r)) A) : eComp (iSeq (eVar 4)) (.one 11) [11] ttYes te (env7 rs f zs s t1 t2 t3 t6 t8 t9 t10 t11) A = .ok (.lst ((rs.map g).map rowD)) A := by
  have z := sz1000
  have c1 := compD_pure (s := .fix (rs.map rowD)) (pt := .one 11) (vs := [11]) (tt := ttYes) (te := te) (ro := env7 rs f zs s t1 t2 t3 t6 t8 t9 t10 t11) (A := A) (p := fun _ => true) (f := rowMap g) (here_fix _ _) (rs.map rowD) [] (by simp; omega) (fun d hd => by
    obtain ⟨r, hr, rfl⟩ := List.mem_map.mp hd
    refine ⟨[s, t1, t2, t3, some (.lst (rs.map rowD)), some (rowD f), t6, some (rowD zs), t8, t9, t10, some (rowD r)], rfl, rfl, fun _ => ?_⟩
    rw [ht r hr, rowMap_row])
  rw [List.nil_append, List.filter_eq_self.mpr fun _ _ => rfl, List.map_map] at c1
  refine (comp_ok (f := iSeq (eVar 4)) (A1 := A) (s := .fix (rs.map rowD)) (seq_ok (d := .lst (rs.map rowD)) (A1 := A) rfl rfl) c1).trans ?_
  rw [List.map_map]
  congr 2
  exact List.map_congr_left fun r _ => rowMap_row g r
theorem short8 {r : List Str} (mem : ∀ x ∈ r, x ∈ names8) : ∀ x ∈ r, x.length < 8 := fun x hx => by
  have all8 : names8.all (fun x => decide (x.length < 8)) = true := by decide +kernel
  exact of_decide_eq_true (List.all_eq_true.mp all8 x (mem x hx))
theorem t4_ok (low : ∀ m ∈ A, ∀ z, M.lt z m = true) (h : Sit rs f zs) : tCmpD gNe (eArgs (fun ds A => F__law_merged_by (ds ++ []) A) (aCons (eComp (iSeq (eVar 4)) (.one 11) [11] ttYes (eArgs (fun ds A => F__law_named_anew (ds ++ []) A) (aCons (eVar 11) aNil))) aNil)) (eArgs (fun ds A => F__law_named_anew (ds ++ []) A) (aCons (eVar 5) aNil)) (env7 rs f zs s t1 t2 t3 t6 t8 t9 t10 t11) A = .ok false A := by
  have n4 := h.n4
  have c := rows_comp (rs := rs) (f := f) (zs := zs) (A := A) (s := s) (t1 := t1) (t2 := t2) (t3 := t3) (t6 := t6) (t8 := t8) (t9 := t9) (t10 := t10) (t11 := t11) (te := eArgs (fun ds A => F__law_named_anew (ds ++ []) A) (aCons (eVar 11) aNil)) (g := List.map phi) (by omega) (fun r hr => by
    have w : F__law_named_anew [rowD r] A = .ok (rowD (r.map phi)) A := anew_ok (short8 (h.row r hr).2) (by have := (gr8 (h.row r hr).1 (h.row r hr).2).2; omega)
    exact args1_ok (d := rowD r) (A1 := A) rfl w)
  have a1 := by2 (L := rs.map (List.map phi)) (r := f.map phi) low (fun r hr => by obtain ⟨q, hq, rfl⟩ := List.mem_map.mp hr; exact gr_phi (h.row q hq).1 (h.row q hq).2) (by rw [List.length_map]; omega) (by rw [Mg.mergeL_map phi_inj, h.mg]; rfl)
  have a2 : eArgs (fun ds A => F__law_named_anew (ds ++ []) A) (aCons (eVar 5) aNil) (env7 rs f zs s t1 t2 t3 t6 t8 t9 t10 t11) A = .ok (rowD (f.map phi)) A := by
    have w : F__law_named_anew [rowD f] A = .ok (rowD (f.map phi)) A := anew_ok (short8 h.fm) (by have := (gr8 h.fn h.fm).2; omega)
    exact args1_ok (d := rowD f) (A1 := A) rfl w
  exact ne_ok (args1_ok (A1 := A) c a1) a2 (gr_phi h.fn h.fm)
theorem one_tup {ro : DV.Env} (x : Str) : eArgs gTupD (aCons (eC (.str x)) aNil) ro A = .ok (rowD [x]) A := args1_ok (d := .str x) (A1 := A) rfl (by
  have z := sz1000
  unfold gTupD
  rw [if_pos (by show 1 ≤ sizeLine; omega)]
  rfl)
theorem two_tup {ro : DV.Env} (x y : Str) : eArgs gTupD (aCons (eC (.str x)) (aCons (eC (.str y)) aNil)) ro A = .ok (rowD [x, y]) A := args2_ok (d := .str x) (e := .str y) (A1 := A) (A2 := A) rfl rfl (by
  have z := sz1000
  unfold gTupD
  rw [if_pos (by show 2 ≤ sizeLine; omega)]
  rfl)
theorem t5_ok (low : ∀ m ∈ A, ∀ z, M.lt z m = true) (h : Sit rs f zs) : tCmpD gNe (eArgs (fun ds A => F__law_merged_by (ds ++ []) A) (aCons (eComp (iSeq (eVar 4)) (.one 11) [11] ttYes (eBin gAdd (eArgs gTupD (aCons (eC (.str "top")) aNil)) (eVar 11))) aNil)) (eBin gAdd (eArgs gTupD (aCons (eC (.str "top")) aNil)) (eVar 5)) (env7 rs f zs s t1 t2 t3 t6 t8 t9 t10 t11) A = .ok false A := by
  have n4 := h.n4
  have lf := (gr8 h.fn h.fm).2
  have c := rows_comp (rs := rs) (f := f) (zs := zs) (A := A) (s := s) (t1 := t1) (t2 := t2) (t3 := t3) (t6 := t6) (t8 := t8) (t9 := t9) (t10 := t10) (t11 := t11) (te := eBin gAdd (eArgs gTupD (aCons (eC (.str "top")) aNil)) (eVar 11)) (g := fun r => "top" :: r) (by omega) fun r hr => bin_ok (d := rowD ["top"]) (e := rowD r) (A1 := A) (A2 := A) (one_tup "top") rfl (catR_ok (xs := ["top"]) (by have := (gr8 (h.row r hr).1 (h.row r hr).2).2; simp; omega))
  have a1 := by2 (L := rs.map fun r => "top" :: r) (r := "top" :: f) low (fun r hr => by obtain ⟨q, hq, rfl⟩ := List.mem_map.mp hr; exact gr_top (h.row q hq).1 (h.row q hq).2) (by rw [List.length_map]; omega) (by rw [Mg.merge_top (fun l hl => top_not (h.row l hl).2) h.ne, h.mg]; rfl)
  have a2 : eBin gAdd (eArgs gTupD (aCons (eC (.str "top")) aNil)) (eVar 5) (env7 rs f zs s t1 t2 t3 t6 t8 t9 t10 t11) A = .ok (rowD ("top" :: f)) A := bin_ok (d := rowD ["top"]) (e := rowD f) (A1 := A) (A2 := A) (one_tup "top") rfl (catR_ok (xs := ["top"]) (by simp; omega))
  exact ne_ok (args1_ok (A1 := A) c a1) a2 (gr_top h.fn h.fm)
theorem t6_ok (low : ∀ m ∈ A, ∀ z, M.lt z m = true) (h : Sit rs f zs) : tCmpD gNe (eArgs (fun ds A => F__law_merged_by (ds ++ []) A) (aCons (eComp (iSeq (eVar 4)) (.one 11) [11] ttYes (eBin gAdd (eVar 11) (eArgs gTupD (aCons (eC (.str "end")) aNil)))) aNil)) (eBin gAdd (eVar 5) (eArgs gTupD (aCons (eC (.str "end")) aNil))) (env7 rs f zs s t1 t2 t3 t6 t8 t9 t10 t11) A = .ok false A := by
  have n4 := h.n4
  have lf := (gr8 h.fn h.fm).2
  have c := rows_comp (rs := rs) (f := f) (zs := zs) (A := A) (s := s) (t1 := t1) (t2 := t2) (t3 := t3) (t6 := t6) (t8 := t8) (t9 := t9) (t10 := t10) (t11 := t11) (te := eBin gAdd (eVar 11) (eArgs gTupD (aCons (eC (.str "end")) aNil))) (g := fun r => r ++ [("end" : Str)]) (by omega) fun r hr => bin_ok (d := rowD r) (e := rowD ["end"]) (A1 := A) (A2 := A) rfl (one_tup "end") (catR_ok (ys := ["end"]) (by have := (gr8 (h.row r hr).1 (h.row r hr).2).2; simp; omega))
  have a1 := by2 (L := rs.map fun r => r ++ [("end" : Str)]) (r := f ++ [("end" : Str)]) low (fun r hr => by obtain ⟨q, hq, rfl⟩ := List.mem_map.mp hr; exact gr_end (h.row q hq).1 (h.row q hq).2) (by rw [List.length_map]; omega) (by rw [Mg.mergeL_end (fun l hl => end_not (h.row l hl).2) h.ne, h.mg]; rfl)
  have a2 : eBin gAdd (eVar 5) (eArgs gTupD (aCons (eC (.str "end")) aNil)) (env7 rs f zs s t1 t2 t3 t6 t8 t9 t10 t11) A = .ok (rowD (f ++ [("end" : Str)])) A := bin_ok (d := rowD f) (e := rowD ["end"]) (A1 := A) (A2 := A) rfl (one_tup "end") (catR_ok (ys := ["end"]) (by simp; omega))
  exact ne_ok (args1_ok (A1 := A) c a1) a2 (gr_end h.fn h.fm)
theorem t7_ok (low : ∀ m ∈ A, ∀ z, M.lt z m = true) (h : Sit rs f zs) : tOrD (tCmpD gNe (eArgs (fun ds A => starF F_merged ds A) (aCons (eVar 5) (aCons (eArgs gTupD (aCons (eC (.str "top")) (aCons (eC (.str "end")) aNil))) aNil))) (eBin gAdd (eVar 5) (eArgs gTupD (aCons (eC (.str "top")) (aCons (eC (.str "end")) aNil))))) (tCmpD gNe (eArgs (fun ds A => starF F_merged ds A) (aCons (eArgs gTupD aNil) (aCons (eVar 5) (aCons (eArgs gTupD aNil) aNil)))) (eVar 5)) (env7 rs f zs s t1 t2 t3 t6 t8 t9 t10 t11) A = .ok false A := by
  have z := sz1000
  have lf := (gr8 h.fn h.fm).2
  have a1 := star2 (L := [f, ["top", "end"]]) (r := f ++ [("top" : Str), "end"]) low (fun r hr => by simp at hr; rcases hr with rfl | rfl; exact h.gf; exact gr_two) (by simp) (Mg.merge_join h.fn gr_two.1.nd fun x hx hm => by
    rcases List.mem_cons.mp hm with q | q
    · exact top_not h.fm (by rw [← q]; exact hx)
    · exact end_not h.fm (by rw [← List.mem_singleton.mp q]; exact hx))
  have a2 : eBin gAdd (eVar 5) (eArgs gTupD (aCons (eC (.str "top")) (aCons (eC (.str "end")) aNil))) (env7 rs f zs s t1 t2 t3 t6 t8 t9 t10 t11) A = .ok (rowD (f ++ [("top" : Str), "end"])) A := bin_ok (d := rowD f) (e := rowD ["top", "end"]) (A1 := A) (A2 := A) rfl (two_tup "top" "end") (catR_ok (ys := ["top", "end"]) (by simp; omega))
  have a3 := star2 (L := [[], f, []]) (r := f) low (fun r hr => by simp at hr; rcases hr with rfl | rfl | rfl; exact gr_nil; exact h.gf; exact gr_nil) (by simp) (Mg.merge_whole h.fn (by simp) fun l hl => by simp at hl; rcases hl with rfl | rfl | rfl; exact List.nil_sublist _; exact List.Sublist.refl _; exact List.nil_sublist _)
  have p0 : eArgs gTupD aNil (env7 rs f zs s t1 t2 t3 t6 t8 t9 t10 t11) A = .ok (rowD []) A := args_ok (ds := []) (A1 := A) rfl (by
    unfold gTupD
    rw [if_pos (by show 0 ≤ sizeLine; omega)]
    rfl)
  exact tor_f (A1 := A) (ne_ok (args2_ok (d := rowD f) (e := rowD ["top", "end"]) (A1 := A) (A2 := A) rfl (two_tup "top" "end") a1) a2 (gr_all h.fn h.fm)) (ne_ok (args_ok (acons_ok p0 (acons_ok (d := rowD f) (A1 := A) rfl (acons_ok p0 (show aNil _ A = .ok [] A from rfl)))) a3) rfl h.gf)
end
end K07

set_option Elab.async false
set_option linter.all false
set_option maxRecDepth 100000
namespace K07
open PySem PySem.Spec PyProof.Rows L2 DV
def markD (ys : List D) (d : D) : Bool := match d with
  | .tup [.int i, _] => (match L2.atI ys i with
    | some (.int v) => decide (v = 1)
    | _ => false)
  | _ => false
theorem in_ok {n k : Nat} {A : Hd} {T : Int} {s t1 t3 t4 t5 t6 t7 t8 t9 t10 t11 : Option D} (S : SN n k A T) (hT : T + 1000 ≤ 2 ^ 40) :
    ∃ (u4 u5 u6 u7 : Option D) (A' : Hd), bIn [s, t1, some (.ref k), t3, t4, t5, t6, t7, t8, t9, t10, t11] A = .go .nx [s, t1, some (.ref k), t3, u4, u5, u6, u7, t8, t9, t10, t11] A' ∧ SN n k A' (T + 240) := by
  have z := sz1000
  let ro : DV.Env := [s, t1, some (.ref k), t3, t4, t5, t6, t7, t8, t9, t10, t11]
  obtain ⟨m1, A1, g1, h1, S1⟩ := draw (ro := ro) (c := 4) S (by omega) (by omega) (by omega) rfl
  obtain ⟨m2, A2, g2, h2, S2⟩ := draw (ro := ro) (c := 7) S1 (by omega) (by omega) (by omega) rfl
  obtain ⟨rs, A4, g4, hrs, lrs, S4, hw⟩ := rowsN (many := 1 + m1) (most := 1 + m2) false S2 (by omega) (by omega) (by omega)
  have e1 : eBin gAdd (eC (.int 1)) (eArgs (fun ds A => F__law_next (ds ++ []) A) (aCons (eVar 2) (aCons (eC (.int 4)) aNil))) ro A = .ok (.int ((1 + m1 : Nat) : Int)) A1 := bin_ok (d := .int 1) (e := .int (m1 : Nat)) (A1 := A) (A2 := A1) rfl g1 (by
    show R.ok (D.int (1 + (m1 : Nat))) A1 = _
    rw [show (1 + (m1 : Nat) : Int) = ((1 + m1 : Nat) : Int) by omega])
  have e2 : eBin gAdd (eC (.int 1)) (eArgs (fun ds A => F__law_next (ds ++ []) A) (aCons (eVar 2) (aCons (eC (.int 7)) aNil))) ro A1 = .ok (.int ((1 + m2 : Nat) : Int)) A2 := bin_ok (d := .int 1) (e := .int (m2 : Nat)) (A1 := A1) (A2 := A2) rfl g2 (by
    show R.ok (D.int (1 + (m2 : Nat))) A2 = _
    rw [show (1 + (m2 : Nat) : Int) = ((1 + m2 : Nat) : Int) by omega])
  have e4 : eArgs (fun ds A => F__law_name_rows (ds ++ []) A) (aCons (eVar 2) (aCons (eBin gAdd (eC (.int 1)) (eArgs (fun ds A => F__law_next (ds ++ []) A) (aCons (eVar 2) (aCons (eC (.int 4)) aNil)))) (aCons (eBin gAdd (eC (.int 1)) (eArgs (fun ds A => F__law_next (ds ++ []) A) (aCons (eVar 2) (aCons (eC (.int 7)) aNil)))) (aCons (eC (.bl false)) aNil)))) ro A = .ok (.lst (rs.map rowD)) A4 :=
    args_ok (acons_ok (d := .ref k) (A1 := A) rfl (acons_ok e1 (acons_ok e2 (acons_ok (d := .bl false) (A1 := A2) rfl (show aNil ro A2 = .ok [] A2 from rfl))))) g4
  obtain ⟨w, ⟨p, hp, hwp⟩, hws⟩ := hw rfl
  have nw : w.Nodup := (rowOf_mem ⟨p, hp, hwp⟩).1
  obtain ⟨f, hf⟩ := Mg.merge_some _ (Nat.lt_succ_self (Mg.size rs)) nw hws
  obtain ⟨fn, fm'⟩ := Mg.merge_nodup (fun l hl => (rowOf_mem (hrs l hl)).1) hf
  have fm : ∀ x ∈ f, x ∈ names8 := fun x hx => by
    obtain ⟨l, hl, hm⟩ := fm' x hx
    exact (rowOf_mem (hrs l hl)).2.1 x hm
  obtain ⟨gf, lf⟩ := gr8 fn fm
  have low4 : ∀ m ∈ A4, ∀ z, M.lt z m = true := fun m hm z => S4.low m hm z
  have grs : ∀ r ∈ rs, GR r := fun r hr => (gr8 (rowOf_mem (hrs r hr)).1 (rowOf_mem (hrs r hr)).2.1).1
  have mb := by2 low4 grs (by omega) hf
  -- found, part
  let ro4 : DV.Env := [s, t1, some (.ref k), t3, some (.lst (rs.map rowD)), t5, t6, t7, t8, t9, t10, t11]
  obtain ⟨ys, A5, c5, S5, ly, gy⟩ := compD_draw (s := .fix (rangeD 0 8)) (pt := .one 8) (vs := [8]) (te := eArgs (fun ds A => F__law_next (ds ++ []) A) (aCons (eVar 2) (aCons (eC (.int 2)) aNil))) (ro := ro4) (I := fun i A' => SN n k A' (T + 1 + 1 + 200 + (i : Nat))) (G := fun d => ∃ i : Int, d = .int i) (fun _ A _ => here_fix _ A) (rangeD 0 8) [] 0 A4 (by simp [rangeD]; omega) (S4.le (by omega)) (by
    intro j d A' hd S'
    have hj : j < 8 := by
      have := (List.getElem?_eq_some_iff.mp hd).1
      simpa [rangeD] using this
    let ro8 : DV.Env := [s, t1, some (.ref k), t3, some (.lst (rs.map rowD)), t5, t6, t7, some d, t9, t10, t11]
    obtain ⟨m, A6, g, _, S6⟩ := draw (ro := ro8) (c := 2) S' (by omega) (by omega) (by omega) rfl
    exact ⟨ro8, rfl, .int (m : Nat), A6, g, ⟨_, rfl⟩, S6.le (by omega)⟩)
  have l8 : (rangeD 0 8).length = 8 := by simp [rangeD]
  rw [l8] at ly S5
  rw [List.nil_append] at c5
  have e5 := comp_ok (f := iRange1 (aCons (eC (.int 8)) aNil)) (ro := ro4) (A := A4) (A1 := A4) (s := .fix (rangeD 0 8)) (rng_ok (n := 8) (A1 := A4) rfl (by omega) (by omega)) c5
  have e5' : eArgs (fun ds A => F__law_merged_by (ds ++ []) A) (aCons (eVar 4) aNil) ro4 A4 = .ok (rowD f) A4 := args1_ok (d := .lst (rs.map rowD)) (A1 := A4) rfl mb
  have a5 : sAsg (eArgs gTupD (aCons (eArgs (fun ds A => F__law_merged_by (ds ++ []) A) (aCons (eVar 4) aNil)) (aCons (eComp (iRange1 (aCons (eC (.int 8)) aNil)) (.one 8) [8] ttYes (eArgs (fun ds A => F__law_next (ds ++ []) A) (aCons (eVar 2) (aCons (eC (.int 2)) aNil)))) aNil))) (gTpl [(gNm 5), (gNm 6)]) ro4 A4 = .go .nx [s, t1, some (.ref k), t3, some (.lst (rs.map rowD)), some (rowD f), some (.lst ys), t7, t8, t9, t10, t11] A5 := by
    have e : eArgs gTupD (aCons (eArgs (fun ds A => F__law_merged_by (ds ++ []) A) (aCons (eVar 4) aNil)) (aCons (eComp (iRange1 (aCons (eC (.int 8)) aNil)) (.one 8) [8] ttYes (eArgs (fun ds A => F__law_next (ds ++ []) A) (aCons (eVar 2) (aCons (eC (.int 2)) aNil)))) aNil)) ro4 A4 = .ok (.tup [rowD f, .lst ys]) A5 := args2_ok e5' e5 (by
      unfold gTupD
      rw [if_pos (by show 2 ≤ sizeLine; omega)])
    unfold sAsg
    rw [e]
    rfl
  -- some
  let ro6 : DV.Env := [s, t1, some (.ref k), t3, some (.lst (rs.map rowD)), some (rowD f), some (.lst ys), t7, t8, t9, t10, t11]
  have c7 := compD_pure (s := .mix (enD 0 (f.map D.str)) []) (pt := .tup [9, 10]) (vs := [9, 10]) (tt := tCmpD gEq (eBin gSubD (eVar 6) (eVar 9)) (eC (.int 1))) (te := eVar 10) (ro := ro6) (A := A5) (p := markD ys) (f := sndD) (fun p hp => by cases hp) (enD 0 (f.map D.str)) [] (by rw [enD_len]; simp; omega) (fun d hd => by
    obtain ⟨j, hj⟩ := List.getElem?_of_mem hd
    rw [enD_get] at hj
    obtain ⟨x, hx, rfl⟩ := Option.map_eq_some_iff.mp hj
    have hjl : j < f.length := by
      have := (List.getElem?_eq_some_iff.mp hx).1
      rw [List.length_map] at this
      exact this
    refine ⟨[s, t1, some (.ref k), t3, some (.lst (rs.map rowD)), some (rowD f), some (.lst ys), t7, t8, some (.int ((0 + j : Nat) : Int)), some x, t11], rfl, ?_, fun _ => rfl⟩
    have hjy : 0 + j < ys.length := by omega
    obtain ⟨v, hv⟩ := gy ys[0 + j] (List.getElem_mem hjy)
    have ha : L2.atI ys ((0 + j : Nat) : Int) = some (.int v) := by rw [atI_nat, List.getElem?_eq_getElem hjy, hv]
    refine tcmp_ok (d := .int v) (e := .int 1) (A1 := A5) (A2 := A5) (bin_ok (d := .lst ys) (e := .int ((0 + j : Nat) : Int)) (A1 := A5) (A2 := A5) rfl rfl (sub_lst ha)) rfl ((gEq_int _ _ _).trans ?_)
    show _ = R.ok (D.bl (match L2.atI ys ((0 + j : Nat) : Int) with
      | some (.int v) => decide (v = 1)
      | _ => false)) A5
    rw [ha])
  rw [List.nil_append] at c7
  obtain ⟨zs, hz, sz⟩ := sub_strs (marked_sub (f.map D.str) (markD ys))
  rw [hz] at c7
  have e7 : eArgs gTuple (aCons (eComp (iEnumS (eVar 5)) (.tup [9, 10]) [9, 10] (tCmpD gEq (eBin gSubD (eVar 6) (eVar 9)) (eC (.int 1))) (eVar 10)) aNil) ro6 A5 = .ok (rowD zs) A5 := args1_ok (comp_ok (f := iEnumS (eVar 5)) (ro := ro6) (A := A5) (A1 := A5) (s := .mix (enD 0 (f.map D.str)) []) rfl c7) rfl
  have low : ∀ m ∈ A5, ∀ z, M.lt z m = true := fun m hm z => S5.low m hm z
  have sit : Sit rs f zs := ⟨fun r hr => ⟨(rowOf_mem (hrs r hr)).1, (rowOf_mem (hrs r hr)).2.1⟩, fn, fm, hf, sz, by omega, by omega⟩
  refine ⟨some (.lst (rs.map rowD)), some (rowD f), some (.lst ys), some (rowD zs), A5, ?_, S5.le (by omega)⟩
  unfold bIn
  refine sseq_ok (sasg_ok e4) (sseq_ok a5 (sseq_ok (sasg_ok e7) ?_))
  have R : ∀ {t : TF} {o : Out} {r : SF}, t (env7 rs f zs s t1 (some (.ref k)) t3 (some (.lst ys)) t8 t9 t10 t11) A5 = .ok false A5 → r (env7 rs f zs s t1 (some (.ref k)) t3 (some (.lst ys)) t8 t9 t10 t11) A5 = o → sSeq (sIf t (sRet (eC (.bl false))) sNx) r (env7 rs f zs s t1 (some (.ref k)) t3 (some (.lst ys)) t8 t9 t10 t11) A5 = o := fun h h2 => sseq_ok (sif_ok (z := false) (A1 := A5) h rfl) h2
  exact R (t1_ok low sit) (R (t2_ok low sit) (R (t3_ok low sit) (R (t4_ok low sit) (R (t5_ok low sit) (R (t6_ok low sit) (sif_ok (z := false) (A1 := A5) (t7_ok low sit) rfl))))))
theorem turn_ok {ns : List Int} {A : Hd} {j : Nat} {t2 t3 t4 t5 t6 t7 t8 t9 t10 t11 : Option D} (hl : ns.length ≤ 63) (hj : j ≤ 10) (low : ∀ m ∈ A, ∀ z, M.lt z m = true) :
    ∃ (u2 u3 u4 u5 u6 u7 : Option D) (A' : Hd), bTurn [some (.scr (ns.map D.int)), some (.int j), t2, t3, t4, t5, t6, t7, t8, t9, t10, t11] A = .go .nx [some (.scr (ns.map D.int)), some (.int j), u2, u3, u4, u5, u6, u7, t8, t9, t10, t11] A' ∧ (∀ m ∈ A', ∀ z, M.lt z m = true) := by
  obtain ⟨A1, g1, S1⟩ := sourceN (kk := j) hl hj low
  let k := A.length
  obtain ⟨ro', A', e, u3, u4, u5, u6, u7, rfl, S'⟩ := forD_run (s := .fix (rangeD 0 3)) (g := gNm 3) (b := bIn)
    (I := fun i ro A' => ∃ (u3 u4 u5 u6 u7 : Option D), ro = [some (.scr (ns.map D.int)), some (.int j), some (.ref k), u3, u4, u5, u6, u7, t8, t9, t10, t11] ∧ SN (k + 1) k A' (30 + 240 * (i : Nat)))
    (fun _ _ A _ => here_fix _ A) (rangeD 0 3) 0 [some (.scr (ns.map D.int)), some (.int j), some (.ref k), t3, t4, t5, t6, t7, t8, t9, t10, t11] A1 ⟨t3, t4, t5, t6, t7, rfl, S1.le (by omega)⟩ (by
      rintro i d ro A1 hd ⟨u3, u4, u5, u6, u7, rfl, S1⟩
      have hi : i < 3 := by
        have := (List.getElem?_eq_some_iff.mp hd).1
        simpa [rangeD] using this
      obtain ⟨v4, v5, v6, v7, A2, g, S2⟩ := in_ok (s := some (.scr (ns.map D.int))) (t1 := some (.int j)) (t3 := some d) (t4 := u4) (t5 := u5) (t6 := u6) (t7 := u7) (t8 := t8) (t9 := t9) (t10 := t10) (t11 := t11) S1 (by omega)
      exact ⟨_, A2, step_okL g, _, _, _, _, _, rfl, S2.le (by omega)⟩)
  refine ⟨some (.ref k), u3, u4, u5, u6, u7, A', ?_, S'.low⟩
  unfold bTurn
  exact sseq_ok (A1 := A1) (sasg_ok (args2_ok (d := .scr (ns.map D.int)) (e := .int j) (A1 := A) (A2 := A) rfl rfl g1)) (sfor_ok (rng_ok (n := 3) (A1 := A1) rfl (by omega) (by omega)) e)
theorem law_ok {ns : List Int} (hl : ns.length ≤ 63) : ∃ A', F_law [.scr (ns.map D.int)] [] = .ok (.bl true) A' := by
  have z := sz1000
  let m : Int := if (ns.length : Int) < 6 then ns.length else 6
  let n : Int := if m > 1 then m else 1
  have n1 : 1 ≤ n := by show 1 ≤ (if m > 1 then m else 1); split <;> omega
  have n4 : n ≤ 6 := by
    have : m ≤ 6 := by show (if (ns.length : Int) < 6 then (ns.length : Int) else 6) ≤ 6; split <;> omega
    show (if m > 1 then m else 1) ≤ 6
    split <;> omega
  let ro0 : DV.Env := [some (.scr (ns.map D.int)), none, none, none, none, none, none, none, none, none, none, none]
  have rg : iRange1 (aCons (eArgs gMax2 (aCons (eC (.int 1)) (aCons (eArgs gMin2 (aCons (eC (.int 6)) (aCons (eArgs gLen (aCons (eVar 0) aNil)) aNil))) aNil))) aNil) ro0 [] = .ok (.fix (rangeD 0 n.toNat)) [] := by
    refine rng_ok (n := n) (A1 := []) (args2_ok (d := .int 1) (e := .int m) (A1 := []) (A2 := []) rfl (args2_ok (d := .int 6) (e := .int ns.length) (A1 := []) (A2 := []) rfl (args1_ok (d := .scr (ns.map D.int)) (A1 := []) rfl ?_) rfl) rfl) (by omega) (by omega)
    show R.ok (D.int ((ns.map D.int).length : Nat)) ([] : Hd) = _
    rw [List.length_map]
  obtain ⟨ro', A', e, t1, t2, t3, t4, t5, t6, t7, rfl, low⟩ := forD_run (s := .fix (rangeD 0 n.toNat)) (g := gNm 1) (b := bTurn)
    (I := fun i ro A' => ∃ (t1 t2 t3 t4 t5 t6 t7 : Option D), ro = [some (.scr (ns.map D.int)), t1, t2, t3, t4, t5, t6, t7, none, none, none, none] ∧ (∀ m ∈ A', ∀ z, M.lt z m = true))
    (fun _ _ A _ => here_fix _ A) (rangeD 0 n.toNat) 0 ro0 [] ⟨none, none, none, none, none, none, none, rfl, (by intro m hm; cases hm)⟩ (by
      rintro i d ro A1 hd ⟨t1, t2, t3, t4, t5, t6, t7, rfl, low⟩
      obtain ⟨hi, rfl⟩ : i < n.toNat ∧ d = .int (i : Nat) := by
        have hi : i < n.toNat := by
          have := (List.getElem?_eq_some_iff.mp hd).1
          simpa [rangeD] using this
        refine ⟨hi, ?_⟩
        unfold rangeD at hd
        rw [List.getElem?_map, List.getElem?_range hi] at hd
        have := Option.some.inj hd
        rw [← this]
        show D.int (0 + (i : Int)) = _
        rw [Int.zero_add]
      obtain ⟨u2, u3, u4, u5, u6, u7, A2, g, low2⟩ := turn_ok (j := i) (t2 := t2) (t3 := t3) (t4 := t4) (t5 := t5) (t6 := t6) (t7 := t7) (t8 := none) (t9 := none) (t10 := none) (t11 := none) hl (by omega) low
      exact ⟨_, A2, step_okL g, _, _, _, _, _, _, _, rfl, low2⟩)
  have e2 : bRest [some (.scr (ns.map D.int)), t1, t2, t3, t4, t5, t6, t7, none, none, none, none] A' = .go (.ret (.bl true)) [some (.scr (ns.map D.int)), t1, t2, t3, t4, t5, t6, t7, none, none, none, none] A' := sret_ok rfl
  have main : b_law (startD 12 [.scr (ns.map D.int)]) [] = .go (.ret (.bl true)) [some (.scr (ns.map D.int)), t1, t2, t3, t4, t5, t6, t7, none, none, none, none] A' := by
    rw [law_parts]
    exact sseq_ok (sfor_ok rg e) e2
  refine ⟨[], ?_⟩
  unfold F_law
  show finR [] (b_law (startD 12 [.scr (ns.map D.int)]) []) = _
  rw [main]
  rfl
end K07

set_option Elab.async false
set_option linter.all false
set_option maxRecDepth 100000
namespace K07
open PySem PySem.Spec PyProof.Rows L2 DV
abbrev ctN : String → Addr := fun _ => 0
theorem all_mk {P : Program} {w : World} {K : PySem.W.Frag} {h : Heap} {mg : Str → Option Value} {fa f0 f1 f2 f3 f4 f5 f6 f7 f8 f9 f10 f11 : Addr} (X : K.In h) (G : h.Ns mainGlobals mg) (hfa : mg "law" = some (.ref fa))
    {od0 an0 od1 an1 od2 an2 od3 an3 od4 an4 od5 an5 od6 an6 od7 an7 od8 an8 od9 an9 od10 an10 od11 an11 : Option Addr} {sl0 sl1 sl2 sl3 sl4 sl5 sl6 sl7 sl8 sl9 sl10 sl11 : Array (Option Value)} {oc0 kV0 dc0 pm0 cd0 ct0 oc1 kV1 dc1 pm1 cd1 ct1 oc2 kV2 dc2 pm2 cd2 ct2 oc3 kV3 dc3 pm3 cd3 ct3 oc4 kV4 dc4 pm4 cd4 ct4 oc5 kV5 dc5 pm5 cd5 ct5 oc6 kV6 dc6 pm6 cd6 ct6 oc7 kV7 dc7 pm7 cd7 ct7 oc8 kV8 dc8 pm8 cd8 ct8 oc9 kV9 dc9 pm9 cd9 ct9 oc10 kV10 dc10 pm10 cd10 ct10 oc11 kV11 dc11 pm11 cd11 ct11 u_MOST_LETTERS u_LETTERS : Value}
    (a0 : PySem.W.nsIn K mainGlobals "_law_source" = some (some (.ref f0))) (l0 : K.lookup f0 = some ⟨oc0, od0, .func (PySem.W.fnOf "_law_source" "_law_source" (defArgs s__law_source) (defBody s__law_source) (defScope s__law_source) .none kV0 dc0 pm0 an0 cd0 ct0), sl0⟩) (c0 : PySem.W.codeIn K cd0 "_law_source" = true) (k0 : PySem.W.keepIn K (.ref f0) = true)
    (a1 : PySem.W.nsIn K mainGlobals "_law_next" = some (some (.ref f1))) (l1 : K.lookup f1 = some ⟨oc1, od1, .func (PySem.W.fnOf "_law_next" "_law_next" (defArgs s__law_next) (defBody s__law_next) (defScope s__law_next) .none kV1 dc1 pm1 an1 cd1 ct1), sl1⟩) (c1 : PySem.W.codeIn K cd1 "_law_next" = true) (k1 : PySem.W.keepIn K (.ref f1) = true)
    (a2 : PySem.W.nsIn K mainGlobals "_law_mixed" = some (some (.ref f2))) (l2 : K.lookup f2 = some ⟨oc2, od2, .func (PySem.W.fnOf "_law_mixed" "_law_mixed" (defArgs s__law_mixed) (defBody s__law_mixed) (defScope s__law_mixed) .none kV2 dc2 pm2 an2 cd2 ct2), sl2⟩) (c2 : PySem.W.codeIn K cd2 "_law_mixed" = true) (k2 : PySem.W.keepIn K (.ref f2) = true)
    (a3 : PySem.W.nsIn K mainGlobals "_law_name_rows" = some (some (.ref f3))) (l3 : K.lookup f3 = some ⟨oc3, od3, .func (PySem.W.fnOf "_law_name_rows" "_law_name_rows" (defArgs s__law_name_rows) (defBody s__law_name_rows) (defScope s__law_name_rows) .none kV3 dc3 pm3 an3 cd3 ct3), sl3⟩) (c3 : PySem.W.codeIn K cd3 "_law_name_rows" = true) (k3 : PySem.W.keepIn K (.ref f3) = true)
    (a4 : PySem.W.nsIn K mainGlobals "is_name" = some (some (.ref f4))) (l4 : K.lookup f4 = some ⟨oc4, od4, .func (PySem.W.fnOf "is_name" "is_name" (defArgs s_is_name) (defBody s_is_name) (defScope s_is_name) .none kV4 dc4 pm4 an4 cd4 ct4), sl4⟩) (c4 : PySem.W.codeIn K cd4 "is_name" = true) (k4 : PySem.W.keepIn K (.ref f4) = true)
    (a5 : PySem.W.nsIn K mainGlobals "are_different" = some (some (.ref f5))) (l5 : K.lookup f5 = some ⟨oc5, od5, .func (PySem.W.fnOf "are_different" "are_different" (defArgs s_are_different) (defBody s_are_different) (defScope s_are_different) .none kV5 dc5 pm5 an5 cd5 ct5), sl5⟩) (c5 : PySem.W.codeIn K cd5 "are_different" = true) (k5 : PySem.W.keepIn K (.ref f5) = true)
    (a6 : PySem.W.nsIn K mainGlobals "check_tuples" = some (some (.ref f6))) (l6 : K.lookup f6 = some ⟨oc6, od6, .func (PySem.W.fnOf "check_tuples" "check_tuples" (defArgs s_check_tuples) (defBody s_check_tuples) (defScope s_check_tuples) .none kV6 dc6 pm6 an6 cd6 ct6), sl6⟩) (c6 : PySem.W.codeIn K cd6 "check_tuples" = true) (k6 : PySem.W.keepIn K (.ref f6) = true)
    (a7 : PySem.W.nsIn K mainGlobals "merge_of" = some (some (.ref f7))) (l7 : K.lookup f7 = some ⟨oc7, od7, .func (PySem.W.fnOf "merge_of" "merge_of" (defArgs s_merge_of) (defBody s_merge_of) (defScope s_merge_of) .none kV7 dc7 pm7 an7 cd7 ct7), sl7⟩) (c7 : PySem.W.codeIn K cd7 "merge_of" = true) (k7 : PySem.W.keepIn K (.ref f7) = true)
    (a8 : PySem.W.nsIn K mainGlobals "merged" = some (some (.ref f8))) (l8 : K.lookup f8 = some ⟨oc8, od8, .func (PySem.W.fnOf "merged" "merged" (defArgs s_merged) (defBody s_merged) (defScope s_merged) .none kV8 dc8 pm8 an8 cd8 ct8), sl8⟩) (c8 : PySem.W.codeIn K cd8 "merged" = true) (k8 : PySem.W.keepIn K (.ref f8) = true)
    (a9 : PySem.W.nsIn K mainGlobals "_law_merged_by" = some (some (.ref f9))) (l9 : K.lookup f9 = some ⟨oc9, od9, .func (PySem.W.fnOf "_law_merged_by" "_law_merged_by" (defArgs s__law_merged_by) (defBody s__law_merged_by) (defScope s__law_merged_by) .none kV9 dc9 pm9 an9 cd9 ct9), sl9⟩) (c9 : PySem.W.codeIn K cd9 "_law_merged_by" = true) (k9 : PySem.W.keepIn K (.ref f9) = true)
    (a10 : PySem.W.nsIn K mainGlobals "_law_named_anew" = some (some (.ref f10))) (l10 : K.lookup f10 = some ⟨oc10, od10, .func (PySem.W.fnOf "_law_named_anew" "_law_named_anew" (defArgs s__law_named_anew) (defBody s__law_named_anew) (defScope s__law_named_anew) .none kV10 dc10 pm10 an10 cd10 ct10), sl10⟩) (c10 : PySem.W.codeIn K cd10 "_law_named_anew" = true) (k10 : PySem.W.keepIn K (.ref f10) = true)
    (a11 : PySem.W.nsIn K mainGlobals "law" = some (some (.ref f11))) (l11 : K.lookup f11 = some ⟨oc11, od11, .func (PySem.W.fnOf "law" "law" (defArgs s_law) (defBody s_law) (defScope s_law) .none kV11 dc11 pm11 an11 cd11 ct11), sl11⟩) (c11 : PySem.W.codeIn K cd11 "law" = true) (k11 : PySem.W.keepIn K (.ref f11) = true)
    (z_len : PySem.W.nsIn K mainGlobals "len" = some none)
    (z_list : PySem.W.nsIn K mainGlobals "list" = some none)
    (z_range : PySem.W.nsIn K mainGlobals "range" = some none)
    (z_tuple : PySem.W.nsIn K mainGlobals "tuple" = some none)
    (z_isinstance : PySem.W.nsIn K mainGlobals "isinstance" = some none)
    (z_str : PySem.W.nsIn K mainGlobals "str" = some none)
    (z_all : PySem.W.nsIn K mainGlobals "all" = some none)
    (z_set : PySem.W.nsIn K mainGlobals "set" = some none)
    (z_enumerate : PySem.W.nsIn K mainGlobals "enumerate" = some none)
    (z_zip : PySem.W.nsIn K mainGlobals "zip" = some none)
    (z_max : PySem.W.nsIn K mainGlobals "max" = some none)
    (z_min : PySem.W.nsIn K mainGlobals "min" = some none)
    (v_MOST_LETTERS : PySem.W.nsIn K mainGlobals "MOST_LETTERS" = some (some u_MOST_LETTERS))
    (v_LETTERS : PySem.W.nsIn K mainGlobals "LETTERS" = some (some u_LETTERS))
    (r_MOST_LETTERS : RelV (.int 8) u_MOST_LETTERS)
    (r_LETTERS : RelV (.str "abcdefghijklmnopqrstuvwxyz") u_LETTERS) :
    ∃ fd : FuncData, (∀ (s : Shared) (v : Value), BindsTo s fd ⟨[v], []⟩ [("_law_script", v)]) ∧ ∀ base : Heap, K.In base → base.Ns mainGlobals mg → FnG P w K mg base 6 fa fd ["_law_script"] (spD K ctN 1 F_law) := by
  have e := hfa.symm.trans (PySem.W.mg_of X G a11)
  cases e
  refine ⟨PySem.W.fnOf "law" "law" (defArgs s_law) (defBody s_law) (defScope s_law) .none kV11 dc11 pm11 an11 cd11 ct11, fun s v => .of_eq rfl, fun base _ _ => ?_⟩
  have m_len : mg "len" = none := PySem.W.mg_none_of X G z_len
  have m_list : mg "list" = none := PySem.W.mg_none_of X G z_list
  have m_range : mg "range" = none := PySem.W.mg_none_of X G z_range
  have m_tuple : mg "tuple" = none := PySem.W.mg_none_of X G z_tuple
  have m_isinstance : mg "isinstance" = none := PySem.W.mg_none_of X G z_isinstance
  have m_str : mg "str" = none := PySem.W.mg_none_of X G z_str
  have m_all : mg "all" = none := PySem.W.mg_none_of X G z_all
  have m_set : mg "set" = none := PySem.W.mg_none_of X G z_set
  have m_enumerate : mg "enumerate" = none := PySem.W.mg_none_of X G z_enumerate
  have m_zip : mg "zip" = none := PySem.W.mg_none_of X G z_zip
  have m_max : mg "max" = none := PySem.W.mg_none_of X G z_max
  have m_min : mg "min" = none := PySem.W.mg_none_of X G z_min
  have g_MOST_LETTERS : ∃ u, mg "MOST_LETTERS" = some u ∧ RelV (.int 8) u := ⟨_, PySem.W.mg_of X G v_MOST_LETTERS, r_MOST_LETTERS⟩
  have g_LETTERS : ∃ u, mg "LETTERS" = some u ∧ RelV (.str "abcdefghijklmnopqrstuvwxyz") u := ⟨_, PySem.W.mg_of X G v_LETTERS, r_LETTERS⟩
  have n__law_source := fun_mk (st := s__law_source) l0 c0 k0
  have b__law_source := n__law_source.binds (ps := ["_law_script", "_law_k"]) fun _ _ _ _ _ _ us hl => match us, hl with | [_, _], _ => rfl
  have c__law_source : Cal P w K mg base ctN 1 "_law_source" 2 [] F__law_source := ⟨f0, _, ["_law_script", "_law_k"], [], [], o__law_source m_len n__law_source, PySem.W.mg_of X G a0, k0, b__law_source, .nil, fun _ _ => .nil⟩
  have n__law_next := fun_mk (st := s__law_next) l1 c1 k1
  have b__law_next := n__law_next.binds (ps := ["_law_source_here", "_law_many"]) fun _ _ _ _ _ _ us hl => match us, hl with | [_, _], _ => rfl
  have c__law_next : Cal P w K mg base ctN 1 "_law_next" 2 [] F__law_next := ⟨f1, _, ["_law_source_here", "_law_many"], [], [], o__law_next  n__law_next, PySem.W.mg_of X G a1, k1, b__law_next, .nil, fun _ _ => .nil⟩
  have n__law_mixed := fun_mk (st := s__law_mixed) l2 c2 k2
  have b__law_mixed := n__law_mixed.binds (ps := ["_law_source_here", "_law_items"]) fun _ _ _ _ _ _ us hl => match us, hl with | [_, _], _ => rfl
  have c__law_mixed : Cal P w K mg base ctN 2 "_law_mixed" 2 [] F__law_mixed := ⟨f2, _, ["_law_source_here", "_law_items"], [], [], o__law_mixed c__law_next m_list m_len n__law_mixed, PySem.W.mg_of X G a2, k2, b__law_mixed, .nil, fun _ _ => .nil⟩
  have n__law_name_rows := fun_mk (st := s__law_name_rows) l3 c3 k3
  have b__law_name_rows := n__law_name_rows.binds (ps := ["_law_source_here", "_law_many", "_law_most", "_law_is_free"]) fun _ _ _ _ _ _ us hl => match us, hl with | [_, _, _, _], _ => rfl
  have c__law_name_rows : Cal P w K mg base ctN 3 "_law_name_rows" 4 [] F__law_name_rows := ⟨f3, _, ["_law_source_here", "_law_many", "_law_most", "_law_is_free"], [], [], o__law_name_rows c__law_mixed c__law_next m_range m_tuple n__law_name_rows, PySem.W.mg_of X G a3, k3, b__law_name_rows, .nil, fun _ _ => .nil⟩
  have n_is_name := fun_mk (st := s_is_name) l4 c4 k4
  have b_is_name := n_is_name.binds (ps := ["thing"]) fun _ _ _ _ _ _ us hl => match us, hl with | [_], _ => rfl
  have c_is_name : Cal P w K mg base ctN 1 "is_name" 1 [] F_is_name := ⟨f4, _, ["thing"], [], [], o_is_name m_isinstance m_str m_len m_all g_MOST_LETTERS g_LETTERS n_is_name, PySem.W.mg_of X G a4, k4, b_is_name, .nil, fun _ _ => .nil⟩
  have n_are_different := fun_mk (st := s_are_different) l5 c5 k5
  have b_are_different := n_are_different.binds (ps := ["thing"]) fun _ _ _ _ _ _ us hl => match us, hl with | [_], _ => rfl
  have c_are_different : Cal P w K mg base ctN 2 "are_different" 1 [] F_are_different := ⟨f5, _, ["thing"], [], [], o_are_different c_is_name m_isinstance m_tuple m_all m_len m_set n_are_different, PySem.W.mg_of X G a5, k5, b_are_different, .nil, fun _ _ => .nil⟩
  have n_check_tuples := fun_mk (st := s_check_tuples) l6 c6 k6
  have b_check_tuples := n_check_tuples.binds (ps := ["tuples"]) fun _ _ _ _ _ _ us hl => match us, hl with | [_], _ => rfl
  have c_check_tuples : Cal P w K mg base ctN 3 "check_tuples" 1 [] F_check_tuples := ⟨f6, _, ["tuples"], [], [], o_check_tuples c_are_different m_enumerate n_check_tuples, PySem.W.mg_of X G a6, k6, b_check_tuples, .nil, fun _ _ => .nil⟩
  have n_merge_of := fun_mk (st := s_merge_of) l7 c7 k7
  have b_merge_of := n_merge_of.binds (ps := ["tuples"]) fun _ _ _ _ _ _ us hl => match us, hl with | [_], _ => rfl
  have c_merge_of : Cal P w K mg base ctN 3 "merge_of" 1 [] F_merge_of := ⟨f7, _, ["tuples"], [], [], o_merge_of m_len m_zip m_tuple m_enumerate n_merge_of, PySem.W.mg_of X G a7, k7, b_merge_of, .nil, fun _ _ => .nil⟩
  have n_merged := fun_mk (st := s_merged) l8 c8 k8
  have c_merged : CalS P w K mg base ctN 4 "merged" F_merged := ⟨f8, o_merged c_check_tuples c_merge_of n_merged (fun us => by cases us <;> rfl), PySem.W.mg_of X G a8, k8⟩
  have n__law_merged_by := fun_mk (st := s__law_merged_by) l9 c9 k9
  have b__law_merged_by := n__law_merged_by.binds (ps := ["_law_rows"]) fun _ _ _ _ _ _ us hl => match us, hl with | [_], _ => rfl
  have c__law_merged_by : Cal P w K mg base ctN 5 "_law_merged_by" 1 [] F__law_merged_by := ⟨f9, _, ["_law_rows"], [], [], o__law_merged_by c_merged m_len n__law_merged_by, PySem.W.mg_of X G a9, k9, b__law_merged_by, .nil, fun _ _ => .nil⟩
  have n__law_named_anew := fun_mk (st := s__law_named_anew) l10 c10 k10
  have b__law_named_anew := n__law_named_anew.binds (ps := ["_law_row"]) fun _ _ _ _ _ _ us hl => match us, hl with | [_], _ => rfl
  have c__law_named_anew : Cal P w K mg base ctN 1 "_law_named_anew" 1 [] F__law_named_anew := ⟨f10, _, ["_law_row"], [], [], o__law_named_anew m_tuple m_len n__law_named_anew, PySem.W.mg_of X G a10, k10, b__law_named_anew, .nil, fun _ _ => .nil⟩
  exact o_law c__law_source c__law_name_rows c__law_next c__law_merged_by c_merged c__law_named_anew m_range m_max m_min m_len m_tuple m_enumerate (fun_mk (st := s_law) l11 c11 k11)
theorem law_sp {K : PySem.W.Frag} {H : Hp} {a : Addr} {ns : List Int} (hl : ns.length ≤ 63) (hS : Scr K io0 H a (ns.map V.int)) : spD K ctN 1 F_law [.ref a] H (fun v _ => v = .bl true) (fun _ _ _ => False) := by
  refine ⟨io0, [], [.scr (ns.map D.int)], rfl, ⟨List.nodup_nil, rfl, fun n a m e1 e2 => by simp at e2, fun a ha => by cases ha⟩, .cons (.scr hS ?_) .nil, ?_⟩
  · clear hS hl
    induction ns with
    | nil => exact .nil
    | cons n ns ih => exact .cons (.int n) ih
  · obtain ⟨A', e⟩ := law_ok hl
    rw [e]
    intro v io' H' x h r
    cases r
    rfl
theorem walk {l : PySem.W.OpenLaw} {q : Program} {loose : List Str} {XP : (Str → Option Value) → Heap → Prop} {YP : World → Heap → Prop} {d : DefRec} {K : Params → PySem.W.Frag} (hn : l.most = some 63) (hdf : d.params.defaults = []) (hr : Room 6 callerA)
    (hY : ∀ (w : World) (h : Heap), YP w h → (K w.params).In h)
    (F : ∀ (w : World) (mg : Str → Option Value) (fa : Addr) (h : Heap), (K w.params).In h → h.Ns mainGlobals mg → mg d.name = some (.ref fa) → ∃ fd : FuncData, (∀ (s : Shared) (u : Value), BindsTo s fd ⟨[u], []⟩ [("_law_script", u)]) ∧
      ∀ base : Heap, (K w.params).In base → base.Ns mainGlobals mg → FnG l.prog w (K w.params) mg base 6 fa fd ["_law_script"] (spD (K w.params) ctN 1 F_law)) :
    PySem.W.WalkO q loose XP YP l.row.toRowW d [] (fun f vs => PySem.call f vs) :=
  walkG (n := 63) (k := 6) (x := "_law_script") (sp := fun w => spD (K w.params) ctN 1 F_law) hn (by decide) hdf hr hY fun w mg fa h KX G hmg => ⟨F w mg fa h KX G hmg, fun H a ns hl hS => law_sp hl hS⟩
end K07

open PySem PySem.W PyProof.Rows in
set_option maxRecDepth 100000 in
set_option maxHeartbeats 0 in
theorem PySem.Challenge.cw_nextbehind_k07_merges_related_holds : PySem.Challenge.rw_nextbehind_k07_merges_related.Holds := by
  w_on; o_law; k_head; (case hw => w_witness2)
  k_fill
  refine K07.walk (l := PySem.Challenge.rw_nextbehind_k07_merges_related) rfl rfl ⟨rfl, by decide, by decide⟩ (fun w h Y => PySem.W.kIn_of Y) ?F
  case F =>
    intro w mg fa h KX G hmg
    refine' K07.all_mk KX G hmg ?a0 ?l0 ?c0 ?k0 ?a1 ?l1 ?c1 ?k1 ?a2 ?l2 ?c2 ?k2 ?a3 ?l3 ?c3 ?k3 ?a4 ?l4 ?c4 ?k4 ?a5 ?l5 ?c5 ?k5 ?a6 ?l6 ?c6 ?k6 ?a7 ?l7 ?c7 ?k7 ?a8 ?l8 ?c8 ?k8 ?a9 ?l9 ?c9 ?k9 ?a10 ?l10 ?c10 ?k10 ?a11 ?l11 ?c11 ?k11 ?z_len ?z_list ?z_range ?z_tuple ?z_isinstance ?z_str ?z_all ?z_set ?z_enumerate ?z_zip ?z_max ?z_min ?v_MOST_LETTERS ?v_LETTERS ?r_MOST_LETTERS ?r_LETTERS
    (case a0 => k_is)
    (case l0 => k_is)
    (case c0 => k_is)
    (case k0 => k_is)
    (case a1 => k_is)
    (case l1 => k_is)
    (case c1 => k_is)
    (case k1 => k_is)
    (case a2 => k_is)
    (case l2 => k_is)
    (case c2 => k_is)
    (case k2 => k_is)
    (case a3 => k_is)
    (case l3 => k_is)
    (case c3 => k_is)
    (case k3 => k_is)
    (case a4 => k_is)
    (case l4 => k_is)
    (case c4 => k_is)
    (case k4 => k_is)
    (case a5 => k_is)
    (case l5 => k_is)
    (case c5 => k_is)
    (case k5 => k_is)
    (case a6 => k_is)
    (case l6 => k_is)
    (case c6 => k_is)
    (case k6 => k_is)
    (case a7 => k_is)
    (case l7 => k_is)
    (case c7 => k_is)
    (case k7 => k_is)
    (case a8 => k_is)
    (case l8 => k_is)
    (case c8 => k_is)
    (case k8 => k_is)
    (case a9 => k_is)
    (case l9 => k_is)
    (case c9 => k_is)
    (case k9 => k_is)
    (case a10 => k_is)
    (case l10 => k_is)
    (case c10 => k_is)
    (case k10 => k_is)
    (case a11 => k_is)
    (case l11 => k_is)
    (case c11 => k_is)
    (case k11 => k_is)
    (case z_len => k_is)
    (case z_list => k_is)
    (case z_range => k_is)
    (case z_tuple => k_is)
    (case z_isinstance => k_is)
    (case z_str => k_is)
    (case z_all => k_is)
    (case z_set => k_is)
    (case z_enumerate => k_is)
    (case z_zip => k_is)
    (case z_max => k_is)
    (case z_min => k_is)
    (case v_MOST_LETTERS => k_is)
    (case v_LETTERS => k_is)
    (case r_MOST_LETTERS => first | exact ⟨_, rfl⟩ | rfl)
    (case r_LETTERS => first | exact ⟨_, rfl⟩ | rfl)
#print axioms PySem.Challenge.cw_nextbehind_k07_merges_related_holds

