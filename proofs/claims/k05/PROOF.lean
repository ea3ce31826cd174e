import PyProof.Rows.All
import Wide.All
import OpenK.AllK
import Wide.FinOn
import HandS.ForMost
import HandS.ForExc
import HandS.TupAny
import HandS.IsInst
import HandS.Deep
import HandS.Flow
import HandS.Zip
import HandS.Wide
import HandS.Strs
import HandS.SetKeys
import HandS.WordsDict
import HandS.Small
import HandS.ExcField
import HandS.ExcInit
import HandS.Nested
import KE.GoesEnumKw
import HandS.Star
import KE.KExcSuper
import KE.KExcInit
import KE.KExcIs
import HandS.ExcIs
import HandS.TupMul
import KE.KUnpack
import PyProof.ReprRoads
import HandS.Set
import PySem.Challenge.RW_nextbehind_k05_clashes_raised
set_option Elab.async false
set_option linter.all false
set_option maxRecDepth 100000
/-! DvA: by-value data D, the abstract objects M, how they stand in the hand layer's heap. -/
namespace DV
open PySem PySem.Spec PyProof.Rows L2

/-- a class: one of the text's own by its name, or a built-in one -/
inductive Cl where
  | own (n : String) | bi (n : String)
  deriving DecidableEq
/-- a value: tuples, lists and dicts that nobody changes stand by value; what may change stands under a number -/
inductive D where
  | non | bl (b : Bool) | int (i : Int) | str (s : Str)
  | tup (ds : List D) | lst (ds : List D) | scr (ds : List D) | dic (es : List (Key × D)) | ref (n : Nat) | cls (c : Cl)
/-- what stands under a number -/
inductive M where
  | lst (ds : List D) | dic (es : List (Key × D)) | ins (c : String) (fs : List (Str × D)) | exc (c : String) (fs : List (Str × D)) | tab (es : List (Key × D))
abbrev Hd := List M
abbrev Env := List (Option D)

/-- which objects stand under numbers (nm), and which are held back (hd): a list that a comprehension fills -/
structure Io where
  nm : List Addr
  hd : List Addr
def io0 : Io := ⟨[], []⟩
instance : Membership Addr Io := ⟨fun io a => a ∈ io.nm ∨ a ∈ io.hd⟩
def Io.add (io : Io) (p : Addr) : Io := ⟨io.nm ++ [p], io.hd⟩
def Io.hold (io : Io) (p : Addr) : Io := ⟨io.nm, p :: io.hd⟩
theorem Io.mem_nm {io : Io} {a : Addr} (h : a ∈ io.nm) : a ∈ io := .inl h
theorem Io.nmem {io : Io} {a : Addr} (h : a ∉ io) : a ∉ io.nm := fun z => h (.inl z)
/-- a list of the written part -/
def KL (K : PySem.W.Frag) (a : Addr) (xs : List V) : Prop :=
  ∃ (o : Obj) (its : Array Value) (n : Nat), K.lookup a = some o ∧ o.cls = .type "list" ∧ o.dict = none ∧ o.data = .seq its n ∧ its.size ≤ sizeLine ∧ Vals xs its.toList
/-- the script, locked (or a list of the written part) -/
def Scr (K : PySem.W.Frag) (io : Io) (H : Hp) (a : Addr) (xs : List V) : Prop := (a ∉ io ∧ ∃ o, H a = some (.frz o (.lst xs))) ∨ KL K a xs
theorem Scr.sq {K : PySem.W.Frag} {io : Io} {H : Hp} {a : Addr} {xs : List V} (h : Scr K io H a xs) : SqL K H a xs := by
  rcases h with ⟨_, o, e⟩ | h
  · exact .inl (.inr ⟨o, e⟩)
  · exact .inr h
/-- a tuple whose object has no dict of its own: a new one, or one of the written part -/
def PTup (K : PySem.W.Frag) (H : Hp) (a : Addr) (xs : List V) : Prop := (∃ o : Obj, H a = some (.frz o (.tup xs)) ∧ o.dict = none) ∨
  ∃ (o : Obj) (its : Array Value) (n : Nat), K.lookup a = some o ∧ o.cls = .type "tuple" ∧ o.dict = none ∧ o.data = .seq its n ∧ its.size ≤ sizeLine ∧ Vals xs its.toList
theorem PTup.sq {K : PySem.W.Frag} {H : Hp} {a : Addr} {xs : List V} (h : PTup K H a xs) : SqT K H a xs := by
  rcases h with ⟨o, e, _⟩ | ⟨o, its, n, e, c, _, d, z, r⟩
  · exact .inl (.inr ⟨o, e⟩)
  · exact .inr ⟨o, its, n, e, c, d, z, r⟩
/-- an exception that was caught: its class, its dict -/
def EO (cls : Value) (d : Option Addr) (a : Addr) : HO := .ext fun h => ∃ (oe : Obj) (vs : Array Value), h.get? a = some oe ∧ Zc cls d oe ∧ oe.data = .fields vs
theorem eo_tup {cls d a xs} : EO cls d a ≠ .tup xs := fun z => by
  have z' : HO.ext _ = HO.tup xs := z
  cases z'
theorem eo_frz {cls d a o u} : EO cls d a ≠ .frz o u := fun z => by
  have z' : HO.ext _ = HO.frz o u := z
  cases z'
section
variable (K : PySem.W.Frag) (ct : String → Addr) (io : Io) (H : Hp)
mutual
inductive DR : V → D → Prop
  | non : DR .non .non
  | bl (b : Bool) : DR (.bl b) (.bl b)
  | int (i : Int) : DR (.int i) (.int i)
  | str (x : Str) : DR (.str x) (.str x)
  | tup {a : Addr} {xs : List V} {ds : List D} : PTup K H a xs → DRs xs ds → DR (.ref a) (.tup ds)
  | lst {a : Addr} {xs : List V} {ds : List D} : a ∉ io → H a = some (.lst xs) → DRs xs ds → DR (.ref a) (.lst ds)
  | scr {a : Addr} {xs : List V} {ds : List D} : Scr K io H a xs → DRs xs ds → DR (.ref a) (.scr ds)
  | dic {a : Addr} {kvs : List (Key × V)} {es : List (Key × D)} : a ∉ io → H a = some (.dK kvs) → kvs.map (·.1) = es.map (·.1) → DRs (kvs.map (·.2)) (es.map (·.2)) → DR (.ref a) (.dic es)
  | ref {a : Addr} {n : Nat} : io.nm[n]? = some a → DR (.ref a) (.ref n)
  | ty (n : String) : DR (.ty n) (.cls (.bi n))
  | own (n : String) : DR (.ref (ct n)) (.cls (.own n))
inductive DRs : List V → List D → Prop
  | nil : DRs [] []
  | cons {v : V} {vs : List V} {d : D} {ds : List D} : DR v d → DRs vs ds → DRs (v :: vs) (d :: ds)
end
/-- the object at a is m -/
def MR (a : Addr) : M → Prop
  | .lst ds => ∃ xs, H a = some (.lst xs) ∧ DRs K ct io H xs ds
  | .dic es => ∃ kvs, H a = some (.dK kvs) ∧ kvs.map (·.1) = es.map (·.1) ∧ DRs K ct io H (kvs.map (·.2)) (es.map (·.2))
  | .ins c fs => ∃ dx gs, H a = some (.ins (ct c) dx gs) ∧ gs.map (·.1) = fs.map (·.1) ∧ DRs K ct io H (gs.map (·.2)) (fs.map (·.2))
  | .tab es => ∃ o kvs, H a = some (.frz o (.dK kvs)) ∧ kvs.map (·.1) = es.map (·.1) ∧ DRs K ct io H (kvs.map (·.2)) (es.map (·.2))
  | .exc c fs => ∃ d, H a = some (EO (.ref (ct c)) d a) ∧ (fs = [] ∨ ∃ p gs, d = some p ∧ p ∉ io ∧ H p = some (.xd gs) ∧ gs.map (·.1) = fs.map (·.1) ∧ DRs K ct io H (gs.map (·.2)) (fs.map (·.2)))
structure HR (A : Hd) : Prop where
  nd : io.nm.Nodup
  len : io.nm.length = A.length
  at_ : ∀ (n : Nat) (a : Addr) (m : M), io.nm[n]? = some a → A[n]? = some m → MR K ct io H a m
  hid : ∀ a ∈ io.hd, a ∉ io.nm ∧ ∃ xs, H a = some (.lst xs)
structure EnvR (ro : Env) (σ : L2.St) : Prop where
  len : ro.length = σ.length
  at_ : ∀ (i : Nat) (d : D), ro[i]? = some (some d) → ∃ v, σ[i]? = some (some v) ∧ DR K ct io H v d
end

/-- from one state to a later one -/
structure Ext (io : Io) (H : Hp) (io' : Io) (H' : Hp) : Prop where
  pre : ∃ more, io'.nm = io.nm ++ more
  hd1 : ∀ a ∈ io.hd, a ∈ io'.hd
  hd2 : ∀ a ∈ io'.hd, a ∈ io.hd ∨ H a = none
  fresh : ∀ b, b ∈ io'.nm → b ∉ io.nm → H b = none
  keep : ∀ b o, H b = some o → b ∉ io.nm → H' b = some o
  there : ∀ b o, H b = some o → ∃ o', H' b = some o'
  frz : ∀ b o u, H b = some (.frz o u) → H' b = some (.frz o u)

section
variable {K : PySem.W.Frag} {ct : String → Addr} {io io' io2 : Io} {H H' H2 : Hp}
theorem Ext.refl : Ext io H io H := ⟨⟨[], by simp⟩, fun _ h => h, fun _ h => .inl h, fun b h n => absurd h n, fun _ _ e _ => e, fun _ o e => ⟨o, e⟩, fun _ _ _ e => e⟩
theorem Ext.trans (a : Ext io H io' H') (b : Ext io' H' io2 H2) : Ext io H io2 H2 := by
  obtain ⟨m1, e1⟩ := a.pre
  obtain ⟨m2, e2⟩ := b.pre
  have back : ∀ c, H' c = none → H c = none := fun c e => by
    cases q : H c with
    | none => rfl
    | some o => obtain ⟨o', q'⟩ := a.there c o q; rw [e] at q'; cases q'
  refine ⟨⟨m1 ++ m2, by rw [e2, e1, List.append_assoc]⟩, fun c h => b.hd1 c (a.hd1 c h), fun c h => (b.hd2 c h).elim (a.hd2 c) fun z => .inr (back c z), fun c h n => ?_, fun c o e n => ?_, fun c o e => ?_, fun c o u e => b.frz c o u (a.frz c o u e)⟩
  · by_cases h1 : c ∈ io'.nm
    · exact a.fresh c h1 n
    · exact back c (b.fresh c h h1)
  · have q := a.keep c o e n
    refine b.keep c o q fun h1 => ?_
    have := a.fresh c h1 n
    rw [e] at this; cases this
  · obtain ⟨o', e'⟩ := a.there c o e
    exact b.there c o' e'
theorem Ext.mem (a : Ext io H io' H') {n : Nat} {b : Addr} (h : io.nm[n]? = some b) : io'.nm[n]? = some b := by
  obtain ⟨m, e⟩ := a.pre
  rw [e, List.getElem?_append_left (List.getElem?_eq_some_iff.mp h).1]
  exact h
theorem Ext.notin (a : Ext io H io' H') {b : Addr} {o : HO} (e : H b = some o) (n : b ∉ io) : b ∉ io' := fun h => by
  rcases h with h | h
  · have := a.fresh b h (Io.nmem n)
    rw [e] at this; cases this
  · rcases a.hd2 b h with z | z
    · exact n (.inr z)
    · rw [e] at z; cases z
theorem Ext.kept (a : Ext io H io' H') {b : Addr} {o : HO} (e : H b = some o) (n : b ∉ io) : H' b = some o := a.keep b o e (Io.nmem n)
theorem Rd.ext {u : HO} (a : Ext io H io' H') {b : Addr} (r : Rd H b u) (n : b ∉ io.nm) : Rd H' b u := by
  rcases r with e | ⟨o, e⟩
  · exact .inl (a.keep b _ e n)
  · exact .inr ⟨o, a.keep b _ e n⟩

/-- tuples never change: also those that stand in the list of numbers (there are none) -/
theorem SqT.ext (a : Ext io H io' H') (hn : ∀ b u, Rd H b (.tup u) → b ∉ io.nm) {b : Addr} {xs : List V} (h : SqT K H b xs) : SqT K H' b xs := by
  rcases h with h | h
  · exact .inl (Rd.ext a h (hn b xs h))
  · exact .inr h
theorem PTup.ext (a : Ext io H io' H') (hn : ∀ b u, Rd H b (.tup u) → b ∉ io.nm) {b : Addr} {xs : List V} (h : PTup K H b xs) : PTup K H' b xs := by
  rcases h with ⟨o, e, d⟩ | h
  · exact .inl ⟨o, a.keep b _ e (hn b xs (.inr ⟨o, e⟩)), d⟩
  · exact .inr h
/-- no tuple stands under a number -/
def NoT (io : Io) (H : Hp) : Prop := ∀ b u, Rd H b (.tup u) → b ∉ io.nm
mutual
theorem DR.mono (a : Ext io H io' H') (hn : NoT io H) : ∀ {v : V} {d : D}, DR K ct io H v d → DR K ct io' H' v d
  | _, _, .non => .non
  | _, _, .bl b => .bl b
  | _, _, .int i => .int i
  | _, _, .str x => .str x
  | _, _, .tup h hs => .tup (PTup.ext a hn h) (DRs.mono a hn hs)
  | _, _, .lst n h hs => .lst (a.notin h n) (a.kept h n) (DRs.mono a hn hs)
  | _, _, .scr h hs => .scr (h.elim (fun ⟨n, o, e⟩ => .inl ⟨a.notin e n, o, a.kept e n⟩) .inr) (DRs.mono a hn hs)
  | _, _, .dic n h e hs => .dic (a.notin h n) (a.kept h n) e (DRs.mono a hn hs)
  | _, _, .ref h => .ref (a.mem h)
  | _, _, .ty n => .ty n
  | _, _, .own n => .own n
theorem DRs.mono (a : Ext io H io' H') (hn : NoT io H) : ∀ {vs : List V} {ds : List D}, DRs K ct io H vs ds → DRs K ct io' H' vs ds
  | _, _, .nil => .nil
  | _, _, .cons h hs => .cons (DR.mono a hn h) (DRs.mono a hn hs)
end
theorem HR.noT {A : Hd} (h : HR K ct io H A) : NoT io H := fun b u r hb => by
  obtain ⟨n, hlt, e⟩ := List.getElem_of_mem hb
  have e1 : io.nm[n]? = some b := by rw [List.getElem?_eq_getElem hlt, e]
  have hl : n < A.length := by rw [← h.len]; exact hlt
  have q := h.at_ n b A[n] e1 (List.getElem?_eq_getElem hl)
  have : ∀ o, H b = some o → (∀ u, o ≠ .tup u) ∧ (∀ p u, o ≠ .frz p u) → False := fun o ho hh => by
    rcases r with r | ⟨p, r⟩
    · rw [ho] at r; exact hh.1 u (Option.some.inj r)
    · rw [ho] at r; exact hh.2 p _ (Option.some.inj r)
  cases hm : A[n] with
  | lst ds => rw [hm] at q; obtain ⟨xs, e2, _⟩ := q; exact this _ e2 ⟨(by intro u z; cases z), (by intro p u z; cases z)⟩
  | dic es => rw [hm] at q; obtain ⟨xs, e2, _⟩ := q; exact this _ e2 ⟨(by intro u z; cases z), (by intro p u z; cases z)⟩
  | ins c fs => rw [hm] at q; obtain ⟨dx, gs, e2, _⟩ := q; exact this _ e2 ⟨(by intro u z; cases z), (by intro p u z; cases z)⟩
  | tab es =>
    rw [hm] at q
    obtain ⟨o, xs, e2, _⟩ := q
    rcases r with r | ⟨p, r⟩
    · rw [e2] at r; cases r
    · rw [e2] at r; cases r
  | exc c fs => rw [hm] at q; obtain ⟨d, e2, _⟩ := q; exact this _ e2 ⟨fun u => eo_tup, fun p u => eo_frz⟩
theorem EnvR.mono {ro : Env} {σ : L2.St} (h : EnvR K ct io H ro σ) (a : Ext io H io' H') (hn : NoT io H) : EnvR K ct io' H' ro σ :=
  ⟨h.len, fun i d e => let ⟨v, e1, r⟩ := h.at_ i d e; ⟨v, e1, r.mono a hn⟩⟩
theorem EnvR.set {ro : Env} {σ : L2.St} (h : EnvR K ct io H ro σ) {i : Nat} {v : V} {d : D} (r : DR K ct io H v d) : EnvR K ct io H (ro.set i (some d)) (σ.set i (some v)) := by
  refine ⟨by rw [List.length_set, List.length_set, h.len], fun j e hj => ?_⟩
  by_cases hij : i = j
  · subst hij
    by_cases hi : i < ro.length
    · rw [List.getElem?_set_self hi] at hj
      cases hj
      exact ⟨v, by rw [List.getElem?_set_self (by rw [← h.len]; exact hi)], r⟩
    · rw [List.getElem?_eq_none (by rw [List.length_set]; omega)] at hj; cases hj
  · rw [List.getElem?_set_ne hij] at hj
    obtain ⟨w, e1, q⟩ := h.at_ j e hj
    exact ⟨w, by rw [List.getElem?_set_ne hij]; exact e1, q⟩
theorem DRs.length : ∀ {vs : List V} {ds : List D}, DRs K ct io H vs ds → vs.length = ds.length
  | _, _, .nil => rfl
  | _, _, .cons _ hs => by rw [List.length_cons, List.length_cons, DRs.length hs]
theorem DRs.get : ∀ {vs : List V} {ds : List D} {i : Nat} {d : D}, DRs K ct io H vs ds → ds[i]? = some d → ∃ v, vs[i]? = some v ∧ DR K ct io H v d
  | _, _, _, _, .nil, e => by simp at e
  | _, _, 0, _, .cons h _, e => by simp at e; subst e; exact ⟨_, rfl, h⟩
  | _, _, i + 1, _, .cons _ hs, e => DRs.get (i := i) hs (by simpa using e)
theorem DRs.get' : ∀ {vs : List V} {ds : List D} {i : Nat} {v : V}, DRs K ct io H vs ds → vs[i]? = some v → ∃ d, ds[i]? = some d ∧ DR K ct io H v d
  | _, _, _, _, .nil, e => by simp at e
  | _, _, 0, _, .cons h _, e => by simp at e; subst e; exact ⟨_, rfl, h⟩
  | _, _, i + 1, _, .cons _ hs, e => DRs.get' (i := i) hs (by simpa using e)
theorem DRs.append : ∀ {vs ws : List V} {ds es : List D}, DRs K ct io H vs ds → DRs K ct io H ws es → DRs K ct io H (vs ++ ws) (ds ++ es)
  | _, _, _, _, .nil, s => s
  | _, _, _, _, .cons h hs, s => .cons h (DRs.append hs s)
theorem DRs.take : ∀ {vs : List V} {ds : List D} (n : Nat), DRs K ct io H vs ds → DRs K ct io H (vs.take n) (ds.take n)
  | _, _, 0, _ => .nil
  | _, _, _ + 1, .nil => .nil
  | _, _, n + 1, .cons h hs => .cons h (DRs.take n hs)
theorem DRs.drop : ∀ {vs : List V} {ds : List D} (n : Nat), DRs K ct io H vs ds → DRs K ct io H (vs.drop n) (ds.drop n)
  | _, _, 0, h => h
  | _, _, _ + 1, .nil => .nil
  | _, _, n + 1, .cons _ hs => DRs.drop n hs
theorem DRs.set {v : V} {d : D} (r : DR K ct io H v d) : ∀ {vs : List V} {ds : List D} (i : Nat), DRs K ct io H vs ds → DRs K ct io H (vs.set i v) (ds.set i d)
  | _, _, _, .nil => .nil
  | _, _, 0, .cons _ hs => .cons r hs
  | _, _, i + 1, .cons h hs => .cons h (DRs.set r i hs)
theorem DRs.eraseIdx : ∀ {vs : List V} {ds : List D} (i : Nat), DRs K ct io H vs ds → DRs K ct io H (vs.eraseIdx i) (ds.eraseIdx i)
  | _, _, _, .nil => .nil
  | _, _, 0, .cons _ hs => hs
  | _, _, i + 1, .cons h hs => .cons h (DRs.eraseIdx i hs)
theorem DRs.reverse {vs : List V} {ds : List D} (h : DRs K ct io H vs ds) : DRs K ct io H vs.reverse ds.reverse := by
  induction vs generalizing ds with
  | nil => cases h; exact .nil
  | cons v vs ih =>
    cases h with
    | cons h hs =>
      rw [List.reverse_cons, List.reverse_cons]
      exact DRs.append (ih hs) (.cons h .nil)
theorem DRs.replicate {v : V} {d : D} (h : DR K ct io H v d) : ∀ n : Nat, DRs K ct io H (List.replicate n v) (List.replicate n d)
  | 0 => .nil
  | n + 1 => .cons h (DRs.replicate h n)
theorem DR.ne_new {v : V} {d : D} : True := trivial

theorem HR.get {A : Hd} (h : HR K ct io H A) {n : Nat} {a : Addr} {m : M} (e : io.nm[n]? = some a) (q : A[n]? = some m) : MR K ct io H a m := h.at_ n a m e q
theorem HR.has {A : Hd} (h : HR K ct io H A) {n : Nat} {a : Addr} (e : io.nm[n]? = some a) : ∃ m, A[n]? = some m := by
  have hl := (List.getElem?_eq_some_iff.mp e).1
  rw [h.len] at hl
  exact ⟨A[n], List.getElem?_eq_getElem hl⟩
theorem keys_isEmpty {kvs : List (Key × V)} {es : List (Key × D)} (k : kvs.map (·.1) = es.map (·.1)) : kvs.isEmpty = es.isEmpty := by
  cases kvs with
  | nil => cases es with
    | nil => rfl
    | cons _ _ => cases k
  | cons _ _ => cases es with
    | nil => cases k
    | cons _ _ => rfl
theorem DRs.isEmpty {vs : List V} {ds : List D} (h : DRs K ct io H vs ds) : vs.isEmpty = ds.isEmpty := by cases h <;> rfl
/-- a new object is laid that has no number -/
theorem Ext.laid {p : Addr} {o : HO} (n : H p = none) : Ext io H io (upd H p o) := by
  refine ⟨⟨[], by simp⟩, fun _ h => h, fun _ h => .inl h, fun b h k => absurd h k, fun b x e k => ?_, fun b x e => ?_, fun b o u e => by rw [upd_ne (ne_of_none e n)]; exact e⟩
  · rw [upd_ne (ne_of_none e n)]; exact e
  · exact ⟨x, by rw [upd_ne (ne_of_none e n)]; exact e⟩
theorem HR.ne {A : Hd} (h : HR K ct io H A) {p : Addr} (n : H p = none) : p ∉ io := fun hb => by
  rcases hb with hb | hb
  · obtain ⟨k, hlt, e⟩ := List.getElem_of_mem hb
    have e1 : io.nm[k]? = some p := by rw [List.getElem?_eq_getElem hlt, e]
    have hl : k < A.length := by rw [← h.len]; exact hlt
    have q := h.at_ k p A[k] e1 (List.getElem?_eq_getElem hl)
    cases hm : A[k] with
    | lst ds => rw [hm] at q; obtain ⟨xs, e2, _⟩ := q; rw [n] at e2; cases e2
    | dic es => rw [hm] at q; obtain ⟨xs, e2, _⟩ := q; rw [n] at e2; cases e2
    | ins c fs => rw [hm] at q; obtain ⟨dx, gs, e2, _⟩ := q; rw [n] at e2; cases e2
    | tab es => rw [hm] at q; obtain ⟨o, xs, e2, _⟩ := q; rw [n] at e2; cases e2
    | exc c fs => rw [hm] at q; obtain ⟨d, e2, _⟩ := q; rw [n] at e2; cases e2
  · obtain ⟨xs, e⟩ := (h.hid p hb).2
    rw [n] at e; cases e
theorem MR.mono {a : Addr} {m : M} (x : Ext io H io' H') (hn : NoT io H) (he : ∀ o, H a = some o → H' a = some o) (h : MR K ct io H a m) : MR K ct io' H' a m := by
  cases m with
  | lst ds => obtain ⟨xs, e, r⟩ := h; exact ⟨xs, he _ e, r.mono x hn⟩
  | dic es => obtain ⟨xs, e, k, r⟩ := h; exact ⟨xs, he _ e, k, r.mono x hn⟩
  | ins c fs => obtain ⟨dx, gs, e, k, r⟩ := h; exact ⟨dx, gs, he _ e, k, r.mono x hn⟩
  | tab es => obtain ⟨o, xs, e, k, r⟩ := h; exact ⟨o, xs, he _ e, k, r.mono x hn⟩
  | exc c fs =>
    obtain ⟨d, e, q⟩ := h
    refine ⟨d, he _ e, q.imp id ?_⟩
    rintro ⟨p, gs, h1, h2, h3, h4, h5⟩
    exact ⟨p, gs, h1, x.notin h3 h2, x.kept h3 h2, h4, h5.mono x hn⟩
/-- all is kept -/
theorem HR.same {A : Hd} (h : HR K ct io H A) (x : Ext io H io H') (k : ∀ b o, H b = some o → H' b = some o) : HR K ct io H' A :=
  ⟨h.nd, h.len, fun n a m e1 e2 => (h.at_ n a m e1 e2).mono x h.noT (k a), fun a ha => ⟨(h.hid a ha).1, let ⟨xs, e⟩ := (h.hid a ha).2; ⟨xs, k a _ e⟩⟩⟩
theorem HR.laid {A : Hd} (h : HR K ct io H A) {p : Addr} {o : HO} (n : H p = none) : HR K ct io (upd H p o) A :=
  h.same (Ext.laid n) fun b x e => by rw [upd_ne (ne_of_none e n)]; exact e
end
end DV

set_option Elab.async false
set_option linter.all false
set_option maxRecDepth 100000
/-! DvB: defs at states where nothing is being shown (guards empty), their calls; the law's end. -/
namespace DV
open PySem PySem.Spec PyProof.Rows L2

/-- as FnOk, at states where no repr runs -/
structure FnG (P : Program) (w : World) (K : PySem.W.Frag) (mg : Str → Option Value) (base : Heap) (k : Nat) (f : Addr) (fd : FuncData) (ps : List Str) (sp : Sp) : Prop where
  len : ∀ vs H Q E, sp vs H Q E → vs.length = ps.length
  run : ∀ (A : Around) (outer : List PySem.Env) (s : Shared) (H : Hp) (args : Args) (us : List Value) (vs : List V) (Q : VK) (E : XK), A.guards = some [] → Room k A → Env0 P w K mg base A outer s H → BindsTo s fd args (ps.zip us) →
    Vals vs us → sp vs H Q E → codeAny (model P w) A (.call (.ref f) args) (CR (L2.CX P w) outer P w H s Q E) s
section
variable {P : Program} {w : World} {K : PySem.W.Frag} {mg : Str → Option Value} {base : Heap}
theorem FnG.mono {j k : Nat} {f : Addr} {fd : FuncData} {ps : List Str} {sp : Sp} (F : FnG P w K mg base j f fd ps sp) (h : j ≤ k) : FnG P w K mg base k f fd ps sp :=
  ⟨F.len, fun A outer s H args us vs Q E g r => F.run A outer s H args us vs Q E g (r.mono h)⟩

/-- a def of the text: its body at the entry -/
theorem okG {x qual : Str} {st : Stmt} {f : Addr} {fd : FuncData} {N ps : List Str} {k : Nat} {sp : Sp} (F : Fun K x qual st f fd) (S : FnScope N ps (defScope st)) (len : ∀ vs H Q E, sp vs H Q E → vs.length = ps.length)
    (body : ∀ (cdv : Value) (A : Around) (outer : List PySem.Env) (s : Shared) (H : Hp) (vs : List V) (Q : VK) (E : XK), A.guards = some [] → Room k (A.deeper (envOfC qual (defScope st) s.heap.objs.size f cdv)) → sp vs H Q E →
      ∃ t, PSs (cxOf (L2.CX P w) P w K mg base N qual (defScope st) f cdv A outer s H E) (defBody st) t ∧ t { nx := fun _ H' => Q .non H', rt := Q } (start N vs) H) : FnG P w K mg base (k + 1) f fd ps sp := by
  obtain ⟨oc, od, kV, doc, pm, an, cdv, ct, osl, rfl, lk, hcd⟩ := F.ex
  refine ⟨len, fun A outer s H args us vs Q E hgd hr e0 hb r hsp => ?_⟩
  have hl := len _ _ _ _ hsp
  have KX : K.In s.heap := e0.mod.kin.keeps (fun b o e => (e0.bs b o e).1)
  have lim : s.heap.NoLimit := e0.mod.nolimit.keeps (fun b o e => (e0.bs b o e).1)
  have hk : ∀ y ∈ ps.zip us, (defScope st).names.lookup y.1 = some .local ∨ ((defScope st).names.lookup y.1 = some .cell ∧ ((cellsFrom (s.heap.objs.size + 1) (defScope st).names []).lookup y.1).isSome = true) := by
    intro ⟨n, v⟩ hy
    rcases S.par n (List.of_mem_zip hy).1 with q | q
    · left; exact q
    · right; exact ⟨q, PySem.W.cellsFrom_some _ _ _ (.inl q)⟩
  refine codeAny_call_function hr.depth (KX _ _ lk) rfl S.co S.gen rfl (PySem.W.codeRec_of KX hcd) (hb _ _ _ _ ?_)
  refine wpAny_newFunctionEnv_cells S.kind hk (fun env he s1 x => ?_)
  subst he
  refine ⟨lim.keeps x.toInCall.keep, codeAny_func ?_⟩
  obtain ⟨t, ht, hq⟩ := body cdv A outer s H vs Q E hgd (hr.deeper _) hsp
  have I : Inv (cxOf (L2.CX P w) P w K mg base N qual (defScope st) f cdv A outer s H E) [] (start N vs) H s1 := inv_start S hr.hd e0 hl r x
  refine wpAny_mono (ht.run [] s1 (start N vs) H _ I hq) (fun fl s' hs => ?_) (fun e s' hs => hs)
  cases fl with
  | ret u => obtain ⟨v, σ', H', J, rv, q⟩ := hs; exact ⟨v, H', J.os, J.bare, J.base, J.hok, rv, q⟩
  | next => obtain ⟨σ', H', J, q⟩ := hs; exact ⟨.non, H', J.os, J.bare, J.base, J.hok, rfl, q⟩
  | brk => obtain ⟨_, _, _, q⟩ := hs; exact q.elim
  | cont => obtain ⟨_, _, _, q⟩ := hs; exact q.elim
end

section
variable {X : Cx} {k : Nat} {f C : Addr} {fd : FuncData} {ps : List Str} {sp : Sp} {ds : List Value} {dvs : List V} {W : WX} {x m : Str} {p pos apos : Pos} {e o : Expr} {es : List Expr} {ta : TE} {t : TA}
theorem run_G {pins : List (Addr × Obj)} {σ : L2.St} {H : Hp} {s : Shared} {Q : VK} {us : List Value} {vs : List V} (F : FnG X.prog X.w X.K X.mg X.base k f fd ps sp) (hg : X.A.guards = some []) (hr : Room k X.A) (hb : Binds X.K fd ps ds) (hd : Vals dvs ds) (tk : Takes X W)
    (I : Inv X pins σ H s) (r : Vals vs us) (h : sp (vs ++ dvs) H Q (WE W σ)) : wpAny (model X.prog X.w) X.A (call (.ref f) us) (EP X pins σ Q) X.xe s := by
  have r2 : Vals (vs ++ dvs) (us ++ ds) := Vals.append r hd
  have hl : (us ++ ds).length = ps.length := Eq.trans r2.length.symm (F.len _ _ _ _ h)
  refine wpAny_call (codeAny_mono (F.run X.A X.stack s H ⟨us, []⟩ (us ++ ds) (vs ++ dvs) Q (WE W σ) hg hr I.env0 (hb s us I.kIn hl) r2 h) (fun r s' hq => ?_))
  match r, hq with
  | .error e, hq => exact passAt tk σ pins H s e s' I hq
  | .ok (.ret u), hq => exact I.after hq
  | .ok .next, hq => exact (False.elim hq)
  | .ok .brk, hq => exact (False.elim hq)
  | .ok .cont, hq => exact (False.elim hq)
/-- f(e, ..): the def at the module's name x -/
theorem pe_G (F : FnG X.prog X.w X.K X.mg X.base k f fd ps sp) (hgd : X.A.guards = some []) (hr : Room k X.A) (hg : Gl X x) (hm : X.mg x = some (.ref f)) (hk : PySem.W.keepIn X.K (.ref f) = true) (hb : Binds X.K fd ps ds) (hd : Vals dvs ds) (tk : Takes X W)
    (ha : PA X (e :: es) t) (hdb : (x == ("__debug__" : Str)) = false := by decide) (he : starEach (e :: es) X.env = (false, eval e X.env) :: starEach es X.env := by rfl) (hpl : (backTo pos (starEach es X.env)).any (·.1) = false := by rfl) :
    PE X (.Call (.Name x p) (e :: es) [] pos) (fun σ H Q => t σ H fun vs H1 => sp (vs ++ dvs) H1 Q (WE W σ)) := by
  refine ⟨fun pins s σ H Q I h => wpAny_Call_Name_kw (ld_glob I hg hm ?_ hdb)⟩
  exact PySem.W.callWith_K (h₀ := X.base) I.ok.mod.kin hk (thn (ha.run pos pins s σ H _ I h) fun us s1 ⟨vs, H1, I1, r, q⟩ => ⟨I1.kIn, run_G F hgd hr hb hd tk I1 r q⟩) he hpl
theorem pe_G0 (F : FnG X.prog X.w X.K X.mg X.base k f fd ps sp) (hgd : X.A.guards = some []) (hr : Room k X.A) (hg : Gl X x) (hm : X.mg x = some (.ref f)) (hk : PySem.W.keepIn X.K (.ref f) = true) (hb : Binds X.K fd ps ds) (hd : Vals dvs ds) (tk : Takes X W)
    (hdb : (x == ("__debug__" : Str)) = false := by decide) : PE X (.Call (.Name x p) [] [] pos) (fun σ H Q => sp dvs H Q (WE W σ)) := by
  refine ⟨fun pins s σ H Q I h => wpAny_Call_Name_kw (ld_glob I hg hm ?_ hdb)⟩
  exact PySem.W.callWith_K0 I.kIn hk (run_G (us := []) (vs := []) F hgd hr hb hd tk I .nil h)
end

/-- the law's own call, from its promise (as law_call, for FnG) -/
theorem callG {P : Program} {w : World} {K : PySem.W.Frag} {mg mb : Str → Option Value} {k : Nat} {fa a : Addr} {fd : FuncData} {x : Str} {sp : Sp} {s₁ : Shared} {vs : List Value} {ns : List Int}
    (KX : K.In s₁.heap) (hns : s₁.heap.Ns mainGlobals mg) (hb : s₁.heap.Ns builtinsNs mb) (hbb : ∀ x : Str, x ≠ "__name__" → mb x = bootBuiltins x) (hlim : s₁.heap.NoLimit) (hg : s₁.gens = #[])
    (ha : s₁.heap.get? a = some { cls := .type "list", data := .seq vs.toArray }) (hi : IntsAre vs ns) (hl : ns.length ≤ sizeLine) (hr : Room k callerA)
    (F : ∀ base : Heap, K.In base → base.Ns mainGlobals mg → FnG P w K mg base k fa fd [x] sp) (hbind : ∀ (s : Shared) (u : Value), BindsTo s fd ⟨[u], []⟩ [(x, u)])
    (hsp : ∀ H : Hp, Scr K io0 H a (ns.map V.int) → sp [.ref a] H (fun v _ => v = .bl true) fun _ _ _ => False) :
    codeAny (model P w) callerA (.call (.ref fa) ⟨[.ref a], []⟩) (fun r s' => r = .ok (.ret (.bool true)) ∧ OldK s₁.heap s'.heap ∧ s'.os = s₁.os ∧ AllBare s'.gens) s₁ := by
  have rv := vals_ints hi
  obtain ⟨oa, hoa⟩ : ∃ oa : Obj, oa = { cls := .type "list", data := .seq vs.toArray } := ⟨_, rfl⟩
  have core : ∀ H : Hp, (∀ b, b ≠ a → H b = none) → (H a = none ∨ (H a = some (.frz oa (.lst (ns.map V.int))) ∧ K.lookup a = none)) → Scr K io0 H a (ns.map V.int) →
      codeAny (model P w) callerA (.call (.ref fa) ⟨[.ref a], []⟩) (fun r s' => r = .ok (.ret (.bool true)) ∧ OldK s₁.heap s'.heap ∧ s'.os = s₁.os ∧ AllBare s'.gens) s₁ := by
    intro H h2 h1 hS
    have hok : HOk P w H s₁.heap := fun b u z => by
      by_cases hb : b = a
      · rcases h1 with h1 | ⟨h1, _⟩
        · rw [hb, h1] at z; cases z
        · rw [hb, h1] at z
          cases z
          rw [hb]
          refine ⟨by rw [hoa]; exact ha, by rw [List.length_map]; exact hl, vs, _, rv, ha⟩
      · rw [h2 b hb] at z; cases z
    have free : ∀ {b : Addr} {o : Obj}, s₁.heap.get? b = some o → (b = a → K.lookup a = none → False) → H b = none := fun {b o} e d => by
      by_cases hb : b = a
      · rcases h1 with h1 | ⟨_, h1⟩
        · rw [hb]; exact h1
        · exact (d hb h1).elim
      · exact h2 b hb
    have nsK : ∀ {b : Addr} {m : Str → Option Value}, s₁.heap.Ns b m → (hidT s₁.heap H).Ns b m := fun {b m} ⟨o, es, ep, e, d, r⟩ => ⟨o, es, ep, hidT_get e (free e fun hb _ => by
      rw [hb, ha] at e
      cases e
      cases (show Data.seq vs.toArray _ = Data.dict es ep from d)), d, r⟩
    have hKb : K.In (hidT s₁.heap H) := fun b o e => hidT_get (KX b o e) (free (KX b o e) fun hb hn => by rw [hb, hn] at e; cases e)
    have hM : Mod K mg (hidT s₁.heap H) := ⟨hKb, nsK hns, ⟨mb, nsK hb, hbb⟩, let ⟨mc, q1, q2⟩ := hlim; ⟨mc, nsK q1, q2⟩⟩
    have e0 : Env0 P w K mg (hidT s₁.heap H) callerA [] s₁ H := ⟨rfl, hM, fun b o e => of_hidT e, Nat.le_of_eq (hidT_size _ _), trivial, fun b hb => absurd (show b ∈ ([] : List Addr) from hb) (by simp), hok, .of_eq hg⟩
    refine codeAny_mono ((F _ hKb (nsK hns)).run callerA [] s₁ H ⟨[.ref a], []⟩ [.ref a] [.ref a] _ _ rfl hr e0 (hbind s₁ (.ref a)) (.cons rfl .nil) (hsp H hS)) (fun r s' h => ?_)
    match r, h with
    | .error e, h => obtain ⟨_, _, _, _, _, _, _, _, _, _, _, _, z⟩ := h; exact z.elim
    | .ok .next, h => exact (False.elim h)
    | .ok .brk, h => exact (False.elim h)
    | .ok .cont, h => exact (False.elim h)
    | .ok (.ret u), h =>
      obtain ⟨v, H', os, bare, un, hok', r', q⟩ := h
      have q' : v = .bl true := q
      subst q'
      obtain rfl : u = Value.bool true := r'
      refine ⟨rfl, OldK.of_keep fun b o e => ?_, os, bare⟩
      by_cases hb : b = a
      · rcases h1 with h1 | ⟨h1, _⟩
        · rw [hb] at e ⊢
          exact un.keep a o e h1 (by intro z; exact absurd (show a ∈ ([] : List Addr) from z) (by simp)) (by simp)
        · obtain ⟨e2, _⟩ := hok' b _ (un.frzs b oa _ (by rw [hb]; exact h1))
          rw [hb, ha] at e
          cases e
          rw [e2, hoa]
      · exact un.keep b o e (h2 b hb) (by intro z; exact absurd (show b ∈ ([] : List Addr) from z) (by simp)) (by simp)
  cases hk : K.lookup a with
  | some o =>
    have e := KX a o hk
    rw [ha] at e
    cases e
    exact core (fun _ => none) (fun _ _ => rfl) (.inl rfl) (.inr ⟨_, vs.toArray, _, hk, rfl, rfl, rfl, by rw [List.size_toArray, hi.length]; exact hl, by simpa using rv⟩)
  | none =>
    refine core (fun b => if b = a then some (.frz oa (.lst (ns.map V.int))) else none) (fun b hb => if_neg hb) (.inr ⟨if_pos rfl, hk⟩) (.inl ⟨(by rintro (z | z) <;> cases z), oa, if_pos rfl⟩)

/-- the goal that k_head leaves, from the law's promise -/
theorem walkG {l : PySem.W.OpenLaw} {n k : Nat} {q : Program} {loose : List Str} {XP : (Str → Option Value) → Heap → Prop} {YP : World → Heap → Prop} {d : DefRec} {K : Params → PySem.W.Frag} {sp : World → Sp} {x : Str}
    (hn : l.most = some n) (hn2 : n ≤ sizeLine) (hdf : d.params.defaults = []) (hr : Room k callerA)
    (hY : ∀ (w : World) (h : Heap), YP w h → (K w.params).In h)
    (F : ∀ (w : World) (mg : Str → Option Value) (fa : Addr) (h : Heap), (K w.params).In h → h.Ns mainGlobals mg → mg d.name = some (.ref fa) →
      (∃ fd : FuncData, (∀ (s : Shared) (u : Value), BindsTo s fd ⟨[u], []⟩ [(x, u)]) ∧
        ∀ base : Heap, (K w.params).In base → base.Ns mainGlobals mg → FnG l.prog w (K w.params) mg base k fa fd [x] (sp w)) ∧
      ∀ (H : Hp) (a : Addr) (ns : List Int), ns.length ≤ n → Scr (K w.params) io0 H a (ns.map V.int) → sp w [.ref a] H (fun v _ => v = .bl true) fun _ _ _ => False) :
    PySem.W.WalkO q loose XP YP l.row.toRowW d [] (fun f vs => PySem.call f vs) := by
  refine Att.attach_call hn hdf fun w s₀ s₁ mg mb fa o pm cd doc a vs ns G Y ho hd hcd hmg hobj hints hlen hg => ?_
  have KX := hY w _ Y
  obtain ⟨⟨fd, hb, hF⟩, hsp⟩ := F w mg fa _ KX G.T.g hmg
  exact callG KX G.T.g G.T.b G.T.builtins G.T.nolimit hg hobj hints (Nat.le_trans hlen hn2) hr hF hb (fun H hS => hsp H a ns hlen hS)
end DV

set_option Elab.async false
set_option linter.all false
set_option maxRecDepth 100000
/-! DvC: results, what they ask of the heap, the judgements by data, names, constants, displays, and / or / not / if. -/
namespace DV
open PySem PySem.Spec PyProof.Rows L2

inductive R (α : Type) where
  | ok (a : α) (A : Hd) | err (c : Cl) (fs : List (Str × D)) (A : Hd) | stk
def R.bind {α β : Type} (r : R α) (k : α → Hd → R β) : R β := match r with
  | .ok a A => k a A
  | .err c fs A => .err c fs A
  | .stk => .stk
@[simp] theorem R.bind_ok {α β : Type} (a : α) (A : Hd) (k : α → Hd → R β) : (R.ok a A).bind k = k a A := rfl
@[simp] theorem R.bind_err {α β : Type} (c : Cl) (fs : List (Str × D)) (A : Hd) (k : α → Hd → R β) : (R.err c fs A : R α).bind k = .err c fs A := rfl
@[simp] theorem R.bind_stk {α β : Type} (k : α → Hd → R β) : (R.stk : R α).bind k = .stk := rfl
theorem R.bind_assoc {α β γ : Type} (r : R α) (k : α → Hd → R β) (l : β → Hd → R γ) : (r.bind k).bind l = r.bind fun a A => (k a A).bind l := by
  cases r <;> rfl

abbrev EF := Env → Hd → R D
abbrev TF := Env → Hd → R Bool
abbrev AF := Env → Hd → R (List D)

def ClV (ct : String → Addr) : Cl → Value
  | .own n => .ref (ct n)
  | .bi n => .type n
/-- an exception in the air -/
structure XR (K : PySem.W.Frag) (ct : String → Addr) (io : Io) (H : Hp) (c : Cl) (fs : List (Str × D)) (cls : Value) (dd : Option Addr) : Prop where
  cls : cls = ClV ct c
  fds : fs = [] ∨ ∃ p gs, dd = some p ∧ p ∉ io ∧ H p = some (.xd gs) ∧ gs.map (·.1) = fs.map (·.1) ∧ DRs K ct io H (gs.map (·.2)) (fs.map (·.2))

section
variable (K : PySem.W.Frag) (ct : String → Addr)
/-- what a result asks -/
def Post {α β : Type} (rep : Io → Hp → β → α → Prop) (W : WX) (σ : L2.St) (io : Io) (H : Hp) (r : R α) (Q : β → Hp → Prop) : Prop := match r with
  | .ok a A => ∀ b io' H', Ext io H io' H' → HR K ct io' H' A → rep io' H' b a → Q b H'
  | .err c fs A => ∀ cls dd io' H', Ext io H io' H' → HR K ct io' H' A → XR K ct io' H' c fs cls dd → W cls dd σ H'
  | .stk => False
abbrev repB : Io → Hp → Bool → Bool → Prop := fun _ _ b a => b = a
/-- a state -/
structure Sta (ro : Env) (A : Hd) (io : Io) (σ : L2.St) (H : Hp) : Prop where
  hr : HR K ct io H A
  env : EnvR K ct io H ro σ
def tD (W : WX) (f : EF) : TE := fun σ H Q => ∃ io A ro, Sta K ct ro A io σ H ∧ Post K ct (DR K ct) W σ io H (f ro A) Q
def tT (W : WX) (f : TF) : TT := fun σ H Q => ∃ io A ro, Sta K ct ro A io σ H ∧ Post K ct repB W σ io H (f ro A) Q
def tL (W : WX) (f : AF) : TA := fun σ H Q => ∃ io A ro, Sta K ct ro A io σ H ∧ Post K ct (DRs K ct) W σ io H (f ro A) Q
end

section
variable {K : PySem.W.Frag} {ct : String → Addr} {W : WX} {σ : L2.St} {io io' : Io} {H H' : Hp} {A A' : Hd} {ro : Env}
theorem Post.mono {α β : Type} {rep : Io → Hp → β → α → Prop} {r : R α} {Q Q' : β → Hp → Prop} (h : Post K ct rep W σ io H r Q) (m : ∀ b H', Q b H' → Q' b H') : Post K ct rep W σ io H r Q' := by
  cases r with
  | ok a A => exact fun b io' H' e h1 r => m _ _ (h b io' H' e h1 r)
  | err c fs A => exact h
  | stk => exact h
theorem Post.ext {α β : Type} {rep : Io → Hp → β → α → Prop} {r : R α} {Q : β → Hp → Prop} (e : Ext io H io' H') (h : Post K ct rep W σ io H r Q) : Post K ct rep W σ io' H' r Q := by
  cases r with
  | ok a A => exact fun b io2 H2 e2 h1 r => h b io2 H2 (e.trans e2) h1 r
  | err c fs A => exact fun cls dd io2 H2 e2 h1 r => h cls dd io2 H2 (e.trans e2) h1 r
  | stk => exact h
theorem Post.bind {α β γ δ : Type} {rep : Io → Hp → β → α → Prop} {rep2 : Io → Hp → δ → γ → Prop} {r : R α} {k : α → Hd → R γ} {Q : δ → Hp → Prop} (h : Post K ct rep2 W σ io H (r.bind k) Q) :
    Post K ct rep W σ io H r (fun b H1 => ∃ io1 A1 a, Ext io H io1 H1 ∧ HR K ct io1 H1 A1 ∧ rep io1 H1 b a ∧ Post K ct rep2 W σ io1 H1 (k a A1) Q) := by
  cases r with
  | ok a A => exact fun b io1 H1 e h1 r => ⟨io1, A, a, e, h1, r, Post.ext e h⟩
  | err c fs A => exact h
  | stk => exact h
theorem Sta.mono (s : Sta K ct ro A io σ H) (e : Ext io H io' H') (h : HR K ct io' H' A') : Sta K ct ro A' io' σ H' := ⟨h, s.env.mono e s.hr.noT⟩
/-- a value that stands already -/
theorem Post.here {α β : Type} {rep : Io → Hp → β → α → Prop} {a : α} {b : β} {Q : β → Hp → Prop} (h : Post K ct rep W σ io H (.ok a A) Q) (hr : HR K ct io H A) (r : rep io H b a) : Q b H := h b io H Ext.refl hr r
/-- a new object -/
theorem Post.new {d : D} {p : Addr} {o : HO} {Q : VK} (h : Post K ct (DR K ct) W σ io H (.ok d A) Q) (hr : HR K ct io H A) (n : H p = none) (r : DR K ct io (upd H p o) (.ref p) d) : Q (.ref p) (upd H p o) :=
  h _ io _ (Ext.laid n) (hr.laid n) r
theorem DRs.laid {vs : List V} {ds : List D} {p : Addr} {o : HO} (h : DRs K ct io H vs ds) (hr : HR K ct io H A) (n : H p = none) : DRs K ct io (upd H p o) vs ds := h.mono (Ext.laid n) hr.noT
theorem DR.laid {v : V} {d : D} {p : Addr} {o : HO} (h : DR K ct io H v d) (hr : HR K ct io H A) (n : H p = none) : DR K ct io (upd H p o) v d := h.mono (Ext.laid n) hr.noT
theorem DR.newLst {vs : List V} {ds : List D} {p : Addr} (hr : HR K ct io H A) (n : H p = none) (h : DRs K ct io H vs ds) : DR K ct io (upd H p (.lst vs)) (.ref p) (.lst ds) := .lst (hr.ne n) upd_same (h.laid hr n)
theorem DR.newTup {vs : List V} {ds : List D} {p : Addr} {o : Obj} (hr : HR K ct io H A) (n : H p = none) (ho : o.dict = none) (h : DRs K ct io H vs ds) : DR K ct io (upd H p (.frz o (.tup vs))) (.ref p) (.tup ds) := .tup (.inl ⟨o, upd_same, ho⟩) (h.laid hr n)
end

/-! ### judgements -/
section
variable (X : Cx) (ct : String → Addr) (W : WX)
abbrev PD (e : Expr) (f : EF) : Prop := PE X e (tD X.K ct W f)
abbrev PDt (e : Expr) (f : TF) : Prop := PT X e (tT X.K ct W f)
abbrev PDw (e : Expr) (f : TF) : Prop := PW X e (tT X.K ct W f)
abbrev PDa (es : List Expr) (f : AF) : Prop := PA X es (tL X.K ct W f)
end
theorem pe_mono {X : Cx} {e : Expr} {t t' : TE} (h : PE X e t) (m : ∀ σ H Q, t' σ H Q → t σ H Q) : PE X e t' := ⟨fun pins s σ H Q I q => h.run pins s σ H Q I (m _ _ _ q)⟩
theorem pt_mono {X : Cx} {e : Expr} {t t' : TT} (h : PT X e t) (m : ∀ σ H Q, t' σ H Q → t σ H Q) : PT X e t' := ⟨fun pins s σ H Q I q => h.run pins s σ H Q I (m _ _ _ q)⟩
theorem pw_mono {X : Cx} {e : Expr} {t t' : TT} (h : PW X e t) (m : ∀ σ H Q, t' σ H Q → t σ H Q) : PW X e t' := ⟨fun wh pins s σ H Q I q => h.run wh pins s σ H Q I (m _ _ _ q)⟩
theorem pa_mono {X : Cx} {e : List Expr} {t t' : TA} (h : PA X e t) (m : ∀ σ H Q, t' σ H Q → t σ H Q) : PA X e t' := ⟨fun pos pins s σ H Q I q => h.run pos pins s σ H Q I (m _ _ _ q)⟩

/-! ### combinators -/
def eVar (i : Nat) : EF := fun ro A => match ro[i]? with
  | some (some d) => .ok d A
  | _ => .stk
def eC (d : D) : EF := fun _ A => .ok d A
def eBin (g : D → D → Hd → R D) (a b : EF) : EF := fun ro A => (a ro A).bind fun d A1 => (b ro A1).bind fun e A2 => g d e A2
def eUn (g : D → Hd → R D) (a : EF) : EF := fun ro A => (a ro A).bind fun d A1 => g d A1
def aNil : AF := fun _ A => .ok [] A
def aCons (a : EF) (b : AF) : AF := fun ro A => (a ro A).bind fun d A1 => (b ro A1).bind fun ds A2 => .ok (d :: ds) A2
def eArgs (g : List D → Hd → R D) (a : AF) : EF := fun ro A => (a ro A).bind fun ds A1 => g ds A1
def gTupD (ds : List D) (A : Hd) : R D := if ds.length ≤ sizeLine then .ok (.tup ds) A else .stk
def gLstD (ds : List D) (A : Hd) : R D := if ds.length ≤ sizeLine then .ok (.lst ds) A else .stk
/-- a list that will change: it gets a number -/
def gLstM (ds : List D) (A : Hd) : R D := if ds.length ≤ sizeLine then .ok (.ref A.length) (A ++ [.lst ds]) else .stk

/-- a value's truth -/
def truD (d : D) (A : Hd) : Option Bool := match d with
  | .non => some false
  | .bl b => some b
  | .int i => some (i != 0)
  | .str y => if y.length ≤ sizeLine then some (y.length != 0) else none
  | .tup ds => some (!ds.isEmpty)
  | .lst ds => some (!ds.isEmpty)
  | .scr ds => some (!ds.isEmpty)
  | .dic es => some (!es.isEmpty)
  | .ref n => match A[n]? with
    | some (.lst ds) => some (!ds.isEmpty)
    | some (.dic es) => some (!es.isEmpty)
    | _ => none
  | .cls _ => none
def gTru (d : D) (A : Hd) : R Bool := match truD d A with
  | some b => .ok b A
  | none => .stk
/-- a bool's truth, as a test -/
def gBool (d : D) (A : Hd) : R Bool := match d with
  | .bl b => .ok b A
  | _ => .stk
def tOfE (a : EF) : TF := fun ro A => (a ro A).bind gTru
def tAndD (a b : TF) : TF := fun ro A => (a ro A).bind fun c A1 => if c then b ro A1 else .ok false A1
def tOrD (a b : TF) : TF := fun ro A => (a ro A).bind fun c A1 => if c then .ok true A1 else b ro A1
def tNotD (a : TF) : TF := fun ro A => (a ro A).bind fun c A1 => .ok (!c) A1
def eAndD (a b : EF) : EF := fun ro A => (a ro A).bind fun d A1 => (gTru d A1).bind fun c A2 => if c then b ro A2 else .ok d A2
def eOrD (a b : EF) : EF := fun ro A => (a ro A).bind fun d A1 => (gTru d A1).bind fun c A2 => if c then .ok d A2 else b ro A2
def eNotD (a : EF) : EF := fun ro A => (a ro A).bind fun d A1 => (gTru d A1).bind fun c A2 => .ok (.bl (!c)) A2
def eIf (c : TF) (a b : EF) : EF := fun ro A => (c ro A).bind fun k A1 => if k then a ro A1 else b ro A1

section
variable {X : Cx} {ct : String → Addr} {W : WX} {e a b : Expr} {pos : Pos} {fa fb : EF} {ft fu : TF}
theorem pd_var (i : Nat) {x : Str} (hN : X.N[i]? = some x := by rfl) (hv : Vis X.env.scope x := by first | exact Or.inl rfl | exact Or.inr (Or.inl rfl) | exact Or.inr (Or.inr rfl)) (hd : (x == ("__debug__" : Str)) = false := by decide)
    (hcd : (x == ("__classdict__" : Str)) = false := by decide) : PD X ct W (.Name x pos) (eVar i) :=
  pe_mono (pe_var hN hv hd hcd) fun σ H Q ⟨io, A, ro, s, p⟩ => by
    unfold eVar at p
    split at p
    · rename_i d q
      obtain ⟨v, e1, r⟩ := s.env.at_ i d q
      exact ⟨v, e1, p.here s.hr r⟩
    · exact p.elim
theorem pd_c {v : V} {d : D} (h : PE X e (tC v)) (r : ∀ io H, DR X.K ct io H v d) : PD X ct W e (eC d) :=
  pe_mono h fun σ H Q ⟨io, A, ro, s, p⟩ => p.here s.hr (r io H)
theorem pd_int {i j} : PD X ct W (.Constant (.int i) j pos) (eC (.int i)) := pd_c pe_int fun _ _ => .int i
theorem pd_bl {b j} : PD X ct W (.Constant (.bool b) j pos) (eC (.bl b)) := pd_c pe_bl fun _ _ => .bl b
theorem pd_non {j} : PD X ct W (.Constant .none j pos) (eC .non) := pd_c pe_non fun _ _ => .non
theorem pd_str {x j} : PD X ct W (.Constant (.str x) j pos) (eC (.str x)) := pd_c pe_str fun _ _ => .str x

/-- what a rule by values wants, from a function on data -/
def OpD (K : PySem.W.Frag) (ct : String → Addr) (r : R2) (g : D → D → Hd → R D) : Prop := ∀ (W : WX) σ io H A x y d e Q, HR K ct io H A → DR K ct io H x d → DR K ct io H y e → Post K ct (DR K ct) W σ io H (g d e A) Q → r x y H Q
def UnD (K : PySem.W.Frag) (ct : String → Addr) (r : V → Hp → VK → Prop) (g : D → Hd → R D) : Prop := ∀ (W : WX) σ io H A x d Q, HR K ct io H A → DR K ct io H x d → Post K ct (DR K ct) W σ io H (g d A) Q → r x H Q
def CaD (K : PySem.W.Frag) (ct : String → Addr) (r : List V → Hp → VK → Prop) (g : List D → Hd → R D) : Prop := ∀ (W : WX) σ io H A xs ds Q, HR K ct io H A → DRs K ct io H xs ds → Post K ct (DR K ct) W σ io H (g ds A) Q → r xs H Q

theorem tOp_D {K : PySem.W.Frag} {r : R2} {g : D → D → Hd → R D} (o : OpD K ct r g) {σ : L2.St} {H : Hp} {Q : VK} (h : tD K ct W (eBin g fa fb) σ H Q) : tOp r (tD K ct W fa) (tD K ct W fb) σ H Q := by
  obtain ⟨io, A, ro, s, p⟩ := h
  refine ⟨io, A, ro, s, (p.bind (rep := DR K ct)).mono ?_⟩
  rintro v H1 ⟨io1, A1, d, e1, h1, r1, p1⟩
  refine ⟨io1, A1, ro, s.mono e1 h1, (p1.bind (rep := DR K ct)).mono ?_⟩
  rintro w H2 ⟨io2, A2, d2, e2, h2, r2, p2⟩
  exact o W σ io2 H2 A2 v w d d2 Q h2 (r1.mono e2 h1.noT) r2 p2
theorem tUn_D {K : PySem.W.Frag} {r : V → Hp → VK → Prop} {g : D → Hd → R D} (o : UnD K ct r g) {σ : L2.St} {H : Hp} {Q : VK} (h : tD K ct W (eUn g fa) σ H Q) : tUn r (tD K ct W fa) σ H Q := by
  obtain ⟨io, A, ro, s, p⟩ := h
  refine ⟨io, A, ro, s, (p.bind (rep := DR K ct)).mono ?_⟩
  rintro v H1 ⟨io1, A1, d, e1, h1, r1, p1⟩
  exact o W σ io1 H1 A1 v d Q h1 r1 p1
theorem tCB_D {K : PySem.W.Frag} {r : List V → Hp → VK → Prop} {g : List D → Hd → R D} (o : CaD K ct r g) {fl : AF} {σ : L2.St} {H : Hp} {Q : VK} (h : tD K ct W (eArgs g fl) σ H Q) : tCB r (tL K ct W fl) σ H Q := by
  obtain ⟨io, A, ro, s, p⟩ := h
  refine ⟨io, A, ro, s, (p.bind (rep := DRs K ct)).mono ?_⟩
  rintro v H1 ⟨io1, A1, d, e1, h1, r1, p1⟩
  exact o W σ io1 H1 A1 v d Q h1 r1 p1

theorem pd_op {op : Operator} {r : R2} {g : D → D → Hd → R D} (ho : OpR X (binaryOp op) r) (o : OpD X.K ct r g) (ha : PD X ct W a fa) (hb : PD X ct W b fb) : PD X ct W (.BinOp a op b pos) (eBin g fa fb) :=
  pe_mono (pe_op ho ha hb) fun _ _ _ h => tOp_D o h
theorem pd_cmp {op : CmpOp} {r : R2} {g : D → D → Hd → R D} (ho : OpR X (compareOp op) r) (o : OpD X.K ct r g) (ha : PD X ct W a fa) (hb : PD X ct W b fb) (hm : behindInMarks op b = false) : PD X ct W (.Compare a [op] [b] pos) (eBin g fa fb) :=
  pe_mono (pe_cmpR ho ha hb hm) fun _ _ _ h => tOp_D o h
theorem pd_un {op : UnaryOp} {r : V → Hp → VK → Prop} {g : D → Hd → R D} (ho : UnR X (unaryOp op) r) (o : UnD X.K ct r g) (ha : PD X ct W a fa) : PD X ct W (.UnaryOp op a pos) (eUn g fa) :=
  pe_mono (pe_un ho ha) fun _ _ _ h => tUn_D o h
theorem pd_ix {r : R2} {g : D → D → Hd → R D} (ho : IxR X r) (o : OpD X.K ct r g) (ha : PD X ct W a fa) (hb : PD X ct W b fb) (hs : PlainIx b) : PD X ct W (.Subscript a b pos) (eBin g fa fb) :=
  pe_mono (pe_ix ho ha hb hs) fun _ _ _ h => tOp_D o h
theorem pd_callB {x : Str} {p : Pos} {es : List Expr} {fl : AF} {id : String} {r : List V → Hp → VK → Prop} {g : List D → Hd → R D} (hc : CallR X (.builtin id) r) (o : CaD X.K ct r g) (hg : Gl X x) (hm : X.mg x = none) (hv : bootBuiltins x = some (.builtin id)) (ha : PDa X ct W (e :: es) fl)
    (hn : x ≠ "__name__" := by decide) (hdb : (x == ("__debug__" : Str)) = false := by decide) (he : starEach (e :: es) X.env = (false, eval e X.env) :: starEach es X.env := by rfl) (hpl : (backTo pos (starEach es X.env)).any (·.1) = false := by rfl) :
    PD X ct W (.Call (.Name x p) (e :: es) [] pos) (eArgs g fl) := pe_mono (pe_callB hc hg hm hv ha hn hdb he hpl) fun _ _ _ h => tCB_D o h
theorem pd_callTy {x : Str} {p : Pos} {es : List Expr} {fl : AF} {T : String} {r : List V → Hp → VK → Prop} {g : List D → Hd → R D} (hc : CallR X (.type T) r) (o : CaD X.K ct r g) (hg : Gl X x) (hm : X.mg x = none) (hv : bootBuiltins x = some (.type T)) (ha : PDa X ct W (e :: es) fl)
    (hn : x ≠ "__name__" := by decide) (hdb : (x == ("__debug__" : Str)) = false := by decide) (he : starEach (e :: es) X.env = (false, eval e X.env) :: starEach es X.env := by rfl) (hpl : (backTo pos (starEach es X.env)).any (·.1) = false := by rfl) :
    PD X ct W (.Call (.Name x p) (e :: es) [] pos) (eArgs g fl) := pe_mono (pe_callTy hc hg hm hv ha hn hdb he hpl) fun _ _ _ h => tCB_D o h

theorem pda_nil : PDa X ct W [] aNil := pa_mono pa_nil fun σ H Q ⟨io, A, ro, s, p⟩ => p.here s.hr .nil
theorem pda_cons {es : List Expr} {fl : AF} (ha : PD X ct W e fa) (hl : PDa X ct W es fl) (he : starEach (e :: es) X.env = (false, eval e X.env) :: starEach es X.env := by rfl) : PDa X ct W (e :: es) (aCons fa fl) :=
  pa_mono (pa_cons ha hl he) fun σ H Q ⟨io, A, ro, s, p⟩ => by
    refine ⟨io, A, ro, s, (p.bind (rep := DR X.K ct)).mono ?_⟩
    rintro v H1 ⟨io1, A1, d, e1, h1, r1, p1⟩
    refine ⟨io1, A1, ro, s.mono e1 h1, (p1.bind (rep := DRs X.K ct)).mono ?_⟩
    rintro w H2 ⟨io2, A2, d2, e2, h2, r2, p2⟩
    exact p2.here h2 (.cons (r1.mono e2 h1.noT) r2)
def tTupF (t : TA) : TE := fun σ H Q => t σ H fun xs H1 => xs.length ≤ sizeLine ∧ ∀ (p : Addr) (o : Obj), o.dict = none → H1 p = none → Q (.ref p) (upd H1 p (.frz o (.tup xs)))
theorem pe_tupF {es : List Expr} {k : Nat} {t : TA} (h : PA X es t) : PE X (.Tuple es k pos) (tTupF t) := by
  refine ⟨fun pins s σ H Q I hq => ?_⟩
  refine wpAny_Tuple_spliced (thn (h.run pos pins s σ H _ I hq) fun us s1 ⟨xs, H1, I1, r, z, q⟩ => ⟨by rw [← r.length]; exact z, ?_⟩)
  have nn : H1 s1.heap.objs.size = none := I1.hok.fresh (Nat.le_refl _)
  have get : (s1.heap.push ({ cls := .type "tuple", data := .seq us.toArray } : Obj)).get? s1.heap.objs.size = some { cls := .type "tuple", data := .seq us.toArray } := Heap.get?_push_size _ rfl
  exact ⟨.ref s1.heap.objs.size, _, I1.laid (t' := s1.toks) (o := .frz { cls := .type "tuple", data := .seq us.toArray } (.tup xs)) (fun b u e => Heap.get?_push_of_some _ e) (Nat.le_refl _) ⟨get, z, us, r, ⟨_, get, rfl, _, rfl⟩⟩, rfl, q _ _ rfl nn⟩
theorem pd_tup {es : List Expr} {k : Nat} {fl : AF} (h : PDa X ct W es fl) : PD X ct W (.Tuple es k pos) (eArgs gTupD fl) :=
  pe_mono (pe_tupF h) fun σ H Q ⟨io, A, ro, s, p⟩ => by
    refine ⟨io, A, ro, s, (p.bind (rep := DRs X.K ct)).mono ?_⟩
    rintro v H1 ⟨io1, A1, d, e1, h1, r1, p1⟩
    unfold gTupD at p1
    split at p1
    · rename_i hz
      exact ⟨by rw [r1.length]; exact hz, fun q o ho hq => p1.new h1 hq (.newTup h1 hq ho r1)⟩
    · exact p1.elim
theorem pd_lst {es : List Expr} {fl : AF} (h : PDa X ct W es fl) : PD X ct W (.List es pos) (eArgs gLstD fl) :=
  pe_mono (pe_lst h) fun σ H Q ⟨io, A, ro, s, p⟩ => by
    refine ⟨io, A, ro, s, (p.bind (rep := DRs X.K ct)).mono ?_⟩
    rintro v H1 ⟨io1, A1, d, e1, h1, r1, p1⟩
    unfold gLstD at p1
    split at p1
    · rename_i hz
      exact ⟨by rw [r1.length]; exact hz, fun q hq => p1.new h1 hq (.newLst h1 hq r1)⟩
    · exact p1.elim

/-! ### a new numbered object -/
theorem Ext.num {io : Io} {H : Hp} {p : Addr} {o : HO} (n : H p = none) : Ext io H (io.add p) (upd H p o) := by
  refine ⟨⟨[p], rfl⟩, fun _ h => h, fun _ h => .inl h, fun b h k => ?_, fun b x e k => ?_, fun b x e => ⟨x, ?_⟩, fun b o u e => by rw [upd_ne (ne_of_none e n)]; exact e⟩
  · rcases List.mem_append.mp h with h | h
    · exact absurd h k
    · rw [List.mem_singleton.mp h]; exact n
  · rw [upd_ne (ne_of_none e n)]; exact e
  · rw [upd_ne (ne_of_none e n)]; exact e
theorem HR.num {K : PySem.W.Frag} {io : Io} {H : Hp} {A : Hd} {p : Addr} {o : HO} {m : M} (h : HR K ct io H A) (n : H p = none) (hm : MR K ct (io.add p) (upd H p o) p m) : HR K ct (io.add p) (upd H p o) (A ++ [m]) := by
  refine ⟨?_, by show (io.nm ++ [p]).length = _; rw [List.length_append, List.length_append, h.len]; rfl, fun k a m' e1 e2 => ?_, fun a ha => ?_⟩
  · show (io.nm ++ [p]).Nodup
    rw [List.nodup_append]
    refine ⟨h.nd, (by simp), fun a ha b hb => ?_⟩
    rw [List.mem_singleton.mp hb]
    rintro rfl
    exact h.ne n (.inl ha)
  · have e1 : (io.nm ++ [p])[k]? = some a := e1
    by_cases hk : k < io.nm.length
    · rw [List.getElem?_append_left hk] at e1
      rw [List.getElem?_append_left (by rw [← h.len]; exact hk)] at e2
      exact (h.at_ k a m' e1 e2).mono (Ext.num n) h.noT fun o' e => by rw [upd_ne (ne_of_none e n)]; exact e
    · rw [List.getElem?_append_right (by omega)] at e1
      rw [List.getElem?_append_right (by rw [← h.len]; omega)] at e2
      have l1 := (List.getElem?_eq_some_iff.mp e1).1
      have hk0 : k - io.nm.length = 0 := by simpa using l1
      have hk1 : k - A.length = 0 := by rw [← h.len]; exact hk0
      rw [hk0] at e1
      rw [hk1] at e2
      cases e1
      cases e2
      exact hm
  · obtain ⟨h1, xs, h2⟩ := h.hid a ha
    have hp : a ≠ p := ne_of_none h2 n
    refine ⟨fun z => ?_, xs, by rw [upd_ne hp]; exact h2⟩
    rcases List.mem_append.mp z with z | z
    · exact h1 z
    · exact hp (List.mem_singleton.mp z)
theorem pd_lstM {es : List Expr} {fl : AF} (h : PDa X ct W es fl) : PD X ct W (.List es pos) (eArgs gLstM fl) :=
  pe_mono (pe_lst h) fun σ H Q ⟨io, A, ro, s, p⟩ => by
    refine ⟨io, A, ro, s, (p.bind (rep := DRs X.K ct)).mono ?_⟩
    rintro v H1 ⟨io1, A1, d, e1, h1, r1, p1⟩
    unfold gLstM at p1
    split at p1
    · rename_i hz
      refine ⟨by rw [r1.length]; exact hz, fun q hq => ?_⟩
      refine p1 _ (io1.add q) _ (Ext.num hq) (h1.num hq ⟨_, upd_same, r1.mono (Ext.num hq) h1.noT⟩) (.ref ?_)
      show (io1.nm ++ [q])[A1.length]? = some q
      rw [← h1.len]
      simp
    · exact p1.elim

/-! ### truth, and, or, not, if -/
theorem tru_D {K : PySem.W.Frag} {io : Io} {H : Hp} {A : Hd} {v : V} {d : D} {b : Bool} (h : HR K ct io H A) (r : DR K ct io H v d) (e : truD d A = some b) : TruV K v H b := by
  cases r with
  | non => cases e; rfl
  | bl c => cases e; rfl
  | int i => cases e; rfl
  | str x =>
    unfold truD at e
    dsimp only at e
    split at e
    · rename_i hz
      cases e
      refine ⟨hz, ?_⟩
      cases hx : x.length with
      | zero => rfl
      | succ n => rfl
    · cases e
  | tup q rs => cases e; exact .inr (.inl ⟨_, q.sq, by rw [rs.isEmpty]⟩)
  | lst n q rs => cases e; exact .inl ⟨_, SqL.of q, by rw [rs.isEmpty]⟩
  | scr q rs => cases e; exact .inl ⟨_, q.sq, by rw [rs.isEmpty]⟩
  | dic n q k rs => cases e; exact .inr (.inr ⟨_, q, by rw [keys_isEmpty k]⟩)
  | ref q =>
    obtain ⟨m, hm⟩ := h.has q
    have mr := h.get q hm
    unfold truD at e
    dsimp only at e
    rw [hm] at e
    cases m with
    | lst ds => cases e; obtain ⟨xs, q1, rs⟩ := mr; exact .inl ⟨_, SqL.of q1, by rw [rs.isEmpty]⟩
    | dic es => cases e; obtain ⟨kvs, q1, k, rs⟩ := mr; exact .inr (.inr ⟨_, q1, by rw [keys_isEmpty k]⟩)
    | ins c fs => cases e
    | exc c fs => cases e
    | tab es => cases e
  | ty n => cases e
  | own n => cases e
theorem gTru_ok {d : D} {A A1 : Hd} {c : Bool} (e : gTru d A = .ok c A1) : truD d A = some c ∧ A1 = A := by
  unfold gTru at e
  cases h : truD d A with
  | none => rw [h] at e; cases e
  | some b => rw [h] at e; cases e; exact ⟨rfl, rfl⟩
theorem gTru_post {α β : Type} {rep : Io → Hp → β → α → Prop} {K : PySem.W.Frag} {σ : L2.St} {io : Io} {H : Hp} {A : Hd} {d : D} {k : Bool → Hd → R α} {Q : β → Hp → Prop} (p : Post K ct rep W σ io H ((gTru d A).bind k) Q) :
    ∃ c, truD d A = some c ∧ Post K ct rep W σ io H (k c A) Q := by
  unfold gTru at p
  cases h : truD d A with
  | none => rw [h] at p; exact p.elim
  | some b => rw [h] at p; exact ⟨b, rfl, p⟩

theorem pdt_truth (h : PD X ct W e fa) (he : ∀ whole, isTrue e X.env whole = (do let v ← whole; standAt e.pos; holding [v] (truthy v)) := by intro _; rfl) : PDt X ct W e (tOfE fa) :=
  pt_mono (pt_truth h he) fun σ H Q ⟨io, A, ro, s, p⟩ => by
    refine ⟨io, A, ro, s, (p.bind (rep := DR X.K ct)).mono ?_⟩
    rintro v H1 ⟨io1, A1, d, e1, h1, r1, p1⟩
    rw [show gTru d A1 = (gTru d A1).bind (fun c A => .ok c A) by cases gTru d A1 <;> rfl] at p1
    obtain ⟨c, hc, p2⟩ := gTru_post p1
    exact ⟨c, tru_D h1 r1 hc, p2.here h1 rfl⟩
theorem pt_of_pe {t : TE} (he : PT X e (tTest t)) {f : EF} (m : ∀ σ H Q, tD X.K ct W f σ H Q → t σ H Q) : PDt X ct W e (fun ro A => (f ro A).bind gBool) :=
  pt_mono he fun σ H Q ⟨io, A, ro, s, p⟩ => m _ _ _ ⟨io, A, ro, s, (p.bind (rep := DR X.K ct)).mono fun v H1 ⟨io1, A1, d, e1, h1, r1, p1⟩ => by
    cases r1 with
    | bl c => exact ⟨c, rfl, p1.here h1 rfl⟩
    | _ => exact p1.elim⟩
def tCmpD (g : D → D → Hd → R D) (a b : EF) : TF := fun ro A => (eBin g a b ro A).bind gBool
theorem pdt_cmp {op : CmpOp} {r : R2} {g : D → D → Hd → R D} (ho : OpR X (compareOp op) r) (o : OpD X.K ct r g) (ha : PD X ct W a fa) (hb : PD X ct W b fb) (hm : behindInMarks op b = false) : PDt X ct W (.Compare a [op] [b] pos) (tCmpD g fa fb) :=
  pt_of_pe (pt_cmpR ho ha hb hm) fun _ _ _ h => tOp_D o h
/-- a < b < c -/
def eChain (g g' : D → D → Hd → R D) (a b c : EF) : EF := fun ro A => (a ro A).bind fun x A1 => (b ro A1).bind fun y A2 => (g x y A2).bind fun z A3 => (gBool z A3).bind fun k A4 =>
  if k then (c ro A4).bind fun w A5 => g' y w A5 else .ok (.bl false) A4
theorem chain_D {K : PySem.W.Frag} {r r' : R2} {g g' : D → D → Hd → R D} (o : OpD K ct r g) (o' : OpD K ct r' g') {fc : EF} {σ : L2.St} {H : Hp} {Q : VK} (h : tD K ct W (eChain g g' fa fb fc) σ H Q) : tChain r r' (tD K ct W fa) (tD K ct W fb) (tD K ct W fc) σ H Q := by
  obtain ⟨io, A, ro, s, p⟩ := h
  refine ⟨io, A, ro, s, (p.bind (rep := DR K ct)).mono ?_⟩
  rintro v H1 ⟨io1, A1, d, e1, h1, r1, p1⟩
  refine ⟨io1, A1, ro, s.mono e1 h1, (p1.bind (rep := DR K ct)).mono ?_⟩
  rintro w H2 ⟨io2, A2, d2, e2, h2, r2, p2⟩
  refine o W σ io2 H2 A2 v w d d2 _ h2 (r1.mono e2 h1.noT) r2 ((p2.bind (rep := DR K ct)).mono ?_)
  rintro z H3 ⟨io3, A3, d3, e3, h3, r3, p3⟩
  cases r3 with
  | bl k =>
    refine ⟨k, rfl, ?_⟩
    cases k with
    | false => exact p3.here h3 (.bl false)
    | true =>
      refine ⟨io3, A3, ro, ((s.mono e1 h1).mono e2 h2).mono e3 h3, (Post.bind (rep := DR K ct) p3).mono ?_⟩
      rintro u H4 ⟨io4, A4, d4, e4, h4, r4, p4⟩
      exact o' W σ io4 H4 A4 w u d2 d4 _ h4 ((r2.mono e3 h2.noT).mono e4 h3.noT) r4 p4
  | _ => exact p3.elim
theorem pd_chain {c : Expr} {fc : EF} {op op' : CmpOp} {r r' : R2} {g g' : D → D → Hd → R D} (ho : OpR X (compareOp op) r) (o : OpD X.K ct r g) (ho' : OpR X (compareOp op') r') (o' : OpD X.K ct r' g') (ha : PD X ct W a fa) (hb : PD X ct W b fb) (hc : PD X ct W c fc) (hm : lastMarks [op, op'] [b, c] = false := by with_unfolding_all rfl) :
    PD X ct W (.Compare a [op, op'] [b, c] pos) (eChain g g' fa fb fc) := pe_mono (pe_chain ho ho' ha hb hc hm) fun _ _ _ h => chain_D o o' h
theorem pdt_chain {c : Expr} {fc : EF} {op op' : CmpOp} {r r' : R2} {g g' : D → D → Hd → R D} (ho : OpR X (compareOp op) r) (o : OpD X.K ct r g) (ho' : OpR X (compareOp op') r') (o' : OpD X.K ct r' g') (ha : PD X ct W a fa) (hb : PD X ct W b fb) (hc : PD X ct W c fc) (hm : lastMarks [op, op'] [b, c] = false := by with_unfolding_all rfl) :
    PDt X ct W (.Compare a [op, op'] [b, c] pos) (fun ro A => (eChain g g' fa fb fc ro A).bind gBool) := pt_of_pe (pt_chain ho ho' ha hb hc hm) fun _ _ _ h => chain_D o o' h

theorem pdt_not (h : PDt X ct W e ft) : PDt X ct W (.UnaryOp .Not e pos) (tNotD ft) :=
  pt_mono (pt_not h) fun σ H Q ⟨io, A, ro, s, p⟩ => ⟨io, A, ro, s, (p.bind (rep := repB)).mono fun c H1 ⟨io1, A1, d, e1, h1, r1, p1⟩ => by
    rw [show c = d from r1]
    exact p1.here h1 rfl⟩
theorem pdw_and1 (h : PDt X ct W e ft) : PDw X ct W (.BoolOp .And [e] pos) ft := pw_and1 h
theorem pdw_or1 (h : PDt X ct W e ft) : PDw X ct W (.BoolOp .Or [e] pos) ft := pw_or1 h
theorem pdw_and {rest : List Expr} (ha : PDt X ct W a ft) (hb : PDw X ct W (.BoolOp .And (b :: rest) pos) fu) : PDw X ct W (.BoolOp .And (a :: b :: rest) pos) (tAndD ft fu) :=
  pw_mono (pw_and ha hb) fun σ H Q ⟨io, A, ro, s, p⟩ => ⟨io, A, ro, s, (p.bind (rep := repB)).mono fun c H1 ⟨io1, A1, d, e1, h1, r1, p1⟩ => by
    rw [show c = d from r1]
    cases d with
    | true => exact ⟨io1, A1, ro, s.mono e1 h1, p1⟩
    | false => exact p1.here h1 rfl⟩
theorem pdw_or {rest : List Expr} (ha : PDt X ct W a ft) (hb : PDw X ct W (.BoolOp .Or (b :: rest) pos) fu) : PDw X ct W (.BoolOp .Or (a :: b :: rest) pos) (tOrD ft fu) :=
  pw_mono (pw_or ha hb) fun σ H Q ⟨io, A, ro, s, p⟩ => ⟨io, A, ro, s, (p.bind (rep := repB)).mono fun c H1 ⟨io1, A1, d, e1, h1, r1, p1⟩ => by
    rw [show c = d from r1]
    cases d with
    | false => exact ⟨io1, A1, ro, s.mono e1 h1, p1⟩
    | true => exact p1.here h1 rfl⟩
theorem pdw_t (h : PDw X ct W e ft) : PDt X ct W e ft := h.pt
theorem pd_and {rest : List Expr} (ha : PD X ct W a fa) (hb : PD X ct W (.BoolOp .And (b :: rest) pos) fb) : PD X ct W (.BoolOp .And (a :: b :: rest) pos) (eAndD fa fb) :=
  pe_mono (pe_andT ha hb) fun σ H Q ⟨io, A, ro, s, p⟩ => ⟨io, A, ro, s, (p.bind (rep := DR X.K ct)).mono fun v H1 ⟨io1, A1, d, e1, h1, r1, p1⟩ => by
    obtain ⟨c, hc, p2⟩ := gTru_post p1
    refine ⟨c, tru_D h1 r1 hc, ?_⟩
    cases c with
    | true => exact ⟨io1, A1, ro, s.mono e1 h1, p2⟩
    | false => exact p2.here h1 r1⟩
theorem pd_or {rest : List Expr} (ha : PD X ct W a fa) (hb : PD X ct W (.BoolOp .Or (b :: rest) pos) fb) : PD X ct W (.BoolOp .Or (a :: b :: rest) pos) (eOrD fa fb) :=
  pe_mono (pe_orT ha hb) fun σ H Q ⟨io, A, ro, s, p⟩ => ⟨io, A, ro, s, (p.bind (rep := DR X.K ct)).mono fun v H1 ⟨io1, A1, d, e1, h1, r1, p1⟩ => by
    obtain ⟨c, hc, p2⟩ := gTru_post p1
    refine ⟨c, tru_D h1 r1 hc, ?_⟩
    cases c with
    | false => exact ⟨io1, A1, ro, s.mono e1 h1, p2⟩
    | true => exact p2.here h1 r1⟩
theorem pd_one {op} (h : PD X ct W a fa) : PD X ct W (.BoolOp op [a] pos) fa := pe_one h
theorem pd_not (ha : PD X ct W a fa) : PD X ct W (.UnaryOp .Not a pos) (eNotD fa) :=
  pe_mono (pe_notT ha) fun σ H Q ⟨io, A, ro, s, p⟩ => ⟨io, A, ro, s, (p.bind (rep := DR X.K ct)).mono fun v H1 ⟨io1, A1, d, e1, h1, r1, p1⟩ => by
    obtain ⟨c, hc, p2⟩ := gTru_post p1
    exact ⟨c, tru_D h1 r1 hc, p2.here h1 (.bl _)⟩⟩
theorem pd_if {c : Expr} (hc : PDt X ct W c ft) (ha : PD X ct W a fa) (hb : PD X ct W b fb) : PD X ct W (.IfExp c a b pos) (eIf ft fa fb) :=
  pe_mono (pe_ifExp hc ha hb) fun σ H Q ⟨io, A, ro, s, p⟩ => ⟨io, A, ro, s, (p.bind (rep := repB)).mono fun k H1 ⟨io1, A1, d, e1, h1, r1, p1⟩ => by
    rw [show k = d from r1]
    cases d with
    | true => exact ⟨io1, A1, ro, s.mono e1 h1, p1⟩
    | false => exact ⟨io1, A1, ro, s.mono e1 h1, p1⟩⟩
end
end DV

set_option Elab.async false
set_option linter.all false
set_option maxRecDepth 100000
/-! DvD: operators, comparisons, subscripts, built-in functions by data. -/
namespace DV
open PySem PySem.Spec PyProof.Rows L2
section
variable {K : PySem.W.Frag} {ct : String → Addr} {io : Io} {H : Hp} {A : Hd}

/-- a list by itself or under its number -/
def asL (A : Hd) : D → Option (List D)
  | .lst ds => some ds
  | .ref n => match A[n]? with
    | some (.lst ds) => some ds
    | _ => none
  | _ => none
theorem asL_ok {v : V} {d : D} {ds : List D} (h : HR K ct io H A) (r : DR K ct io H v d) (e : asL A d = some ds) : ∃ a xs, v = .ref a ∧ H a = some (.lst xs) ∧ DRs K ct io H xs ds := by
  cases r with
  | lst n q rs => cases e; exact ⟨_, _, rfl, q, rs⟩
  | ref q =>
    obtain ⟨m, hm⟩ := h.has q
    have mr := h.get q hm
    unfold asL at e
    dsimp only at e
    rw [hm] at e
    cases m with
    | lst es => cases e; obtain ⟨xs, q1, rs⟩ := mr; exact ⟨_, xs, rfl, q1, rs⟩
    | dic es => cases e
    | ins c fs => cases e
    | exc c fs => cases e
    | tab es => cases e
  | _ => cases e
/-- a list that is read (also the script) -/
def asR (A : Hd) : D → Option (List D)
  | .scr ds => some ds
  | d => asL A d
theorem asR_ok {v : V} {d : D} {ds : List D} (h : HR K ct io H A) (r : DR K ct io H v d) (e : asR A d = some ds) : ∃ a xs, v = .ref a ∧ SqL K H a xs ∧ DRs K ct io H xs ds := by
  by_cases hs : ∃ es, d = .scr es
  · obtain ⟨es, rfl⟩ := hs
    cases e
    cases r with
    | scr q rs => exact ⟨_, _, rfl, q.sq, rs⟩
  · have e' : asL A d = some ds := by
      cases d with
      | scr es => exact absurd ⟨es, rfl⟩ hs
      | _ => exact e
    obtain ⟨a, xs, h1, h2, h3⟩ := asL_ok h r e'
    exact ⟨a, xs, h1, SqL.of h2, h3⟩
/-- a list or tuple that is read -/
def asQ (A : Hd) : D → Option (List D)
  | .tup ds => some ds
  | d => asR A d
theorem asQ_ok {v : V} {d : D} {ds : List D} (h : HR K ct io H A) (r : DR K ct io H v d) (e : asQ A d = some ds) : ∃ a xs, v = .ref a ∧ (SqL K H a xs ∨ SqT K H a xs) ∧ DRs K ct io H xs ds := by
  by_cases hs : ∃ es, d = .tup es
  · obtain ⟨es, rfl⟩ := hs
    cases e
    cases r with
    | tup q rs => exact ⟨_, _, rfl, .inr q.sq, rs⟩
  · have e' : asR A d = some ds := by
      cases d with
      | tup es => exact absurd ⟨es, rfl⟩ hs
      | _ => exact e
    obtain ⟨a, xs, h1, h2, h3⟩ := asR_ok h r e'
    exact ⟨a, xs, h1, .inl h2, h3⟩
def asD (A : Hd) : D → Option (List (Key × D))
  | .dic es => some es
  | .ref n => match A[n]? with
    | some (.dic es) => some es
    | _ => none
  | _ => none
theorem asD_ok {v : V} {d : D} {es : List (Key × D)} (h : HR K ct io H A) (r : DR K ct io H v d) (e : asD A d = some es) : ∃ a kvs, v = .ref a ∧ H a = some (.dK kvs) ∧ kvs.map (·.1) = es.map (·.1) ∧ DRs K ct io H (kvs.map (·.2)) (es.map (·.2)) := by
  cases r with
  | dic n q k rs => cases e; exact ⟨_, _, rfl, q, k, rs⟩
  | ref q =>
    obtain ⟨m, hm⟩ := h.has q
    have mr := h.get q hm
    unfold asD at e
    dsimp only at e
    rw [hm] at e
    cases m with
    | dic es => cases e; obtain ⟨xs, q1, k, rs⟩ := mr; exact ⟨_, xs, rfl, q1, k, rs⟩
    | lst es => cases e
    | ins c fs => cases e
    | exc c fs => cases e
    | tab es => cases e
  | _ => cases e

/-! ### arithmetic -/
def gAdd (d e : D) (A : Hd) : R D := match d, e with
  | .int i, .int j => .ok (.int (i + j)) A
  | .str x, .str y => if x.length + y.length ≤ sizeLine then .ok (.str (x ++ y)) A else .stk
  | .tup xs, .tup ys => if xs.length + ys.length ≤ sizeLine then .ok (.tup (xs ++ ys)) A else .stk
  | d, e => match asL A d, asL A e with
    | some xs, some ys => if xs.length + ys.length ≤ sizeLine then .ok (.lst (xs ++ ys)) A else .stk
    | _, _ => .stk
/-- t + u -/
def rCatF (K : PySem.W.Frag) : R2 := fun x y H Q => ∃ a b xs ys, x = .ref a ∧ y = .ref b ∧ SqT K H a xs ∧ SqT K H b ys ∧ xs.length + ys.length ≤ sizeLine ∧
  (xs = [] → Q (.ref b) H) ∧ (xs ≠ [] → ys = [] → Q (.ref a) H) ∧ (xs ≠ [] → ys ≠ [] → ∀ (p : Addr) (o : Obj), o.dict = none → H p = none → Q (.ref p) (upd H p (.frz o (.tup (xs ++ ys)))))
theorem op_catF {X : Cx} : OpR X (binaryOp .Add) (rCatF X.K) := by
  intro pins s σ H x y v u Q I rx ry h
  obtain ⟨a, b, xs, ys, rfl, rfl, ha, hb, hz, q0, q1, q2⟩ := h
  cases rx
  cases ry
  obtain ⟨its, r1, p1, _⟩ := I.tuple ha
  obtain ⟨its2, r2, p2, _⟩ := I.tuple hb
  by_cases hx : xs = []
  · subst hx
    cases r1
    exact cat_tup0 p1 p2 ⟨.ref b, H, I, rfl, q0 rfl⟩
  · refine HT.cat_tup p1 p2 (fun z => hx (r1.nil_iff.mp z)) (fun z => ⟨.ref a, H, I, rfl, q1 hx (r2.nil_iff.mp z)⟩) (fun z => ?_) (by rw [← r1.length, ← r2.length]; exact hz)
    refine ⟨.ref s.heap.objs.size, _, I.laid (t' := s.toks) (o := .frz { cls := .type "tuple", data := .seq (its ++ its2).toArray } (.tup (xs ++ ys))) (fun b ob q => Heap.get?_push_of_some _ q) (Nat.le_refl _) ?_, rfl, q2 hx (fun w => z (r2.nil_iff.mpr w)) _ _ rfl (I.hok.fresh (Nat.le_refl _))⟩
    exact ⟨Heap.get?_push_size _ rfl, by rw [List.length_append]; exact hz, _, r1.append r2, IsTup.new _ _⟩
abbrev rAddX (K : PySem.W.Frag) : R2 := fun x y H Q => (rI0 (fun i j => .int (i + j)) x y H Q ∨ (∃ i j, x = .str i ∧ y = .str j ∧ i.length + j.length ≤ sizeLine ∧ Q (.str (i ++ j)) H)) ∨ (rCatF K x y H Q ∨ rCat x y H Q)
theorem op_addX {X : Cx} : OpR X (binaryOp .Add) (rAddX X.K) := (op_add.or op_add_str).or (op_catF.or op_cat)
theorem gAdd_ok : OpD K ct (rAddX K) gAdd := by
  intro W σ io H A x y d e Q h rx ry p
  unfold gAdd at p
  split at p
  · cases rx; cases ry
    exact .inl (.inl ⟨_, _, rfl, rfl, p.here h (.int _)⟩)
  · cases rx; cases ry
    split at p
    · rename_i hz
      exact .inl (.inr ⟨_, _, rfl, rfl, hz, p.here h (.str _)⟩)
    · exact p.elim
  · rename_i ds es
    cases rx with
    | @tup a xs _ qx rx =>
      cases ry with
      | @tup b ys _ qy ry =>
        split at p
        · rename_i hz
          refine .inr (.inl ⟨_, _, xs, ys, rfl, rfl, qx.sq, qy.sq, by rw [rx.length, ry.length]; exact hz, fun e0 => ?_, fun _ e0 => ?_, fun _ _ q o ho hq => ?_⟩)
          · subst e0
            cases rx
            exact p.here h (.tup qy ry)
          · subst e0
            cases ry
            rw [List.append_nil] at p
            exact p.here h (.tup qx rx)
          · exact p.new h hq (.newTup h hq ho (rx.append ry))
        · exact p.elim
  · split at p
    · rename_i xs ys h1 h2
      obtain ⟨a, us, rfl, q1, r1⟩ := asL_ok h rx h1
      obtain ⟨b, ws, rfl, q2, r2⟩ := asL_ok h ry h2
      split at p
      · rename_i hz
        exact .inr (.inr ⟨a, b, us, ws, rfl, rfl, q1, q2, by rw [r1.length, r2.length]; exact hz, fun q hq => p.new h hq (.newLst h hq (r1.append r2))⟩)
      · exact p.elim
    · exact p.elim
def gSub (d e : D) (A : Hd) : R D := match d, e with
  | .int i, .int j => .ok (.int (i - j)) A
  | _, _ => .stk
theorem gSub_ok : OpD K ct (rI0 fun i j => .int (i - j)) gSub := by
  intro W σ io H A x y d e Q h rx ry p
  unfold gSub at p
  split at p
  · cases rx; cases ry
    exact ⟨_, _, rfl, rfl, p.here h (.int _)⟩
  · exact p.elim
instance (i j : Int) : Decidable (CMul i j) := by unfold CMul; infer_instance
instance (i j : Int) : Decidable (CPow i j) := by unfold CPow; infer_instance
instance (i j : Int) : Decidable (CDivW i j) := by unfold CDivW; infer_instance
def gMul (d e : D) (A : Hd) : R D := match d, e with
  | .int i, .int j => if CMul i j then .ok (.int (i * j)) A else .stk
  | d, .int k => match asL A d with
    | some xs => if -(2 ^ 63) ≤ k ∧ k < 2 ^ 63 ∧ xs.length * k.toNat ≤ sizeLine then .ok (.lst (List.replicate k.toNat xs).flatten) A else .stk
    | none => .stk
  | _, _ => .stk
abbrev rMulX : R2 := fun x y H Q => rI CMul (fun i j => .int (i * j)) x y H Q ∨ rRep x y H Q
theorem op_mulX {X : Cx} : OpR X (binaryOp .Mult) rMulX := op_mul.or op_rep
theorem DRs.flatrep {vs : List V} {ds : List D} (h : DRs K ct io H vs ds) : ∀ n : Nat, DRs K ct io H (List.replicate n vs).flatten (List.replicate n ds).flatten
  | 0 => .nil
  | n + 1 => by
    rw [List.replicate_succ, List.replicate_succ, List.flatten_cons, List.flatten_cons]
    exact h.append (DRs.flatrep h n)
theorem gMul_ok : OpD K ct rMulX gMul := by
  intro W σ io H A x y d e Q h rx ry p
  unfold gMul at p
  split at p
  · cases rx; cases ry
    split at p
    · rename_i hz
      exact .inl ⟨_, _, rfl, rfl, hz, p.here h (.int _)⟩
    · exact p.elim
  · cases ry
    split at p
    · rename_i xs h1
      obtain ⟨a, us, rfl, q1, r1⟩ := asL_ok h rx h1
      split at p
      · rename_i hz
        exact .inr ⟨a, _, us, rfl, rfl, q1, hz.1, hz.2.1, by rw [r1.length]; exact hz.2.2, fun q hq => p.new h hq (.newLst h hq (r1.flatrep _))⟩
      · exact p.elim
    · exact p.elim
  · exact p.elim
def gDiv (d e : D) (A : Hd) : R D := match d, e with
  | .int i, .int j => if CDivW i j then .ok (.int (i / j)) A else .stk
  | _, _ => .stk
theorem gDiv_ok : OpD K ct (rI CDivW fun i j => .int (i / j)) gDiv := by
  intro W σ io H A x y d e Q h rx ry p
  unfold gDiv at p
  split at p
  · cases rx; cases ry
    split at p
    · rename_i hz
      exact ⟨_, _, rfl, rfl, hz, p.here h (.int _)⟩
    · exact p.elim
  · exact p.elim
def gMod (d e : D) (A : Hd) : R D := match d, e with
  | .int i, .int j => if 0 < j then .ok (.int (i % j)) A else .stk
  | _, _ => .stk
theorem gMod_ok : OpD K ct (rI (fun _ j => 0 < j) fun i j => .int (i % j)) gMod := by
  intro W σ io H A x y d e Q h rx ry p
  unfold gMod at p
  split at p
  · cases rx; cases ry
    split at p
    · rename_i hz
      exact ⟨_, _, rfl, rfl, hz, p.here h (.int _)⟩
    · exact p.elim
  · exact p.elim
def gPow (d e : D) (A : Hd) : R D := match d, e with
  | .int i, .int j => if CPow i j then .ok (.int (i ^ j.toNat)) A else .stk
  | _, _ => .stk
theorem gPow_ok : OpD K ct (rI CPow fun i j => .int (i ^ j.toNat)) gPow := by
  intro W σ io H A x y d e Q h rx ry p
  unfold gPow at p
  split at p
  · cases rx; cases ry
    split at p
    · rename_i hz
      exact ⟨_, _, rfl, rfl, hz, p.here h (.int _)⟩
    · exact p.elim
  · exact p.elim
def gNeg (d : D) (A : Hd) : R D := match d with
  | .int i => .ok (.int (-i)) A
  | _ => .stk
theorem gNeg_ok : UnD K ct (rU fun i => .int (-i)) gNeg := by
  intro W σ io H A x d Q h rx p
  unfold gNeg at p
  split at p
  · cases rx
    exact ⟨_, rfl, p.here h (.int _)⟩
  · exact p.elim

/-! ### comparisons -/
def gLtL (cmpI : Int → Int → Bool) (cmpS : List Nat → List Nat → Bool) (d e : D) (A : Hd) : R D := match d, e with
  | .int i, .int j => .ok (.bl (cmpI i j)) A
  | .str x, .str y => .ok (.bl (cmpS x.cps.toList y.cps.toList)) A
  | _, _ => .stk
abbrev rLtL (cmpI : Int → Int → Bool) (cmpS : List Nat → List Nat → Bool) : R2 := fun x y H Q => rI0 (fun i j => .bl (cmpI i j)) x y H Q ∨ ∃ i j, x = .str i ∧ y = .str j ∧ Q (.bl (cmpS i.cps.toList j.cps.toList)) H
theorem gLtL_ok {cmpI : Int → Int → Bool} {cmpS : List Nat → List Nat → Bool} : OpD K ct (rLtL cmpI cmpS) (gLtL cmpI cmpS) := by
  intro W σ io H A x y d e Q h rx ry p
  unfold gLtL at p
  split at p
  · cases rx; cases ry
    exact .inl ⟨_, _, rfl, rfl, p.here h (.bl _)⟩
  · cases rx; cases ry
    exact .inr ⟨_, _, rfl, rfl, p.here h (.bl _)⟩
  · exact p.elim
abbrev gLt := gLtL (fun i j => decide (i < j)) (fun a b => decide (a < b))
abbrev gLe := gLtL (fun i j => decide (i ≤ j)) (fun a b => !decide (b < a))
abbrev gGt := gLtL (fun i j => decide (j < i)) (fun a b => decide (b < a))
abbrev gGe := gLtL (fun i j => decide (j ≤ i)) (fun a b => !decide (a < b))
theorem op_ltX {X : Cx} : OpR X (compareOp .Lt) (rLtL (fun i j => decide (i < j)) (fun a b => decide (a < b))) := op_lt.or op_lt_str
theorem op_leX {X : Cx} : OpR X (compareOp .LtE) (rLtL (fun i j => decide (i ≤ j)) (fun a b => !decide (b < a))) := op_le.or op_le_str
theorem op_gtX {X : Cx} : OpR X (compareOp .Gt) (rLtL (fun i j => decide (j < i)) (fun a b => decide (b < a))) := op_gt.or op_gt_str
theorem op_geX {X : Cx} : OpR X (compareOp .GtE) (rLtL (fun i j => decide (j ≤ i)) (fun a b => !decide (a < b))) := op_ge.or op_ge_str

mutual
def toP : D → Option PyData
  | .non => some .none
  | .bl b => some (.bool b)
  | .int i => some (.int i)
  | .str s => some (.str s)
  | .tup ds => match toPs ds with
    | some ps => some (.tuple ps)
    | none => none
  | .lst ds => match toPs ds with
    | some ps => some (.list ps)
    | none => none
  | .scr ds => match toPs ds with
    | some ps => some (.list ps)
    | none => none
  | .dic _ => none
  | .ref _ => none
  | .cls _ => none
def toPs : List D → Option (List PyData)
  | [] => some []
  | d :: ds => match toP d, toPs ds with
    | some p, some ps => some (p :: ps)
    | _, _ => none
end
mutual
theorem toP_ok : ∀ {v : V} {d : D} {p : PyData}, DR K ct io H v d → toP d = some p → Dp K H v p
  | _, _, _, .non, e => by unfold toP at e; cases e; exact .non
  | _, _, _, .bl b, e => by unfold toP at e; cases e; exact .bl b
  | _, _, _, .int i, e => by unfold toP at e; cases e; exact .int i
  | _, _, _, .str x, e => by unfold toP at e; cases e; exact .str x
  | _, _, _, .tup q rs, e => by
    unfold toP at e
    split at e
    · rename_i ps h; cases e; exact .tup q.sq (toPs_ok rs h)
    · cases e
  | _, _, _, .lst n q rs, e => by
    unfold toP at e
    split at e
    · rename_i ps h; cases e; exact .lst (SqL.of q) (toPs_ok rs h)
    · cases e
  | _, _, _, .scr q rs, e => by
    unfold toP at e
    split at e
    · rename_i ps h; cases e; exact .lst q.sq (toPs_ok rs h)
    · cases e
  | _, _, _, .dic _ _ _ _, e => by unfold toP at e; cases e
  | _, _, _, .ref _, e => by unfold toP at e; cases e
  | _, _, _, .ty _, e => by unfold toP at e; cases e
  | _, _, _, .own _, e => by unfold toP at e; cases e
theorem toPs_ok : ∀ {vs : List V} {ds : List D} {ps : List PyData}, DRs K ct io H vs ds → toPs ds = some ps → DpAll K H vs ps
  | _, _, _, .nil, e => by unfold toPs at e; cases e; exact .nil
  | _, _, _, .cons r rs, e => by
    unfold toPs at e
    split at e
    · rename_i p ps h1 h2; cases e; exact .cons (toP_ok r h1) (toPs_ok rs h2)
    · cases e
end
/-- a numbered list as the list that it is now -/
def deR (A : Hd) : D → D
  | .ref n => match A[n]? with
    | some (.lst ds) => .lst ds
    | _ => .ref n
  | d => d
theorem deR_ne {d : D} (h : ∀ n, d ≠ .ref n) : deR A d = d := by
  cases d with
  | ref n => exact absurd rfl (h n)
  | _ => rfl
theorem deR_ok {v : V} {d : D} {p : PyData} (h : HR K ct io H A) (r : DR K ct io H v d) (e : toP (deR A d) = some p) : Dp K H v p := by
  by_cases hd : ∃ n, d = .ref n
  · obtain ⟨n, rfl⟩ := hd
    cases r with
    | ref q =>
    obtain ⟨m, hm⟩ := h.has q
    have mr := h.get q hm
    unfold deR at e
    dsimp only at e
    rw [hm] at e
    cases m with
    | lst es =>
      obtain ⟨xs, q1, rs⟩ := mr
      dsimp only at e
      unfold toP at e
      split at e
      · rename_i ps h1; cases e; exact .lst (SqL.of q1) (toPs_ok rs h1)
      · cases e
    | dic es => dsimp only at e; unfold toP at e; cases e
    | ins c fs => dsimp only at e; unfold toP at e; cases e
    | exc c fs => dsimp only at e; unfold toP at e; cases e
    | tab es => dsimp only at e; unfold toP at e; cases e
  · rw [deR_ne fun n z => hd ⟨n, z⟩] at e
    exact toP_ok r e
def eqP (A : Hd) (d e : D) : Option Bool := match toP (deR A d), toP (deR A e) with
  | some p, some q => if SeqAt.shaped p = true ∧ SeqAt.shaped q = true then some (PyData.eqv p q) else none
  | _, _ => none
def gEq (d e : D) (A : Hd) : R D := match d, e with
  | .str x, .str y => .ok (.bl (decide (x = y))) A
  | d, e => match eqP A d e with
    | some b => .ok (.bl b) A
    | none => .stk
def gNe (d e : D) (A : Hd) : R D := match d, e with
  | .str x, .str y => .ok (.bl (!decide (x = y))) A
  | d, e => match eqP A d e with
    | some b => .ok (.bl (!b)) A
    | none => .stk
abbrev rEqX (K : PySem.W.Frag) : R2 := fun x y H Q => rEq x y H Q ∨ rEqD K x y H Q
abbrev rNeX (K : PySem.W.Frag) : R2 := fun x y H Q => rNe x y H Q ∨ rNeD K x y H Q
theorem op_eqX {X : Cx} (hu : X.A.units + 64 < cLine) : OpR X (compareOp .Eq) (rEqX X.K) := op_eq.or (op_eqD hu)
theorem op_neX {X : Cx} (hu : X.A.units + 64 < cLine) : OpR X (compareOp .NotEq) (rNeX X.K) := op_ne.or (op_neD hu)
theorem eqP_ok {x y : V} {d e : D} {b : Bool} (h : HR K ct io H A) (rx : DR K ct io H x d) (ry : DR K ct io H y e) (q : eqP A d e = some b) : ∃ p p', Dp K H x p ∧ Dp K H y p' ∧ SeqAt.shaped p = true ∧ SeqAt.shaped p' = true ∧ b = PyData.eqv p p' := by
  unfold eqP at q
  split at q
  · rename_i p p' h1 h2
    split at q
    · rename_i hs
      cases q
      exact ⟨p, p', deR_ok h rx h1, deR_ok h ry h2, hs.1, hs.2, rfl⟩
    · cases q
  · cases q
theorem str_dec {x y : Str} : decide (V.str x = V.str y) = decide (x = y) := decide_eq_decide.mpr ⟨fun z => V.str.inj z, fun z => by rw [z]⟩
theorem gEq_ok : OpD K ct (rEqX K) gEq := by
  intro W σ io H A x y d e Q h rx ry p
  unfold gEq at p
  split at p
  · cases rx; cases ry
    exact .inl ⟨rfl, p.here h (by rw [str_dec]; exact .bl _)⟩
  · split at p
    · rename_i b hb
      obtain ⟨p1, p2, h1, h2, h3, h4, rfl⟩ := eqP_ok h rx ry hb
      exact .inr ⟨p1, p2, h1, h2, h3, h4, p.here h (.bl _)⟩
    · exact p.elim
theorem gNe_ok : OpD K ct (rNeX K) gNe := by
  intro W σ io H A x y d e Q h rx ry p
  unfold gNe at p
  split at p
  · cases rx; cases ry
    exact .inl ⟨rfl, p.here h (by rw [str_dec]; exact .bl _)⟩
  · split at p
    · rename_i b hb
      obtain ⟨p1, p2, h1, h2, h3, h4, rfl⟩ := eqP_ok h rx ry hb
      exact .inr ⟨p1, p2, h1, h2, h3, h4, p.here h (.bl _)⟩
    · exact p.elim
/-- is None, is not None -/
def isNonD : D → Bool
  | .non => true
  | _ => false
def gIsN (d e : D) (A : Hd) : R D := match e with
  | .non => .ok (.bl (isNonD d)) A
  | _ => .stk
def gNotN (d e : D) (A : Hd) : R D := match e with
  | .non => .ok (.bl (!isNonD d)) A
  | _ => .stk
theorem isN_V {x : V} {d : D} (r : DR K ct io H x d) : decide (x = .non) = isNonD d := by
  cases r <;> first | rfl | exact decide_eq_false (by intro z; cases z)
theorem gIsN_ok : OpD K ct (fun x y H Q => y = .non ∧ Q (.bl (decide (x = .non))) H) gIsN := by
  intro W σ io H A x y d e Q h rx ry p
  unfold gIsN at p
  split at p
  · cases ry
    refine ⟨rfl, p.here h ?_⟩
    rw [isN_V rx]
    exact .bl _
  · exact p.elim
theorem gNotN_ok : OpD K ct (fun x y H Q => y = .non ∧ Q (.bl (!decide (x = .non))) H) gNotN := by
  intro W σ io H A x y d e Q h rx ry p
  unfold gNotN at p
  split at p
  · cases ry
    refine ⟨rfl, p.here h ?_⟩
    rw [isN_V rx]
    exact .bl _
  · exact p.elim

/-! ### in, not in -/
def flatD : D → Bool
  | .non => true
  | .bl _ => true
  | .int _ => true
  | .str _ => true
  | _ => false
/-- == of flat data -/
def eqF : D → D → Bool
  | .non, .non => true
  | .bl a, .bl b => a == b
  | .bl a, .int b => (if a then 1 else 0) == b
  | .int a, .bl b => a == (if b then 1 else 0)
  | .int a, .int b => a == b
  | .str a, .str b => a == b
  | _, _ => false
theorem flat_V {x : V} {d : D} (r : DR K ct io H x d) (f : flatD d = true) : flatV x = true := by
  cases r <;> first | rfl | cases f
theorem eqF_V {x y : V} {d e : D} (rx : DR K ct io H x d) (ry : DR K ct io H y e) (fd : flatD d = true) (fe : flatD e = true) : eqV x y = eqF d e := by
  cases rx <;> first | cases fd; done | (cases ry <;> first | rfl | cases fe)
theorem flatAll_V : ∀ {xs : List V} {ds : List D}, DRs K ct io H xs ds → ds.all flatD = true → xs.all flatV = true
  | _, _, .nil, _ => rfl
  | _, _, .cons r rs, f => by
    rw [List.all_cons, Bool.and_eq_true] at f
    rw [List.all_cons, flat_V r f.1, flatAll_V rs f.2]
    rfl
def memF (d : D) (ds : List D) : Bool := ds.any fun e => eqF e d
theorem memF_V {x : V} {d : D} (r : DR K ct io H x d) (f : flatD d = true) : ∀ {xs : List V} {ds : List D}, DRs K ct io H xs ds → ds.all flatD = true → inV x xs = memF d ds
  | _, _, .nil, _ => rfl
  | _, _, .cons q qs, g => by
    rw [List.all_cons, Bool.and_eq_true] at g
    have ih := memF_V r f qs g.2
    have e1 := eqF_V q r g.1 f
    show (eqV _ x || inV x _) = (eqF _ d || memF d _)
    rw [e1, ih]
/-- d in e for a text of one sign in a text, a flat value in a list or tuple of flat values -/
def inP (d e : D) (A : Hd) : Option Bool := match d, e with
  | .str x, .str z => match x.cps.toList with
    | [c] => some (decide (c ∈ z.cps.toList))
    | _ => none
  | d, e => match asQ A e with
    | some ds => if flatD d = true ∧ ds.all flatD = true then some (memF d ds) else none
    | none => none
def gIn (d e : D) (A : Hd) : R D := match inP d e A with
  | some b => .ok (.bl b) A
  | none => .stk
def gNotIn (d e : D) (A : Hd) : R D := match inP d e A with
  | some b => .ok (.bl (!b)) A
  | none => .stk
abbrev rInX (K : PySem.W.Frag) (neg : Bool) : R2 := fun x y H Q => (∃ (c : Nat) (z : Str), x = .str ⟨#[c]⟩ ∧ y = .str z ∧ Q (.bl (if neg then !decide (c ∈ z.cps.toList) else decide (c ∈ z.cps.toList))) H) ∨ rIn K neg x y H Q
theorem op_inX {X : Cx} : OpR X (compareOp .In) (rInX X.K false) := op_in_sign.or op_in_seq
theorem op_notInX {X : Cx} : OpR X (compareOp .NotIn) (rInX X.K true) := op_notIn_sign.or op_notIn_seq
theorem inP_ok {neg b : Bool} {x y : V} {d e : D} {Q : VK} (h : HR K ct io H A) (rx : DR K ct io H x d) (ry : DR K ct io H y e) (q : inP d e A = some b) (hQ : Q (.bl (if neg then !b else b)) H) : rInX K neg x y H Q := by
  unfold inP at q
  split at q
  · rename_i x z
    cases rx; cases ry
    split at q
    · rename_i c hc
      cases q
      refine .inl ⟨c, z, ?_, rfl, hQ⟩
      have : x = ⟨#[c]⟩ := by
        cases x with
        | mk a =>
          have : a = #[c] := Array.toList_inj.mp hc
          rw [this]
      rw [this]
    · cases q
  · split at q
    · rename_i ds hd
      split at q
      · rename_i hf
        cases q
        obtain ⟨a, xs, rfl, hs, rs⟩ := asQ_ok h ry hd
        refine .inr ⟨a, xs, rfl, hs, flat_V rx hf.1, flatAll_V rs hf.2, ?_⟩
        rw [memF_V rx hf.1 rs hf.2]
        exact hQ
      · cases q
    · cases q
theorem gIn_ok : OpD K ct (rInX K false) gIn := by
  intro W σ io H A x y d e Q h rx ry p
  unfold gIn at p
  split at p
  · rename_i b hb
    exact inP_ok h rx ry hb (p.here h (.bl _))
  · exact p.elim
theorem gNotIn_ok : OpD K ct (rInX K true) gNotIn := by
  intro W σ io H A x y d e Q h rx ry p
  unfold gNotIn at p
  split at p
  · rename_i b hb
    exact inP_ok h rx ry hb (p.here h (.bl _))
  · exact p.elim

/-! ### subscripts -/
theorem DRs.atI {xs : List V} {ds : List D} (h : DRs K ct io H xs ds) {i : Int} {d : D} (e : atI ds i = some d) : ∃ v, L2.atI xs i = some v ∧ DR K ct io H v d := by
  unfold L2.atI at e ⊢
  rw [h.length]
  cases q : ixN ds.length i with
  | none => rw [q] at e; cases e
  | some j =>
    rw [q] at e
    obtain ⟨v, h1, h2⟩ := h.get e
    exact ⟨v, h1, h2⟩
def gIx (d e : D) (A : Hd) : R D := match d, e with
  | .str z, .int i => if z.length ≤ sizeLine then (match L2.atI z.cps.toList i with | some c => .ok (.str ⟨#[c]⟩) A | none => .stk) else .stk
  | d, .int i => match asQ A d with
    | some ds => match L2.atI ds i with
      | some x => .ok x A
      | none => .stk
    | none => .stk
  | _, _ => .stk
theorem gIx_ok : OpD K ct (rIx K) gIx := by
  intro W σ io H A x y d e Q h rx ry p
  unfold gIx at p
  split at p
  · cases rx; cases ry
    split at p
    · rename_i hz
      split at p
      · rename_i c hc
        exact .inr (.inr ⟨_, _, c, rfl, rfl, hz, hc, p.here h (.str _)⟩)
      · exact p.elim
    · exact p.elim
  · cases ry
    split at p
    · rename_i ds hd
      split at p
      · rename_i z hz
        obtain ⟨a, xs, rfl, hs, rs⟩ := asQ_ok h rx hd
        obtain ⟨v, h1, h2⟩ := rs.atI hz
        rcases hs with hs | hs
        · exact .inl ⟨a, xs, _, v, rfl, rfl, hs, h1, p.here h h2⟩
        · exact .inr (.inl ⟨a, xs, _, v, rfl, rfl, hs, h1, p.here h h2⟩)
      · exact p.elim
    · exact p.elim
  · exact p.elim

/-! ### slices -/
def cutD (xs : List D) (lo hi : Option Int) : List D := (xs.drop (HT.sIx xs.length 0 lo)).take (HT.sIx xs.length xs.length hi - HT.sIx xs.length 0 lo)
theorem DRs.cut {xs : List V} {ds : List D} (h : DRs K ct io H xs ds) (lo hi : Option Int) : DRs K ct io H (cutV xs lo hi) (cutD ds lo hi) := by
  unfold cutV cutD
  rw [h.length]
  exact (h.drop _).take _
def gCut (d : D) (lo hi : Option Int) (A : Hd) : R D := match d with
  | .str z => if z.length ≤ sizeLine then .ok (.str (cutS z lo hi)) A else .stk
  | .tup ds => .ok (.tup (cutD ds lo hi)) A
  | d => match asR A d with
    | some ds => .ok (.lst (cutD ds lo hi)) A
    | none => .stk
/-- t[lo:hi]: the whole of it is t itself -/
def rSlF (K : PySem.W.Frag) : V → Option Int → Option Int → Hp → VK → Prop := fun x lo hi H Q => ∃ a xs, x = .ref a ∧ SqT K H a xs ∧
  (HT.sIx xs.length 0 lo = 0 ∧ HT.sIx xs.length xs.length hi = xs.length → Q (.ref a) H) ∧
  (¬ (HT.sIx xs.length 0 lo = 0 ∧ HT.sIx xs.length xs.length hi = xs.length) → ∀ (p : Addr) (o : Obj), o.dict = none → H p = none → Q (.ref p) (upd H p (.frz o (.tup (cutV xs lo hi)))))
theorem sl_tupF {X : Cx} : SlR X (rSlF X.K) := by
  intro pins s σ H x v vl vu lo hi sl Q I rx hs pl pu h
  obtain ⟨a, xs, rfl, hx, q1, q2⟩ := h
  cases rx
  obtain ⟨its, r, ht, hz⟩ := I.tuple hx
  have hlen : its.toArray.size = xs.length := by rw [List.size_toArray]; exact r.length.symm
  refine ⟨"tuple", _, PyProof.Rows.slot_tuple_getitem.lookup, ht.typeIs, ?_⟩
  by_cases hw : HT.sIx xs.length 0 lo = 0 ∧ HT.sIx xs.length xs.length hi = xs.length
  · exact getItem_tuple_whole ht hs pl pu (by rw [hlen]; exact hw) ⟨.ref a, H, I, rfl, q1 hw⟩
  · refine HT.getItem_tuple_cut ht hs pl pu (by rw [hlen]; exact hw) ?_ (by rw [hlen]; exact hz)
    rw [hlen]
    refine ⟨.ref s.heap.objs.size, _, I.laid (t' := s.toks) (o := .frz { cls := .type "tuple", data := .seq (List.take (HT.sIx xs.length xs.length hi - HT.sIx xs.length 0 lo) (List.drop (HT.sIx xs.length 0 lo) its.toArray.toList)).toArray } (.tup (cutV xs lo hi))) (fun b ob q => Heap.get?_push_of_some _ q) (Nat.le_refl _) ?_, rfl, q2 hw _ _ rfl (I.hok.fresh (Nat.le_refl _))⟩
    exact ⟨Heap.get?_push_size _ rfl, Nat.le_trans (cutV_length xs lo hi) hz, _, (r.drop (HT.sIx xs.length 0 lo)).take (HT.sIx xs.length xs.length hi - HT.sIx xs.length 0 lo), IsTup.new _ _⟩
abbrev rCutX (K : PySem.W.Frag) : V → Option Int → Option Int → Hp → VK → Prop := fun x lo hi H Q => rSlL K x lo hi H Q ∨ (rSlF K x lo hi H Q ∨ rSlS x lo hi H Q)
theorem sl_X {X : Cx} : SlR X (rCutX X.K) := sl_list.or (sl_tupF.or sl_str)
theorem gCut_ok {W : WX} {σ : L2.St} {x : V} {d : D} {lo hi : Option Int} {Q : VK} (h : HR K ct io H A) (rx : DR K ct io H x d) (p : Post K ct (DR K ct) W σ io H (gCut d lo hi A) Q) : rCutX K x lo hi H Q := by
  unfold gCut at p
  split at p
  · cases rx
    split at p
    · rename_i hz
      exact .inr (.inr ⟨_, rfl, hz, p.here h (.str _)⟩)
    · exact p.elim
  · rename_i ds
    cases rx with
    | @tup a xs _ qx rx =>
      refine .inr (.inl ⟨a, xs, rfl, qx.sq, fun hw => ?_, fun _ q o ho hq => p.new h hq (.newTup h hq ho (rx.cut lo hi))⟩)
      have e : cutD ds lo hi = ds := by
        unfold cutD
        rw [← rx.length, hw.1, hw.2]
        simp [rx.length]
      rw [e] at p
      exact p.here h (.tup qx rx)
  · split at p
    · rename_i ds hd
      obtain ⟨a, xs, rfl, hs, rs⟩ := asR_ok h rx hd
      exact .inl ⟨a, xs, rfl, hs, fun q hq => p.new h hq (.newLst h hq (rs.cut lo hi))⟩
    · exact p.elim
end

/-- a part of a slice -/
abbrev OF := Env → Hd → R (Option Int)
def oNone : OF := fun _ A => .ok none A
def oSome (a : EF) : OF := fun ro A => (a ro A).bind fun d A1 => match d with
  | .int i => .ok (some i) A1
  | _ => .stk
abbrev repO : Io → Hp → Option Int → Option Int → Prop := fun _ _ b a => b = a
def tO (K : PySem.W.Frag) (ct : String → Addr) (W : WX) (f : OF) : TO := fun σ H Q => ∃ io A ro, Sta K ct ro A io σ H ∧ Post K ct repO W σ io H (f ro A) Q
def eCut (a : EF) (lo hi : OF) : EF := fun ro A => (a ro A).bind fun d A1 => (lo ro A1).bind fun l A2 => (hi ro A2).bind fun u A3 => gCut d l u A3
section
variable {X : Cx} {ct : String → Addr} {W : WX} {e a b : Expr} {pos : Pos} {fa fb : EF} {ft fu : TF} {fl : AF}
theorem po_mono {e : Option Expr} {t t' : TO} (h : PO X e t) (m : ∀ σ H Q, t' σ H Q → t σ H Q) : PO X e t' := ⟨fun pins s σ H Q I q => h.run pins s σ H Q I (m _ _ _ q)⟩
theorem pdo_none : PO X none (tO X.K ct W oNone) := po_mono po_none fun σ H Q ⟨io, A, ro, s, p⟩ => p.here s.hr rfl
theorem pdo_some (h : PD X ct W e fa) : PO X (some e) (tO X.K ct W (oSome fa)) := po_mono (po_some h) fun σ H Q ⟨io, A, ro, s, p⟩ => ⟨io, A, ro, s, (p.bind (rep := DR X.K ct)).mono fun v H1 ⟨io1, A1, d, e1, h1, r1, p1⟩ => by
  cases r1 with
  | int i => exact ⟨i, rfl, p1.here h1 rfl⟩
  | _ => exact p1.elim⟩
theorem pd_cut {lo hi : Option Expr} {fl fh : OF} {p2 : Pos} (ha : PD X ct W a fa) (hl : PO X lo (tO X.K ct W fl)) (hh : PO X hi (tO X.K ct W fh)) : PD X ct W (.Subscript a (.Slice lo hi none p2) pos) (eCut fa fl fh) :=
  pe_mono (pe_slice sl_X ha hl hh) fun σ H Q ⟨io, A, ro, s, p⟩ => ⟨io, A, ro, s, (p.bind (rep := DR X.K ct)).mono fun v H1 ⟨io1, A1, d, e1, h1, r1, p1⟩ =>
    ⟨io1, A1, ro, s.mono e1 h1, (p1.bind (rep := repO)).mono fun l H2 ⟨io2, A2, l', e2, h2, r2, p2⟩ =>
      ⟨io2, A2, ro, (s.mono e1 h1).mono e2 h2, (p2.bind (rep := repO)).mono fun u H3 ⟨io3, A3, u', e3, h3, r3, p3⟩ => by
        rw [show l = l' from r2, show u = u' from r3]
        exact gCut_ok h3 ((r1.mono e2 h1.noT).mono e3 h2.noT) p3⟩⟩⟩

/-! ### dicts: d[k], k in d -/
def valD (es : List (Key × D)) (k : Key) : Option D := (es.find? fun kv => decide (kv.1 = k)).map (·.2)
/-- a key of a dict -/
def keyD : D → Option Key
  | .int i => some (.inl i)
  | .str x => some (.inr x)
  | _ => none
theorem keyD_ok {K : PySem.W.Frag} {io : Io} {H : Hp} {v : V} {d : D} {k : Key} (r : DR K ct io H v d) (e : keyD d = some k) : v = kV k := by
  cases r <;> first | (cases e; rfl) | cases e
theorem valD_ok {K : PySem.W.Frag} {io : Io} {H : Hp} (k : Key) : ∀ {kvs : List (Key × V)} {es : List (Key × D)}, kvs.map (·.1) = es.map (·.1) → DRs K ct io H (kvs.map (·.2)) (es.map (·.2)) →
    match valD es k with
    | some d => ∃ v, valV kvs k = some v ∧ DR K ct io H v d
    | none => valV kvs k = none
  | [], [], _, _ => rfl
  | [], _ :: _, e, _ => by cases e
  | _ :: _, [], e, _ => by cases e
  | p :: kvs, q :: es, e, r => by
    rw [List.map_cons, List.map_cons] at e r
    have e1 : p.1 = q.1 := (List.cons.inj e).1
    cases r with
    | cons r rs =>
      have ih := valD_ok k (List.cons.inj e).2 rs
      by_cases hk : q.1 = k
      · have h1 : valD (q :: es) k = some q.2 := by simp [valD, List.find?_cons, hk]
        rw [h1]
        exact ⟨p.2, valV_pos (e1.trans hk), r⟩
      · have h1 : valD (q :: es) k = valD es k := by simp [valD, List.find?_cons, hk]
        have h2 : valV (p :: kvs) k = valV kvs k := valV_neg fun z => hk (e1.symm.trans z)
        rw [h1, h2]
        exact ih
def gSubD (d e : D) (A : Hd) : R D := match asD A d, keyD e with
  | some es, some k => match valD es k with
    | some x => .ok x A
    | none => .stk
  | _, _ => gIx d e A
theorem asD_not {A : Hd} {d : D} {es : List (Key × D)} (h : asD A d = some es) (e : D) : gIx d e A = .stk := by
  cases d with
  | dic _ => cases e <;> rfl
  | ref n =>
    unfold asD at h
    dsimp only at h
    cases hm : A[n]? with
    | none => rw [hm] at h; cases h
    | some m =>
      rw [hm] at h
      cases m with
      | dic _ => cases e <;> first | rfl | (unfold gIx asQ asR asL; simp only [hm])
      | lst _ => cases h
      | ins _ _ => cases h
      | exc _ _ => cases h
      | tab _ => cases h
  | _ => cases h
theorem pd_sub (hu : X.A.units + 1 < cLine) (ha : PD X ct W a fa) (hb : PD X ct W b fb) (hs : PlainIx b) (hn : NoSl b) : PD X ct W (.Subscript a b pos) (eBin gSubD fa fb) := by
  have h1 := pe_ix (pos := pos) (X := X) ix_seq ha hb hs
  have h2 := pe_dget (pos := pos) hu ha hb hn
  refine ⟨fun pins s σ H Q I h => ?_⟩
  obtain ⟨io, A, ro, st, p⟩ := h
  -- what both give is known; the kind of the first decides
  by_cases hd : ∃ d A1 e A2 es, fa ro A = .ok d A1 ∧ fb ro A1 = .ok e A2 ∧ asD A2 d = some es
  · obtain ⟨d, A1, e, A2, es, q1, q2, q3⟩ := hd
    refine h2.run pins s σ H Q I ⟨io, A, ro, st, ?_⟩
    unfold eBin at p
    rw [q1, R.bind_ok, q2, R.bind_ok] at p
    rw [q1]
    intro v io1 H1 e1 hr1 r1
    refine ⟨io1, A1, ro, st.mono e1 hr1, ?_⟩
    rw [q2]
    intro w io2 H2 e2 hr2 r2
    have p := Post.ext (e1.trans e2) p
    unfold gSubD at p
    rw [q3] at p
    obtain ⟨b, kvs, rfl, hb1, hk, hrs⟩ := asD_ok hr2 (r1.mono e2 hr1.noT) q3
    cases hkd : keyD e with
    | none =>
      rw [hkd] at p
      dsimp only at p
      rw [asD_not q3] at p
      exact p.elim
    | some k =>
      rw [hkd] at p
      dsimp only at p
      have ew := keyD_ok r2 hkd
      subst ew
      have hv := valD_ok k hk hrs
      cases hx : valD es k with
      | none => rw [hx] at p; exact p.elim
      | some x =>
        rw [hx] at p hv
        obtain ⟨v', g1, g2⟩ := hv
        exact ⟨b, v', rfl, by rw [← g1]; exact DGet.k hb1, p.here hr2 g2⟩
  · refine h1.run pins s σ H Q I ⟨io, A, ro, st, ?_⟩
    unfold eBin at p
    cases q1 : fa ro A with
    | stk => rw [q1] at p; exact p.elim
    | err c fs A' => rw [q1] at p; exact p
    | ok d A1 =>
      rw [q1, R.bind_ok] at p
      intro v io1 H1 e1 hr1 r1
      refine ⟨io1, A1, ro, st.mono e1 hr1, ?_⟩
      cases q2 : fb ro A1 with
      | stk => rw [q2] at p; exact p.elim
      | err c fs A' => rw [q2] at p; exact Post.ext e1 p
      | ok e A2 =>
        rw [q2, R.bind_ok] at p
        intro w io2 H2 e2 hr2 r2
        have p := Post.ext (e1.trans e2) p
        have g : gSubD d e A2 = gIx d e A2 := by
          unfold gSubD
          cases q3 : asD A2 d with
          | none => rfl
          | some es => exact absurd ⟨d, A1, e, A2, es, q1, q2, q3⟩ hd
        rw [g] at p
        exact gIx_ok W σ io2 H2 A2 v w d e Q hr2 (r1.mono e2 hr1.noT) r2 p
end
end DV

set_option Elab.async false
set_option linter.all false
set_option maxRecDepth 100000
/-! DvE: built-in functions by data. -/
namespace DV
open PySem PySem.Spec PyProof.Rows L2
section
variable {K : PySem.W.Frag} {ct : String → Addr} {io : Io} {H : Hp} {A : Hd}
/-! ### len -/
def gLen (ds : List D) (A : Hd) : R D := match ds with
  | [.str x] => if x.length ≤ sizeLine then .ok (.int x.length) A else .stk
  | [d] => match asQ A d with
    | some es => .ok (.int es.length) A
    | none => match asD A d with
      | some es => .ok (.int es.length) A
      | none => .stk
  | _ => .stk
abbrev rLenX (K : PySem.W.Frag) : List V → Hp → VK → Prop := fun xs H Q => (∃ x n, xs = [x] ∧ LenV K x H n ∧ Q (.int n) H) ∨ ∃ a kvs, xs = [V.ref a] ∧ H a = some (.dK kvs) ∧ Q (.int kvs.length) H
theorem call_lenX {X : Cx} : CallR X (.builtin "len") (rLenX X.K) := call_len.or call_lenD
theorem gLen_ok : CaD K ct (rLenX K) gLen := by
  intro W σ io H A xs ds Q h r p
  unfold gLen at p
  split at p
  · cases r with
    | cons r rs =>
    cases r; cases rs
    split at p
    · rename_i hz
      exact .inl ⟨_, _, rfl, ⟨hz, rfl⟩, p.here h (.int _)⟩
    · exact p.elim
  · cases r with
    | cons r rs =>
    cases rs
    split at p
    · rename_i es he
      obtain ⟨a, us, rfl, hs, hr⟩ := asQ_ok h r he
      refine .inl ⟨_, us.length, rfl, ?_, by rw [hr.length]; exact p.here h (.int _)⟩
      rcases hs with hs | hs
      · exact .inl ⟨us, hs, rfl⟩
      · exact .inr ⟨us, hs, rfl⟩
    · split at p
      · rename_i es he
        obtain ⟨a, kvs, rfl, hs, hk, hr⟩ := asD_ok h r he
        refine .inr ⟨a, kvs, rfl, hs, ?_⟩
        have e : kvs.length = es.length := by
          have := congrArg List.length hk
          simpa using this
        rw [e]
        exact p.here h (.int _)
      · exact p.elim
  · exact p.elim

/-! ### isinstance, one built-in class -/
def tyD (A : Hd) : D → Option String
  | .non => some "NoneType"
  | .bl _ => some "bool"
  | .int _ => some "int"
  | .str _ => some "str"
  | .tup _ => some "tuple"
  | .lst _ => some "list"
  | .scr _ => some "list"
  | .dic _ => some "dict"
  | .ref n => match A[n]? with
    | some (.lst _) => some "list"
    | some (.dic _) => some "dict"
    | _ => none
  | .cls _ => none
theorem tyD_ok {v : V} {d : D} {T : String} (h : HR K ct io H A) (r : DR K ct io H v d) (e : tyD A d = some T) : TyX K H v (.type T) := by
  cases r with
  | non => cases e; exact .base .non
  | bl b => cases e; exact .base (.bl b)
  | int i => cases e; exact .base (.int i)
  | str x => cases e; exact .base (.str x)
  | tup q rs =>
    cases e
    rcases q.sq with (q | ⟨o, q⟩) | ⟨o, its, n, q, qc, _⟩
    · exact .base (.tup q)
    · exact .fTuple q
    · exact .kTuple q qc
  | lst n q rs => cases e; exact .base (.lst q)
  | scr q rs =>
    cases e
    rcases q with ⟨_, o, q⟩ | ⟨o, its, n, q, qc, _⟩
    · exact .base (.frz q)
    · exact .kList q qc
  | dic n q k rs => cases e; exact .base (.dK q)
  | ref q =>
    obtain ⟨m, hm⟩ := h.has q
    have mr := h.get q hm
    unfold tyD at e
    dsimp only at e
    rw [hm] at e
    cases m with
    | lst ds => cases e; obtain ⟨xs, q1, rs⟩ := mr; exact .base (.lst q1)
    | dic es => cases e; obtain ⟨kvs, q1, k, rs⟩ := mr; exact .base (.dK q1)
    | ins c fs => cases e
    | exc c fs => cases e
    | tab es => cases e
  | ty n => cases e
  | own n => cases e
/-- isinstance among the built-in classes that are met -/
def isaB (t T : String) : Option Bool :=
  if (["NoneType", "bool", "int", "str", "tuple", "list", "dict"] : List String).contains t ∧ (["int", "str", "tuple", "list", "dict", "bool"] : List String).contains T then some (t == T || (t == "bool" && T == "int")) else none
theorem isaB_ok {t T : String} {b : Bool} (e : isaB t T = some b) : PySem.W.kitOne K (.type t) (.type T) = some b := by
  refine kit_ty ?_
  unfold isaB at e
  split at e
  · rename_i hc
    have all : ∀ t ∈ (["NoneType", "bool", "int", "str", "tuple", "list", "dict"] : List String), ∀ T ∈ (["int", "str", "tuple", "list", "dict", "bool"] : List String), kitB t T = some (t == T || (t == "bool" && T == "int")) := by decide +kernel
    rw [← e]
    exact all t (by simpa using hc.1) T (by simpa using hc.2)
  · cases e
def gIsa (ds : List D) (A : Hd) : R D := match ds with
  | [d, .cls (.bi T)] => match tyD A d with
    | some t => match isaB t T with
      | some b => .ok (.bl b) A
      | none => .stk
    | none => .stk
  | _ => .stk
theorem gIsa_ok : CaD K ct (rIsi K) gIsa := by
  intro W σ io H A xs ds Q h r p
  unfold gIsa at p
  split at p
  · rename_i d T
    cases r with
    | cons r rs =>
    cases rs with
    | cons r2 rs =>
    cases rs
    cases r2
    split at p
    · rename_i t ht
      split at p
      · rename_i b hb
        exact ⟨_, _, _, _, b, rfl, .ty T, tyD_ok h r ht, isaB_ok hb, p.here h (.bl _)⟩
      · exact p.elim
    · exact p.elim
  · exact p.elim

/-! ### all, any of a list of bools -/
def boolsD : List D → Option (List Bool)
  | [] => some []
  | .bl b :: r => match boolsD r with
    | some bs => some (b :: bs)
    | none => none
  | _ :: _ => none
theorem boolsD_ok : ∀ {vs : List V} {ds : List D} {bs : List Bool}, DRs K ct io H vs ds → boolsD ds = some bs → vs = bs.map V.bl
  | _, _, _, .nil, e => by cases e; rfl
  | _, _, _, .cons r rs, e => by
    cases r with
    | bl b =>
      unfold boolsD at e
      split at e
      · rename_i bs h1
        cases e
        rw [boolsD_ok rs h1]
        rfl
      · cases e
    | _ => cases e
def gAll (ds : List D) (A : Hd) : R D := match ds with
  | [d] => match asR A d with
    | some es => match boolsD es with
      | some bs => .ok (.bl (bs.all id)) A
      | none => .stk
    | none => .stk
  | _ => .stk
def gAny (ds : List D) (A : Hd) : R D := match ds with
  | [d] => match asR A d with
    | some es => match boolsD es with
      | some bs => .ok (.bl (bs.any id)) A
      | none => .stk
    | none => .stk
  | _ => .stk
theorem gAll_ok : CaD K ct (rAll K) gAll := by
  intro W σ io H A xs ds Q h r p
  unfold gAll at p
  split at p
  · cases r with
    | cons r rs =>
    cases rs
    split at p
    · rename_i es he
      split at p
      · rename_i bs hb
        obtain ⟨a, us, rfl, hs, hr⟩ := asR_ok h r he
        have e := boolsD_ok hr hb
        subst e
        exact ⟨a, bs, rfl, hs, p.here h (.bl _)⟩
      · exact p.elim
    · exact p.elim
  · exact p.elim
theorem gAny_ok : CaD K ct (rAny K) gAny := by
  intro W σ io H A xs ds Q h r p
  unfold gAny at p
  split at p
  · cases r with
    | cons r rs =>
    cases rs
    split at p
    · rename_i es he
      split at p
      · rename_i bs hb
        obtain ⟨a, us, rfl, hs, hr⟩ := asR_ok h r he
        have e := boolsD_ok hr hb
        subst e
        exact ⟨a, bs, rfl, hs, p.here h (.bl _)⟩
      · exact p.elim
    · exact p.elim
  · exact p.elim

/-! ### tuple(x), list(x) -/
def gTuple (ds : List D) (A : Hd) : R D := match ds with
  | [.tup es] => .ok (.tup es) A
  | [d] => match asR A d with
    | some es => .ok (.tup es) A
    | none => .stk
  | _ => .stk
def rTupleX (K : PySem.W.Frag) : List V → Hp → VK → Prop := fun xs H Q => ∃ p ys, xs = [.ref p] ∧ ((SqL K H p ys ∧ ∀ (l : Addr) (o : Obj), o.dict = none → H l = none → Q (.ref l) (upd H l (.frz o (.tup ys)))) ∨ (SqT K H p ys ∧ Q (.ref p) H))
theorem call_tupleF {X : Cx} : CallR X (.type "tuple") (rTupleX X.K) := by
  intro pins s σ H x us Q I r h
  obtain ⟨p, ys, rfl, h⟩ := h
  obtain ⟨u, rfl, rx⟩ := vals1 r
  cases rx
  rcases h with ⟨hq, q⟩ | ⟨hq, q⟩
  · obtain ⟨its, r', pl, hz⟩ := I.list hq
    have hlen := r'.length
    refine call_tuple_list pl.isList (fun h' kp => ?_) (by simp only [List.size_toArray] <;> omega)
    have I1 : Inv X pins σ H { s with heap := h' } := I.kept (t' := s.toks) kp
    have get : (h'.push ({ cls := .type "tuple", data := .seq its.toArray } : Obj)).get? h'.objs.size = some { cls := .type "tuple", data := .seq its.toArray } := Heap.get?_push_size _ rfl
    exact ⟨.ref h'.objs.size, _, I1.laid (t' := s.toks) (o := .frz { cls := .type "tuple", data := .seq its.toArray } (.tup ys)) (fun b o e => Heap.get?_push_of_some _ e) (Nat.le_refl _) ⟨get, hz, its, r', IsTup.new _ _⟩, rfl, q _ _ rfl (I1.hok.fresh (Nat.le_refl _))⟩
  · obtain ⟨its, r', pl, hz⟩ := I.tuple hq
    exact call_tuple_same pl ⟨.ref p, H, I, rfl, q⟩
theorem gTuple_ok : CaD K ct (rTupleX K) gTuple := by
  intro W σ io H A xs ds Q h r p
  unfold gTuple at p
  split at p
  · cases r with
    | cons r rs =>
    cases rs
    cases r with
    | tup q hr => exact ⟨_, _, rfl, .inr ⟨q.sq, p.here h (.tup q hr)⟩⟩
  · cases r with
    | cons r rs =>
    cases rs
    split at p
    · rename_i es he
      obtain ⟨a, us, rfl, hs, hr⟩ := asR_ok h r he
      exact ⟨a, us, rfl, .inl ⟨hs, fun l o ho hl => p.new h hl (.newTup h hl ho hr)⟩⟩
    · exact p.elim
  · exact p.elim
def gListD (ds : List D) (A : Hd) : R D := match ds with
  | [d] => match asQ A d with
    | some es => .ok (.lst es) A
    | none => .stk
  | _ => .stk
def gListM (ds : List D) (A : Hd) : R D := match ds with
  | [d] => match asQ A d with
    | some es => .ok (.ref A.length) (A ++ [.lst es])
    | none => .stk
  | _ => .stk
abbrev rListX (K : PySem.W.Frag) : List V → Hp → VK → Prop := fun xs H Q => ∃ p ys, xs = [.ref p] ∧ (SqL K H p ys ∨ SqT K H p ys) ∧ ∀ l, H l = none → Q (.ref l) (upd H l (.lst ys))
theorem gListD_ok : CaD K ct (rListX K) gListD := by
  intro W σ io H A xs ds Q h r p
  unfold gListD at p
  split at p
  · cases r with
    | cons r rs =>
    cases rs
    split at p
    · rename_i es he
      obtain ⟨a, us, rfl, hs, hr⟩ := asQ_ok h r he
      exact ⟨a, us, rfl, hs, fun l hl => p.new h hl (.newLst h hl hr)⟩
    · exact p.elim
  · exact p.elim
theorem Post.num {W : WX} {σ : L2.St} {m : M} {p : Addr} {o : HO} {Q : VK} (q : Post K ct (DR K ct) W σ io H (.ok (.ref A.length) (A ++ [m])) Q) (h : HR K ct io H A) (n : H p = none) (hm : MR K ct (io.add p) (upd H p o) p m) : Q (.ref p) (upd H p o) :=
  q _ (io.add p) _ (Ext.num n) (h.num n hm) (.ref (by show (io.nm ++ [p])[A.length]? = some p; rw [← h.len]; simp))
theorem gListM_ok : CaD K ct (rListX K) gListM := by
  intro W σ io H A xs ds Q h r p
  unfold gListM at p
  split at p
  · cases r with
    | cons r rs =>
    cases rs
    split at p
    · rename_i es he
      obtain ⟨a, us, rfl, hs, hr⟩ := asQ_ok h r he
      exact ⟨a, us, rfl, hs, fun l hl => p.num h hl ⟨_, upd_same, hr.mono (Ext.num hl) h.noT⟩⟩
    · exact p.elim
  · exact p.elim

/-! ### min, max of two ints -/
def gMin2 (ds : List D) (A : Hd) : R D := match ds with
  | [.int i, .int j] => .ok (.int (if j < i then j else i)) A
  | _ => .stk
def gMax2 (ds : List D) (A : Hd) : R D := match ds with
  | [.int i, .int j] => .ok (.int (if j > i then j else i)) A
  | _ => .stk
theorem gMin2_ok : CaD K ct (fun xs H Q => ∃ i j, xs = [.int i, .int j] ∧ Q (.int (if j < i then j else i)) H) gMin2 := by
  intro W σ io H A xs ds Q h r p
  unfold gMin2 at p
  split at p
  · cases r with
    | cons r rs =>
    cases rs with
    | cons r2 rs =>
    cases rs; cases r; cases r2
    exact ⟨_, _, rfl, p.here h (.int _)⟩
  · exact p.elim
theorem gMax2_ok : CaD K ct (fun xs H Q => ∃ i j, xs = [.int i, .int j] ∧ Q (.int (if j > i then j else i)) H) gMax2 := by
  intro W σ io H A xs ds Q h r p
  unfold gMax2 at p
  split at p
  · cases r with
    | cons r rs =>
    cases rs with
    | cons r2 rs =>
    cases rs; cases r; cases r2
    exact ⟨_, _, rfl, p.here h (.int _)⟩
  · exact p.elim

/-! ### repr of data without dicts -/
mutual
theorem Dp.noDict {v : V} : ∀ {p : PyData}, Dp K H v p → p.hasDict = false
  | _, .non => rfl
  | _, .bl _ => rfl
  | _, .int _ => rfl
  | _, .str _ => rfl
  | _, .lst _ hs => by unfold PyData.hasDict; exact DpAll.noDict hs
  | _, .tup _ hs => by unfold PyData.hasDict; exact DpAll.noDict hs
theorem DpAll.noDict {vs : List V} : ∀ {ps : List PyData}, DpAll K H vs ps → PyData.hasDictAll ps = false
  | _, .nil => rfl
  | _, .cons h hs => by unfold PyData.hasDictAll; rw [Dp.noDict h, DpAll.noDict hs]; rfl
end
def rRepr (K : PySem.W.Frag) : List V → Hp → VK → Prop := fun xs H Q => ∃ x p, xs = [x] ∧ Dp K H x p ∧ p.showable = true ∧ p.depth ≤ 60 ∧ p.shown.length ≤ sizeLine ∧ Q (.str p.shown) H
theorem call_repr {X : Cx} (hg : X.A.guards = some []) (hu : X.A.units + 64 < cLine) : CallR X (.builtin "repr") (rRepr X.K) := by
  intro pins s σ H xs us Q I r h
  obtain ⟨x, p, rfl, hd, hs, hdp, hz, q⟩ := h
  obtain ⟨u, rfl, rx⟩ := vals1 r
  obtain ⟨as, rd⟩ := Dp.reads I p x u hd rx
  cases hd with
  | non => cases rx; exact PySem.P.repr_of_none ⟨.str _, H, I.tok _, ⟨_, rfl⟩, q⟩
  | bl b => cases rx; exact PySem.P.repr_of_bool ⟨.str _, H, I.tok _, ⟨_, rfl⟩, q⟩
  | int i =>
    obtain ⟨t, rfl⟩ := rx
    refine PySem.P.repr_of_int (by simpa [PyData.showable] using hs) ⟨.str _, H, I.tok _, ⟨_, rfl⟩, q⟩
  | str z =>
    obtain ⟨t, rfl⟩ := rx
    exact PySem.P.repr_of_str ⟨.str _, H, I.tok _, ⟨_, rfl⟩, q⟩ hz
  | lst h1 h2 =>
    cases rx
    refine repr_of_reads' rd hs (PyData.noDict_hsm (Dp.noDict (.lst h1 h2))) hg (by omega) (fun _ _ e => e) (fun h' u tk hk => ?_) hz
    exact ⟨.str _, H, I.kept (t' := tk) hk, ⟨_, rfl⟩, q⟩
  | tup h1 h2 =>
    cases rx
    refine repr_of_reads' rd hs (PyData.noDict_hsm (Dp.noDict (.tup h1 h2))) hg (by omega) (fun _ _ e => e) (fun h' u tk hk => ?_) hz
    exact ⟨.str _, H, I.kept (t' := tk) hk, ⟨_, rfl⟩, q⟩
def gRepr (ds : List D) (A : Hd) : R D := match ds with
  | [d] => match toP (deR A d) with
    | some p => if p.showable = true ∧ p.depth ≤ 60 ∧ p.shown.length ≤ sizeLine then .ok (.str p.shown) A else .stk
    | none => .stk
  | _ => .stk
theorem gRepr_ok : CaD K ct (rRepr K) gRepr := by
  intro W σ io H A xs ds Q h r p
  unfold gRepr at p
  split at p
  · cases r with
    | cons r rs =>
    cases rs
    split at p
    · rename_i q hq
      split at p
      · rename_i hc
        exact ⟨_, q, rfl, deR_ok h r hq, hc.1, hc.2.1, hc.2.2, p.here h (.str _)⟩
      · exact p.elim
    · exact p.elim
  · exact p.elim
end
end DV

set_option Elab.async false
set_option linter.all false
set_option maxRecDepth 100000
/-! DvF: statements by data. -/
namespace DV
open PySem PySem.Spec PyProof.Rows L2

inductive Fl where
  | nx | ret (d : D) | bk | ct
inductive Out where
  | go (f : Fl) (ro : Env) (A : Hd) | err (c : Cl) (fs : List (Str × D)) (ro : Env) (A : Hd) | stk
abbrev SF := Env → Hd → Out

section
variable (K : PySem.W.Frag) (ct : String → Addr)
def SPost (W : WX) (io : Io) (H : Hp) (o : Out) (Z : Ends) : Prop := match o with
  | .go .nx ro A => ∀ σ' io' H', Ext io H io' H' → Sta K ct ro A io' σ' H' → Z.nx σ' H'
  | .go .bk ro A => ∀ σ' io' H', Ext io H io' H' → Sta K ct ro A io' σ' H' → Z.bk σ' H'
  | .go .ct ro A => ∀ σ' io' H', Ext io H io' H' → Sta K ct ro A io' σ' H' → Z.ct σ' H'
  | .go (.ret d) ro A => ∀ v io' H', Ext io H io' H' → HR K ct io' H' A → DR K ct io' H' v d → Z.rt v H'
  | .err c fs ro A => ∀ cls dd σ' io' H', Ext io H io' H' → Sta K ct ro A io' σ' H' → XR K ct io' H' c fs cls dd → W cls dd σ' H'
  | .stk => False
def tS (W : WX) (f : SF) : TS := fun Z σ H => ∃ io A ro, Sta K ct ro A io σ H ∧ SPost K ct W io H (f ro A) Z
end
/-- an expression, then a statement's rest -/
def R.then {α : Type} (r : R α) (ro : Env) (k : α → Hd → Out) : Out := match r with
  | .ok a A => k a A
  | .err c fs A => .err c fs ro A
  | .stk => .stk
@[simp] theorem R.then_ok {α : Type} (a : α) (A : Hd) (ro : Env) (k : α → Hd → Out) : (R.ok a A).then ro k = k a A := rfl
@[simp] theorem R.then_err {α : Type} (c : Cl) (fs : List (Str × D)) (A : Hd) (ro : Env) (k : α → Hd → Out) : (R.err c fs A : R α).then ro k = .err c fs ro A := rfl
@[simp] theorem R.then_stk {α : Type} (ro : Env) (k : α → Hd → Out) : (R.stk : R α).then ro k = .stk := rfl
/-- a statement, then the rest of the block -/
def Out.next (o : Out) (k : Env → Hd → Out) : Out := match o with
  | .go .nx ro A => k ro A
  | o => o
@[simp] theorem Out.next_nx (ro : Env) (A : Hd) (k : Env → Hd → Out) : (Out.go .nx ro A).next k = k ro A := rfl
@[simp] theorem Out.next_bk (ro : Env) (A : Hd) (k : Env → Hd → Out) : (Out.go .bk ro A).next k = .go .bk ro A := rfl
@[simp] theorem Out.next_ct (ro : Env) (A : Hd) (k : Env → Hd → Out) : (Out.go .ct ro A).next k = .go .ct ro A := rfl
@[simp] theorem Out.next_ret (d : D) (ro : Env) (A : Hd) (k : Env → Hd → Out) : (Out.go (.ret d) ro A).next k = .go (.ret d) ro A := rfl
@[simp] theorem Out.next_err (c : Cl) (fs : List (Str × D)) (ro : Env) (A : Hd) (k : Env → Hd → Out) : (Out.err c fs ro A).next k = .err c fs ro A := rfl
@[simp] theorem Out.next_stk (k : Env → Hd → Out) : (Out.stk).next k = .stk := rfl

section
variable {K : PySem.W.Frag} {ct : String → Addr} {W : WX} {σ : L2.St} {io io' : Io} {H H' : Hp} {A A' : Hd} {ro : Env} {Z Z' : Ends}
theorem SPost.ext {o : Out} (e : Ext io H io' H') (h : SPost K ct W io H o Z) : SPost K ct W io' H' o Z := by
  cases o with
  | go f ro A => cases f with
    | nx => exact fun s i h' e2 => h s i h' (e.trans e2)
    | bk => exact fun s i h' e2 => h s i h' (e.trans e2)
    | ct => exact fun s i h' e2 => h s i h' (e.trans e2)
    | ret d => exact fun s i h' e2 => h s i h' (e.trans e2)
  | err c fs ro A => exact fun c d s i h' e2 => h c d s i h' (e.trans e2)
  | stk => exact h
theorem SPost.mono {o : Out} (h : SPost K ct W io H o Z) (h1 : ∀ σ H, Z.nx σ H → Z'.nx σ H) (h2 : ∀ v H, Z.rt v H → Z'.rt v H) (h3 : ∀ σ H, Z.bk σ H → Z'.bk σ H) (h4 : ∀ σ H, Z.ct σ H → Z'.ct σ H) : SPost K ct W io H o Z' := by
  cases o with
  | go f ro A => cases f with
    | nx => exact fun s i h' e q => h1 _ _ (h s i h' e q)
    | bk => exact fun s i h' e q => h3 _ _ (h s i h' e q)
    | ct => exact fun s i h' e q => h4 _ _ (h s i h' e q)
    | ret d => exact fun s i h' e q r => h2 _ _ (h s i h' e q r)
  | err c fs ro A => exact h
  | stk => exact h
/-- the value comes, then the rest -/
theorem Post.then {α β : Type} {rep : Io → Hp → β → α → Prop} {r : R α} {k : α → Hd → Out} (s : Sta K ct ro A io σ H) (h : SPost K ct W io H (r.then ro k) Z) :
    Post K ct rep W σ io H r (fun b H1 => ∃ io1 A1 a, Ext io H io1 H1 ∧ Sta K ct ro A1 io1 σ H1 ∧ rep io1 H1 b a ∧ SPost K ct W io1 H1 (k a A1) Z) := by
  cases r with
  | ok a A1 => exact fun b io1 H1 e h1 r => ⟨io1, A1, a, e, s.mono e h1, r, SPost.ext e h⟩
  | err c fs A1 => exact fun cls dd io1 H1 e h1 x => h cls dd σ io1 H1 e (s.mono e h1) x
  | stk => exact h
theorem SPost.next {o : Out} {k : Env → Hd → Out} (h : SPost K ct W io H (o.next k) Z) : SPost K ct W io H o { Z with nx := fun σ' H' => ∃ io1 A1 ro1, Sta K ct ro1 A1 io1 σ' H' ∧ SPost K ct W io1 H' (k ro1 A1) Z } := by
  cases o with
  | go f ro A => cases f with
    | nx => exact fun s i h' e q => ⟨i, A, ro, q, SPost.ext e h⟩
    | bk => exact h
    | ct => exact h
    | ret d => exact h
  | err c fs ro A => exact h
  | stk => exact h
end

section
variable (X : Cx) (ct : String → Addr) (W : WX)
abbrev PSD (st : Stmt) (f : SF) : Prop := PS X st (tS X.K ct W f)
abbrev PSsD (st : List Stmt) (f : SF) : Prop := PSs X st (tS X.K ct W f)
end
theorem ps_mono {X : Cx} {e : Stmt} {t t' : TS} (h : PS X e t) (m : ∀ Z σ H, t' Z σ H → t Z σ H) : PS X e t' := ⟨fun pins s σ H Q I q => h.run pins s σ H Q I (m _ _ _ q)⟩
theorem pss_mono {X : Cx} {e : List Stmt} {t t' : TS} (h : PSs X e t) (m : ∀ Z σ H, t' Z σ H → t Z σ H) : PSs X e t' := ⟨fun pins s σ H Q I q => h.run pins s σ H Q I (m _ _ _ q)⟩

def sNx : SF := fun ro A => .go .nx ro A
def sSeq (a b : SF) : SF := fun ro A => (a ro A).next b
def sEx (a : EF) : SF := fun ro A => (a ro A).then ro fun _ A1 => .go .nx ro A1
def sRet (a : EF) : SF := fun ro A => (a ro A).then ro fun d A1 => .go (.ret d) ro A1
def sRetN : SF := fun ro A => .go (.ret .non) ro A
def sIf (c : TF) (a b : SF) : SF := fun ro A => (c ro A).then ro fun k A1 => if k then a ro A1 else b ro A1
def sBk : SF := fun ro A => .go .bk ro A
def sCt : SF := fun ro A => .go .ct ro A
/-- where a value goes -/
abbrev GF := D → Env → Hd → R Env
def gNm (i : Nat) : GF := fun d ro A => .ok (ro.set i (some d)) A
def gTs : List GF → List D → Env → Hd → R Env
  | [], [], ro, A => .ok ro A
  | g :: gs, d :: ds, ro, A => (g d ro A).bind fun ro A => gTs gs ds ro A
  | _, _, _, _ => .stk
def gTpl (gs : List GF) : GF := fun d ro A => match d with
  | .tup ds => if ds.length = gs.length then gTs gs ds ro A else .stk
  | _ => .stk
/-- a target's end, no error served -/
def R.out (r : R Env) : Out := match r with
  | .ok ro A => .go .nx ro A
  | _ => .stk
def sAsg (a : EF) (g : GF) : SF := fun ro A => (a ro A).then ro fun d A1 => (g d ro A1).out

section
variable {X : Cx} {ct : String → Addr} {W : WX} {e a b : Expr} {pos : Pos} {fa fb : EF} {ft fu : TF} {fl : AF} {st : Stmt} {sts : List Stmt} {fs gs : SF}
theorem pssd_nil : PSsD X ct W [] sNx := pss_mono pss_nil fun Z σ H ⟨io, A, ro, s, p⟩ => p σ io H Ext.refl s
theorem pssd_cons (h : PSD X ct W st fs) (r : PSsD X ct W sts gs) : PSsD X ct W (st :: sts) (sSeq fs gs) := pss_mono (pss_cons h r) fun Z σ H ⟨io, A, ro, s, p⟩ => ⟨io, A, ro, s, p.next⟩
theorem pssd_one (h : PSD X ct W st fs) : PSsD X ct W [st] fs := pss_one h
theorem psd_pass : PSD X ct W (.Pass pos) sNx := ps_mono ps_pass fun Z σ H ⟨io, A, ro, s, p⟩ => p σ io H Ext.refl s
theorem psd_break : PSD X ct W (.Break pos) sBk := ps_mono ps_break fun Z σ H ⟨io, A, ro, s, p⟩ => p σ io H Ext.refl s
theorem psd_continue : PSD X ct W (.Continue pos) sCt := ps_mono ps_continue fun Z σ H ⟨io, A, ro, s, p⟩ => p σ io H Ext.refl s
theorem psd_expr (h : PD X ct W e fa) (hs : swapsWith e none pos.line X.env = pure false := by rfl) : PSD X ct W (.Expr e pos) (sEx fa) := ps_mono (ps_expr h hs) fun Z σ H ⟨io, A, ro, s, p⟩ =>
  ⟨io, A, ro, s, (Post.then (rep := DR X.K ct) s p).mono fun v H1 ⟨io1, A1, d, e1, s1, r, q⟩ => q σ io1 H1 Ext.refl s1⟩
theorem psd_ret (h : PD X ct W e fa) : PSD X ct W (.Return (some e) pos) (sRet fa) := ps_mono (ps_ret h) fun Z σ H ⟨io, A, ro, s, p⟩ =>
  ⟨io, A, ro, s, (Post.then (rep := DR X.K ct) s p).mono fun v H1 ⟨io1, A1, d, e1, s1, r, q⟩ => q v io1 H1 Ext.refl s1.hr r⟩
theorem psd_retN : PSD X ct W (.Return none pos) sRetN := ps_mono ps_retN fun Z σ H ⟨io, A, ro, s, p⟩ => p .non io H Ext.refl s.hr .non
theorem psd_if {c : Expr} {xs ys : List Stmt} (hc : PDt X ct W c ft) (hx : PSsD X ct W xs fs) (hy : PSsD X ct W ys gs) : PSD X ct W (.If c xs ys pos) (sIf ft fs gs) := ps_mono (ps_if hc hx hy) fun Z σ H ⟨io, A, ro, s, p⟩ =>
  ⟨io, A, ro, s, (Post.then (rep := repB) s p).mono fun k H1 ⟨io1, A1, d, e1, s1, r, q⟩ => by
    rw [show k = d from r]
    cases d with
    | true => exact ⟨io1, A1, ro, s1, q⟩
    | false => exact ⟨io1, A1, ro, s1, q⟩⟩

/-- where a value goes, by data -/
def GPost (K : PySem.W.Frag) (ct : String → Addr) (io : Io) (H : Hp) (r : R Env) (Q : L2.St → Hp → Prop) : Prop := match r with
  | .ok ro A => ∀ σ' io' H', Ext io H io' H' → Sta K ct ro A io' σ' H' → Q σ' H'
  | _ => False
def tG (K : PySem.W.Frag) (ct : String → Addr) (g : GF) : TG := fun v σ H Q => ∃ io A ro d, Sta K ct ro A io σ H ∧ DR K ct io H v d ∧ GPost K ct io H (g d ro A) Q
def tGs (K : PySem.W.Frag) (ct : String → Addr) (g : List D → Env → Hd → R Env) : TGs := fun vs σ H Q => ∃ io A ro ds, Sta K ct ro A io σ H ∧ DRs K ct io H vs ds ∧ GPost K ct io H (g ds ro A) Q
abbrev PGD (X : Cx) (ct : String → Addr) (e : Expr) (g : GF) : Prop := PG X e (tG X.K ct g)
abbrev PGsD (X : Cx) (ct : String → Addr) (e : List Expr) (g : List GF) : Prop := PGs X e (tGs X.K ct (gTs g))
theorem pg_mono {X : Cx} {e : Expr} {t t' : TG} (h : PG X e t) (m : ∀ v σ H Q, t' v σ H Q → t v σ H Q) : PG X e t' := ⟨fun pins s σ H v u Q I r q => h.run pins s σ H v u Q I r (m _ _ _ _ q)⟩
theorem pgs_mono {X : Cx} {e : List Expr} {t t' : TGs} (h : PGs X e t) (m : ∀ v σ H Q, t' v σ H Q → t v σ H Q) : PGs X e t' := ⟨fun pins s σ H v u Q I r q => h.run pins s σ H v u Q I r (m _ _ _ _ q)⟩
theorem GPost.ext {K : PySem.W.Frag} {io io' : Io} {H H' : Hp} {r : R Env} {Q : L2.St → Hp → Prop} (e : Ext io H io' H') (h : GPost K ct io H r Q) : GPost K ct io' H' r Q := by
  cases r with
  | ok ro A => exact fun s i h' e2 => h s i h' (e.trans e2)
  | err c fs A => exact h
  | stk => exact h
theorem pgd_name {i : Nat} {x : Str} (hN : X.N.Nodup) (hi : X.N[i]? = some x) (hx : Loc X.env.scope x) (hf : X.fn x = true ∨ X.env.scope.names.lookup x = some .local := by first | exact .inl rfl | exact .inr rfl | assumption) : PGD X ct (.Name x pos) (gNm i) :=
  pg_mono (pg_name hN hi hx hf) fun v σ H Q ⟨io, A, ro, d, s, r, p⟩ => p _ io H Ext.refl ⟨s.hr, s.env.set r⟩
theorem pgsd_nil : PGsD X ct [] [] := pgs_mono pgs_nil fun vs σ H Q ⟨io, A, ro, ds, s, r, p⟩ => by
  cases r with
  | nil => exact ⟨rfl, p σ io H Ext.refl s⟩
  | cons _ _ => exact p.elim
theorem pgsd_cons {es : List Expr} {g : GF} {gl : List GF} (h : PGD X ct e g) (hr : PGsD X ct es gl) (hs : (assignEach (e :: es) X.env).map (·.2) = assign e X.env :: (assignEach es X.env).map (·.2) := by rfl) : PGsD X ct (e :: es) (g :: gl) :=
  pgs_mono (pgs_cons h hr hs) fun vs σ H Q ⟨io, A, ro, ds, s, r, p⟩ => by
    cases r with
    | nil => exact p.elim
    | @cons v vs d ds r rs =>
      refine ⟨v, vs, rfl, io, A, ro, d, s, r, ?_⟩
      have p : GPost X.K ct io H ((g d ro A).bind fun ro A => gTs gl ds ro A) Q := p
      cases hg : g d ro A with
      | ok ro1 A1 => rw [hg] at p; exact fun σ1 io1 H1 e1 s1 => ⟨io1, A1, ro1, ds, s1, rs.mono e1 s.hr.noT, GPost.ext e1 p⟩
      | err c fs A1 => rw [hg] at p; exact p
      | stk => rw [hg] at p; exact p
theorem pgd_tup {es : List Expr} {k : Nat} {gl : List GF} (hc : X.calm = true) (h : PGsD X ct es gl) (hn : (assignEach es X.env).length = gl.length := by rfl) (hst : (assignEach es X.env).findIdx? (·.1) = none := by rfl) : PGD X ct (.Tuple es k pos) (gTpl gl) :=
  pg_mono (pg_tup hc h hn hst) fun v σ H Q ⟨io, A, ro, d, s, r, p⟩ => by
    unfold gTpl at p
    split at p
    · rename_i ds
      split at p
      · rename_i hl
        cases r with
        | tup q rs => exact ⟨_, _, rfl, q.sq, by rw [rs.length]; exact hl, io, A, ro, ds, s, rs, p⟩
      · exact p.elim
    · exact p.elim
theorem out_post {K : PySem.W.Frag} {io : Io} {H : Hp} {r : R Env} {Z : Ends} (h : SPost K ct W io H r.out Z) : GPost K ct io H r Z.nx := by
  cases r with
  | ok ro A => exact h
  | err c fs A => exact h
  | stk => exact h
theorem psd_asg {tg : Expr} {g : GF} (he : PD X ct W e fa) (hg : PGD X ct tg g) (hs : swapsWithSole [tg] e pos.line X.env = pure false := by rfl) (hw : swappedStores [tg] e X.env = pure none := by rfl)
    (h1 : (assignEach [tg] X.env).map (·.2) = [assign tg X.env] := by rfl) : PSD X ct W (.Assign [tg] e pos) (sAsg fa g) :=
  ps_mono (ps_asg he hg hs hw h1) fun Z σ H ⟨io, A, ro, s, p⟩ =>
    ⟨io, A, ro, s, (Post.then (rep := DR X.K ct) s p).mono fun v H1 ⟨io1, A1, d, e1, s1, r, q⟩ => ⟨io1, A1, ro, d, s1, r, out_post q⟩⟩
theorem psd_set {i : Nat} {x : Str} {pos' : Pos} (hN : X.N.Nodup) (hi : X.N[i]? = some x) (hx : Loc X.env.scope x) (he : PD X ct W e fa) (hs : swapsWith e (some (.Name x pos')) pos.line X.env = pure false := by rfl) (hf : X.fn x = true ∨ X.env.scope.names.lookup x = some .local := by first | exact .inl rfl | exact .inr rfl | assumption) :
    PSD X ct W (.Assign [.Name x pos'] e pos) (sAsg fa (gNm i)) :=
  ps_mono (ps_set hN hi hx he hs hf) fun Z σ H ⟨io, A, ro, s, p⟩ =>
    ⟨io, A, ro, s, (Post.then (rep := DR X.K ct) s p).mono fun v H1 ⟨io1, A1, d, e1, s1, r, q⟩ => q _ io1 H1 Ext.refl ⟨s1.hr, s1.env.set r⟩⟩

/-- x, y = a, b (and three), plain names: one after another by their places -/
def sPar (a : AF) (is : List Nat) : SF := fun ro A => (a ro A).then ro fun ds A1 => if ds.length = is.length then .go .nx ((is.zip ds).foldl (fun ro p => ro.set p.1 (some p.2)) ro) A1 else .stk
theorem psd_par {i j : Nat} {x y : Str} {px py pt : Pos} {kt k2 pt2} (hc : X.calm = true) (hN : X.N.Nodup) (hi : X.N[i]? = some x) (hj : X.N[j]? = some y) (hij : i ≠ j)
    (hx : X.env.scope.names.lookup x = some .local) (hy : X.env.scope.names.lookup y = some .local) (ha : PDa X ct W [a, b] fl)
    (hw : swappedStores [.Tuple [.Name x px, .Name y py] kt pt] (.Tuple [a, b] k2 pt2) X.env = pure (some [x, y]))
    (hs : swapsWithSole [.Tuple [.Name x px, .Name y py] kt pt] (.Tuple [a, b] k2 pt2) pos.line X.env = pure false := by rfl) :
    PSD X ct W (.Assign [.Tuple [.Name x px, .Name y py] kt pt] (.Tuple [a, b] k2 pt2) pos) (sPar fl [i, j]) :=
  ps_mono (ps_par hc hN hi hj hij hx hy ha hw hs) fun Z σ H ⟨io, A, ro, s, p⟩ =>
    ⟨io, A, ro, s, (Post.then (rep := DRs X.K ct) s p).mono fun v H1 ⟨io1, A1, d, e1, s1, r, q⟩ => by
      split at q
      · cases r with
        | nil => rename_i hl; cases hl
        | cons r rs => cases rs with
          | nil => rename_i hl; cases hl
          | cons r2 rs => cases rs with
            | nil => exact ⟨_, _, rfl, q _ io1 H1 Ext.refl ⟨s1.hr, (s1.env.set r).set r2⟩⟩
            | cons _ _ => rename_i hl; cases hl
      · exact q.elim⟩
end
end DV

set_option Elab.async false
set_option linter.all false
set_option maxRecDepth 100000
/-! DvG: what changes: stores by place, op= , methods of lists; loops. -/
namespace DV
open PySem PySem.Spec PyProof.Rows L2
section
variable {K : PySem.W.Frag} {ct : String → Addr} {W : WX} {σ : L2.St} {io io' : Io} {H H' : Hp} {A A' : Hd} {ro : Env}
/-- what stands there is not locked -/
theorem nfz {a : Addr} {u0 : HO} (e : H a = some u0) (n : ∀ o u, u0 ≠ .frz o u) : ∀ o u, H a ≠ some (.frz o u) := fun o u z => n o u (by rw [e] at z; exact Option.some.inj z)
theorem nfzL {a : Addr} {xs : List V} (e : H a = some (.lst xs)) : ∀ o u, H a ≠ some (.frz o u) := nfz e fun _ _ z => by cases z
theorem nfzD {a : Addr} {kvs : List (Key × V)} (e : H a = some (.dK kvs)) : ∀ o u, H a ≠ some (.frz o u) := nfz e fun _ _ z => by cases z
theorem Ext.write {a : Addr} {o : HO} (ha : a ∈ io.nm) (hi : ∃ u, H a = some u) (hz : ∀ o u, H a ≠ some (.frz o u)) : Ext io H io (upd H a o) := by
  refine ⟨⟨[], by simp⟩, fun _ h => h, fun _ h => .inl h, fun b h k => absurd h k, fun b x e k => ?_, fun b x e => ?_, fun b o' u e => by rw [upd_ne (fun z : b = a => hz o' u (z ▸ e))]; exact e⟩
  · rw [upd_ne (fun z : b = a => k (z ▸ ha))]; exact e
  · by_cases hb : b = a
    · subst hb; exact ⟨o, upd_same⟩
    · exact ⟨x, by rw [upd_ne hb]; exact e⟩
theorem HR.tracked {n : Nat} {a : Addr} (h : HR K ct io H A) (e : io.nm[n]? = some a) : a ∈ io.nm ∧ ∃ u, H a = some u := by
  refine ⟨List.mem_of_getElem? e, ?_⟩
  obtain ⟨m, hm⟩ := h.has e
  have mr := h.get e hm
  cases m with
  | lst ds => obtain ⟨xs, q, _⟩ := mr; exact ⟨_, q⟩
  | dic es => obtain ⟨xs, q, _⟩ := mr; exact ⟨_, q⟩
  | ins c fs => obtain ⟨dx, gs, q, _⟩ := mr; exact ⟨_, q⟩
  | exc c fs => obtain ⟨d, q, _⟩ := mr; exact ⟨_, q⟩
  | tab es => obtain ⟨o, kvs, q, _⟩ := mr; exact ⟨_, q⟩
theorem HR.write {n : Nat} {a : Addr} {o : HO} {m : M} (h : HR K ct io H A) (e : io.nm[n]? = some a) (hz : ∀ o u, H a ≠ some (.frz o u)) (hm : MR K ct io (upd H a o) a m) : HR K ct io (upd H a o) (A.set n m) := by
  obtain ⟨ha, hu⟩ := h.tracked e
  have x : Ext io H io (upd H a o) := Ext.write ha hu hz
  refine ⟨h.nd, by rw [List.length_set]; exact h.len, fun k b m' e1 e2 => ?_, fun b hb => ?_⟩
  · by_cases hk : n = k
    · subst hk
      have hl : n < A.length := by rw [← h.len]; exact (List.getElem?_eq_some_iff.mp e).1
      rw [List.getElem?_set_self hl] at e2
      rw [e] at e1
      cases e1; cases e2
      exact hm
    · rw [List.getElem?_set_ne hk] at e2
      refine (h.at_ k b m' e1 e2).mono x h.noT fun u q => ?_
      have hb : b ≠ a := fun z => by
        subst z
        obtain ⟨h1, q1⟩ := List.getElem?_eq_some_iff.mp e
        obtain ⟨h2, q2⟩ := List.getElem?_eq_some_iff.mp e1
        exact hk ((List.getElem_inj h.nd).mp (q1.trans q2.symm))
      rw [upd_ne hb]
      exact q
  · obtain ⟨h1, xs, h2⟩ := h.hid b hb
    exact ⟨h1, xs, by rw [upd_ne (fun z : b = a => h1 (z ▸ ha))]; exact h2⟩
/-- the object under n becomes m -/
theorem Sta.write {n : Nat} {a : Addr} {o : HO} {m : M} (s : Sta K ct ro A io σ H) (e : io.nm[n]? = some a) (hz : ∀ o u, H a ≠ some (.frz o u)) (hm : MR K ct io (upd H a o) a m) : Sta K ct ro (A.set n m) io σ (upd H a o) := by
  obtain ⟨ha, hu⟩ := s.hr.tracked e
  exact ⟨s.hr.write e hz hm, s.env.mono (Ext.write ha hu hz) s.hr.noT⟩
theorem HR.extW {n : Nat} {a : Addr} {o : HO} (h : HR K ct io H A) (e : io.nm[n]? = some a) (hz : ∀ o u, H a ≠ some (.frz o u)) : Ext io H io (upd H a o) := by
  obtain ⟨ha, hu⟩ := h.tracked e
  exact Ext.write ha hu hz
/-- the list under a number -/
def numL (A : Hd) : D → Option (Nat × List D)
  | .ref n => match A[n]? with
    | some (.lst ds) => some (n, ds)
    | _ => none
  | _ => none
theorem numL_ok {v : V} {d : D} {n : Nat} {ds : List D} (h : HR K ct io H A) (r : DR K ct io H v d) (e : numL A d = some (n, ds)) : ∃ a xs, v = .ref a ∧ d = .ref n ∧ io.nm[n]? = some a ∧ H a = some (.lst xs) ∧ DRs K ct io H xs ds := by
  cases r with
  | ref q =>
    obtain ⟨m, hm⟩ := h.has q
    have mr := h.get q hm
    unfold numL at e
    dsimp only at e
    rw [hm] at e
    cases m with
    | lst es => cases e; obtain ⟨xs, q1, rs⟩ := mr; exact ⟨_, xs, rfl, rfl, q, q1, rs⟩
    | dic es => cases e
    | ins c fs => cases e
    | exc c fs => cases e
    | tab es => cases e
  | _ => cases e
def numD (A : Hd) : D → Option (Nat × List (Key × D))
  | .ref n => match A[n]? with
    | some (.dic es) => some (n, es)
    | _ => none
  | _ => none
theorem numD_ok {v : V} {d : D} {n : Nat} {es : List (Key × D)} (h : HR K ct io H A) (r : DR K ct io H v d) (e : numD A d = some (n, es)) : ∃ a kvs, v = .ref a ∧ d = .ref n ∧ io.nm[n]? = some a ∧ H a = some (.dK kvs) ∧ kvs.map (·.1) = es.map (·.1) ∧ DRs K ct io H (kvs.map (·.2)) (es.map (·.2)) := by
  cases r with
  | ref q =>
    obtain ⟨m, hm⟩ := h.has q
    have mr := h.get q hm
    unfold numD at e
    dsimp only at e
    rw [hm] at e
    cases m with
    | dic es => cases e; obtain ⟨xs, q1, k, rs⟩ := mr; exact ⟨_, xs, rfl, rfl, q, q1, k, rs⟩
    | lst es => cases e
    | ins c fs => cases e
    | exc c fs => cases e
    | tab es => cases e
  | _ => cases e
def putD (es : List (Key × D)) (k : Key) (v : D) : List (Key × D) :=
  if (es.any fun kv => decide (kv.1 = k)) = true then es.map (fun kv => if kv.1 = k then (kv.1, v) else kv) else es ++ [(k, v)]
def dropD (es : List (Key × D)) (k : Key) : List (Key × D) := es.filter fun kv => decide (kv.1 ≠ k)
theorem keys_any (k : Key) : ∀ {kvs : List (Key × V)} {es : List (Key × D)}, kvs.map (·.1) = es.map (·.1) → (kvs.any fun kv => decide (kv.1 = k)) = es.any fun kv => decide (kv.1 = k)
  | [], [], _ => rfl
  | [], _ :: _, e => by cases e
  | _ :: _, [], e => by cases e
  | p :: kvs, q :: es, e => by
    rw [List.map_cons, List.map_cons] at e
    rw [List.any_cons, List.any_cons, keys_any k (List.cons.inj e).2, (List.cons.inj e).1]
theorem put_keys (k : Key) (v : V) (d : D) {kvs : List (Key × V)} {es : List (Key × D)} (e : kvs.map (·.1) = es.map (·.1)) : (putK kvs k v).map (·.1) = (putD es k d).map (·.1) := by
  unfold putK putD
  rw [keys_any k e]
  split
  · have h1 : ∀ l : List (Key × V), (l.map fun kv => if kv.1 = k then (kv.1, v) else kv).map (·.1) = l.map (·.1) := fun l => by
      rw [List.map_map]
      refine List.map_congr_left fun kv _ => ?_
      show (if kv.1 = k then (kv.1, v) else kv).1 = kv.1
      split <;> rfl
    have h2 : ∀ l : List (Key × D), (l.map fun kv => if kv.1 = k then (kv.1, d) else kv).map (·.1) = l.map (·.1) := fun l => by
      rw [List.map_map]
      refine List.map_congr_left fun kv _ => ?_
      show (if kv.1 = k then (kv.1, d) else kv).1 = kv.1
      split <;> rfl
    rw [h1, h2, e]
  · rw [List.map_append, List.map_append, e]
    rfl
theorem put_vals {k : Key} {v : V} {d : D} (r : DR K ct io H v d) : ∀ {kvs : List (Key × V)} {es : List (Key × D)}, kvs.map (·.1) = es.map (·.1) → DRs K ct io H (kvs.map (·.2)) (es.map (·.2)) → DRs K ct io H ((putK kvs k v).map (·.2)) ((putD es k d).map (·.2)) := by
  intro kvs es e rs
  unfold putK putD
  rw [keys_any k e]
  split
  · have go : ∀ {kvs : List (Key × V)} {es : List (Key × D)}, kvs.map (·.1) = es.map (·.1) → DRs K ct io H (kvs.map (·.2)) (es.map (·.2)) →
        DRs K ct io H ((kvs.map fun kv => if kv.1 = k then (kv.1, v) else kv).map (·.2)) ((es.map fun kv => if kv.1 = k then (kv.1, d) else kv).map (·.2)) := by
      intro kvs
      induction kvs with
      | nil => intro es e rs; cases es with
        | nil => exact .nil
        | cons _ _ => cases e
      | cons p kvs ih => intro es e rs; cases es with
        | nil => cases e
        | cons q es =>
          rw [List.map_cons, List.map_cons] at e rs
          cases rs with
          | cons r1 rs =>
            have h1 : p.1 = q.1 := (List.cons.inj e).1
            have ih := ih (List.cons.inj e).2 rs
            rw [List.map_cons, List.map_cons, List.map_cons, List.map_cons]
            refine .cons ?_ ih
            rw [h1]
            split
            · exact r
            · exact r1
    exact go e rs
  · rw [List.map_append, List.map_append]
    exact rs.append (.cons r .nil)

/-! ### o[i] = v -/
def setD (x y d : D) (ro : Env) (A : Hd) : R Env := match numL A x, y with
  | some (n, ds), .int k => match ixN ds.length k with
    | some j => .ok ro (A.set n (.lst (ds.set j d)))
    | none => .stk
  | some _, _ => .stk
  | none, y => match numD A x, keyD y with
    | some (n, es), some k => if es.length < sizeLine then .ok ro (A.set n (.dic (putD es k d))) else .stk
    | _, _ => .stk
abbrev rSetX : TSet := fun o i v H Q => rSetL o i v H Q ∨ rSetD o i v H Q
theorem set_X {X : Cx} (hu : X.A.units + 1 < cLine) : PSet X rSetX := by
  intro pins s σ H o i v ov iv u Q I ro ri rv h
  rcases h with h | h
  · exact set_list pins s σ H o i v ov iv u Q I ro ri rv h
  · exact set_dict hu pins s σ H o i v ov iv u Q I ro ri rv h
theorem setD_ok {x y v : V} {dx dy d : D} {Q : Hp → Prop} (s : Sta K ct ro A io σ H) (rx : DR K ct io H x dx) (ry : DR K ct io H y dy) (r : DR K ct io H v d)
    (p : GPost K ct io H (setD dx dy d ro A) (fun σ' H' => σ' = σ → Q H')) : rSetX x y v H Q := by
  unfold setD at p
  split at p
  · rename_i n ds k hn
    obtain ⟨a, xs, rfl, rfl, hio, hH, rs⟩ := numL_ok s.hr rx hn
    cases ry
    split at p
    · rename_i j hj
      refine .inl ⟨a, xs, k, j, rfl, rfl, hH, by rw [rs.length]; exact hj, ?_⟩
      have x1 := s.hr.extW (o := .lst (xs.set j v)) hio (nfzL hH)
      exact p σ io _ x1 (s.write hio (nfzL hH) ⟨_, upd_same, (rs.set r j).mono x1 s.hr.noT⟩) rfl
    · exact p.elim
  · exact p.elim
  · split at p
    · rename_i n es k hn hk
      obtain ⟨a, kvs, rfl, rfl, hio, hH, ek, rs⟩ := numD_ok s.hr rx hn
      have ey := keyD_ok ry hk
      subst ey
      split at p
      · rename_i hz
        have hl : kvs.length = es.length := by simpa using congrArg List.length ek
        have x1 := s.hr.extW (o := .dK (putK kvs k v)) hio (nfzD hH)
        exact .inr ⟨a, _, rfl, DPut.k hH (by rw [hl]; exact hz), p σ io _ x1 (s.write hio (nfzD hH) ⟨_, upd_same, put_keys k v d ek, (put_vals r ek rs).mono x1 s.hr.noT⟩) rfl⟩
      · exact p.elim
    · exact p.elim
end
def gAt (o i : EF) : GF := fun d ro A => (o ro A).bind fun x A1 => (i ro A1).bind fun y A2 => setD x y d ro A2
section
variable {X : Cx} {ct : String → Addr} {W : WX} {e a b o i : Expr} {pos : Pos} {fa fb fo fi : EF}
theorem tD_G {K : PySem.W.Frag} {σ : L2.St} {io : Io} {H : Hp} {A : Hd} {ro : Env} {k : D → Hd → R Env} {Q : L2.St → Hp → Prop} (s : Sta K ct ro A io σ H) (p : GPost K ct io H ((fa ro A).bind k) Q) :
    tD K ct (fun _ _ _ _ => False) fa σ H (fun v H1 => ∃ io1 A1 d, Ext io H io1 H1 ∧ Sta K ct ro A1 io1 σ H1 ∧ DR K ct io1 H1 v d ∧ GPost K ct io1 H1 (k d A1) Q) := by
  refine ⟨io, A, ro, s, ?_⟩
  cases h : fa ro A with
  | ok d A1 => rw [h] at p; exact fun v io1 H1 e1 h1 r => ⟨io1, A1, d, e1, s.mono e1 h1, r, GPost.ext e1 p⟩
  | err c fs A1 => rw [h] at p; exact p.elim
  | stk => rw [h] at p; exact p
theorem pgd_at (ho : PD X ct (fun _ _ _ _ => False) o fo) (hi : PD X ct (fun _ _ _ _ => False) i fi) (hu : X.A.units + 1 < cLine)
    (ha : ∀ v, assign (.Subscript o i pos) X.env v = (do
      let ov ← holding [v] (eval o X.env)
      let iv ← holding [v, ov] (eval i X.env)
      standAt pos
      holding [v, ov, iv] (setItem ov iv v)
      release [v, ov, iv] []) := by intro _; rfl) : PGD X ct (.Subscript o i pos) (gAt fo fi) :=
  pg_mono (pg_sub ho hi (set_X hu) ha) fun v σ H Q ⟨io, A, ro, d, s, r, p⟩ => by
    obtain ⟨jo, jA, jr, js, jp⟩ := tD_G (fa := fo) s p
    refine ⟨jo, jA, jr, js, jp.mono fun x H1 ⟨io1, A1, dx, e1, s1, rx, p1⟩ => ?_⟩
    obtain ⟨ko, kA, kr, ks, kp⟩ := tD_G (fa := fi) s1 p1
    refine ⟨ko, kA, kr, ks, kp.mono fun y H2 ⟨io2, A2, dy, e2, s2, ry, p2⟩ => ?_⟩
    refine setD_ok s2 (rx.mono e2 s1.hr.noT) ry ((r.mono e1 s.hr.noT).mono e2 s1.hr.noT) ?_
    cases hs : setD dx dy d ro A2 with
    | ok ro1 A3 =>
      rw [hs] at p2
      exact fun σ' io' H' ex st hσ => by have := p2 σ' io' H' ex st; rw [hσ] at this; exact this
    | err c fs A3 => rw [hs] at p2; exact p2
    | stk => rw [hs] at p2; exact p2
end
end DV

set_option Elab.async false
set_option linter.all false
set_option maxRecDepth 100000
/-! DvH: what is walked, for, while, list comprehensions by data. -/
namespace DV
open PySem PySem.Spec PyProof.Rows L2

/-- what is walked: items by value, or a numbered list that stays as it is -/
inductive Src where
  | fix (ds : List D) | num (n : Nat) (ds : List D) | mix (ds : List D) (ks : List (Nat × List D))
def Src.items : Src → List D
  | .fix ds => ds
  | .num _ ds => ds
  | .mix ds _ => ds
def Src.here : Src → Hd → Prop
  | .fix _, _ => True
  | .num n ds, A => A[n]? = some (.lst ds)
  | .mix _ ks, A => ∀ p ∈ ks, A[p.1]? = some (.lst p.2)
abbrev IF := Env → Hd → R Src

section
variable (K : PySem.W.Frag) (ct : String → Addr)
/-- J walks s from the state (io, H) on -/
def WalkR : Io → Hp → It → Src → Prop := fun io H J s => ∀ io2 H2 A2, Ext io H io2 H2 → HR K ct io2 H2 A2 → s.here A2 →
  (∀ i d, s.items[i]? = some d → J.go i H2 ∧ ∀ x H3, J.yld i H2 x H3 → Ext io2 H2 io2 H3 ∧ HR K ct io2 H3 A2 ∧ DR K ct io2 H3 x d) ∧ ∀ i, s.items.length ≤ i → J.stop i H2
def tI (W : WX) (f : IF) : TI := fun σ H Q => ∃ io A ro, Sta K ct ro A io σ H ∧ Post K ct (WalkR K ct) W σ io H (f ro A) Q
end
abbrev PID (X : Cx) (ct : String → Addr) (W : WX) (tg e : Expr) (f : IF) : Prop := PI X tg e (tI X.K ct W f)
theorem pi_mono {X : Cx} {tg e : Expr} {t t' : TI} (h : PI X tg e t) (m : ∀ σ H Q, t' σ H Q → t σ H Q) : PI X tg e t' := ⟨fun pins s σ H Q I q => h.run pins s σ H Q I (m _ _ _ q)⟩

/-! ### loops -/
/-- behind a turn: on, or out -/
def Out.loop (o : Out) (k : Env → Hd → Out) : Out := match o with
  | .go .nx ro A => k ro A
  | .go .ct ro A => k ro A
  | .go .bk ro A => .go .nx ro A
  | o => o
@[simp] theorem Out.loop_nx (ro : Env) (A : Hd) (k : Env → Hd → Out) : (Out.go .nx ro A).loop k = k ro A := rfl
@[simp] theorem Out.loop_ct (ro : Env) (A : Hd) (k : Env → Hd → Out) : (Out.go .ct ro A).loop k = k ro A := rfl
@[simp] theorem Out.loop_bk (ro : Env) (A : Hd) (k : Env → Hd → Out) : (Out.go .bk ro A).loop k = .go .nx ro A := rfl
@[simp] theorem Out.loop_ret (d : D) (ro : Env) (A : Hd) (k : Env → Hd → Out) : (Out.go (.ret d) ro A).loop k = .go (.ret d) ro A := rfl
@[simp] theorem Out.loop_err (c : Cl) (fs : List (Str × D)) (ro : Env) (A : Hd) (k : Env → Hd → Out) : (Out.err c fs ro A).loop k = .err c fs ro A := rfl
@[simp] theorem Out.loop_stk (k : Env → Hd → Out) : (Out.stk).loop k = .stk := rfl
def whileD (c : TF) (b : SF) : Nat → SF
  | 0 => fun _ _ => .stk
  | n + 1 => fun ro A => (c ro A).then ro fun k A1 => if k then (b ro A1).loop (whileD c b n) else .go .nx ro A1
open Classical in
noncomputable def forD (s : Src) (g : GF) (b : SF) : List D → SF
  | [] => fun ro A => if s.here A then .go .nx ro A else .stk
  | d :: ds => fun ro A => if s.here A then ((g d ro A).out.next b).loop (forD s g b ds) else .stk
noncomputable def sFor (i : IF) (g : GF) (b : SF) : SF := fun ro A => (i ro A).then ro fun s A1 => forD s g b s.items ro A1

section
variable {K : PySem.W.Frag} {ct : String → Addr} {W : WX} {σ : L2.St} {io io' : Io} {H H' : Hp} {A A' : Hd} {ro : Env} {Z Z' : Ends}
theorem SPost.loop {o : Out} {k : Env → Hd → Out} (h : SPost K ct W io H (o.loop k) Z) :
    SPost K ct W io H o { Z with nx := fun σ' H' => ∃ io1 A1 ro1, Ext io H io1 H' ∧ Sta K ct ro1 A1 io1 σ' H' ∧ SPost K ct W io1 H' (k ro1 A1) Z, ct := fun σ' H' => ∃ io1 A1 ro1, Ext io H io1 H' ∧ Sta K ct ro1 A1 io1 σ' H' ∧ SPost K ct W io1 H' (k ro1 A1) Z, bk := Z.nx } := by
  cases o with
  | go f ro A => cases f with
    | nx => exact fun s i h' e q => ⟨i, A, ro, e, q, SPost.ext e h⟩
    | bk => exact h
    | ct => exact fun s i h' e q => ⟨i, A, ro, e, q, SPost.ext e h⟩
    | ret d => exact h
  | err c fs ro A => exact h
  | stk => exact h
end
section
variable {X : Cx} {ct : String → Addr} {W : WX} {e a b : Expr} {pos : Pos} {fa fb : EF} {ft fu : TF} {fl : AF} {sts : List Stmt} {fs : SF}
theorem psd_while (n : Nat) {c : Expr} (hp : PassesOwn (model X.prog X.w) X.A X.env X.xe) (hc : PDt X ct W c ft) (hb : PSsD X ct W sts fs) : PSD X ct W (.While c sts [] pos) (whileD ft fs n) :=
  ps_mono (ps_while hp hc hb) fun Z σ H ⟨io, A, ro, s, p⟩ => by
    refine ⟨fun m σ H => ∃ io A ro, Sta X.K ct ro A io σ H ∧ SPost X.K ct W io H (whileD ft fs m ro A) Z, ⟨n, io, A, ro, s, p⟩, ?_⟩
    rintro m σ H ⟨io, A, ro, s, p⟩
    cases m with
    | zero => exact p.elim
    | succ m =>
      refine ⟨io, A, ro, s, (Post.then (rep := repB) s p).mono fun k H1 ⟨io1, A1, d, e1, s1, r, q⟩ => ?_⟩
      rw [show k = d from r]
      cases d with
      | false => exact q σ io1 H1 Ext.refl s1
      | true =>
        refine ⟨fun σ' H' => ∃ io1 A1 ro1, Sta X.K ct ro1 A1 io1 σ' H' ∧ SPost X.K ct W io1 H' (whileD ft fs m ro1 A1) Z, fun σ' H' h => ⟨m, Nat.lt_succ_self m, h⟩, io1, A1, ro, s1, ?_⟩
        refine q.loop.mono (fun σ H ⟨i, A, r, _, x, y⟩ => ⟨i, A, r, x, y⟩) (fun _ _ h => h) (fun _ _ h => h) (fun σ H ⟨i, A, r, _, x, y⟩ => ⟨i, A, r, x, y⟩)
theorem psd_for {tg iter : Expr} {fi : IF} {g : GF} (hp : PassesOwn (model X.prog X.w) X.A X.env X.xe) (hc : X.calm = true) (hi : PID X ct W tg iter fi) (hg : PGD X ct tg g) (hb : PSsD X ct W sts fs) (hs : ∀ x, foldedSetIterable iter X.env x = pure x := by intro _; rfl) :
    PSD X ct W (.For tg iter sts [] pos) (sFor fi g fs) :=
  ps_mono (ps_for hp hc hi hg hb hs) fun Z σ H ⟨io, A, ro, s, p⟩ => by
    refine ⟨io, A, ro, s, (Post.then (rep := WalkR X.K ct) s p).mono fun J H1 ⟨io1, A1, sr, e1, s1, wk, q⟩ => ?_⟩
    refine ⟨fun i m σ H => ∃ io2 A2 ro2, Ext io1 H1 io2 H ∧ Sta X.K ct ro2 A2 io2 σ H ∧ i + m = sr.items.length ∧ SPost X.K ct W io2 H (forD sr g fs (sr.items.drop i) ro2 A2) Z,
      ⟨sr.items.length, io1, A1, ro, Ext.refl, s1, Nat.zero_add _, q⟩, ?_⟩
    rintro i m σ H ⟨io2, A2, ro2, e2, s2, hm, q2⟩
    cases hd : sr.items.drop i with
    | nil =>
      rw [hd] at q2
      unfold forD at q2
      split at q2
      · rename_i hh
        have hl : sr.items.length ≤ i := by
          have := congrArg List.length hd
          rw [List.length_drop] at this
          simp at this
          omega
        exact .inl ⟨(wk io2 H A2 e2 s2.hr hh).2 i hl, q2 σ io2 H Ext.refl s2⟩
      · exact q2.elim
    | cons d ds =>
      rw [hd] at q2
      unfold forD at q2
      split at q2
      · rename_i hh
        have hx : sr.items[i]? = some d := by
          have := congrArg (fun l => l[0]?) hd
          simpa using this
        have hds : sr.items.drop (i + 1) = ds := by
          have := congrArg (List.drop 1) hd
          simpa [List.drop_drop, Nat.add_comm] using this
        obtain ⟨hgo, hy⟩ := (wk io2 H A2 e2 s2.hr hh).1 i d hx
        have hil : i < sr.items.length := (List.getElem?_eq_some_iff.mp hx).1
        refine .inr ⟨hgo, fun σ' H' => ∃ io3 A3 ro3, Ext io1 H1 io3 H' ∧ Sta X.K ct ro3 A3 io3 σ' H' ∧ SPost X.K ct W io3 H' (forD sr g fs ds ro3 A3) Z,
          fun σ' H' ⟨io3, A3, ro3, e3, s3, q3⟩ => ⟨m - 1, by omega, io3, A3, ro3, e3, s3, by omega, by rw [hds]; exact q3⟩, fun x H3 yy => ?_⟩
        obtain ⟨x1, x2, x3⟩ := hy x H3 yy
        refine ⟨io2, A2, ro2, d, s2.mono x1 x2, x3, ?_⟩
        have q2 := SPost.ext x1 q2
        cases hgd : g d ro2 A2 with
        | err c fs A3 => rw [hgd] at q2; exact q2
        | stk => rw [hgd] at q2; exact q2
        | ok ro3 A3 =>
          rw [hgd] at q2
          intro σ3 io3 H4 e3 s3
          refine ⟨io3, A3, ro3, s3, ?_⟩
          have q3 : SPost X.K ct W io3 H4 ((fs ro3 A3).loop (forD sr g fs ds)) Z := SPost.ext e3 q2
          have e4 := (e2.trans x1).trans e3
          exact q3.loop.mono (fun σ H ⟨i, A, r, x, y, z⟩ => ⟨i, A, r, e4.trans x, y, z⟩) (fun _ _ h => h) (fun _ _ h => h) (fun σ H ⟨i, A, r, x, y, z⟩ => ⟨i, A, r, e4.trans x, y, z⟩)
      · exact q2.elim
end
end DV

set_option Elab.async false
set_option linter.all false
set_option maxRecDepth 100000
/-! DvI: list comprehensions by data; what is walked: lists, tuples, texts, ranges. -/
namespace DV
open PySem PySem.Spec PyProof.Rows L2
section
variable {K : PySem.W.Frag} {ct : String → Addr} {W : WX} {σ : L2.St} {io io' : Io} {H H' : Hp} {A A' : Hd} {ro : Env}
theorem PTup.off {a p : Addr} {xs ys : List V} {o : HO} (e : H p = some (.lst ys)) (h : PTup K H a xs) : PTup K (upd H p o) a xs := by
  rcases h with ⟨u, h, d⟩ | h
  · exact .inl ⟨u, by rw [upd_ne (ne_of h e (by intro z; cases z))]; exact h, d⟩
  · exact .inr h
theorem SqT.off {a p : Addr} {xs ys : List V} {o : HO} (e : H p = some (.lst ys)) (h : SqT K H a xs) : SqT K (upd H p o) a xs := by
  rcases h with (h | ⟨u, h⟩) | h
  · exact .inl (.inl (by rw [upd_ne (ne_of h e (by intro z; cases z))]; exact h))
  · exact .inl (.inr ⟨u, by rw [upd_ne (ne_of h e (by intro z; cases z))]; exact h⟩)
  · exact .inr h
mutual
/-- a held list is filled: the data do not see it -/
theorem DR.step {p : Addr} {ys : List V} {o : HO} (hp : p ∈ io.hd) (e : H p = some (.lst ys)) : ∀ {v : V} {d : D}, DR K ct io H v d → DR K ct io (upd H p o) v d
  | _, _, .non => .non
  | _, _, .bl b => .bl b
  | _, _, .int i => .int i
  | _, _, .str x => .str x
  | _, _, .tup h hs => .tup (PTup.off e h) (DRs.step hp e hs)
  | _, _, .lst n h hs => .lst n (by rw [upd_ne (fun z => n (by rw [z]; exact .inr hp))]; exact h) (DRs.step hp e hs)
  | _, _, .scr h hs => .scr (h.elim (fun ⟨n, u, q⟩ => .inl ⟨n, u, by rw [upd_ne (fun z => n (by rw [z]; exact .inr hp))]; exact q⟩) .inr) (DRs.step hp e hs)
  | _, _, .dic n h k hs => .dic n (by rw [upd_ne (fun z => n (by rw [z]; exact .inr hp))]; exact h) k (DRs.step hp e hs)
  | _, _, .ref h => .ref h
  | _, _, .ty n => .ty n
  | _, _, .own n => .own n
theorem DRs.step {p : Addr} {ys : List V} {o : HO} (hp : p ∈ io.hd) (e : H p = some (.lst ys)) : ∀ {vs : List V} {ds : List D}, DRs K ct io H vs ds → DRs K ct io (upd H p o) vs ds
  | _, _, .nil => .nil
  | _, _, .cons h hs => .cons (DR.step hp e h) (DRs.step hp e hs)
end
mutual
/-- fewer objects are held, the same numbers -/
theorem DR.free (hn : io'.nm = io.nm) (hd : ∀ a ∈ io'.hd, a ∈ io.hd) : ∀ {v : V} {d : D}, DR K ct io H v d → DR K ct io' H v d
  | _, _, .non => .non
  | _, _, .bl b => .bl b
  | _, _, .int i => .int i
  | _, _, .str x => .str x
  | _, _, .tup h hs => .tup h (DRs.free hn hd hs)
  | _, _, .lst n h hs => .lst (fun z => n (z.elim (fun z => .inl (by rw [← hn]; exact z)) fun z => .inr (hd _ z))) h (DRs.free hn hd hs)
  | _, _, .scr h hs => .scr (h.elim (fun ⟨n, q⟩ => .inl ⟨fun z => n (z.elim (fun z => .inl (by rw [← hn]; exact z)) fun z => .inr (hd _ z)), q⟩) .inr) (DRs.free hn hd hs)
  | _, _, .dic n h k hs => .dic (fun z => n (z.elim (fun z => .inl (by rw [← hn]; exact z)) fun z => .inr (hd _ z))) h k (DRs.free hn hd hs)
  | _, _, .ref h => .ref (by rw [hn]; exact h)
  | _, _, .ty n => .ty n
  | _, _, .own n => .own n
theorem DRs.free (hn : io'.nm = io.nm) (hd : ∀ a ∈ io'.hd, a ∈ io.hd) : ∀ {vs : List V} {ds : List D}, DRs K ct io H vs ds → DRs K ct io' H vs ds
  | _, _, .nil => .nil
  | _, _, .cons h hs => .cons (DR.free hn hd h) (DRs.free hn hd hs)
end
theorem MR.step {p a : Addr} {ys : List V} {o : HO} {m : M} (hp : p ∈ io.hd) (e : H p = some (.lst ys)) (ne : a ≠ p) (h : MR K ct io H a m) : MR K ct io (upd H p o) a m := by
  cases m with
  | lst ds => obtain ⟨xs, q, r⟩ := h; exact ⟨xs, by rw [upd_ne ne]; exact q, r.step hp e⟩
  | dic es => obtain ⟨xs, q, k, r⟩ := h; exact ⟨xs, by rw [upd_ne ne]; exact q, k, r.step hp e⟩
  | tab es => obtain ⟨o', xs, q, k, r⟩ := h; exact ⟨o', xs, by rw [upd_ne ne]; exact q, k, r.step hp e⟩
  | ins c fs => obtain ⟨dx, gs, q, k, r⟩ := h; exact ⟨dx, gs, by rw [upd_ne ne]; exact q, k, r.step hp e⟩
  | exc c fs =>
    obtain ⟨d, q, z⟩ := h
    refine ⟨d, by rw [upd_ne ne]; exact q, z.imp id ?_⟩
    rintro ⟨pp, gs, h1, h2, h3, h4, h5⟩
    exact ⟨pp, gs, h1, h2, by rw [upd_ne (fun w => h2 (by rw [w]; exact .inr hp))]; exact h3, h4, h5.step hp e⟩
theorem MR.free {a : Addr} {m : M} (hn : io'.nm = io.nm) (hd : ∀ a ∈ io'.hd, a ∈ io.hd) (h : MR K ct io H a m) : MR K ct io' H a m := by
  cases m with
  | lst ds => obtain ⟨xs, q, r⟩ := h; exact ⟨xs, q, r.free hn hd⟩
  | dic es => obtain ⟨xs, q, k, r⟩ := h; exact ⟨xs, q, k, r.free hn hd⟩
  | tab es => obtain ⟨o', xs, q, k, r⟩ := h; exact ⟨o', xs, q, k, r.free hn hd⟩
  | ins c fs => obtain ⟨dx, gs, q, k, r⟩ := h; exact ⟨dx, gs, q, k, r.free hn hd⟩
  | exc c fs =>
    obtain ⟨d, q, z⟩ := h
    refine ⟨d, q, z.imp id ?_⟩
    rintro ⟨p, gs, h1, h2, h3, h4, h5⟩
    exact ⟨p, gs, h1, fun w => h2 (w.elim (fun w => .inl (by rw [← hn]; exact w)) fun w => .inr (hd _ w)), h3, h4, h5.free hn hd⟩
theorem HR.step {p : Addr} {ys zs : List V} (h : HR K ct io H A) (hp : p ∈ io.hd) (e : H p = some (.lst ys)) : HR K ct io (upd H p (.lst zs)) A := by
  refine ⟨h.nd, h.len, fun n a m e1 e2 => (h.at_ n a m e1 e2).step hp e fun z => (h.hid p hp).1 (by rw [← z]; exact List.mem_of_getElem? e1), fun a ha => ⟨(h.hid a ha).1, ?_⟩⟩
  by_cases hb : a = p
  · subst hb; exact ⟨zs, upd_same⟩
  · obtain ⟨xs, q⟩ := (h.hid a ha).2
    exact ⟨xs, by rw [upd_ne hb]; exact q⟩
theorem HR.free (h : HR K ct io H A) (hn : io'.nm = io.nm) (hd : ∀ a ∈ io'.hd, a ∈ io.hd) : HR K ct io' H A :=
  ⟨by rw [hn]; exact h.nd, by rw [hn]; exact h.len, fun n a m e1 e2 => (h.at_ n a m (by rw [← hn]; exact e1) e2).free hn hd, fun a ha => by rw [hn]; exact h.hid a (hd a ha)⟩
theorem Ext.hold {p : Addr} {xs : List V} (n : H p = none) : Ext io H (io.hold p) (upd H p (.lst xs)) := by
  refine ⟨⟨[], by simp [Io.hold]⟩, fun a h => List.mem_cons_of_mem _ h, fun a h => ?_, fun b h k => absurd h k, fun b x e k => ?_, fun b x e => ?_, fun b o u e => by rw [upd_ne (ne_of_none e n)]; exact e⟩
  · rcases List.mem_cons.mp h with h | h
    · rw [h]; exact .inr n
    · exact .inl h
  · rw [upd_ne (ne_of_none e n)]; exact e
  · exact ⟨x, by rw [upd_ne (ne_of_none e n)]; exact e⟩
theorem HR.hold {p : Addr} {xs : List V} (h : HR K ct io H A) (n : H p = none) : HR K ct (io.hold p) (upd H p (.lst xs)) A := by
  refine ⟨h.nd, h.len, fun k a m e1 e2 => (h.at_ k a m e1 e2).mono (Ext.hold n) h.noT fun o e => by rw [upd_ne (ne_of_none e n)]; exact e, fun a ha => ?_⟩
  rcases List.mem_cons.mp ha with ha | ha
  · subst ha
    exact ⟨fun z => h.ne n (.inl z), xs, upd_same⟩
  · obtain ⟨h1, xs, h2⟩ := h.hid a ha
    exact ⟨h1, xs, by rw [upd_ne (ne_of_none h2 n)]; exact h2⟩
/-- the held list is changed: seen from a state where it was not -/
theorem Ext.stepNew {p : Addr} {o : HO} (x : Ext io H io' H') (n : H p = none) (ht : ∃ u, H' p = some u) : Ext io H io' (upd H' p o) := by
  refine ⟨x.pre, x.hd1, x.hd2, x.fresh, fun b u e k => ?_, fun b u e => ?_, fun b o' u e => by rw [upd_ne (ne_of_none e n)]; exact x.frz b o' u e⟩
  · rw [upd_ne (ne_of_none e n)]; exact x.keep b u e k
  · obtain ⟨o', e'⟩ := x.there b u e
    exact ⟨o', by rw [upd_ne (ne_of_none e n)]; exact e'⟩
/-- .. no longer held -/
theorem Ext.free {io2 : Io} (x : Ext io H io' H') (hn : io2.nm = io'.nm) (h1 : ∀ a ∈ io.hd, a ∈ io2.hd) (h2 : ∀ a ∈ io2.hd, a ∈ io'.hd) : Ext io H io2 H' :=
  ⟨by rw [hn]; exact x.pre, h1, fun a ha => x.hd2 a (h2 a ha), fun b h k => x.fresh b (by rw [← hn]; exact h) k, x.keep, x.there, x.frz⟩
end

/-! ### a comprehension's target, its turn -/
inductive Pat where
  | one (i : Nat) | tup (is : List Nat)
def setAll (ro : Env) (is : List Nat) (ds : List D) : Env := (is.zip ds).foldl (fun ro p => ro.set p.1 (some p.2)) ro
def Pat.put (pt : Pat) (d : D) (ro : Env) : Option Env := match pt, d with
  | .one i, d => some (ro.set i (some d))
  | .tup is, .tup ds => if ds.length = is.length then some (setAll ro is ds) else none
  | _, _ => none
def wipeD (ro : Env) : List Nat → Env
  | [] => ro
  | v :: vs => (wipeD ro vs).set v none
/-- no error is let out -/
def R.calm {α : Type} (r : R α) : R α := match r with
  | .err _ _ _ => .stk
  | r => r
open Classical in
noncomputable def compD (s : Src) (pt : Pat) (vs : List Nat) (tt : TF) (te : EF) (ro : Env) : List D → List D → Hd → R (List D)
  | [], acc, A => if s.here A then .ok acc A else .stk
  | d :: ds, acc, A => if s.here A then (match pt.put d (wipeD ro vs) with
      | some ro1 => (tt ro1 A).calm.bind fun b A1 => if b then (te ro1 A1).calm.bind fun y A2 => if acc.length < sizeLine then compD s pt vs tt te ro ds (acc ++ [y]) A2 else .stk else compD s pt vs tt te ro ds acc A1
      | none => .stk) else .stk
noncomputable def eComp (i : IF) (pt : Pat) (vs : List Nat) (tt : TF) (te : EF) : EF := fun ro A => (i ro A).bind fun s A1 => (compD s pt vs tt te ro s.items [] A1).bind fun ds A2 => .ok (.lst ds) A2
noncomputable def eCompM (i : IF) (pt : Pat) (vs : List Nat) (tt : TF) (te : EF) : EF := fun ro A => (i ro A).bind fun s A1 => (compD s pt vs tt te ro s.items [] A1).bind fun ds A2 => .ok (.ref A2.length) (A2 ++ [.lst ds])
def ttYes : TF := fun _ A => .ok true A
def gNames : List Nat → TGs
  | [] => gNil
  | i :: is => gCons (gName i) (gNames is)
def Pat.g (K : PySem.W.Frag) : Pat → TG
  | .one i => gName i
  | .tup is => gTup K is.length (gNames is)
def Pat.slots : Pat → List Nat
  | .one i => [i]
  | .tup is => is
theorem wipe_set {σ : L2.St} {i : Nat} {v : Option V} : ∀ {vs : List Nat}, i ∈ vs → wipe (σ.set i v) vs = wipe σ vs
  | [], h => by cases h
  | j :: vs, h => by
    unfold wipe
    by_cases hij : i ∈ vs
    · rw [wipe_set hij]
    · have hj : i = j := (List.mem_cons.mp h).resolve_right hij
      subst hj
      have go : ∀ (vs : List Nat) (τ : L2.St), i ∉ vs → wipe (τ.set i v) vs = (wipe τ vs).set i v := by
        intro vs
        induction vs with
        | nil => intro τ _; rfl
        | cons k vs ih =>
          intro τ hn
          have h1 : i ≠ k := fun z => hn (by rw [z]; exact List.mem_cons_self)
          have h2 : i ∉ vs := fun z => hn (List.mem_cons_of_mem _ z)
          unfold wipe
          rw [ih τ h2, List.set_comm _ _ h1]
      rw [go vs σ hij]
      rw [List.set_set]
theorem wipe_wipe {σ : L2.St} (vs : List Nat) : wipe (wipe σ vs) vs = wipe σ vs := by
  have go : ∀ (us : List Nat) (τ : L2.St), (∀ i ∈ us, i ∈ vs) → wipe (wipe τ us) vs = wipe τ vs := by
    intro us
    induction us with
    | nil => intro τ _; rfl
    | cons u us ih =>
      intro τ h
      show wipe ((wipe τ us).set u none) vs = wipe τ vs
      rw [wipe_set (h u List.mem_cons_self), ih τ fun i hi => h i (List.mem_cons_of_mem _ hi)]
  exact go vs σ fun i hi => hi
section
variable {K : PySem.W.Frag} {ct : String → Addr} {W : WX} {σ : L2.St} {io io' : Io} {H H' : Hp} {A A' : Hd} {ro : Env}
theorem EnvR.wipe (h : EnvR K ct io H ro σ) : ∀ vs : List Nat, EnvR K ct io H (wipeD ro vs) (L2.wipe σ vs)
  | [] => h
  | v :: vs => by
    have ih := EnvR.wipe h vs
    refine ⟨by show ((wipeD ro vs).set v none).length = ((L2.wipe σ vs).set v none).length; rw [List.length_set, List.length_set, ih.len], fun i d e => ?_⟩
    have e : ((wipeD ro vs).set v none)[i]? = some (some d) := e
    by_cases hi : v = i
    · subst hi
      by_cases hl : v < (wipeD ro vs).length
      · rw [List.getElem?_set_self hl] at e; cases e
      · rw [List.getElem?_eq_none (by rw [List.length_set]; omega)] at e; cases e
    · rw [List.getElem?_set_ne hi] at e
      obtain ⟨w, e1, r⟩ := ih.at_ i d e
      exact ⟨w, by show ((L2.wipe σ vs).set v none)[i]? = _; rw [List.getElem?_set_ne hi]; exact e1, r⟩
/-- the target takes the item -/
theorem Pat.take {pt : Pat} {vs : List Nat} {x : V} {d : D} {ro1 : Env} {Q : L2.St → Hp → Prop} (hs : ∀ i ∈ pt.slots, i ∈ vs) (he : EnvR K ct io H (wipeD ro vs) (L2.wipe σ vs)) (r : DR K ct io H x d) (hp : pt.put d (wipeD ro vs) = some ro1)
    (hQ : ∀ σ2, EnvR K ct io H ro1 σ2 → L2.wipe σ2 vs = L2.wipe σ vs → Q σ2 H) : pt.g K x (L2.wipe σ vs) H Q := by
  cases pt with
  | one i =>
    cases hp
    refine hQ _ (he.set r) ?_
    rw [wipe_set (hs i List.mem_cons_self), wipe_wipe]
  | tup is =>
    unfold Pat.put at hp
    split at hp
    · rename_i h2
      cases h2
    · rename_i is' ds h1
      cases h1
      split at hp
      · rename_i hl
        cases hp
        cases r with
        | @tup a xs _ q rs =>
          refine ⟨a, xs, rfl, q.sq, by rw [rs.length]; exact hl, ?_⟩
          have go : ∀ (is : List Nat) (xs : List V) (ds : List D) (ro0 : Env) (σ0 : L2.St), DRs K ct io H xs ds → ds.length = is.length → (∀ i ∈ is, i ∈ vs) → EnvR K ct io H ro0 σ0 → L2.wipe σ0 vs = L2.wipe σ vs →
              (∀ σ2, EnvR K ct io H (setAll ro0 is ds) σ2 → L2.wipe σ2 vs = L2.wipe σ vs → Q σ2 H) → gNames is xs σ0 H Q := by
            intro is
            induction is with
            | nil =>
              intro xs ds ro0 σ0 rs hl _ h0 hw hQ
              cases rs with
              | nil => exact ⟨rfl, hQ σ0 h0 hw⟩
              | cons _ _ => cases hl
            | cons i is ih =>
              intro xs ds ro0 σ0 rs hl hi h0 hw hQ
              cases rs with
              | nil => cases hl
              | @cons v vs' d ds r rs =>
                refine ⟨v, vs', rfl, ?_⟩
                refine ih vs' ds _ _ rs (by simpa using hl) (fun j hj => hi j (List.mem_cons_of_mem _ hj)) (h0.set r) ?_ hQ
                rw [wipe_set (hi i List.mem_cons_self)]
                exact hw
          exact go is xs ds _ _ rs hl hs he (wipe_wipe vs) hQ
      · cases hp
    · cases hp
end
theorem Post.calm {K : PySem.W.Frag} {ct : String → Addr} {W W' : WX} {σ σ' : L2.St} {io ic : Io} {H Hc : Hp} {α β γ δ : Type} {rep : Io → Hp → β → α → Prop} {rep2 : Io → Hp → δ → γ → Prop} {r : R α} {k : α → Hd → R γ} {Q : δ → Hp → Prop} (h : Post K ct rep2 W σ io H (r.calm.bind k) Q) :
    Post K ct rep W' σ' ic Hc r (fun b H1 => ∃ io1 A1 a, Ext ic Hc io1 H1 ∧ HR K ct io1 H1 A1 ∧ rep io1 H1 b a ∧ Post K ct rep2 W σ io H (k a A1) Q) := by
  cases r with
  | ok a A => exact fun b io1 H1 e h1 r => ⟨io1, A, a, e, h1, r, h⟩
  | err c fs A => exact (show False from h).elim
  | stk => exact h
section
variable {X : Cx} {ct : String → Addr} {W : WX} {e a b : Expr} {pos : Pos} {fa fb : EF} {ft fu : TF} {fl : AF}
abbrev W0 : WX := fun _ _ _ _ => False
/-- the reading of a comprehension, from its function; fin says what is wanted of the list -/
theorem comp_D {K : PySem.W.Frag} {fi : IF} {pt : Pat} {vs : List Nat} {tt : TF} {te : EF} (hs : ∀ i ∈ pt.slots, i ∈ vs) {σ : L2.St} {H : Hp} {Q : VK} {io : Io} {A : Hd} {ro : Env} (st : Sta K ct ro A io σ H) {k : List D → Hd → R D}
    (p : Post K ct (DR K ct) W σ io H ((fi ro A).bind fun s A1 => (compD s pt vs tt te ro s.items [] A1).bind k) Q)
    (fin : ∀ (io2 io3 : Io) H2 A2 p ws ds, io3.nm = io2.nm → io3.hd = p :: io2.hd → HR K ct io3 H2 A2 → H2 p = some (.lst ws) → DRs K ct io3 H2 ws ds → HR K ct io2 H2 A2 → p ∉ io2 → Post K ct (DR K ct) W σ io2 H2 (k ds A2) Q → Q (.ref p) H2) :
    tLc (tI K ct W fi) (pt.g K) (tT K ct W0 tt) (tD K ct W0 te) vs σ H Q := by
  refine ⟨io, A, ro, st, (p.bind (rep := WalkR K ct)).mono ?_⟩
  rintro J H1 ⟨io1, A1, sr, e1, h1, wk, p1⟩ q hq
  have en1 : EnvR K ct io1 H1 ro σ := st.env.mono e1 st.hr.noT
  have x0 : Ext io1 H1 (io1.hold q) (upd H1 q (.lst [])) := Ext.hold hq
  have hqn : q ∉ io1 := h1.ne hq
  refine ⟨fun i m H => ∃ io2 A2 ws acc, io2.hd = q :: io1.hd ∧ Ext io1 H1 io2 H ∧ HR K ct io2 H A2 ∧ H q = some (.lst ws) ∧ DRs K ct io2 H ws acc ∧ i + m = sr.items.length ∧ Post K ct (DR K ct) W σ io1 H1 ((compD sr pt vs tt te ro (sr.items.drop i) acc A2).bind k) Q,
    ⟨sr.items.length, io1.hold q, A1, [], [], rfl, x0, h1.hold hq, upd_same, .nil, Nat.zero_add _, p1⟩, ?_⟩
  rintro i m H2 ⟨io2, A2, ws, acc, hhd, e2, h2, hw, hr, hm, p2⟩
  have hq2 : q ∈ io2.hd := by rw [hhd]; exact List.mem_cons_self
  cases hd : sr.items.drop i with
  | nil =>
    rw [hd] at p2
    unfold compD at p2
    split at p2
    · rename_i hh
      have hl : sr.items.length ≤ i := by
        have := congrArg List.length hd
        rw [List.length_drop] at this
        simp at this
        omega
      have sub : ∀ a ∈ io1.hd, a ∈ io2.hd := fun a ha => by rw [hhd]; exact List.mem_cons_of_mem _ ha
      refine .inl ⟨(wk io2 H2 A2 e2 h2 hh).2 i hl, ?_⟩
      refine fin ⟨io2.nm, io1.hd⟩ io2 H2 A2 q ws acc rfl hhd h2 hw hr (h2.free rfl sub) (fun z => ?_) (Post.ext (e2.free rfl (fun _ h => h) sub) p2)
      rcases z with z | z
      · exact (h2.hid q hq2).1 z
      · exact hqn (.inr z)
    · exact p2.elim
  | cons d ds =>
    rw [hd] at p2
    unfold compD at p2
    split at p2
    · rename_i hh
      have hx : sr.items[i]? = some d := by
        have := congrArg (fun l => l[0]?) hd
        simpa using this
      have hds : sr.items.drop (i + 1) = ds := by
        have := congrArg (List.drop 1) hd
        simpa [List.drop_drop, Nat.add_comm] using this
      obtain ⟨hgo, hy⟩ := (wk io2 H2 A2 e2 h2 hh).1 i d hx
      have hil : i < sr.items.length := (List.getElem?_eq_some_iff.mp hx).1
      refine .inr ⟨hgo, fun H' => ∃ io3 A3 ws acc, io3.hd = q :: io1.hd ∧ Ext io1 H1 io3 H' ∧ HR K ct io3 H' A3 ∧ H' q = some (.lst ws) ∧ DRs K ct io3 H' ws acc ∧ Post K ct (DR K ct) W σ io1 H1 ((compD sr pt vs tt te ro ds acc A3).bind k) Q,
        fun H' ⟨io3, A3, ws, acc, g1, g2, g3, g4, g5, g6⟩ => ⟨m - 1, by omega, io3, A3, ws, acc, g1, g2, g3, g4, g5, by omega, by rw [hds]; exact g6⟩, fun x H3 yy => ?_⟩
      obtain ⟨x1, x2, x3⟩ := hy x H3 yy
      have e3 := e2.trans x1
      have hw3 : H3 q = some (.lst ws) := x1.keep q _ hw (h2.hid q hq2).1
      have hr3 := hr.mono x1 h2.noT
      split at p2
      · rename_i ro1 hput
        refine Pat.take (K := K) hs ((en1.mono e3 h1.noT).wipe vs) x3 hput fun σ2 he hσ => ⟨hσ, ?_⟩
        rw [R.bind_assoc] at p2
        refine ⟨io2, A2, ro1, ⟨x2, he⟩, (Post.calm (rep := repB) p2).mono ?_⟩
        rintro b H4 ⟨io4, A4, b', e4, h4, rb, p4⟩
        rw [show b = b' from rb]
        have e14 := e3.trans e4
        cases b' with
        | false =>
          have s4 : ∀ a ∈ (q :: io1.hd), a ∈ io4.hd := fun a ha => e4.hd1 a (by rw [hhd]; exact ha)
          have f4 : Ext io1 H1 ⟨io4.nm, q :: io1.hd⟩ H4 := e14.free rfl (fun a ha => List.mem_cons_of_mem _ ha) s4
          exact ⟨⟨io4.nm, q :: io1.hd⟩, A4, ws, acc, rfl, f4, h4.free rfl s4, e4.keep q _ hw3 (h2.hid q hq2).1, DRs.free (io := io4) (io' := ⟨io4.nm, q :: io1.hd⟩) rfl s4 (hr3.mono e4 x2.noT), p4⟩
        | true =>
          have p4 : Post K ct (DR K ct) W σ io1 H1 (((te ro1 A4).calm.bind fun y A2 => if acc.length < sizeLine then compD sr pt vs tt te ro ds (acc ++ [y]) A2 else .stk).bind k) Q := p4
          rw [R.bind_assoc] at p4
          refine ⟨io4, A4, ro1, ⟨h4, he.mono e4 x2.noT⟩, (Post.calm (rep := DR K ct) p4).mono ?_⟩
          rintro y H5 ⟨io5, A5, dy, e5, h5, ry, p5⟩
          have e45 := e4.trans e5
          have hw5 : H5 q = some (.lst ws) := e45.keep q _ hw3 (h2.hid q hq2).1
          split at p5
          · rename_i hz
            refine ⟨ws, hw5, by rw [hr.length]; exact hz, ?_⟩
            have s5 : ∀ a ∈ (q :: io1.hd), a ∈ io5.hd := fun a ha => e45.hd1 a (by rw [hhd]; exact ha)
            have hq5 : q ∈ io5.hd := s5 q List.mem_cons_self
            have f5 : Ext io1 H1 ⟨io5.nm, q :: io1.hd⟩ (upd H5 q (.lst (ws ++ [y]))) := ((e3.trans e45).stepNew hq ⟨_, hw5⟩).free rfl (fun a ha => List.mem_cons_of_mem _ ha) s5
            refine ⟨⟨io5.nm, q :: io1.hd⟩, A5, ws ++ [y], acc ++ [dy], rfl, f5, (h5.step hq5 hw5).free rfl s5, upd_same, ?_, p5⟩
            exact DRs.free (io := io5) (io' := ⟨io5.nm, q :: io1.hd⟩) rfl s5 ((((hr3.mono e4 x2.noT).mono e5 h4.noT).append (.cons ry .nil)).step hq5 hw5)
          · exact p5.elim
      · exact p2.elim
    · exact p2.elim
theorem pd_comp {fi : IF} {pt : Pat} {tt : TF} {te : EF} {elt tg iter : Expr} {ifs : List Expr} {scope : Scope} {own : List (Str × Nat)} (hc : X.calm = true) (hN : X.N.Nodup) (hi : PID X ct W tg iter fi) (ok : BlkOk X.N X.env.scope scope own) (hs' : ∀ i ∈ pt.slots, i ∈ own.map (·.2))
    (hg : ∀ (s : Shared) (H : Hp) (C : Addr) (cl : List (Str × Addr)) (fp : List Addr), PG (X.blk s H scope (compEnvC scope cl C X.env) fp) tg (pt.g X.K)) (ht : ∀ (s : Shared) (H : Hp) (C : Addr) (cl : List (Str × Addr)) (fp : List Addr), PTs (X.blk s H scope (compEnvC scope cl C X.env) fp) ifs (tT X.K ct W0 tt))
    (he : ∀ (s : Shared) (H : Hp) (C : Addr) (cl : List (Str × Addr)) (fp : List Addr), PD (X.blk s H scope (compEnvC scope cl C X.env) fp) ct W0 elt te) (hs : ∀ x, foldedSetIterable iter X.env x = pure x := by intro _; rfl) :
    PD X ct W (.ListComp elt [⟨tg, iter, ifs, 0⟩] scope pos) (eComp fi pt (own.map (·.2)) tt te) :=
  pe_mono (pe_lc hc hN hi ok hg ht he hs) fun σ H Q ⟨io, A, ro, s, p⟩ =>
    comp_D hs' s p fun io2 io3 H2 A2 p ws ds g1 g2 g3 g4 g5 g6 g7 g8 => g8.here g6 (.lst g7 g4 (g5.free g1.symm fun a ha => by rw [g2]; exact List.mem_cons_of_mem _ ha))
theorem psd_setComp {fi : IF} {pt : Pat} {tt : TF} {te : EF} {i : Nat} {y : Str} {py spos : Pos} {elt tg iter : Expr} {ifs : List Expr} {scope : Scope} {own : List (Str × Nat)} (hc : X.calm = true) (hN : X.N.Nodup) (hy : X.N[i]? = some y) (hyl : X.env.scope.names.lookup y = some .local)
    (hsw : swapsWith (.ListComp elt [⟨tg, iter, ifs, 0⟩] scope pos) (some (.Name y py)) spos.line X.env = pure true) (hi : PID X ct W tg iter fi) (ok : BlkOk X.N X.env.scope scope own) (hs' : ∀ i ∈ pt.slots, i ∈ own.map (·.2))
    (hg : ∀ (s : Shared) (H : Hp) (C : Addr) (cl : List (Str × Addr)) (fp : List Addr), PG (X.blk s H scope (compEnvC scope cl C X.env) fp) tg (pt.g X.K)) (ht : ∀ (s : Shared) (H : Hp) (C : Addr) (cl : List (Str × Addr)) (fp : List Addr), PTs (X.blk s H scope (compEnvC scope cl C X.env) fp) ifs (tT X.K ct W0 tt))
    (he : ∀ (s : Shared) (H : Hp) (C : Addr) (cl : List (Str × Addr)) (fp : List Addr), PD (X.blk s H scope (compEnvC scope cl C X.env) fp) ct W0 elt te) (hs : ∀ x, foldedSetIterable iter X.env x = pure x := by intro _; rfl) :
    PSD X ct W (.Assign [.Name y py] (.ListComp elt [⟨tg, iter, ifs, 0⟩] scope pos) spos) (sAsg (eComp fi pt (own.map (·.2)) tt te) (gNm i)) :=
  ps_mono (ps_setLc hc hN hy hyl hsw hi ok hg ht he hs) fun Z σ H ⟨io, A, ro, s, p⟩ => by
    have p' : Post X.K ct (DR X.K ct) W σ io H (eComp fi pt (own.map (·.2)) tt te ro A) (fun x H1 => Z.nx (σ.set i (some x)) H1) :=
      (Post.then (rep := DR X.K ct) s p).mono fun v H1 ⟨io1, A1, d, e1, s1, r, q⟩ => q _ io1 H1 Ext.refl ⟨s1.hr, s1.env.set r⟩
    exact comp_D hs' s p' fun io2 io3 H2 A2 p ws ds g1 g2 g3 g4 g5 g6 g7 g8 => g8.here g6 (.lst g7 g4 (g5.free g1.symm fun a ha => by rw [g2]; exact List.mem_cons_of_mem _ ha))
theorem ptsd_nil : PTs X [] (tT X.K ct W ttYes) := ⟨fun pins s σ H Q I ⟨io, A, ro, st, p⟩ => pts_nil.run pins s σ H Q I (p.here st.hr rfl)⟩
theorem ptsd_one {c : Expr} (h : PDt X ct W c ft) : PTs X [c] (tT X.K ct W ft) := pts_one h
end
end DV

set_option Elab.async false
set_option linter.all false
set_option maxRecDepth 100000
/-! DvJ: what is walked; op=; methods of lists; defs by their functions on data. -/
namespace DV
open PySem PySem.Spec PyProof.Rows L2

/-! ### what is walked -/
def charsD (x : Str) : List D := x.cps.toList.map fun c => .str ⟨#[c]⟩
def srcD (d : D) (A : Hd) : Option Src := match d with
  | .tup ds => some (.fix ds)
  | .lst ds => some (.fix ds)
  | .scr ds => some (.fix ds)
  | .str x => some (.fix (charsD x))
  | .ref n => match A[n]? with
    | some (.lst ds) => some (.num n ds)
    | _ => none
  | _ => none
def iSeq (a : EF) : IF := fun ro A => (a ro A).bind fun d A1 => match srcD d A1 with
  | some s => .ok s A1
  | none => .stk
def rangeD (lo : Int) (n : Nat) : List D := (List.range n).map fun i => .int (lo + (i : Nat))
def iRange1 (a : AF) : IF := fun ro A => (a ro A).bind fun ds A1 => match ds with
  | [.int j] => if -(2 ^ 62) ≤ j ∧ j < 2 ^ 62 then .ok (.fix (rangeD 0 j.toNat)) A1 else .stk
  | _ => .stk
def iRange2 (a : AF) : IF := fun ro A => (a ro A).bind fun ds A1 => match ds with
  | [.int i, .int j] => if -(2 ^ 62) ≤ i ∧ i < 2 ^ 62 ∧ -(2 ^ 62) ≤ j ∧ j < 2 ^ 62 then .ok (.fix (rangeD i (j - i).toNat)) A1 else .stk
  | _ => .stk
def enumD (ds : List D) : List D := ds.zipIdx.map fun p => .tup [.int (p.2 : Nat), p.1]
section
variable {K : PySem.W.Frag} {ct : String → Addr} {W : WX} {σ : L2.St} {io io' : Io} {H H' : Hp} {A A' : Hd} {ro : Env}
theorem walkL {a : Addr} {s : Src} (hs : ∀ io2 H2 A2, Ext io H io2 H2 → HR K ct io2 H2 A2 → s.here A2 → ∃ xs, SqL K H2 a xs ∧ DRs K ct io2 H2 xs s.items) : WalkR K ct io H (Itl K a) s := by
  intro io2 H2 A2 e h hh
  obtain ⟨xs, q, rs⟩ := hs io2 H2 A2 e h hh
  refine ⟨fun i d hd => ?_, fun i hi => ⟨xs, q, by rw [rs.length]; exact hi⟩⟩
  obtain ⟨v, h1, h2⟩ := rs.get hd
  refine ⟨⟨xs, v, q, h1⟩, fun x H3 y => ?_⟩
  obtain ⟨rfl, y⟩ := y
  have e1 := y xs q
  rw [h1] at e1
  cases e1
  exact ⟨Ext.refl, h, h2⟩
theorem walkT {a : Addr} {s : Src} (hs : ∀ io2 H2 A2, Ext io H io2 H2 → HR K ct io2 H2 A2 → s.here A2 → ∃ xs, SqT K H2 a xs ∧ DRs K ct io2 H2 xs s.items) : WalkR K ct io H (Itt K a) s := by
  intro io2 H2 A2 e h hh
  obtain ⟨xs, q, rs⟩ := hs io2 H2 A2 e h hh
  refine ⟨fun i d hd => ?_, fun i hi => ⟨xs, q, by rw [rs.length]; exact hi⟩⟩
  obtain ⟨v, h1, h2⟩ := rs.get hd
  refine ⟨⟨xs, v, q, h1⟩, fun x H3 y => ?_⟩
  obtain ⟨rfl, y⟩ := y
  have e1 := y xs q
  rw [h1] at e1
  cases e1
  exact ⟨Ext.refl, h, h2⟩
theorem walkR {lo : Int} {n : Nat} : WalkR K ct io H (Itr lo n) (.fix (rangeD lo n)) := by
  intro io2 H2 A2 e h _
  refine ⟨fun i d hd => ?_, fun i hi => (show n ≤ i from (by simpa [Src.items, rangeD] using hi : n ≤ i))⟩
  have hi : i < n := by
    have := (List.getElem?_eq_some_iff.mp hd).1
    simpa [Src.items, rangeD] using this
  have ed : d = .int (lo + (i : Nat)) := by
    have : (rangeD lo n)[i]? = some d := hd
    unfold rangeD at this
    rw [List.getElem?_map, List.getElem?_range hi] at this
    exact (Option.some.inj this).symm
  refine ⟨hi, fun x H3 y => ?_⟩
  obtain ⟨rfl, rfl⟩ := y
  rw [ed]
  exact ⟨Ext.refl, h, .int _⟩
theorem walkS {x : Str} : WalkR K ct io H (Its x) (.fix (charsD x)) := by
  intro io2 H2 A2 e h _
  refine ⟨fun i d hd => ?_, fun i hi => (show x.cps.size ≤ i from (by simpa [Src.items, charsD] using hi : x.cps.size ≤ i))⟩
  have hd' : (charsD x)[i]? = some d := hd
  unfold charsD at hd'
  rw [List.getElem?_map] at hd'
  cases hc : x.cps.toList[i]? with
  | none => rw [hc] at hd'; cases hd'
  | some c =>
    rw [hc] at hd'
    cases hd'
    have hc' : x.cps[i]? = some c := by rw [← Array.getElem?_toList]; exact hc
    refine ⟨(Array.getElem?_eq_some_iff.mp hc').1, fun v H3 y => ?_⟩
    obtain ⟨rfl, c', h1, rfl⟩ := y
    rw [hc'] at h1
    cases h1
    exact ⟨Ext.refl, h, .str _⟩
/-- a list under its value: read at each later state -/
theorem list_later {v : V} {d : D} {s : Src} (hr : HR K ct io H A) (r : DR K ct io H v d) (e : srcD d A = some s) (hl : asR A d = some s.items) :
    ∃ a, v = .ref a ∧ (∃ xs, SqL K H a xs) ∧ ∀ io2 H2 A2, Ext io H io2 H2 → HR K ct io2 H2 A2 → s.here A2 → ∃ xs, SqL K H2 a xs ∧ DRs K ct io2 H2 xs s.items := by
  obtain ⟨a, xs, rfl, hs, rs⟩ := asR_ok hr r hl
  refine ⟨a, rfl, ⟨xs, hs⟩, fun io2 H2 A2 x h2 hh => ?_⟩
  cases d with
  | lst ds => cases e; obtain ⟨b, ys, e1, q, rs⟩ := asR_ok h2 (r.mono x hr.noT) (ds := ds) rfl; cases e1; exact ⟨ys, q, rs⟩
  | scr ds => cases e; obtain ⟨b, ys, e1, q, rs⟩ := asR_ok h2 (r.mono x hr.noT) (ds := ds) rfl; cases e1; exact ⟨ys, q, rs⟩
  | ref n =>
    unfold srcD at e
    dsimp only at e
    cases hm : A[n]? with
    | none => rw [hm] at e; cases e
    | some m =>
      rw [hm] at e
      cases m with
      | lst ds =>
        cases e
        have hh : A2[n]? = some (.lst ds) := hh
        obtain ⟨b, ys, e1, q, rs⟩ := asR_ok h2 (r.mono x hr.noT) (ds := ds) (by unfold asR asL; dsimp only; rw [hh])
        cases e1
        exact ⟨ys, q, rs⟩
      | dic es => cases e
      | ins c fs => cases e
      | exc c fs => cases e
      | tab es => cases e
  | _ => cases hl
end
section
variable {X : Cx} {ct : String → Addr} {W : WX} {e a b tg : Expr} {pos : Pos} {fa fb : EF} {ft fu : TF} {fl : AF}
theorem srcD_asR {d : D} {A : Hd} {s : Src} (e : srcD d A = some s) (h1 : ∀ ds, d ≠ .tup ds) (h2 : ∀ x, d ≠ .str x) : asR A d = some s.items := by
  cases d with
  | tup ds => exact absurd rfl (h1 ds)
  | str x => exact absurd rfl (h2 x)
  | lst ds => cases e; rfl
  | scr ds => cases e; rfl
  | ref n =>
    unfold srcD at e
    dsimp only at e
    cases hm : A[n]? with
    | none => rw [hm] at e; cases e
    | some m =>
      rw [hm] at e
      cases m with
      | lst ds => cases e; unfold asR asL; dsimp only; rw [hm]; rfl
      | dic es => cases e
      | ins c fs => cases e
      | exc c fs => cases e
      | tab es => cases e
  | _ => cases e
theorem pid_seq (ha : PD X ct W e fa) : PID X ct W tg e (iSeq fa) := by
  refine ⟨fun pins s σ H Rk I h => ?_⟩
  obtain ⟨io, A, ro, st, p⟩ := h
  unfold iSeq at p
  by_cases ht : ∃ ds A1, fa ro A = .ok (.tup ds) A1
  · obtain ⟨ds, A1, q⟩ := ht
    rw [q, R.bind_ok] at p
    refine (pi_tup ha).run pins s σ H Rk I ⟨io, A, ro, st, ?_⟩
    rw [q]
    intro v io1 H1 e1 h1 r
    cases r with
    | @tup a xs _ hs rs =>
      refine ⟨a, rfl, ⟨xs, hs.sq⟩, p _ io1 H1 e1 h1 (walkT fun io2 H2 A2 x h2 _ => ⟨xs, SqT.ext x h1.noT hs.sq, rs.mono x h1.noT⟩)⟩
  by_cases hx : ∃ x A1, fa ro A = .ok (.str x) A1
  · obtain ⟨x, A1, q⟩ := hx
    rw [q, R.bind_ok] at p
    refine (pi_str ha).run pins s σ H Rk I ⟨io, A, ro, st, ?_⟩
    rw [q]
    intro v io1 H1 e1 h1 r
    cases r with
    | str x => exact ⟨x, rfl, p _ io1 H1 e1 h1 walkS⟩
  refine (pi_list ha).run pins s σ H Rk I ⟨io, A, ro, st, ?_⟩
  cases q : fa ro A with
  | stk => rw [q] at p; exact p
  | err c fs A1 => rw [q] at p; exact p
  | ok d A1 =>
    rw [q, R.bind_ok] at p
    cases hs : srcD d A1 with
    | none => rw [hs] at p; exact p.elim
    | some sr =>
      rw [hs] at p
      intro v io1 H1 e1 h1 r
      obtain ⟨a, rfl, hx1, later⟩ := list_later h1 r hs (srcD_asR hs (fun ds z => ht ⟨ds, A1, by rw [q, z]⟩) fun x z => hx ⟨x, A1, by rw [q, z]⟩)
      exact ⟨a, rfl, hx1, p _ io1 H1 e1 h1 (walkL later)⟩
theorem pid_range1 {p : Pos} (hg : Gl X "range") (hm : X.mg "range" = none) (ha : PDa X ct W [a] fl) (hs : starEach [a] X.env = [(false, eval a X.env)] := by rfl) : PID X ct W tg (.Call (.Name "range" p) [a] [] pos) (iRange1 fl) :=
  pi_mono (pi_range1 hg hm ha hs) fun σ H Q ⟨io, A, ro, st, p⟩ => ⟨io, A, ro, st, (p.bind (rep := DRs X.K ct)).mono fun vs H1 ⟨io1, A1, ds, e1, h1, rs, p1⟩ => by
    split at p1
    · rename_i j
      split at p1
      · rename_i hb
        cases rs with
        | cons r rs => cases rs; cases r; exact ⟨j, rfl, hb.1, hb.2, p1 _ io1 H1 Ext.refl h1 walkR⟩
      · exact p1.elim
    · exact p1.elim⟩
theorem pid_range2 {p : Pos} (hg : Gl X "range") (hm : X.mg "range" = none) (ha : PDa X ct W [a, b] fl) (hs : starEach [a, b] X.env = [(false, eval a X.env), (false, eval b X.env)] := by rfl) (hs2 : starEach [b] X.env = [(false, eval b X.env)] := by rfl) :
    PID X ct W tg (.Call (.Name "range" p) [a, b] [] pos) (iRange2 fl) :=
  pi_mono (pi_range2 hg hm ha hs hs2) fun σ H Q ⟨io, A, ro, st, p⟩ => ⟨io, A, ro, st, (p.bind (rep := DRs X.K ct)).mono fun vs H1 ⟨io1, A1, ds, e1, h1, rs, p1⟩ => by
    split at p1
    · rename_i i j
      split at p1
      · rename_i hb
        cases rs with
        | cons r rs => cases rs with
          | cons r2 rs => cases rs; cases r; cases r2; exact ⟨i, j, rfl, hb, p1 _ io1 H1 Ext.refl h1 walkR⟩
      · exact p1.elim
    · exact p1.elim⟩

/-! ### name op= e -/
def sAug (i : Nat) (g : D → D → Hd → R D) (a : EF) : SF := fun ro A => match ro[i]? with
  | some (some x) => (a ro A).then ro fun y A1 => (g x y A1).then ro fun z A2 => .go .nx (ro.set i (some z)) A2
  | _ => .stk
theorem psd_aug {i : Nat} {x : Str} {op : Operator} {r : V → V → Hp → VK → Prop} {g : D → D → Hd → R D} {pos' : Pos} (hN : X.N.Nodup) (hi : X.N[i]? = some x) (hx : Loc X.env.scope x) (ha : PD X ct W e fa) (hop : PIp X op r) (o : OpD X.K ct r g)
    (hf : X.fn x = true ∨ X.env.scope.names.lookup x = some .local := by first | exact .inl rfl | exact .inr rfl | assumption) : PSD X ct W (.AugAssign (.Name x pos') op e pos) (sAug i g fa) :=
  ps_mono (ps_aug hN hi hx ha hop hf) fun Z σ H ⟨io, A, ro, s, p⟩ => by
    unfold sAug at p
    split at p
    · rename_i d hd
      obtain ⟨v, hv, rv⟩ := s.env.at_ i d hd
      refine ⟨v, hv, io, A, ro, s, (Post.then (rep := DR X.K ct) s p).mono fun y H1 ⟨io1, A1, dy, e1, s1, ry, q⟩ => ?_⟩
      exact o W σ io1 H1 A1 v y d dy _ s1.hr (rv.mono e1 s.hr.noT) ry ((Post.then (rep := DR X.K ct) s1 q).mono fun z H2 ⟨io2, A2, dz, e2, s2, rz, q2⟩ => q2 _ io2 H2 Ext.refl ⟨s2.hr, s2.env.set rz⟩)
    · exact p.elim
abbrev rIpI (g : Int → Int → Int) : V → V → Hp → VK → Prop := ipI g
def gAddI (d e : D) (A : Hd) : R D := match d, e with
  | .int i, .int j => .ok (.int (i + j)) A
  | _, _ => .stk
theorem gAddI_ok {K : PySem.W.Frag} : OpD K ct (ipI fun i j => i + j) gAddI := by
  intro W σ io H A x y d e Q h rx ry p
  unfold gAddI at p
  split at p
  · cases rx; cases ry
    exact ⟨_, _, rfl, rfl, p.here h (.int _)⟩
  · exact p.elim
theorem gSubI_ok {K : PySem.W.Frag} : OpD K ct (ipI fun i j => i - j) gSub := by
  intro W σ io H A x y d e Q h rx ry p
  unfold gSub at p
  split at p
  · cases rx; cases ry
    exact ⟨_, _, rfl, rfl, p.here h (.int _)⟩
  · exact p.elim

/-! ### o.m(..) of a list -/
def isL (A : Hd) (d : D) : Bool := (asR A d).isSome
def eMeth (chk : Hd → D → Bool) (g : D → List D → Hd → R D) (o : EF) (a : AF) : EF := fun ro A => (o ro A).bind fun x A1 => if chk A1 x then (a ro A1).bind fun ds A2 => g x ds A2 else .stk
def MeD (K : PySem.W.Frag) (ct : String → Addr) (r : V → List V → Hp → VK → Prop) (g : D → List D → Hd → R D) : Prop := ∀ (W : WX) σ io H A v x vs ds Q, HR K ct io H A → DR K ct io H v x → DRs K ct io H vs ds → Post K ct (DR K ct) W σ io H (g x ds A) Q → r v vs H Q
theorem meth_D {K : PySem.W.Frag} {T : String} {r : V → List V → Hp → VK → Prop} {g : D → List D → Hd → R D} {chk : Hd → D → Bool} {fo : EF} (o : MeD K ct r g) (hc : ∀ io H A v x, HR K ct io H A → DR K ct io H v x → chk A x = true → tyV K T v H) {σ : L2.St} {H : Hp} {Q : VK} (h : tD K ct W (eMeth chk g fo fl) σ H Q) :
    tBM K T r (tD K ct W fo) (tL K ct W fl) σ H Q := by
  obtain ⟨io, A, ro, s, p⟩ := h
  refine ⟨io, A, ro, s, (p.bind (rep := DR K ct)).mono ?_⟩
  rintro v H1 ⟨io1, A1, x, e1, h1, r1, p1⟩
  split at p1
  · rename_i hk
    refine ⟨hc _ _ _ _ _ h1 r1 hk, io1, A1, ro, s.mono e1 h1, (p1.bind (rep := DRs K ct)).mono ?_⟩
    rintro vs H2 ⟨io2, A2, ds, e2, h2, r2, p2⟩
    exact o W σ io2 H2 A2 v x vs ds Q h2 (r1.mono e2 h1.noT) r2 p2
  · exact p1.elim
theorem isL_ok {K : PySem.W.Frag} : ∀ io H A v x, HR K ct io H A → DR K ct io H v x → isL A x = true → tyV K "list" v H := by
  intro io H A v x h r e
  unfold isL at e
  obtain ⟨ds, hd⟩ := Option.isSome_iff_exists.mp e
  obtain ⟨a, xs, rfl, q, _⟩ := asR_ok h r hd
  exact .inl ⟨rfl, xs, q⟩
def gAppend (x : D) (ds : List D) (A : Hd) : R D := match numL A x, ds with
  | some (n, es), [d] => if es.length < sizeLine then .ok .non (A.set n (.lst (es ++ [d]))) else .stk
  | _, _ => .stk
theorem gAppend_ok {K : PySem.W.Frag} : MeD K ct rAppend gAppend := by
  intro W σ io H A v x vs ds Q h r rs p
  unfold gAppend at p
  split at p
  · rename_i n es d hn
    split at p
    · rename_i hz
      obtain ⟨a, xs, rfl, rfl, hio, hH, rx⟩ := numL_ok h r hn
      cases rs with
      | @cons y _ _ _ ry rs =>
        cases rs
        have x1 := h.extW (o := .lst (xs ++ [y])) hio (nfzL hH)
        exact ⟨a, xs, y, rfl, rfl, hH, by rw [rx.length]; exact hz, p _ io _ x1 (h.write hio (nfzL hH) ⟨_, upd_same, (rx.append (.cons ry .nil)).mono x1 h.noT⟩) .non⟩
    · exact p.elim
  · exact p.elim
def gPopAt (x : D) (ds : List D) (A : Hd) : R D := match numL A x, ds with
  | some (n, es), [.int i] => if 0 ≤ i ∧ i < 2 ^ 63 then (match es[i.toNat]? with
    | some y => .ok y (A.set n (.lst (es.eraseIdx i.toNat)))
    | none => .stk) else .stk
  | _, _ => .stk
theorem gPopAt_ok {K : PySem.W.Frag} : MeD K ct rPopAt gPopAt := by
  intro W σ io H A v x vs ds Q h r rs p
  unfold gPopAt at p
  split at p
  · rename_i n es i hn
    split at p
    · rename_i hz
      split at p
      · rename_i y hy
        obtain ⟨a, xs, rfl, rfl, hio, hH, rx⟩ := numL_ok h r hn
        cases rs with
        | cons ri rs =>
          cases rs
          cases ri
          obtain ⟨vy, hv, ry⟩ := rx.get hy
          have hlt : i.toNat < xs.length := (List.getElem?_eq_some_iff.mp hv).1
          have x1 := h.extW (o := .lst (xs.eraseIdx i.toNat)) hio (nfzL hH)
          refine ⟨a, xs, i, i.toNat, vy, rfl, rfl, hH, by omega, hz.2, seqIndex_of hz.1 (by omega), hv, ?_⟩
          exact p _ io _ x1 (h.write hio (nfzL hH) ⟨_, upd_same, (rx.eraseIdx _).mono x1 h.noT⟩) (ry.mono x1 h.noT)
      · exact p.elim
    · exact p.elim
  · exact p.elim
end
end DV

set_option Elab.async false
set_option linter.all false
set_option maxRecDepth 100000
/-! DvK: a def's promise by a function on data; its body; its calls. -/
namespace DV
open PySem PySem.Spec PyProof.Rows L2

abbrev FF := List D → Hd → R D
/-- the promise: n arguments, the function F -/
def spD (K : PySem.W.Frag) (ct : String → Addr) (n : Nat) (F : FF) : Sp := fun vs H Q E => ∃ io A ds, vs.length = n ∧ HR K ct io H A ∧ DRs K ct io H vs ds ∧ Post K ct (DR K ct) (fun cls dd _ H' => E cls dd H') [] io H (F ds A) Q

mutual
/-- every number within is below n -/
def D.lt (n : Nat) : D → Bool
  | .tup ds => D.lts n ds
  | .lst ds => D.lts n ds
  | .scr ds => D.lts n ds
  | .dic es => D.ltk n es
  | .ref k => decide (k < n)
  | _ => true
def D.lts (n : Nat) : List D → Bool
  | [] => true
  | d :: ds => D.lt n d && D.lts n ds
def D.ltk (n : Nat) : List (Key × D) → Bool
  | [] => true
  | (_, d) :: es => D.lt n d && D.ltk n es
end
theorem D.lts_all (n : Nat) : ∀ ds : List D, D.lts n ds = ds.all (D.lt n)
  | [] => by simp [D.lts]
  | d :: ds => by simp [D.lts, D.lts_all n ds]
theorem D.ltk_all (n : Nat) : ∀ es : List (Key × D), D.ltk n es = D.lts n (es.map (·.2))
  | [] => by simp [D.lts, D.ltk]
  | (k, d) :: es => by simp [D.lts, D.ltk, D.ltk_all n es]
def M.lt (n : Nat) : M → Bool
  | .lst ds => D.lts n ds
  | .dic es => D.ltk n es
  | .ins _ fs => D.lts n (fs.map (·.2))
  | .exc _ fs => D.lts n (fs.map (·.2))
  | .tab es => D.ltk n es

section
variable {K : PySem.W.Frag} {ct : String → Addr} {W : WX} {σ : L2.St} {io io' : Io} {H H' : Hp} {A A' : Hd} {ro : Env}
def Io.cut (io : Io) (n : Nat) : Io := ⟨io.nm.take n, io.hd⟩
theorem Io.cut_mem {io : Io} {n : Nat} {a : Addr} (h : a ∈ io.cut n) : a ∈ io := h.elim (fun z => .inl (List.mem_of_mem_take z)) .inr
mutual
theorem DR.lop {n : Nat} : ∀ {v : V} {d : D}, DR K ct io H v d → d.lt n = true → DR K ct (io.cut n) H v d
  | _, _, .non, _ => .non
  | _, _, .bl b, _ => .bl b
  | _, _, .int i, _ => .int i
  | _, _, .str x, _ => .str x
  | _, _, .tup h hs, e => .tup h (DRs.lop hs (by simpa [D.lt] using e))
  | _, _, .lst n h hs, e => .lst (fun z => n (Io.cut_mem z)) h (DRs.lop hs (by simpa [D.lt] using e))
  | _, _, .scr h hs, e => .scr (h.elim (fun ⟨n, q⟩ => .inl ⟨fun z => n (Io.cut_mem z), q⟩) .inr) (DRs.lop hs (by simpa [D.lt] using e))
  | _, _, .dic n h k hs, e => .dic (fun z => n (Io.cut_mem z)) h k (DRs.lop hs (by simpa [D.lt, D.ltk_all] using e))
  | _, _, .ref (n := j) h, e => .ref (by
      have h2 : j < n := by simpa [D.lt] using e
      show (io.nm.take n)[j]? = _
      rw [List.getElem?_take_of_lt h2]; exact h)
  | _, _, .ty n, _ => .ty n
  | _, _, .own n, _ => .own n
theorem DRs.lop {n : Nat} : ∀ {vs : List V} {ds : List D}, DRs K ct io H vs ds → D.lts n ds = true → DRs K ct (io.cut n) H vs ds
  | _, _, .nil, _ => .nil
  | _, _, .cons h hs, e => by
    rw [D.lts, Bool.and_eq_true] at e
    have e' := e
    exact .cons (DR.lop h e'.1) (DRs.lop hs e'.2)
end
theorem MR.lop {n : Nat} {a : Addr} {m : M} (h : MR K ct io H a m) (e : m.lt n = true) : MR K ct (io.cut n) H a m := by
  cases m with
  | lst ds => obtain ⟨xs, q, r⟩ := h; exact ⟨xs, q, r.lop e⟩
  | dic es => obtain ⟨xs, q, k, r⟩ := h; exact ⟨xs, q, k, r.lop (by simpa [M.lt, D.ltk_all] using e)⟩
  | tab es => obtain ⟨o, xs, q, k, r⟩ := h; exact ⟨o, xs, q, k, r.lop (by simpa [M.lt, D.ltk_all] using e)⟩
  | ins c fs => obtain ⟨dx, gs, q, k, r⟩ := h; exact ⟨dx, gs, q, k, r.lop e⟩
  | exc c fs =>
    obtain ⟨d, q, z⟩ := h
    refine ⟨d, q, z.imp id ?_⟩
    rintro ⟨p, gs, h1, h2, h3, h4, h5⟩
    exact ⟨p, gs, h1, fun w => h2 (Io.cut_mem w), h3, h4, h5.lop e⟩
mutual
theorem DR.lt_of : ∀ {v : V} {d : D}, DR K ct io H v d → d.lt io.nm.length = true
  | _, _, .non => by simp [D.lt]
  | _, _, .bl b => by simp [D.lt]
  | _, _, .int i => by simp [D.lt]
  | _, _, .str x => by simp [D.lt]
  | _, _, .tup h hs => by simpa [D.lt] using DRs.lt_of hs
  | _, _, .lst n h hs => by simpa [D.lt] using DRs.lt_of hs
  | _, _, .scr h hs => by simpa [D.lt] using DRs.lt_of hs
  | _, _, .dic n h k hs => by simpa [D.lt, D.ltk_all] using DRs.lt_of hs
  | _, _, .ref h => by simpa [D.lt] using (List.getElem?_eq_some_iff.mp h).1
  | _, _, .ty n => by simp [D.lt]
  | _, _, .own n => by simp [D.lt]
theorem DRs.lt_of : ∀ {vs : List V} {ds : List D}, DRs K ct io H vs ds → D.lts io.nm.length ds = true
  | _, _, .nil => by simp [D.lts]
  | _, _, .cons h hs => by simp [D.lts, DR.lt_of h, DRs.lt_of hs]
end
theorem MR.lt_of {a : Addr} {m : M} (h : MR K ct io H a m) : m.lt io.nm.length = true := by
  cases m with
  | lst ds => obtain ⟨xs, q, r⟩ := h; exact r.lt_of
  | dic es => obtain ⟨xs, q, k, r⟩ := h; simpa [M.lt, D.ltk_all] using r.lt_of
  | tab es => obtain ⟨o, xs, q, k, r⟩ := h; simpa [M.lt, D.ltk_all] using r.lt_of
  | ins c fs => obtain ⟨dx, gs, q, k, r⟩ := h; exact r.lt_of
  | exc c fs =>
    obtain ⟨d, q, z⟩ := h
    rcases z with rfl | ⟨p, gs, h1, h2, h3, h4, h5⟩
    · simp [M.lt, D.lts]
    · exact h5.lt_of
theorem D.lt_le {n m : Nat} (h : n ≤ m) : ∀ {d : D}, d.lt n = true → d.lt m = true := by
  intro d
  refine D.rec (motive_1 := fun d => d.lt n = true → d.lt m = true) (motive_2 := fun ds => D.lts n ds = true → D.lts m ds = true) (motive_3 := fun es => D.ltk n es = true → D.ltk m es = true) (motive_4 := fun p => p.2.lt n = true → p.2.lt m = true) ?_ ?_ ?_ ?_ ?_ ?_ ?_ ?_ ?_ ?_ ?_ ?_ ?_ ?_ ?_ d
  all_goals (try (intros; simp [D.lt]; done))
  · intro ds ih e; simp only [D.lt] at e ⊢; exact ih e
  · intro ds ih e; simp only [D.lt] at e ⊢; exact ih e
  · intro ds ih e; simp only [D.lt] at e ⊢; exact ih e
  · intro ds ih e; simp only [D.lt] at e ⊢; exact ih e
  · intro k e; simp only [D.lt, decide_eq_true_eq] at e ⊢; omega
  · intro _; simp [D.lts]
  · intro d ds ih1 ih2 e; simp only [D.lts, Bool.and_eq_true] at e ⊢; exact ⟨ih1 e.1, ih2 e.2⟩
  · intro _; simp [D.ltk]
  · intro p es ih1 ih2 e; obtain ⟨k, d⟩ := p; simp only [D.ltk, Bool.and_eq_true] at e ⊢; exact ⟨ih1 e.1, ih2 e.2⟩
  · intro k d ih e; exact ih e
theorem HR.lop {n : Nat} (h : HR K ct io H A) (hm : ∀ k m, k < n → A[k]? = some m → m.lt n = true) : HR K ct (io.cut n) H (A.take n) := by
  refine ⟨h.nd.sublist (List.take_sublist _ _), by show (io.nm.take n).length = _; rw [List.length_take, List.length_take, h.len], fun k a m e1 e2 => ?_, fun a ha => ⟨fun z => (h.hid a ha).1 (List.mem_of_mem_take z), (h.hid a ha).2⟩⟩
  have hk : k < n := by
    have := (List.getElem?_eq_some_iff.mp e2).1
    rw [List.length_take] at this
    omega
  rw [List.getElem?_take_of_lt hk] at e2
  have e1 : (io.nm.take n)[k]? = some a := e1
  rw [List.getElem?_take_of_lt hk] at e1
  exact (h.at_ k a m e1 e2).lop (hm k m hk e2)
theorem Ext.lop {n : Nat} (x : Ext io H io' H') (hn : io.nm.length ≤ n) : Ext io H (io'.cut n) H' := by
  obtain ⟨more, e⟩ := x.pre
  refine ⟨⟨more.take (n - io.nm.length), ?_⟩, x.hd1, x.hd2, fun b h k => x.fresh b (List.mem_of_mem_take h) k, x.keep, x.there, x.frz⟩
  show io'.nm.take n = _
  rw [e, List.take_append, List.take_of_length_le hn]

/-- the value that is handed back: a numbered list that is dropped stands by value -/
def frz (n : Nat) (A : Hd) (d : D) : Option D := if d.lt n = true then some d else match d with
  | .ref k => match A[k]? with
    | some (.lst ds) => if D.lts n ds = true then some (.lst ds) else none
    | some (.dic es) => if D.ltk n es = true then some (.dic es) else none
    | _ => none
  | _ => none
theorem frz_ok {n : Nat} {v : V} {d d' : D} (h : HR K ct io H A) (r : DR K ct io H v d) (e : frz n A d = some d') : DR K ct (io.cut n) H v d' := by
  unfold frz at e
  split at e
  · rename_i hl
    cases e
    exact r.lop hl
  · rename_i hl
    split at e
    · rename_i k
      cases r with
      | @ref a _ q =>
        have hk : ¬ k < n := by simpa [D.lt] using hl
        have na : a ∉ io.cut n := fun z => by
          rcases z with z | z
          · obtain ⟨j, hj, ej⟩ := List.getElem_of_mem (show a ∈ io.nm.take n from z)
            have hj' : j < n ∧ j < io.nm.length := by rw [List.length_take] at hj; omega
            rw [List.getElem_take] at ej
            obtain ⟨hk2, ek⟩ := List.getElem?_eq_some_iff.mp q
            have := (List.getElem_inj h.nd).mp (ej.trans ek.symm)
            omega
          · exact (h.hid a z).1 (List.mem_of_getElem? q)
        split at e
        · rename_i ds hm
          split at e
          · rename_i hc
            cases e
            obtain ⟨xs, q1, rs⟩ := h.get q hm
            exact .lst na q1 (rs.lop hc)
          · cases e
        · rename_i es hm
          split at e
          · rename_i hc
            cases e
            obtain ⟨xs, q1, k1, rs⟩ := h.get q hm
            exact .dic na q1 k1 (rs.lop (by rw [← D.ltk_all]; exact hc))
          · cases e
        · cases e
    · cases e

/-- how a body's end gives the function's result: all is kept, or the numbers from n on are dropped -/
def FinV (A : Hd) (d : D) (A' : Hd) (r : R D) : Prop :=
  r = .ok d A' ∨ ∃ n d', A.length ≤ n ∧ frz n A' d = some d' ∧ (∀ k m, k < n → A'[k]? = some m → A[k]? = some m ∨ m.lt n = true) ∧ r = .ok d' (A'.take n)
def FinOk (A : Hd) (o : Out) (r : R D) : Prop := match o with
  | .go (.ret d) _ A' => FinV A d A' r
  | .go .nx _ A' => FinV A .non A' r
  | .err c fs _ A' => r = .err c fs A' ∨ ∃ n, A.length ≤ n ∧ D.lts n (fs.map (·.2)) = true ∧ (∀ k m, k < n → A'[k]? = some m → A[k]? = some m ∨ m.lt n = true) ∧ r = .err c fs (A'.take n)
  | _ => False
theorem fin_cut {n : Nat} (h : HR K ct io H A) (x : Ext io H io' H') (h' : HR K ct io' H' A') (hn : A.length ≤ n) (hm : ∀ k m, k < n → A'[k]? = some m → A[k]? = some m ∨ m.lt n = true) : HR K ct (io'.cut n) H' (A'.take n) ∧ Ext io H (io'.cut n) H' := by
  refine ⟨h'.lop fun k m hk e => ?_, x.lop (by rw [h.len]; exact hn)⟩
  rcases hm k m hk e with q | q
  · have hl : k < io.nm.length := by rw [h.len]; exact (List.getElem?_eq_some_iff.mp q).1
    have mr := h.at_ k io.nm[k] m (List.getElem?_eq_getElem hl) q
    have := mr.lt_of
    cases m with
    | lst ds => simp only [M.lt] at this ⊢; rw [D.lts_all, List.all_eq_true] at this ⊢; exact fun d hd => D.lt_le (by rw [h.len]; exact hn) (this d hd)
    | dic es => simp only [M.lt] at this ⊢; rw [D.ltk_all, D.lts_all, List.all_eq_true] at this ⊢; exact fun d hd => D.lt_le (by rw [h.len]; exact hn) (this d hd)
    | tab es => simp only [M.lt] at this ⊢; rw [D.ltk_all, D.lts_all, List.all_eq_true] at this ⊢; exact fun d hd => D.lt_le (by rw [h.len]; exact hn) (this d hd)
    | ins c fs => simp only [M.lt] at this ⊢; rw [D.lts_all, List.all_eq_true] at this ⊢; exact fun d hd => D.lt_le (by rw [h.len]; exact hn) (this d hd)
    | exc c fs => simp only [M.lt] at this ⊢; rw [D.lts_all, List.all_eq_true] at this ⊢; exact fun d hd => D.lt_le (by rw [h.len]; exact hn) (this d hd)
  · exact q
theorem fin_ret {d : D} {r : R D} {v : V} {E : XK} {Q : VK} (h : HR K ct io H A) (x : Ext io H io' H') (h' : HR K ct io' H' A') (rv : DR K ct io' H' v d) (f : FinV A d A' r) (p : Post K ct (DR K ct) (fun cls dd _ H' => E cls dd H') [] io H r Q) : Q v H' := by
  rcases f with rfl | ⟨n, d', hn, hf, hm, rfl⟩
  · exact p v io' H' x h' rv
  · obtain ⟨g1, g2⟩ := fin_cut h x h' hn hm
    exact p v (io'.cut n) H' g2 g1 (frz_ok h' rv hf)
end

/-- the slots at the entry -/
def startD (N : Nat) (ds : List D) : Env := ds.map some ++ List.replicate (N - ds.length) none
theorem start_D {K : PySem.W.Frag} {ct : String → Addr} {io : Io} {H : Hp} {vs : List V} {ds : List D} {N : List Str} (r : DRs K ct io H vs ds) : EnvR K ct io H (startD N.length ds) (L2.start N vs) := by
  unfold startD L2.start
  refine ⟨by simp [r.length], fun i d e => ?_⟩
  by_cases hi : i < ds.length
  · rw [List.getElem?_append_left (by simpa using hi), List.getElem?_map] at e
    cases hd : ds[i]? with
    | none => rw [hd] at e; cases e
    | some d' =>
      rw [hd] at e
      have e' : d' = d := by simpa using e
      subst e'
      obtain ⟨v, hv, rv⟩ := r.get hd
      refine ⟨v, ?_, rv⟩
      rw [List.getElem?_append_left (by simpa [r.length] using hi), List.getElem?_map, hv]
      rfl
  · rw [List.getElem?_append_right (by simpa using hi), List.getElem?_replicate] at e
    split at e <;> cases e

section
variable {P : Program} {w : World} {K : PySem.W.Frag} {mg : Str → Option Value} {base : Heap} {ct : String → Addr}
/-- the context of a def's body -/
abbrev cxD (P : Program) (w : World) (K : PySem.W.Frag) (mg : Str → Option Value) (base : Heap) (N : List Str) (qual : Str) (st : Stmt) (f : Addr) (cdv : Value) (A : Around) (outer : List PySem.Env) (s : Shared) (H : Hp) (E : XK) : Cx :=
  cxOf (L2.CX P w) P w K mg base N qual (defScope st) f cdv A outer s H E
abbrev WD (E : XK) : WX := fun cls d _ H => E cls d H
/-- THE RULE for a def: its derivation fb, and that F is what the body gives -/
theorem okD {x qual : Str} {st : Stmt} {f : Addr} {fd : FuncData} {N ps : List Str} {k : Nat} {F : FF} {fb : SF} (Fn : Fun K x qual st f fd) (S : FnScope N ps (defScope st))
    (drv : ∀ (cdv : Value) (A : Around) (outer : List PySem.Env) (s : Shared) (H : Hp) (E : XK), A.guards = some [] → Room k (A.deeper (envOfC qual (defScope st) s.heap.objs.size f cdv)) → PSsD (cxD P w K mg base N qual st f cdv A outer s H E) ct (WD E) (defBody st) fb)
    (hF : ∀ ds A, ds.length = ps.length → F ds A ≠ .stk → FinOk A (fb (startD N.length ds) A) (F ds A)) : FnG P w K mg base (k + 1) f fd ps (spD K ct ps.length F) := by
  refine okG Fn S (fun vs H Q E ⟨_, _, _, h, _⟩ => h) fun cdv A0 outer s H vs Q E hg hr ⟨io, A, ds, hl, h, rs, p⟩ => ?_
  refine ⟨_, drv cdv A0 outer s H E hg hr, ?_⟩
  refine ⟨io, A, startD N.length ds, ⟨h, start_D rs⟩, ?_⟩
  have hns : F ds A ≠ .stk := fun z => by rw [z] at p; exact p
  have fo := hF ds A (by rw [← rs.length]; exact hl) hns
  cases ho : fb (startD N.length ds) A with
  | stk => rw [ho] at fo; exact fo.elim
  | go fl ro' A' =>
    rw [ho] at fo
    cases fl with
    | bk => exact fo.elim
    | ct => exact fo.elim
    | nx => exact fun σ' io' H' x s' => fin_ret h x s'.hr .non fo p
    | ret d => exact fun v io' H' x h' rv => fin_ret h x h' rv fo p
  | err c fs ro' A' =>
    rw [ho] at fo
    intro cls dd σ' io' H' x s' xr
    rcases fo with q | ⟨n, hn, hf, hm, q⟩
    · rw [q] at p
      exact p cls dd io' H' x s'.hr xr
    · rw [q] at p
      obtain ⟨g1, g2⟩ := fin_cut h x s'.hr hn hm
      refine p cls dd (io'.cut n) H' g2 g1 ⟨xr.cls, ?_⟩
      rcases xr.fds with z | ⟨pp, gs, h1, h2, h3, h4, h5⟩
      · exact .inl z
      · exact .inr ⟨pp, gs, h1, fun z => h2 (Io.cut_mem z), h3, h4, h5.lop hf⟩
end

/-- a def that may be called by the module's name x, with defaults dds -/
structure Cal (P : Program) (w : World) (K : PySem.W.Frag) (mg : Str → Option Value) (base : Heap) (ct : String → Addr) (k : Nat) (x : Str) (n : Nat) (dds : List D) (F : FF) : Prop where
  ex : ∃ f fd ps ds dvs, FnG P w K mg base k f fd ps (spD K ct n F) ∧ mg x = some (.ref f) ∧ PySem.W.keepIn K (.ref f) = true ∧ Binds K fd ps ds ∧ Vals dvs ds ∧ ∀ io H, DRs K ct io H dvs dds
section
variable {X : Cx} {ct : String → Addr} {W : WX} {k : Nat} {f : Addr} {fd : FuncData} {ps : List Str} {n : Nat} {F : FF} {ds : List Value} {dvs : List V} {dds : List D} {x : Str} {p pos : Pos} {e : Expr} {es : List Expr} {fl : AF}
theorem spD_call {n : Nat} {vs : List V} {ds : List D} {σ : L2.St} {io : Io} {H : Hp} {A : Hd} {Q : VK} (hl : vs.length = n) (h : HR X.K ct io H A) (r : DRs X.K ct io H vs ds) (q : Post X.K ct (DR X.K ct) W σ io H (F ds A) Q) : spD X.K ct n F vs H Q (WE W σ) := by
  refine ⟨io, A, ds, hl, h, r, ?_⟩
  cases hF : F ds A with
  | ok d A1 => rw [hF] at q; exact q
  | err c fs A1 => rw [hF] at q; exact q
  | stk => rw [hF] at q; exact q
/-- the arguments are as many -/
def Ar (n : Nat) (fl : AF) : Prop := ∀ ro A ds A', fl ro A = .ok ds A' → ds.length = n
theorem ar_nil : Ar 0 aNil := fun ro A ds A' h => by cases h; rfl
theorem ar_cons {n : Nat} {a : EF} {fl : AF} (h : Ar n fl) : Ar (n + 1) (aCons a fl) := fun ro A ds A' e => by
  unfold aCons at e
  cases ha : a ro A with
  | ok d A1 =>
    rw [ha, R.bind_ok] at e
    cases hl : fl ro A1 with
    | ok ds2 A2 =>
      rw [hl, R.bind_ok] at e
      cases e
      rw [List.length_cons, h _ _ _ _ hl]
    | err c fs A2 => rw [hl] at e; cases e
    | stk => rw [hl] at e; cases e
  | err c fs A1 => rw [ha] at e; cases e
  | stk => rw [ha] at e; cases e
/-- f(e, ..) -/
theorem pd_call {j m : Nat} (c : Cal X.prog X.w X.K X.mg X.base ct k x n dds F) (hgd : X.A.guards = some []) (hr : Room j X.A) (hk : k ≤ j) (hg : Gl X x) (tk : Takes X W) (ha : PDa X ct W (e :: es) fl) (hal : Ar m fl) (hn : m + dds.length = n)
    (hdb : (x == ("__debug__" : Str)) = false := by decide) (he : starEach (e :: es) X.env = (false, eval e X.env) :: starEach es X.env := by rfl) (hpl : (backTo pos (starEach es X.env)).any (·.1) = false := by rfl) :
    PD X ct W (.Call (.Name x p) (e :: es) [] pos) (eArgs (fun ds A => F (ds ++ dds) A) fl) := by
  obtain ⟨f, fd, ps, dsv, dvs, Fn, hm, hkp, hb, hd, hdd⟩ := c.ex
  refine pe_mono (pe_G Fn hgd (hr.mono hk) hg hm hkp hb hd tk ha hdb he hpl) fun σ H Q ⟨io, A, ro, s, q⟩ => ?_
  cases hf : fl ro A with
  | stk => unfold eArgs at q; rw [hf] at q; exact q.elim
  | err c fs A1 => refine ⟨io, A, ro, s, ?_⟩; unfold eArgs at q; rw [hf] at q ⊢; exact q
  | ok ds1 A1 =>
    refine ⟨io, A, ro, s, ?_⟩
    unfold eArgs at q
    rw [hf] at q ⊢
    intro vs io1 H1 e1 h1 r1
    have q : Post X.K ct (DR X.K ct) W σ io H (F (ds1 ++ dds) A1) Q := q
    refine spD_call ?_ h1 (r1.append (hdd io1 H1)) (Post.ext e1 q)
    rw [List.length_append, r1.length, hal ro A ds1 A1 hf, (hdd io1 H1).length]
    exact hn
theorem pd_call0 {j : Nat} (c : Cal X.prog X.w X.K X.mg X.base ct k x n dds F) (hgd : X.A.guards = some []) (hr : Room j X.A) (hk : k ≤ j) (hg : Gl X x) (tk : Takes X W) (hn : dds.length = n) (hdb : (x == ("__debug__" : Str)) = false := by decide) :
    PD X ct W (.Call (.Name x p) [] [] pos) (fun _ A => F dds A) := by
  obtain ⟨f, fd, ps, dsv, dvs, Fn, hm, hkp, hb, hd, hdd⟩ := c.ex
  exact pe_mono (pe_G0 Fn hgd (hr.mono hk) hg hm hkp hb hd tk hdb) fun σ H Q ⟨io, A, ro, s, q⟩ => spD_call (by rw [(hdd io H).length]; exact hn) s.hr (hdd io H) q
theorem Takes.of_takes {X : Cx} {E : XK} (h : Takes X (fun cls d _ H => E cls d H)) : Takes X (WD E) := h
end
end DV

set_option Elab.async false
set_option linter.all false
set_option maxRecDepth 100000
/-! DvL: a def's function from its body; attributes' rules; empty dicts. -/
namespace DV
open PySem PySem.Spec PyProof.Rows L2

def M.ltAll (n : Nat) (A : Hd) : Bool := A.all (M.lt n)
def cutR (A : Hd) (d : D) (A' : Hd) : R D := match frz A.length A' d with
  | some d' => if M.ltAll A.length (A'.take A.length) then .ok d' (A'.take A.length) else .ok d A'
  | none => .ok d A'
/-- the function of a def whose new lists are handed out by value -/
def finR (A : Hd) (o : Out) : R D := match o with
  | .go (.ret d) _ A' => cutR A d A'
  | .go .nx _ A' => cutR A .non A'
  | .err c fs _ A' => .err c fs A'
  | _ => .stk
/-- the function of a def whose new lists keep their numbers -/
def finK (o : Out) : R D := match o with
  | .go (.ret d) _ A' => .ok d A'
  | .go .nx _ A' => .ok .non A'
  | .err c fs _ A' => .err c fs A'
  | _ => .stk
theorem cutR_ok {A A' : Hd} {d : D} : FinV A d A' (cutR A d A') := by
  unfold cutR
  split
  · rename_i d' hd
    split
    · rename_i hl
      refine .inr ⟨A.length, d', Nat.le_refl _, hd, fun k m hk e => .inr ?_, rfl⟩
      unfold M.ltAll at hl
      rw [List.all_eq_true] at hl
      exact hl m (List.mem_of_getElem? (show (A'.take A.length)[k]? = some m by rw [List.getElem?_take_of_lt hk]; exact e))
    · exact .inl rfl
  · exact .inl rfl
theorem finR_ok {A : Hd} {o : Out} (h : finR A o ≠ .stk) : FinOk A o (finR A o) := by
  cases o with
  | stk => exact absurd rfl h
  | go fl ro A' =>
    cases fl with
    | nx => exact (cutR_ok : FinV A .non A' (cutR A .non A'))
    | ret d => exact (cutR_ok : FinV A d A' (cutR A d A'))
    | bk => exact absurd rfl h
    | ct => exact absurd rfl h
  | err c fs ro A' => exact .inl rfl
theorem finK_ok {A : Hd} {o : Out} (h : finK o ≠ .stk) : FinOk A o (finK o) := by
  cases o with
  | stk => exact absurd rfl h
  | go fl ro A' =>
    cases fl with
    | nx => exact .inl rfl
    | ret d => exact .inl rfl
    | bk => exact absurd rfl h
    | ct => exact absurd rfl h
  | err c fs ro A' => exact .inl rfl

section
variable {K : PySem.W.Frag} {ct : String → Addr} {io : Io} {H : Hp} {A : Hd}
/-! ### {} -/
def eDicN : EF := fun _ A => .ok (.dic []) A
def eDicM : EF := fun _ A => .ok (.ref A.length) (A ++ [.dic []])
end

section
variable {X : Cx} {ct : String → Addr} {W : WX} {o e : Expr} {fo : EF} {fl : AF} {pos apos cpos : Pos}
theorem pd_dicN : PD X ct W (.Dict [] [] pos) eDicN := pe_mono pe_dnewK fun σ H Q ⟨io, A, ro, s, p⟩ p' hp => p.new s.hr hp (.dic (s.hr.ne hp) upd_same rfl .nil)
theorem pd_dicM : PD X ct W (.Dict [] [] pos) eDicM := pe_mono pe_dnewK fun σ H Q ⟨io, A, ro, s, p⟩ p' hp => Post.num p s.hr hp ⟨_, upd_same, rfl, .nil⟩
/-! ### methods by data -/
theorem pd_meth {T name id : String} {r : V → List V → Hp → VK → Prop} {g : D → List D → Hd → R D} {chk : Hd → D → Bool} {es : List Expr} (pa : PlainAttrs T) (slot : Slot T name id) (hty : typeOf (.builtin id) = pure (.type "method_descriptor")) (hm : MtR X id r)
    (og : MeD X.K ct r g) (hc : ∀ io H A v x, HR X.K ct io H A → DR X.K ct io H v x → chk A x = true → tyV X.K T v H) (ho : PD X ct W o fo) (ha : PDa X ct W (e :: es) fl)
    (hbase : attributeBase o name X.env (eval o X.env) = eval o X.env := by rfl)
    (hfew : ((backTo cpos (starEach (e :: es) X.env)).all (fun x => !x.1) && (backToKw cpos (keywordEach [] X.env)).all (fun x => x.1.isSome) && decide ((e :: es).length + ([] : List Keyword).length + (if ([] : List Keyword).isEmpty then 0 else 1) < 30)) = true := by rfl)
    (hline : (apos.endLine == cpos.line) = true := by rfl) (hs : starEach (e :: es) X.env = (false, eval e X.env) :: starEach es X.env := by rfl) (hplain : (backTo cpos (starEach es X.env)).any (·.1) = false := by rfl) :
    PD X ct W (.Call (.Attribute o name apos) (e :: es) [] cpos) (eMeth chk g fo fl) :=
  pe_mono (pe_bm pa slot hty hm ho ha hbase hfew hline hs hplain) fun _ _ _ h => meth_D og hc h
end
end DV

set_option Elab.async false
set_option linter.all false
set_option maxRecDepth 100000
/-! DvM: len(set(xs)), xs a list or tuple of texts, of any number below 4000. -/
namespace DV
open PySem PySem.Spec PyProof.Rows L2

/-- the texts that are met, each once -/
def met1 (acc : List Str) (x : Str) : List Str := if acc.any (· == x) then acc else acc ++ [x]
def mets (xs : List Str) : List Str := xs.foldl met1 []
theorem mets_concat (xs : List Str) (x : Str) : mets (xs ++ [x]) = met1 (mets xs) x := by
  unfold mets
  rw [List.foldl_append]
  rfl
theorem mets_take {xs : List Str} {i : Nat} (h : i < xs.length) : mets (xs.take (i + 1)) = met1 (mets (xs.take i)) (xs.getD i Str.empty) := by
  rw [List.take_add_one, List.getElem?_eq_getElem h]
  have e : xs.getD i Str.empty = xs[i] := by simp [List.getD, List.getElem?_eq_getElem h]
  rw [e]
  exact mets_concat _ _
theorem met1_len (acc : List Str) (x : Str) : (met1 acc x).length = if acc.any (· == x) then acc.length else acc.length + 1 := by
  unfold met1
  split <;> simp
theorem met1_any (acc : List Str) (x k : Str) : (met1 acc x).any (· == k) = (acc.any (· == k) || decide (k = x)) := by
  unfold met1
  split
  · rename_i h
    by_cases e : k = x
    · subst e; simp [h]
    · simp [e]
  · by_cases e : k = x
    · subst e; simp
    · have hb : (x == k) = false := by simpa [beq_iff_eq] using (fun q : x = k => e q.symm)
      simp [e, hb]
theorem mets_le : ∀ xs : List Str, (mets xs).length ≤ xs.length := by
  intro xs
  have go : ∀ (ys acc : List Str), (ys.foldl met1 acc).length ≤ acc.length + ys.length := by
    intro ys
    induction ys with
    | nil => intro acc; simp
    | cons y ys ih =>
      intro acc
      have h1 := ih (met1 acc y)
      have h2 := met1_len acc y
      rw [List.foldl_cons, List.length_cons]
      split at h2 <;> omega
  simpa [mets] using go xs []

section
variable {P : Program} {w : World} {A : Around} {R : Result → Shared → Prop} {it : Addr} {fp wr : List Addr} {G : Array GenState → Array GenState → Prop} {n : Nat} {Pv : Nat → Value → Prop} {St : Nat → Shared → Prop}
/-- the loop of set(..) over texts -/
theorem fill_texts (W : WalksS P w A.in1 it fp wr G n Pv St) (a : Addr) (ha : a ∉ fp) (xs : List Str) (hsz : xs.length = n) (hb : n + 1 < scanBound) (hv : ∀ i v, Pv i v → ∃ t, v = .str (xs.getD i Str.empty) t) :
    ∀ (m i : Nat) (s : Shared), i + m = n → St i s → s.heap.SetOf (PySem.strKind P w) a (fun k => (mets (xs.take i)).any (· == k)) (mets (xs.take i)).length →
      (∀ s', Moved (a :: wr) G s s' → s'.heap.SetOf (PySem.strKind P w) a (fun k => (mets xs).any (· == k)) (mets xs).length → R (.ok (.ret .none)) s') →
      codeAny (model P w) A (.builtin "set.update.loop" ⟨[.ref a, .ref it], []⟩) R s := by
  have aw : a ∉ wr := fun h => ha (W.sub _ h)
  have up : ∀ b ∈ wr, b ∈ a :: wr := fun b hb => List.mem_cons_of_mem _ hb
  have keepS : ∀ {s s' : Shared} {S : Str → Bool} {j : Nat}, Moved wr G s s' → s.heap.SetOf (PySem.strKind P w) a S j → s'.heap.SetOf (PySem.strKind P w) a S j := fun hm ⟨o, es, ep, t, ho, rest⟩ => ⟨o, es, ep, t, hm.heap a _ aw ho, rest⟩
  intro m
  induction m with
  | zero =>
    intro i s hi st gS fin
    have ei : i = n := by omega
    refine codeAny_builtin PyProof.Rows.F.entry_set_update_loop ?_
    rw [Around.under_plainId PyProof.Rows.F.plain_set_update_loop _]
    show wpAny _ A.in1 (pyNext (.ref it) >>= _) _ _ s
    refine wpAny_bind (W.done s _ _ (ei ▸ st) fun s' hm => ?_)
    show wpAny _ A.in1 (ret Value.none) _ _ s'
    refine wpAny_pure (fin s' (hm.mono up) ?_)
    have q := keepS hm gS
    rw [List.take_of_length_le (by omega)] at q
    exact q
  | succ m ih =>
    intro i s hi st gS fin
    refine codeAny_builtin PyProof.Rows.F.entry_set_update_loop ?_
    rw [Around.under_plainId PyProof.Rows.F.plain_set_update_loop _]
    show wpAny _ A.in1 (pyNext (.ref it) >>= _) _ _ s
    refine wpAny_bind (W.item i s _ _ (by omega) st fun v s' pv st' hm => ?_)
    obtain ⟨t, rfl⟩ := hv i v pv
    have gS' := keepS hm gS
    show wpAny _ A.in1 (holding [Value.str (xs.getD i Str.empty) t] (setAdd a (.str (xs.getD i Str.empty) t)) >>= _) _ _ s'
    refine wpAny_bind (wpAny_holding ?_)
    unfold setAdd
    refine wpAny_holding (wpAny_bind ((PySem.strKind P w).pyHash (k := xs.getD i Str.empty) (strKind_is _ _ _ _) ?_))
    have le := mets_le (xs.take i)
    rw [List.length_take] at le
    refine wpAny_setAddHashed_of (knd := PySem.strKind P w) (s := { s' with toks := s'.toks + 1 }) (strKind_is _ _ _ _) rfl gS' (by omega) fun h' sb new => ?_
    have new' : h'.SetOf (PySem.strKind P w) a (fun k => (mets (xs.take (i + 1))).any (· == k)) (mets (xs.take (i + 1))).length :=
      SetOf_congr new (fun k => by rw [mets_take (by omega), met1_any]) (by rw [mets_take (by omega), met1_len])
    refine wpAny_pure ⟨plainId_quiet PyProof.Rows.F.plain_set_update_loop _, ih (i + 1) _ (by omega) (W.frame _ s' _ _ st' (Nat.le_succ _) fun b hb o e => ?_) new' fun s2 hm2 gS2 => ?_⟩
    · rw [sb.2 b (fun z : b = a => ha (z ▸ hb))]; exact e
    · refine fin s2 (Moved.trans W.gtrans ((hm.mono up).then_heap (Nat.le_succ _) fun b o hb e => ?_) hm2) gS2
      rw [sb.2 b (fun z : b = a => hb (by rw [z]; exact List.mem_cons_self))]; exact e
end
end DV

set_option Elab.async false
set_option linter.all false
set_option maxRecDepth 100000
namespace DV
open PySem PySem.Spec PyProof.Rows L2
section
variable {P : Program} {w : World} {A : Around} {E : Value → Shared → Prop} {s : Shared}
/-- a list or a tuple -/
def SeqObj (h : Heap) (l : Addr) (items : Array Value) (c : String) : Prop := (c = "list" ∧ h.IsList l items) ∨ (c = "tuple" ∧ h.IsTuple l items)
set_option maxHeartbeats 3200000 in
theorem make_texts {l : Addr} {items : Array Value} {xs : List Str} {c : String} {Q : Value → Shared → Prop} (nohand : A.handled = none) (sq : SeqObj s.heap l items c) (tx : PyProof.Rows.StrsAre items.toList xs) (few : xs.length + 1 < scanBound)
    (fin : ∀ (h' : Heap) (tk : Nat), h'.SetOf (PySem.strKind P w) s.heap.objs.size (fun k => (mets xs).any (· == k)) (mets xs).length → (∀ b o, b < s.heap.objs.size → s.heap.get? b = some o → h'.get? b = some o) → Q (.ref s.heap.objs.size) { s with heap := h', toks := tk }) :
    wpAny (model P w) A (call (.type "set") [.ref l]) Q E s := by
  have ⟨cc, tl, mro⟩ := PySem.F.called_set.mro
  have made := PySem.F.called_set.made
  have sub := PySem.F.called_set.sub
  refine wpAny_call (codeAny_of_tree ?_)
  show wpAny _ _ (callAny (.type "set") _) _ _ _
  refine wpAny_pure ⟨Code.quiet_builtin _ (by decide +kernel), codeAny_builtin PySem.F.entry_type_call ?_⟩
  rw [Around.under_plain (weight_type_call_type "set" [.ref l] []) rfl]
  have t1 := PySem.F.called_set.notType
  have t2 := PySem.F.called_set.canCreate
  have t3 := PySem.F.typeCall_set_1 (.ref l)
  repeat (any_goals (first | assumption | wp_step))
  refine codeAny_mono (code_set_new_1 (.ref l) (E := E) (Q₁ := fun v s1 => ∃ b : Bool, v = .ref s.heap.objs.size ∧ s1 = { s with heap := s.heap.push { cls := .type "set", dict := none, data := .set #[] 0 (.fresh 0 0 b) } }) fun b => ⟨b, rfl, rfl⟩) fun r s1 got => ?_
  cases r with
  | error e => exact got
  | ok fl =>
  obtain ⟨v, rfl⟩ : ∃ v, fl = .ret v := by
    cases fl with
    | ret v => exact ⟨v, rfl⟩
    | _ => exact got.elim
  obtain ⟨b, rfl, rfl⟩ := got
  have free : ({ cls := .type "set", dict := none, data := .set #[] 0 (.fresh 0 0 b) } : Obj).isFreed = false := rfl
  have atS : (s.heap.push { cls := .type "set", dict := none, data := .set #[] 0 (.fresh 0 0 b) }).get? s.heap.objs.size = some { cls := .type "set", dict := none, data := .set #[] 0 (.fresh 0 0 b) } := Heap.get?_push_size _ free
  have tyS : Shared.TypeIs { s with heap := s.heap.push { cls := .type "set", dict := none, data := .set #[] 0 (.fresh 0 0 b) } } (.ref s.heap.objs.size) "set" := ⟨_, atS, rfl⟩
  have look := PySem.F.called_set.init.lookup
  have bound := PySem.F.called_set.init.bind (.ref s.heap.objs.size)
  repeat (any_goals (first | assumption | wp_step))
  refine codeAny_mono (codeAny_call_builtin (R := wants (fun r s2 => r = .none ∧ ∃ h' tk, s2 = { s with heap := h', toks := tk } ∧ h'.SetOf (PySem.strKind P w) s.heap.objs.size (fun k => (mets xs).any (· == k)) (mets xs).length ∧ (∀ b o, b < s.heap.objs.size → s.heap.get? b = some o → h'.get? b = some o)) E)
    PySem.F.called_set.init.plain PySem.F.entry_set_init (check_set_init_1 tyS ?inn)) fun r s2 got => ?out
  case out =>
    cases r with
    | error e => exact got
    | ok fl =>
      cases fl with
      | ret r =>
        obtain ⟨rfl, h', tk, rfl, gS, gk⟩ := got
        repeat (any_goals (first | assumption | wp_step))
        exact fin _ _ gS gk
      | _ => exact got.elim
  case inn =>
    have hsz : xs.length = items.size := by rw [← StrsAre.len_eq tx, Array.length_toList]
    have val : ∀ (i : Nat) (v : Value), items[i]? = some v → ∃ t, v = .str (xs.getD i Str.empty) t := fun i v hv => SS.strs_at tx i v (by rw [Array.getElem?_toList]; exact hv)
    have nohand3 : A.in1.in1.in1.handled = none := by simp [nohand]
    have szI : (s.heap.push { cls := .type "set", dict := none, data := .set #[] 0 (.fresh 0 0 b) }).objs.size = s.heap.objs.size + 1 := Heap.size_push _ _
    rcases sq with ⟨rfl, hl⟩ | ⟨rfl, hl⟩
    all_goals
      obtain ⟨ol, hol, hcl, nl, hdl⟩ := hl
      obtain ⟨ocls, odict, odata, oslots⟩ := ol
      dsimp only at hcl hdl
      subst hcl
      subst hdl
      have below : l < s.heap.objs.size := Heap.lt_size hol
      have hol' := Heap.get?_push_of_some ({ cls := .type "set", dict := none, data := .set #[] 0 (.fresh 0 0 b) } : Obj) hol
    · have u1 := PySem.F.sub_list_set
      have u2 := PySem.F.sub_list_frozenset
      have u3 : (Value.type "list" == Value.type "dict") = false := by decide
      have seq : (s.heap.push { cls := .type "set", dict := none, data := .set #[] 0 (.fresh 0 0 b) }).IsList l items := ⟨_, hol', rfl, nl, rfl⟩
      unfold Builtin.«set.__init__» noKeywords Builtin.Frozenset.updateFrom
      generalize eI : pyIter = PI
      wp_walk
      subst eI
      refine wpAny_pyIter_list seq ?_
      refine wpAny_bind (wpAny_runValue ?_)
      have lneI : l ≠ (s.heap.push { cls := .type "set", dict := none, data := .set #[] 0 (.fresh 0 0 b) }).objs.size := Nat.ne_of_lt (by rw [szI]; exact Nat.lt_succ_of_lt below)
      have SnI : s.heap.objs.size ∉ [(s.heap.push { cls := .type "set", dict := none, data := .set #[] 0 (.fresh 0 0 b) }).objs.size, l] := by
        rw [szI]
        intro z
        rcases List.mem_cons.mp z with z | z
        · exact Nat.ne_of_lt (Nat.lt_succ_self _) z
        · exact Nat.ne_of_gt below (List.mem_singleton.mp z)
      refine fill_texts ((Walks.list nohand3 _ l lneI items).toS) s.heap.objs.size SnI xs hsz (by omega) val items.size 0 _ (by omega) ⟨⟨_, Heap.get?_push_size _ rfl, rfl, rfl⟩, (seq.push _)⟩ ?st ?fn
      case st =>
        exact SetOf_congr ((PyProof.Rows.setObjOf_fresh (knd := PySem.strKind P w) b).setOf (Heap.get?_push_of_some _ atS) (by unfold scanBound; omega)) (fun _ => rfl) rfl
      case fn =>
        intro s' hm gS
        obtain ⟨h', g', d', tk', os'⟩ := s'
        obtain rfl : g' = s.gens := hm.gens
        obtain rfl : d' = s.drawn := hm.drawn
        obtain rfl : os' = s.os := hm.os
        show wpAny _ _ _ _ _ _
        refine wpAny_pure ?_
        show wpAny _ _ (ret Value.none) _ _ _
        refine wpAny_pure ⟨rfl, h', tk', rfl, gS, fun p o hb e => hm.heap p o (fun z => ?_) (Heap.get?_push_of_some _ (Heap.get?_push_of_some _ e))⟩
        rcases List.mem_cons.mp z with z | z
        · exact Nat.ne_of_lt hb z
        · have z2 := List.mem_singleton.mp z
          rw [szI] at z2
          exact Nat.ne_of_lt (Nat.lt_succ_of_lt hb) z2
    · have u1 := PySem.F.sub_tuple_set
      have u2 := PySem.F.sub_tuple_frozenset
      have u3 : (Value.type "tuple" == Value.type "dict") = false := by decide
      have seq : (s.heap.push { cls := .type "set", dict := none, data := .set #[] 0 (.fresh 0 0 b) }).IsTuple l items := ⟨_, hol', rfl, nl, rfl⟩
      unfold Builtin.«set.__init__» noKeywords Builtin.Frozenset.updateFrom
      generalize eI : pyIter = PI
      wp_walk
      subst eI
      refine wpAny_pyIter_tuple seq ?_
      refine wpAny_bind (wpAny_runValue ?_)
      have lneI : l ≠ (s.heap.push { cls := .type "set", dict := none, data := .set #[] 0 (.fresh 0 0 b) }).objs.size := Nat.ne_of_lt (by rw [szI]; exact Nat.lt_succ_of_lt below)
      have SnI : s.heap.objs.size ∉ [(s.heap.push { cls := .type "set", dict := none, data := .set #[] 0 (.fresh 0 0 b) }).objs.size, l] := by
        rw [szI]
        intro z
        rcases List.mem_cons.mp z with z | z
        · exact Nat.ne_of_lt (Nat.lt_succ_self _) z
        · exact Nat.ne_of_gt below (List.mem_singleton.mp z)
      refine fill_texts ((Walks.tuple nohand3 _ l lneI items).toS) s.heap.objs.size SnI xs hsz (by omega) val items.size 0 _ (by omega) ⟨⟨_, Heap.get?_push_size _ rfl, rfl, rfl⟩, (seq.push _)⟩ ?st ?fn
      case st =>
        exact SetOf_congr ((PyProof.Rows.setObjOf_fresh (knd := PySem.strKind P w) b).setOf (Heap.get?_push_of_some _ atS) (by unfold scanBound; omega)) (fun _ => rfl) rfl
      case fn =>
        intro s' hm gS
        obtain ⟨h', g', d', tk', os'⟩ := s'
        obtain rfl : g' = s.gens := hm.gens
        obtain rfl : d' = s.drawn := hm.drawn
        obtain rfl : os' = s.os := hm.os
        show wpAny _ _ _ _ _ _
        refine wpAny_pure ?_
        show wpAny _ _ (ret Value.none) _ _ _
        refine wpAny_pure ⟨rfl, h', tk', rfl, gS, fun p o hb e => hm.heap p o (fun z => ?_) (Heap.get?_push_of_some _ (Heap.get?_push_of_some _ e))⟩
        rcases List.mem_cons.mp z with z | z
        · exact Nat.ne_of_lt hb z
        · have z2 := List.mem_singleton.mp z
          rw [szI] at z2
          exact Nat.ne_of_lt (Nat.lt_succ_of_lt hb) z2
end

section
variable {K : PySem.W.Frag} {ct : String → Addr} {io : Io} {H : Hp} {A : Hd}
def textsD : List D → Option (List Str)
  | [] => some []
  | .str x :: r => match textsD r with
    | some xs => some (x :: xs)
    | none => none
  | _ :: _ => none
theorem textsD_ok : ∀ {vs : List V} {ds : List D} {xs : List Str}, DRs K ct io H vs ds → textsD ds = some xs → vs = xs.map V.str
  | _, _, _, .nil, e => by cases e; rfl
  | _, _, _, .cons r rs, e => by
    cases r with
    | str x =>
      unfold textsD at e
      split at e
      · rename_i xs h1
        cases e
        rw [textsD_ok rs h1]
        rfl
      · cases e
    | _ => cases e
def gLenSet (d : D) (A : Hd) : R D := match asQ A d with
  | some es => match textsD es with
    | some xs => if xs.length < 4000 then .ok (.int (mets xs).length) A else .stk
    | none => .stk
  | none => .stk
def tLenTexts (K : PySem.W.Frag) (ta : TE) : TE := fun σ H Q => ta σ H fun x H1 => ∃ l, ∃ xs : List Str, x = .ref l ∧ (SqL K H1 l (xs.map V.str) ∨ SqT K H1 l (xs.map V.str)) ∧ xs.length < 4000 ∧ Q (.int (mets xs).length) H1
end
section
variable {X : Cx} {ct : String → Addr} {W : WX} {a : Expr} {fa : EF} {p p2 q pos : Pos}
theorem pe_lenTexts {ta : TE} (hc : X.calm = true) (hg : Gl X "len") (hm : X.mg "len" = none) (hg2 : Gl X "set") (hm2 : X.mg "set" = none) (ha : PE X a ta) (na : starEach [a] X.env = (false, eval a X.env) :: starEach [] X.env := by rfl) :
    PE X (.Call (.Name "len" p) [.Call (.Name "set" p2) [a] [] q] [] pos) (tLenTexts X.K ta) := by
  refine ⟨fun pins s σ H Q I h => ?_⟩
  refine Call_ (ld_blt I hg hm boot_len (PyProof.Rows.callWith_builtin1 (PyProof.Rows.args_cons ?_ rfl) rfl rfl))
  refine Call_ (ld_blt I hg2 hm2 boot_set ?_)
  refine PyProof.Rows.callWith_type1 (PyProof.Rows.args_cons (thn (ha.run pins s σ H _ I h) fun v s1 ⟨x, H1, I1, r1, q1⟩ => PyProof.Rows.args_nil ?_) na) na rfl
  obtain ⟨l, xs, rfl, sq, few, q1⟩ := q1
  cases r1
  have go : ∃ c items, SeqObj s1.heap l items c ∧ StrsAre items.toList xs := by
    rcases sq with sq | sq
    · obtain ⟨its, r, pl, hz⟩ := I1.list sq
      exact ⟨"list", its.toArray, .inl ⟨rfl, pl.isList⟩, by simpa using strsAre_of r⟩
    · obtain ⟨its, r, pl, hz⟩ := I1.tuple sq
      exact ⟨"tuple", its.toArray, .inr ⟨rfl, pl⟩, by simpa using strsAre_of r⟩
  obtain ⟨c, items, so, tx⟩ := go
  refine make_texts (I1.ok.hd hc) so tx (by unfold scanBound; omega) fun h' tk gS gk => ?_
  refine PyProof.Rows.args_nil ?_
  have le := mets_le xs
  obtain ⟨o, es, ep, t, ho, hex, hd, _, _, _, hf, hn⟩ := gS
  have I2 : Inv X pins σ H1 { s1 with heap := h', toks := tk } := I1.kept fun b o e => gk b o (Heap.lt_size e) e
  refine call_len_set ho hex hd hf (by rw [hn]; omega) ⟨.int (mets xs).length, H1, I2.tok _, ⟨_, by rw [hn]⟩, q1⟩
theorem pd_lenSet (hc : X.calm = true) (hg : Gl X "len") (hm : X.mg "len" = none) (hg2 : Gl X "set") (hm2 : X.mg "set" = none) (ha : PD X ct W a fa) (na : starEach [a] X.env = (false, eval a X.env) :: starEach [] X.env := by rfl) :
    PD X ct W (.Call (.Name "len" p) [.Call (.Name "set" p2) [a] [] q] [] pos) (eUn gLenSet fa) :=
  pe_mono (pe_lenTexts hc hg hm hg2 hm2 ha na) fun σ H Q ⟨io, A, ro, s, p⟩ => ⟨io, A, ro, s, (p.bind (rep := DR X.K ct)).mono fun v H1 ⟨io1, A1, d, e1, h1, r1, p1⟩ => by
    unfold gLenSet at p1
    split at p1
    · rename_i es he
      split at p1
      · rename_i xs hx
        split at p1
        · rename_i few
          obtain ⟨a, us, rfl, sq, rs⟩ := asQ_ok h1 r1 he
          have e := textsD_ok rs hx
          subst e
          exact ⟨a, xs, rfl, sq, few, p1.here h1 (.int _)⟩
        · exact p1.elim
      · exact p1.elim
    · exact p1.elim⟩
end
end DV

set_option Elab.async false
set_option linter.all false
set_option maxRecDepth 100000
/-! DvO: constants of the module; more rules. -/
namespace DV
open PySem PySem.Spec PyProof.Rows L2
section
variable {X : Cx} {ct : String → Addr} {W : WX} {x : Str} {pos : Pos}
theorem pd_gc {v : V} {d : D} (hg : Gl X x) (h : ∃ u, X.mg x = some u ∧ RelV v u) (r : ∀ io H, DR X.K ct io H v d) (hd : (x == ("__debug__" : Str)) = false := by decide) : PD X ct W (.Name x pos) (eC d) := by
  obtain ⟨u, h1, h2⟩ := h
  exact pd_c (pe_glob hg h1 h2 hd) r
end
end DV

set_option Elab.async false
set_option linter.all false
set_option maxRecDepth 100000
/-! DvP: plain laws of the functions on data. -/
namespace DV
open PySem PySem.Spec PyProof.Rows L2
theorem cut_same {A A' : Hd} {d : D} (h : A'.length = A.length) : cutR A d A' = .ok d A' := by
  have ht : A'.take A.length = A' := List.take_of_length_le (by omega)
  unfold cutR
  split
  · rename_i d' hd
    have e : d' = d := by
      unfold frz at hd
      split at hd
      · exact (Option.some.inj hd).symm
      · rename_i hl
        split at hd
        · rename_i k
          have : ¬ k < A.length := by simpa [D.lt] using hl
          rw [List.getElem?_eq_none (by omega)] at hd
          cases hd
        · cases hd
    rw [e, ht]
    split <;> rfl
  · rfl
@[simp] theorem cut_self {A : Hd} {d : D} : cutR A d A = .ok d A := cut_same rfl
@[simp] theorem cut_set {A : Hd} {d : D} {k : Nat} {m : M} : cutR A d (A.set k m) = .ok d (A.set k m) := cut_same (by simp)
@[simp] theorem calm_ok {α : Type} (a : α) (A : Hd) : (R.ok a A).calm = R.ok a A := rfl
@[simp] theorem here_fix (ds : List D) (A : Hd) : (Src.fix ds).here A := trivial
/-- loops that go through -/
theorem forD_run {s : Src} {g : GF} {b : SF} {I : Nat → Env → Hd → Prop} (hs : ∀ i ro A, I i ro A → s.here A) : ∀ (ds : List D) (i : Nat) (ro : Env) (A : Hd), I i ro A →
    (∀ j d ro A, ds[j]? = some d → I (i + j) ro A → ∃ ro' A', (g d ro A).out.next b = .go .nx ro' A' ∧ I (i + j + 1) ro' A') →
    ∃ ro' A', forD s g b ds ro A = .go .nx ro' A' ∧ I (i + ds.length) ro' A'
  | [], i, ro, A, h, _ => ⟨ro, A, by unfold forD; rw [if_pos (hs i ro A h)], h⟩
  | d :: ds, i, ro, A, h, st => by
    obtain ⟨ro1, A1, e1, h1⟩ := st 0 d ro A rfl h
    obtain ⟨ro2, A2, e2, h2⟩ := forD_run hs ds (i + 1) ro1 A1 h1 fun j d' ro A hd hI => by
      have := st (j + 1) d' ro A (by simpa using hd) (by rw [show i + (j + 1) = i + 1 + j by omega]; exact hI)
      rw [show i + (j + 1) + 1 = i + 1 + j + 1 by omega] at this
      exact this
    refine ⟨ro2, A2, ?_, by rw [List.length_cons, show i + (ds.length + 1) = i + 1 + ds.length by omega]; exact h2⟩
    unfold forD
    rw [if_pos (hs i ro A h), e1, Out.loop_nx, e2]
/-- a comprehension of a plain test and a plain item -/
theorem compD_pure {s : Src} {pt : Pat} {vs : List Nat} {tt : TF} {te : EF} {ro : Env} {A : Hd} {p : D → Bool} {f : D → D} (hs : s.here A) : ∀ (ds acc : List D), acc.length + ds.length ≤ sizeLine →
    (∀ d ∈ ds, ∃ ro1, pt.put d (wipeD ro vs) = some ro1 ∧ tt ro1 A = .ok (p d) A ∧ (p d = true → te ro1 A = .ok (f d) A)) →
    compD s pt vs tt te ro ds acc A = .ok (acc ++ (ds.filter p).map f) A
  | [], acc, _, _ => by unfold compD; rw [if_pos hs]; simp
  | d :: ds, acc, hl, h => by
    obtain ⟨ro1, e1, e2, e3⟩ := h d List.mem_cons_self
    rw [List.length_cons] at hl
    unfold compD
    rw [if_pos hs, e1]
    simp only [e2, calm_ok, R.bind_ok]
    cases hp : p d with
    | true =>
      rw [if_pos rfl, e3 hp, calm_ok, R.bind_ok, if_pos (by omega), compD_pure hs ds _ (by rw [List.length_append]; simp; omega) fun d hd => h d (List.mem_cons_of_mem _ hd)]
      simp [List.filter_cons, hp]
    | false =>
      rw [if_neg (by simp), compD_pure hs ds acc (by omega) fun d hd => h d (List.mem_cons_of_mem _ hd)]
      simp [List.filter_cons, hp]
/-- a comprehension whose items are drawn -/
theorem compD_run {s : Src} {pt : Pat} {vs : List Nat} {tt : TF} {te : EF} {ro : Env} {I : Nat → Hd → Prop} {G : D → Prop} (hs : ∀ i A, I i A → s.here A) : ∀ (ds acc : List D) (i : Nat) (A : Hd), acc.length + ds.length ≤ sizeLine → I i A → (∀ d ∈ acc, G d) →
    (∀ j d A, ds[j]? = some d → I (i + j) A → ∃ ro1, pt.put d (wipeD ro vs) = some ro1 ∧ ∃ b A1, tt ro1 A = .ok b A1 ∧ (b = false → I (i + j + 1) A1) ∧ (b = true → ∃ y A2, te ro1 A1 = .ok y A2 ∧ G y ∧ I (i + j + 1) A2)) →
    ∃ ys A', compD s pt vs tt te ro ds acc A = .ok ys A' ∧ I (i + ds.length) A' ∧ (∀ d ∈ ys, G d) ∧ ys.length ≤ acc.length + ds.length
  | [], acc, i, A, _, h, g, _ => ⟨acc, A, by unfold compD; rw [if_pos (hs i A h)], h, g, by simp⟩
  | d :: ds, acc, i, A, hl, h, g, st => by
    obtain ⟨ro1, e1, b, A1, e2, h1, h2⟩ := st 0 d A rfl h
    rw [List.length_cons] at hl
    have nx : ∀ j d A, ds[j]? = some d → I (i + 1 + j) A → ∃ ro1, pt.put d (wipeD ro vs) = some ro1 ∧ ∃ b A1, tt ro1 A = .ok b A1 ∧ (b = false → I (i + 1 + j + 1) A1) ∧ (b = true → ∃ y A2, te ro1 A1 = .ok y A2 ∧ G y ∧ I (i + 1 + j + 1) A2) := fun j d' A hd hI => by
      have := st (j + 1) d' A (by simpa using hd) (by rw [show i + (j + 1) = i + 1 + j by omega]; exact hI)
      rw [show i + (j + 1) + 1 = i + 1 + j + 1 by omega] at this
      exact this
    unfold compD
    rw [if_pos (hs i A h), e1]
    simp only [e2, calm_ok, R.bind_ok]
    cases b with
    | true =>
      obtain ⟨y, A2, e3, gy, h3⟩ := h2 rfl
      obtain ⟨ys, A', q1, q2, q3, q4⟩ := compD_run hs ds (acc ++ [y]) (i + 1) A2 (by rw [List.length_append]; simp; omega) h3 (fun d hd => (List.mem_append.mp hd).elim (g d) fun z => by rw [List.mem_singleton.mp z]; exact gy) nx
      refine ⟨ys, A', ?_, by rw [List.length_cons, show i + (ds.length + 1) = i + 1 + ds.length by omega]; exact q2, q3, by rw [List.length_append] at q4; simp at q4 ⊢; omega⟩
      rw [if_pos rfl, e3, calm_ok, R.bind_ok, if_pos (by omega), q1]
    | false =>
      obtain ⟨ys, A', q1, q2, q3, q4⟩ := compD_run hs ds acc (i + 1) A1 (by omega) (h1 rfl) g nx
      refine ⟨ys, A', ?_, by rw [List.length_cons, show i + (ds.length + 1) = i + 1 + ds.length by omega]; exact q2, q3, by simp at q4 ⊢; omega⟩
      rw [if_neg (by simp), q1]
/-- the source of draws stands under number k; at most T draws are done -/
def SRC (A : Hd) (k : Nat) (T : Int) : Prop := ∃ c t h : Int, A[k]? = some (.lst [.int c, .int t, .int h]) ∧ 0 ≤ t ∧ t ≤ T ∧ 0 ≤ h
theorem SRC.le {A : Hd} {k : Nat} {T T' : Int} (h : SRC A k T) (e : T ≤ T') : SRC A k T' := let ⟨c, t, q, h1, h2, h3, h4⟩ := h; ⟨c, t, q, h1, h2, Int.le_trans h3 e, h4⟩
theorem sub_num {A : Hd} {k : Nat} {ds : List D} {i : Int} {x : D} (h : A[k]? = some (.lst ds)) (e : L2.atI ds i = some x) : gSubD (.ref k) (.int i) A = .ok x A := by
  unfold gSubD asD
  simp only [h]
  unfold gIx asQ asR asL
  simp only [h, e]
theorem sub_lst {A : Hd} {ds : List D} {i : Int} {x : D} (e : L2.atI ds i = some x) : gSubD (.lst ds) (.int i) A = .ok x A := by
  unfold gSubD asD gIx asQ asR asL
  simp only [e]
theorem sub_tup {A : Hd} {ds : List D} {i : Int} {x : D} (e : L2.atI ds i = some x) : gSubD (.tup ds) (.int i) A = .ok x A := by
  unfold gSubD asD gIx asQ
  simp only [e]
theorem sub_scr {A : Hd} {ds : List D} {i : Int} {x : D} (e : L2.atI ds i = some x) : gSubD (.scr ds) (.int i) A = .ok x A := by
  unfold gSubD asD gIx asQ asR
  simp only [e]
theorem set_num {A : Hd} {k : Nat} {ds : List D} {i : Int} {j : Nat} {d : D} {ro : Env} (h : A[k]? = some (.lst ds)) (e : ixN ds.length i = some j) : setD (.ref k) (.int i) d ro A = .ok ro (A.set k (.lst (ds.set j d))) := by
  unfold setD numL
  simp only [h, e]
theorem atI_of {α : Type} {xs : List α} {i : Int} (h0 : 0 ≤ i) (h1 : i < xs.length) : ∃ x, L2.atI xs i = some x ∧ x ∈ xs := by
  have hi : i.toNat < xs.length := by omega
  refine ⟨xs[i.toNat], ?_, List.getElem_mem hi⟩
  unfold L2.atI ixN
  rw [if_pos h0, if_pos h1]
  exact List.getElem?_eq_getElem hi

/-! ### one step each -/
section
variable {a b c : EF} {fl : AF} {t u : TF} {p q : SF} {g : D → D → Hd → R D} {h : D → Hd → R D} {k : List D → Hd → R D} {ro ro' : Env} {A A0 A1 A2 : Hd} {d e : D} {ds : List D} {r : R D} {o : Out} {i : Nat}
theorem bin_ok (h1 : a ro A = .ok d A1) (h2 : b ro A1 = .ok e A2) (h3 : g d e A2 = r) : eBin g a b ro A = r := by unfold eBin; rw [h1, R.bind_ok, h2, R.bind_ok, h3]
theorem un_ok (h1 : a ro A = .ok d A1) (h3 : h d A1 = r) : eUn h a ro A = r := by unfold eUn; rw [h1, R.bind_ok, h3]
theorem acons_ok (h1 : a ro A = .ok d A1) (h2 : fl ro A1 = .ok ds A2) : aCons a fl ro A = .ok (d :: ds) A2 := by unfold aCons; rw [h1, R.bind_ok, h2, R.bind_ok]
theorem args_ok (h1 : fl ro A = .ok ds A1) (h2 : k ds A1 = r) : eArgs k fl ro A = r := by unfold eArgs; rw [h1, R.bind_ok, h2]
theorem args1_ok (h1 : a ro A = .ok d A1) (h2 : k [d] A1 = r) : eArgs k (aCons a aNil) ro A = r := args_ok (acons_ok h1 rfl) h2
theorem args2_ok (h1 : a ro A = .ok d A1) (h2 : b ro A1 = .ok e A2) (h3 : k [d, e] A2 = r) : eArgs k (aCons a (aCons b aNil)) ro A = r := args_ok (acons_ok h1 (acons_ok h2 rfl)) h3
theorem comp_ok {f : IF} {s : Src} {pt : Pat} {vs : List Nat} (h1 : f ro A = .ok s A1) (h2 : compD s pt vs t a ro s.items [] A1 = .ok ds A2) : eComp f pt vs t a ro A = .ok (.lst ds) A2 := by unfold eComp; rw [h1, R.bind_ok, h2, R.bind_ok]
theorem seq_ok {s : Src} (h1 : a ro A = .ok d A1) (h2 : srcD d A1 = some s) : iSeq a ro A = .ok s A1 := by unfold iSeq; rw [h1, R.bind_ok, h2]
theorem if_ok {z : Bool} (h1 : t ro A = .ok z A1) (h2 : (if z then a ro A1 else b ro A1) = r) : eIf t a b ro A = r := by unfold eIf; rw [h1, R.bind_ok, h2]
theorem and_ok {z : Bool} (h1 : a ro A = .ok (.bl z) A1) (h2 : (if z then b ro A1 else .ok (.bl z) A1) = r) : eAndD a b ro A = r := by
  unfold eAndD
  rw [h1, R.bind_ok]
  show (R.ok z A1).bind _ = r
  rw [R.bind_ok, ← h2]
theorem not_ok {z : Bool} (h1 : a ro A = .ok (.bl z) A1) : eNotD a ro A = .ok (.bl (!z)) A1 := by
  unfold eNotD
  rw [h1, R.bind_ok]
  show (R.ok z A1).bind _ = _
  rw [R.bind_ok]
theorem tnot_ok {z : Bool} (h1 : t ro A = .ok z A1) : tNotD t ro A = .ok (!z) A1 := by unfold tNotD; rw [h1, R.bind_ok]
theorem tru_ok {z : Bool} (h1 : a ro A = .ok d A1) (h2 : gTru d A1 = .ok z A1) : tOfE a ro A = .ok z A1 := by unfold tOfE; rw [h1, R.bind_ok, h2]
theorem trub_ok {z : Bool} (h1 : a ro A = .ok (.bl z) A1) : tOfE a ro A = .ok z A1 := tru_ok h1 rfl
theorem tor_ok {z w : Bool} {A3 : Hd} (h1 : t ro A = .ok z A1) (h2 : (if z then .ok true A1 else u ro A1) = .ok w A3) : tOrD t u ro A = .ok w A3 := by unfold tOrD; rw [h1, R.bind_ok, h2]
theorem tand_ok {z w : Bool} {A3 : Hd} (h1 : t ro A = .ok z A1) (h2 : (if z then u ro A1 else .ok false A1) = .ok w A3) : tAndD t u ro A = .ok w A3 := by unfold tAndD; rw [h1, R.bind_ok, h2]
theorem tcmp_ok {z : Bool} {A3 : Hd} (h1 : a ro A = .ok d A1) (h2 : b ro A1 = .ok e A2) (h3 : g d e A2 = .ok (.bl z) A3) : tCmpD g a b ro A = .ok z A3 := by unfold tCmpD; rw [bin_ok h1 h2 h3]; rfl
theorem sif_ok {z : Bool} (h1 : t ro A = .ok z A1) (h2 : (if z then p ro A1 else q ro A1) = o) : sIf t p q ro A = o := by unfold sIf; rw [h1, R.then_ok, h2]
theorem sseq_ok (h1 : p ro A = .go .nx ro' A1) (h2 : q ro' A1 = o) : sSeq p q ro A = o := by unfold sSeq; rw [h1, Out.next_nx, h2]
theorem sret_ok (h1 : a ro A = .ok d A1) : sRet a ro A = .go (.ret d) ro A1 := by unfold sRet; rw [h1, R.then_ok]
theorem sasg_ok (h1 : a ro A = .ok d A1) : sAsg a (gNm i) ro A = .go .nx (ro.set i (some d)) A1 := by unfold sAsg; rw [h1, R.then_ok]; rfl
theorem sfor_ok {f : IF} {s : Src} {gf : GF} (h1 : f ro A = .ok s A1) (h2 : forD s gf p s.items ro A1 = o) : sFor f gf p ro A = o := by unfold sFor; rw [h1, R.then_ok, h2]
theorem fin_ok (h1 : o = .go (.ret d) ro A1) (h2 : A1.length = A.length) : finR A o = .ok d A1 := by rw [h1]; exact cut_same h2
theorem rng_ok {n : Int} (h1 : a ro A = .ok (.int n) A1) (h0 : 0 ≤ n) (h2 : n < 2 ^ 62) : iRange1 (aCons a aNil) ro A = .ok (.fix (rangeD 0 n.toNat)) A1 := by
  unfold iRange1
  rw [acons_ok h1 (show aNil ro A1 = .ok [] A1 from rfl), R.bind_ok]
  show (if -(2 ^ 62) ≤ n ∧ n < 2 ^ 62 then R.ok (Src.fix (rangeD 0 n.toNat)) A1 else .stk) = _
  rw [if_pos ⟨by omega, h2⟩]
end
end DV

set_option Elab.async false
set_option linter.all false
set_option maxRecDepth 100000
set_option maxHeartbeats 1000000
/-! DvQ: zip(xs, ys, strict=True), each a list or a tuple, of one length. -/
namespace DV
open PySem PySem.Spec PyProof.Rows L2
/-- an iterator at place k of a list (false) or tuple (true) -/
def It1 (h : Heap) (tp : Bool) (i l : Addr) (k : Nat) : Prop := match tp with
  | false => h.IsListIter i l k
  | true => h.IsTupleIter i l k
def Sq1 (h : Heap) (tp : Bool) (l : Addr) (xs : Array Value) : Prop := match tp with
  | false => h.IsList l xs
  | true => h.IsTuple l xs
def SqIt (tp : Bool) (h : Heap) (i l : Addr) (k : Nat) (xs : Array Value) : Prop := It1 h tp i l k ∧ Sq1 h tp l xs
theorem It1.at {h h' : Heap} {tp : Bool} {i l : Addr} {k : Nat} (S : It1 h tp i l k) (ki : ∀ o, h.get? i = some o → h'.get? i = some o) : It1 h' tp i l k := by
  cases tp
  · exact Heap.IsListIter.at S ki
  · exact Heap.IsTupleIter.at S ki
theorem Sq1.at {h h' : Heap} {tp : Bool} {l : Addr} {xs : Array Value} (S : Sq1 h tp l xs) (ki : ∀ o, h.get? l = some o → h'.get? l = some o) : Sq1 h' tp l xs := by
  cases tp
  · exact Heap.IsList.at S ki
  · exact Heap.IsTuple.at S ki
theorem SqIt.at {tp : Bool} {h h' : Heap} {i l : Addr} {k : Nat} {xs : Array Value} (S : SqIt tp h i l k xs) (ki : ∀ o, h.get? i = some o → h'.get? i = some o) (kl : ∀ o, h.get? l = some o → h'.get? l = some o) : SqIt tp h' i l k xs := ⟨S.1.at ki, S.2.at kl⟩
theorem It1.obj {h : Heap} {tp : Bool} {i l : Addr} {k : Nat} (S : It1 h tp i l k) : ∃ o, h.get? i = some o ∧ ∀ v, o.data ≠ .cell v := by
  cases tp
  · obtain ⟨o, e, _, d⟩ := S; exact ⟨o, e, fun v z => by rw [d] at z; cases z⟩
  · obtain ⟨o, e, _, d⟩ := S; exact ⟨o, e, fun v z => by rw [d] at z; cases z⟩
section
variable {prog : Program} {w : World} {A : Around} {E : Value → Shared → Prop} {s : Shared}
theorem nextOrEnd_item {tp : Bool} {i l : Addr} {k : Nat} {xs : Array Value} {x : Value} {Q : Option Value → Shared → Prop} (S : SqIt tp s.heap i l k xs) (ne : l ≠ i) (hx : xs[k]? = some x)
    (fin : ∀ h', SqIt tp h' i l (k + 1) xs → Heap.SameBut i s.heap h' → Q (some x) { s with heap := h' }) : wpAny (model prog w) A (Builtin.SmallTypes.nextOrEnd (.ref i)) Q E s := by
  unfold Builtin.SmallTypes.nextOrEnd
  refine wpAny_bind (wpAny_attempt ?_)
  obtain ⟨a, b⟩ := S
  cases tp
  · exact wpAny_nextOf_list_item a b hx fun h' a' sb => wpAny_pure (fin h' ⟨a', b.at fun o e => (sb.2 l ne).trans e⟩ sb)
  · exact RZ.nextOf_tuple_item a b hx fun h' a' sb => wpAny_pure (fin h' ⟨a', b.at fun o e => (sb.2 l ne).trans e⟩ sb)
theorem nextOrEnd_end {tp : Bool} {i l : Addr} {k : Nat} {xs : Array Value} {Q : Option Value → Shared → Prop} (hh : A.handled = none) (S : SqIt tp s.heap i l k xs) (hx : xs[k]? = none)
    (fin : ∀ h', Heap.ExtBut i s.heap h' → Q none { s with heap := h' }) : wpAny (model prog w) A (Builtin.SmallTypes.nextOrEnd (.ref i)) Q E s := by
  unfold Builtin.SmallTypes.nextOrEnd
  refine wpAny_bind (wpAny_attempt ?_)
  obtain ⟨a, b⟩ := S
  cases tp
  · refine wpAny_nextOf_list_end hh a b hx fun h' e sb he => ?_
    obtain ⟨o, ho, hc⟩ := he
    exact wpAny_bind (wpAny_isInstance (T := "StopIteration") (b := true) ⟨o, ho, hc⟩ isSubtype_stop (wpAny_pure (fin h' sb)))
  · refine RZ.nextOf_tuple_end hh a b hx fun h' e sb he => ?_
    obtain ⟨o, ho, hc⟩ := he
    exact wpAny_bind (wpAny_isInstance (T := "StopIteration") (b := true) ⟨o, ho, hc⟩ isSubtype_stop (wpAny_pure (fin h' sb)))
/-- zip, strict -/
abbrev ZipS (h : Heap) (z TI TO : Addr) (f : Value) : Prop := h.get? z = some { cls := .type "zip", dict := none, data := .fields #[f, .bool false, .bool true, .ref TI, .ref TO], slots := #[] }
theorem zipS_item {tp tq : Bool} {z TI TO i1 i2 l1 l2 : Addr} {k : Nat} {xs ys : Array Value} {x y a b : Value} {Q : Value → Shared → Prop} (D : ZipApart z TI TO i1 i2 l1 l2) (hz : ZipS s.heap z TI TO .none) (hTI : IsPair s.heap TI (.ref i1) (.ref i2)) (hTO : IsPair s.heap TO a b)
    (h1 : SqIt tp s.heap i1 l1 k xs) (h2 : SqIt tq s.heap i2 l2 k ys) (hx : xs[k]? = some x) (hy : ys[k]? = some y)
    (fin : ∀ h', ZipS h' z TI TO (rawInt s.heap.objs.size) → IsPair h' TO x y → SqIt tp h' i1 l1 (k + 1) xs → SqIt tq h' i2 l2 (k + 1) ys → IsPair h' s.heap.objs.size x y → h'.objs.size = s.heap.objs.size + 1 →
      (∀ c o, c ≠ z → c ≠ TO → c ≠ i1 → c ≠ i2 → s.heap.get? c = some o → h'.get? c = some o) → Q (.ref s.heap.objs.size) { s with heap := h' }) :
    wpAny (model prog w) A (Builtin.«zip.__next__» ⟨[.ref z], []⟩) (fun r s' => ∃ v, r = .done (.ret v) ∧ Q v s') E s := by
  show wpAny _ _ (field (.ref z) 2 >>= _) _ _ _
  refine wpAny_bind (wpAny_field hz rfl (x := .bool true) rfl ?_)
  show wpAny _ _ (field (.ref z) 3 >>= _) _ _ _
  refine wpAny_bind (wpAny_field hz rfl (x := .ref TI) rfl ?_)
  refine wpAny_bind (wpAny_seqItems hTI rfl ?_)
  show wpAny _ _ (Builtin.SmallTypes.ownedTupleIsFree (.ref z) >>= _) _ _ _
  refine wpAny_bind ?_
  unfold Builtin.SmallTypes.ownedTupleIsFree
  refine wpAny_bind (wpAny_field hz rfl (x := .none) rfl (wpAny_pure ?_))
  simp only [if_true]
  refine wpAny_bind (wpAny_rule ?_)
  refine wpAny_bind (wpAny_field hz rfl (x := .ref TO) rfl ?_)
  refine wpAny_bind (wpAny_setField_rec hz (by simp) fun m1 z1 sb1 => ?_)
  replace z1 : ZipS m1 z TI TO .ellipsis := z1
  refine wpAny_bind ?_
  simp only [List.zipIdx_cons, List.zipIdx_nil, List.forIn_cons, List.forIn_nil]
  refine wpAny_bind (wpAny_bind (wpAny_onRaise ?_))
  show wpAny _ _ (Builtin.SmallTypes.nextOrEnd (.ref i1)) _ _ _
  refine nextOrEnd_item (h1.at (fun o e => (sb1.2 _ D.i1z).trans e) fun o e => (sb1.2 _ D.l1z).trans e) D.l1i1 hx fun m2 j1 sb2 => ?_
  have t2 : IsPair m2 TO a b := (sb2.2 _ D.TOi1).trans ((sb1.2 _ D.TOz).trans hTO)
  refine wpAny_bind (wpAny_seqItems t2 rfl ?_)
  refine wpAny_bind (wpAny_updateSeq_pair t2 fun m3 t3 sb3 => ?_)
  replace t3 : IsPair m3 TO x b := t3
  refine wpAny_bind (wpAny_letGo (wpAny_pure ?_))
  refine wpAny_bind (wpAny_bind (wpAny_onRaise ?_))
  show wpAny _ _ (Builtin.SmallTypes.nextOrEnd (.ref i2)) _ _ _
  have j2 : SqIt tq m3 i2 l2 k ys := h2.at (fun o e => (sb3.2 _ D.TOi2.symm).trans ((sb2.2 _ D.i12.symm).trans ((sb1.2 _ D.i2z).trans e))) fun o e => (sb3.2 _ D.l2TO).trans ((sb2.2 _ D.l2i1).trans ((sb1.2 _ D.l2z).trans e))
  refine nextOrEnd_item j2 D.l2i2 hy fun m4 j3 sb4 => ?_
  have t4 : IsPair m4 TO x b := (sb4.2 _ D.TOi2).trans t3
  refine wpAny_bind (wpAny_seqItems t4 rfl ?_)
  refine wpAny_bind (wpAny_updateSeq_pair t4 fun m5 t5 sb5 => ?_)
  replace t5 : IsPair m5 TO x y := t5
  refine wpAny_bind (wpAny_letGo (wpAny_pure (wpAny_pure ?_)))
  refine wpAny_bind (wpAny_seqItems t5 rfl ?_)
  refine wpAny_bind (wpAny_newTuple ?_)
  have sz : m5.objs.size = s.heap.objs.size := by rw [sb5.1, sb4.1, sb3.1, sb2.1, sb1.1]
  have keep : ∀ c o, c ≠ z → c ≠ TO → c ≠ i1 → c ≠ i2 → s.heap.get? c = some o → m5.get? c = some o := fun c o c1 c2 c3 c4 e =>
    (sb5.2 _ c2).trans ((sb4.2 _ c4).trans ((sb3.2 _ c2).trans ((sb2.2 _ c3).trans ((sb1.2 _ c1).trans e))))
  have z5 : ZipS m5 z TI TO .ellipsis := (sb5.2 _ D.TOz.symm).trans ((sb4.2 _ D.i2z.symm).trans ((sb3.2 _ D.TOz.symm).trans ((sb2.2 _ D.i1z.symm).trans z1)))
  have n1 : SqIt tp m5 i1 l1 (k + 1) xs := j1.at (fun o e => (sb5.2 _ D.TOi1.symm).trans ((sb4.2 _ D.i12).trans ((sb3.2 _ D.TOi1.symm).trans e))) fun o e => (sb5.2 _ D.l1TO).trans ((sb4.2 _ D.l1i2).trans ((sb3.2 _ D.l1TO).trans e))
  have n2 : SqIt tq m5 i2 l2 (k + 1) ys := j3.at (fun o e => (sb5.2 _ D.TOi2.symm).trans e) fun o e => (sb5.2 _ D.l2TO).trans e
  have zlt : z < m5.objs.size := Heap.lt_size z5
  show wpAny _ _ (Builtin.SmallTypes.ownedTupleHandOut (.ref z) (.ref m5.objs.size) >>= _) _ _ _
  refine wpAny_bind ?_
  unfold Builtin.SmallTypes.ownedTupleHandOut
  have z6 : ZipS (m5.push { cls := .type "tuple", data := .seq #[x, y] }) z TI TO .ellipsis := Heap.get?_push_of_some _ z5
  refine wpAny_bind (wpAny_setField_rec z6 (by simp) fun m7 z7 sb7 => ?_)
  replace z7 : ZipS m7 z TI TO (rawInt m5.objs.size) := z7
  refine wpAny_setField_rec z7 (by simp) fun m8 z8 sb8 => ?_
  replace z8 : ZipS m8 z TI TO (rawInt m5.objs.size) := z8
  have up : ∀ c o, c ≠ z → m5.get? c = some o → m8.get? c = some o := fun c o c1 e => (sb8.2 _ c1).trans ((sb7.2 _ c1).trans (Heap.get?_push_of_some _ e))
  have tp : IsPair m8 m5.objs.size x y := (sb8.2 _ (Nat.ne_of_gt zlt)).trans ((sb7.2 _ (Nat.ne_of_gt zlt)).trans (Heap.get?_push_size _ rfl))
  have sz8 : m8.objs.size = m5.objs.size + 1 := by rw [sb8.1, sb7.1, Heap.size_push]
  rw [sz] at z8 tp sz8
  refine wpAny_pure ⟨_, rfl, ?_⟩
  show Q (.ref m5.objs.size) _
  rw [sz]
  exact fin m8 z8 (up _ _ D.TOz t5) (n1.at (fun o e => up _ o D.i1z e) fun o e => up _ o D.l1z e) (n2.at (fun o e => up _ o D.i2z e) fun o e => up _ o D.l2z e) tp sz8 fun c o c1 c2 c3 c4 e => up c o c1 (keep c o c1 c2 c3 c4 e)
theorem zipS_end {tp tq : Bool} {z TI TO i1 i2 l1 l2 : Addr} {k : Nat} {xs ys : Array Value} {a b : Value} {Q : Fin → Shared → Prop} (hh : A.handled = none) (D : ZipApart z TI TO i1 i2 l1 l2) (hz : ZipS s.heap z TI TO .none) (hTI : IsPair s.heap TI (.ref i1) (.ref i2)) (hTO : IsPair s.heap TO a b)
    (h1 : SqIt tp s.heap i1 l1 k xs) (h2 : SqIt tq s.heap i2 l2 k ys) (hx : xs[k]? = none) (hy : ys[k]? = none)
    (fin : ∀ h' e, (∀ c o, c ≠ z → c ≠ TO → c ≠ i1 → c ≠ i2 → s.heap.get? c = some o → h'.get? c = some o) → (∃ o, h'.get? e = some o ∧ o.cls = .type "StopIteration") → E (.ref e) { s with heap := h' }) :
    wpAny (model prog w) A (Builtin.«zip.__next__» ⟨[.ref z], []⟩) Q E s := by
  show wpAny _ _ (field (.ref z) 2 >>= _) _ _ _
  refine wpAny_bind (wpAny_field hz rfl (x := .bool true) rfl ?_)
  show wpAny _ _ (field (.ref z) 3 >>= _) _ _ _
  refine wpAny_bind (wpAny_field hz rfl (x := .ref TI) rfl ?_)
  refine wpAny_bind (wpAny_seqItems hTI rfl ?_)
  show wpAny _ _ (Builtin.SmallTypes.ownedTupleIsFree (.ref z) >>= _) _ _ _
  refine wpAny_bind ?_
  unfold Builtin.SmallTypes.ownedTupleIsFree
  refine wpAny_bind (wpAny_field hz rfl (x := .none) rfl (wpAny_pure ?_))
  simp only [if_true]
  refine wpAny_bind (wpAny_rule ?_)
  refine wpAny_bind (wpAny_field hz rfl (x := .ref TO) rfl ?_)
  refine wpAny_bind (wpAny_setField_rec hz (by simp) fun m1 z1 sb1 => ?_)
  replace z1 : ZipS m1 z TI TO .ellipsis := z1
  refine wpAny_bind ?_
  simp only [List.zipIdx_cons, List.zipIdx_nil, List.forIn_cons, List.forIn_nil]
  refine wpAny_bind (wpAny_bind (wpAny_onRaise ?_))
  show wpAny _ _ (Builtin.SmallTypes.nextOrEnd (.ref i1)) _ _ _
  refine nextOrEnd_end hh (h1.at (fun o e => (sb1.2 _ D.i1z).trans e) fun o e => (sb1.2 _ D.l1z).trans e) hx fun m2 sb2 => ?_
  have z2 : ZipS m2 z TI TO .ellipsis := sb2 _ _ D.i1z.symm z1
  refine wpAny_bind (wpAny_setField_rec z2 (by simp) fun m3 z3 sb3 => ?_)
  refine wpAny_bind ?_
  let say1 : String := s!"zip() argument {(0 : Nat) + 1} is shorter than {(if (0 : Nat) == 1 then "argument 1" else s!"arguments 1-{(0 : Nat)}")}"
  let say2 : Nat → String := fun j => s!"zip() argument {j + 1} is longer than {(if j == 1 then "argument 1" else s!"arguments 1-{j}")}"
  show wpAny _ _ (do
      if (0 : Nat) > 0 then
        rule "zip.__next__.shorter"
        raiseError "ValueError" say1
      for (it, j) in ([Value.ref i1, .ref i2].drop 1).zipIdx 1 do
        if (← Builtin.SmallTypes.nextOrEnd it).isSome then
          rule "zip.__next__.longer"
          raiseError "ValueError" (say2 j)
      rule "zip.__next__.all-ended"
      (Builtin.SmallTypes.stopIteration : Sem PySem.Fin)) _ _ _
  rw [if_neg (by omega)]
  dsimp only
  refine wpAny_bind ?_
  simp only [List.drop_succ_cons, List.drop_zero, List.zipIdx_cons, List.zipIdx_nil, List.forIn_cons, List.forIn_nil]
  have kk : ∀ c o, c ≠ z → c ≠ i1 → s.heap.get? c = some o → m3.get? c = some o := fun c o c1 c2 e => (sb3.2 _ c1).trans (sb2 _ _ c2 ((sb1.2 _ c1).trans e))
  refine wpAny_bind (wpAny_bind ?_)
  refine nextOrEnd_end hh (h2.at (fun o e => kk _ _ D.i2z D.i12.symm e) fun o e => kk _ _ D.l2z D.l2i1 e) hy fun m4 sb4 => ?_
  simp only [Option.isSome_none, Bool.false_eq_true, if_false]
  refine wpAny_pure (wpAny_pure ?_)
  refine wpAny_bind (wpAny_rule ?_)
  unfold Builtin.SmallTypes.stopIteration
  show wpAny _ _ (newExc (.type "StopIteration") [] >>= _) _ _ _
  refine wpAny_bind ?_
  simp only [newExc, newTuple]
  refine wpAny_bind (wpAny_newObj_type ?_ (by size_fits))
  refine wpAny_bind (m := firstArgMember _ _) (wpAny_of_eq (a := Value.none) (by first | rfl | (simp only [firstArgMember]; rfl)) ?_)
  refine wpAny_newObj_type ?_ (by size_fits)
  simp only [raiseNew]
  refine wpAny_bind (wpAny_handled ?_)
  rw [hh]
  refine wpAny_bind (wpAny_pure (wpAny_throw ?_))
  exact fin _ _ (fun c o c1 c2 c3 c4 e => Heap.get?_push_of_some _ (Heap.get?_push_of_some _ (sb4 _ _ c4 (kk c o c1 c3 e)))) ⟨_, Heap.get?_push_size _ rfl, rfl⟩
theorem pyNext_zipS_item {tp tq : Bool} {z TI TO i1 i2 l1 l2 : Addr} {k : Nat} {xs ys : Array Value} {x y a b : Value} {Q : Option Value → Shared → Prop} (D : ZipApart z TI TO i1 i2 l1 l2) (hz : ZipS s.heap z TI TO .none) (hTI : IsPair s.heap TI (.ref i1) (.ref i2)) (hTO : IsPair s.heap TO a b)
    (h1 : SqIt tp s.heap i1 l1 k xs) (h2 : SqIt tq s.heap i2 l2 k ys) (hx : xs[k]? = some x) (hy : ys[k]? = some y)
    (fin : ∀ h', ZipS h' z TI TO (rawInt s.heap.objs.size) → IsPair h' TO x y → SqIt tp h' i1 l1 (k + 1) xs → SqIt tq h' i2 l2 (k + 1) ys → IsPair h' s.heap.objs.size x y → h'.objs.size = s.heap.objs.size + 1 →
      (∀ c o, c ≠ z → c ≠ TO → c ≠ i1 → c ≠ i2 → s.heap.get? c = some o → h'.get? c = some o) → Q (some (.ref s.heap.objs.size)) { s with heap := h' }) : wpAny (model prog w) A (pyNext (.ref z)) Q E s := by
  have ty : s.TypeIs (.ref z) "zip" := ⟨_, hz, rfl⟩
  unfold pyNext
  exact wpAny_bind (wpAny_attempt (wpAny_callSpecial?_slot (name := Str.ofString "__next__") ty F.slot_zip_next (wpAny_call_entry F.slot_zip_next ty F.entry_zip_next
    (zipS_item D hz hTI hTO h1 h2 hx hy fun h' a1 a2 a3 a4 a5 a6 a7 => wpAny_pure (fin h' a1 a2 a3 a4 a5 a6 a7)) (F.args_zip_next_1 _))))
theorem pyNext_zipS_end {tp tq : Bool} {z TI TO i1 i2 l1 l2 : Addr} {k : Nat} {xs ys : Array Value} {a b : Value} {Q : Option Value → Shared → Prop} (hh : A.handled = none) (D : ZipApart z TI TO i1 i2 l1 l2) (hz : ZipS s.heap z TI TO .none) (hTI : IsPair s.heap TI (.ref i1) (.ref i2)) (hTO : IsPair s.heap TO a b)
    (h1 : SqIt tp s.heap i1 l1 k xs) (h2 : SqIt tq s.heap i2 l2 k ys) (hx : xs[k]? = none) (hy : ys[k]? = none)
    (fin : ∀ h', (∀ c o, c ≠ z → c ≠ TO → c ≠ i1 → c ≠ i2 → s.heap.get? c = some o → h'.get? c = some o) → Q none { s with heap := h' }) : wpAny (model prog w) A (pyNext (.ref z)) Q E s := by
  have ty : s.TypeIs (.ref z) "zip" := ⟨_, hz, rfl⟩
  unfold pyNext
  refine wpAny_bind (wpAny_attempt (wpAny_callSpecial?_slot (name := Str.ofString "__next__") ty F.slot_zip_next (wpAny_call_entry F.slot_zip_next ty F.entry_zip_next (zipS_end hh D hz hTI hTO h1 h2 hx hy fun h' e hk he => ?_) (F.args_zip_next_1 _))))
  obtain ⟨o, ho, hc⟩ := he
  exact wpAny_bind (wpAny_isInstance (T := "StopIteration") (b := true) ⟨o, ho, hc⟩ isSubtype_stop (wpAny_pure (fin _ hk)))
theorem handOut_zipS {elts : List Expr} {x1} {pos : Pos} {z TI TO T : Addr} {Q : Unit → Shared → Prop} (hz : ZipS s.heap z TI TO (rawInt T)) (fin : ∀ h', ZipS h' z TI TO .none → Heap.SameBut z s.heap h' → Q () { s with heap := h' }) :
    wpAny (model prog w) A (letOwnedTupleGo (.Tuple elts x1 pos) (.ref z) (.ref T)) Q E s := by
  unfold letOwnedTupleGo
  refine wpAny_bind (wpAny_load hz ?_)
  show wpAny _ _ (if (["enumerate", "zip", "dict_itemiterator", "dict_reverseitemiterator", "odict_iterator", "itertools.zip_longest", "itertools.pairwise"].contains "zip" && (#[rawInt T, .bool false, .bool true, .ref TI, .ref TO] : Array Value)[0]? == some (rawInt T)) = true then _ else _) Q E s
  rw [if_pos (by simp)]
  refine wpAny_bind (wpAny_rule ?_)
  show wpAny _ _ (setField (.ref z) 0 .none) Q E s
  exact wpAny_setField_rec hz (by simp) fun h' hz' hs' => fin h' hz' hs'
theorem iter_zipS {z TI TO : Addr} {f : Value} {Q : Value → Shared → Prop} (hz : ZipS s.heap z TI TO f) (h : Q (.ref z) s) : wpAny (model prog w) A (pyIter (.ref z)) Q E s := by
  have ty : s.TypeIs (.ref z) "zip" := ⟨_, hz, rfl⟩
  refine wpAny_pyIter_slot ty F.slot_zip_iter (wpAny_call_entry F.slot_zip_iter ty F.entry_zip_iter ?_ (F.args_zip_iter_1 _))
  show wpAny _ _ (ret (.ref z)) _ _ s
  exact wpAny_pure ⟨_, rfl, "zip", _, ty, F.slot_zip_next.lookup, h⟩
end
end DV

set_option Elab.async false
set_option linter.all false
set_option maxRecDepth 100000
set_option maxHeartbeats 1000000
/-! DvR: the walk over zip(.., strict=True) and enumerate(tuple). -/
namespace DV
open PySem PySem.Spec PyProof.Rows L2
/-- a list (false) or tuple (true) that is read -/
def SqV (K : PySem.W.Frag) (H : Hp) (tp : Bool) (a : Addr) (xs : List V) : Prop := match tp with
  | false => SqL K H a xs
  | true => SqT K H a xs
section
variable {X : Cx} {pins : List (Addr × Obj)} {σ : L2.St} {H : Hp} {s : Shared}
theorem SqV.get {tp : Bool} {a : Addr} {xs : List V} (I : Inv X pins σ H s) (h : SqV X.K H tp a xs) : ∃ its : List Value, Vals xs its ∧ Sq1 s.heap tp a its.toArray := by
  cases tp
  · obtain ⟨its, r, p, _⟩ := I.list h; exact ⟨its, r, p.isList⟩
  · obtain ⟨its, r, p, _⟩ := I.tuple h; exact ⟨its, r, p⟩
theorem SqV.one {tp : Bool} {a : Addr} {xs ys : List V} (I : Inv X pins σ H s) (h : SqV X.K H tp a xs) (h2 : SqV X.K H tp a ys) : xs = ys := by
  cases tp
  · exact I.list_inj h h2
  · exact I.tuple_inj h h2
end
def ItS (K : PySem.W.Frag) (tp tq : Bool) (a b : Addr) : It :=
  ⟨fun i H => ∃ (xs ys : List V) (x y : V), SqV K H tp a xs ∧ SqV K H tq b ys ∧ xs[i]? = some x ∧ ys[i]? = some y,
    fun i H v H' => ∃ T x y, ∃ o : Obj, v = .ref T ∧ H T = none ∧ o.dict = none ∧ H' = upd H T (.frz o (.tup [x, y])) ∧ (∀ xs, SqV K H tp a xs → xs[i]? = some x) ∧ ∀ ys, SqV K H tq b ys → ys[i]? = some y,
    fun i H => ∃ xs ys : List V, SqV K H tp a xs ∧ SqV K H tq b ys ∧ xs.length ≤ i ∧ ys.length ≤ i⟩
theorem five_mem {c z TI TO i1 i2 : Addr} (h : c ∈ [z, TI, TO, i1, i2]) : c = z ∨ c = TI ∨ c = TO ∨ c = i1 ∨ c = i2 := by simpa using h
theorem five_not {c z TI TO i1 i2 : Addr} (h : c ∉ [z, TI, TO, i1, i2]) : c ≠ z ∧ c ≠ TO ∧ c ≠ i1 ∧ c ≠ i2 := by
  simp only [List.mem_cons, List.not_mem_nil, or_false, not_or] at h
  exact ⟨h.1, h.2.2.1, h.2.2.2.1, h.2.2.2.2⟩
theorem turn_zipS {P : Program} {w : World} {K : PySem.W.Frag} {elts : List Expr} {kk : Nat} {tpos : Pos} {tp tq : Bool} {a b z TI TO i1 i2 : Addr} (D : ZipApart z TI TO i1 i2 a b) :
    Turn P w K (.Tuple elts kk tpos) (ItS K tp tq a b) [z, TI, TO, i1, i2] z (fun i h => ZipS h z TI TO .none ∧ IsPair h TI (.ref i1) (.ref i2) ∧ (∃ x y, IsPair h TO x y) ∧ It1 h tp i1 a i ∧ It1 h tq i2 b i) where
  mem := List.mem_cons_self
  obj := fun i h ⟨hz, hTI, ⟨x, y, hTO⟩, h1, h2⟩ c hc => by
    rcases five_mem hc with q | q | q | q | q <;> rw [q]
    · exact ⟨_, hz, fun v q => nomatch q⟩
    · exact ⟨_, hTI, fun v q => nomatch q⟩
    · exact ⟨_, hTO, fun v q => nomatch q⟩
    · exact h1.obj
    · exact h2.obj
  keep := fun i h h' ⟨hz, hTI, ⟨x, y, hTO⟩, h1, h2⟩ k => ⟨k z (by simp) _ hz, k TI (by simp) _ hTI, ⟨x, y, k TO (by simp) _ hTO⟩, h1.at fun o q => k i1 (by simp) o q, h2.at fun o q => k i2 (by simp) o q⟩
  item := by
    intro X hP hw hK hc i pins s σ H E I hf st hg
    subst hP hw hK
    obtain ⟨hz, hTI, ⟨x0, y0, hTO⟩, h1, h2⟩ := st
    obtain ⟨xs, ys, x, y, qx, qy, hx, hy⟩ := hg
    obtain ⟨us, rv, s1⟩ := qx.get I
    obtain ⟨ws, rv2, s2⟩ := qy.get I
    obtain ⟨u, hu, ru⟩ := rv.get hx
    obtain ⟨u2, hu2, ru2⟩ := rv2.get hy
    have zl : z < s.heap.objs.size := Heap.lt_size hz
    refine pyNext_zipS_item D hz hTI hTO ⟨h1, s1⟩ ⟨h2, s2⟩ (x := u) (y := u2) (by simpa using hu) (by simpa using hu2) fun m z1 t1 j1 j2 tn _ hk => ?_
    refine ⟨_, rfl, handOut_zipS (s := { s with heap := m }) z1 fun m2 z2 sb => ?_⟩
    have kept : ∀ c o, c ∉ [z, TI, TO, i1, i2] → s.heap.get? c = some o → m2.get? c = some o := fun c o hb q =>
      have ⟨c1, c2, c3, c4⟩ := five_not hb
      (sb.2 c c1).trans (hk c o c1 c2 c3 c4 q)
    have tn2 : IsPair m2 s.heap.objs.size u u2 := (sb.2 _ (Nat.ne_of_gt zl)).trans tn
    have new : ObjOk X.prog X.w (upd H s.heap.objs.size (.frz { cls := .type "tuple", data := .seq #[u, u2] } (.tup [x, y]))) m2 s.heap.objs.size (.frz { cls := .type "tuple", data := .seq #[u, u2] } (.tup [x, y])) := ⟨tn2, by show 2 ≤ sizeLine; decide, [u, u2], .cons ru (.cons ru2 .nil), ⟨_, tn2, rfl, _, rfl⟩⟩
    have I1 : Inv X pins σ (upd H s.heap.objs.size (.frz { cls := .type "tuple", data := .seq #[u, u2] } (.tup [x, y]))) { s with heap := m2 } := I.turnedNew (t' := s.toks) (ch := [z, TI, TO, i1, i2]) (fun c o hb q => kept c o hb q) hf (Nat.le_refl _) new
    refine ⟨.ref s.heap.objs.size, _, I1, rfl, ⟨_, x, y, _, rfl, I.hok.fresh (Nat.le_refl _), rfl, rfl, fun l hl => by rw [hl.one I qx]; exact hx, fun l hl => by rw [hl.one I qy]; exact hy⟩,
      ⟨z2, (sb.2 _ D.TIz).trans (hk _ _ D.TIz D.TITO D.TIi1 D.TIi2 hTI), ⟨u, u2, (sb.2 _ D.TOz).trans t1⟩, j1.1.at fun o q => (sb.2 _ D.i1z).trans q, j2.1.at fun o q => (sb.2 _ D.i2z).trans q⟩, fun c hcm => ?_⟩
    have lt : c < s.heap.objs.size := by
      rcases five_mem hcm with q | q | q | q | q <;> rw [q]
      · exact zl
      · exact Heap.lt_size hTI
      · exact Heap.lt_size hTO
      · obtain ⟨_, e, _⟩ := h1.obj; exact Heap.lt_size e
      · obtain ⟨_, e, _⟩ := h2.obj; exact Heap.lt_size e
    rw [upd_ne (Nat.ne_of_lt lt)]
    exact (hf c hcm).1
  done := by
    intro X hP hw hK hc i pins s σ H E I hf st hg
    subst hP hw hK
    obtain ⟨hz, hTI, ⟨x0, y0, hTO⟩, h1, h2⟩ := st
    obtain ⟨xs, ys, qx, qy, ex, ey⟩ := hg
    obtain ⟨us, rv, s1⟩ := qx.get I
    obtain ⟨ws, rv2, s2⟩ := qy.get I
    have l1 := rv.length
    have l2 := rv2.length
    exact pyNext_zipS_end (I.ok.hd hc) D hz hTI hTO ⟨h1, s1⟩ ⟨h2, s2⟩ (by simp; omega) (by simp; omega) fun m hk => ⟨rfl, I.turnedL (t' := s.toks) (ch := [z, TI, TO, i1, i2]) (fun c o hb q =>
      have ⟨c1, c2, c3, c4⟩ := five_not hb
      hk c o c1 c2 c3 c4 q) hf⟩
  self := fun A i s Q E st h => iter_zipS st.1 h

/-! ### made -/
def itO (tp : Bool) (l : Addr) : Obj := match tp with
  | false => { cls := .type "list_iterator", data := .fields #[.ref l, .int 0 0] }
  | true => { cls := .type "tuple_iterator", data := .fields #[.ref l, .int 0 0] }
theorem begins (tp : Bool) (l : Addr) (xs : Array Value) : PySem.Begins (.ref l) (itO tp l) fun h => Sq1 h tp l xs := by
  cases tp
  · exact begins_list l xs
  · exact begins_tuple l xs
theorem itO_it {h : Heap} {tp : Bool} {i l : Addr} (e : h.get? i = some (itO tp l)) : It1 h tp i l 0 := by
  cases tp
  · exact ⟨_, e, rfl, rfl⟩
  · exact ⟨_, e, rfl, rfl⟩
abbrev zo1 (h : Heap) (o1 : Obj) : Heap := h.push o1
abbrev zo2 (h : Heap) (o1 o2 : Obj) : Heap := (zo1 h o1).push o2
abbrev zo3 (h : Heap) (o1 o2 : Obj) : Heap := (zo2 h o1 o2).push { cls := .type "tuple", data := .seq #[.ref h.objs.size, .ref (zo1 h o1).objs.size] }
abbrev zo4 (h : Heap) (o1 o2 : Obj) : Heap := (zo3 h o1 o2).push { cls := .type "tuple", data := .seq #[.none, .none] }
abbrev zo5 (h : Heap) (o1 o2 : Obj) : Heap := (zo4 h o1 o2).push { cls := .type "zip", data := .fields #[.none, .bool false, .bool true, .ref (zo2 h o1 o2).objs.size, .ref (zo3 h o1 o2).objs.size] }
theorem typeCall_zipS (a b c : Value) : checkTypeCall "zip" ⟨[a, b], [(Str.ofString "strict", c)]⟩ = pure () := by kernel_rfl
theorem newCall_zipS (a b c : Value) : checkBuiltinCall "zip.__new__" ⟨[.type "zip", a, b], [(Str.ofString "strict", c)]⟩ = pure () := by kernel_rfl
theorem args_initS (o a b c : Value) : argsOk "object.__init__" ⟨[o, a, b], [(Str.ofString "strict", c)]⟩ := by unfold argsOk; kernel_rfl
theorem meets_zipS {v1 v2 : Value} {o1 o2 : Obj} {H1 H2 : Heap → Prop} (B1 : PySem.Begins v1 o1 H1) (B2 : PySem.Begins v2 o2 H2) :
    Meets (Builtin.«zip.__new__» ⟨[.type "zip", v1, v2], [(Str.ofString "strict", .bool true)]⟩) (fun _ R s => H1 s.heap ∧ H2 s.heap ∧ R (.ok (.ret (.ref (zo4 s.heap o1 o2).objs.size))) { s with heap := zo5 s.heap o1 o2 }) :=
  .of_wp fun prog w A R s h => by
    obtain ⟨hp, g, d, tk, os⟩ := s
    obtain ⟨h1, h2, h⟩ := h
    have hsub := sub_zip
    have e1 : (Str.ofString "strict" == ("strict" : Str)) = true := by decide +kernel
    have e2 : (Str.ofString "strict" != ("strict" : Str)) = false := by decide +kernel
    have q1 : ∀ {A' : Around} {E : Value → Shared → Prop} {Q : Value → Shared → Prop}, Q (.ref hp.objs.size) ⟨hp.push o1, g, d, tk, os⟩ → wpAny (model prog w) A' (pyIter v1) Q E ⟨hp, g, d, tk, os⟩ :=
      fun q => B1.iter prog w _ _ ⟨hp, g, d, tk, os⟩ _ h1 q
    have q2 : ∀ {A' : Around} {E : Value → Shared → Prop} {Q : Value → Shared → Prop}, Q (.ref (hp.push o1).objs.size) ⟨(hp.push o1).push o2, g, d, tk, os⟩ → wpAny (model prog w) A' (pyIter v2) Q E ⟨hp.push o1, g, d, tk, os⟩ :=
      fun q => B2.iter prog w _ _ ⟨hp.push o1, g, d, tk, os⟩ _ (B2.keeps _ _ h2 fun b o e => Heap.get?_push_of_some _ e) q
    wp_walk using q1, q2
    exact ⟨_, rfl, h⟩
end DV

set_option Elab.async false
set_option linter.all false
set_option maxRecDepth 100000
set_option maxHeartbeats 1000000
/-! DvS: zip(xs, ys, strict=True) and enumerate(xs) as what is walked, by data; tuple.index; [::-1]. -/
namespace DV
open PySem PySem.Spec PyProof.Rows L2
section
variable {prog : Program} {w : World} {A : Around} {E : Value → Shared → Prop} {s : Shared}
theorem call_zipS {tp tq : Bool} {l1 l2 : Addr} {xs ys : Array Value} {Q : Value → Shared → Prop} (h1 : Sq1 s.heap tp l1 xs) (h2 : Sq1 s.heap tq l2 ys)
    (fin : ∀ h', ZipS h' (s.heap.objs.size + 4) (s.heap.objs.size + 2) (s.heap.objs.size + 3) .none → IsPair h' (s.heap.objs.size + 2) (.ref s.heap.objs.size) (.ref (s.heap.objs.size + 1)) → IsPair h' (s.heap.objs.size + 3) .none .none →
      It1 h' tp s.heap.objs.size l1 0 → It1 h' tq (s.heap.objs.size + 1) l2 0 → (∀ c o, s.heap.get? c = some o → h'.get? c = some o) → Q (.ref (s.heap.objs.size + 4)) { s with heap := h' }) :
    wpAny (model prog w) A (call (.type "zip") [.ref l1, .ref l2] [(Str.ofString "strict", .bool true)]) Q E s := by
  have B1 := begins tp l1 xs
  have B2 := begins tq l2 ys
  refine callType_newKw PySem.F.called_zip (by decide) (typeCall_zipS _ _ _) (newCall_zipS _ _ _) (fun obj => args_initS obj _ _ _) PySem.F.entry_zip_new (meets_zipS B1 B2) ⟨h1, h2, ?_⟩
  have z1 : (zo1 s.heap (itO tp l1)).objs.size = s.heap.objs.size + 1 := Heap.size_push ..
  have z2 : (zo2 s.heap (itO tp l1) (itO tq l2)).objs.size = s.heap.objs.size + 2 := by rw [Heap.size_push, z1]
  have z3 : (zo3 s.heap (itO tp l1) (itO tq l2)).objs.size = s.heap.objs.size + 3 := by rw [Heap.size_push, z2]
  have z4 : (zo4 s.heap (itO tp l1) (itO tq l2)).objs.size = s.heap.objs.size + 4 := by rw [Heap.size_push, z3]
  have g5 : (zo5 s.heap (itO tp l1) (itO tq l2)).get? (zo4 s.heap (itO tp l1) (itO tq l2)).objs.size = some _ := Heap.get?_push_size _ rfl
  have g4 : (zo5 s.heap (itO tp l1) (itO tq l2)).get? (zo3 s.heap (itO tp l1) (itO tq l2)).objs.size = some _ := Heap.get?_push_of_some _ (Heap.get?_push_size _ rfl)
  have g3 : (zo5 s.heap (itO tp l1) (itO tq l2)).get? (zo2 s.heap (itO tp l1) (itO tq l2)).objs.size = some _ := Heap.get?_push_of_some _ (Heap.get?_push_of_some _ (Heap.get?_push_size _ rfl))
  have g2 : (zo5 s.heap (itO tp l1) (itO tq l2)).get? (zo1 s.heap (itO tp l1)).objs.size = some _ := Heap.get?_push_of_some _ (Heap.get?_push_of_some _ (Heap.get?_push_of_some _ (Heap.get?_push_size _ B2.free)))
  have g1 : (zo5 s.heap (itO tp l1) (itO tq l2)).get? s.heap.objs.size = some _ := Heap.get?_push_of_some _ (Heap.get?_push_of_some _ (Heap.get?_push_of_some _ (Heap.get?_push_of_some _ (Heap.get?_push_size _ B1.free))))
  show _ ∧ _
  rw [z2, z3, z4] at g5
  rw [z1, z2] at g3
  rw [z3] at g4
  rw [z1] at g2
  rw [z4]
  exact ⟨⟨_, g5, rfl⟩, fin _ g5 g3 g4 (itO_it g1) (itO_it g2) fun c o x => Heap.get?_push_of_some _ (Heap.get?_push_of_some _ (Heap.get?_push_of_some _ (Heap.get?_push_of_some _ (Heap.get?_push_of_some _ x))))⟩
theorem callWith_tyKw {pos : Pos} {T : String} {env : PySem.Env} {e : Expr} {rest : List Expr} {kws : List Keyword} {Q : Value → Shared → Prop} {M : Model}
    (h : wpAny M A (spliced (backTo pos (starEach (e :: rest) env))) (fun vs s1 => wpAny M A (evalAll ((backToKw pos (keywordEach kws env)).map (·.2))) (fun ks s2 => wpAny M A (call (.type T) vs (((backToKw pos (keywordEach kws env)).filterMap (·.1)).zip ks)) Q E s2) E s1) E s)
    (he : backTo pos (starEach (e :: rest) env) = (false, eval e env) :: backTo pos (starEach rest env)) (hplain : (backTo pos (starEach (e :: rest) env)).any (·.1) = false)
    (hall : (backToKw pos (keywordEach kws env)).all (·.1.isSome) = true) (hkw : (backToKw pos (keywordEach kws env)).any (·.1.isNone) = false) :
    wpAny M A (callWith pos (.type T) [] (backTo pos (starEach (e :: rest) env)) (backToKw pos (keywordEach kws env))) Q E s := by
  have key : wpAny M A (evalArgs (.type T) true (backTo pos (starEach (e :: rest) env)) (backToKw pos (keywordEach kws env))) (fun a s1 => wpAny M A (call (.type T) ([] ++ a.pos) a.kw) Q E s1) E s := by
    rw [he] at h ⊢
    exact PyProof.Rows.evalArgs_kwB hall h
  unfold callWith
  refine wpAny_bind (wpAny_holding (wpAny_mono key (fun a s1 h1 => wpAny_bind (wpAny_standAt ?_)) fun _ _ x => x))
  simp only [hplain, hkw, Bool.or_false]
  refine wpAny_bind (wpAny_pure ?_)
  exact wpAny_bind (wpAny_mono h1 (fun r s2 hr => wpAny_bind (wpAny_holding (wpAny_point (wpAny_pure hr)))) fun _ _ x => x)
end
def iZipS0 (K : PySem.W.Frag) (ta : TA) : TI := fun σ H R => ta σ H fun vs H1 => ∃ (tp tq : Bool) (a b : Addr) (xs ys : List V), vs = [.ref a, .ref b] ∧ SqV K H1 tp a xs ∧ SqV K H1 tq b ys ∧ R (ItS K tp tq a b) H1
theorem pi_zipS {X : Cx} {e e2 : Expr} {ta : TA} {p pos tpos kp cp : Pos} {j : Nat} {elts : List Expr} {kk : Nat} (hg : Gl X "zip") (hm : X.mg "zip" = none) (ha : PA X [e, e2] ta)
    (hs : backTo pos (starEach [e, e2] X.env) = (false, eval e X.env) :: backTo pos (starEach [e2] X.env) := by rfl) (hpl : (backTo pos (starEach [e, e2] X.env)).any (·.1) = false := by rfl) :
    PI X (.Tuple elts kk tpos) (.Call (.Name "zip" p) [e, e2] [⟨some "strict", .Constant (.bool true) j cp, kp⟩] pos) (iZipS0 X.K ta) := by
  refine ⟨fun pins s σ H R I h => ?_⟩
  refine wpAny_Call_Name_kw (ld_blt I hg hm PyProof.Rows.boot_zip (callWith_tyKw (thn (ha.run pos pins s σ H _ I h) fun us s1 ⟨vs, H1, I1, r1, q1⟩ => ?_) hs hpl rfl rfl))
  refine PyProof.Rows.kws_cons (wpAny_Constant_bool (PyProof.Rows.kws_nil ?_))
  obtain ⟨tp, tq, a, b, xs, ys, ex, qx, qy, q⟩ := q1
  subst ex
  cases r1 with
  | cons r rr =>
    cases rr with
    | cons r' rr =>
      cases rr
      cases r
      cases r'
      obtain ⟨us, rv, s1'⟩ := qx.get I1
      obtain ⟨ws, rv2, s2'⟩ := qy.get I1
      show wpAny _ _ (call (.type "zip") [.ref a, .ref b] [(Str.ofString "strict", .bool true)]) _ _ _
      refine call_zipS s1' s2' fun h' hz hTI hTO h1 h2 hk => iter_zipS hz ?_
      have I2 : Inv X pins σ H1 { s1 with heap := h' } := I1.kept (t' := s1.toks) hk
      have la : a < s1.heap.objs.size := by cases tp <;> (obtain ⟨_, e, _⟩ := s1'; exact Heap.lt_size e)
      have lb : b < s1.heap.objs.size := by cases tq <;> (obtain ⟨_, e, _⟩ := s2'; exact Heap.lt_size e)
      refine ⟨s1.heap.objs.size + 4, [s1.heap.objs.size + 4, s1.heap.objs.size + 2, s1.heap.objs.size + 3, s1.heap.objs.size, s1.heap.objs.size + 1], _, _, H1, rfl, I2, turn_zipS (PySem.W.ktu_apart s1.heap.objs.size a b la lb), ⟨hz, hTI, ⟨_, _, hTO⟩, h1, h2⟩, fun c hc => ?_, q⟩
      have le : s1.heap.objs.size ≤ c := by
        rcases five_mem hc with z | z | z | z | z <;> rw [z]
        · exact Nat.le_add_right _ _
        · exact Nat.le_add_right _ _
        · exact Nat.le_add_right _ _
        · exact Nat.le_refl _
        · exact Nat.le_add_right _ _
      exact I1.fpOk le (I1.hok.fresh le)

/-! ### enumerate -/
theorem drawsS {prog : Program} {w : World} {A : Around} (hh : A.handled = none) (tp : Bool) (it l : Addr) (ne : l ≠ it) (xs : Array Value) : Draws prog w A it [it, l] xs.size (fun i v => xs[i]? = some v) (fun i h => SqIt tp h it l i xs) where
  live := fun _ _ st => let ⟨o, e, _⟩ := st.1.obj; ⟨o, e⟩
  frame := fun _ _ _ st hk => st.at (fun o e => hk it (by simp) o e) fun o e => hk l (by simp) o e
  item := fun i s Q E hi st hQ => by
    obtain ⟨a, b⟩ := st
    cases tp
    · exact wpAny_nextOf_list_item a b (x := xs[i]) (by simp [hi]) fun h' a' sb => hQ _ h' s.toks (by simp [hi]) ⟨a', b.at fun o e => (sb.2 l ne).trans e⟩ sb
    · exact RZ.nextOf_tuple_item a b (x := xs[i]) (by simp [hi]) fun h' a' sb => hQ _ h' s.toks (by simp [hi]) ⟨a', b.at fun o e => (sb.2 l ne).trans e⟩ sb
  done := fun s Q E st hE => by
    obtain ⟨a, b⟩ := st
    cases tp
    · exact wpAny_nextOf_list_end hh a b (by simp) hE
    · exact RZ.nextOf_tuple_end hh a b (by simp) hE
theorem drawsEnd {prog : Program} {w : World} {A : Around} (hh : A.handled = none) (tp : Bool) (it l : Addr) (xs : Array Value) (n : Nat) (hn : xs.size ≤ n) : Draws prog w A it [it, l] n (fun _ _ => True) (fun i h => i = n ∧ SqIt tp h it l n xs) where
  live := fun _ _ st => let ⟨o, e, _⟩ := st.2.1.obj; ⟨o, e⟩
  frame := fun _ _ _ st hk => ⟨st.1, st.2.at (fun o e => hk it (by simp) o e) fun o e => hk l (by simp) o e⟩
  item := fun i s Q E hi st _ => absurd st.1 (Nat.ne_of_lt hi)
  done := fun s Q E st hE => by
    obtain ⟨_, a, b⟩ := st
    cases tp
    · exact wpAny_nextOf_list_end hh a b (by simp; omega) hE
    · exact RZ.nextOf_tuple_end hh a b (by simp; omega) hE
def ItE (K : PySem.W.Frag) (tp : Bool) (a : Addr) : It :=
  ⟨fun i H => ∃ (xs : List V) (x : V), SqV K H tp a xs ∧ xs[i]? = some x, fun i H v H' => ∃ T x, ∃ o : Obj, v = .ref T ∧ H T = none ∧ o.dict = none ∧ H' = upd H T (.frz o (.tup [.int (i : Nat), x])) ∧ ∀ xs, SqV K H tp a xs → xs[i]? = some x, fun i H => ∃ xs : List V, SqV K H tp a xs ∧ xs.length ≤ i⟩
theorem two_mem {c e it : Addr} (h : c ∈ [e, it]) : c = e ∨ c = it := by simpa using h
theorem two_not {c e it : Addr} (h : c ∉ [e, it]) : c ≠ e ∧ c ≠ it := by simpa using h
theorem turn_enumS {P : Program} {w : World} {K : PySem.W.Frag} {elts : List Expr} {kk : Nat} {tpos : Pos} {tp : Bool} {a e it : Addr} (ne : e ≠ it) (na : a ≠ it) (nb : a ≠ e) :
    Turn P w K (.Tuple elts kk tpos) (ItE K tp a) [e, it] e (fun i h => (∃ old, IsEnum h e it ((i : Nat) : Int) old) ∧ It1 h tp it a i) where
  mem := List.mem_cons_self
  obj := fun i h ⟨⟨old, he⟩, h1⟩ c hc => by
    rcases two_mem hc with q | q <;> rw [q]
    · exact ⟨_, he, fun v q => nomatch q⟩
    · exact h1.obj
  keep := fun i h h' ⟨⟨old, he⟩, h1⟩ k => ⟨⟨old, k e (by simp) _ he⟩, h1.at fun o q => k it (by simp) o q⟩
  item := by
    intro X hP hw hK hc i pins s σ H E I hf st hg
    subst hP hw hK
    obtain ⟨⟨old, he⟩, h1⟩ := st
    obtain ⟨xs, x, qx, hx⟩ := hg
    obtain ⟨us, rv, s1⟩ := qx.get I
    have hl := rv.length
    have hi : i < us.length := by rw [← hl]; exact (List.getElem?_eq_some_iff.mp hx).1
    have el : e < s.heap.objs.size := Heap.lt_size he
    have nf : e ∉ [it, a] := by simp; exact ⟨ne, Ne.symm nb⟩
    refine wpAny_pyNext_enum_itemC (drawsS (by simp [I.ok.hd hc]) tp it a na us.toArray) he ⟨h1, s1⟩ (by simpa using hi) ne nf fun u m tk hu ho j1 ht _ hk => ?_
    obtain ⟨u', hu', ru⟩ := rv.get hx
    have eu : u = u' := by
      have : us[i]? = some u := by simpa using hu
      rw [hu'] at this
      exact (Option.some.inj this).symm
    subst eu
    refine ⟨_, rfl, wpAny_letOwnedTupleGo_enum (s := { s with heap := m, toks := tk + 1 }) ho fun m2 he2 sb => ?_⟩
    have tn : IsPair m2 s.heap.objs.size (.int i tk) u := (sb.2 _ (Nat.ne_of_gt el)).trans ht
    have new : ObjOk X.prog X.w (upd H s.heap.objs.size (.frz { cls := .type "tuple", data := .seq #[.int i tk, u] } (.tup [.int (i : Nat), x]))) m2 s.heap.objs.size (.frz { cls := .type "tuple", data := .seq #[.int i tk, u] } (.tup [.int (i : Nat), x])) := ⟨tn, by show 2 ≤ sizeLine; decide, [.int i tk, u], .cons ⟨_, rfl⟩ (.cons ru .nil), ⟨_, tn, rfl, _, rfl⟩⟩
    have I1 : Inv X pins σ (upd H s.heap.objs.size (.frz { cls := .type "tuple", data := .seq #[.int i tk, u] } (.tup [.int (i : Nat), x]))) { s with heap := m2, toks := tk + 1 } :=
      I.turnedNew (ch := [e, it]) (fun c o hb q => have ⟨c1, c2⟩ := two_not hb; (sb.2 c c1).trans (hk c o c1 c2 q)) hf (Nat.le_refl _) new
    refine ⟨.ref s.heap.objs.size, _, I1, rfl, ⟨_, x, _, rfl, I.hok.fresh (Nat.le_refl _), rfl, rfl, fun l hl => by rw [hl.one I qx]; exact hx⟩, ⟨⟨u, ?_⟩, j1.1.at fun o q => (sb.2 _ (Ne.symm ne)).trans q⟩, fun c hcm => ?_⟩
    · rw [show ((i + 1 : Nat) : Int) = (i : Int) + 1 by omega]
      exact he2
    · have lt : c < s.heap.objs.size := by
        rcases two_mem hcm with q | q <;> rw [q]
        · exact el
        · obtain ⟨_, e1, _⟩ := h1.obj; exact Heap.lt_size e1
      rw [upd_ne (Nat.ne_of_lt lt)]
      exact (hf c hcm).1
  done := by
    intro X hP hw hK hc i pins s σ H E I hf st hg
    subst hP hw hK
    obtain ⟨⟨old, he⟩, h1⟩ := st
    obtain ⟨xs, qx, ex⟩ := hg
    obtain ⟨us, rv, s1⟩ := qx.get I
    have hl := rv.length
    exact wpAny_pyNext_enum_endD (drawsEnd (by simp [I.ok.hd hc]) tp it a us.toArray i (by rw [List.size_toArray, ← hl]; exact ex)) he ⟨rfl, h1, s1⟩ fun m hk => ⟨rfl, I.turnedL (t' := s.toks) (ch := [e, it]) (fun c o hb q => have ⟨c1, c2⟩ := two_not hb; hk c o c2 q) hf⟩
  self := fun A i s Q E st h => let ⟨⟨_, he⟩, _⟩ := st; wpAny_pyIter_enum he h
/-! ### enumerate made -/
theorem meets_enumT (l : Addr) (items : Array Value) (n : Nat) (dct : Option Addr) (sl : Array (Option Value)) :
    Meets (Builtin.«enumerate.__new__» ⟨[.type "enumerate", .ref l], []⟩) (fun _ R s => s.heap.get? l = some { cls := .type "tuple", dict := dct, data := .seq items n, slots := sl } ∧
      R (.ok (.ret (.ref (s.heap.push (itO true l)).objs.size))) { s with heap := (s.heap.push (itO true l)).push { cls := .type "enumerate", data := .fields #[.none, .bool false, .ref s.heap.objs.size, rawInt 0, .none, .none] } }) :=
  .of_wp fun prog w A R s h => by
    obtain ⟨hp, g, d, tk, os⟩ := s
    obtain ⟨hl, h⟩ := h
    have hsub := sub_enumerate
    have hT : Heap.IsTuple (Shared.heap ⟨hp, g, d, tk, os⟩) l items := ⟨_, hl, rfl, n, rfl⟩
    wp_walk using AutoSeq1.wpAny_loadPart' hl
    refine wpAny_stack_any fun st => wpAny_pure ?_
    split
    · rename_i c _ _ _ _ _
      cases (c == Value.type "enumerate")
      · wp_walk using AutoSeq1.wpAny_loadPart' hl, wpAny_pyIter_tuple hT
        exact ⟨_, rfl, h⟩
      · wp_walk using AutoSeq1.wpAny_loadPart' hl, wpAny_pyIter_tuple hT
        exact ⟨_, rfl, h⟩
    · wp_walk using AutoSeq1.wpAny_loadPart' hl, wpAny_pyIter_tuple hT
      exact ⟨_, rfl, h⟩
section
variable {prog : Program} {w : World} {A : Around} {E : Value → Shared → Prop} {s : Shared}
theorem call_enumS {tp : Bool} {l : Addr} {xs : Array Value} {Q : Value → Shared → Prop} (h1 : Sq1 s.heap tp l xs)
    (fin : ∀ h', IsEnum h' (s.heap.objs.size + 1) s.heap.objs.size 0 .none → It1 h' tp s.heap.objs.size l 0 → (∀ b o, s.heap.get? b = some o → h'.get? b = some o) → Q (.ref (s.heap.objs.size + 1)) { s with heap := h' }) :
    wpAny (model prog w) A (call (.type "enumerate") [.ref l]) Q E s := by
  cases tp
  · exact call_enumerate_list h1 fun h' he hit _ hk => fin h' he hit hk
  · obtain ⟨⟨c, dct, dt, sl⟩, hl, hc, n, hd⟩ := h1
    dsimp only at hc hd
    subst hc hd
    refine callType_new F.called_enumerate (by decide) (F.typeCall_enumerate_1 _) (F.newCall_enumerate_1 _) (fun obj => F.args_object_init_2 obj _) F.entry_enumerate_new (meets_enumT l xs n dct sl) ⟨hl, ?_⟩
    have hz : (s.heap.push (itO true l)).objs.size = s.heap.objs.size + 1 := Heap.size_push ..
    show _ ∧ _
    rw [hz]
    have he : IsEnum ((s.heap.push (itO true l)).push { cls := .type "enumerate", data := .fields #[.none, .bool false, .ref s.heap.objs.size, rawInt 0, .none, .none] }) (s.heap.objs.size + 1) s.heap.objs.size 0 .none := by
      have := Heap.get?_push_size (s.heap.push (itO true l)) (o := { cls := .type "enumerate", data := .fields #[.none, .bool false, .ref s.heap.objs.size, rawInt 0, .none, .none] }) rfl
      rw [hz] at this
      exact this
    exact ⟨⟨_, he, rfl⟩, fin _ he (itO_it (Heap.get?_push_of_some _ (Heap.get?_push_size _ rfl))) fun b o x => Heap.get?_push_of_some _ (Heap.get?_push_of_some _ x)⟩
end
def iEnum0 (K : PySem.W.Frag) (ta : TA) : TI := fun σ H R => ta σ H fun vs H1 => ∃ (tp : Bool) (a : Addr) (xs : List V), vs = [.ref a] ∧ SqV K H1 tp a xs ∧ R (ItE K tp a) H1
theorem pi_enumS {X : Cx} {e : Expr} {ta : TA} {p pos tpos : Pos} {elts : List Expr} {kk : Nat} (hg : Gl X "enumerate") (hm : X.mg "enumerate" = none) (ha : PA X [e] ta) (hs : starEach [e] X.env = [(false, eval e X.env)] := by rfl) :
    PI X (.Tuple elts kk tpos) (.Call (.Name "enumerate" p) [e] [] pos) (iEnum0 X.K ta) := by
  refine ⟨fun pins s σ H R I h => ?_⟩
  refine Call_ (ld_blt I hg hm boot_enumerate (PyProof.Rows.callWith_type1 (thn (ha.run pos pins s σ H _ I h) fun us s1 ⟨vs, H1, I1, r1, q1⟩ => ?_) hs rfl))
  obtain ⟨tp, a, xs, ex, qx, q⟩ := q1
  subst ex
  cases r1 with
  | cons r rr =>
    cases rr
    cases r
    obtain ⟨us, rv, s1'⟩ := qx.get I1
    have la : a < s1.heap.objs.size := by cases tp <;> (obtain ⟨_, e, _⟩ := s1'; exact Heap.lt_size e)
    refine call_enumS s1' fun h' he hit hk => wpAny_pyIter_enum he ?_
    have I2 : Inv X pins σ H1 { s1 with heap := h' } := I1.kept (t' := s1.toks) hk
    refine ⟨s1.heap.objs.size + 1, [s1.heap.objs.size + 1, s1.heap.objs.size], _, _, H1, rfl, I2, turn_enumS (Nat.succ_ne_self _) (Nat.ne_of_lt la) (Nat.ne_of_lt (Nat.lt_succ_of_lt la)), ⟨⟨.none, he⟩, hit⟩, fun c hc => ?_, q⟩
    have le : s1.heap.objs.size ≤ c := by
      rcases two_mem hc with z | z <;> rw [z]
      · exact Nat.le_add_right _ _
      · exact Nat.le_refl _
    exact I1.fpOk le (I1.hok.fresh le)
end DV

set_option Elab.async false
set_option linter.all false
set_option maxRecDepth 100000
set_option maxHeartbeats 1000000
/-! DvT: enumerate and strict zip by data; tuple.index; what a text may leave open. -/
namespace DV
open PySem PySem.Spec PyProof.Rows L2
/-! ### what is not reached -/
section
variable {X : Cx} {ct : String → Addr} {W : WX} {e : Expr} {st : Stmt}
theorem pd_stk : PD X ct W e (fun _ _ => .stk) := ⟨fun pins s σ H Q I ⟨_, _, _, _, p⟩ => p.elim⟩
theorem psd_stk : PSD X ct W st (fun _ _ => .stk) := ⟨fun pins s σ H Q I ⟨_, _, _, _, p⟩ => p.elim⟩
end
/-! ### a list or tuple at later states -/
def keepD (A : Hd) : D → List (Nat × List D)
  | .ref n => match A[n]? with
    | some (.lst ds) => [(n, ds)]
    | _ => []
  | _ => []
section
variable {K : PySem.W.Frag} {ct : String → Addr} {io : Io} {H : Hp} {A : Hd}
theorem seq_later {v : V} {d : D} {ds : List D} (hr : HR K ct io H A) (r : DR K ct io H v d) (e : asQ A d = some ds) :
    ∃ tp a xs, v = .ref a ∧ SqV K H tp a xs ∧ ∀ io2 H2 A2, Ext io H io2 H2 → HR K ct io2 H2 A2 → (∀ p ∈ keepD A d, A2[p.1]? = some (.lst p.2)) → ∃ ys, SqV K H2 tp a ys ∧ DRs K ct io2 H2 ys ds := by
  by_cases ht : ∃ es, d = .tup es
  · obtain ⟨es, rfl⟩ := ht
    cases e
    cases r with
    | @tup a xs _ q rs => exact ⟨true, a, xs, rfl, q.sq, fun io2 H2 A2 x h2 _ => ⟨xs, SqT.ext x hr.noT q.sq, rs.mono x hr.noT⟩⟩
  · have e1 : asR A d = some ds := by
      cases d with
      | tup es => exact absurd ⟨es, rfl⟩ ht
      | _ => exact e
    obtain ⟨a, xs, rfl, q, rs⟩ := asR_ok hr r e1
    refine ⟨false, a, xs, rfl, q, fun io2 H2 A2 x h2 hk => ?_⟩
    have e2 : asR A2 d = some ds := by
      cases d with
      | ref n =>
        have e3 : asL A (.ref n) = some ds := e1
        unfold asL at e3
        dsimp only at e3
        cases hm : A[n]? with
        | none => rw [hm] at e3; cases e3
        | some m =>
          rw [hm] at e3
          cases m with
          | lst es =>
            cases e3
            have := hk (n, ds) (by unfold keepD; dsimp only; rw [hm]; exact List.mem_singleton.mpr rfl)
            show asL A2 (.ref n) = _
            unfold asL
            dsimp only at this ⊢
            rw [this]
          | dic es => cases e3
          | ins c fs => cases e3
          | exc c fs => cases e3
          | tab es => cases e3
      | _ => exact e1
    obtain ⟨b, ys, eb, q2, rs2⟩ := asR_ok h2 (r.mono x hr.noT) e2
    cases eb
    exact ⟨ys, q2, rs2⟩
end
def enD (i : Nat) : List D → List D
  | [] => []
  | d :: ds => .tup [.int (i : Nat), d] :: enD (i + 1) ds
theorem enD_get : ∀ (ds : List D) (i j : Nat), (enD i ds)[j]? = (ds[j]?).map fun d => .tup [.int ((i + j : Nat) : Int), d]
  | [], _, _ => rfl
  | d :: ds, i, 0 => rfl
  | d :: ds, i, j + 1 => by
    show (enD (i + 1) ds)[j]? = (ds[j]?).map _
    rw [enD_get ds (i + 1) j, show i + 1 + j = i + (j + 1) by omega]
theorem enD_len : ∀ (ds : List D) (i : Nat), (enD i ds).length = ds.length
  | [], _ => rfl
  | d :: ds, i => by
    show (enD (i + 1) ds).length + 1 = _
    rw [enD_len ds]
    rfl
def iEnumS (a : EF) : IF := fun ro A => (a ro A).bind fun d A1 => match asQ A1 d with
  | some ds => .ok (.mix (enD 0 ds) (keepD A1 d)) A1
  | none => .stk
def zpD (xs ys : List D) : List D := (xs.zip ys).map fun p => .tup [p.1, p.2]
def iZipS (a b : EF) : IF := fun ro A => (a ro A).bind fun d A1 => (b ro A1).bind fun e A2 => match asQ A2 d, asQ A2 e with
  | some xs, some ys => if xs.length = ys.length then .ok (.mix (zpD xs ys) (keepD A2 d ++ keepD A2 e)) A2 else .stk
  | _, _ => .stk
/-- a new pair -/
theorem pair_new {K : PySem.W.Frag} {ct : String → Addr} {io : Io} {H : Hp} {A : Hd} {T : Addr} {x y : V} {d e : D} {o : Obj} (h : HR K ct io H A) (n : H T = none) (ho : o.dict = none) (rx : DR K ct io H x d) (ry : DR K ct io H y e) :
    Ext io H io (upd H T (.frz o (.tup [x, y]))) ∧ HR K ct io (upd H T (.frz o (.tup [x, y]))) A ∧ DR K ct io (upd H T (.frz o (.tup [x, y]))) (.ref T) (.tup [d, e]) :=
  ⟨Ext.laid n, h.laid n, .newTup h n ho (.cons rx (.cons ry .nil))⟩

section
variable {K : PySem.W.Frag} {ct : String → Addr} {io : Io} {H : Hp} {A : Hd}
theorem walkE {tp : Bool} {a : Addr} {ds : List D} {ks : List (Nat × List D)} (hs : ∀ io2 H2 A2, Ext io H io2 H2 → HR K ct io2 H2 A2 → (∀ p ∈ ks, A2[p.1]? = some (.lst p.2)) → ∃ ys, SqV K H2 tp a ys ∧ DRs K ct io2 H2 ys ds) : WalkR K ct io H (ItE K tp a) (.mix (enD 0 ds) ks) := by
  intro io2 H2 A2 e h hh
  obtain ⟨xs, q, rs⟩ := hs io2 H2 A2 e h hh
  refine ⟨fun i d hd => ?_, fun i hi => ?_⟩
  · have hd' : (enD 0 ds)[i]? = some d := hd
    rw [enD_get, Nat.zero_add] at hd'
    cases hx : ds[i]? with
    | none => rw [hx] at hd'; cases hd'
    | some x =>
      rw [hx] at hd'
      cases hd'
      obtain ⟨v, h1, h2⟩ := rs.get hx
      refine ⟨⟨xs, v, q, h1⟩, fun z H3 y => ?_⟩
      obtain ⟨T, w, o, rfl, nT, ho, rfl, y⟩ := y
      have e1 := y xs q
      rw [h1] at e1
      cases e1
      exact pair_new h nT ho (.int _) h2
  · exact ⟨xs, q, by rw [rs.length]; simpa [Src.items, enD_len] using hi⟩
end
section
variable {K : PySem.W.Frag} {ct : String → Addr} {io : Io} {H : Hp} {A : Hd}
theorem walkZ {tp tq : Bool} {a b : Addr} {ds es : List D} {ks : List (Nat × List D)} (hl : ds.length = es.length) (hs : ∀ io2 H2 A2, Ext io H io2 H2 → HR K ct io2 H2 A2 → (∀ p ∈ ks, A2[p.1]? = some (.lst p.2)) → (∃ ys, SqV K H2 tp a ys ∧ DRs K ct io2 H2 ys ds) ∧ ∃ ys, SqV K H2 tq b ys ∧ DRs K ct io2 H2 ys es) :
    WalkR K ct io H (ItS K tp tq a b) (.mix (zpD ds es) ks) := by
  intro io2 H2 A2 e h hh
  obtain ⟨⟨xs, q, rs⟩, ys, q2, rs2⟩ := hs io2 H2 A2 e h hh
  have l1 := rs.length
  have l2 := rs2.length
  refine ⟨fun i d hd => ?_, fun i hi => ?_⟩
  · have hd' : (zpD ds es)[i]? = some d := hd
    unfold zpD at hd'
    rw [List.getElem?_map] at hd'
    cases hp : (ds.zip es)[i]? with
    | none => rw [hp] at hd'; cases hd'
    | some p =>
      rw [hp] at hd'
      cases hd'
      obtain ⟨g1, g2⟩ := List.getElem?_zip_eq_some.mp hp
      obtain ⟨v, h1, r1⟩ := rs.get g1
      obtain ⟨w, h2, r2⟩ := rs2.get g2
      refine ⟨⟨xs, ys, v, w, q, q2, h1, h2⟩, fun z H3 y => ?_⟩
      obtain ⟨T, v', w', o, rfl, nT, ho, rfl, y1, y2⟩ := y
      have e1 := y1 xs q
      have e2 := y2 ys q2
      rw [h1] at e1
      rw [h2] at e2
      cases e1
      cases e2
      exact pair_new h nT ho r1 r2
  · have hi' : (zpD ds es).length ≤ i := hi
    unfold zpD at hi'
    rw [List.length_map, List.length_zip] at hi'
    exact ⟨xs, ys, q, q2, by omega, by omega⟩
end
section
variable {X : Cx} {ct : String → Addr} {W : WX} {e a b o : Expr} {fa fb : EF} {elts : List Expr} {kk : Nat} {tpos p pos apos cpos : Pos}
theorem pid_enum (hg : Gl X "enumerate") (hm : X.mg "enumerate" = none) (ha : PD X ct W e fa) (hs : starEach [e] X.env = [(false, eval e X.env)] := by rfl) : PID X ct W (.Tuple elts kk tpos) (.Call (.Name "enumerate" p) [e] [] pos) (iEnumS fa) :=
  pi_mono (pi_enumS hg hm (pda_cons ha pda_nil hs) hs) fun σ H Q ⟨io, A, ro, st, q⟩ => by
    unfold iEnumS at q
    refine ⟨io, A, ro, st, ?_⟩
    unfold aCons
    cases hf : fa ro A with
    | stk => rw [hf] at q; exact q.elim
    | err c fs A1 => rw [hf] at q; exact q
    | ok d A1 =>
      rw [hf, R.bind_ok] at q
      rw [R.bind_ok]
      intro vs io1 H1 e1 h1 r1
      cases r1 with
      | cons r rs =>
      cases rs
      split at q
      · rename_i ds hds
        obtain ⟨tp, a, xs, rfl, qx, lat⟩ := seq_later h1 r hds
        exact ⟨tp, a, xs, rfl, qx, q _ io1 H1 e1 h1 (walkE lat)⟩
      · exact q.elim
theorem pid_zipS {j : Nat} {cp kp : Pos} (hg : Gl X "zip") (hm : X.mg "zip" = none) (ha : PD X ct W a fa) (hb : PD X ct W b fb)
    (h1 : starEach [a, b] X.env = (false, eval a X.env) :: starEach [b] X.env := by rfl) (h2 : starEach [b] X.env = (false, eval b X.env) :: starEach [] X.env := by rfl)
    (hs : backTo pos (starEach [a, b] X.env) = (false, eval a X.env) :: backTo pos (starEach [b] X.env) := by rfl) (hpl : (backTo pos (starEach [a, b] X.env)).any (·.1) = false := by rfl) :
    PID X ct W (.Tuple elts kk tpos) (.Call (.Name "zip" p) [a, b] [⟨some "strict", .Constant (.bool true) j cp, kp⟩] pos) (iZipS fa fb) :=
  pi_mono (pi_zipS hg hm (pda_cons ha (pda_cons hb pda_nil h2) h1) hs hpl) fun σ H Q ⟨io, A, ro, st, q⟩ => by
    unfold iZipS at q
    refine ⟨io, A, ro, st, ?_⟩
    unfold aCons
    cases hf : fa ro A with
    | stk => rw [hf] at q; exact q.elim
    | err c fs A1 => rw [hf] at q; exact q
    | ok d A1 =>
    rw [hf, R.bind_ok] at q
    rw [R.bind_ok]
    cases hg : fb ro A1 with
    | stk => rw [hg] at q; exact q.elim
    | err c fs A2 => rw [hg] at q; exact q
    | ok d2 A2 =>
    rw [hg, R.bind_ok] at q
    rw [R.bind_ok]
    intro vs io1 H1 e1 h1 r1
    cases r1 with
    | cons r rs =>
    cases rs with
    | cons r2 rs =>
    cases rs
    split at q
    · rename_i ds es hds hes
      split at q
      · rename_i hl
        obtain ⟨tp, a, xs, rfl, qx, lat⟩ := seq_later h1 r hds
        obtain ⟨tq, b, ys, rfl, qy, lat2⟩ := seq_later h1 r2 hes
        refine ⟨tp, tq, a, b, xs, ys, rfl, qx, qy, q _ io1 H1 e1 h1 (walkZ hl fun io2 H2 A2 x h2 hk => ⟨lat io2 H2 A2 x h2 fun p hp => hk p (List.mem_append_left _ hp), lat2 io2 H2 A2 x h2 fun p hp => hk p (List.mem_append_right _ hp)⟩)⟩
      · exact q.elim
    · exact q.elim

/-! ### t.index(x) -/
theorem ptup_is {pins : List (Addr × Obj)} {σ : L2.St} {H : Hp} {s : Shared} {a : Addr} {xs : List V} (I : Inv X pins σ H s) (h : PTup X.K H a xs) : s.TypeIs (.ref a) "tuple" ∧ ∀ b, Value.ref a = .ref b → ∃ ob, s.heap.get? b = some ob ∧ ob.dict = none := by
  rcases h with ⟨o, e, d⟩ | ⟨o, its, n, e, c, d, _⟩
  · obtain ⟨get, _, its, _, o', get', hc, _⟩ := I.hok a _ e
    rw [get] at get'
    cases get'
    exact ⟨⟨o, get, hc⟩, fun b z => by cases z; exact ⟨o, get, d⟩⟩
  · exact ⟨⟨o, I.kIn a o e, c⟩, fun b z => by cases z; exact ⟨o, I.kIn _ o e, d⟩⟩
def gIndex (d e : D) (A : Hd) : R D := match d, e with
  | .tup ds, .str z => match textsD ds with
    | some ys => match ys.findIdx? fun y => decide (y = z) with
      | some j => .ok (.int (j : Nat)) A
      | none => .stk
    | none => .stk
  | _, _ => .stk
def isTupD : D → Bool
  | .tup _ => true
  | _ => false
def eIdx (a b : EF) : EF := fun ro A => (a ro A).bind fun d A1 => if isTupD d then (b ro A1).bind fun e A2 => gIndex d e A2 else .stk
theorem textsD_at : ∀ {ds : List D} {ys : List Str}, textsD ds = some ys → ds = ys.map D.str
  | [], _, e => by cases e; rfl
  | .str x :: ds, ys, e => by
    unfold textsD at e
    split at e
    · rename_i xs h
      cases e
      rw [textsD_at h]
      rfl
    · cases e
  | .non :: _, _, e => by cases e
  | .bl _ :: _, _, e => by cases e
  | .int _ :: _, _, e => by cases e
  | .tup _ :: _, _, e => by cases e
  | .lst _ :: _, _, e => by cases e
  | .scr _ :: _, _, e => by cases e
  | .dic _ :: _, _, e => by cases e
  | .ref _ :: _, _, e => by cases e
  | .cls _ :: _, _, e => by cases e
theorem pd_indexT (ho : PD X ct W o fa) (ha : PD X ct W e fb)
    (hbase : attributeBase o "index" X.env (eval o X.env) = eval o X.env := by rfl)
    (hfew : ((backTo cpos (starEach [e] X.env)).all (fun x => !x.1) && (backToKw cpos (keywordEach [] X.env)).all (fun x => x.1.isSome) && decide ([e].length + ([] : List Keyword).length + (if ([] : List Keyword).isEmpty then 0 else 1) < 30)) = true := by rfl)
    (hline : (apos.endLine == cpos.line) = true := by rfl) (hs : starEach [e] X.env = (false, eval e X.env) :: starEach [] X.env := by rfl) (hplain : (backTo cpos (starEach [] X.env)).any (·.1) = false := by rfl) :
    PD X ct W (.Call (.Attribute o "index" apos) [e] [] cpos) (eIdx fa fb) := by
  refine ⟨fun pins s σ H Q I ⟨io, A, ro, st, p⟩ => ?_⟩
  refine wpAny_Call_method_late hbase hfew hline rfl (thn (ho.run pins s σ H (fun v H1 => ∃ io1 A1 ds, Sta X.K ct ro A1 io1 σ H1 ∧ DR X.K ct io1 H1 v (.tup ds) ∧ Post X.K ct (DR X.K ct) W σ io1 H1 ((fb ro A1).bind fun d2 A2 => gIndex (.tup ds) d2 A2) Q) I ?_) fun v s1 ⟨x, H1, I1, r1, io1, A1, ds, st1, rx, p1⟩ => ?_)
  · refine ⟨io, A, ro, st, (p.bind (rep := DR X.K ct)).mono fun v H1 ⟨io1, A1, d, e1, h1, r1, p1⟩ => ?_⟩
    split at p1
    · rename_i ht
      cases d with
      | tup ds => exact ⟨io1, A1, ds, st.mono e1 h1, r1, p1⟩
      | _ => cases ht
    · exact p1.elim
  · cases rx with
    | @tup a xs _ q rs =>
      cases r1
      obtain ⟨t1, t2⟩ := ptup_is I1 q
      refine ⟨"tuple", "tuple.index", PySem.F.plainAttrs_tuple, PySem.F.slot_tuple_index, PySem.F.type_tuple_index, t1, t2, ?_⟩
      have hA := (pda_cons ha pda_nil hs).run cpos pins s1 σ H1 (fun vs H2 => ∃ io2 A2 d2 v2, vs = [v2] ∧ Ext io1 H1 io2 H2 ∧ HR X.K ct io2 H2 A2 ∧ DR X.K ct io2 H2 v2 d2 ∧ Post X.K ct (DR X.K ct) W σ io2 H2 (gIndex (.tup ds) d2 A2) Q) I1 ⟨io1, A1, ro, st1, ?_⟩
      · rw [hs] at hA ⊢
        refine Calls.callWith_builtin (by show (false || (backTo cpos (starEach [] X.env)).any (·.1)) = false; rw [hplain] <;> rfl) (Calls.evalArgs_plain ?_)
        refine thn hA fun us s2 ⟨vs, H2, I2, r2, io2, A2, d2, v2, ev, x2, h2, rd, p2⟩ => ?_
        subst ev
        refine mt_tup_index pins s2 σ H2 (.ref a) [v2] (.ref a) us Q I2 rfl r2 ?_
        unfold gIndex at p2
        split at p2
        · rename_i ds' z ed
          cases ed
          split at p2
          · rename_i ys hy
            split at p2
            · rename_i j hj
              cases rd
              have rs2 := rs.mono x2 st1.hr.noT
              have ex := textsD_ok rs2 hy
              subst ex
              obtain ⟨hjl, hj1, hj2⟩ := List.findIdx?_eq_some_iff_getElem.mp hj
              refine ⟨a, ys, z, j, rfl, rfl, (PTup.ext x2 st1.hr.noT q).sq, ?_, fun m hm hz => ?_, p2.here h2 (.int _)⟩
              · rw [List.getElem?_eq_getElem hjl, of_decide_eq_true hj1]
              · have hml := (List.getElem?_eq_some_iff.mp hz)
                obtain ⟨hl, he⟩ := hml
                have := hj2 m hm
                rw [he] at this
                simp at this
            · exact p2.elim
          · exact p2.elim
        · exact p2.elim
      · unfold aCons
        cases hf : fb ro A1 with
        | stk => rw [hf] at p1; exact p1.elim
        | err c fs A2 => rw [hf] at p1; exact p1
        | ok d2 A2 =>
          rw [hf, R.bind_ok] at p1
          rw [R.bind_ok]
          intro vs io2 H2 e2 h2 r2
          cases r2 with
          | cons r rr =>
          cases rr
          exact ⟨io2, A2, d2, _, rfl, e2, h2, r, Post.ext e2 p1⟩
end
end DV

set_option Elab.async false
set_option linter.all false
set_option maxRecDepth 100000
set_option maxHeartbeats 1000000
/-! DvU: xs[::-1] of lists and tuples. -/
namespace DV
open PySem PySem.Spec PyProof.Rows L2
theorem fm_congr {α β : Type} {f g : α → Option β} : ∀ {l : List α}, (∀ a ∈ l, f a = g a) → l.filterMap f = l.filterMap g
  | [], _ => rfl
  | a :: l, h => by rw [List.filterMap_cons, List.filterMap_cons, h a List.mem_cons_self, fm_congr fun b hb => h b (List.mem_cons_of_mem _ hb)]
theorem rev_pick (xs : Array Value) : ((List.range xs.size).filterMap fun (k : Nat) => xs[((xs.size : Int) - 1 + (k : Int) * (-1)).toNat]?).toArray = xs.toList.reverse.toArray := by
  congr 1
  have e : ∀ l : List Value, (List.range l.length).filterMap (fun (k : Nat) => l[((l.length : Int) - 1 + (k : Int) * (-1)).toNat]?) = l.reverse := by
    intro l
    have h1 : (List.range l.length).filterMap (fun (k : Nat) => l[((l.length : Int) - 1 + (k : Int) * (-1)).toNat]?) = (List.range l.length).filterMap (fun k => l.reverse[k]?) := by
      refine fm_congr fun k hk => ?_
      have hk' := List.mem_range.mp hk
      rw [List.getElem?_reverse hk']
      congr 1
      omega
    rw [h1, ← List.length_reverse (as := l)]
    generalize l.reverse = m
    induction m with
    | nil => rfl
    | cons x m ih =>
      rw [List.length_cons, List.range_succ_eq_map, List.filterMap_cons]
      simp only [List.getElem?_cons_zero, List.filterMap_map]
      congr 1
  have := e xs.toList
  simpa using this
section
variable {prog : Program} {w : World} {A : Around} {E : Value → Shared → Prop} {s : Shared}
theorem tuple_rev {t sl : Addr} {items : Array Value} {vl vu vs : Value} {Q : Value → Shared → Prop} (ht : IsTup s.heap t items) (hs : s.heap.IsSliceOf sl vl vu vs) (pl : IsPart vl none) (pu : IsPart vu none) (ps : IsPart vs (some (-1)))
    (h : Q (.ref s.heap.objs.size) { s with heap := s.heap.push { cls := .type "tuple", data := .seq items.toList.reverse.toArray } }) (hsz : items.size ≤ sizeLine) : wpAny (model prog w) A (getItem (.ref t) (.ref sl)) Q E s := by
  obtain ⟨os, hos, hcs, hds⟩ := id hs
  have tyS : s.TypeIs (.ref sl) "slice" := ⟨os, hos, hcs⟩
  have fit : sizeOk (.seq items.toList.reverse.toArray) := by
    show items.toList.reverse.toArray.size ≤ sizeLine
    rw [List.size_toArray, List.length_reverse, Array.length_toList]
    exact hsz
  unfold getItem
  try with_reducible refine wpAny_holding ?_
  first | refine wpAny_bind (wpAny_pure ?_) | skip
  refine wpAny_bind (wpAny_sequenceKey ht.typeIs (by decide) ?_)
  refine wpAny_bind (wpAny_callSpecial?_slot (name := Str.ofString "__getitem__") ht.typeIs PyProof.Rows.slot_tuple_getitem (wpAny_call_entry PyProof.Rows.slot_tuple_getitem ht.typeIs entry_tuple_getitem ?_ (args_tuple_getitem _ _)))
  show wpAny _ _ (Builtin.Tuple.tupleItemsOf (.ref t) >>= _) _ _ s
  refine wpAny_bind (tupleItemsOf_ ht ?_)
  refine wpAny_bind (wpAny_typeOf tyS ?_)
  rw [if_pos (by decide)]
  refine wpAny_bind ?_
  unfold Builtin.Slice.sliceApplied Builtin.Slice.sliceFields
  refine wpAny_bind (wpAny_bind (wpAny_field hos hds (x := vl) rfl (wpAny_bind (wpAny_field hos hds (x := vu) rfl (wpAny_bind (wpAny_field hos hds (x := vs) rfl (wpAny_pure ?_)))))))
  refine wpAny_bind (HT.slicePart_ ps ?_)
  show wpAny _ _ (if ((-1 : Int) == 0) = true then _ else _) _ _ s
  rw [if_neg (by decide)]
  refine wpAny_bind (HT.slicePart_ pl (wpAny_bind (HT.slicePart_ pu (wpAny_bind (wpAny_pure ?_)))))
  show wpAny _ _ (match Builtin.Slice.sliceAdjust none none (-1) (items.size : Int) with | (lo, hi) => pure (lo, (-1 : Int), Builtin.Slice.slicePlaces lo hi (-1))) _ _ s
  have ea : Builtin.Slice.sliceAdjust none none (-1) (items.size : Int) = ((items.size : Int) - 1, -1) := by
    unfold Builtin.Slice.sliceAdjust
    simp
  have ep : Builtin.Slice.slicePlaces ((items.size : Int) - 1) (-1) (-1) = items.size := by
    unfold Builtin.Slice.slicePlaces
    simp
    omega
  rw [ea]
  show wpAny _ _ (pure ((items.size : Int) - 1, (-1 : Int), Builtin.Slice.slicePlaces ((items.size : Int) - 1) (-1) (-1))) _ _ s
  rw [ep]
  refine wpAny_pure ?_
  show wpAny _ _ (if (((items.size : Int) - 1 == 0) && ((-1 : Int) == 1) && (items.size == items.size)) = true then _ else _) _ _ s
  rw [if_neg (by simp), rev_pick]
  first
    | exact wpAny_bind (m := Builtin.Tuple.tupleExact _) (wpAny_newObj_type (wpAny_pure ⟨_, rfl, wpAny_pure h⟩) fit)
    | exact wpAny_bind (m := Builtin.Tuple.tupleExact _) (wpAny_newObj_type (wpAny_bind (wpAny_pure (wpAny_pure ⟨_, rfl, wpAny_pure h⟩))) fit)
    | exact wpAny_bind (wpAny_bind (m := Builtin.Tuple.tupleExact _) (wpAny_newObj_type (wpAny_pure (wpAny_pure ⟨_, rfl, wpAny_pure h⟩)) fit))
    | exact wpAny_bind (wpAny_bind (m := Builtin.Tuple.tupleExact _) (wpAny_newObj_type (wpAny_pure ⟨_, rfl, wpAny_pure h⟩) fit))
end
section
variable {X : Cx} {ct : String → Addr} {W : WX} {e : Expr} {fa : EF} {k : Nat} {p1 p2 p3 pos : Pos}
def tRevS (K : PySem.W.Frag) (te : TE) : TE := fun σ H Q => te σ H fun x H1 => ∃ a xs, x = .ref a ∧ ((SqL K H1 a xs ∧ ∀ p, H1 p = none → Q (.ref p) (upd H1 p (.lst xs.reverse))) ∨ (SqT K H1 a xs ∧ ∀ (p : Addr) (o : Obj), o.dict = none → H1 p = none → Q (.ref p) (upd H1 p (.frz o (.tup xs.reverse)))))
theorem pe_revS {te : TE} (he : PE X e te) : PE X (.Subscript e (.Slice none none (some (.UnaryOp .USub (.Constant (.int 1) k p1) p2)) p3) pos) (tRevS X.K te) := by
  refine ⟨fun pins s σ H Q I h => ?_⟩
  refine Subscript_ (thn (he.run pins s σ H _ I h) fun v s1 ⟨x, H1, I1, r1, q1⟩ => ?_)
  obtain ⟨a, xs, ex, q⟩ := q1
  subst ex
  cases r1
  have minus : PO X (some (.UnaryOp .USub (.Constant (.int 1) k p1) p2)) (tPart (tUn (rU fun i => .int (-i)) (tC (.int 1)))) := po_some (pe_un un_neg pe_int)
  refine wpAny_Slice (thn (po_none.run pins s1 σ H1 (fun o H2 => o = none ∧ H2 = H1) I1 ⟨rfl, rfl⟩) fun vl s2 ⟨l, H2, I2, pl, el, e2⟩ => ?_)
  subst el e2
  refine thn (po_none.run pins s2 σ H2 (fun o H3 => o = none ∧ H3 = H2) I2 ⟨rfl, rfl⟩) fun vu s3 ⟨u, H3, I3, pu, eu, e3⟩ => ?_
  subst eu e3
  refine thn (minus.run pins s3 σ H3 (fun o H4 => o = some (-1) ∧ H4 = H3) I3 ⟨1, rfl, -1, rfl, rfl, rfl⟩) fun vs s4 ⟨o, H4, I4, ps, eo, e4⟩ => ?_
  subst eo e4
  have I5 : Inv X pins σ H4 { s4 with heap := s4.heap.push { cls := .type "slice", data := .fields #[vl, vu, vs] } } := I4.kept (t' := s4.toks) fun b ob q => Heap.get?_push_of_some _ q
  show wpAny (model X.prog X.w) X.A (subscriptTail e (.Slice none none (some (.UnaryOp .USub (.Constant (.int 1) k p1) p2)) p3) (.ref a) (.ref s4.heap.objs.size)) (EP X pins σ Q) X.xe { s4 with heap := s4.heap.push { cls := .type "slice", data := .fields #[vl, vu, vs] } }
  rcases q with ⟨hx, q⟩ | ⟨hx, q⟩
  · obtain ⟨its, r, ht, hz⟩ := I5.list hx
    have hlen := r.length
    refine tail_any (ops := [.ref a, .ref s4.heap.objs.size]) ht.isList.typeIs (PySem.slot_list_getitem.lookup) ?_ (by with_unfolding_all rfl)
    refine wpAny_getItem_list_slice ht.isList (Heap.IsSliceOf.new _ vl vu vs) pl pu ps (by decide) ?_ (by rw [List.size_toArray]; omega)
    rw [PySem.W.krv_pick]
    refine ⟨.ref _, _, I5.laid (t' := s4.toks) (o := .lst xs.reverse) (fun b ob q => Heap.get?_push_of_some _ q) (Nat.le_refl _) ?_, rfl, q _ (I5.hok.fresh (Nat.le_refl _))⟩
    exact ⟨by rw [List.length_reverse]; exact hz, _, 0, r.reverse, Heap.get?_push_size _ rfl⟩
  · obtain ⟨its, r, ht, hz⟩ := I5.tuple hx
    have hlen := r.length
    refine tail_any (ops := [.ref a, .ref s4.heap.objs.size]) ht.typeIs (PyProof.Rows.slot_tuple_getitem.lookup) ?_ (by with_unfolding_all rfl)
    refine tuple_rev ht (Heap.IsSliceOf.new _ vl vu vs) pl pu ps ?_ (by rw [List.size_toArray]; omega)
    refine ⟨.ref _, _, I5.laid (t' := s4.toks) (o := .frz { cls := .type "tuple", data := .seq its.toArray.toList.reverse.toArray } (.tup xs.reverse)) (fun b ob q => Heap.get?_push_of_some _ q) (Nat.le_refl _) ?_, rfl, q _ _ rfl (I5.hok.fresh (Nat.le_refl _))⟩
    exact ⟨Heap.get?_push_size _ rfl, by rw [List.length_reverse]; exact hz, _, r.reverse, IsTup.new _ _⟩
def gRev (d : D) (A : Hd) : R D := match d with
  | .tup ds => .ok (.tup ds.reverse) A
  | d => match asR A d with
    | some ds => .ok (.lst ds.reverse) A
    | none => .stk
theorem pd_rev (ha : PD X ct W e fa) : PD X ct W (.Subscript e (.Slice none none (some (.UnaryOp .USub (.Constant (.int 1) k p1) p2)) p3) pos) (eUn gRev fa) :=
  pe_mono (pe_revS ha) fun σ H Q ⟨io, A, ro, st, p⟩ => ⟨io, A, ro, st, (p.bind (rep := DR X.K ct)).mono fun v H1 ⟨io1, A1, d, e1, h1, r1, p1⟩ => by
    unfold gRev at p1
    split at p1
    · cases r1 with
      | @tup a xs _ q rs => exact ⟨a, xs, rfl, .inr ⟨q.sq, fun p o ho hp => p1.new h1 hp (.newTup h1 hp ho rs.reverse)⟩⟩
    · split at p1
      · rename_i ds hd
        obtain ⟨a, xs, rfl, q, rs⟩ := asR_ok h1 r1 hd
        exact ⟨a, xs, rfl, .inl ⟨q, fun p hp => p1.new h1 hp (.newLst h1 hp rs.reverse)⟩⟩
      · exact p1.elim⟩
end
end DV

set_option Elab.async false
set_option linter.all false
set_option maxRecDepth 100000
/-! DvV: x in t, data of any depth; plain laws of == and in. -/
namespace DV
open PySem PySem.Spec PyProof.Rows L2
def inByData (p : PyData) (qs : List PyData) : Option Bool := if p.canLay0 = true ∧ PyData.canLayAll0 qs = true ∧ p.depth ≤ 60 then some (qs.any fun z => PyData.eqv z p) else none
def inW (d e : D) (A : Hd) : Option Bool := match inP d e A with
  | some b => some b
  | none => match toP (deR A d), toP (deR A e) with
    | some p, some (.list qs) => inByData p qs
    | some p, some (.tuple qs) => inByData p qs
    | _, _ => none
def gInW (d e : D) (A : Hd) : R D := match inW d e A with
  | some b => .ok (.bl b) A
  | none => .stk
def rInW (K : PySem.W.Frag) : R2 := fun x y H Q => rInX K false x y H Q ∨ ∃ p qs, Dp K H x p ∧ (Dp K H y (.list qs) ∨ Dp K H y (.tuple qs)) ∧ p.canLay0 = true ∧ PyData.canLayAll0 qs = true ∧ p.depth ≤ 60 ∧ Q (.bl (qs.any fun z => PyData.eqv z p)) H
theorem op_inData {X : Cx} (hu : X.A.units + 64 < cLine) : OpR X (compareOp .In) (fun x y H Q => ∃ p qs, Dp X.K H x p ∧ (Dp X.K H y (.list qs) ∨ Dp X.K H y (.tuple qs)) ∧ p.canLay0 = true ∧ PyData.canLayAll0 qs = true ∧ p.depth ≤ 60 ∧ Q (.bl (qs.any fun z => PyData.eqv z p)) H) := by
  intro pins s σ H x y v u Q I rx ry h
  obtain ⟨p, qs, hd, he, c1, c2, dp, q⟩ := h
  obtain ⟨as, r1⟩ := Dp.reads I p x v hd rx
  have room : X.A.units + 1 + min (PyData.depthAll qs) p.depth < cLine := by
    have : min (PyData.depthAll qs) p.depth ≤ p.depth := Nat.min_le_right _ _
    omega
  rcases he with he | he
  · obtain ⟨bs, r2⟩ := Dp.reads I (.list qs) y u he ry
    exact SeqAt.in_list_reads r2 r1 c2 c1 room ⟨.bl _, H, I, rfl, q⟩
  · obtain ⟨bs, r2⟩ := Dp.reads I (.tuple qs) y u he ry
    exact SeqAt.in_tuple_reads r2 r1 c2 c1 room ⟨.bl _, H, I, rfl, q⟩
theorem op_inW {X : Cx} (hu : X.A.units + 64 < cLine) : OpR X (compareOp .In) (rInW X.K) := op_inX.or (op_inData hu)
theorem gInW_ok {K : PySem.W.Frag} {ct : String → Addr} : OpD K ct (rInW K) gInW := by
  intro W σ io H A x y d e Q h rx ry p
  unfold gInW at p
  split at p
  · rename_i b hb
    unfold inW at hb
    split at hb
    · rename_i b' hb'
      cases hb
      exact .inl (inP_ok h rx ry hb' (p.here h (.bl _)))
    · split at hb
      · rename_i q qs h1 h2
        unfold inByData at hb
        split at hb
        · rename_i hc
          cases hb
          exact .inr ⟨q, qs, deR_ok h rx h1, .inl (deR_ok h ry h2), hc.1, hc.2.1, hc.2.2, p.here h (.bl _)⟩
        · cases hb
      · rename_i q qs h1 h2
        unfold inByData at hb
        split at hb
        · rename_i hc
          cases hb
          exact .inr ⟨q, qs, deR_ok h rx h1, .inr (deR_ok h ry h2), hc.1, hc.2.1, hc.2.2, p.here h (.bl _)⟩
        · cases hb
      · cases hb
  · exact p.elim

/-! ### plain laws -/
theorem sz1000 : 1000 ≤ sizeLine := by rw [sizeLine_eq]; omega
theorem boolsD_map {α : Type} (h : α → Bool) : ∀ l : List α, boolsD (l.map fun c => D.bl (h c)) = some (l.map h)
  | [] => rfl
  | c :: l => by
    rw [List.map_cons, List.map_cons]
    unfold boolsD
    rw [boolsD_map h l]
theorem textsD_map : ∀ xs : List Str, textsD (xs.map D.str) = some xs
  | [] => rfl
  | x :: xs => by
    rw [List.map_cons]
    unfold textsD
    rw [textsD_map xs]
/-- what == and repr can read -/
def layD (d : D) : Bool := match toP d with
  | some p => p.canLay0 && decide (p.depth ≤ 50)
  | none => false
theorem toPs_lay2 : ∀ {ds : List D}, (∀ d ∈ ds, layD d = true) → ∃ ps, toPs ds = some ps ∧ PyData.canLayAll0 ps = true ∧ PyData.depthAll ps ≤ 50 ∧ ps.length = ds.length
  | [], _ => ⟨[], rfl, rfl, Nat.zero_le _, rfl⟩
  | d :: ds, h => by
    obtain ⟨ps, h1, h2, h3, h4⟩ := toPs_lay2 (ds := ds) fun d hd => h d (List.mem_cons_of_mem _ hd)
    have hd := h d List.mem_cons_self
    unfold layD at hd
    split at hd
    · rename_i p hp
      rw [Bool.and_eq_true] at hd
      have h5 := of_decide_eq_true hd.2
      refine ⟨p :: ps, ?_, ?_, ?_, by rw [List.length_cons, List.length_cons, h4]⟩
      · unfold toPs
        rw [h1, hp]
      · unfold PyData.canLayAll0
        rw [h2, hd.1]
        rfl
      · unfold PyData.depthAll
        omega
    · cases hd
theorem eqvAll_nil {ps : List PyData} : PyData.eqvAll ps [] = ps.isEmpty := by cases ps <;> rfl
theorem deR_val {A : Hd} {d : D} (h : layD d = true) : deR A d = d := by
  cases d with
  | ref n => cases h
  | _ => rfl
theorem shaped_lst {ps : List PyData} (h2 : PyData.canLayAll0 ps = true) (h3 : PyData.depthAll ps ≤ 60) : SeqAt.shaped (.list ps) = true := by
  unfold SeqAt.shaped
  rw [Bool.and_eq_true]
  refine ⟨by unfold PyData.canLay0; exact h2, decide_eq_true ?_⟩
  unfold PyData.depth
  omega
theorem eqP_nil {ds : List D} {A : Hd} (h : ∀ d ∈ ds, layD d = true) : eqP A (.lst ds) (.lst []) = some ds.isEmpty := by
  obtain ⟨ps, q1, q2, q3, q4⟩ := toPs_lay2 h
  unfold eqP
  have e1 : toP (deR A (.lst ds)) = some (.list ps) := by
    show toP (.lst ds) = _
    unfold toP
    rw [q1]
  have e2 : toP (deR A (.lst [])) = some (.list []) := by
    show toP (.lst []) = _
    unfold toP
    rfl
  rw [e1, e2]
  show (if SeqAt.shaped (.list ps) = true ∧ SeqAt.shaped (.list []) = true then some (PyData.eqv (.list ps) (.list [])) else none) = _
  rw [if_pos ⟨shaped_lst q2 (by omega), shaped_lst rfl (by decide)⟩]
  show some (PyData.eqvAll ps []) = _
  rw [eqvAll_nil]
  cases ds with
  | nil => cases ps with
    | nil => rfl
    | cons _ _ => cases q4
  | cons _ _ => cases ps with
    | nil => cases q4
    | cons _ _ => rfl
theorem gEq_nil {ds : List D} {A : Hd} (h : ∀ d ∈ ds, layD d = true) : gEq (.lst ds) (.lst []) A = .ok (.bl ds.isEmpty) A := by
  unfold gEq
  simp only [eqP_nil h]
theorem gNe_nil {ds : List D} {A : Hd} (h : ∀ d ∈ ds, layD d = true) : gNe (.lst ds) (.lst []) A = .ok (.bl (!ds.isEmpty)) A := by
  unfold gNe
  simp only [eqP_nil h]
/-- a numbered list against [] -/
theorem eqP_num {k : Nat} {ds : List D} {A : Hd} (e : A[k]? = some (.lst ds)) (h : ∀ d ∈ ds, layD d = true) : eqP A (.ref k) (.lst []) = some ds.isEmpty := by
  have : deR A (.ref k) = .lst ds := by
    unfold deR
    dsimp only
    rw [e]
  have h2 := eqP_nil (A := A) h
  unfold eqP at h2 ⊢
  rw [this]
  exact h2
theorem gEq_num {k : Nat} {ds : List D} {A : Hd} (e : A[k]? = some (.lst ds)) (h : ∀ d ∈ ds, layD d = true) : gEq (.ref k) (.lst []) A = .ok (.bl ds.isEmpty) A := by
  unfold gEq
  simp only [eqP_num e h]
theorem gNe_num {k : Nat} {ds : List D} {A : Hd} (e : A[k]? = some (.lst ds)) (h : ∀ d ∈ ds, layD d = true) : gNe (.ref k) (.lst []) A = .ok (.bl (!ds.isEmpty)) A := by
  unfold gNe
  simp only [eqP_num e h]
theorem layD_int (i : Int) : layD (.int i) = true := by
  unfold layD toP
  rfl
theorem layD_str {x : Str} (h : PyData.canLay0 (.str x) = true) : layD (.str x) = true := by
  unfold layD toP
  show (PyData.canLay0 (.str x) && decide (PyData.depth (.str x) ≤ 50)) = true
  rw [h]
  rfl
/-- == of data -/
theorem gEq_lay {d e : D} {A : Hd} (h : layD d = true) (h2 : layD e = true) : ∃ b, gEq d e A = .ok (.bl b) A ∧ gNe d e A = .ok (.bl (!b)) A ∧ (∀ x y, d = .str x → e = .str y → b = decide (x = y)) ∧ (∀ i j : Int, d = .int i → e = .int j → b = decide (i = j)) := by
  have go : ∃ p q, toP d = some p ∧ toP e = some q ∧ SeqAt.shaped p = true ∧ SeqAt.shaped q = true := by
    unfold layD at h h2
    split at h
    · split at h2
      · rename_i p hp _ q hq
        rw [Bool.and_eq_true] at h h2
        have a1 := of_decide_eq_true h.2
        have a2 := of_decide_eq_true h2.2
        exact ⟨p, q, hp, hq, by unfold SeqAt.shaped; rw [h.1, decide_eq_true (by omega)]; rfl, by unfold SeqAt.shaped; rw [h2.1, decide_eq_true (by omega)]; rfl⟩
      · cases h2
    · cases h
  obtain ⟨p, q, e1, e2, s1, s2⟩ := go
  by_cases hs : ∃ x y, d = .str x ∧ e = .str y
  · obtain ⟨x, y, rfl, rfl⟩ := hs
    exact ⟨decide (x = y), rfl, rfl, fun a b h1 h2 => by cases h1; cases h2; rfl, fun a b h1 => by cases h1⟩
  · have e3 : eqP A d e = some (PyData.eqv p q) := by
      unfold eqP
      rw [deR_val h, deR_val h2, e1, e2]
      show (if SeqAt.shaped p = true ∧ SeqAt.shaped q = true then some (PyData.eqv p q) else none) = _
      rw [if_pos ⟨s1, s2⟩]
    refine ⟨PyData.eqv p q, ?_, ?_, fun x y h1 h2 => absurd ⟨x, y, h1, h2⟩ hs, fun i j h1 h2 => ?_⟩
    · unfold gEq
      split
      · rename_i x y
        exact absurd ⟨x, y, rfl, rfl⟩ hs
      · rw [e3]
    · unfold gNe
      split
      · rename_i x y
        exact absurd ⟨x, y, rfl, rfl⟩ hs
      · rw [e3]
    · subst h1 h2
      unfold toP at e1 e2
      cases e1
      cases e2
      show (i == j) = decide (i = j)
      rfl
theorem gEq_int (i j : Int) (A : Hd) : gEq (.int i) (.int j) A = .ok (.bl (decide (i = j))) A := by
  obtain ⟨b, h1, _, _, h4⟩ := gEq_lay (A := A) (layD_int i) (layD_int j)
  rw [h1, h4 i j rfl rfl]
theorem gNe_int (i j : Int) (A : Hd) : gNe (.int i) (.int j) A = .ok (.bl (!decide (i = j))) A := by
  obtain ⟨b, _, h1, _, h4⟩ := gEq_lay (A := A) (layD_int i) (layD_int j)
  rw [h1, h4 i j rfl rfl]
end DV

set_option Elab.async false
set_option linter.all false
set_option maxRecDepth 100000
/-! DvW: xs * n for a list that changes; d.get(k, x). -/
namespace DV
open PySem PySem.Spec PyProof.Rows L2
section
variable {K : PySem.W.Frag} {ct : String → Addr}
def gMulM (d e : D) (A : Hd) : R D := match asL A d, e with
  | some xs, .int k => if -(2 ^ 63) ≤ k ∧ k < 2 ^ 63 ∧ xs.length * k.toNat ≤ sizeLine then .ok (.ref A.length) (A ++ [.lst (List.replicate k.toNat xs).flatten]) else .stk
  | _, _ => .stk
theorem gMulM_ok : OpD K ct rMulX gMulM := by
  intro W σ io H A x y d e Q h rx ry p
  unfold gMulM at p
  split at p
  · rename_i xs k h1
    cases ry
    obtain ⟨a, us, rfl, q1, r1⟩ := asL_ok h rx h1
    split at p
    · rename_i hz
      exact .inr ⟨a, _, us, rfl, rfl, q1, hz.1, hz.2.1, by rw [r1.length]; exact hz.2.2, fun q hq => Post.num p h hq ⟨_, upd_same, (r1.flatrep _).mono (Ext.num hq) h.noT⟩⟩
    · exact p.elim
  · exact p.elim
end
/-! ### o.get(b, d) -/
def eGet2 (o b d : EF) : EF := fun ro A => (o ro A).bind fun x A1 => match asD A1 x with
  | some _ => (b ro A1).bind fun y A2 => (d ro A2).bind fun z A3 => match asD A3 x, keyD y with
    | some es, some k => .ok ((valD es k).getD z) A3
    | _, _ => .stk
  | none => .stk
section
variable {X : Cx} {ct : String → Addr} {W : WX} {o b d : Expr} {fo fb fd : EF} {apos cpos : Pos}
theorem pd_get2 (hu : X.A.units + 1 < cLine) (ho : PD X ct W o fo) (hb : PD X ct W b fb) (hd : PD X ct W d fd) (m : M2 X o "get" apos b d cpos := by exact ⟨rfl, rfl, rfl, rfl⟩) :
    PD X ct W (.Call (.Attribute o "get" apos) [b, d] [] cpos) (eGet2 fo fb fd) :=
  pe_mono (pe_dget2 hu ho hb hd m) fun σ H Q ⟨io, A, ro, s, p⟩ => ⟨io, A, ro, s, (p.bind (rep := DR X.K ct)).mono fun x H1 ⟨io1, A1, dx, e1, h1, r1, p1⟩ => by
    split at p1
    · rename_i es0 hes0
      obtain ⟨a, kvs0, rfl, ha, _, _⟩ := asD_ok h1 r1 hes0
      refine ⟨a, rfl, .inl ⟨kvs0, .inl ha⟩, io1, A1, ro, s.mono e1 h1, (p1.bind (rep := DR X.K ct)).mono fun y H2 ⟨io2, A2, dy, e2, h2, r2, p2⟩ => ⟨io2, A2, ro, (s.mono e1 h1).mono e2 h2, (p2.bind (rep := DR X.K ct)).mono fun z H3 ⟨io3, A3, dz, e3, h3, r3, p3⟩ => ?_⟩⟩
      split at p3
      · rename_i es k hes hk
        obtain ⟨a', kvs, ea, ha', hks, hrs⟩ := asD_ok h3 ((r1.mono e2 h1.noT).mono e3 h2.noT) hes
        cases ea
        have ey := keyD_ok (r2.mono e3 h2.noT) hk
        subst ey
        refine ⟨valV kvs k, DGet.k ha', ?_⟩
        have hv := valD_ok k hks hrs
        cases hx : valD es k with
        | none => rw [hx] at p3 hv; rw [hv]; exact p3.here h3 r3
        | some x => rw [hx] at p3 hv; obtain ⟨v', g1, g2⟩ := hv; rw [g1]; exact p3.here h3 g2
      · exact p3.elim
    · exact p1.elim⟩
end
end DV

set_option Elab.async false
set_option linter.all false
set_option maxRecDepth 100000
/-! DvX: o[i] op= e for lists and dicts that change. -/
namespace DV
open PySem PySem.Spec PyProof.Rows L2
abbrev rGetX (K : PySem.W.Frag) : V → V → Hp → VK → Prop := fun o i H Q => rIxL K o i H Q ∨ ∃ a v, o = .ref a ∧ DGet H a i (some v) ∧ Q v H
theorem get_X {X : Cx} (hu : X.A.units + 1 < cLine) : PGet X (rGetX X.K) := by
  intro pins s σ H o i ov iv Q I ro ri h
  rcases h with h | ⟨a, v, rfl, g, q⟩
  · obtain ⟨p, xs, i, z, rfl, rfl, hq, he, q⟩ := h
    cases ro
    obtain ⟨t, rfl⟩ := ri
    obtain ⟨its, r, pl, hz⟩ := I.list hq
    obtain ⟨j, h1, h2, h3, h4, h5⟩ := atI_get he
    obtain ⟨w, ew, rw'⟩ := r.get h2
    have hl := r.length
    have hn := line63
    have fin : EP X pins σ Q w s := ⟨z, H, I, rw', q⟩
    by_cases h0 : 0 ≤ i
    · have hj : i.toNat = j := by
        rw [seqIndex_of h0 h5] at h1
        exact Option.some.inj h1
      exact wpAny_getItem_list pl.isList h0 (by omega) (by rw [hj]; simpa using ew) fin
    · have hj : (i + (its.toArray.size : Int)).toNat = j := by
        rw [seqIndex_neg (by omega) h4] at h1
        rw [List.size_toArray, ← hl]
        exact Option.some.inj h1
      exact wpAny_getItem_list_neg pl.isList (by omega) (by rw [List.size_toArray] <;> omega) (by omega) (by rw [hj]; simpa using ew) fin
  · obtain rfl : ov = Value.ref a := ro
    exact d_getItem hu I g ri fun w' s' I' rw' => ⟨v, H, I', rw', q⟩
def gItem (x y : D) (A : Hd) : R D := match numL A x, y with
  | some (_, ds), .int k => match L2.atI ds k with
    | some v => .ok v A
    | none => .stk
  | some _, _ => .stk
  | none, y => match numD A x, keyD y with
    | some (_, es), some k => match valD es k with
      | some v => .ok v A
      | none => .stk
    | _, _ => .stk
section
variable {K : PySem.W.Frag} {ct : String → Addr} {W : WX} {σ : L2.St} {io : Io} {H : Hp} {A : Hd}
theorem gItem_ok {x y : V} {dx dy : D} {Q : VK} (h : HR K ct io H A) (rx : DR K ct io H x dx) (ry : DR K ct io H y dy) (p : Post K ct (DR K ct) W σ io H (gItem dx dy A) Q) : rGetX K x y H Q := by
  unfold gItem at p
  split at p
  · rename_i n ds k hn
    obtain ⟨a, xs, rfl, rfl, hio, hH, rs⟩ := numL_ok h rx hn
    cases ry
    split at p
    · rename_i d hd
      obtain ⟨v, e, r⟩ := rs.atI hd
      exact .inl ⟨a, xs, k, v, rfl, rfl, .inl (.inl hH), e, p.here h r⟩
    · exact p.elim
  · exact p.elim
  · split at p
    · rename_i n es k hn hk
      obtain ⟨a, kvs, rfl, rfl, hio, hH, ek, rs⟩ := numD_ok h rx hn
      have ey := keyD_ok ry hk
      subst ey
      have hv := valD_ok k ek rs
      cases hx : valD es k with
      | none => rw [hx] at p; exact p.elim
      | some d =>
        rw [hx] at p hv
        obtain ⟨v', g1, g2⟩ := hv
        exact .inr ⟨a, v', rfl, by rw [← g1]; exact DGet.k hH, p.here h g2⟩
    · exact p.elim
end
def sAugAt (g : D → D → Hd → R D) (o i e : EF) : SF := fun ro A => (o ro A).then ro fun x A1 => (i ro A1).then ro fun y A2 => (gItem x y A2).then ro fun v A3 => (e ro A3).then ro fun w A4 => (g v w A4).then ro fun z A5 =>
  match setD x y z ro A5 with
  | .ok ro1 A6 => .go .nx ro1 A6
  | _ => .stk
section
variable {X : Cx} {ct : String → Addr} {W : WX} {o i e : Expr} {fo fi fe : EF} {pos tpos : Pos} {op : Operator} {r : V → V → Hp → VK → Prop} {g : D → D → Hd → R D}
theorem psd_augAt (hu : X.A.units + 1 < cLine) (ho : PD X ct W o fo) (hi : PD X ct W i fi) (he : PD X ct W e fe) (hop : PIp X op r) (og : OpD X.K ct r g)
    (ha : ∀ ov iv new, augStore i ov iv new = (do holding [new, ov, iv] (setItem ov iv new); release [new, ov, iv] []; pure .next) := by intros; rfl) :
    PSD X ct W (.AugAssign (.Subscript o i tpos) op e pos) (sAugAt g fo fi fe) :=
  ps_mono (ps_augS ho hi (get_X hu) he hop (set_X hu) ha) fun Z σ H ⟨io, A, ro, s, p⟩ =>
    ⟨io, A, ro, s, (Post.then (rep := DR X.K ct) s p).mono fun x H1 ⟨io1, A1, dx, e1, s1, rx, p1⟩ =>
      ⟨io1, A1, ro, s1, (Post.then (rep := DR X.K ct) s1 p1).mono fun y H2 ⟨io2, A2, dy, e2, s2, ry, p2⟩ =>
        gItem_ok (W := W) (σ := σ) s2.hr (rx.mono e2 s1.hr.noT) ry ((Post.then (rep := DR X.K ct) s2 p2).mono fun v H3 ⟨io3, A3, dv, e3, s3, rv, p3⟩ =>
          ⟨io3, A3, ro, s3, (Post.then (rep := DR X.K ct) s3 p3).mono fun w H4 ⟨io4, A4, dw, e4, s4, rw', p4⟩ =>
            og W σ io4 H4 A4 v w dv dw _ s4.hr (rv.mono e4 s3.hr.noT) rw' ((Post.then (rep := DR X.K ct) s4 p4).mono fun z H5 ⟨io5, A5, dz, e5, s5, rz, p5⟩ => by
              refine setD_ok (ro := ro) s5 ((((rx.mono e2 s1.hr.noT).mono e3 s2.hr.noT).mono e4 s3.hr.noT).mono e5 s4.hr.noT) (((ry.mono e3 s2.hr.noT).mono e4 s3.hr.noT).mono e5 s4.hr.noT) rz ?_
              cases hs : setD dx dy dz ro A5 with
              | ok ro1 A6 =>
                rw [hs] at p5
                exact fun σ' io' H' ex st hσ => by have := p5 σ' io' H' ex st; rw [hσ] at this; exact this
              | err c fs A6 => rw [hs] at p5; exact p5.elim
              | stk => rw [hs] at p5; exact p5.elim)⟩)⟩⟩
end
end DV

set_option Elab.async false
set_option linter.all false
set_option maxRecDepth 100000
/-! DvY: def f(*names): the arguments become a new tuple. -/
namespace DV
open PySem PySem.Spec PyProof.Rows L2
/-- a def with a star parameter, called with plain arguments -/
structure FnS (P : Program) (w : World) (K : PySem.W.Frag) (mg : Str → Option Value) (base : Heap) (k : Nat) (f : Addr) (sp : Sp) : Prop where
  run : ∀ (A : Around) (outer : List PySem.Env) (s : Shared) (H : Hp) (us : List Value) (vs : List V) (Q : VK) (E : XK), A.guards = some [] → Room k A → Env0 P w K mg base A outer s H →
    Vals vs us → sp vs H Q E → codeAny (model P w) A (.call (.ref f) ⟨us, []⟩) (CR (L2.CX P w) outer P w H s Q E) s
section
variable {P : Program} {w : World} {K : PySem.W.Frag} {mg : Str → Option Value} {base : Heap} {ct : String → Addr}
theorem okS {x qual : Str} {st : Stmt} {f : Addr} {fd : FuncData} {N : List Str} {pv : Str} {k : Nat} {sp : Sp} (F : Fun K x qual st f fd) (S : FnScope N [pv] (defScope st)) (hb : ∀ us : List Value, bindArgs fd ⟨us, []⟩ = (newTuple us >>= fun t => pure [(pv, t)]))
    (body : ∀ (cdv : Value) (A : Around) (outer : List PySem.Env) (s : Shared) (H : Hp) (vs : List V) (Q : VK) (E : XK), A.guards = some [] → Room k (A.deeper (envOfC qual (defScope st) s.heap.objs.size f cdv)) → sp vs H Q E →
      ∃ t, PSs (cxOf (L2.CX P w) P w K mg base N qual (defScope st) f cdv A outer s H E) (defBody st) t ∧ t { nx := fun _ H' => Q .non H', rt := Q } (start N vs) H) :
    FnS P w K mg base (k + 1) f (fun vs H Q E => vs.length ≤ sizeLine ∧ ∀ p o, o.dict = none → H p = none → sp [V.ref p] (upd H p (.frz o (.tup vs))) Q E) := by
  obtain ⟨oc, od, kV, doc, pm, an, cdv, ct, osl, rfl, lk, hcd⟩ := F.ex
  refine ⟨fun A outer s H us vs Q E hgd hr e0 r ⟨hz, hq⟩ => ?_⟩
  have hn : H s.heap.objs.size = none := e0.hok.fresh (Nat.le_refl _)
  have hl2 : us.length ≤ sizeLine := by rw [← r.length]; exact hz
  refine StX.run_bnd lk hcd S hr e0 (G := fun xs H2 => ∃ p o, o.dict = none ∧ H p = none ∧ xs = [V.ref p] ∧ H2 = upd H p (.frz o (.tup vs))) (fun A' Ex Q' h => ?_) fun s2 H2 xs ⟨p, o, ho, hp, ex, eH⟩ hr' => ?_
  · rw [hb us]
    refine wpAny_bind (wpAny_newTuple (wpAny_pure ?_) hl2)
    have new : ObjOk P w (upd H s.heap.objs.size (.frz { cls := .type "tuple", data := .seq us.toArray } (.tup vs))) (s.heap.push ({ cls := .type "tuple", data := .seq us.toArray } : Obj)) s.heap.objs.size (.frz { cls := .type "tuple", data := .seq us.toArray } (.tup vs)) :=
      ⟨Heap.get?_push_size _ rfl, hz, us, r, IsTup.new _ _⟩
    have un := StX.un_laid (fs := frs outer) (s := s) (o := ({ cls := .type "tuple", data := .seq us.toArray } : Obj)) (u := .frz { cls := .type "tuple", data := .seq us.toArray } (.tup vs)) hn
    exact h _ _ [V.ref s.heap.objs.size] [Value.ref s.heap.objs.size] (StX.env0_laid e0 new) un rfl (fun e s' => StX.cxUp outer s H _ _ E e s' un (fun b o q => Heap.get?_push_of_some _ q) rfl) (.cons rfl .nil) rfl ⟨_, _, rfl, hn, rfl, rfl⟩
  · subst ex eH
    exact body cdv A outer s2 _ _ Q E hgd hr' (hq p o ho hp)
def starF (F : FF) : FF := fun ds A => if ds.length ≤ sizeLine then F [.tup ds] A else .stk
def spS (K : PySem.W.Frag) (ct : String → Addr) (F : FF) : Sp := fun vs H Q E => ∃ io A ds, HR K ct io H A ∧ DRs K ct io H vs ds ∧ Post K ct (DR K ct) (fun cls dd _ H' => E cls dd H') [] io H (starF F ds A) Q
theorem FnS.mono {j k : Nat} {f : Addr} {sp : Sp} (F : FnS P w K mg base j f sp) (h : j ≤ k) : FnS P w K mg base k f sp := ⟨fun A outer s H us vs Q E g r => F.run A outer s H us vs Q E g (r.mono h)⟩
theorem FnS.less {k : Nat} {f : Addr} {sp sp' : Sp} (F : FnS P w K mg base k f sp) (h : ∀ vs H Q E, sp' vs H Q E → sp vs H Q E) : FnS P w K mg base k f sp' := ⟨fun A outer s H us vs Q E g r e v q => F.run A outer s H us vs Q E g r e v (h _ _ _ _ q)⟩
theorem okDS {x qual : Str} {st : Stmt} {f : Addr} {fd : FuncData} {N : List Str} {pv : Str} {k : Nat} {F : FF} {fb : SF} (Fn : Fun K x qual st f fd) (S : FnScope N [pv] (defScope st)) (hb : ∀ us : List Value, bindArgs fd ⟨us, []⟩ = (newTuple us >>= fun t => pure [(pv, t)]))
    (drv : ∀ (cdv : Value) (A : Around) (outer : List PySem.Env) (s : Shared) (H : Hp) (E : XK), A.guards = some [] → Room k (A.deeper (envOfC qual (defScope st) s.heap.objs.size f cdv)) → PSsD (cxD P w K mg base N qual st f cdv A outer s H E) ct (WD E) (defBody st) fb)
    (hF : ∀ ds A, ds.length = 1 → F ds A ≠ .stk → FinOk A (fb (startD N.length ds) A) (F ds A)) : FnS P w K mg base (k + 1) f (spS K ct F) := by
  refine (okS (sp := spD K ct 1 F) Fn S hb fun cdv A0 outer s H vs Q E hg hr ⟨io, A, ds, hl, h, rs, p⟩ => ?_).less fun vs H Q E ⟨io, A, ds, h, rs, p⟩ => ?_
  · refine ⟨_, drv cdv A0 outer s H E hg hr, ?_⟩
    refine ⟨io, A, startD N.length ds, ⟨h, start_D rs⟩, ?_⟩
    have hns : F ds A ≠ .stk := fun z => by rw [z] at p; exact p
    have fo := hF ds A (by rw [← rs.length]; exact hl) hns
    cases ho : fb (startD N.length ds) A with
    | stk => rw [ho] at fo; exact fo.elim
    | go fl ro' A' =>
      rw [ho] at fo
      cases fl with
      | bk => exact fo.elim
      | ct => exact fo.elim
      | nx => exact fun σ' io' H' x s' => fin_ret h x s'.hr .non fo p
      | ret d => exact fun v io' H' x h' rv => fin_ret h x h' rv fo p
    | err c fs ro' A' =>
      rw [ho] at fo
      intro cls dd σ' io' H' x s' xr
      rcases fo with q | ⟨n, hn, hf, hm, q⟩
      · rw [q] at p
        exact p cls dd io' H' x s'.hr xr
      · rw [q] at p
        obtain ⟨g1, g2⟩ := fin_cut h x s'.hr hn hm
        refine p cls dd (io'.cut n) H' g2 g1 ⟨xr.cls, ?_⟩
        rcases xr.fds with z | ⟨pp, gs, h1, h2, h3, h4, h5⟩
        · exact .inl z
        · exact .inr ⟨pp, gs, h1, fun z => h2 (Io.cut_mem z), h3, h4, h5.lop hf⟩
  · unfold starF at p
    split at p
    · rename_i hz
      exact ⟨by rw [rs.length]; exact hz, fun q o ho hq => ⟨io, A, [.tup ds], rfl, h.laid hq, .cons (.tup (.inl ⟨o, upd_same, ho⟩) (rs.laid h hq)) .nil, Post.ext (Ext.laid hq) p⟩⟩
    · exact p.elim
/-- a def with a star parameter that may be called by the module's name x -/
structure CalS (P : Program) (w : World) (K : PySem.W.Frag) (mg : Str → Option Value) (base : Heap) (ct : String → Addr) (k : Nat) (x : Str) (F : FF) : Prop where
  ex : ∃ f, FnS P w K mg base k f (spS K ct F) ∧ mg x = some (.ref f) ∧ PySem.W.keepIn K (.ref f) = true
end
section
variable {X : Cx} {ct : String → Addr} {W : WX} {k : Nat} {f : Addr} {F : FF} {x : Str} {p pos : Pos} {e : Expr} {es : List Expr} {fl : AF} {sp : Sp} {t : TA}
theorem run_S {pins : List (Addr × Obj)} {σ : L2.St} {H : Hp} {s : Shared} {Q : VK} {us : List Value} {vs : List V} (F : FnS X.prog X.w X.K X.mg X.base k f sp) (hg : X.A.guards = some []) (hr : Room k X.A) (tk : Takes X W)
    (I : Inv X pins σ H s) (r : Vals vs us) (h : sp vs H Q (WE W σ)) : wpAny (model X.prog X.w) X.A (call (.ref f) us) (EP X pins σ Q) X.xe s := by
  refine wpAny_call (codeAny_mono (F.run X.A X.stack s H us vs Q (WE W σ) hg hr I.env0 r h) (fun r s' hq => ?_))
  match r, hq with
  | .error e, hq => exact passAt tk σ pins H s e s' I hq
  | .ok (.ret u), hq => exact I.after hq
  | .ok .next, hq => exact (False.elim hq)
  | .ok .brk, hq => exact (False.elim hq)
  | .ok .cont, hq => exact (False.elim hq)
theorem spS_call {vs : List V} {ds : List D} {σ : L2.St} {io : Io} {H : Hp} {A : Hd} {Q : VK} (h : HR X.K ct io H A) (r : DRs X.K ct io H vs ds) (q : Post X.K ct (DR X.K ct) W σ io H (starF F ds A) Q) : spS X.K ct F vs H Q (WE W σ) := by
  refine ⟨io, A, ds, h, r, ?_⟩
  cases hF : starF F ds A with
  | ok d A1 => rw [hF] at q; exact q
  | err c fs A1 => rw [hF] at q; exact q
  | stk => rw [hF] at q; exact q
theorem pd_callS {j : Nat} (c : CalS X.prog X.w X.K X.mg X.base ct k x F) (hgd : X.A.guards = some []) (hr : Room j X.A) (hk : k ≤ j) (hg : Gl X x) (tk : Takes X W) (ha : PDa X ct W (e :: es) fl)
    (hdb : (x == ("__debug__" : Str)) = false := by decide) (he : starEach (e :: es) X.env = (false, eval e X.env) :: starEach es X.env := by rfl) (hpl : (backTo pos (starEach es X.env)).any (·.1) = false := by rfl) :
    PD X ct W (.Call (.Name x p) (e :: es) [] pos) (eArgs (fun ds A => starF F ds A) fl) := by
  obtain ⟨f, Fn, hm, hkp⟩ := c.ex
  refine pe_mono (t := fun σ H Q => tL X.K ct W fl σ H fun vs H1 => spS X.K ct F vs H1 Q (WE W σ)) ⟨fun pins s σ H Q I h => wpAny_Call_Name_kw (ld_glob I hg hm ?_ hdb)⟩ fun σ H Q ⟨io, A, ro, s, q⟩ => ?_
  · exact PySem.W.callWith_K (h₀ := X.base) I.ok.mod.kin hkp (thn (ha.run pos pins s σ H _ I h) fun us s1 ⟨vs, H1, I1, r, q⟩ => ⟨I1.kIn, run_S Fn hgd (hr.mono hk) tk I1 r q⟩) he hpl
  · refine ⟨io, A, ro, s, ?_⟩
    cases hf : fl ro A with
    | stk => unfold eArgs at q; rw [hf] at q; exact q.elim
    | err c fs A1 => unfold eArgs at q; rw [hf] at q; exact q
    | ok ds1 A1 =>
      unfold eArgs at q
      rw [hf] at q
      intro vs io1 H1 e1 h1 r1
      exact spS_call h1 r1 (Post.ext e1 q)
theorem pd_callS0 {j : Nat} (c : CalS X.prog X.w X.K X.mg X.base ct k x F) (hgd : X.A.guards = some []) (hr : Room j X.A) (hk : k ≤ j) (hg : Gl X x) (tk : Takes X W) (hdb : (x == ("__debug__" : Str)) = false := by decide) :
    PD X ct W (.Call (.Name x p) [] [] pos) (fun _ A => starF F [] A) := by
  obtain ⟨f, Fn, hm, hkp⟩ := c.ex
  refine pe_mono (t := fun σ H Q => spS X.K ct F [] H Q (WE W σ)) ⟨fun pins s σ H Q I h => wpAny_Call_Name_kw (ld_glob I hg hm ?_ hdb)⟩ fun σ H Q ⟨io, A, ro, s, q⟩ => spS_call s.hr .nil q
  exact PySem.W.callWith_K0 I.kIn hkp (run_S (us := []) (vs := []) Fn hgd (hr.mono hk) tk I .nil h)
end
end DV

set_option Elab.async false
set_option linter.all false
set_option maxRecDepth 100000
set_option maxHeartbeats 4000000
/-! ExO: own exception classes over any built-in error whose facts the kit has: fields stored, instances made. -/
namespace DV
open PySem PySem.Spec PyProof.Rows L2
/-- own classes, then a tail -/
def refsT (tl : List Value) : List Value → Bool
  | .ref _ :: r => refsT tl r
  | l => l == tl
theorem refsT_cases {tl : List Value} : ∀ {l : List Value}, refsT tl l = true → (∃ c r, l = .ref c :: r ∧ refsT tl r = true) ∨ l = tl
  | [], e => .inr (beq_iff_eq.mp e)
  | a :: r, e => by
    cases a with
    | ref c => exact .inl ⟨c, r, rfl, e⟩
    | _ => exact .inr (beq_iff_eq.mp e)
/-- what is true of a tail and stays true when an own class stands before it -/
theorem refsT_ind {tl : List Value} {P : List Value → Prop} (h0 : P tl) (h1 : ∀ c r, P r → P (.ref c :: r)) : ∀ {l : List Value}, refsT tl l = true → P l
  | [], e => by
    rcases refsT_cases e with ⟨c, r, q, _⟩ | q
    · cases q
    · rw [q]; exact h0
  | a :: r, e => by
    rcases refsT_cases e with ⟨c, r', q, h⟩ | q
    · obtain ⟨rfl, rfl⟩ := List.cons.inj q
      exact h1 c r (refsT_ind h0 h1 h)
    · rw [q]; exact h0
/-- a built-in error as a base -/
structure BaseB (B newId initId : String) (tl : List Value) : Prop where
  base : ExcBaseFacts B newId initId tl
  pass : ∀ self : Value, refuseLoop self "__setattr__" tl = pure ()
  kx : PySem.W.KxsFacts B initId
  obj : tl.contains (.type "object") = true
  plain : initId ≠ ""
theorem base_VE : BaseB "ValueError" "ValueError.__new__" "ValueError.__init__" [.type "ValueError", .type "Exception", .type "BaseException", .type "object"] := ⟨PySem.F.excBase_ValueError, PySem.F.store_ValueError.passes, PySem.W.kxs_ValueError, by decide +kernel, by decide⟩
theorem base_AE : BaseB "ArithmeticError" "ArithmeticError.__new__" "ArithmeticError.__init__" [.type "ArithmeticError", .type "Exception", .type "BaseException", .type "object"] := ⟨PySem.F.excBase_ArithmeticError, PySem.F.store_ArithmeticError.passes, PySem.W.kxs_ArithmeticError, by decide +kernel, by decide⟩
theorem base_LE : BaseB "LookupError" "LookupError.__new__" "LookupError.__init__" [.type "LookupError", .type "Exception", .type "BaseException", .type "object"] := ⟨PySem.F.excBase_LookupError, PySem.F.store_LookupError.passes, PySem.W.kxs_LookupError, by decide +kernel, by decide⟩
theorem base_RE : BaseB "RuntimeError" "RuntimeError.__new__" "RuntimeError.__init__" [.type "RuntimeError", .type "Exception", .type "BaseException", .type "object"] := ⟨PySem.F.excBase_RuntimeError, PySem.F.store_RuntimeError.passes, PySem.W.kxs_RuntimeError, by decide +kernel, by decide⟩
section
variable {tl : List Value} {l : List Value}
theorem refsT_pass (hp : ∀ self : Value, refuseLoop self "__setattr__" tl = pure ()) (self : Value) (h : refsT tl l = true) : refuseLoop self "__setattr__" l = pure () :=
  refsT_ind (P := fun l => refuseLoop self "__setattr__" l = pure ()) (hp self) (fun c r q => by rw [refuseLoop_ref]; exact q) h
theorem refsT_has (X : String) (h : refsT tl l = true) : l.contains (.type X) = tl.contains (.type X) :=
  refsT_ind (P := fun l => l.contains (.type X) = tl.contains (.type X)) rfl (fun c r q => by rw [List.contains_cons, q]; rfl) h
theorem refsT_ne (h0 : tl.contains (.type "object") = true) (h : refsT tl l = true) : l.isEmpty = false := by
  have := (refsT_has "object" h).trans h0
  cases l with
  | nil => cases this
  | cons _ _ => rfl
end
/-! ### self.name = v at the machine -/
section
open Builtin Builtin.ObjectAttr PySem.W PySem.Calls
variable {prog : Program} {w : World} {A : Around} {R : Result → Shared → Prop} {hp : Heap} {g : Array GenState} {d : Drawn} {t : Nat} {os : OsState}
variable {K : W.Frag} {name : Str} {tk : Tok} {v : Value} {x C : Addr} {fv : Array Value} {cd : ClassData}
/-- what the store asks of the class -/
structure StoC (K : W.Frag) (C : Addr) (cd : ClassData) : Prop where
  at_ : W.clsIn K C = some cd
  pass : ∀ self : Value, refuseLoop self "__setattr__" cd.mro = pure ()
  ne : cd.mro.isEmpty = false
  obj : cd.mro.contains (.type "object") = true
  dict : cd.hasDict = true
theorem osa_first (X : K.In hp) (hx : hp.get? x = some { cls := .ref C, data := .fields fv }) (S : StoC K C cd) (ha : W.findIn K (.ref C) name = some none)
    (hq : ∀ h' tk' dx, (∀ b o, b ≠ x → hp.get? b = some o → h'.get? b = some o) → hp.objs.size ≤ dx → dx ≠ x → h'.get? x = some { cls := .ref C, dict := some dx, data := .fields fv } →
      h'.Ns1 dx (fun y => if y = name then some v else none) → R (.ok (.ret .none)) ⟨h', g, d, tk', os⟩) :
    codeAny (model prog w) A (.call (.builtin "object.__setattr__") ⟨[.ref x, .str name tk, v], []⟩) R ⟨hp, g, d, t, os⟩ := by
  have I : W.InstAt hp x { cls := .ref C, data := .fields fv } C none := ⟨hx, rfl, rfl, trivial⟩
  have SF := F.store_object
  have hxs : x ≠ hp.objs.size := Nat.ne_of_lt (Heap.lt_size hx)
  have sub : W.Looks (model prog w) hp (isInstance (.ref x) (.type "object")) true := I.type.andThen (W.looks_mroIn X (by unfold W.mroIn; rw [S.at_, Option.bind_some, if_neg (by rw [S.ne]; decide), S.obj]))
  refine codeAny_call_builtin SF.slot.plain SF.entry (@W.check_slot (model prog w) _ _ ⟨hp, g, d, t, os⟩ "object.__setattr__" "object" "__setattr__" (.ref x) [.str name tk, v] [] _ SF.kind SF.split sub (SF.args (.ref x) (.str name tk) v) ?_)
  have hmr : W.Looks (model prog w) hp (mroOf (.ref C)) cd.mro := (W.looks_clsIn X S.at_).andThen .now
  have L3 : W.Looks (model prog w) hp (storeTaker? none) none := .now
  have hcls : W.Looks (model prog w) hp (classData C) cd := W.looks_clsIn X S.at_
  have hps := S.pass
  have hh := S.dict
  rw [W.osa_eq, refuse_eq]
  refine wpAny_bind (wpAny_bind (I.type.at (wpAny_bind (hmr.at ?_))))
  rw [hps]
  refine wpAny_pure (wpAny_bind (I.type.at (wpAny_bind ((W.looks_findIn X ha).at (wpAny_bind (L3.at ?_))))))
  show wpAny _ _ (storeInOwnDict (.ref x) (.ref C) (.str name tk) name v false) _ _ _
  obtain ⟨nm, bs, mro, ns, qn, hd, sn, sb, ab, col, del⟩ := cd
  dsimp only at hh
  subst hh
  unfold storeInOwnDict ownDictForStores
  repeat (first | with_reducible refine PySem.HandSPX.store_in_new ?_ ?_ | with_reducible refine wpAny_loadPart_at hx ?_ | with_reducible refine hcls.at ?_ | wp_step)
  · exact ⟨_, #[], _, (Heap.get?_update_ne _ _ _ _ hxs.symm).trans (Heap.get?_push_at rfl rfl), rfl, fun e he => absurd he (by simp), fun _ => rfl⟩
  · intro h' tk' hn' hs
    have hx₁ : (hp.push { cls := .type "dict", data := .dict #[] }).get? x = some { cls := .ref C, data := .fields fv } := Heap.get?_push_of_some _ hx
    refine hq h' tk' hp.objs.size (fun b o hb ho => ?_) (Nat.le_refl _) hxs.symm ?_ hn'
    · exact (hs.2 b (Nat.ne_of_lt (Heap.lt_size ho))).trans ((Heap.get?_update_ne _ _ _ _ hb).trans (Heap.get?_push_of_some _ ho))
    · exact (hs.2 x hxs).trans (Heap.get?_update_self _ hx₁ rfl)
theorem osa_more {dx : Addr} {m0 : Str → Option Value} {nl : List Str}
    (X : K.In hp) (hx : hp.get? x = some { cls := .ref C, dict := some dx, data := .fields fv }) (hns : hp.Ns1 dx m0) (hw : Within m0 nl) (hz : nl.length ≤ 1000) (S : StoC K C cd)
    (ha : W.findIn K (.ref C) name = some none)
    (hq : ∀ h' tk', (∀ b o, b ≠ dx → hp.get? b = some o → h'.get? b = some o) → h'.Ns1 dx (fun y => if y = name then some v else m0 y) → R (.ok (.ret .none)) ⟨h', g, d, tk', os⟩) :
    codeAny (model prog w) A (.call (.builtin "object.__setattr__") ⟨[.ref x, .str name tk, v], []⟩) R ⟨hp, g, d, t, os⟩ := by
  obtain ⟨oD, esD, epD, hoD, hdD, _⟩ := hns.count hw
  have I : W.InstAt hp x { cls := .ref C, dict := some dx, data := .fields fv } C (some oD) := ⟨hx, rfl, rfl, hoD⟩
  have SF := F.store_object
  have sub : W.Looks (model prog w) hp (isInstance (.ref x) (.type "object")) true := I.type.andThen (W.looks_mroIn X (by unfold W.mroIn; rw [S.at_, Option.bind_some, if_neg (by rw [S.ne]; decide), S.obj]))
  refine codeAny_call_builtin SF.slot.plain SF.entry (@W.check_slot (model prog w) _ _ ⟨hp, g, d, t, os⟩ "object.__setattr__" "object" "__setattr__" (.ref x) [.str name tk, v] [] _ SF.kind SF.split sub (SF.args (.ref x) (.str name tk) v) ?_)
  have hmr : W.Looks (model prog w) hp (mroOf (.ref C)) cd.mro := (W.looks_clsIn X S.at_).andThen .now
  have L3 : W.Looks (model prog w) hp (storeTaker? none) none := .now
  have hcls : W.Looks (model prog w) hp (classData C) cd := W.looks_clsIn X S.at_
  have hps := S.pass
  have hh := S.dict
  rw [W.osa_eq, refuse_eq]
  refine wpAny_bind (wpAny_bind (I.type.at (wpAny_bind (hmr.at ?_))))
  rw [hps]
  refine wpAny_pure (wpAny_bind (I.type.at (wpAny_bind ((W.looks_findIn X ha).at (wpAny_bind (L3.at ?_))))))
  show wpAny _ _ (storeInOwnDict (.ref x) (.ref C) (.str name tk) name v false) _ _ _
  obtain ⟨nm, bs, mro, ns, qn, hd, sn, sb, ab, col, del⟩ := cd
  dsimp only at hh
  subst hh
  unfold storeInOwnDict ownDictForStores
  repeat (first | with_reducible refine PySem.OEX.store_in_old hns hw hz ?_ | with_reducible refine wpAny_loadPart_at hx ?_ | with_reducible refine hcls.at ?_ | wp_step)
  intro h' tk' hn' hs
  exact hq h' tk' (fun b o hb ho => (hs.2 b hb).trans ho) hn'
end
/-! ### by the abstract heap -/
/-- what the written part says of the class -/
structure OexG (K : PySem.W.Frag) (C : Addr) (newId : String) (tl : List Value) : Prop where
  cls : ∃ nm q N bs bm sn sub ab col dd k0 k1 k2 k3 k5, K.lookup C = some (excClassObj nm q C N bs bm true sn sub ab col dd k0 k1 k2 k3 k5 newId) ∧ refsT tl bm = true
  sa : PySem.W.findIn K (.ref C) "__setattr__" = some (some (.builtin "object.__setattr__"))
  exC : PySem.W.subIn K (.ref C) (.type "BaseException") = some true
  tyC : PySem.W.typeIn K (.ref C) = some (.type "type")
  kC : PySem.W.keepIn K (.ref C) = true
def OexB (K : PySem.W.Frag) (C : Addr) : Prop := ∃ B newId initId tl, BaseB B newId initId tl ∧ OexG K C newId tl
theorem OexG.sto {K : PySem.W.Frag} {C : Addr} {B newId initId : String} {tl : List Value} (T : OexG K C newId tl) (Bb : BaseB B newId initId tl) : ∃ cd, StoC K C cd := by
  obtain ⟨nm, q, N, bs, bm, sn, sub, ab, col, dd, k0, k1, k2, k3, k5, hC, hbm⟩ := T.cls
  have hm : refsT tl (.ref C :: bm) = true := hbm
  exact ⟨{ name := nm, bases := bs, mro := .ref C :: bm, ns := N, qualname := q, hasDict := true, slotNames := sn, subclasses := sub, abstract := ab, collection := col, hasDel := false },
    by unfold PySem.W.clsIn; rw [hC] <;> rfl, fun self => refsT_pass Bb.pass self hm, rfl, (refsT_has "object" hm).trans Bb.obj, rfl⟩
section
variable {X : Cx} {pins : List (Addr × Obj)} {σ : L2.St} {H : Hp} {s : Shared} {a C dx : Addr} {f : Str} {y : V} {u : Value} {fs : List (Str × V)} {Q : Unit → Shared → Prop} {E : Value → Shared → Prop} {A : Around}
theorem stoB_new (T : OexB X.K C) (I : Inv X pins σ H s) (e : H a = some (exo a C none)) (hno : PySem.W.findIn X.K (.ref C) f = some none) (ry : RelV y u)
    (h : ∀ dx s', H dx = none → dx ≠ a → Inv X pins σ (upd (upd H dx (exd dx [(f, y)])) a (exo a C (some dx))) s' → Q () s') : wpAny (model X.prog X.w) A (setAttr (.ref a) f u) Q E s := by
  obtain ⟨B, newId, initId, tl, Bb, T⟩ := T
  obtain ⟨cd, S⟩ := T.sto Bb
  obtain ⟨t1, ho⟩ := exo_at I.hok e
  obtain ⟨hp, g, d, t, os⟩ := s
  refine PySem.W.set_plain I.kIn (ox := { cls := .ref C, dict := none, data := .fields #[.ref t1, .none, .none, .none, .bool false, .none] }) (od := none) ⟨ho, rfl, rfl, trivial⟩ T.sa ?_
  refine osa_first I.kIn ho S hno fun h' tk' dx k dn dne hx hn => ?_
  have hnd : H dx = none := I.hok.fresh dn
  have nd : ∀ {b : Addr} {o : Obj}, hp.get? b = some o → b ≠ dx := fun {b o} q => Nat.ne_of_lt (Nat.lt_of_lt_of_le (Heap.lt_size q) dn)
  have na : ∀ {b : Addr}, H b = none → b ≠ a := fun {b} n z => by
    rw [z, e] at n
    cases n
  have off : ∀ {b : Addr} {o : HO}, H b = some o → o ≠ exo a C none → upd (upd H dx (exd dx [(f, y)])) a (exo a C (some dx)) b = some o := fun {b o} q ne => by
    have hb : b ≠ a := fun z => by
      rw [z, e] at q
      exact ne (Option.some.inj q).symm
    have hd : b ≠ dx := fun z => by
      rw [z, hnd] at q
      cases q
    rw [upd_ne hb, upd_ne hd]
    exact q
  have Un1 : Un X.fs [] H (upd (upd H dx (exd dx [(f, y)])) a (exo a C (some dx))) hp h' := {
    keep := fun b o q n _ _ => k b o (na n) q
    slot := fun b o q n _ _ => ⟨o.slots, k b o (na n) q⟩
    free := fun b o q n _ => by rw [upd_ne (na n), upd_ne (nd q)]; exact n
    there := fun b o q _ => by
      by_cases hb : b = a
      · exact ⟨_, by rw [hb]; exact hx⟩
      · exact ⟨o, k b o hb q⟩
    tups := fun b xs q => off q (Ne.symm exo_tup)
    frzs := fun b o v q => off q (Ne.symm exo_frz)
    tbls := fun b ps q => ⟨#[], by rw [off q (Ne.symm exo_tbl)]; simp⟩ }
  refine h dx _ hnd dne (I.un (t' := tk') Un1 fun b o q => ?_)
  by_cases hb : b = a
  · subst hb
    rw [upd_same] at q
    cases q
    exact exo_ok hx
  · rw [upd_ne hb] at q
    by_cases hd : b = dx
    · subst hd
      rw [upd_same] at q
      cases q
      exact exd_ok hn (relO_put (fs := []) ry fun g => True.intro)
    · rw [upd_ne hd] at q
      exact (I.hok b o q).stay (fun c v hc z => k c v (by
          rcases hc with hc | hc
          · rw [hc]
            exact hb
          · exact at_ne e hc exo_own) z)
        (fun c hc => off hc (Ne.symm exo_own)) (fun c xs hc => off hc (Ne.symm exo_tup))
theorem stoB_old (T : OexB X.K C) (I : Inv X pins σ H s) (e : H a = some (exo a C (some dx))) (ed : H dx = some (exd dx fs)) (hl : fs.length ≤ 900) (hno : PySem.W.findIn X.K (.ref C) f = some none) (ry : RelV y u)
    (h : ∀ s', Inv X pins σ (upd H dx (exd dx ((f, y) :: fs))) s' → Q () s') : wpAny (model X.prog X.w) A (setAttr (.ref a) f u) Q E s := by
  obtain ⟨B, newId, initId, tl, Bb, T⟩ := T
  obtain ⟨cd, S⟩ := T.sto Bb
  obtain ⟨t1, ho⟩ := exo_at I.hok e
  obtain ⟨mA, hns, rel⟩ := exd_at I.hok ed
  have hw := within_of rel
  obtain ⟨hp, g, d, t, os⟩ := s
  obtain ⟨oD, _, _, hoD, _, _⟩ := hns.count hw
  refine PySem.W.set_plain I.kIn (ox := { cls := .ref C, dict := some dx, data := .fields #[.ref t1, .none, .none, .none, .bool false, .none] }) (od := some oD) ⟨ho, rfl, rfl, hoD⟩ T.sa ?_
  refine osa_more I.kIn ho hns hw (by rw [List.length_map]; omega) S hno fun h' tk' k hn => ?_
  obtain ⟨o', _, _, e', _⟩ := id hn
  exact h _ (I.write (t' := tk') (x := dx) (e := dx) (o := exd dx ((f, y) :: fs)) (by rw [ed]; exact True.intro) (.inl rfl) k ⟨o', e'⟩ (exd_ok hn (relO_put ry rel)))
end
/-- self.f = e -/
def tStoB (K : PySem.W.Frag) (f : Str) (to te : TE) : TS := fun D σ H => te σ H fun y H1 => to σ H1 fun x H2 => ∃ a C : Addr, x = .ref a ∧ OexB K C ∧ PySem.W.findIn K (.ref C) f = some none ∧
  ((H2 a = some (exo a C none) ∧ ∀ dx, H2 dx = none → dx ≠ a → D.nx σ (upd (upd H2 dx (exd dx [(f, y)])) a (exo a C (some dx)))) ∨
    ∃ (dx : Addr) (fs : List (Str × V)), H2 a = some (exo a C (some dx)) ∧ H2 dx = some (exd dx fs) ∧ fs.length ≤ 900 ∧ D.nx σ (upd H2 dx (exd dx ((f, y) :: fs))))
section
variable {X : Cx} {o e : Expr} {es : List Expr} {to te : TE} {ta : TA} {f : Str} {p p' p1 p2 pos : Pos}
theorem ps_stoB (ho : PE X o to) (he : PE X e te) (hs : swapsWith e (some (.Attribute o f p')) pos.line X.env = pure false := by rfl) : PS X (.Assign [.Attribute o f p'] e pos) (tStoB X.K f to te) := by
  refine ⟨fun pins s σ H D I h => ?_⟩
  refine plainObj_wpAny_Assign_Attribute (thn (he.run pins s σ H _ I h) fun v s1 ⟨y, H1, I1, r1, q1⟩ => thn (ho.run pins s1 σ H1 _ I1 q1) fun u s2 ⟨x, H2, I2, r2, a, C, ex, T, hno, q⟩ => ?_) hs
  subst ex
  obtain rfl : u = Value.ref a := r2
  rcases q with ⟨ea, q⟩ | ⟨dx, fs, ea, ed, hl, q⟩
  · exact stoB_new T I2 ea hno r1 fun dx s' n ne J => ⟨σ, _, J, q dx n ne⟩
  · exact stoB_old T I2 ea ed hl hno r1 fun s' J => ⟨σ, _, J, q⟩
/-- C(e, ..): what is left when the arguments are there -/
theorem mkB_call {CX : CXT} {C fI : Addr} {k : Nat} {fd : FuncData} {ps : List Str} {sp : Sp} {ds us : List Value} {dvs vs : List V} {pins : List (Addr × Obj)} {σ : L2.St} {H1 : Hp} {hp : Heap} {g : Array GenState} {dr : Drawn} {tk : Nat} {os : OsState} {R : Value → Shared → Prop} {Q : V → Hp → Prop}
    (T : OexB X.K C) (iC : PySem.W.findIn X.K (.ref C) "__init__" = some (some (.ref fI))) (tI : PySem.W.typeIn X.K (.ref fI) = some (.type "function"))
    (F1 : FnOk X.prog X.w X.K X.mg X.base CX k fI fd ps sp) (hr : Room (k + 1) X.A) (hb : Binds X.K fd ps ds) (hd : Vals dvs ds) (I1 : Inv X pins σ H1 ⟨hp, g, dr, tk, os⟩) (r1 : Vals vs us) (hz : vs.length ≤ 1000)
    (hq : sp (.ref (hp.objs.size + 1) :: (vs ++ dvs)) (upd H1 (hp.objs.size + 1) (exo (hp.objs.size + 1) C none)) Q (fun _ _ _ => False))
    (hx : Passes CX X (fun _ _ _ => False))
    (done : ∀ (u : Value) (v : V) (H2 : Hp) (s' : Shared), RelV v u → Q v H2 → (∀ b o, hp.get? b = some o → ((hp.push (PySem.W.kdv_tup us)).push (PySem.HandSPX.excO C hp.objs.size)).get? b = some o) →
      s'.os = os → AllBare s'.gens → Un (frs X.stack) [] (upd H1 (hp.objs.size + 1) (exo (hp.objs.size + 1) C none)) H2 ((hp.push (PySem.W.kdv_tup us)).push (PySem.HandSPX.excO C hp.objs.size)) s'.heap → HOk X.prog X.w H2 s'.heap → u = .none → R (.ref (hp.objs.size + 1)) s')
    (vnon : ∀ v H2, Q v H2 → v = .non) :
    wpAny (model X.prog X.w) X.A (call (.ref C) us) R X.xe ⟨hp, g, dr, tk, os⟩ := by
  obtain ⟨B, newId, initId, tl, Bb, T⟩ := T
  obtain ⟨nm, q, N, bs, bm, sn, sub, ab, col, dd, k0, k1, k2, k3, k5, hC, hbm⟩ := T.cls
  have hsz : hp.objs.size ≤ hp.objs.size + 1 := Nat.le_succ _
  have kk : ∀ b o, hp.get? b = some o → ((hp.push (PySem.W.kdv_tup us)).push (PySem.HandSPX.excO C hp.objs.size)).get? b = some o := fun b o e => Heap.get?_push_of_some _ (Heap.get?_push_of_some _ e)
  have hget : ((hp.push (PySem.W.kdv_tup us)).push (PySem.HandSPX.excO C hp.objs.size)).get? (hp.objs.size + 1) = some (PySem.HandSPX.excO C hp.objs.size) := by heap_get
  have I2 : Inv X pins σ (upd H1 (hp.objs.size + 1) (exo (hp.objs.size + 1) C none)) ⟨(hp.push (PySem.W.kdv_tup us)).push (PySem.HandSPX.excO C hp.objs.size), g, dr, tk, os⟩ :=
    I1.laid (t' := tk) (a := hp.objs.size + 1) (o := exo (hp.objs.size + 1) C none) kk hsz (exo_ok hget)
  have r2 : Vals (V.ref (hp.objs.size + 1) :: (vs ++ dvs)) (Value.ref (hp.objs.size + 1) :: (us ++ ds)) := .cons rfl (r1.append hd)
  have hl : (Value.ref (hp.objs.size + 1) :: us ++ ds).length = ps.length := by
    have e := r2.length
    rw [F1.len _ _ _ _ hq] at e
    exact e.symm
  have hus : us.length ≤ sizeLine := by
    rw [← Paired.length r1, sizeLine_eq]
    omega
  refine wpAny_call (PySem.HandSPX.call_own Bb.base (fun Y => refsT_has Y hbm) (I1.kIn _ _ hC) (PySem.W.looks_findIn I1.kIn iC) (fun self => PySem.W.bind_fn I1.kIn self tI) hus
    (codeAny_mono (F1.run _ X.stack _ _ ⟨Value.ref (hp.objs.size + 1) :: us, []⟩ (Value.ref (hp.objs.size + 1) :: (us ++ ds)) _ _ (fun _ _ _ => False) (hr.make C us []) (I2.env0.make C us []) (hb _ (Value.ref (hp.objs.size + 1) :: us) I2.kIn hl) r2 hq) fun r s' hq' => ?_))
  cases r with
  | error er => exact hx pins σ _ _ er s' I2 hq'
  | ok fl =>
    cases fl with
    | ret u =>
      obtain ⟨v, H2, os2, bare2, un2, hok2, rv, qv⟩ := hq'
      have ev := vnon v H2 qv
      subst ev
      exact ⟨rv, done u .non H2 s' rv qv kk os2 bare2 un2 hok2 rv⟩
    | next => exact False.elim hq'
    | brk => exact False.elim hq'
    | cont => exact False.elim hq'
theorem pmkB {CX : CXT} {x : Str} {C fI : Addr} {k : Nat} {fd : FuncData} {ps : List Str} {sp : Sp} {ds : List Value} {dvs : List V} (T : OexB X.K C) (iC : PySem.W.findIn X.K (.ref C) "__init__" = some (some (.ref fI))) (tI : PySem.W.typeIn X.K (.ref fI) = some (.type "function"))
    (F1 : FnOk X.prog X.w X.K X.mg X.base CX k fI fd ps sp) (hr : Room (k + 1) X.A) (hb : Binds X.K fd ps ds) (hd : Vals dvs ds) (hx : Passes CX X (fun _ _ _ => False)) (hg : Gl X x) (hm : X.mg x = some (.ref C)) (ha : PA X (e :: es) ta)
    (hdb : (x == ("__debug__" : Str)) = false := by decide) (he : starEach (e :: es) X.env = (false, eval e X.env) :: starEach es X.env := by rfl) (hpl : (backTo pos (starEach es X.env)).any (·.1) = false := by rfl) :
    PMk X (.Call (.Name x p) (e :: es) [] pos) (tMkO C sp dvs ta) := by
  intro pins s σ H Q I h
  obtain ⟨B, newId, initId, tl, Bb, T0⟩ := id T
  refine wpAny_Call_Name_kw (ld_glob I hg hm ?_ hdb)
  refine PySem.W.callWith_K (h₀ := X.base) I.ok.mod.kin T0.kC (thn (ha.run pos pins s σ H _ I h) fun us s1 ⟨vs, H1, I1, r1, hz, q1⟩ => ⟨I1.kIn, ?_⟩) he hpl
  show wpAny _ _ (call (.ref C) us) _ _ _
  obtain ⟨hp, g, dr, tk, os⟩ := s1
  have hsz : hp.objs.size ≤ hp.objs.size + 1 := Nat.le_succ _
  refine mkB_call T iC tI F1 hr hb hd I1 r1 hz (q1 (hp.objs.size + 1) (I1.hok.fresh hsz)) hx (fun u v H2 s' rv qv kk os2 bare2 un2 hok2 eu => ?_) fun v H2 qv => qv.1
  obtain ⟨ev, d, fs, ea, ed, hd1, q2⟩ := qv
  obtain ⟨h2, g2, d2, t2, os'⟩ := s'
  exact mk_end (raises_own T0.exC T0.tyC) I1 hsz kk un2 hok2 os2 bare2 ea ed hd1 q2
end
end DV

set_option Elab.async false
set_option linter.all false
set_option maxRecDepth 100000
set_option maxHeartbeats 1000000
/-! ExA: an own exception's __init__ that says super().__init__(text). -/
namespace DV
open PySem PySem.Spec PyProof.Rows L2 NdefX

/-- what the written part says of the class C and of its __init__ at f -/
structure SupC (P : Program) (K : PySem.W.Frag) (B initId : String) (C f : Addr) (F : NF) (slf : Str) : Prop where
  fn : ∃ oc od doc pm ctv osl, K.lookup f = some ⟨oc, od, .func (F.fd doc pm ctv), osl⟩
  first : ∃ ar : Arg, (F.params.posonlyargs ++ F.params.args).head? = some ar ∧ ar.arg = slf
  code : ∃ ccl cdd vs ccs file tf, K.lookup F.c = some ⟨ccl, cdd, .fields vs, ccs⟩ ∧ vs[2]? = some (.str file tf) ∧ ((P.main.file : Str) == file) = true
  cell : ∃ cc, F.cl = [(("__class__" : Str), cc)] ∧ ∃ cl cld csl, K.lookup cc = some ⟨cl, cld, .cell (some (.ref C)), csl⟩
  sup : PySem.W.ks_superIn K C C "__init__" = some (some (.builtin initId))
  sub : PySem.W.subIn K (.ref C) (.type B) = some true
  mro : PySem.W.mroIn K C (.ref C) = some true
  opq : PySem.W.nsIn K cStatics "thirdparty.any" = some none
  top : (P.main.scope.names.lookup ("super" : Str)).isSome = false
  ks : F.scope.names.lookup ("super" : Str) = some NameKind.globalImplicit
  kc : F.scope.names.lookup ("__class__" : Str) = some NameKind.free
  ka : F.scope.names.lookup slf = some NameKind.local

/-- super().__init__(text), as a statement -/
def supSt (p0 p1 p2 p3 p4 cp : Pos) (txt : Str) (j : Nat) : Stmt := .Expr (.Call (.Attribute (.Call (.Name "super" p0) [] [] p1) "__init__" p2) [.Constant (.str txt) j cp] [] p3) p4
section
variable {X : Cx} {pins : List (Addr × Obj)} {σ : L2.St} {H : Hp} {s : Shared} {a C f L : Addr} {F : NF} {self : Str} {p0 p1 p2 p3 p4 cp : Pos} {txt : Str} {j : Nat} {B newId initId : String} {tl : List Value}
theorem sup_first (Bb : BaseB B newId initId tl) (S : SupC X.prog X.K B initId C f F self) (T : OexG X.K C newId tl) (hE : X.env = envF F f L) (hm : X.mg "super" = none) (I : Inv X pins σ H s) (hN : X.N[0]? = some self) (h0 : σ[0]? = some (some (.ref a))) (ea : H a = some (exo a C none)) {pl : Sem Bool}
    (he : eval (.Call (.Attribute (.Call (.Name "super" p0) [] [] p1) "__init__" p2) [.Constant (.str txt) j cp] [] p3) X.env = (do
      let ov ← attributeBase (.Call (.Name "super" p0) [] [] p1) "__init__" X.env (eval (.Call (.Name "super" p0) [] [] p1) X.env)
      standAt p2.atName
      let (f, first) ← holding [ov] (getMethod ov "__init__" pl)
      callWith p3 f first (backTo p3 (starEach [.Constant (.str txt) j cp] X.env)) [])) :
    PySem.wpAt (model X.prog X.w) X.A (.func F.body X.env) (exec (supSt p0 p1 p2 p3 p4 cp txt j) X.env) (fun fl s' => fl = .next ∧ Inv X pins σ H s') X.xe s := by
  obtain ⟨oc, od, doc, pm, ctv, osl, hf⟩ := S.fn
  obtain ⟨ar, hp, har⟩ := S.first
  obtain ⟨ccl, cdd, vs, ccs, file, tf, hcode, hvs, hfile⟩ := S.code
  obtain ⟨cc, hcl, cl', cld, csl, hcell⟩ := S.cell
  obtain ⟨nm, q, N, bs, bm, sn, sub, ab, col, dd, k0, k1, k2, k3, k5, hC, hbm⟩ := T.cls
  have hcls : PySem.W.clsIn X.K C = some { name := nm, bases := bs, mro := .ref C :: bm, ns := N, qualname := q, hasDict := true, slotNames := sn, subclasses := sub, abstract := ab, collection := col, hasDel := false } := by unfold PySem.W.clsIn; rw [hC] <;> rfl
  have ek : ∀ y, X.env.kindOf y = F.scope.names.lookup y := fun y => by rw [hE]; rfl
  have kK := I.kIn
  obtain ⟨mb, hb1, hb2⟩ := I.mod.blt
  obtain ⟨t1, ho⟩ := exo_at I.hok ea
  obtain ⟨m, hns, hl⟩ := id I.loc
  obtain ⟨u, ru, hlk⟩ := hl 0 self (.ref a) hN h0 (.inl (by rw [hE]; exact S.ka))
  obtain rfl : u = Value.ref a := ru
  have hself : m self = some (.ref a) := by
    rcases hlk with ⟨_, e⟩ | ⟨e, _⟩
    · exact e
    · rw [ek, S.ka] at e
      rcases e with e | e <;> cases e
  obtain ⟨hp', g, d, t, os⟩ := s
  refine PySem.ks_wpAt_Expr_any (PySem.ks_wpAt_MethodCall (pl := pl) ?_ he) I.quiet rfl
  refine PySem.ks_wpAt_super_base (f := f) (cc := F.c) (fd := F.fd doc pm ctv) (by rw [ek]; exact S.ks) (by rw [ek]; exact S.kc) (by decide) (by rw [hE]) (kK _ _ hf) rfl hp (by rw [hE]) (kK _ _ hcode) rfl hvs hfile S.top ?_
  refine PySem.W.ks_loadName_global I.ok.kind (by rw [ek]; exact S.ks) (Calls.loadGlobal_builtin (by rw [I.ok.glob]; exact I.mod.glob.keeps I.bk) hm (by rw [I.ok.blt]; exact hb1.keeps I.bk) ((hb2 _ (by decide)).trans (show bootBuiltins "super" = some (.type "super") by boot_by_name)) ⟨rfl, ?_⟩)
  refine wpAny_loadName_free I.ok.kind (by rw [ek]; exact S.kc) (by rw [hE]; show F.cl.lookup _ = some cc; rw [hcl]; rfl) ⟨_, kK _ _ hcell, rfl⟩ ?_
  rw [har]
  refine wpAny_loadName_local I.ok.kind (by rw [ek]; exact S.ka) hns hself ?_
  refine PySem.ks_wpAny_isType_cls (kK _ _ hC) rfl ⟨rfl, ?_⟩
  refine PySem.ks_wpAny_call_super (kK _ _ hC) rfl ho rfl (fun c e => by cases e) (PySem.W.looks_mroIn kK S.mro) (fun h' e k => ?_)
  have I2 : Inv X pins σ H ⟨h', g, d, t, os⟩ := I.kept (t' := t) k
  have hI : PySem.W.Looks (model X.prog X.w) h' (isInstance (.ref a) (.type B)) true := (PySem.W.InstAt.type (h := h') (ox := { cls := .ref C, dict := none, data := .fields #[.ref t1, .none, .none, .none, .bool false, .none] }) (od := none) ⟨k _ _ ho, rfl, rfl, trivial⟩).andThen (PySem.W.looks_subIn I2.kIn S.sub)
  have hne : a ≠ C := fun z => by
    have := kK _ _ hC
    rw [← z, ho] at this
    cases this
  have hsup : PySem.W.alongIn X.K "__init__" (((Value.ref C :: bm).dropWhile (· != .ref C)).drop 1) = some (some (.builtin initId)) := by
    have := S.sup
    unfold PySem.W.ks_superIn at this
    rw [hcls] at this
    exact this
  refine PySem.W.kxs_getMethod Bb.kx e (PySem.W.looks_opaque I2.kIn S.opq) (l₀ := .ref C :: bm) (fun A Q E s k q => wpAny_bind ((PySem.W.looks_clsIn I2.kIn hcls) A _ E s k (wpAny_pure q))) rfl I2.kIn hsup hI hne (by decide) ?_
  have I3 : Inv X pins σ H ⟨h'.push (PySem.W.kxs_mw initId a), g, d, t + 1, os⟩ := I2.kept (t' := t + 1) (fun b u q => Heap.get?_push_of_some _ q)
  have hu : (h'.push (PySem.W.kxs_mw initId a)).get? h'.objs.size = some (PySem.W.kxs_mw initId a) := Heap.get?_push_size _ rfl
  refine PySem.W.kxs_callWith (i := initId) (x := a) rfl ?_
  show wpAny _ _ (evalArgs (.ref h'.objs.size) true ((false, eval (.Constant (.str txt) j cp) X.env) :: []) []) _ _ _
  refine Calls.evalArgs_plain (Calls.spliced_cons (Calls.Constant_str (Calls.spliced_nil ⟨hu, ?_⟩)))
  show wpAny _ _ (call (.ref h'.objs.size) [_]) _ _ _
  have ho3 : (h'.push (PySem.W.kxs_mw initId a)).get? a = some ({ cls := .ref C, dict := none, data := .fields #[.ref t1, .none, .none, .none, .bool false, .none] } : Obj) := Heap.get?_push_of_some _ (k _ _ ho)
  refine wpAny_call (codeAny_of_tree ?_)
  show wpAny _ _ (callAny (.ref h'.objs.size) ⟨[_], []⟩) _ _ _
  simp only [callAny]
  refine wpAny_bind (wpAny_load hu ?_)
  simp only [PySem.W.kxs_mw, show (Value.type "method-wrapper" == Value.type "method" || Value.type "method-wrapper" == Value.type "builtin_function_or_method" || Value.type "method-wrapper" == Value.type "method-wrapper") = true by decide, if_true]
  refine PySem.W.KFB.if_so (by decide) ?_
  refine wpAny_bind (PySem.W.check_bound_init Bb.base.toExcCallFacts (I3.kIn _ _ hC) ho3 rfl ?_)
  refine wpAny_bind (wpAny_pure (wpAny_pure ?_))
  refine ⟨plainId_quiet Bb.base.init.plain _, codeAny_builtin Bb.base.initEntry ?_⟩
  refine PySem.W.exc_init_tree (cls := .ref C) (t0 := t1) (dv := none) (c2 := .none) (c3 := .none) (b4 := .bool false) ho3 (by show 1 ≤ sizeLine; have := sz1000; omega) (fun h4 k4 hx _ => ?_)
  have J := I3.write (h' := h4) (t' := t + 1 + 1) (x := a) (e := a) (o := exo a C none) (by rw [ea]; exact True.intro) (.inl rfl) k4 ⟨_, hx⟩ (exo_ok hx)
  have eu : upd H a (exo a C none) = H := by
    funext b
    by_cases hb : b = a
    · rw [hb, upd_same, ea]
    · rw [upd_ne hb]
  rw [eu] at J
  exact ⟨trivial, J⟩
end
/-- __init__ by its statements behind super().__init__ -/
theorem supOk {P : Program} {w : World} {K : PySem.W.Frag} {mg : Str → Option Value} {base : Heap} {N ps' : List Str} {C f : Addr} {F : NF} {slf : Str} {k : Nat} {oc : Value} {od : Option Addr} {doc pm ctv : Value} {osl : Array (Option Value)} {p0 p1 p2 p3 p4 cp : Pos} {txt : Str} {j : Nat} {rest : List Stmt} {tr : TS} {pl : PySem.Env → Sem Bool}
    {B newId initId : String} {tl : List Value} (Bb : BaseB B newId initId tl) (S : SupC P K B initId C f F slf) (T : OexG K C newId tl) (hfd : K.lookup f = some ⟨oc, od, .func (F.fd doc pm ctv), osl⟩) (NS : NScope N (slf :: ps') ["__class__"] F.scope) (hm : mg "super" = none) (hcd : PySem.W.codeIn K (.ref F.c) F.qual = true) (hbody : F.body = supSt p0 p1 p2 p3 p4 cp txt j :: rest)
    (he : ∀ env : PySem.Env, eval (.Call (.Attribute (.Call (.Name "super" p0) [] [] p1) "__init__" p2) [.Constant (.str txt) j cp] [] p3) env = (do
      let ov ← attributeBase (.Call (.Name "super" p0) [] [] p1) "__init__" env (eval (.Call (.Name "super" p0) [] [] p1) env)
      standAt p2.atName
      let (f, first) ← holding [ov] (getMethod ov "__init__" (pl env))
      callWith p3 f first (backTo p3 (starEach [.Constant (.str txt) j cp] env)) []))
    (hrest : ∀ (A : Around) (outer : List PySem.Env) (s : Shared) (H : Hp) (E : XK), PSs (ncx (L2.CX P w) P w K mg base N F f A outer s H E) rest tr) :
    FnOk P w K mg base (L2.CX P w) (k + 1) f (F.fd doc pm ctv) (slf :: ps') (fun vs H Q E => vs.length = (slf :: ps').length ∧ ∃ a ws, vs = .ref a :: ws ∧ H a = some (exo a C none) ∧ tr { nx := fun _ H' => Q .non H', rt := Q } (startF N vs [some (.ref C)]) H) := by
  refine ⟨fun vs H Q E h => h.1, fun A outer s H args us vs Q E hr e0 hb r hsp => ?_⟩
  obtain ⟨hl, a, ws, ev, ea, ht⟩ := hsp
  have KX : K.In s.heap := e0.mod.kin.keeps (fun b o e => (e0.bs b o e).1)
  have lim : s.heap.NoLimit := e0.mod.nolimit.keeps fun b o e => (e0.bs b o e).1
  refine codeAny_call_function hr.depth (KX _ _ hfd) rfl NS.co NS.gen rfl (PySem.W.codeRec_of KX hcd) (hb _ _ _ _ ?_)
  refine wpAny_newFunctionEnv NS.nocell (fun ⟨n, _⟩ hy => NS.par n (List.of_mem_zip hy).1) (fun h₁ hns hsb => ⟨lim.fresh _ hsb, ?_⟩) NS.kind
  show codeAny _ _ (.func F.body (envF F f s.heap.objs.size)) _ _
  refine ks_codeAny_funcAt ?_
  have kp : ∀ b o, s.heap.get? b = some o → h₁.get? b = some o := fun b o e => hsb.extBut b o (Nat.ne_of_lt (Heap.lt_size e)) (Heap.get?_push_of_some _ e)
  obtain ⟨cc, hcl, cl', cld, csl, hcell⟩ := S.cell
  have CA : CellsAt F.cl ["__class__"] [some (.ref C)] s.heap H := by
    have look : ∀ y c, F.cl.lookup y = some c → y = "__class__" ∧ c = cc := fun y c e => by
      rw [hcl] at e
      by_cases q : y = ("__class__" : Str)
      · subst q
        refine ⟨rfl, ?_⟩
        have : ([(("__class__" : Str), cc)] : List (Str × Addr)).lookup ("__class__" : Str) = some cc := rfl
        rw [this] at e
        exact (Option.some.inj e).symm
      · have : ([(("__class__" : Str), cc)] : List (Str × Addr)).lookup y = none := by
          have q2 : (y == ("__class__" : Str)) = false := by simpa using q
          simp [List.lookup, q2]
        rw [this] at e
        cases e
    refine ⟨rfl, fun y c e => ?_, fun x y c e1 e2 => ?_, fun i y hi => ?_⟩
    · obtain ⟨_, rfl⟩ := look y c e
      exact ⟨(e0.bs _ _ (e0.mod.kin _ _ hcell)).2, _, ⟨_, KX _ _ hcell, rfl⟩⟩
    · rw [(look x c e1).1, (look y c e2).1]
    · cases i with
      | zero =>
        cases hi
        refine ⟨cc, by rw [hcl]; rfl, fun v hv => ?_⟩
        cases hv
        exact ⟨.ref C, rfl, ⟨_, KX _ _ hcell, rfl⟩⟩
      | succ i => cases hi
  let X : Cx := ncx (L2.CX P w) P w K mg base N F f A outer s H E
  have I : Inv X [] (startF N vs [some (.ref C)]) H { s with heap := h₁, toks := s.toks + ((slf :: ps').zip us).length } := inv_startN NS hr.hd e0 hl r CA hns kp
  have hN : X.N[0]? = some slf := by
    have h1 := NS.pre
    have h2 : (N.take ((slf :: ps').length + [("__class__" : Str)].length))[0]? = some slf := by
      rw [h1]
      rfl
    rw [List.getElem?_take_of_lt (by simp)] at h2
    exact h2
  have h0 : (startF N vs [some (.ref C)])[0]? = some (some (.ref a)) := by
    rw [ev]
    rfl
  rw [show execs F.body (envF F f s.heap.objs.size) = execs (supSt p0 p1 p2 p3 p4 cp txt j :: rest) (envF F f s.heap.objs.size) by rw [hbody]]
  refine ks_wpAt_execs_cons (ks_wpAt_mono (sup_first (X := X) (C := C) (f := f) (L := s.heap.objs.size) Bb S T rfl hm I hN h0 ea (he _)) (fun fl s1 hJ => ?_) fun e s' h => h)
  obtain ⟨rfl, J⟩ := hJ
  refine PySem.wpAt_of_wpAny ?_
  refine wpAny_mono ((hrest A outer s H E).run [] _ _ H _ J ht) (fun fl s' hs => ?_) fun e s' hs => hs
  have fin : ∀ {σ' : L2.St} {H' : Hp} {v : V} {u : Value}, Inv X [] σ' H' s' → L2.RelV v u → Q v H' → CE outer P w H s Q u s' :=
    fun {σ' H' v u} J rv q => ⟨v, H', J.os, J.bare, J.base, J.hok, rv, q⟩
  cases fl with
  | ret u =>
    obtain ⟨v, σ', H', J, rv, q⟩ := hs
    exact fin J rv q
  | next =>
    obtain ⟨σ', H', J, q⟩ := hs
    exact fin (v := V.non) (u := Value.none) J rfl q
  | brk =>
    obtain ⟨_, _, _, q⟩ := hs
    exact False.elim q
  | cont =>
    obtain ⟨_, _, _, q⟩ := hs
    exact False.elim q
end DV

set_option Elab.async false
set_option linter.all false
set_option maxRecDepth 100000
set_option maxHeartbeats 1000000
/-! ExB: raise C(e, ..), C an own exception class whose __init__ says super().__init__(text) and keeps its arguments under names. -/
namespace DV
open PySem PySem.Spec PyProof.Rows L2 NdefX
/-- self.f = .., in turn, from the slot i on -/
def trF (K : PySem.W.Frag) : List Str → Nat → TS
  | [], _ => tNext
  | f :: r, i => tSeq (tStoB K f (tVar 0) (tVar i)) (trF K r (i + 1))
theorem upd_id {H : Hp} {a : Addr} {o : HO} (h : H a = some o) : upd H a o = H := by
  funext b
  by_cases hb : b = a
  · rw [hb, upd_same, h]
  · rw [upd_ne hb]
theorem upd_swap {H : Hp} {a b : Addr} {o u : HO} (h : a ≠ b) : upd (upd H a o) b u = upd (upd H b u) a o := by
  funext c
  by_cases h1 : c = b
  · subst h1
    rw [upd_same, upd_ne (Ne.symm h), upd_same]
  · by_cases h2 : c = a
    · subst h2
      rw [upd_ne h1, upd_same, upd_same]
    · rw [upd_ne h1, upd_ne h2, upd_ne h2, upd_ne h1]
section
variable {K : PySem.W.Frag} {C a dx : Addr} {σ : L2.St} {D : Ends}
theorem trF_old (T : OexB K C) (h0 : σ[0]? = some (some (.ref a))) (hne : dx ≠ a) : ∀ (ns : List Str) (i : Nat) (vs : List V) (H : Hp) (gs : List (Str × V)), H a = some (exo a C (some dx)) → H dx = some (exd dx gs) → (∀ f ∈ ns, PySem.W.findIn K (.ref C) f = some none) →
    vs.length = ns.length → (∀ j v, vs[j]? = some v → σ[i + j]? = some (some v)) → gs.length + ns.length ≤ 900 → D.nx σ (upd H dx (exd dx ((ns.zip vs).reverse ++ gs))) → trF K ns i D σ H
  | [], i, vs, H, gs, ha, hd, _, _, _, _, q => by
    rw [show (([] : List Str).zip vs).reverse ++ gs = gs from rfl, upd_id hd] at q
    exact q
  | f :: ns, i, [], H, gs, _, _, _, hl, _, _, _ => by cases hl
  | f :: ns, i, v :: vs, H, gs, ha, hd, hf, hl, hv, hz, q => by
    rw [List.length_cons] at hz
    refine ⟨v, hv 0 v rfl, .ref a, h0, a, C, rfl, T, hf f List.mem_cons_self, .inr ⟨dx, gs, ha, hd, by omega, ?_⟩⟩
    refine trF_old T h0 hne ns (i + 1) vs (upd H dx (exd dx ((f, v) :: gs))) ((f, v) :: gs) (by rw [upd_ne (Ne.symm hne)]; exact ha) upd_same (fun g hg => hf g (List.mem_cons_of_mem _ hg)) (by simpa using hl) (fun j w hw => ?_) (by rw [List.length_cons]; omega) ?_
    · have := hv (j + 1) w (by simpa using hw)
      rw [show i + (j + 1) = i + 1 + j by omega] at this
      exact this
    · rw [upd_upd]
      rw [List.zip_cons_cons, List.reverse_cons, List.append_assoc] at q
      exact q
theorem trF_new (T : OexB K C) (h0 : σ[0]? = some (some (.ref a))) {ns : List Str} {i : Nat} {vs : List V} {H : Hp} (hn : ns ≠ []) (ha : H a = some (exo a C none)) (hf : ∀ f ∈ ns, PySem.W.findIn K (.ref C) f = some none) (hl : vs.length = ns.length)
    (hv : ∀ j v, vs[j]? = some v → σ[i + j]? = some (some v)) (hz : ns.length ≤ 900) (q : ∀ dx, H dx = none → dx ≠ a → D.nx σ (upd (upd H dx (exd dx (ns.zip vs).reverse)) a (exo a C (some dx)))) : trF K ns i D σ H := by
  cases ns with
  | nil => exact absurd rfl hn
  | cons f ns =>
    cases vs with
    | nil => cases hl
    | cons v vs =>
      rw [List.length_cons] at hz
      refine ⟨v, hv 0 v rfl, .ref a, h0, a, C, rfl, T, hf f List.mem_cons_self, .inl ⟨ha, fun dx hd hne => ?_⟩⟩
      refine trF_old T h0 hne ns (i + 1) vs _ [(f, v)] upd_same (by rw [upd_ne hne]; exact upd_same) (fun g hg => hf g (List.mem_cons_of_mem _ hg)) (by simpa using hl) (fun j w hw => ?_) (by simp; omega) ?_
      · have := hv (j + 1) w (by simpa using hw)
        rw [show i + (j + 1) = i + 1 + j by omega] at this
        exact this
      · have := q dx hd hne
        rw [List.zip_cons_cons, List.reverse_cons] at this
        rw [upd_swap (Ne.symm hne), upd_upd]
        exact this
end
/-- the promise of such an __init__ -/
def supSp (K : PySem.W.Frag) (N : List Str) (C : Addr) (ns : List Str) : Sp := fun vs H Q E => vs.length = ns.length + 1 ∧ ∃ a ws, vs = .ref a :: ws ∧ H a = some (exo a C none) ∧ trF K ns 1 { nx := fun _ H' => Q .non H', rt := Q } (startF N vs [some (.ref C)]) H
/-- an exception class that may be raised by the module's name x -/
structure CalX (P : Program) (w : World) (K : PySem.W.Frag) (mg : Str → Option Value) (base : Heap) (ct : String → Addr) (x : Str) (c : String) (ns : List Str) : Prop where
  oex : OexB K (ct c)
  mg_ : mg x = some (.ref (ct c))
  nof : ∀ f ∈ ns, PySem.W.findIn K (.ref (ct c)) f = some none
  some_ : ns ≠ []
  few : ns.length ≤ 900
  ex : ∃ fI fd ps N, PySem.W.findIn K (.ref (ct c)) "__init__" = some (some (.ref fI)) ∧ PySem.W.typeIn K (.ref fI) = some (.type "function") ∧ Binds K fd ps [] ∧ FnOk P w K mg base (L2.CX P w) 1 fI fd ps (supSp K N (ct c) ns)
def sRaise (c : String) (ns : List Str) (fl : AF) : SF := fun ro A => (fl ro A).then ro fun ds A1 => if ds.length = ns.length then .err (.own c) (ns.zip ds).reverse ro A1 else .stk
theorem DRs.len {K : PySem.W.Frag} {ct : String → Addr} {io : Io} {H : Hp} {vs : List V} {ds : List D} (h : DRs K ct io H vs ds) : vs.length = ds.length := h.length
section
variable {X : Cx} {ct : String → Addr} {W : WX} {x : Str} {c : String} {ns : List Str} {p pos rpos : Pos} {e : Expr} {es : List Expr} {fl : AF}
theorem psd_raise (cx : CalX X.prog X.w X.K X.mg X.base ct x c ns) (hr : Room 2 X.A) (hc : X.calm = true) (tk : Takes X W) (hg : Gl X x) (ha : PDa X ct W (e :: es) fl)
    (hdb : (x == ("__debug__" : Str)) = false := by decide) (he : starEach (e :: es) X.env = (false, eval e X.env) :: starEach es X.env := by rfl) (hpl : (backTo pos (starEach es X.env)).any (·.1) = false := by rfl) :
    PSD X ct W (.Raise (some (.Call (.Name x p) (e :: es) [] pos)) none rpos) (sRaise c ns fl) := by
  obtain ⟨fI, fd, ps, N, h1, h2, hb, F1⟩ := cx.ex
  refine ps_mono (ps_raise hc tk (pmkB (dvs := []) cx.oex h1 h2 F1 hr hb .nil (passes_call tk fun _ _ _ _ z => z.elim) hg cx.mg_ ha hdb he hpl)) fun Z σ H ⟨io, A, ro, s, q⟩ => ?_
  refine ⟨io, A, ro, s, (Post.then (rep := DRs X.K ct) s q).mono fun vs H1 ⟨io1, A1, ds, e1, s1, rs, q1⟩ => ?_⟩
  split at q1
  · rename_i hl
    have hlv : vs.length = ns.length := rs.length.trans hl
    have hfew := cx.few
    refine ⟨by omega, fun a na => ⟨by rw [List.append_nil, List.length_cons, hlv], a, vs, by rw [List.append_nil], upd_same, ?_⟩⟩
    rw [List.append_nil]
    refine trF_new cx.oex (a := a) rfl cx.some_ upd_same cx.nof hlv (fun j v hv => ?_) cx.few fun d hd hne => ⟨rfl, d, (ns.zip vs).reverse, upd_same, by rw [upd_ne hne]; exact upd_same, by rw [upd_ne hne] at hd; exact hd, ?_⟩
    · unfold startF
      rw [List.getElem?_append_left (by rw [List.length_map, List.length_cons]; have := (List.getElem?_eq_some_iff.mp hv).1; omega), List.getElem?_map, show 1 + j = j + 1 by omega, List.getElem?_cons_succ, hv]
      rfl
    · have hd1 : H1 d = none := by rw [upd_ne hne] at hd; exact hd
      have eH : upd (del (upd (upd (upd H1 a (exo a (ct c) none)) d (exd d (ns.zip vs).reverse)) a (exo a (ct c) (some d))) a) d (.xd (ns.zip vs).reverse) = upd H1 d (.xd (ns.zip vs).reverse) := by
        funext b
        by_cases hbd : b = d
        · rw [hbd, upd_same, upd_same]
        · rw [upd_ne hbd, upd_ne hbd]
          by_cases hba : b = a
          · rw [hba, del_same, na]
          · rw [del_ne hba, upd_ne hba, upd_ne hbd, upd_ne hba]
      rw [eH]
      refine q1 (.ref (ct c)) (some d) σ io1 (upd H1 d (.xd (ns.zip vs).reverse)) (Ext.laid hd1) ⟨s1.hr.laid hd1, s1.env.mono (Ext.laid hd1) s1.hr.noT⟩ ⟨rfl, .inr ⟨d, (ns.zip vs).reverse, rfl, s1.hr.ne hd1, upd_same, ?_, ?_⟩⟩
      · rw [List.map_reverse, List.map_reverse, List.map_fst_zip (by omega), List.map_fst_zip (by omega)]
      · rw [List.map_reverse, List.map_reverse, List.map_snd_zip (by omega), List.map_snd_zip (by omega)]
        exact (rs.laid s1.hr hd1).reverse
  · exact q1.elim
end
end DV

set_option Elab.async false
set_option linter.all false
set_option maxRecDepth 100000
set_option maxHeartbeats 1000000
/-! ExC: try: .. except C as e: .., the caught exception kept as a numbered object. -/
namespace DV
open PySem PySem.Spec PyProof.Rows L2
theorem eo_ok {P : Program} {w : World} {H : Hp} {h : Heap} {a : Addr} {cls : Value} {d : Option Addr} {oe : Obj} {vs : Array Value} (e : h.get? a = some oe) (z : Zc cls d oe) (hd : oe.data = .fields vs) : ObjOk P w H h a (EO cls d a) :=
  ⟨⟨oe, vs, e, z, hd⟩, ⟨oe, e⟩, fun _ _ ⟨o, v, q, r⟩ k => ⟨o, v, k o q, r⟩⟩
theorem eo_own {cls d a x} : EO cls d a ≠ .own x := fun z => by
  have z' : HO.ext _ = HO.own x := z
  cases z'
section
variable {X : Cx} {pins : List (Addr × Obj)} {σ : L2.St} {H : Hp} {s sI : Shared} {a : Addr} {oe : Obj} {vs : Array Value} {cls : Value} {d : Option Addr} {B : Heap}
/-- what was caught is tracked -/
theorem Inv.caught (J : L2.Inv X pins σ H s) (JI : L2.Inv X pins σ H sI) (hex : X.ex = []) (nb : ∀ b o, sI.heap.get? b = some o → b ∉ frs X.stack → B.get? b = some o) (hB : B.get? a = none) (nfr : a ∉ frs X.stack) (nL : a ≠ X.env.locals) (nF : a ∉ X.fs)
    (he : s.heap.get? a = some oe) (hz : Zc cls d oe) (hd : oe.data = .fields vs) (na : H a = none) : L2.Inv X pins σ (upd H a (EO cls d a)) s := by
  have nI : sI.heap.get? a = none := by
    cases e : sI.heap.get? a with
    | none => rfl
    | some o =>
      have := nb a o e nfr
      rw [hB] at this
      cases this
  have n0 : X.s_0.heap.get? a = none := by
    cases e : X.s_0.heap.get? a with
    | none => rfl
    | some o =>
      obtain ⟨o', e'⟩ := JI.base.there a o e (by rw [hex]; exact fun z => nomatch z)
      rw [nI] at e'
      cases e'
  have ne0 : ∀ b o, X.s_0.heap.get? b = some o → b ≠ a := fun b o e z => by rw [z, n0] at e; cases e
  refine ⟨J.ok, J.os, J.bare, ⟨J.base.keep, J.base.slot, fun b o e n hx => ?_, J.base.there, fun b xs q => ?_, fun b o xs q => ?_, fun b ps q => ?_⟩, J.loc, J.cell, ?_, fun x c e => ?_, fun p hp => ?_, fun b u e => ?_, J.len⟩
  · rw [upd_ne (ne0 b o e)]
    exact J.base.free b o e n hx
  · have q' := J.base.tups b xs q
    rw [upd_ne (ne_of_none q' na)]
    exact q'
  · have q' := J.base.frzs b o xs q
    rw [upd_ne (ne_of_none q' na)]
    exact q'
  · obtain ⟨m, q'⟩ := J.base.tbls b ps q
    exact ⟨m, by rw [upd_ne (ne_of_none q' na)]; exact q'⟩
  · rw [upd_ne (Ne.symm nL)]
    exact J.free
  · have hc : c ≠ a := fun z => by
      obtain ⟨v, o, ho, hdc⟩ := J.cell x c e
      rw [z, he] at ho
      cases ho
      rw [hd] at hdc
      cases hdc
    rw [upd_ne hc]
    exact J.freeC x c e
  · obtain ⟨e1, e2, e3, e4, e5⟩ := J.pin p hp
    have hpa : p.1 ≠ a := fun z => by
      have := (JI.pin p hp).1
      rw [z, nI] at this
      cases this
    exact ⟨e1, by rw [upd_ne hpa]; exact e2, e3, e4, e5⟩
  · by_cases hb : b = a
    · subst hb
      rw [upd_same] at e
      cases e
      exact eo_ok he hz hd
    · rw [upd_ne hb] at e
      exact (J.hok b u e).stay (fun c v _ q => q) (fun c q => by rw [upd_ne (ne_of_none q na)]; exact q) fun c xs q => by rw [upd_ne (ne_of_none q na)]; exact q
theorem Inv.suite0 (J : L2.Inv X pins σ H s) : L2.Inv (X.suite a (X.pn ++ pins)) [] σ H s :=
  ⟨J.ok.suite _ _, J.os, J.bare, J.base, J.loc, J.cell, J.free, J.freeC, fun p hp => J.pin p (by rw [List.append_nil] at hp; exact hp), J.hok, J.len⟩
theorem Inv.unsuite0 {pn' : List (Addr × Obj)} (J : L2.Inv (X.suite a (X.pn ++ pins)) pn' σ H s) (ok : X.Ok) : L2.Inv X pins σ H s :=
  ⟨ok, J.os, J.bare, J.base, J.loc, J.cell, J.free, J.freeC, fun p hp => J.pin p (List.mem_append_left _ hp), J.hok, J.len⟩
end
/-- what the clause wishes of an exception of the body -/
def wKeep (K : PySem.W.Frag) (c : Value) (i : Nat) (ts : TS) (Wout : WX) (D : Ends) : WX := fun cls d σ H =>
  ∃ b, PySem.W.exmOne K cls c = some b ∧ (b = true → ∀ a, H a = none → ts { nx := fun σ' H' => D.nx (σ'.set i none) H', rt := D.rt, bk := fun σ' H' => D.bk (σ'.set i none) H', ct := fun σ' H' => D.ct (σ'.set i none) H' } (σ.set i (some (.ref a))) (upd H a (EO cls d a))) ∧
    (b = false → Wout cls d σ H)
section
variable {X : Cx} {x n : Str} {c : Value} {i : Nat} {body suite : List Stmt} {b₀ : Stmt} {np pos pos' : Pos} {tb : WX → TS} {ts : TS} {Wout : WX}
theorem ps_try_keep (hs : X.stack = X.env :: X.outer) (hf : X.env.frame = some X.env.locals) (hex : X.ex = []) (hN : X.N.Nodup) (hi : X.N[i]? = some n) (hln : X.env.kindOf n = some .local) (hc : Names X x c) (tk : Takes X Wout)
    (hb : ∀ (W : WX) (pn : List (Addr × Obj)) (xe : Value → Shared → Prop), Takes (X.tr pn xe) W → PassesOwn (model X.prog X.w) X.A X.env xe → PSs (X.tr pn xe) body (tb W))
    (hsu : ∀ (a : Addr) (pn : List (Addr × Obj)), PSs (X.suite a pn) (b₀ :: suite) ts) :
    PS X (.Try body [.ExceptHandler (some (.Name x np)) (some n) (b₀ :: suite) pos'] [] [] pos) (fun D σ H => tb (wKeep X.K c i ts Wout D) D σ H) := by
  refine ⟨fun pins s σ H D I h => ?_⟩
  have ok := I.ok
  have hfr : X.A.frames = some (X.env :: X.outer) := by rw [ok.frames, hs]
  have hloc : Loc X.env.scope n := .inl hln
  refine wpAny_Try_except ?_
  refine wpAny_mono ((hb (wKeep X.K c i ts Wout D) (X.pn ++ pins) (fun e s₁ => wpAny (model X.prog X.w) X.A (noteFrame e X.env) (fun _ s₂ => wpAny (model X.prog X.w) X.A (setFlight e none) (fun _ s₃ =>
    wpAny (model X.prog X.w) X.A (handleBy e X.env [.ExceptHandler (some (.Name x np)) (some n) (b₀ :: suite) pos']) (SP X pins D) X.xe s₃) X.xe s₂) X.xe s₁) (fun u s' xx => ?_) PassesOwn.looking).run [] s σ H D (I.toTry _) h) (fun f s1 hsp => ?_) (fun e s1 he => he)
  · obtain ⟨a, B, sI, pins', σ', H', cls, d, rfl, J', nb, up, sky, na, os, ag, b, hb1, hyes, hno⟩ := xx
    have J : L2.Inv X pins σ' H' sI := J'.ofTry ok
    have sky' : Sky B (X.env :: X.outer) a (Zc cls d) X.env.locals s'.heap := by rw [← hs]; exact sky
    show wpAny (model X.prog X.w) X.A (noteFrame (.ref a) X.env) _ _ _
    refine Sky.land Zc.steady hfr hf sky' fun h3 fl3 up3 => ?_
    have J3 : L2.Inv X pins σ' H' { s' with heap := h3 } := J.landed nb fl3.1 (up.trans up3) os ag
    obtain ⟨oe3, vs3, he3, hz3, hd3⟩ := fl3.there
    have nfr : a ∉ frs (X.env :: X.outer) := fun hm => by
      obtain ⟨_, o', e', hnf⟩ := fl3.2.2.1.mem hm
      rw [he3] at e'
      cases e'
      exact hnf _ hd3
    have nL : a ≠ X.env.locals := fun z => nfr (List.mem_filterMap.mpr ⟨X.env, List.mem_cons_self, by rw [hf, z]⟩)
    have nF : a ∉ X.fs := fun hm => by
      obtain ⟨e, he, q⟩ := List.mem_filterMap.mp hm
      exact nfr (List.mem_filterMap.mpr ⟨e, List.mem_cons_of_mem _ he, q⟩)
    have S3 := J3.suite he3 hd3 na nL nF
    refine wpAny_handleBy_cons (codeAny_handlers_test ?_) (by intro q; cases q)
    have LT : PySem.W.Looks (model X.prog X.w) h3 (typeOf (.ref a)) cls := fun A Q E s k q => wpAny_typeOf_ref (k _ _ he3) (by rw [hz3.1]; exact q)
    have LM := PySem.W.exm_one (M := model X.prog X.w) (J3.kIn) LT hb1
    have test : ∀ {Q : Value → Shared → Prop} {E : Value → Shared → Prop}, Q c { s' with heap := h3 } → wpAny (model X.prog X.w) (X.A.mark (some (.ref a))) (eval (.Name x np) X.env) Q E { s' with heap := h3 } := fun {Q E} q => by
      obtain ⟨hg, hdbg, hm | ⟨hm, hv, hnn⟩⟩ := hc
      · exact ld_glob (X := X.suite a ((a, oe3) :: (X.pn ++ pins))) S3 hg hm q hdbg
      · exact ld_blt (X := X.suite a ((a, oe3) :: (X.pn ++ pins))) S3 hg hm hv q hnn hdbg
    refine test (LM.here ?_)
    cases b with
    | true =>
      refine codeAny_handlers_suite_as ?_
      refine HandSPX.lands_againZ fl3 fun h4 fl4 up4 => ?_
      have J4 : L2.Inv X pins σ' H' { s' with heap := h4 } := J.landed nb fl4.1 ((up.trans up3).trans up4) os ag
      obtain ⟨oe4, vs4, he4, hz4, hd4⟩ := fl4.there
      have J5 : L2.Inv X pins σ' (upd H' a (EO cls d a)) { s' with heap := h4 } := Inv.caught J4 J hex nb fl4.2.1 (by rw [hs]; exact nfr) nL nF he4 hz4 hd4 na
      have S4 : L2.Inv (X.suite a (X.pn ++ pins)) [] σ' (upd H' a (EO cls d a)) { s' with heap := h4 } := Inv.suite0 J5
      refine store_ok (X := X.suite a (X.pn ++ pins)) (v := .ref a) S4 hN hi hloc rfl (fun s5 S5 => ?_) (.inr hln)
      refine wpAny_mono ((hsu a (X.pn ++ pins)).run [] s5 _ _ _ S5 (hyes rfl a na)) (fun f s6 hsp => ?_) (fun _ _ z => False.elim z)
      have end_ : ∀ {σ6 : L2.St} {H6 : Hp} {Q : Shared → Prop}, L2.Inv (X.suite a (X.pn ++ pins)) [] σ6 H6 s6 → (∀ s7, L2.Inv X pins (σ6.set i none) H6 s7 → Q s7) →
          wpAny (model X.prog X.w) X.A (do bindName X.env n .none; unbindBehindTheSuite X.env n pos') (fun _ s7 => Q s7) X.xe s6 := fun {σ6 H6 Q} S6 hq => gone_ok (Inv.unsuite0 S6 ok) hN hi hln hq
      cases f with
      | next =>
        obtain ⟨σ6, H6, S6, q6⟩ := hsp
        exact end_ S6 fun s7 J7 => ⟨_, _, J7, q6⟩
      | brk =>
        obtain ⟨σ6, H6, S6, q6⟩ := hsp
        exact end_ S6 fun s7 J7 => ⟨_, _, J7, q6⟩
      | cont =>
        obtain ⟨σ6, H6, S6, q6⟩ := hsp
        exact end_ S6 fun s7 J7 => ⟨_, _, J7, q6⟩
      | ret u =>
        obtain ⟨v6, σ6, H6, S6, r6, q6⟩ := hsp
        exact end_ S6 fun s7 J7 => ⟨_, _, _, J7, r6, q6⟩
    | false =>
      show wpAny _ X.A (handleBy (.ref a) X.env []) _ _ _
      refine wpAny_handleBy_nil ?_
      obtain ⟨k1, k2, k3, oe, vs, T, oT, ts', he, hz, hd, h1, hr⟩ := id fl3
      unfold PySem.passOn
      refine wpAny_bind (wpAny_field he hd h1 ?_)
      rw [if_neg (show ¬ ((Value.ref T == Value.none) = true) from by simp)]
      have fin : wpAny (model X.prog X.w) X.A (setFlight (.ref a) X.env.frame) (fun _ s4 => wpAny (model X.prog X.w) X.A (throw (.ref a) : Sem Flow) (SP X pins D) X.xe s4) X.xe { s' with heap := h3 } := by
        rw [hf]
        refine HandSPX.setFlight_upZ fl3 fun h4 hh4 up4 => wpAny_throw (tk _ _ ?_)
        exact ⟨a, B, sI, pins, σ', H', cls, d, rfl, J, nb, (up.trans up3).trans up4, .inr (.inr (by rw [hs]; exact hh4)), na, os, ag, hno rfl⟩
      first
        | exact wpAny_bind (wpAny_pure (wpAny_bind fin))
        | exact wpAny_bind fin
  · cases f with
    | next =>
      obtain ⟨σ', H', J', q⟩ := hsp
      exact wpAny_execs_nil ⟨σ', H', J'.ofTry ok, q⟩
    | brk =>
      obtain ⟨σ', H', J', q⟩ := hsp
      exact ⟨σ', H', J'.ofTry ok, q⟩
    | cont =>
      obtain ⟨σ', H', J', q⟩ := hsp
      exact ⟨σ', H', J'.ofTry ok, q⟩
    | ret u =>
      obtain ⟨v, σ', H', J', r, q⟩ := hsp
      exact ⟨v, σ', H', J'.ofTry ok, r, q⟩
end
end DV

set_option Elab.async false
set_option linter.all false
set_option maxRecDepth 100000
set_option maxHeartbeats 1000000
/-! ExD: try, err.f, isinstance(err, C) by data. -/
namespace DV
open PySem PySem.Spec PyProof.Rows L2
/-! ### try -/
def unsO (i : Nat) (o : Out) : Out := match o with
  | .go f ro A => .go f (ro.set i none) A
  | _ => .stk
def sTry (tb : SF) (mt : Cl → Option Bool) (i : Nat) (ts : SF) : SF := fun ro A => match tb ro A with
  | .err c fs ro1 A1 => match mt c with
    | some true => (match c with
      | .own n => unsO i (ts (ro1.set i (some (.ref A1.length))) (A1 ++ [.exc n fs]))
      | .bi _ => .stk)
    | some false => .err c fs ro1 A1
    | none => .stk
  | o => o
section
variable {K : PySem.W.Frag} {ct : String → Addr} {W W2 : WX} {σ : L2.St} {io io' : Io} {H H' : Hp} {A A' : Hd} {ro : Env} {Z : Ends} {i : Nat}
theorem EnvR.unset (h : EnvR K ct io H ro σ) : EnvR K ct io H (ro.set i none) (σ.set i none) := by
  refine ⟨by rw [List.length_set, List.length_set, h.len], fun j e hj => ?_⟩
  by_cases hij : i = j
  · subst hij
    by_cases hi : i < ro.length
    · rw [List.getElem?_set_self hi] at hj
      cases hj
    · rw [List.getElem?_eq_none (by rw [List.length_set]; omega)] at hj
      cases hj
  · rw [List.getElem?_set_ne hij] at hj
    obtain ⟨w, e1, q⟩ := h.at_ j e hj
    exact ⟨w, by rw [List.getElem?_set_ne hij]; exact e1, q⟩
theorem SPost.uns {o : Out} (h : SPost K ct W io H (unsO i o) Z) : SPost K ct W2 io H o { nx := fun σ' H' => Z.nx (σ'.set i none) H', rt := Z.rt, bk := fun σ' H' => Z.bk (σ'.set i none) H', ct := fun σ' H' => Z.ct (σ'.set i none) H' } := by
  cases o with
  | go f ro A => cases f with
    | nx => exact fun s j h' e q => h (s.set i none) j h' e ⟨q.hr, q.env.unset⟩
    | bk => exact fun s j h' e q => h (s.set i none) j h' e ⟨q.hr, q.env.unset⟩
    | ct => exact fun s j h' e q => h (s.set i none) j h' e ⟨q.hr, q.env.unset⟩
    | ret d => exact h
  | err c fs ro A => exact h.elim
  | stk => exact h.elim
theorem XR.mexc {n : String} {fs : List (Str × D)} {cls : Value} {dd : Option Addr} {a : Addr} (h : HR K ct io H A) (x : XR K ct io H (.own n) fs cls dd) (na : H a = none) : MR K ct (io.add a) (upd H a (EO cls dd a)) a (.exc n fs) := by
  have hc : cls = .ref (ct n) := x.cls
  subst hc
  refine ⟨dd, upd_same, x.fds.imp id ?_⟩
  rintro ⟨p, gs, h1, h2, h3, h4, h5⟩
  exact ⟨p, gs, h1, (Ext.num (o := EO (.ref (ct n)) dd a) na).notin h3 h2, by rw [upd_ne (ne_of_none h3 na)]; exact h3, h4, h5.mono (Ext.num na) h.noT⟩
end
section
variable {X : Cx} {ct : String → Addr} {W : WX} {x n : Str} {c : Value} {i : Nat} {body suite : List Stmt} {b₀ : Stmt} {np pos pos' : Pos} {fb fs : SF} {mt : Cl → Option Bool}
theorem psd_try (hs : X.stack = X.env :: X.outer) (hf : X.env.frame = some X.env.locals) (hex : X.ex = []) (hN : X.N.Nodup) (hi : X.N[i]? = some n) (hln : X.env.kindOf n = some .local) (hc : Names X x c) (tk : Takes X W)
    (hmt : ∀ k b, mt k = some b → PySem.W.exmOne X.K (ClV ct k) c = some b)
    (hb : ∀ (W' : WX) (pn : List (Addr × Obj)) (xe : Value → Shared → Prop), Takes (X.tr pn xe) W' → PassesOwn (model X.prog X.w) X.A X.env xe → PSsD (X.tr pn xe) ct W' body fb)
    (hsu : ∀ (a : Addr) (pn : List (Addr × Obj)), PSsD (X.suite a pn) ct (fun _ _ _ _ => False) (b₀ :: suite) fs) :
    PSD X ct W (.Try body [.ExceptHandler (some (.Name x np)) (some n) (b₀ :: suite) pos'] [] [] pos) (sTry fb mt i fs) := by
  refine ps_mono (ps_try_keep (tb := fun W' => tS X.K ct W' fb) (ts := tS X.K ct (fun _ _ _ _ => False) fs) hs hf hex hN hi hln hc tk hb hsu) fun Z σ H ⟨io, A, ro, s, p⟩ => ⟨io, A, ro, s, ?_⟩
  unfold sTry at p
  cases ho : fb ro A with
  | go f ro1 A1 =>
    rw [ho] at p
    cases f <;> exact p
  | stk =>
    rw [ho] at p
    exact p
  | err k gs ro1 A1 =>
    rw [ho] at p
    intro cls dd σ' io' H' e s' xr
    dsimp only at p
    cases hm : mt k with
    | none =>
      rw [hm] at p
      exact p.elim
    | some b =>
      rw [hm] at p
      have ex := hmt k b hm
      rw [← xr.cls] at ex
      refine ⟨b, ex, fun hb a na => ?_, fun hb => ?_⟩
      · subst hb
        cases k with
        | bi t => exact p.elim
        | own t =>
          have hr2 := s'.hr.num na (XR.mexc s'.hr xr na)
          refine ⟨io'.add a, A1 ++ [.exc t gs], ro1.set i (some (.ref A1.length)), ⟨hr2, EnvR.set (s'.env.mono (Ext.num na) s'.hr.noT) (.ref ?_)⟩, ?_⟩
          · show (io'.nm ++ [a])[A1.length]? = some a
            rw [← s'.hr.len]
            simp
          · have p' := p
            exact SPost.uns (SPost.ext (e.trans (Ext.num na)) p')
      · subst hb
        exact p cls dd σ' io' H' e s' xr
end
/-! ### err.f -/
def gXf (xs : List String) (f : Str) (d : D) (A : Hd) : R D := match d with
  | .ref n => (match A[n]? with
    | some (.exc c fs) => if c ∈ xs then (match fs.lookup f with
      | some v => .ok v A
      | none => .stk) else .stk
    | _ => .stk)
  | _ => .stk
theorem lookup_rel {K : PySem.W.Frag} {ct : String → Addr} {io : Io} {H : Hp} (f : Str) : ∀ {gs : List (Str × V)} {fs : List (Str × D)}, gs.map (·.1) = fs.map (·.1) → DRs K ct io H (gs.map (·.2)) (fs.map (·.2)) → ∀ {d : D}, fs.lookup f = some d → ∃ v, gs.lookup f = some v ∧ DR K ct io H v d
  | [], [], _, _, d, e => by cases e
  | [], _ :: _, h, _, _, _ => by cases h
  | _ :: _, [], h, _, _, _ => by cases h
  | (g, v) :: gs, (f', d') :: fs, h, r, d, e => by
    simp only [List.map_cons, List.cons.injEq] at h
    obtain ⟨h1, h2⟩ := h
    subst h1
    cases r with
    | cons r1 r2 =>
      by_cases q : f = g
      · subst q
        have e1 : d' = d := by simpa [List.lookup] using e
        subst e1
        exact ⟨v, by simp [List.lookup], r1⟩
      · have q2 : (f == g) = false := by simpa using q
        have e1 : fs.lookup f = some d := by simpa [List.lookup, q2] using e
        obtain ⟨w, h3, h4⟩ := lookup_rel f h2 r2 e1
        exact ⟨w, by simpa [List.lookup, q2] using h3, h4⟩
theorem eo_at {P : Program} {w : World} {H : Hp} {h : Heap} {a : Addr} {cls : Value} {d : Option Addr} (hok : HOk P w H h) (e : H a = some (EO cls d a)) : ∃ (oe : Obj) (vs : Array Value), h.get? a = some oe ∧ Zc cls d oe ∧ oe.data = .fields vs := by
  have x : ObjOk P w H h a (.ext fun h => ∃ (oe : Obj) (vs : Array Value), h.get? a = some oe ∧ Zc cls d oe ∧ oe.data = .fields vs) := hok a _ e
  exact x.1
section
variable {X : Cx} {ct : String → Addr} {W : WX} {e : Expr} {fa : EF} {f : Str} {pos : Pos} {xs : List String}
theorem pd_xf (hT : ∀ c ∈ xs, XfC X.K (ct c) ∧ PySem.W.findIn X.K (.ref (ct c)) f = some none) (he : PD X ct W e fa) (hb : attributeBase e f X.env (eval e X.env) = eval e X.env := by rfl) : PD X ct W (.Attribute e f pos) (eUn (gXf xs f) fa) := by
  refine ⟨fun pins s σ H Q I ⟨io, A, ro, st, p⟩ => ?_⟩
  refine attr_of hb (thn (he.run pins s σ H _ I ⟨io, A, ro, st, p.bind (rep := DR X.K ct)⟩) fun u s1 ⟨v, H1, I1, rv, io1, A1, d, e1, h1, r1, p1⟩ => ?_)
  unfold gXf at p1
  split at p1
  · rename_i n
    split at p1
    · rename_i c fs hm
      split at p1
      · rename_i hc
        split at p1
        · rename_i dv hl
          cases r1 with
          | @ref a _ q =>
            obtain rfl : u = Value.ref a := rv
            obtain ⟨dd, e2, z⟩ := h1.get q hm
            obtain ⟨T, hno⟩ := hT c hc
            rcases z with rfl | ⟨pp, gs, g1, g2, g3, g4, g5⟩
            · cases hl
            · subst g1
              obtain ⟨oe, vs, ho, hz, hd⟩ := eo_at I1.hok e2
              obtain ⟨w, l1, rw1⟩ := lookup_rel f g4 g5 hl
              have hx : ObjOk X.prog X.w H1 s1.heap pp (.xd gs) := I1.hok pp _ g3
              obtain ⟨mA, hns, hr⟩ := hx
              obtain ⟨od, ho2, hl2⟩ := lookIn_ns hns
              obtain ⟨u, hu, ru⟩ := RelO.some_of (v := w) (o := mA f) (by rw [← l1]; exact hr f)
              have J : PySem.W.InstAt s1.heap a oe (ct c) (some od) := ⟨ho, hz.1, by unfold PySem.W.notCls; rw [hd] <;> rfl, by rw [hz.2]; exact ho2⟩
              exact HandSPX.exc_get I1.kIn J T.ga T.gg T.exC (PySem.W.findObj_own T.hdC hno rfl (by rw [hl2, hu])) (handed_of ru) ⟨w, H1, I1.tok _, ru, p1.here h1 rw1⟩
        · exact p1.elim
      · exact p1.elim
    · exact p1.elim
  · exact p1.elim
end
/-! ### isinstance(err, C) -/
def gIsaX (xs : List String) (sb : String → Cl → Option Bool) (ds : List D) (A : Hd) : R D := match ds with
  | [.ref n, .cls k] => (match A[n]? with
    | some (.exc c (_ :: _)) => if c ∈ xs then (match sb c k with
      | some b => .ok (.bl b) A
      | none => .stk) else .stk
    | _ => gIsa ds A)
  | _ => gIsa ds A
/-- what the classes must say -/
structure IsT (K : PySem.W.Frag) (ct : String → Addr) (xs : List String) (sb : String → Cl → Option Bool) : Prop where
  cls : ∀ c ∈ xs, L2.ExcC K (ct c)
  sub : ∀ c k b, sb c k = some b → PySem.W.kitOne K (.ref (ct c)) (ClV ct k) = some b
def rIsX (K : PySem.W.Frag) : List V → Hp → VK → Prop := fun xs H Q => rIsi K xs H Q ∨ ∃ (a C : Addr) (dx : Addr) (fs : List (Str × V)) (c : V) (cv : Value) (b : Bool), xs = [.ref a, c] ∧ H a = some (EO (.ref C) (some dx) a) ∧ H dx = some (.xd fs) ∧ L2.ExcC K C ∧ (∀ u, RelV c u → u = cv) ∧ PySem.W.kitOne K (.ref C) cv = some b ∧ Q (.bl b) H
theorem call_isX {X : Cx} : CallR X (.builtin "isinstance") (rIsX X.K) := by
  intro pins s σ H xs us Q I r h
  rcases h with h | ⟨a, D, dx, fs, c, cv, b, rfl, ha, hdx, C, hcv, e, q⟩
  · exact call_isi pins s σ H xs us Q I r h
  · cases r with
    | cons rx rr =>
      cases rr with
      | cons rt rr =>
        cases rr
        cases rx
        have ec := hcv _ rt
        subst ec
        obtain ⟨oe, vs, ho, hz, hd⟩ := eo_at I.hok ha
        have hx : ObjOk X.prog X.w H s.heap dx (.xd fs) := I.hok dx _ hdx
        obtain ⟨mA, ⟨od, es, ep, ho2, _⟩, hr⟩ := hx
        have J : PySem.W.InstAt s.heap a oe D (some od) := ⟨ho, hz.1, by unfold PySem.W.notCls; rw [hd] <;> rfl, by rw [hz.2]; exact ho2⟩
        obtain ⟨cd, hcd, _⟩ := PySem.W.any_some C.hd
        exact PySem.W.kia_one (PySem.W.kitx_exc (by rw [hcd]; rfl) C.hg C.hk C.hs C.ha C.hn C.ht C.hm) I.kIn J e (fun z => nomatch z) fun tk => ⟨.bl b, H, I.kept (t' := tk) fun _ _ z => z, rfl, q⟩
theorem gIsaX_ok {K : PySem.W.Frag} {ct : String → Addr} {xs : List String} {sb : String → Cl → Option Bool} (T : IsT K ct xs sb) : CaD K ct (rIsX K) (gIsaX xs sb) := by
  intro W σ io H A vs ds Q h r p
  unfold gIsaX at p
  split at p
  · rename_i n k
    split at p
    · rename_i c f0 f1 hm
      split at p
      · rename_i hc
        split at p
        · rename_i b hb
          cases r with
          | cons r1 r2 =>
            cases r2 with
            | cons r2 r3 =>
              cases r3
              cases r1 with
              | @ref a _ q =>
                obtain ⟨dd, e2, z⟩ := h.get q hm
                rcases z with z | ⟨pp, gs, g1, g2, g3, g4, g5⟩
                · cases z
                · subst g1
                  refine .inr ⟨a, ct c, pp, gs, _, ClV ct k, b, rfl, e2, g3, T.cls c hc, ?_, T.sub c k b hb, p.here h (.bl _)⟩
                  cases r2 with
                  | ty t => exact fun u hu => hu
                  | own t => exact fun u hu => hu
        · exact p.elim
      · exact p.elim
    · exact .inl (gIsa_ok W σ io H A vs _ Q h r p)
  · exact .inl (gIsa_ok W σ io H A vs _ Q h r p)
end DV

set_option Elab.async false
set_option linter.all false
set_option maxRecDepth 100000
set_option maxHeartbeats 4000000
/-! ExE: lists that change from +, tuples times a number, repr of an empty dict, what the top says of an exception class. -/
namespace DV
open PySem PySem.Spec PyProof.Rows L2 NdefX
/-! ### a numbered list from + -/
def gAddM (d e : D) (A : Hd) : R D := match asL A d, asL A e with
  | some xs, some ys => if xs.length + ys.length ≤ sizeLine then .ok (.ref A.length) (A ++ [.lst (xs ++ ys)]) else .stk
  | _, _ => .stk
theorem gAddM_ok {K : PySem.W.Frag} {ct : String → Addr} : OpD K ct (rAddX K) gAddM := by
  intro W σ io H A x y d e Q h rx ry p
  unfold gAddM at p
  split at p
  · rename_i xs ys h1 h2
    obtain ⟨a, us, rfl, q1, r1⟩ := asL_ok h rx h1
    obtain ⟨b, vs, rfl, q2, r2⟩ := asL_ok h ry h2
    split at p
    · rename_i hz
      exact .inr (.inr ⟨a, b, us, vs, rfl, rfl, q1, q2, by rw [r1.length, r2.length]; exact hz, fun q hq => Post.num p h hq ⟨_, upd_same, (r1.append r2).mono (Ext.num hq) h.noT⟩⟩)
    · exact p.elim
  · exact p.elim
/-! ### a tuple times a number -/
def rRepF (K : PySem.W.Frag) : R2 := fun x y H Q => ∃ l k xs, x = .ref l ∧ y = .int k ∧ SqT K H l xs ∧ xs ≠ [] ∧ 2 ≤ k ∧ k ≤ 1000 ∧ xs.length ≤ 1000 ∧ ∀ (p : Addr) (o : Obj), o.dict = none → H p = none → Q (.ref p) (upd H p (.frz o (.tup (List.replicate k.toNat xs).flatten)))
theorem op_repF {X : Cx} : OpR X (binaryOp .Mult) (rRepF X.K) := by
  intro pins s σ H x y v u Q I rx ry h
  obtain ⟨l, k, xs, rfl, rfl, hT, hne, h1, h2, hz, q⟩ := h
  cases rx
  obtain ⟨t, rfl⟩ := ry
  obtain ⟨its, r, ⟨⟨cls, dd, data, sl⟩, ho, hc, n, hd⟩, hs⟩ := I.tuple hT
  simp only at hc hd
  subst hc hd
  have hle : its.length = xs.length := r.length.symm
  have hn : its ≠ [] := fun e => hne (by
    rw [e] at hle
    exact List.eq_nil_of_length_eq_zero hle.symm)
  have hi : its.toArray.isEmpty = false := by
    cases its with
    | nil => exact absurd rfl hn
    | cons a b => rfl
  have hsz0 : its.toArray.size = xs.length := by rw [List.size_toArray, hle]
  have hm : ((its.toArray.size : Nat) : Int) * k ≤ 1000000 := by
    rw [hsz0]
    have a1 : ((xs.length : Nat) : Int) * k ≤ 1000 * k := Int.mul_le_mul_of_nonneg_right (by omega) (by omega)
    omega
  have flen : (List.replicate k.toNat its).flatten.length ≤ sizeLine := by
    rw [PyProof.Rows.lm_len_rep_flat, hle, sizeLine_eq]
    have a1 : k.toNat * xs.length ≤ 1000 * 1000 := Nat.mul_le_mul (by omega) hz
    omega
  have c0 : (decide (k < -(2 ^ 63)) || decide (k ≥ 2 ^ 63)) = false := by
    rw [decide_eq_false (by omega), decide_eq_false (by omega)] <;> rfl
  have c1 : (its.toArray.isEmpty || k == 1) = false := by
    rw [hi, Bool.false_or]
    exact beq_eq_false_iff_ne.mpr (by omega)
  have c2 : (decide (k ≤ 0) || its.toArray.isEmpty) = false := by
    rw [hi, Bool.or_false]
    exact decide_eq_false (by omega)
  have c4 : Builtin.Tuple.tupleTooMany (((its.toArray.size : Nat) : Int) * k) = false := by
    unfold Builtin.Tuple.tupleTooMany
    rw [sizeLine_eq]
    exact decide_eq_false (by omega)
  refine wpAny_binaryOp_repeat_ref (T := "tuple") (U := "int") (by decide) ⟨_, ho, rfl⟩ (fun s' => typeIs_int s' k t) noFill_tuple_mul F.fills_int_mul F.slot_int_rmul repeat_tuple F.slot_int_index.lookup
    (call_meets F.slot_int_rmul (typeIs_int s k t) F.entry_int_rmul (F.args_int_rmul_2 _ _) (int_rmul_tuple k t l its.toArray n dd sl)
      ⟨ho, rfl, ⟨_, ho, rfl⟩, call_meets F.slot_tuple_mul ⟨_, ho, rfl⟩ F.entry_tuple_mul (F.args_tuple_mul_2 _ _) (tuple_mulW l its.toArray n dd sl k t c0 c1 c2 (by omega) c4 (by rw [size_rep, List.size_toArray]; exact flen)) ⟨ho, ?_⟩⟩)
  rw [size_rep]
  have get : (s.heap.push ({ cls := .type "tuple", data := .seq (List.replicate k.toNat its).flatten.toArray } : Obj)).get? s.heap.objs.size = some { cls := .type "tuple", data := .seq (List.replicate k.toNat its).flatten.toArray } := Heap.get?_push_size _ rfl
  refine ⟨.ref s.heap.objs.size, _, I.laid (t' := s.toks) (o := .frz { cls := .type "tuple", data := .seq (List.replicate k.toNat its).flatten.toArray } (.tup (List.replicate k.toNat xs).flatten)) (fun b ob q => Heap.get?_push_of_some _ q) (Nat.le_refl _) ⟨get, ?_, _, r.rep k.toNat, ⟨_, get, rfl, _, rfl⟩⟩, rfl, q _ _ rfl (I.hok.fresh (Nat.le_refl _))⟩
  rw [PyProof.Rows.lm_len_rep_flat, sizeLine_eq]
  have a1 : k.toNat * xs.length ≤ 1000 * 1000 := Nat.mul_le_mul (by omega) hz
  omega
def gMulT (d e : D) (A : Hd) : R D := match d, e with
  | .tup (x :: xs), .int k => if 2 ≤ k ∧ k ≤ 1000 ∧ (x :: xs).length ≤ 1000 then .ok (.tup (List.replicate k.toNat (x :: xs)).flatten) A else .stk
  | _, _ => .stk
theorem gMulT_ok {K : PySem.W.Frag} {ct : String → Addr} : OpD K ct (rRepF K) gMulT := by
  intro W σ io H A x y d e Q h rx ry p
  unfold gMulT at p
  split at p
  · rename_i z zs k
    cases rx with
    | @tup a xs _ q rs =>
      cases ry
      split at p
      · rename_i hz
        refine ⟨a, k, xs, rfl, rfl, q.sq, fun e => ?_, hz.1, hz.2.1, by rw [rs.length]; exact hz.2.2, fun pp o ho hp => p.new h hp (.newTup h hp ho (rs.flatrep _))⟩
        rw [e] at rs
        cases rs
      · exact p.elim
  · exact p.elim
/-! ### repr, of {} too -/
def rReprX (K : PySem.W.Frag) : List V → Hp → VK → Prop := fun xs H Q => rRepr K xs H Q ∨ ∃ a, xs = [.ref a] ∧ H a = some (.dK []) ∧ Q (.str "{}") H
theorem call_reprX {X : Cx} (hg : X.A.guards = some []) (hu : X.A.units + 64 < cLine) : CallR X (.builtin "repr") (rReprX X.K) := by
  intro pins s σ H xs us Q I r h
  rcases h with h | ⟨a, rfl, ha, q⟩
  · exact call_repr hg hu pins s σ H xs us Q I r h
  · obtain ⟨u, rfl, rx⟩ := vals1 r
    cases rx
    obtain ⟨hz, hS, vs, rv, o, es, ep, ho, hx, hd, _, hp, _⟩ := dk_of I.hok ha
    have ev : vs = [] := by cases rv; rfl
    subst ev
    have nilP : ∀ {l : List DictEntry}, Pairs (mixKind X.prog X.w) l [] → l = [] := fun h => by cases h; rfl
    have ee : es.toList = [] := nilP hp
    have rd : Reads s.heap (.ref a) (.dict []) (a :: [] ++ []) := .dict (n := ep) ho hx.1 hd (by rw [ee]; exact .nil) (by rw [ee]; exact .nil)
    have d2 : (PyData.dict []).depth ≤ 2 := by decide +kernel
    have l2 : (PyData.dict []).shown.length ≤ sizeLine := by
      have := sz1000
      have h2 : (PyData.dict []).shown.length = 2 := by decide +kernel
      omega
    refine repr_of_reads' rd rfl (fun _ hm => ?_) hg (by omega) (fun _ _ e => e) (fun h' u tk hk => ?_) l2
    · have : sysModules = a := by simpa using hm
      rw [← this] at hS
      simp at hS
    · exact ⟨.str "{}", H, I.kept (t' := tk) hk, ⟨_, rfl⟩, q⟩
def gReprX (ds : List D) (A : Hd) : R D := match ds with
  | [.dic []] => .ok (.str "{}") A
  | ds => gRepr ds A
theorem gReprX_ok {K : PySem.W.Frag} {ct : String → Addr} : CaD K ct (rReprX K) gReprX := by
  intro W σ io H A xs ds Q h r p
  unfold gReprX at p
  split at p
  · cases r with
    | cons r rs =>
      cases rs
      cases r with
      | @dic a kvs _ n q k rs =>
        have : kvs = [] := by cases kvs with
          | nil => rfl
          | cons _ _ => cases k
        subst this
        exact .inr ⟨a, rfl, q, p.here h (.str _)⟩
  · exact .inl (gRepr_ok W σ io H A xs ds Q h r p)
end DV

set_option Elab.async false
set_option linter.all false
set_option maxRecDepth 100000
set_option maxHeartbeats 1000000
/-! ExF: an exception class, from what the top has written. -/
namespace DV
open PySem PySem.Spec PyProof.Rows L2 NdefX
/-- the j-th statement of the class that is the top's i-th -/
def clsBody : Stmt → List Stmt
  | .ClassDef _ _ _ body _ _ _ _ _ _ _ => body
  | _ => []
abbrev initF (st : Stmt) (qual : Str) (cc co : Addr) : NF := ⟨"__init__", qual, defArgs st, defBody st, defScope st, [(("__class__" : Str), cc)], co⟩
/-- what the written part says of such a class -/
structure ClsW (P : Program) (K : PySem.W.Frag) (B newId initId : String) (tl : List Value) (C f cc co : Addr) (st : Stmt) (qual : Str) : Prop where
  lC : ∃ nm q N bs bm sn sub ab col dd k0 k1 k2 k3 k5, K.lookup C = some (excClassObj nm q C N bs bm true sn sub ab col dd k0 k1 k2 k3 k5 newId) ∧ refsT tl bm = true
  sC : PySem.W.findIn K (.ref C) "__setattr__" = some (some (.builtin "object.__setattr__"))
  eC : PySem.W.subIn K (.ref C) (.type "BaseException") = some true
  tC : PySem.W.typeIn K (.ref C) = some (.type "type")
  kC : PySem.W.keepIn K (.ref C) = true
  iC : PySem.W.findIn K (.ref C) "__init__" = some (some (.ref f))
  tI : PySem.W.typeIn K (.ref f) = some (.type "function")
  lF : ∃ oc od doc pm ctv osl, K.lookup f = some ⟨oc, od, .func ((initF st qual cc co).fd doc pm ctv), osl⟩
  cI : PySem.W.codeIn K (.ref co) qual = true
  lco : ∃ ccl cdd vs ccs file tf, K.lookup co = some ⟨ccl, cdd, .fields vs, ccs⟩ ∧ vs[2]? = some (.str file tf) ∧ ((P.main.file : Str) == file) = true
  lcc : ∃ cl cld csl, K.lookup cc = some ⟨cl, cld, .cell (some (.ref C)), csl⟩
  sup : PySem.W.ks_superIn K C C "__init__" = some (some (.builtin initId))
  sub : PySem.W.subIn K (.ref C) (.type B) = some true
  mro : PySem.W.mroIn K C (.ref C) = some true
  opq : PySem.W.nsIn K cStatics "thirdparty.any" = some none
  top : (P.main.scope.names.lookup ("super" : Str)).isSome = false
/-- what the text says of its __init__ -/
structure InitW (st : Stmt) (slf : Str) (ps' N ns : List Str) : Prop where
  scope : NScope N (slf :: ps') ["__class__"] (defScope st)
  ks : (defScope st).names.lookup ("super" : Str) = some NameKind.globalImplicit
  first : ∃ ar : Arg, ((defArgs st).posonlyargs ++ (defArgs st).args).head? = some ar ∧ ar.arg = slf
  bind : ∀ (qual : Str) (cc co : Addr) (doc pm ctv : Value) (us : List Value), us.length = (slf :: ps').length → bindArgs ((initF st qual cc co).fd doc pm ctv) ⟨us, []⟩ = pure ((slf :: ps').zip us)
  body : ∃ (p0 p1 p2 p3 p4 cp : Pos) (txt : Str) (j : Nat) (rest : List Stmt) (pl : PySem.Env → Sem Bool), defBody st = supSt p0 p1 p2 p3 p4 cp txt j :: rest ∧
    (∀ env : PySem.Env, eval (.Call (.Attribute (.Call (.Name "super" p0) [] [] p1) "__init__" p2) [.Constant (.str txt) j cp] [] p3) env = (do
      let ov ← attributeBase (.Call (.Name "super" p0) [] [] p1) "__init__" env (eval (.Call (.Name "super" p0) [] [] p1) env)
      standAt p2.atName
      let (f, first) ← holding [ov] (getMethod ov "__init__" (pl env))
      callWith p3 f first (backTo p3 (starEach [.Constant (.str txt) j cp] env)) [])) ∧
    ∀ (P : Program) (w : World) (K : PySem.W.Frag) (mg : Str → Option Value) (base : Heap) (qual : Str) (cc co f : Addr) (A : Around) (outer : List PySem.Env) (s : Shared) (H : Hp) (E : XK), PSs (ncx (L2.CX P w) P w K mg base N (initF st qual cc co) f A outer s H E) rest (trF K ns 1)
theorem calX_mk {P : Program} {w : World} {K : PySem.W.Frag} {mg : Str → Option Value} {base : Heap} {ct : String → Addr} {x : Str} {c : String} {ns : List Str} {C f cc co : Addr} {st : Stmt} {qual slf : Str} {ps' N : List Str} {B newId initId : String} {tl : List Value} (Bb : BaseB B newId initId tl)
    (hct : ct c = C) (hmg : mg x = some (.ref C)) (hs : mg "super" = none) (hn : ∀ g ∈ ns, PySem.W.findIn K (.ref C) g = some none) (h0 : ns ≠ []) (hf : ns.length ≤ 900) (hps : ps'.length = ns.length) (W : ClsW P K B newId initId tl C f cc co st qual) (T : InitW st slf ps' N ns) : CalX P w K mg base ct x c ns := by
  subst hct
  have O : OexG K (ct c) newId tl := ⟨W.lC, W.sC, W.eC, W.tC, W.kC⟩
  obtain ⟨oc, od, doc, pm, ctv, osl, lF⟩ := W.lF
  obtain ⟨p0, p1, p2, p3, p4, cp, txt, j, rest, pl, hb, he, hr⟩ := T.body
  have S : SupC P K B initId (ct c) f (initF st qual cc co) slf := ⟨⟨oc, od, doc, pm, ctv, osl, lF⟩, T.first, W.lco, ⟨cc, rfl, W.lcc⟩, W.sup, W.sub, W.mro, W.opq, W.top, T.ks, T.scope.frk _ (by simp), T.scope.par _ (by simp)⟩
  refine ⟨⟨B, newId, initId, tl, Bb, O⟩, hmg, hn, h0, hf, f, (initF st qual cc co).fd doc pm ctv, slf :: ps', N, W.iC, W.tI, .all (T.bind qual cc co doc pm ctv), ?_⟩
  have F1 := supOk (w := w) (base := base) (mg := mg) (k := 0) (pl := pl) Bb S O lF T.scope hs W.cI hb he (fun A outer s H E => hr P w K mg base qual cc co f A outer s H E)
  exact F1.imp fun vs H Q E h => ⟨by rw [h.1, List.length_cons, hps], h.2⟩
/-- what makes isinstance and err.f answer -/
structure ClsX (K : PySem.W.Frag) (C : Addr) : Prop where
  ga : PySem.W.findIn K (.ref C) "__getattribute__" = some (some (.builtin "BaseException.__getattribute__"))
  gg : PySem.W.findIn K (.ref C) "__getattr__" = some none
  eC : PySem.W.subIn K (.ref C) (.type "BaseException") = some true
  hd : PySem.W.hasDictIn K C = true
  ha : PySem.W.findIn K (.ref C) "__class__" = some (some (.builtin "object.__class__"))
  hn : PySem.W.specialIn K (.builtin "object.__class__") "__get__" = some (some (.builtin "getset_descriptor.__get__"))
  ht : PySem.W.takesIn K (.builtin "object.__class__") = some true
  hm : PySem.W.mroIn K C (.type "object") = some true
theorem ClsX.xf {K : PySem.W.Frag} {C : Addr} (h : ClsX K C) : XfC K C := ⟨h.ga, h.gg, h.eC, h.hd⟩
theorem ClsX.exc {K : PySem.W.Frag} {C : Addr} (h : ClsX K C) : L2.ExcC K C := ⟨h.ga, h.gg, h.eC, h.hd, h.ha, h.hn, h.ht, h.hm⟩
/-- a class that an except clause or isinstance names -/
theorem kit_own {K : PySem.W.Frag} {C : Addr} {t : Value} {b : Bool} (hd : PySem.W.hasDictIn K C = true) (ty : PySem.W.typeIn K (.ref C) = some (.type "type")) (h : PySem.W.subIn K t (.ref C) = some b) (hne : (t == .ref C) = true → b = true) : PySem.W.kitOne K t (.ref C) = some b := by
  obtain ⟨cd, hc, _⟩ := PySem.W.any_some hd
  unfold PySem.W.kitOne
  by_cases q : (t == Value.ref C) = true
  · rw [if_pos q, hne q]
  · rw [if_neg q]
    have e2 : ((PySem.W.clsIn K C).isSome && PySem.W.typeIn K (.ref C) == some (.type "type")) = true := by rw [hc, ty] <;> rfl
    show (if ((PySem.W.clsIn K C).isSome && PySem.W.typeIn K (.ref C) == some (.type "type")) = true then PySem.W.subIn K t (.ref C) else none) = some b
    rw [if_pos e2]
    exact h
end DV

set_option Elab.async false
set_option linter.all false
set_option maxRecDepth 100000
set_option maxHeartbeats 1000000
/-! ExP: C(e, ..) as a value, C an own exception class; isinstance(err, (C, D, ..)); a, b, .. = a list. -/
namespace DV
open PySem PySem.Spec PyProof.Rows L2 NdefX
/-- C(e, ..) as a value -/
def tNewB (C : Addr) (sp : Sp) (dvs : List V) (ta : TA) : TE := fun σ H Q => ta σ H fun vs H1 => vs.length ≤ 1000 ∧ ∀ a, H1 a = none → sp (.ref a :: (vs ++ dvs)) (upd H1 a (exo a C none))
  (fun v H2 => v = .non ∧ ∃ (d : Addr) (fs : List (Str × V)), H2 a = some (exo a C (some d)) ∧ H2 d = some (exd d fs) ∧ H1 d = none ∧ Q (.ref a) (upd (upd H2 a (EO (.ref C) (some d) a)) d (.xd fs))) (fun _ _ _ => False)
section
variable {X : Cx} {e : Expr} {es : List Expr} {ta : TA} {p pos : Pos}
theorem newB_end {pins : List (Addr × Obj)} {σ : L2.St} {H1 H2 : Hp} {hp hp2 h2 : Heap} {g1 g2 : Array GenState} {d1 d2 : Drawn} {t1 t2 : Nat} {os1 os2 : OsState} {a C d : Addr} {fs : List (Str × V)} (I1 : Inv X pins σ H1 ⟨hp, g1, d1, t1, os1⟩)
    (ha : hp.objs.size ≤ a) (k : ∀ b o, hp.get? b = some o → hp2.get? b = some o) (un : Un (frs X.stack) [] (upd H1 a (exo a C none)) H2 hp2 h2) (hok : HOk X.prog X.w H2 h2) (ho : os2 = os1) (hb : AllBare g2)
    (ea : H2 a = some (exo a C (some d))) (ed : H2 d = some (exd d fs)) (hd1 : H1 d = none) : Inv X pins σ (upd (upd H2 a (EO (.ref C) (some d) a)) d (.xd fs)) ⟨h2, g2, d2, t2, os2⟩ := by
  obtain ⟨t0, hoe⟩ := exo_at hok ea
  obtain ⟨mA, hns, rel⟩ := exd_at hok ed
  have hn : H1 a = none := I1.hok.fresh ha
  have hda : d ≠ a := fun z => by
    obtain ⟨o, es, ep, e1, e2, _⟩ := hns
    rw [z, hoe] at e1
    have z2 := Option.some.inj e1
    subst z2
    cases e2
  have nha : ∀ {b : Addr} {o : Obj}, hp.get? b = some o → b ≠ a := fun {b o} z => Nat.ne_of_lt (Nat.lt_of_lt_of_le (Heap.lt_size z) ha)
  have up : ∀ {b : Addr}, b ≠ a → H1 b = none → upd H1 a (exo a C none) b = none := fun {b} hb n => by rw [upd_ne hb]; exact n
  have nd : ∀ {b : Addr} {o : Obj}, hp.get? b = some o → H1 b = none → b ≠ d := fun {b o} z n e => by
    have y := un.free b o (k b o z) (up (nha z) n) (by simp)
    rw [e, ed] at y
    cases y
  have old : ∀ {b : Addr} {o : HO}, H1 b = some o → b ≠ a ∧ b ≠ d := fun {b o} z => ⟨ne_of_none z hn, ne_of_none z hd1⟩
  have U : Un (frs X.stack) [] H1 (upd (upd H2 a (EO (.ref C) (some d) a)) d (.xd fs)) hp h2 := {
    keep := fun b o z n hf hx => un.keep b o (k b o z) (up (nha z) n) hf hx
    slot := fun b o z n hf hx => un.slot b o (k b o z) (up (nha z) n) hf hx
    free := fun b o z n hx => by
      rw [upd_ne (nd z n), upd_ne (nha z)]
      exact un.free b o (k b o z) (up (nha z) n) hx
    there := fun b o z hx => un.there b o (k b o z) hx
    tups := fun b xs z => by
      rw [upd_ne (old z).2, upd_ne (old z).1]
      exact un.tups b xs (by rw [upd_ne (old z).1]; exact z)
    frzs := fun b o v z => by
      rw [upd_ne (old z).2, upd_ne (old z).1]
      exact un.frzs b o v (by rw [upd_ne (old z).1]; exact z)
    tbls := fun b ps z => by
      rw [upd_ne (old z).2, upd_ne (old z).1]
      exact un.tbls b ps (by rw [upd_ne (old z).1]; exact z) }
  have hok3 : HOk X.prog X.w (upd (upd H2 a (EO (.ref C) (some d) a)) d (.xd fs)) h2 := fun b o z => by
    by_cases hbd : b = d
    · subst hbd
      rw [upd_same] at z
      cases z
      exact ⟨mA, hns, rel⟩
    · rw [upd_ne hbd] at z
      by_cases hba : b = a
      · subst hba
        rw [upd_same] at z
        cases z
        exact eo_ok hoe ⟨rfl, rfl⟩ rfl
      · rw [upd_ne hba] at z
        exact (hok b o z).stay (fun c v _ q => q) (fun c hc => by rw [upd_ne (at_ne ed hc exd_own), upd_ne (at_ne ea hc exo_own)]; exact hc) (fun c xs hc => by rw [upd_ne (at_ne ed hc exd_tup), upd_ne (at_ne ea hc exo_tup)]; exact hc)
  exact I1.call' (ch := []) ho U hok3 hb (fun b z => absurd z (by simp))
theorem pe_newB {CX : CXT} {x : Str} {C fI : Addr} {k : Nat} {fd : FuncData} {ps : List Str} {sp : Sp} {ds : List Value} {dvs : List V} (T : OexB X.K C) (iC : PySem.W.findIn X.K (.ref C) "__init__" = some (some (.ref fI))) (tI : PySem.W.typeIn X.K (.ref fI) = some (.type "function"))
    (F1 : FnOk X.prog X.w X.K X.mg X.base CX k fI fd ps sp) (hr : Room (k + 1) X.A) (hb : Binds X.K fd ps ds) (hd : Vals dvs ds) (hx : Passes CX X (fun _ _ _ => False)) (hg : Gl X x) (hm : X.mg x = some (.ref C)) (ha : PA X (e :: es) ta)
    (hdb : (x == ("__debug__" : Str)) = false := by decide) (he : starEach (e :: es) X.env = (false, eval e X.env) :: starEach es X.env := by rfl) (hpl : (backTo pos (starEach es X.env)).any (·.1) = false := by rfl) :
    PE X (.Call (.Name x p) (e :: es) [] pos) (tNewB C sp dvs ta) := by
  refine ⟨fun pins s σ H Q I h => ?_⟩
  obtain ⟨B, newId, initId, tl, Bb, T0⟩ := id T
  refine wpAny_Call_Name_kw (ld_glob I hg hm ?_ hdb)
  refine PySem.W.callWith_K (h₀ := X.base) I.ok.mod.kin T0.kC (thn (ha.run pos pins s σ H _ I h) fun us s1 ⟨vs, H1, I1, r1, hz, q1⟩ => ⟨I1.kIn, ?_⟩) he hpl
  show wpAny _ _ (call (.ref C) us) _ _ _
  obtain ⟨hp, g, dr, tk, os⟩ := s1
  have hsz : hp.objs.size ≤ hp.objs.size + 1 := Nat.le_succ _
  refine mkB_call T iC tI F1 hr hb hd I1 r1 hz (q1 (hp.objs.size + 1) (I1.hok.fresh hsz)) hx (fun u v H2 s' rv qv kk os2 bare2 un2 hok2 eu => ?_) fun v H2 qv => qv.1
  obtain ⟨ev, d, fs, ea, ed, hd1, q2⟩ := qv
  obtain ⟨h2, g2, d2, t2, os'⟩ := s'
  exact ⟨.ref (hp.objs.size + 1), _, newB_end I1 hsz kk un2 hok2 os2 bare2 ea ed hd1, rfl, q2⟩
end
def gNew (c : String) (ns : List Str) (ds : List D) (A : Hd) : R D := if ds.length = ns.length then .ok (.ref A.length) (A ++ [.exc c (ns.zip ds).reverse]) else .stk
section
variable {X : Cx} {ct : String → Addr} {W : WX} {x : Str} {c : String} {ns : List Str} {p pos rpos : Pos} {e : Expr} {es : List Expr} {fl : AF}
theorem pd_new (cx : CalX X.prog X.w X.K X.mg X.base ct x c ns) (hr : Room 2 X.A) (hp : Passes (L2.CX X.prog X.w) X (fun _ _ _ => False)) (hg : Gl X x) (ha : PDa X ct W (e :: es) fl)
    (hdb : (x == ("__debug__" : Str)) = false := by decide) (he : starEach (e :: es) X.env = (false, eval e X.env) :: starEach es X.env := by rfl) (hpl : (backTo pos (starEach es X.env)).any (·.1) = false := by rfl) :
    PD X ct W (.Call (.Name x p) (e :: es) [] pos) (eArgs (gNew c ns) fl) := by
  obtain ⟨fI, fd, ps, N, h1, h2, hb, F1⟩ := cx.ex
  refine pe_mono (pe_newB (dvs := []) cx.oex h1 h2 F1 hr hb .nil hp hg cx.mg_ ha hdb he hpl) fun σ H Q ⟨io, A, ro, s, q⟩ => ?_
  refine ⟨io, A, ro, s, (Post.bind (rep := DRs X.K ct) q).mono fun vs H1 ⟨io1, A1, ds, e1, hr1, rs, q1⟩ => ?_⟩
  unfold gNew at q1
  split at q1
  · rename_i hl
    have hlv : vs.length = ns.length := rs.length.trans hl
    have hfew := cx.few
    refine ⟨by omega, fun a na => ⟨by rw [List.append_nil, List.length_cons, hlv], a, vs, by rw [List.append_nil], upd_same, ?_⟩⟩
    rw [List.append_nil]
    refine trF_new cx.oex (a := a) rfl cx.some_ upd_same cx.nof hlv (fun j v hv => ?_) cx.few fun d hd hne => ⟨rfl, d, (ns.zip vs).reverse, upd_same, by rw [upd_ne hne]; exact upd_same, by rw [upd_ne hne] at hd; exact hd, ?_⟩
    · unfold startF
      rw [List.getElem?_append_left (by rw [List.length_map, List.length_cons]; have := (List.getElem?_eq_some_iff.mp hv).1; omega), List.getElem?_map, show 1 + j = j + 1 by omega, List.getElem?_cons_succ, hv]
      rfl
    · have hd1 : H1 d = none := by rw [upd_ne hne] at hd; exact hd
      have eH : upd (upd (upd (upd (upd H1 a (exo a (ct c) none)) d (exd d (ns.zip vs).reverse)) a (exo a (ct c) (some d))) a (EO (.ref (ct c)) (some d) a)) d (.xd (ns.zip vs).reverse) = upd (upd H1 d (.xd (ns.zip vs).reverse)) a (EO (.ref (ct c)) (some d) a) := by
        funext b
        by_cases hbd : b = d
        · rw [hbd, upd_same, upd_ne hne, upd_same]
        · rw [upd_ne hbd]
          by_cases hba : b = a
          · rw [hba, upd_same, upd_same]
          · rw [upd_ne hba, upd_ne hba, upd_ne hbd, upd_ne hba, upd_ne hba, upd_ne hbd]
      rw [eH]
      have hr2 : HR X.K ct io1 (upd H1 d (.xd (ns.zip vs).reverse)) A1 := hr1.laid hd1
      have na2 : upd H1 d (.xd (ns.zip vs).reverse) a = none := by rw [upd_ne (Ne.symm hne)]; exact na
      have xr : XR X.K ct io1 (upd H1 d (.xd (ns.zip vs).reverse)) (.own c) (ns.zip ds).reverse (.ref (ct c)) (some d) := ⟨rfl, .inr ⟨d, (ns.zip vs).reverse, rfl, hr1.ne hd1, upd_same, by
        rw [List.map_reverse, List.map_reverse, List.map_fst_zip (by omega), List.map_fst_zip (by omega)], by
        rw [List.map_reverse, List.map_reverse, List.map_snd_zip (by omega), List.map_snd_zip (by omega)]
        exact (rs.laid hr1 hd1).reverse⟩⟩
      exact Post.num (Post.ext (Ext.laid hd1) q1) hr2 na2 (XR.mexc hr2 xr na2)
  · exact q1.elim
end
/-! ### isinstance(err, (C, D, ..)) -/
def clsD : List D → Option (List Cl)
  | [] => some []
  | .cls k :: r => (clsD r).map (k :: ·)
  | _ :: _ => none
def anyB (sb : String → Cl → Option Bool) (c : String) : List Cl → Option Bool
  | [] => some false
  | k :: r => match sb c k with
    | some true => some true
    | some false => anyB sb c r
    | none => none
def gIsaY (xs : List String) (sb : String → Cl → Option Bool) (ds : List D) (A : Hd) : R D := match ds with
  | [.ref n, .tup cs] => (match A[n]?, clsD cs with
    | some (.exc c (_ :: _)), some ks => if c ∈ xs then (match anyB sb c ks with
      | some b => .ok (.bl b) A
      | none => .stk) else .stk
    | _, _ => .stk)
  | ds => gIsaX xs sb ds A
theorem clsD_rel {K : PySem.W.Frag} {ct : String → Addr} {io : Io} {H : Hp} : ∀ {vs : List V} {ds : List D} {ks : List Cl}, DRs K ct io H vs ds → clsD ds = some ks → ∀ us, Vals vs us → us = ks.map (ClV ct)
  | [], [], ks, .nil, e, us, r => by
    cases e
    cases r
    rfl
  | v :: vs, d :: ds, ks, .cons h hs, e, us, r => by
    cases d with
    | cls k =>
      unfold clsD at e
      cases hr : clsD ds with
      | none => rw [hr] at e; cases e
      | some ks' =>
        rw [hr] at e
        cases e
        cases r with
        | cons r0 rr =>
          rw [clsD_rel hs hr _ rr]
          cases h with
          | ty t => rw [show _ = ClV ct (.bi t) from r0]; rfl
          | own t => rw [show _ = ClV ct (.own t) from r0]; rfl
    | _ => cases e
theorem IsT.any {K : PySem.W.Frag} {ct : String → Addr} {xs : List String} {sb : String → Cl → Option Bool} (T : IsT K ct xs sb) {c : String} : ∀ {ks : List Cl} {b : Bool}, anyB sb c ks = some b → PySem.W.kitAny K (.ref (ct c)) (ks.map (ClV ct)) = some b
  | [], b, e => e
  | k :: ks, b, e => by
    unfold anyB at e
    rw [List.map_cons]
    unfold PySem.W.kitAny
    split at e
    · rename_i h
      rw [T.sub c k true h]
      exact e
    · rename_i h
      rw [T.sub c k false h]
      exact T.any e
    · cases e
def rIsY (K : PySem.W.Frag) : List V → Hp → VK → Prop := fun xs H Q => rIsX K xs H Q ∨ ∃ (a C : Addr) (dx : Addr) (fs : List (Str × V)) (tp : Addr) (cs : List V) (us : List Value) (b : Bool), xs = [.ref a, .ref tp] ∧ H a = some (EO (.ref C) (some dx) a) ∧ H dx = some (.xd fs) ∧ L2.ExcC K C ∧ SqT K H tp cs ∧ (∀ ws, Vals cs ws → ws = us) ∧ PySem.W.kitAny K (.ref C) us = some b ∧ Q (.bl b) H
theorem call_isY {X : Cx} : CallR X (.builtin "isinstance") (rIsY X.K) := by
  intro pins s σ H xs us Q I r h
  rcases h with h | ⟨a, D, dx, fs, tp, cs, ws, b, rfl, ha, hdx, C, ht, hcs, e, q⟩
  · exact call_isX pins s σ H xs us Q I r h
  · obtain ⟨u1, u2, rfl, r1, r2⟩ := vals2 r
    cases (show u1 = Value.ref a from r1)
    cases (show u2 = Value.ref tp from r2)
    obtain ⟨oe, vs, ho, hz, hd⟩ := eo_at I.hok ha
    have hx : ObjOk X.prog X.w H s.heap dx (.xd fs) := I.hok dx _ hdx
    obtain ⟨mA, ⟨od, es, ep, ho2, _⟩, hr⟩ := hx
    have J : PySem.W.InstAt s.heap a oe D (some od) := ⟨ho, hz.1, by unfold PySem.W.notCls; rw [hd] <;> rfl, by rw [hz.2]; exact ho2⟩
    obtain ⟨cd, hcd, _⟩ := PySem.W.any_some C.hd
    obtain ⟨its, r3, p3, _⟩ := I.tuple ht
    have e3 := hcs _ r3
    subst e3
    obtain ⟨o, h1, h2, n, h3⟩ := p3
    obtain ⟨oc, od2, dt, sl⟩ := o
    simp only at h2 h3
    subst h2 h3
    exact PySem.W.kia_tup (PySem.W.kitx_exc (by rw [hcd]; rfl) C.hg C.hk C.hs C.ha C.hn C.ht C.hm) I.kIn J h1 e (fun z => nomatch z) fun tk => ⟨.bl b, H, I.kept (t' := tk) fun _ _ z => z, rfl, q⟩
theorem gIsaY_ok {K : PySem.W.Frag} {ct : String → Addr} {xs : List String} {sb : String → Cl → Option Bool} (T : IsT K ct xs sb) : CaD K ct (rIsY K) (gIsaY xs sb) := by
  intro W σ io H A vs ds Q h r p
  unfold gIsaY at p
  split at p
  · rename_i n cs
    split at p
    · rename_i c f0 f1 ks hm hk
      split at p
      · rename_i hc
        split at p
        · rename_i b hb
          cases r with
          | cons r1 r2 =>
            cases r2 with
            | cons r2 r3 =>
              cases r3
              cases r1 with
              | @ref a _ q =>
                obtain ⟨dd, e2, z⟩ := h.get q hm
                rcases z with z | ⟨pp, gs, g1, g2, g3, g4, g5⟩
                · cases z
                · subst g1
                  cases r2 with
                  | tup t rs => exact .inr ⟨a, ct c, pp, gs, _, _, ks.map (ClV ct), b, rfl, e2, g3, T.cls c hc, t.sq, fun ws hw => clsD_rel rs hk ws hw, T.any hb, p.here h (.bl _)⟩
        · exact p.elim
      · exact p.elim
    · exact p.elim
  · exact .inl (gIsaX_ok T W σ io H A vs _ Q h r p)
/-! ### a, b, .. = a list (or a tuple) -/
def gSeqT (K : PySem.W.Frag) (n : Nat) (t : TGs) : TG := fun v σ H Q => ∃ a xs, v = .ref a ∧ (SqL K H a xs ∨ SqT K H a xs) ∧ xs.length = n ∧ t xs σ H Q
theorem pg_seqT {X : Cx} {es : List Expr} {k : Nat} {t : TGs} {n : Nat} {pos : Pos} (hc : X.calm = true) (h : PGs X es t)
    (hn : (assignEach es X.env).length = n := by rfl) (hst : (assignEach es X.env).findIdx? (·.1) = none := by rfl) : PG X (.Tuple es k pos) (gSeqT X.K n t) := by
  refine ⟨fun pins s σ H v u Q I r hw => ?_⟩
  obtain ⟨a, xs, e1, hq, hl, hw⟩ := hw
  subst e1
  cases r
  rcases hq with hq | hq
  · obtain ⟨its, rv, ⟨o, m, ho, hcl, hd, hs⟩, hz⟩ := I.list hq
    have hL : s.heap.IsList a its.toArray := ⟨o, ho, hcl, m, hs⟩
    rw [assign_Tuple]
    refine wpAny_bind (wpAny_standAt ?_)
    unfold unpack
    rw [show (assignEach es X.env).length = its.toArray.size by simp [hn, ← hl, rv.length], hst]
    refine wpAny_bind (wpAny_holding (PySem.W.kun_itemsOf (I.ok.hd hc) hL fun h' hx => ?_))
    have I1 : Inv X pins σ H { s with heap := h' } := I.kept (t' := s.toks) fun b o e => hx b o (Nat.ne_of_lt (Heap.lt_size e)) e
    exact h.run pins _ σ H xs _ Q I1 (by simpa using rv) hw
  · exact (pg_tup hc h hn hst).run pins s σ H (.ref a) (.ref a) Q I rfl ⟨a, xs, rfl, hq, hl, hw⟩
def gTpq (gs : List GF) : GF := fun d ro A => match asQ A d with
  | some ds => if ds.length = gs.length then gTs gs ds ro A else .stk
  | none => .stk
theorem pgd_seq {X : Cx} {ct : String → Addr} {es : List Expr} {k : Nat} {gl : List GF} {pos : Pos} (hc : X.calm = true) (h : PGsD X ct es gl) (hn : (assignEach es X.env).length = gl.length := by rfl) (hst : (assignEach es X.env).findIdx? (·.1) = none := by rfl) : PGD X ct (.Tuple es k pos) (gTpq gl) :=
  pg_mono (pg_seqT hc h hn hst) fun v σ H Q ⟨io, A, ro, d, s, r, p⟩ => by
    unfold gTpq at p
    split at p
    · rename_i ds hq
      split at p
      · rename_i hl
        obtain ⟨a, xs, ev, hs, rs⟩ := asQ_ok s.hr r hq
        exact ⟨a, xs, ev, hs, by rw [rs.length]; exact hl, io, A, ro, ds, s, rs, p⟩
      · exact p.elim
    · exact p.elim
end DV

set_option Elab.async false
set_option linter.all false
set_option maxRecDepth 100000
set_option maxHeartbeats 1000000
/-! ExQ: repr of a list of empty dicts. -/
namespace DV
open PySem PySem.Spec PyProof.Rows L2
section
variable {X : Cx} {pins : List (Addr × Obj)} {σ : L2.St} {H : Hp} {s : Shared}
theorem reads_nil (I : Inv X pins σ H s) {a : Addr} (ha : H a = some (.dK [])) : a ≠ sysModules ∧ Reads s.heap (.ref a) (.dict []) [a] := by
  obtain ⟨hz, hS, vs, rv, o, es, ep, ho, hx, hd, _, hp, _⟩ := dk_of I.hok ha
  have ev : vs = [] := by cases rv; rfl
  subst ev
  have nilP : ∀ {l : List DictEntry}, Pairs (mixKind X.prog X.w) l [] → l = [] := fun h => by cases h; rfl
  have ee : es.toList = [] := nilP hp
  have rd : Reads s.heap (.ref a) (.dict []) (a :: [] ++ []) := .dict (n := ep) ho hx.1 hd (by rw [ee]; exact .nil) (by rw [ee]; exact .nil)
  exact ⟨fun z => by rw [z] at hS; simp at hS, rd⟩
theorem reads_nils (I : Inv X pins σ H s) : ∀ {ys : List V} {its : List Value}, (∀ y ∈ ys, ∃ b, y = V.ref b ∧ H b = some (.dK [])) → Vals ys its → ∃ as, ReadsAll s.heap its (ys.map fun _ => PyData.dict []) as ∧ sysModules ∉ as
  | [], _, _, r => by
    cases r
    exact ⟨[], .nil, by simp⟩
  | y :: ys, _, h, r => by
    cases r with
    | cons r1 r2 =>
      obtain ⟨b, rfl, hb⟩ := h y List.mem_cons_self
      obtain ⟨as, q1, q2⟩ := reads_nils I (fun z hz => h z (List.mem_cons_of_mem _ hz)) r2
      obtain ⟨n1, n2⟩ := reads_nil I hb
      cases r1
      refine ⟨[b] ++ as, .cons n2 q1, fun hm => ?_⟩
      rcases List.mem_append.mp hm with hm | hm
      · exact n1 (List.mem_singleton.mp hm).symm
      · exact q2 hm
end
theorem nils_depth : ∀ ys : List V, PyData.depthAll (ys.map fun _ => PyData.dict []) ≤ 1
  | [] => by decide +kernel
  | y :: ys => by
    rw [List.map_cons]
    unfold PyData.depthAll
    have := nils_depth ys
    have e : (PyData.dict []).depth ≤ 1 := by decide +kernel
    omega
theorem nils_show : ∀ ys : List V, PyData.showableAll (ys.map fun _ => PyData.dict []) = true
  | [] => rfl
  | y :: ys => by
    rw [List.map_cons]
    unfold PyData.showableAll
    rw [nils_show ys]
    rfl
/-- what repr shows of n empty dicts in a list -/
def nilsT (n : Nat) : Str := (PyData.list ((List.replicate n ()).map fun _ => PyData.dict [])).shown
def rReprN (K : PySem.W.Frag) : List V → Hp → VK → Prop := fun xs H Q => rReprX K xs H Q ∨ ∃ (a : Addr) (ys : List V), xs = [.ref a] ∧ SqL K H a ys ∧ (∀ y ∈ ys, ∃ b, y = V.ref b ∧ H b = some (.dK [])) ∧ (nilsT ys.length).length ≤ sizeLine ∧ Q (.str (nilsT ys.length)) H
theorem nils_eq (ys : List V) : (List.replicate ys.length ()).map (fun _ => PyData.dict []) = ys.map fun _ => PyData.dict [] := by
  induction ys with
  | nil => rfl
  | cons y ys ih => rw [List.length_cons, List.replicate_succ, List.map_cons, List.map_cons, ih]
theorem call_reprN {X : Cx} (hg : X.A.guards = some []) (hu : X.A.units + 64 < cLine) : CallR X (.builtin "repr") (rReprN X.K) := by
  intro pins s σ H xs us Q I r h
  rcases h with h | ⟨a, ys, rfl, ha, hn, hz, q⟩
  · exact call_reprX hg hu pins s σ H xs us Q I r h
  · obtain ⟨u, rfl, rx⟩ := vals1 r
    cases rx
    have ez : nilsT ys.length = listText (PyData.shownAll (ys.map fun _ => PyData.dict [])) := by
      unfold nilsT
      rw [nils_eq]
      simp only [PyData.shown]
    obtain ⟨its, rv, ⟨o, n, ho, hc, _, hd⟩, _⟩ := I.list ha
    obtain ⟨as, h4, hno⟩ := reads_nils I hn rv
    rw [ez] at hz
    obtain ⟨bs, hb, hk⟩ := ReprAllK.of_readsAll (prog := X.prog) (w := X.w) h4 (nils_show ys) (fun _ => hno) (fun t ht => Nat.le_trans (listText_mem_le ht) hz)
    have hdp := nils_depth ys
    have hna : a ∉ bs := not_mem_of_deeper (.list ho hc hd h4) (by simp only [PyData.depth]; omega) hb
    have fin : ∀ (h' : Heap) (u : Tok) (tk : Nat), (∀ b o, s.heap.get? b = some o → h'.get? b = some o) → ∃ (x : Str) (t : Tok), Value.str (listText (PyData.shownAll (ys.map fun _ => PyData.dict []))) u = .str x t ∧ EP X pins σ Q (Value.str (listText (PyData.shownAll (ys.map fun _ => PyData.dict []))) u) { s with heap := h', toks := tk } := fun h' u tk hk =>
      ⟨_, _, rfl, .str (nilsT ys.length), H, I.kept (t' := tk) hk, ⟨u, by rw [ez]⟩, q⟩
    have ty : s.TypeIs (.ref a) "list" := ⟨o, ho, hc⟩
    refine call_repr_slot (A := X.A) (by omega) ty F.slot_list_repr.toG ?_
    have hu2 : X.A.in1.units + 64 ≤ cLine + 1 := by
      show X.A.units + 1 + 64 ≤ cLine + 1
      omega
    cases its with
    | nil =>
      cases rv
      exact call_list_repr_empty ty ho hd (fin s.heap _ _ fun _ _ e => e)
    | cons x l =>
      exact call_list_reprK ho hc hd hna (by simpa using hk.length_eq) (fun i y e => hk.item i y (by simpa using e)) hg (fun b _ => Clear.nil b) (by omega) (fun _ _ e => e) fin hz
def allNil : List D → Bool
  | [] => true
  | .dic [] :: r => allNil r
  | _ :: _ => false
theorem allNil_rel {K : PySem.W.Frag} {ct : String → Addr} {io : Io} {H : Hp} : ∀ {vs : List V} {ds : List D}, DRs K ct io H vs ds → allNil ds = true → ∀ y ∈ vs, ∃ b, y = V.ref b ∧ H b = some (.dK [])
  | [], [], .nil, _ => fun y hy => by cases hy
  | v :: vs, d :: ds, .cons h hs, e => fun y hy => by
    cases d with
    | dic es =>
      cases es with
      | nil =>
        rcases List.mem_cons.mp hy with rfl | hy
        · cases h with
          | @dic a kvs _ n q k rs =>
            have : kvs = [] := by cases kvs with
              | nil => rfl
              | cons _ _ => cases k
            subst this
            exact ⟨a, rfl, q⟩
        · exact allNil_rel hs e y hy
      | cons _ _ => cases e
    | _ => cases e
def gReprN (ds : List D) (A : Hd) : R D := match ds with
  | [d] => (match asL A d with
    | some es => if allNil es = true ∧ es ≠ [] then (if (nilsT es.length).length ≤ sizeLine then .ok (.str (nilsT es.length)) A else .stk) else gReprX [d] A
    | none => gReprX [d] A)
  | ds => gReprX ds A
theorem gReprN_ok {K : PySem.W.Frag} {ct : String → Addr} : CaD K ct (rReprN K) gReprN := by
  intro W σ io H A xs ds Q h r p
  unfold gReprN at p
  split at p
  · rename_i d
    split at p
    · rename_i es hl
      split at p
      · rename_i hn
        split at p
        · rename_i hz
          cases r with
          | cons r rs =>
            cases rs
            obtain ⟨a, ys, rfl, q, rs⟩ := asL_ok h r hl
            refine .inr ⟨a, ys, rfl, .inl (.inl q), allNil_rel rs hn.1, by rw [rs.length]; exact hz, ?_⟩
            rw [rs.length]
            exact p.here h (.str _)
        · exact p.elim
      · exact .inl (gReprX_ok W σ io H A xs _ Q h r p)
    · exact .inl (gReprX_ok W σ io H A xs _ Q h r p)
  · exact .inl (gReprX_ok W σ io H A xs _ Q h r p)
end DV

set_option Elab.async false
set_option linter.all false
set_option maxRecDepth 100000
set_option maxHeartbeats 1000000
/-! ExR: isinstance and except by the classes' orders. -/
namespace DV
open PySem PySem.Spec PyProof.Rows L2
/-- what isinstance(an exception of c, k) answers -/
def sbM (anc : String → List Cl) (xs own bi : List String) (c : String) : Cl → Option Bool
  | .own y => if c ∈ xs ∧ y ∈ own then some (decide (Cl.own y ∈ anc c)) else none
  | .bi t => if c ∈ xs ∧ t ∈ bi then some (decide (Cl.bi t ∈ anc c)) else none
/-- what `except D` answers to an exception of k -/
def mtM (anc : String → List Cl) (xs : List String) (D : String) : Cl → Option Bool
  | .own c => if c ∈ xs then some (decide (Cl.own D ∈ anc c)) else none
  | .bi _ => none
/-- the classes' orders, as the written part has them -/
structure Ords (K : PySem.W.Frag) (ct : String → Addr) (anc : String → List Cl) (xs own bi : List String) : Prop where
  inj : (own.map ct).Nodup
  sub : ∀ c ∈ xs, c ∈ own
  mro : ∀ c ∈ xs, ∀ v, PySem.W.mroIn K (ct c) v = some (((anc c).map (ClV ct)).contains v)
  self : ∀ c ∈ xs, Cl.own c ∈ anc c
  anco : ∀ c ∈ xs, ∀ y, Cl.own y ∈ anc c → y ∈ own
  exc : ∀ c ∈ xs, L2.ExcC K (ct c)
  dic : ∀ y ∈ own, PySem.W.hasDictIn K (ct y) = true
  ty : ∀ y ∈ own, PySem.W.typeIn K (.ref (ct y)) = some (.type "type")
  bas : ∀ y ∈ own, PySem.W.subIn K (.ref (ct y)) (.type "BaseException") = some true
  kmt : ∀ t ∈ bi, PySem.W.kitMeta t = true
section
variable {K : PySem.W.Frag} {ct : String → Addr} {anc : String → List Cl} {xs own bi : List String}
theorem nodup_inj : ∀ {own : List String}, (own.map ct).Nodup → ∀ {y z : String}, y ∈ own → z ∈ own → ct y = ct z → y = z
  | [], _, y, z, hy, _, _ => by cases hy
  | a :: own, h, y, z, hy, hz, e => by
    rw [List.map_cons, List.nodup_cons] at h
    rcases List.mem_cons.mp hy with h1 | h1
    · rcases List.mem_cons.mp hz with h2 | h2
      · rw [h1, h2]
      · exact absurd (List.mem_map.mpr ⟨z, h2, by rw [← e, h1]⟩) h.1
    · rcases List.mem_cons.mp hz with h2 | h2
      · exact absurd (List.mem_map.mpr ⟨y, h1, by rw [e, h2]⟩) h.1
      · exact nodup_inj h.2 h1 h2 e
theorem has_own (h : (own.map ct).Nodup) {y : String} (hy : y ∈ own) : ∀ an : List Cl, (∀ z, Cl.own z ∈ an → z ∈ own) → (an.map (ClV ct)).contains (Value.ref (ct y)) = decide (Cl.own y ∈ an)
  | [], _ => rfl
  | k :: an, hk => by
    rw [List.map_cons, List.contains_cons, has_own h hy an fun z hz => hk z (List.mem_cons_of_mem _ hz)]
    cases k with
    | own z =>
      by_cases e : y = z
      · subst e
        have e1 : (Value.ref (ct y) == ClV ct (.own y)) = true := beq_self_eq_true _
        rw [e1, Bool.true_or]
        exact (decide_eq_true List.mem_cons_self).symm
      · have e1 : (Value.ref (ct y) == ClV ct (.own z)) = false := by
          refine beq_eq_false_iff_ne.mpr fun q => e ?_
          have q' : Value.ref (ct y) = Value.ref (ct z) := q
          exact nodup_inj h hy (hk z List.mem_cons_self) (Value.ref.inj q')
        rw [e1, Bool.false_or]
        refine decide_eq_decide.mpr ⟨fun q => List.mem_cons_of_mem _ q, fun q => ?_⟩
        rcases List.mem_cons.mp q with q | q
        · cases q; exact absurd rfl e
        · exact q
    | bi t =>
      have e1 : (Value.ref (ct y) == ClV ct (.bi t)) = false := rfl
      rw [e1, Bool.false_or]
      refine decide_eq_decide.mpr ⟨fun q => List.mem_cons_of_mem _ q, fun q => ?_⟩
      rcases List.mem_cons.mp q with q | q
      · cases q
      · exact q
theorem has_bi {t : String} : ∀ an : List Cl, (an.map (ClV ct)).contains (Value.type t) = decide (Cl.bi t ∈ an)
  | [] => rfl
  | k :: an => by
    rw [List.map_cons, List.contains_cons, has_bi an]
    cases k with
    | own z =>
      have e1 : (Value.type t == ClV ct (.own z)) = false := rfl
      rw [e1, Bool.false_or]
      refine decide_eq_decide.mpr ⟨fun q => List.mem_cons_of_mem _ q, fun q => ?_⟩
      rcases List.mem_cons.mp q with q | q
      · cases q
      · exact q
    | bi u =>
      by_cases e : t = u
      · subst e
        have e1 : (Value.type t == ClV ct (.bi t)) = true := beq_self_eq_true _
        rw [e1, Bool.true_or]
        exact (decide_eq_true List.mem_cons_self).symm
      · have e1 : (Value.type t == ClV ct (.bi u)) = false := by
          refine beq_eq_false_iff_ne.mpr fun q => e ?_
          have q' : Value.type t = Value.type u := q
          exact Value.type.inj q'
        rw [e1, Bool.false_or]
        refine decide_eq_decide.mpr ⟨fun q => List.mem_cons_of_mem _ q, fun q => ?_⟩
        rcases List.mem_cons.mp q with q | q
        · cases q; exact absurd rfl e
        · exact q
theorem Ords.subOwn (O : Ords K ct anc xs own bi) {c y : String} (hc : c ∈ xs) (hy : y ∈ own) : PySem.W.subIn K (.ref (ct c)) (.ref (ct y)) = some (decide (Cl.own y ∈ anc c)) :=
  (O.mro c hc (.ref (ct y))).trans (congrArg some (has_own O.inj hy _ (O.anco c hc)))
theorem Ords.subBi (O : Ords K ct anc xs own bi) {c t : String} (hc : c ∈ xs) : PySem.W.subIn K (.ref (ct c)) (.type t) = some (decide (Cl.bi t ∈ anc c)) :=
  (O.mro c hc (.type t)).trans (congrArg some (has_bi _))
theorem Ords.isT (O : Ords K ct anc xs own bi) : IsT K ct xs (sbM anc xs own bi) := by
  refine ⟨O.exc, fun c k b h => ?_⟩
  cases k with
  | own y =>
    unfold sbM at h
    dsimp only at h
    split at h
    · rename_i hh
      cases h
      refine kit_own (O.dic y hh.2) (O.ty y hh.2) (O.subOwn hh.1 hh.2) fun q => ?_
      have q' : Value.ref (ct c) = Value.ref (ct y) := beq_iff_eq.mp q
      have : c = y := nodup_inj O.inj (O.sub c hh.1) hh.2 (Value.ref.inj q')
      subst this
      exact decide_eq_true (O.self c hh.1)
    · cases h
  | bi t =>
    unfold sbM at h
    dsimp only at h
    split at h
    · rename_i hh
      cases h
      have e1 : (Value.ref (ct c) == Value.type t) = false := rfl
      show PySem.W.kitOne K (.ref (ct c)) (.type t) = _
      unfold PySem.W.kitOne
      rw [if_neg (by rw [e1]; simp)]
      show (if PySem.W.kitMeta t = true then PySem.W.subIn K (.ref (ct c)) (.type t) else none) = _
      rw [if_pos (O.kmt t hh.2)]
      exact O.subBi hh.1
    · cases h
theorem Ords.mt (O : Ords K ct anc xs own bi) {D : String} (hD : D ∈ own) : ∀ k b, mtM anc xs D k = some b → PySem.W.exmOne K (ClV ct k) (.ref (ct D)) = some b := by
  intro k b h
  cases k with
  | own c =>
    unfold mtM at h
    dsimp only at h
    split at h
    · rename_i hc
      cases h
      exact PySem.W.exm_ref (O.bas D hD) (O.dic D hD) (O.ty D hD) (O.subOwn hc hD)
    · cases h
  | bi t => cases h
theorem mro_of {C : Addr} {nm q : Str} {N : Addr} {bs bm : List Value} {sn : List Str} {sub : List Value} {ab : Bool} {col : Option Bool} {dd : Option Addr} {k0 k1 k2 k3 k5 : Option Value} {newId : String} (h : K.lookup C = some (excClassObj nm q C N bs bm true sn sub ab col dd k0 k1 k2 k3 k5 newId)) (v : Value) : PySem.W.mroIn K C v = some ((.ref C :: bm).contains v) := by
  have hcls : PySem.W.clsIn K C = some { name := nm, bases := bs, mro := .ref C :: bm, ns := N, qualname := q, hasDict := true, slotNames := sn, subclasses := sub, abstract := ab, collection := col, hasDel := false } := by unfold PySem.W.clsIn; rw [h] <;> rfl
  unfold PySem.W.mroIn
  rw [hcls]
  rfl
end
/-- the table of orders is in order -/
def AncOk (anc : String → List Cl) (xs own bi : List String) : Prop := (xs.all fun c => decide (c ∈ own) && decide (Cl.own c ∈ anc c) && (anc c).all fun k => match k with | .own y => decide (y ∈ own) | .bi _ => true) = true ∧ (bi.all fun t => PySem.W.kitMeta t) = true
instance {anc : String → List Cl} {xs own bi : List String} : Decidable (AncOk anc xs own bi) := by unfold AncOk; infer_instance
section
variable {anc : String → List Cl} {xs own bi : List String}
theorem AncOk.at_ (h : AncOk anc xs own bi) {c : String} (hc : c ∈ xs) : (c ∈ own ∧ Cl.own c ∈ anc c) ∧ ((anc c).all fun k => match k with | .own y => decide (y ∈ own) | .bi _ => true) = true := by
  have := List.all_eq_true.mp h.1 c hc
  rw [Bool.and_eq_true, Bool.and_eq_true] at this
  exact ⟨⟨of_decide_eq_true this.1.1, of_decide_eq_true this.1.2⟩, this.2⟩
theorem AncOk.sub (h : AncOk anc xs own bi) : ∀ c ∈ xs, c ∈ own := fun c hc => (h.at_ hc).1.1
theorem AncOk.self (h : AncOk anc xs own bi) : ∀ c ∈ xs, Cl.own c ∈ anc c := fun c hc => (h.at_ hc).1.2
theorem AncOk.anco (h : AncOk anc xs own bi) : ∀ c ∈ xs, ∀ y, Cl.own y ∈ anc c → y ∈ own := fun c hc y hy => of_decide_eq_true (List.all_eq_true.mp (h.at_ hc).2 (.own y) hy)
theorem AncOk.kmt (h : AncOk anc xs own bi) : ∀ t ∈ bi, PySem.W.kitMeta t = true := fun t ht => List.all_eq_true.mp h.2 t ht
end
end DV

set_option Elab.async false
set_option linter.all false
set_option maxRecDepth 100000
set_option maxHeartbeats 1000000
/-! ExT: numbered dicts read, asked, filled and walked; while one is walked it stands locked (M.tab). -/
namespace DV
open PySem PySem.Spec PyProof.Rows L2
/-- the entries of a numbered dict, locked or not -/
def tabAt (A : Hd) (n : Nat) : Option (List (Key × D)) := match A[n]? with
  | some (.dic es) => some es
  | some (.tab es) => some es
  | _ => none
section
variable {K : PySem.W.Frag} {ct : String → Addr} {io io' : Io} {H H' : Hp} {A : Hd}
theorem tabAt_ok {v : V} {n : Nat} {es : List (Key × D)} (h : HR K ct io H A) (r : DR K ct io H v (.ref n)) (e : tabAt A n = some es) : ∃ a kvs, v = .ref a ∧ Rd H a (.dK kvs) ∧ kvs.map (·.1) = es.map (·.1) ∧ DRs K ct io H (kvs.map (·.2)) (es.map (·.2)) := by
  cases r with
  | ref q =>
    obtain ⟨m, hm⟩ := h.has q
    have mr := h.get q hm
    unfold tabAt at e
    rw [hm] at e
    cases m with
    | dic es => cases e; obtain ⟨xs, q1, k, rs⟩ := mr; exact ⟨_, xs, rfl, .inl q1, k, rs⟩
    | tab es => cases e; obtain ⟨o, xs, q1, k, rs⟩ := mr; exact ⟨_, xs, rfl, .inr ⟨o, q1⟩, k, rs⟩
    | _ => cases e
end
/-- t[k], t a dict under a number -/
def gSubT (d e : D) (A : Hd) : R D := match d with
  | .ref n => (match tabAt A n, keyD e with
    | some es, some k => (match valD es k with
      | some x => .ok x A
      | none => .stk)
    | _, _ => .stk)
  | _ => .stk
def gInT (z : Bool) (e d : D) (A : Hd) : R D := match d with
  | .ref n => (match tabAt A n, keyD e with
    | some es, some k => .ok (.bl ((valD es k).isSome == z)) A
    | _, _ => .stk)
  | _ => .stk
section
variable {X : Cx} {ct : String → Addr} {W : WX} {e a b : Expr} {pos : Pos} {fa fb fc : EF}
theorem pd_subT (hu : X.A.units + 1 < cLine) (ha : PD X ct W a fa) (hb : PD X ct W b fb) (hn : NoSl b) : PD X ct W (.Subscript a b pos) (eBin gSubT fa fb) := by
  refine pe_mono (pe_dget (pos := pos) hu ha hb hn) fun σ H Q ⟨io, A, ro, s, p⟩ => ⟨io, A, ro, s, (p.bind (rep := DR X.K ct)).mono fun v H1 ⟨io1, A1, d, e1, h1, r1, p1⟩ => ⟨io1, A1, ro, s.mono e1 h1, (p1.bind (rep := DR X.K ct)).mono fun w H2 ⟨io2, A2, dk, e2, h2, r2, p2⟩ => ?_⟩⟩
  unfold gSubT at p2
  split at p2
  · rename_i n
    split at p2
    · rename_i es k ht hk
      split at p2
      · rename_i x hx
        obtain ⟨a, kvs, rfl, q, kk, rs⟩ := tabAt_ok h2 (r1.mono e2 h1.noT) ht
        have ew := keyD_ok r2 hk
        subst ew
        have hv := valD_ok k kk rs
        rw [hx] at hv
        obtain ⟨y, hy, ry⟩ := hv
        exact ⟨a, y, rfl, .inl ⟨kvs, k, q, rfl, hy.symm⟩, p2.here h2 ry⟩
      · exact p2.elim
    · exact p2.elim
  · exact p2.elim
theorem inT_fin {z : Bool} {σ : L2.St} {io1 io2 : Io} {H1 H2 : Hp} {A1 A2 : Hd} {v w : V} {dk d : D} {Q : VK} (e2 : Ext io1 H1 io2 H2) (h1 : HR X.K ct io1 H1 A1) (r1 : DR X.K ct io1 H1 v dk) (h2 : HR X.K ct io2 H2 A2) (r2 : DR X.K ct io2 H2 w d) (p : Post X.K ct (DR X.K ct) W σ io2 H2 (gInT z dk d A2) Q) :
    ∃ a o, w = .ref a ∧ DGet H2 a v o ∧ Q (.bl (o.isSome == z)) H2 := by
  unfold gInT at p
  split at p
  · rename_i n
    split at p
    · rename_i es k ht hk
      obtain ⟨a, kvs, rfl, q, kk, rs⟩ := tabAt_ok h2 r2 ht
      have ew := keyD_ok (r1.mono e2 h1.noT) hk
      subst ew
      have hv := valD_ok k kk rs
      refine ⟨a, valV kvs k, rfl, .inl ⟨kvs, k, q, rfl, rfl⟩, ?_⟩
      have es' : (valV kvs k).isSome = (valD es k).isSome := by
        cases hx : valD es k with
        | none => rw [hx] at hv; rw [show valV kvs k = none from hv]; rfl
        | some x => rw [hx] at hv; obtain ⟨y, hy, _⟩ := hv; rw [hy]; rfl
      rw [es']
      exact p.here h2 (.bl _)
    · exact p.elim
  · exact p.elim
theorem pd_inT (hu : X.A.units + 1 < cLine) (ha : PD X ct W a fa) (hb : PD X ct W b fb) (hm : behindInMarks .In b = false := by first | exact nobehind _ (by decide) (by decide) | rfl) : PD X ct W (.Compare a [.In] [b] pos) (eBin (gInT true) fa fb) := by
  refine pe_mono (pe_cmp (pos := pos) (pc_din hu ha hb) hm) fun σ H Q ⟨io, A, ro, s, p⟩ => ⟨io, A, ro, s, (p.bind (rep := DR X.K ct)).mono fun v H1 ⟨io1, A1, d, e1, h1, r1, p1⟩ => ⟨io1, A1, ro, s.mono e1 h1, (p1.bind (rep := DR X.K ct)).mono fun w H2 ⟨io2, A2, dk, e2, h2, r2, p2⟩ => ?_⟩⟩
  obtain ⟨a, o, ew, g, q⟩ := inT_fin e2 h1 r1 h2 r2 p2
  exact ⟨a, o, ew, g, by rw [show o.isSome = (o.isSome == true) by cases o <;> rfl]; exact q⟩
theorem pd_notInT (hu : X.A.units + 1 < cLine) (ha : PD X ct W a fa) (hb : PD X ct W b fb) (hm : behindInMarks .NotIn b = false := by first | exact nobehind _ (by decide) (by decide) | rfl) : PD X ct W (.Compare a [.NotIn] [b] pos) (eBin (gInT false) fa fb) := by
  refine pe_mono (pe_cmp (pos := pos) (pc_dnotin hu ha hb) hm) fun σ H Q ⟨io, A, ro, s, p⟩ => ⟨io, A, ro, s, (p.bind (rep := DR X.K ct)).mono fun v H1 ⟨io1, A1, d, e1, h1, r1, p1⟩ => ⟨io1, A1, ro, s.mono e1 h1, (p1.bind (rep := DR X.K ct)).mono fun w H2 ⟨io2, A2, dk, e2, h2, r2, p2⟩ => ?_⟩⟩
  obtain ⟨a, o, ew, g, q⟩ := inT_fin e2 h1 r1 h2 r2 p2
  exact ⟨a, o, ew, g, by rw [show (!o.isSome) = (o.isSome == false) by cases o <;> rfl]; exact q⟩
/-! ### d.setdefault(k, v) -/
def gSetd (d e v : D) (A : Hd) : R D := match numD A d, keyD e with
  | some (n, es), some k => if es.length < sizeLine then (match valD es k with
    | some x => .ok x A
    | none => .ok v (A.set n (.dic (putD es k v)))) else .stk
  | _, _ => .stk
def isDn (A : Hd) (d : D) : Bool := (numD A d).isSome
def eSetd (fa fb fc : EF) : EF := fun ro A => (fa ro A).bind fun d A1 => if isDn A1 d then (fb ro A1).bind fun e A2 => (fc ro A2).bind fun v A3 => gSetd d e v A3 else .stk
theorem pd_setd {o f : Expr} {apos cpos : Pos} (ho : PD X ct W o fa) (he : PD X ct W e fb) (hf : PD X ct W f fc) (m : M2 X o "setdefault" apos e f cpos) : PD X ct W (.Call (.Attribute o "setdefault" apos) [e, f] [] cpos) (eSetd fa fb fc) := by
  refine pe_mono (pe_dsetd ho he hf m) fun σ H Q ⟨io, A, ro, s, p⟩ => ⟨io, A, ro, s, (p.bind (rep := DR X.K ct)).mono fun v H1 ⟨io1, A1, d, e1, h1, r1, p1⟩ => ?_⟩
  split at p1
  · rename_i hd
    unfold isDn at hd
    obtain ⟨⟨n, es⟩, hn⟩ := Option.isSome_iff_exists.mp hd
    obtain ⟨a, kvs, rfl, rfl, hio, hH, ek, rs⟩ := numD_ok h1 r1 hn
    refine ⟨a, rfl, .inl ⟨kvs, .inl hH⟩, io1, A1, ro, s.mono e1 h1, (p1.bind (rep := DR X.K ct)).mono fun w H2 ⟨io2, A2, dk, e2, h2, r2, p2⟩ => ⟨io2, A2, ro, (s.mono e1 h1).mono e2 h2, (p2.bind (rep := DR X.K ct)).mono fun z H3 ⟨io3, A3, dv, e3, h3, r3, p3⟩ => ?_⟩⟩
    unfold gSetd at p3
    split at p3
    · rename_i n' es' k hn' hk
      have rr := (r1.mono e2 h1.noT).mono e3 h2.noT
      obtain ⟨a', kvs', ea, en, hio', hH', ek', rs'⟩ := numD_ok h3 rr hn'
      cases ea
      split at p3
      · rename_i hz
        have ew := keyD_ok (r2.mono e3 h2.noT) hk
        subst ew
        have hl : kvs'.length = es'.length := by simpa using congrArg List.length ek'
        have hv := valD_ok k ek' rs'
        refine ⟨kvs', k, hH', rfl, by rw [hl]; exact hz, fun y hy => ?_, fun hy => ?_⟩
        · cases hx : valD es' k with
          | none => rw [hx] at hv; rw [show valV kvs' k = none from hv] at hy; cases hy
          | some x =>
            rw [hx] at hv p3
            obtain ⟨y', hy', ry⟩ := hv
            rw [hy] at hy'
            cases hy'
            exact p3.here h3 ry
        · cases hx : valD es' k with
          | some x => rw [hx] at hv; obtain ⟨y', hy', _⟩ := hv; rw [hy] at hy'; cases hy'
          | none =>
            rw [hx] at p3
            have x1 := h3.extW (o := .dK (putK kvs' k z)) hio' (nfzD hH')
            exact p3 _ io3 _ x1 (h3.write hio' (nfzD hH') ⟨_, upd_same, put_keys k z dv ek', (put_vals r3 ek' rs').mono x1 h3.noT⟩) (r3.mono x1 h3.noT)
      · exact p3.elim
    · exact p3.elim
  · exact p1.elim
end
end DV

set_option Elab.async false
set_option linter.all false
set_option maxRecDepth 100000
set_option maxHeartbeats 1000000
/-! ExU: for k in d, for k, v in d.items(), d locked meanwhile. -/
namespace DV
open PySem PySem.Spec PyProof.Rows L2
/-! ### d.items(), each pair a new tuple -/
def ItiF (d : Addr) (o : Obj) (kvs : List (Key × V)) : It :=
  ⟨fun i H => H d = some (.frz o (.dK kvs)) ∧ i < kvs.length, fun i H x H' => ∃ T k v, ∃ oT : Obj, kvs[i]? = some (k, v) ∧ x = .ref T ∧ H T = none ∧ oT.dict = none ∧ H' = upd H T (.frz oT (.tup [kV k, v])), fun i H => H d = some (.frz o (.dK kvs)) ∧ kvs.length ≤ i⟩
theorem turn_itemsF {P : Program} {w : World} {K : PySem.W.Frag} {d : Addr} {o : Obj} {es : Array DictEntry} {ep : Nat} {kvs : List (Key × V)} {elts : List Expr} {kk : Nat} {tpos : Pos} (it : Addr) (hod : o.data = .dict es ep) :
    Turn P w K (.Tuple elts kk tpos) (ItiF d o kvs) [it] it (fun i h => ∃ ok ov, IsItemIter h it d i kvs.length ep ok ov) where
  mem := by simp
  obj := (turn_items (K := K) (P := P) (w := w) (d := d) (o := o) (kvs := kvs) (elts := elts) (kk := kk) (tpos := tpos) it hod).obj
  keep := (turn_items (K := K) (P := P) (w := w) (d := d) (o := o) (kvs := kvs) (elts := elts) (kk := kk) (tpos := tpos) it hod).keep
  item := by
    intro X hP hw hK hc i pins s σ H E I hf st hg
    subst hP hw hK
    obtain ⟨hd, hi⟩ := hg
    obtain ⟨hs, hgd, hx, es', ep', vs, hdt, hsz, kv, hm⟩ := I.frzK hd
    obtain ⟨rfl, rfl⟩ := dict_ep hod hdt
    obtain ⟨⟨k, v⟩, hkv⟩ : ∃ p, kvs[i]? = some p := ⟨kvs[i], List.getElem?_eq_getElem hi⟩
    obtain ⟨u, hu, ru⟩ := kv_get kv hkv
    have hl : kvs.length = vs.length := Paired.length kv
    obtain ⟨ok, ov, he⟩ := st
    rw [hl] at he
    have hlt : it < s.heap.objs.size := Heap.lt_size he
    refine wpAny_pyNext_items_item he hm hu fun key h' hkey ho hT hz hk => ?_
    refine ⟨_, rfl, wpAny_letOwnedTupleGo_items (s := { s with heap := h' }) ho fun h'' he' sb => ?_⟩
    have hT2 : h''.get? s.heap.objs.size = some { cls := .type "tuple", data := .seq #[key, u] } := (sb.2 _ (Nat.ne_of_gt hlt)).trans hT
    let oT : Obj := { cls := .type "tuple", data := .seq #[key, u] }
    have new : ObjOk X.prog X.w (upd H s.heap.objs.size (.frz oT (.tup [kV k, v]))) h'' s.heap.objs.size (.frz oT (.tup [kV k, v])) :=
      ⟨hT2, by show 2 ≤ sizeLine; decide, [key, u], .cons (relV_key (show keyIs k key = true from hkey)) (.cons ru .nil), ⟨_, hT2, rfl, _, rfl⟩⟩
    have I1 : Inv X pins σ (upd H s.heap.objs.size (.frz oT (.tup [kV k, v]))) { s with heap := h'' } :=
      I.turnedNew (t' := s.toks) (ch := [it]) (fun b ob hb e => (sb.2 b (by simpa using hb)).trans (hk b ob (by simpa using hb) e)) hf (Nat.le_refl _) new
    refine ⟨.ref s.heap.objs.size, _, I1, rfl, ⟨_, k, v, oT, hkv, rfl, I.hok.fresh (Nat.le_refl _), rfl, rfl⟩, ⟨key, u, ?_⟩, fun b hb => ?_⟩
    · rw [hl]; exact he'
    · have e : b = it := by simpa using hb
      rw [e, upd_ne (Nat.ne_of_lt hlt)]
      exact (hf it (by simp)).1
  done := by
    intro X hP hw hK hc i pins s σ H E I hf st hg
    exact (turn_items (K := K) (P := P) (w := w) (d := d) (o := o) (kvs := kvs) (elts := elts) (kk := kk) (tpos := tpos) it hod).done X hP hw hK hc i pins s σ H E I hf st hg
  self := (turn_items (K := K) (P := P) (w := w) (d := d) (o := o) (kvs := kvs) (elts := elts) (kk := kk) (tpos := tpos) it hod).self
def iItemsF (td : TE) : TI := fun σ H R => td σ H fun x H1 => ∃ d o kvs, x = .ref d ∧ H1 d = some (.frz o (.dK kvs)) ∧ R (ItiF d o kvs) H1
theorem pi_itemsF {X : Cx} {e : Expr} {td : TE} {apos cpos : Pos} {elts : List Expr} {kk : Nat} {tpos : Pos} (he : PE X e td) (hbase : attributeBase e "items" X.env (eval e X.env) = eval e X.env := by rfl) (hline : (apos.endLine == cpos.line) = true := by rfl) :
    PI X (.Tuple elts kk tpos) (.Call (.Attribute e "items" apos) [] [] cpos) (iItemsF td) := by
  refine ⟨fun pins s σ H R I h => ?_⟩
  refine wpAny_Call_method (T := "dict") (id := "dict.items") hbase rfl hline F.plainAttrs_dict F.slot_dict_items F.type_dict_items (thn (he.run pins s σ H _ I h) fun u s1 ⟨x, H1, I1, rx, d, o, kvs, ex, hd, q⟩ => ?_)
  subst ex
  obtain rfl : u = Value.ref d := rx
  obtain ⟨hs, hgd, hx, es, ep, vs, hdt, hsz, kv, hm⟩ := I1.frzK hd
  have hl : kvs.length = vs.length := Paired.length kv
  refine ⟨hm.dictOf.typeIs, hm.dictOf.mapOf.noDict, ?_⟩
  have I2 : Inv X pins σ H1 { s1 with heap := s1.heap.push { cls := .type "dict_items", data := .fields #[.ref d] } } := I1.kept (t' := s1.toks) fun b ob q => Heap.get?_push_of_some _ q
  have fin : wpAny (model X.prog X.w) X.A (pyIter (.ref s1.heap.objs.size)) (PIE X pins σ (.Tuple elts kk tpos) R) X.xe { s1 with heap := s1.heap.push { cls := .type "dict_items", data := .fields #[.ref d] } } := by
    refine wpAny_pyIter_items (d := d) (knd := mixKind X.prog X.w) ⟨_, Heap.get?_push_size _ rfl, rfl, rfl⟩ (hm.push _) (pi_one (tk := s1.toks) I2 _ (turn_itemsF _ hdt) ⟨.none, .none, ?_⟩ q)
    rw [hl]
    exact Heap.get?_push_size _ rfl
  show wpAny _ _ (callWith cpos (.builtin "dict.items") [.ref d] [] []) _ X.xe s1
  exact method_meetsIn F.slot_dict_items F.entry_dict_items rfl (PySem.evalArgs_none ⟨rfl, hm.dictOf.typeIs, F.args_dict_items_1 _, _, meets_dict_items (mixKind X.prog X.w) d hs, ⟨vs, hm.dictOf⟩, fin⟩)
/-! ### what is walked, by data -/
def kD : Key → D
  | .inl i => .int i
  | .inr x => .str x
theorem kD_ok {K : PySem.W.Frag} {ct : String → Addr} {io : Io} {H : Hp} (k : Key) : DR K ct io H (kV k) (kD k) := by
  cases k with
  | inl i => exact .int i
  | inr x => exact .str x
def keysD (es : List (Key × D)) : List D := es.map fun p => kD p.1
def itemsD (es : List (Key × D)) : List D := es.map fun p => .tup [kD p.1, p.2]
section
variable {K : PySem.W.Frag} {ct : String → Addr} {io : Io} {H : Hp} {A : Hd} {a : Addr} {o : Obj} {kvs : List (Key × V)} {es : List (Key × D)}
theorem key_at (ek : kvs.map (·.1) = es.map (·.1)) {i : Nat} {k : Key} {d : D} (h : es[i]? = some (k, d)) : ∃ v, kvs[i]? = some (k, v) := by
  have h1 : (es.map (·.1))[i]? = some k := by rw [List.getElem?_map, h]; rfl
  rw [← ek, List.getElem?_map] at h1
  cases hk : kvs[i]? with
  | none => rw [hk] at h1; cases h1
  | some p =>
    rw [hk] at h1
    obtain ⟨k', v⟩ := p
    cases h1
    exact ⟨v, rfl⟩
theorem keys_len (ek : kvs.map (·.1) = es.map (·.1)) : kvs.length = es.length := by simpa using congrArg List.length ek
theorem walkK (hH : H a = some (.frz o (.dK kvs))) (ek : kvs.map (·.1) = es.map (·.1)) : WalkR K ct io H (Itk a o kvs) (.fix (keysD es)) := by
  intro io2 H2 A2 e h _
  have q := e.frz a o _ hH
  refine ⟨fun i d hd => ?_, fun i hi => ⟨q, ?_⟩⟩
  · have hd' : (keysD es)[i]? = some d := hd
    unfold keysD at hd'
    rw [List.getElem?_map] at hd'
    cases hp : es[i]? with
    | none => rw [hp] at hd'; cases hd'
    | some p =>
      rw [hp] at hd'
      cases hd'
      obtain ⟨v, hv⟩ := key_at ek hp
      refine ⟨⟨q, (List.getElem?_eq_some_iff.mp hv).1⟩, fun x H3 y => ?_⟩
      obtain ⟨rfl, k, w, hk, rfl⟩ := y
      rw [hv] at hk
      cases hk
      exact ⟨Ext.refl, h, kD_ok _⟩
  · have : (keysD es).length ≤ i := hi
    unfold keysD at this
    rw [List.length_map] at this
    rw [keys_len ek]; exact this
theorem walkI (hr : HR K ct io H A) (hH : H a = some (.frz o (.dK kvs))) (ek : kvs.map (·.1) = es.map (·.1)) (rs : DRs K ct io H (kvs.map (·.2)) (es.map (·.2))) : WalkR K ct io H (ItiF a o kvs) (.fix (itemsD es)) := by
  intro io2 H2 A2 e h _
  have q := e.frz a o _ hH
  have rs2 := rs.mono e hr.noT
  refine ⟨fun i d hd => ?_, fun i hi => ⟨q, ?_⟩⟩
  · have hd' : (itemsD es)[i]? = some d := hd
    unfold itemsD at hd'
    rw [List.getElem?_map] at hd'
    cases hp : es[i]? with
    | none => rw [hp] at hd'; cases hd'
    | some p =>
      rw [hp] at hd'
      cases hd'
      obtain ⟨v, hv⟩ := key_at ek hp
      refine ⟨⟨q, (List.getElem?_eq_some_iff.mp hv).1⟩, fun x H3 y => ?_⟩
      obtain ⟨T, k, w, oT, hk, rfl, nT, ho, rfl⟩ := y
      rw [hv] at hk
      cases hk
      have h1 : (es.map (·.2))[i]? = some p.2 := by rw [List.getElem?_map, hp]; rfl
      obtain ⟨w', hw, rw'⟩ := rs2.get h1
      rw [List.getElem?_map, hv] at hw
      cases hw
      exact pair_new h nT ho (kD_ok _) rw'
  · have : (itemsD es).length ≤ i := hi
    unfold itemsD at this
    rw [List.length_map] at this
    rw [keys_len ek]; exact this
end
/-- for k in t: t stands locked -/
def iKeysT (fe : EF) : IF := fun ro A => (fe ro A).bind fun d A1 => match d with
  | .ref n => (match A1[n]? with
    | some (.tab es) => .ok (.fix (keysD es)) A1
    | _ => .stk)
  | _ => .stk
def iItemsT (fe : EF) : IF := fun ro A => (fe ro A).bind fun d A1 => match d with
  | .ref n => (match A1[n]? with
    | some (.tab es) => .ok (.fix (itemsD es)) A1
    | _ => .stk)
  | _ => .stk
section
variable {X : Cx} {ct : String → Addr} {W : WX} {e tg : Expr} {fe : EF} {apos cpos : Pos}
theorem pid_keysT (he : PD X ct W e fe) : PID X ct W tg e (iKeysT fe) :=
  pi_mono (pi_keys he) fun σ H Q ⟨io, A, ro, s, p⟩ => ⟨io, A, ro, s, (p.bind (rep := DR X.K ct)).mono fun v H1 ⟨io1, A1, d, e1, h1, r1, p1⟩ => by
    split at p1
    · rename_i n
      split at p1
      · rename_i es hm
        cases r1 with
        | @ref a _ q =>
          obtain ⟨o, kvs, hH, ek, rs⟩ := h1.get q hm
          exact ⟨a, o, rfl, .inl ⟨kvs, hH, p1 _ io1 H1 Ext.refl h1 (walkK hH ek)⟩⟩
      · exact p1.elim
    · exact p1.elim⟩
theorem pid_itemsT {elts : List Expr} {kk : Nat} {tpos : Pos} (he : PD X ct W e fe) (hbase : attributeBase e "items" X.env (eval e X.env) = eval e X.env := by rfl) (hline : (apos.endLine == cpos.line) = true := by rfl) : PID X ct W (.Tuple elts kk tpos) (.Call (.Attribute e "items" apos) [] [] cpos) (iItemsT fe) :=
  pi_mono (pi_itemsF he hbase hline) fun σ H Q ⟨io, A, ro, s, p⟩ => ⟨io, A, ro, s, (p.bind (rep := DR X.K ct)).mono fun v H1 ⟨io1, A1, d, e1, h1, r1, p1⟩ => by
    split at p1
    · rename_i n
      split at p1
      · rename_i es hm
        cases r1 with
        | @ref a _ q =>
          obtain ⟨o, kvs, hH, ek, rs⟩ := h1.get q hm
          exact ⟨a, o, kvs, rfl, hH, p1 _ io1 H1 Ext.refl h1 (walkI h1 hH ek rs)⟩
      · exact p1.elim
    · exact p1.elim⟩
end
/-! ### the lock -/
section
variable {K : PySem.W.Frag} {ct : String → Addr} {W : WX} {σ : L2.St} {io io' : Io} {H H' : Hp} {A A' : Hd} {ro : DV.Env} {a : Addr} {od : Obj} {kvs kvs' : List (Key × V)}
theorem ne_of_frz {b : Addr} {x : HO} (e : H a = some (.frz od (.dK kvs))) (q : H b = some x) (n : x ≠ .frz od (.dK kvs)) : b ≠ a := fun z => by
  rw [z, e] at q
  exact n (Option.some.inj q).symm
mutual
/-- the dict at a is let go: the data do not see it -/
theorem DR.unl (ha : a ∈ io.nm) (e : H a = some (.frz od (.dK kvs))) : ∀ {v : V} {d : D}, DR K ct io H v d → DR K ct io (upd H a (.dK kvs')) v d
  | _, _, .non => .non
  | _, _, .bl b => .bl b
  | _, _, .int i => .int i
  | _, _, .str x => .str x
  | _, _, .tup h hs => .tup (h.elim (fun ⟨o, q, z⟩ => .inl ⟨o, by rw [upd_ne (ne_of_frz e q (fun w => by cases w))]; exact q, z⟩) .inr) (DRs.unl ha e hs)
  | _, _, .lst n h hs => .lst n (by rw [upd_ne (fun z => n (by rw [z]; exact .inl ha))]; exact h) (DRs.unl ha e hs)
  | _, _, .scr h hs => .scr (h.elim (fun ⟨n, u, q⟩ => .inl ⟨n, u, by rw [upd_ne (fun z => n (by rw [z]; exact .inl ha))]; exact q⟩) .inr) (DRs.unl ha e hs)
  | _, _, .dic n h k hs => .dic n (by rw [upd_ne (fun z => n (by rw [z]; exact .inl ha))]; exact h) k (DRs.unl ha e hs)
  | _, _, .ref h => .ref h
  | _, _, .ty n => .ty n
  | _, _, .own n => .own n
theorem DRs.unl (ha : a ∈ io.nm) (e : H a = some (.frz od (.dK kvs))) : ∀ {vs : List V} {ds : List D}, DRs K ct io H vs ds → DRs K ct io (upd H a (.dK kvs')) vs ds
  | _, _, .nil => .nil
  | _, _, .cons h hs => .cons (DR.unl ha e h) (DRs.unl ha e hs)
end
theorem MR.unl (ha : a ∈ io.nm) (e : H a = some (.frz od (.dK kvs))) {b : Addr} {m : M} (ne : b ≠ a) (h : MR K ct io H b m) : MR K ct io (upd H a (.dK kvs')) b m := by
  cases m with
  | lst ds => obtain ⟨xs, q, r⟩ := h; exact ⟨xs, by rw [upd_ne ne]; exact q, r.unl ha e⟩
  | dic es => obtain ⟨xs, q, k, r⟩ := h; exact ⟨xs, by rw [upd_ne ne]; exact q, k, r.unl ha e⟩
  | tab es => obtain ⟨o', xs, q, k, r⟩ := h; exact ⟨o', xs, by rw [upd_ne ne]; exact q, k, r.unl ha e⟩
  | ins c fs => obtain ⟨dx, gs, q, k, r⟩ := h; exact ⟨dx, gs, by rw [upd_ne ne]; exact q, k, r.unl ha e⟩
  | exc c fs =>
    obtain ⟨d, q, z⟩ := h
    refine ⟨d, by rw [upd_ne ne]; exact q, z.imp id ?_⟩
    rintro ⟨pp, gs, h1, h2, h3, h4, h5⟩
    exact ⟨pp, gs, h1, h2, by rw [upd_ne (fun w => h2 (by rw [w]; exact .inl ha))]; exact h3, h4, h5.unl ha e⟩
theorem HR.unl {n : Nat} {es : List (Key × D)} (h : HR K ct io H A) (hn : io.nm[n]? = some a) (e : H a = some (.frz od (.dK kvs))) (ek : kvs.map (·.1) = es.map (·.1)) (rs : DRs K ct io H (kvs.map (·.2)) (es.map (·.2))) : HR K ct io (upd H a (.dK kvs)) (A.set n (.dic es)) := by
  have ha := List.mem_of_getElem? hn
  refine ⟨h.nd, by rw [List.length_set]; exact h.len, fun k b m e1 e2 => ?_, fun b hb => ?_⟩
  · by_cases hk : n = k
    · subst hk
      have hl : n < A.length := by rw [← h.len]; exact (List.getElem?_eq_some_iff.mp hn).1
      rw [List.getElem?_set_self hl] at e2
      rw [hn] at e1
      cases e1; cases e2
      exact ⟨kvs, upd_same, ek, rs.unl ha e⟩
    · rw [List.getElem?_set_ne hk] at e2
      refine (h.at_ k b m e1 e2).unl ha e fun z => ?_
      subst z
      obtain ⟨h1, q1⟩ := List.getElem?_eq_some_iff.mp hn
      obtain ⟨h2, q2⟩ := List.getElem?_eq_some_iff.mp e1
      exact hk ((List.getElem_inj h.nd).mp (q1.trans q2.symm))
  · obtain ⟨h1, xs, h2⟩ := h.hid b hb
    exact ⟨h1, xs, by rw [upd_ne (fun z : b = a => h1 (z ▸ ha))]; exact h2⟩
theorem EnvR.unl (h : EnvR K ct io H ro σ) (ha : a ∈ io.nm) (e : H a = some (.frz od (.dK kvs))) : EnvR K ct io (upd H a (.dK kvs')) ro σ :=
  ⟨h.len, fun i d hd => let ⟨v, e1, r⟩ := h.at_ i d hd; ⟨v, e1, r.unl ha e⟩⟩
/-- seen from before the lock -/
theorem Ext.unl (x : Ext io (upd H a (.frz od (.dK kvs))) io' H') (ha : a ∈ io.nm) (hH : H a = some (.dK kvs)) : Ext io H io' (upd H' a (.dK kvs')) := by
  have back : ∀ b, b ≠ a → upd H a (.frz od (.dK kvs)) b = H b := fun b hb => upd_ne hb
  refine ⟨x.pre, x.hd1, fun b hb => ?_, fun b h k => ?_, fun b o q k => ?_, fun b o q => ?_, fun b o u q => ?_⟩
  · rcases x.hd2 b hb with z | z
    · exact .inl z
    · by_cases hba : b = a
      · rw [hba, upd_same] at z; cases z
      · rw [back b hba] at z; exact .inr z
  · have z := x.fresh b h k
    by_cases hba : b = a
    · exact absurd (hba ▸ ha) k
    · rw [back b hba] at z; exact z
  · have hba : b ≠ a := fun z => k (z ▸ ha)
    rw [upd_ne hba]
    exact x.keep b o (by rw [back b hba]; exact q) k
  · by_cases hba : b = a
    · exact ⟨.dK kvs', by rw [hba, upd_same]⟩
    · obtain ⟨o', q'⟩ := x.there b o (by rw [back b hba]; exact q)
      exact ⟨o', by rw [upd_ne hba]; exact q'⟩
  · have hba : b ≠ a := fun z => by rw [z, hH] at q; cases q
    rw [upd_ne hba]
    exact x.frz b o u (by rw [back b hba]; exact q)
end
/-- the dict under n is let go -/
def unlD (n : Nat) (es : List (Key × D)) (o : Out) : Out := match o with
  | .go f ro A => .go f ro (A.set n (.dic es))
  | _ => .stk
/-- the dict that fe gives is locked meanwhile -/
def lockD (fe : EF) (f : SF) : SF := fun ro A => match fe ro A with
  | .ok (.ref n) _ => (match A[n]? with
    | some (.dic es) => unlD n es (f ro (A.set n (.tab es)))
    | _ => f ro A)
  | _ => f ro A
theorem psd_lock {X : Cx} {ct : String → Addr} {W : WX} {st : Stmt} {fe : EF} {f : SF} (h : PSD X ct W st f) : PSD X ct W st (lockD fe f) := by
  refine ⟨fun pins s σ H Z I hw => ?_⟩
  obtain ⟨io, A, ro, s1, p⟩ := hw
  have plain : SPost X.K ct W io H (f ro A) Z → wpAny (model X.prog X.w) X.A (exec st X.env) (SP X pins Z) X.xe s := fun p => h.run pins s σ H Z I ⟨io, A, ro, s1, p⟩
  unfold lockD at p
  split at p
  · rename_i n A0 hfe
    split at p
    · rename_i es hm
      obtain ⟨a, hn⟩ : ∃ a, io.nm[n]? = some a := ⟨_, List.getElem?_eq_getElem (by rw [s1.hr.len]; exact (List.getElem?_eq_some_iff.mp hm).1)⟩
      obtain ⟨kvs, hH, ek, rs⟩ := s1.hr.get hn hm
      have ha := List.mem_of_getElem? hn
      refine (ps_lock h).run pins s σ H Z I ⟨a, .dK kvs, hH, trivial, fun od => ?_⟩
      have x1 := s1.hr.extW (o := .frz od (.dK kvs)) hn (nfzD hH)
      refine ⟨io, A.set n (.tab es), ro, s1.write hn (nfzD hH) ⟨od, kvs, upd_same, ek, rs.mono x1 s1.hr.noT⟩, ?_⟩
      have hrl : HR X.K ct io (upd H a (.frz od (.dK kvs))) (A.set n (.tab es)) := s1.hr.write hn (nfzD hH) ⟨od, kvs, upd_same, ek, rs.mono x1 s1.hr.noT⟩
      have rsl := rs.mono x1 s1.hr.noT
      have hl : upd H a (.frz od (.dK kvs)) a = some (.frz od (.dK kvs)) := upd_same
      generalize f ro (A.set n (.tab es)) = o at p
      cases o with
      | stk => exact p.elim
      | err c fs ro1 A1 => exact p.elim
      | go fl ro1 A1 =>
        cases fl with
        | nx =>
          intro σ' io' H' e s'
          have q := e.frz a _ _ hl
          exact ⟨q, p σ' io' _ (e.unl ha hH) ⟨s'.hr.unl (e.mem hn) q ek (rsl.mono e hrl.noT), s'.env.unl (List.mem_of_getElem? (e.mem hn)) q⟩⟩
        | bk =>
          intro σ' io' H' e s'
          have q := e.frz a _ _ hl
          exact ⟨q, p σ' io' _ (e.unl ha hH) ⟨s'.hr.unl (e.mem hn) q ek (rsl.mono e hrl.noT), s'.env.unl (List.mem_of_getElem? (e.mem hn)) q⟩⟩
        | ct =>
          intro σ' io' H' e s'
          have q := e.frz a _ _ hl
          exact ⟨q, p σ' io' _ (e.unl ha hH) ⟨s'.hr.unl (e.mem hn) q ek (rsl.mono e hrl.noT), s'.env.unl (List.mem_of_getElem? (e.mem hn)) q⟩⟩
        | ret d =>
          intro v io' H' e h' r'
          have q := e.frz a _ _ hl
          exact ⟨q, p v io' _ (e.unl ha hH) (h'.unl (e.mem hn) q ek (rsl.mono e hrl.noT)) (r'.unl (List.mem_of_getElem? (e.mem hn)) q)⟩
    · exact plain p
  · exact plain p
end DV

set_option Elab.async false
set_option linter.all false
set_option maxRecDepth 100000
set_option maxHeartbeats 1000000
/-! ExV: a set of texts whose table can be walked; sorted(set(texts)). -/
namespace DV
open PySem PySem.Spec PyProof.Rows L2
def tkOf (e : Int × Value) : Str := match e.2 with | .str k _ => k | _ => Str.empty
def GoodT (P : Program) (w : World) (e : Int × Value) : Prop := ∃ k tk, e.2 = Value.str k tk ∧ e.1 = (PySem.strKind P w).hash k
/-- the set of texts at a: S its members, n their number -/
def SetT (P : Program) (w : World) (h : Heap) (a : Addr) (S : Str → Bool) (n : Nat) : Prop :=
  ∃ o es ep t, h.get? a = some o ∧ o.ExactSet ∧ o.data = .set es ep t ∧ (∀ e ∈ es.toList, GoodT P w e) ∧ (es.toList.map tkOf).Nodup ∧ (∀ k, S k = true ↔ k ∈ es.toList.map tkOf) ∧
    es.size < scanBound ∧ t.fits es.size = true ∧ es.size = n ∧ Ris t.place.toList ∧ (w.params.followText "set-order" = true ∨ t.led = true)
section
variable {P : Program} {w : World} {h h' : Heap} {a : Addr} {S : Str → Bool} {n : Nat}
theorem SetT.at (R : SetT P w h a S n) (k : ∀ o, h.get? a = some o → h'.get? a = some o) : SetT P w h' a S n := by
  obtain ⟨o, es, ep, t, ho, r⟩ := R
  exact ⟨o, es, ep, t, k o ho, r⟩
theorem SetT.congr {S' : Str → Bool} {n' : Nat} (R : SetT P w h a S n) (e : ∀ k, S' k = S k) (en : n' = n) : SetT P w h a S' n' := by
  have q : S' = S := funext e
  rw [q, en]; exact R
theorem goodT_elems {l : List (Int × Value)} (g : ∀ e ∈ l, GoodT P w e) : ElemsOf (PySem.strKind P w) l := fun e he => by
  obtain ⟨k, tk, h1, h2⟩ := g e he
  exact ⟨⟨k, by rw [h1]; exact PySem.strKind_is P w k tk, h2⟩, by rw [h1] <;> rfl⟩
theorem goodT_is {e : Int × Value} (g : GoodT P w e) (k : Str) : (PySem.strKind P w).is k e.2 = true ↔ tkOf e = k := by
  obtain ⟨k0, tk, h1, _⟩ := g
  unfold tkOf
  rw [h1]
  show ((Value.str k0 tk).isStrOf k = true) ↔ k0 = k
  simp [Value.isStrOf]
theorem goodT_mem {l : List (Int × Value)} (g : ∀ e ∈ l, GoodT P w e) (k : Str) : k ∈ l.map tkOf ↔ ∃ e ∈ l, (PySem.strKind P w).is k e.2 = true := by
  rw [List.mem_map]
  constructor
  · rintro ⟨e, he, q⟩
    exact ⟨e, he, (goodT_is (g e he) k).2 q⟩
  · rintro ⟨e, he, q⟩
    exact ⟨e, he, (goodT_is (g e he) k).1 q⟩
theorem SetT.setOf (R : SetT P w h a S n) : h.SetOf (PySem.strKind P w) a S n := by
  obtain ⟨o, es, ep, t, ho, hx, hd, g, nd, hm, hb, hf, hn, _⟩ := R
  exact ⟨o, es, ep, t, ho, hx, hd, goodT_elems g, fun k => (hm k).trans (goodT_mem g k), hb, hf, hn⟩
end

section
variable {P : Program} {w : World} {A : Around} {E : Value → Shared → Prop} {s : Shared} {a : Addr} {S : Str → Bool} {n : Nat}

/-! ### add -/
theorem setT_add_tail {g : Bool → Sem Unit} (hg : ∀ (b : Bool) (s₁ : Shared) (Q' : Unit → Shared → Prop), Q' () s₁ → wpAny (model P w) A (g b) Q' E s₁)
    {o : Obj} {es : Array (Int × Value)} {ep : Nat} {t : SetTable} (ho : s.heap.get? a = some o) (hex : o.ExactSet) (hd : o.data = .set es ep t)
    {es1 : Array (Int × Value)} {t2 : SetTable} {S' : Str → Bool} (g1 : ∀ e ∈ es1.toList, GoodT P w e) (nd1 : (es1.toList.map tkOf).Nodup) (m1 : ∀ k, S' k = true ↔ k ∈ es1.toList.map tkOf)
    (hb1 : es1.size < scanBound) (hf2 : t2.fits es1.size = true) (hr : Ris t2.place.toList) (hl : w.params.followText "set-order" = true ∨ t2.led = true) {wasDummy : Bool} {R : Option Bool → Shared → Prop}
    (hR : ∀ h', Heap.SameBut a s.heap h' → SetT P w h' a S' es1.size → R (some true) { s with heap := h' }) :
    wpAny (model P w) A (do
        storeSet a es1 t2
        if (!wasDummy && t2.tooFull) = true then do
            g (relayAll t2 es1 (SetTable.grown es1.size)).2.2
            storeSet a (relayAll t2 es1 (SetTable.grown es1.size)).1 (relayAll t2 es1 (SetTable.grown es1.size)).2.1
            pure (some true)
          else pure (some true)) R E s := by
  refine wpAny_bind (wpAny_storeSet_of ho hd ?_ (fits_of_scanBound hb1))
  have ho1 := store_at (es' := es1) (t' := t2) ho hd
  have sb1 := Heap.SameBut.update s.heap a (Obj.putSet es1 t2)
  split
  · have pm := relayAll_perm t2 es1 (SetTable.grown es1.size)
    have hf3 := relayAll_fits t2 es1 (SetTable.grown es1.size)
    have hr3 := relayAll_ris t2 es1 (SetTable.grown es1.size)
    have hl3 := relayAll_led t2 es1 (SetTable.grown es1.size)
    generalize relayAll t2 es1 (SetTable.grown es1.size) = Z at pm hf3 hr3 hl3 ⊢
    obtain ⟨es2, t3, gave⟩ := Z
    dsimp only at pm hf3 hr3 hl3 ⊢
    have hsz : es2.size = es1.size := by rw [← Array.length_toList, pm.length_eq, Array.length_toList]
    have hb2 : es2.size < scanBound := by rw [hsz]; exact hb1
    refine wpAny_bind (hg _ _ _ ?_)
    refine wpAny_bind (wpAny_storeSet_of ho1 rfl ?_ (fits_of_scanBound hb2))
    have ho2 := store_at (es' := es2) (t' := t3) ho1 rfl
    refine wpAny_pure (hR _ (sb1.trans (Heap.SameBut.update _ a _)) ?_)
    exact ⟨_, es2, _, t3, ho2, hex, rfl, fun e he => g1 e (pm.mem_iff.mp he), (pm.map tkOf).nodup_iff.mpr nd1, fun k => (m1 k).trans (pm.map tkOf).mem_iff.symm, hb2, hf3, hsz, hr3,
      hl.imp id fun z => by rw [hl3]; exact z⟩
  · exact wpAny_pure (hR _ sb1 ⟨_, es1, _, t2, ho1, hex, rfl, g1, nd1, m1, hb1, hf2, rfl, hr, hl⟩)

theorem setT_add_hashed {k : Str} {tk : Tok} {Q : Bool → Shared → Prop} (R : SetT P w s.heap a S n) (room : n + 1 < scanBound)
    (hQ : ∀ h', Heap.SameBut a s.heap h' → SetT P w h' a (fun j => S j || decide (j = k)) (if S k = true then n else n + 1) → Q (!S k) { s with heap := h' }) :
    wpAny (model P w) A (setAddHashed a (.str k tk) ((PySem.strKind P w).hash k)) Q E s := by
  obtain ⟨o, es, ep, t, ho, hex, hd, g, nd, hm, hb, hf, hn, hr, hl⟩ := R
  have hkey : (PySem.strKind P w).is k (.str k tk) = true := PySem.strKind_is P w k tk
  have hsc : (Value.str k tk).scannable = true := rfl
  have hel : ElemsOf (PySem.strKind P w) es.toList := goodT_elems g
  unfold setAddHashed setAddHashedIn
  refine wpAny_holding (wpAny_bind (wpAny_setState_of ho hd hf ?_))
  dsimp only
  rw [byScan_of hsc hb hel]
  simp only [↓reduceIte]
  unfold setAddByScan
  refine wpAny_bind ?_
  refine wpAny_bind (wpAny_rule ?_)
  refine wpAny_bind (wpAny_setScan_of hkey ho hd hf hel ?_)
  cases hfi : List.findIdx? (fun e => (PySem.strKind P w).is k e.2) es.toList with
  | some j =>
    dsimp only
    obtain ⟨hj, pj, _⟩ := List.findIdx?_eq_some_iff_getElem.mp hfi
    have hSk : S k = true := (hm k).2 ((goodT_mem (P := P) (w := w) g k).2 ⟨es.toList[j], List.getElem_mem hj, pj⟩)
    refine wpAny_pure (wpAny_pure ?_)
    have q := hQ s.heap (Heap.SameBut.refl a s.heap) ⟨o, es, ep, t, ho, hex, hd, g, nd, fun i => by
      rw [Bool.or_eq_true, decide_eq_true_eq, ← hm i]
      exact ⟨fun z => z.elim id (fun e => e ▸ hSk), .inl⟩, hb, hf, by rw [if_pos hSk]; exact hn, hr, hl⟩
    rw [hSk] at q
    exact q
  | none =>
    dsimp only
    have hnk : k ∉ es.toList.map tkOf := fun z => by
      obtain ⟨e, he, q⟩ := (goodT_mem (P := P) (w := w) g k).1 z
      have c := List.findIdx?_eq_none_iff.mp hfi e he
      rw [q] at c
      cases c
    have hSk : S k = false := by
      cases q : S k with
      | false => rfl
      | true => exact absurd ((hm k).1 q) hnk
    have hgw : ∀ (b : Bool) {s₁ : Shared} {Q' : Unit → Shared → Prop}, Q' () s₁ → wpAny (model P w) A (match b with | true => rule "set.scan.the-table-gave-way" | false => pure ()) Q' E s₁ :=
      fun b s₁ Q' q => by cases b <;> first | exact wpAny_pure q | exact wpAny_rule q
    have pm := layNew_perm t es ((PySem.strKind P w).hash k) (.str k tk)
    have hf1 := layNew_fits t es ((PySem.strKind P w).hash k) (.str k tk)
    have hr1 := layNew_ris t es ((PySem.strKind P w).hash k) (.str k tk) hr
    have hl1 := layNew_led t es ((PySem.strKind P w).hash k) (.str k tk)
    generalize layNew t es ((PySem.strKind P w).hash k) (.str k tk) = Z at pm hf1 hr1 hl1 ⊢
    obtain ⟨es1, t1, wasDummy, gave⟩ := Z
    dsimp only at pm hf1 hr1 hl1 ⊢
    rw [Array.toList_push] at pm
    have pc : es1.toList.Perm (((PySem.strKind P w).hash k, Value.str k tk) :: es.toList) := pm.trans (List.perm_append_singleton _ _)
    have pk : (es1.toList.map tkOf).Perm (k :: es.toList.map tkOf) := pc.map tkOf
    have g1 : ∀ e ∈ es1.toList, GoodT P w e := fun e he => by
      rcases List.mem_cons.mp (pc.mem_iff.mp he) with z | z
      · rw [z]; exact ⟨k, tk, rfl, rfl⟩
      · exact g e z
    have nd1 : (es1.toList.map tkOf).Nodup := pk.nodup_iff.mpr (List.nodup_cons.mpr ⟨hnk, nd⟩)
    have m1 : ∀ i, (S i || decide (i = k)) = true ↔ i ∈ es1.toList.map tkOf := fun i => by
      rw [Bool.or_eq_true, decide_eq_true_eq, hm i, pk.mem_iff, List.mem_cons]
      exact Or.comm
    have hsz : es1.size = n + 1 := by rw [← Array.length_toList, pc.length_eq, List.length_cons, Array.length_toList, hn]
    have hb1 : es1.size < scanBound := by rw [hsz]; exact room
    have hled : w.params.followText "set-order" = true ∨ t1.led = true := hl.imp id fun z => by rw [hl1]; exact z
    have fin : ∀ h', Heap.SameBut a s.heap h' → SetT P w h' a (fun j => S j || decide (j = k)) es1.size → Q true { s with heap := h' } := fun h' sb r => by
      have q := hQ h' sb
      rw [hSk] at q
      rw [hsz] at r
      exact q r
    refine wpAny_bind (hgw _ ?_)
    split
    · refine wpAny_bind ?_
      rw [hashByValue_scannable 8 hsc]
      refine wpAny_pure ?_
      refine setT_add_tail ?_ ho hex hd g1 nd1 m1 hb1 ?_ ?_ ?_ ?_
      · intro b s₁ Q' q; cases b <;> first | exact wpAny_pure q | exact wpAny_rule q
      · first | (split <;> first | exact hf1 | exact SetTable.fits_plain_off hf1) | exact hf1
      · first | (split <;> exact hr1) | exact hr1
      · first | (split <;> exact hled) | exact hled
      · intro h' sb r; dsimp only; exact wpAny_pure (fin h' sb r)
    · refine wpAny_bind (wpAny_pure ?_)
      simp only [↓reduceIte]
      refine setT_add_tail ?_ ho hex hd g1 nd1 m1 hb1 hf1 hr1 hled ?_
      · intro b s₁ Q' q; cases b <;> first | exact wpAny_pure q | exact wpAny_rule q
      · intro h' sb r; dsimp only; exact wpAny_pure (fin h' sb r)

end
end DV

set_option Elab.async false
set_option linter.all false
set_option maxRecDepth 100000
set_option maxHeartbeats 1000000
/-! ExW: set(texts) with a table that can be walked, sorted(set(texts)). -/
namespace DV
open PySem PySem.Spec PyProof.Rows L2
section
variable {P : Program} {w : World} {A : Around} {R : Result → Shared → Prop} {it : Addr} {fp wr : List Addr} {G : Array GenState → Array GenState → Prop} {n : Nat} {Pv : Nat → Value → Prop} {St : Nat → Shared → Prop}
/-- the loop of set(..) over texts -/
theorem fill_textsT (W : WalksS P w A.in1 it fp wr G n Pv St) (a : Addr) (ha : a ∉ fp) (xs : List Str) (hsz : xs.length = n) (hb : n + 1 < scanBound) (hv : ∀ i v, Pv i v → ∃ t, v = .str (xs.getD i Str.empty) t) :
    ∀ (m i : Nat) (s : Shared), i + m = n → St i s → SetT P w s.heap a (fun k => (mets (xs.take i)).any (· == k)) (mets (xs.take i)).length →
      (∀ s', Moved (a :: wr) G s s' → SetT P w s'.heap a (fun k => (mets xs).any (· == k)) (mets xs).length → R (.ok (.ret .none)) s') →
      codeAny (model P w) A (.builtin "set.update.loop" ⟨[.ref a, .ref it], []⟩) R s := by
  have aw : a ∉ wr := fun h => ha (W.sub _ h)
  have up : ∀ b ∈ wr, b ∈ a :: wr := fun b hb => List.mem_cons_of_mem _ hb
  have keepS : ∀ {s s' : Shared} {S : Str → Bool} {j : Nat}, Moved wr G s s' → SetT P w s.heap a S j → SetT P w s'.heap a S j := fun hm ⟨o, es, ep, t, ho, rest⟩ => ⟨o, es, ep, t, hm.heap a _ aw ho, rest⟩
  intro m
  induction m with
  | zero =>
    intro i s hi st gS fin
    have ei : i = n := by omega
    refine codeAny_builtin PyProof.Rows.F.entry_set_update_loop ?_
    rw [Around.under_plainId PyProof.Rows.F.plain_set_update_loop _]
    show wpAny _ A.in1 (pyNext (.ref it) >>= _) _ _ s
    refine wpAny_bind (W.done s _ _ (ei ▸ st) fun s' hm => ?_)
    show wpAny _ A.in1 (ret Value.none) _ _ s'
    refine wpAny_pure (fin s' (hm.mono up) ?_)
    have q := keepS hm gS
    rw [List.take_of_length_le (by omega)] at q
    exact q
  | succ m ih =>
    intro i s hi st gS fin
    refine codeAny_builtin PyProof.Rows.F.entry_set_update_loop ?_
    rw [Around.under_plainId PyProof.Rows.F.plain_set_update_loop _]
    show wpAny _ A.in1 (pyNext (.ref it) >>= _) _ _ s
    refine wpAny_bind (W.item i s _ _ (by omega) st fun v s' pv st' hm => ?_)
    obtain ⟨t, rfl⟩ := hv i v pv
    have gS' := keepS hm gS
    show wpAny _ A.in1 (holding [Value.str (xs.getD i Str.empty) t] (setAdd a (.str (xs.getD i Str.empty) t)) >>= _) _ _ s'
    refine wpAny_bind (wpAny_holding ?_)
    unfold setAdd
    refine wpAny_holding (wpAny_bind ((PySem.strKind P w).pyHash (k := xs.getD i Str.empty) (strKind_is _ _ _ _) ?_))
    have le := mets_le (xs.take i)
    rw [List.length_take] at le
    refine setT_add_hashed (s := { s' with toks := s'.toks + 1 }) gS' (by omega) fun h' sb new => ?_
    have new' : SetT P w h' a (fun k => (mets (xs.take (i + 1))).any (· == k)) (mets (xs.take (i + 1))).length :=
      SetT.congr new (fun k => by rw [mets_take (by omega), met1_any]) (by rw [mets_take (by omega), met1_len])
    refine wpAny_pure ⟨plainId_quiet PyProof.Rows.F.plain_set_update_loop _, ih (i + 1) _ (by omega) (W.frame _ s' _ _ st' (Nat.le_succ _) fun b hb o e => ?_) new' fun s2 hm2 gS2 => ?_⟩
    · rw [sb.2 b (fun z : b = a => ha (z ▸ hb))]; exact e
    · refine fin s2 (Moved.trans W.gtrans ((hm.mono up).then_heap (Nat.le_succ _) fun b o hb e => ?_) hm2) gS2
      rw [sb.2 b (fun z : b = a => hb (by rw [z]; exact List.mem_cons_self))]; exact e
end

section
variable {P : Program} {w : World} {A : Around} {E : Value → Shared → Prop} {s : Shared}
theorem setT_fresh {h : Heap} {a : Addr} (ho : h.get? a = some { cls := .type "set", dict := none, data := .set #[] 0 (.fresh 0 0 (!w.params.followText "set-order")) }) : SetT P w h a (fun _ => false) 0 :=
  ⟨_, #[], 0, _, ho, ⟨rfl, rfl, rfl⟩, rfl, (fun e he => by simp at he), (by simp), (fun k => by simp), (by decide), (by rfl), rfl, List.Pairwise.nil, by
    show _ ∨ (!w.params.followText "set-order") = true
    cases w.params.followText "set-order"
    · exact .inr rfl
    · exact .inl rfl⟩
theorem code_set_ledT (x : Value) {Q₁ : Value → Shared → Prop}
    (h : Q₁ (.ref s.heap.objs.size) { s with heap := s.heap.push { cls := .type "set", dict := none, data := .set #[] 0 (.fresh 0 0 (!w.params.followText "set-order")) } }) :
    codeAny (model P w) A (.call (.builtin "set.__new__") ⟨[.type "set", x], []⟩) (wants Q₁ E) s := by
  refine codeAny_of_tree ?_
  show wpAny _ A.in1 (do checkBuiltinCall "set.__new__" ⟨[.type "set", x], []⟩; again (.builtin "set.__new__" ⟨[.type "set", x], []⟩)) _ _ s
  refine wpAny_bind (wpAny_of_eq (F.newCall_set_1 x) (wpAny_pure ⟨plainId_quiet F.plain_set_new _, codeAny_builtin F.entry_set_new ?_⟩))
  rw [Around.under_plainId F.plain_set_new _]
  unfold Builtin.«set.__new__» Builtin.Frozenset.newClass
  have hsub := sub_set_self
  obtain ⟨hp, g, d, tk, os⟩ := s
  dsimp only
  wp_walk
  refine wpAny_askSetting (wpAny_pure ?_)
  dsimp only
  simp only [newObj]
  refine wpAny_bind (wpAny_alloc (wpAny_pure ?_))
  exact wpAny_pure h
set_option maxHeartbeats 3200000 in
theorem make_textsT {l : Addr} {items : Array Value} {xs : List Str} {c : String} {Q : Value → Shared → Prop} (nohand : A.handled = none) (sq : SeqObj s.heap l items c) (tx : PyProof.Rows.StrsAre items.toList xs) (few : xs.length + 1 < scanBound)
    (fin : ∀ (h' : Heap) (tk : Nat), SetT P w h' s.heap.objs.size (fun k => (mets xs).any (· == k)) (mets xs).length → (∀ b o, b < s.heap.objs.size → s.heap.get? b = some o → h'.get? b = some o) → Q (.ref s.heap.objs.size) { s with heap := h', toks := tk }) :
    wpAny (model P w) A (call (.type "set") [.ref l]) Q E s := by
  have ⟨cc, tl, mro⟩ := PySem.F.called_set.mro
  have made := PySem.F.called_set.made
  have sub := PySem.F.called_set.sub
  refine wpAny_call (codeAny_of_tree ?_)
  show wpAny _ _ (callAny (.type "set") _) _ _ _
  refine wpAny_pure ⟨Code.quiet_builtin _ (by decide +kernel), codeAny_builtin PySem.F.entry_type_call ?_⟩
  rw [Around.under_plain (weight_type_call_type "set" [.ref l] []) rfl]
  have t1 := PySem.F.called_set.notType
  have t2 := PySem.F.called_set.canCreate
  have t3 := PySem.F.typeCall_set_1 (.ref l)
  repeat (any_goals (first | assumption | wp_step))
  refine codeAny_mono (code_set_ledT (.ref l) (E := E) (Q₁ := fun v s1 => v = .ref s.heap.objs.size ∧ s1 = { s with heap := s.heap.push { cls := .type "set", dict := none, data := .set #[] 0 (.fresh 0 0 (!w.params.followText "set-order")) } }) ⟨rfl, rfl⟩) fun r s1 got => ?_
  cases r with
  | error e => exact got
  | ok fl =>
  obtain ⟨v, rfl⟩ : ∃ v, fl = .ret v := by
    cases fl with
    | ret v => exact ⟨v, rfl⟩
    | _ => exact got.elim
  obtain ⟨rfl, rfl⟩ := got
  have free : ({ cls := .type "set", dict := none, data := .set #[] 0 (.fresh 0 0 (!w.params.followText "set-order")) } : Obj).isFreed = false := rfl
  have atS : (s.heap.push { cls := .type "set", dict := none, data := .set #[] 0 (.fresh 0 0 (!w.params.followText "set-order")) }).get? s.heap.objs.size = some { cls := .type "set", dict := none, data := .set #[] 0 (.fresh 0 0 (!w.params.followText "set-order")) } := Heap.get?_push_size _ free
  have tyS : Shared.TypeIs { s with heap := s.heap.push { cls := .type "set", dict := none, data := .set #[] 0 (.fresh 0 0 (!w.params.followText "set-order")) } } (.ref s.heap.objs.size) "set" := ⟨_, atS, rfl⟩
  have look := PySem.F.called_set.init.lookup
  have bound := PySem.F.called_set.init.bind (.ref s.heap.objs.size)
  repeat (any_goals (first | assumption | wp_step))
  refine codeAny_mono (codeAny_call_builtin (R := wants (fun r s2 => r = .none ∧ ∃ h' tk, s2 = { s with heap := h', toks := tk } ∧ SetT P w h' s.heap.objs.size (fun k => (mets xs).any (· == k)) (mets xs).length ∧ (∀ b o, b < s.heap.objs.size → s.heap.get? b = some o → h'.get? b = some o)) E)
    PySem.F.called_set.init.plain PySem.F.entry_set_init (check_set_init_1 tyS ?inn)) fun r s2 got => ?out
  case out =>
    cases r with
    | error e => exact got
    | ok fl =>
      cases fl with
      | ret r =>
        obtain ⟨rfl, h', tk, rfl, gS, gk⟩ := got
        repeat (any_goals (first | assumption | wp_step))
        exact fin _ _ gS gk
      | _ => exact got.elim
  case inn =>
    have hsz : xs.length = items.size := by rw [← StrsAre.len_eq tx, Array.length_toList]
    have val : ∀ (i : Nat) (v : Value), items[i]? = some v → ∃ t, v = .str (xs.getD i Str.empty) t := fun i v hv => SS.strs_at tx i v (by rw [Array.getElem?_toList]; exact hv)
    have nohand3 : A.in1.in1.in1.handled = none := by simp [nohand]
    have szI : (s.heap.push { cls := .type "set", dict := none, data := .set #[] 0 (.fresh 0 0 (!w.params.followText "set-order")) }).objs.size = s.heap.objs.size + 1 := Heap.size_push _ _
    rcases sq with ⟨rfl, hl⟩ | ⟨rfl, hl⟩
    all_goals
      obtain ⟨ol, hol, hcl, nl, hdl⟩ := hl
      obtain ⟨ocls, odict, odata, oslots⟩ := ol
      dsimp only at hcl hdl
      subst hcl
      subst hdl
      have below : l < s.heap.objs.size := Heap.lt_size hol
      have hol' := Heap.get?_push_of_some ({ cls := .type "set", dict := none, data := .set #[] 0 (.fresh 0 0 (!w.params.followText "set-order")) } : Obj) hol
    · have u1 := PySem.F.sub_list_set
      have u2 := PySem.F.sub_list_frozenset
      have u3 : (Value.type "list" == Value.type "dict") = false := by decide
      have seq : (s.heap.push { cls := .type "set", dict := none, data := .set #[] 0 (.fresh 0 0 (!w.params.followText "set-order")) }).IsList l items := ⟨_, hol', rfl, nl, rfl⟩
      unfold Builtin.«set.__init__» noKeywords Builtin.Frozenset.updateFrom
      generalize eI : pyIter = PI
      wp_walk
      subst eI
      refine wpAny_pyIter_list seq ?_
      refine wpAny_bind (wpAny_runValue ?_)
      have lneI : l ≠ (s.heap.push { cls := .type "set", dict := none, data := .set #[] 0 (.fresh 0 0 (!w.params.followText "set-order")) }).objs.size := Nat.ne_of_lt (by rw [szI]; exact Nat.lt_succ_of_lt below)
      have SnI : s.heap.objs.size ∉ [(s.heap.push { cls := .type "set", dict := none, data := .set #[] 0 (.fresh 0 0 (!w.params.followText "set-order")) }).objs.size, l] := by
        rw [szI]
        intro z
        rcases List.mem_cons.mp z with z | z
        · exact Nat.ne_of_lt (Nat.lt_succ_self _) z
        · exact Nat.ne_of_gt below (List.mem_singleton.mp z)
      refine fill_textsT ((Walks.list nohand3 _ l lneI items).toS) s.heap.objs.size SnI xs hsz (by omega) val items.size 0 _ (by omega) ⟨⟨_, Heap.get?_push_size _ rfl, rfl, rfl⟩, (seq.push _)⟩ ?st ?fn
      case st =>
        exact SetT.congr (setT_fresh (Heap.get?_push_of_some _ atS)) (fun _ => rfl) rfl
      case fn =>
        intro s' hm gS
        obtain ⟨h', g', d', tk', os'⟩ := s'
        obtain rfl : g' = s.gens := hm.gens
        obtain rfl : d' = s.drawn := hm.drawn
        obtain rfl : os' = s.os := hm.os
        show wpAny _ _ _ _ _ _
        refine wpAny_pure ?_
        show wpAny _ _ (ret Value.none) _ _ _
        refine wpAny_pure ⟨rfl, h', tk', rfl, gS, fun p o hb e => hm.heap p o (fun z => ?_) (Heap.get?_push_of_some _ (Heap.get?_push_of_some _ e))⟩
        rcases List.mem_cons.mp z with z | z
        · exact Nat.ne_of_lt hb z
        · have z2 := List.mem_singleton.mp z
          rw [szI] at z2
          exact Nat.ne_of_lt (Nat.lt_succ_of_lt hb) z2
    · have u1 := PySem.F.sub_tuple_set
      have u2 := PySem.F.sub_tuple_frozenset
      have u3 : (Value.type "tuple" == Value.type "dict") = false := by decide
      have seq : (s.heap.push { cls := .type "set", dict := none, data := .set #[] 0 (.fresh 0 0 (!w.params.followText "set-order")) }).IsTuple l items := ⟨_, hol', rfl, nl, rfl⟩
      unfold Builtin.«set.__init__» noKeywords Builtin.Frozenset.updateFrom
      generalize eI : pyIter = PI
      wp_walk
      subst eI
      refine wpAny_pyIter_tuple seq ?_
      refine wpAny_bind (wpAny_runValue ?_)
      have lneI : l ≠ (s.heap.push { cls := .type "set", dict := none, data := .set #[] 0 (.fresh 0 0 (!w.params.followText "set-order")) }).objs.size := Nat.ne_of_lt (by rw [szI]; exact Nat.lt_succ_of_lt below)
      have SnI : s.heap.objs.size ∉ [(s.heap.push { cls := .type "set", dict := none, data := .set #[] 0 (.fresh 0 0 (!w.params.followText "set-order")) }).objs.size, l] := by
        rw [szI]
        intro z
        rcases List.mem_cons.mp z with z | z
        · exact Nat.ne_of_lt (Nat.lt_succ_self _) z
        · exact Nat.ne_of_gt below (List.mem_singleton.mp z)
      refine fill_textsT ((Walks.tuple nohand3 _ l lneI items).toS) s.heap.objs.size SnI xs hsz (by omega) val items.size 0 _ (by omega) ⟨⟨_, Heap.get?_push_size _ rfl, rfl, rfl⟩, (seq.push _)⟩ ?st ?fn
      case st =>
        exact SetT.congr (setT_fresh (Heap.get?_push_of_some _ atS)) (fun _ => rfl) rfl
      case fn =>
        intro s' hm gS
        obtain ⟨h', g', d', tk', os'⟩ := s'
        obtain rfl : g' = s.gens := hm.gens
        obtain rfl : d' = s.drawn := hm.drawn
        obtain rfl : os' = s.os := hm.os
        show wpAny _ _ _ _ _ _
        refine wpAny_pure ?_
        show wpAny _ _ (ret Value.none) _ _ _
        refine wpAny_pure ⟨rfl, h', tk', rfl, gS, fun p o hb e => hm.heap p o (fun z => ?_) (Heap.get?_push_of_some _ (Heap.get?_push_of_some _ e))⟩
        rcases List.mem_cons.mp z with z | z
        · exact Nat.ne_of_lt hb z
        · have z2 := List.mem_singleton.mp z
          rw [szI] at z2
          exact Nat.ne_of_lt (Nat.lt_succ_of_lt hb) z2
end


/-- sorted(set of texts) -/
theorem texts_of : ∀ (l : List Value), (∀ v ∈ l, ∃ k tk, v = Value.str k tk) → StrsAre l (l.map PyProof.Rows.strOf)
  | [], _ => .nil
  | v :: l, h => by
    obtain ⟨k, tk, rfl⟩ := h v List.mem_cons_self
    exact .cons k tk (texts_of l fun u hu => h u (List.mem_cons_of_mem _ hu))
end DV

set_option Elab.async false
set_option linter.all false
set_option maxRecDepth 100000
set_option maxHeartbeats 1000000
/-! ExX: sorted(set(texts)). -/
namespace DV
open PySem PySem.Spec PyProof.Rows L2
def leT (a b : Str) : Bool := !ltCps b.cps.toList a.cps.toList
/-- the texts that are met, each once, in order -/
def sortT (xs : List Str) : List Str := (mets xs).mergeSort leT
theorem leT_iff (a b : Str) : leT a b = true ↔ a.cps.toList ≤ b.cps.toList := by
  unfold leT
  rw [ltCps_eq]
  simp
theorem leT_total (a b : Str) : (leT a b || leT b a) = true := by
  rw [Bool.or_eq_true, leT_iff, leT_iff]
  exact List.le_total _ _
theorem leT_trans (a b c : Str) (h1 : leT a b = true) (h2 : leT b c = true) : leT a c = true := by
  rw [leT_iff] at *
  exact List.le_trans h1 h2
theorem leT_anti (a b : Str) (h1 : leT a b = true) (h2 : leT b a = true) : a = b := by
  rw [leT_iff] at *
  have e := List.le_antisymm h1 h2
  cases a; cases b
  simp only [Str.mk.injEq]
  exact Array.toList_inj.mp e
theorem sortT_of {xs ys : List Str} (p : ys.Perm (mets xs)) (h : ys.Pairwise (fun a b => leT a b = true)) : ys = sortT xs :=
  List.Perm.eq_of_pairwise (le := fun a b => leT a b = true) (fun a b _ _ h1 h2 => leT_anti a b h1 h2) h (List.pairwise_mergeSort leT_trans leT_total _) (p.trans (List.mergeSort_perm _ _).symm)
theorem pairwise_of_sortedS : ∀ (l : List Str), sortedS l = true → l.Pairwise (fun a b => leT a b = true) := by
  intro l
  induction l with
  | nil => intro _; exact .nil
  | cons a l ih =>
    intro h
    cases l with
    | nil => exact List.pairwise_singleton _ _
    | cons b l =>
      have h' : leT a b = true ∧ sortedS (b :: l) = true := by
        have h0 : (!ltCps b.cps.toList a.cps.toList && sortedS (b :: l)) = true := h
        exact (Bool.and_eq_true _ _).mp h0
      have ih' := ih h'.2
      refine List.pairwise_cons.mpr ⟨fun c hc => ?_, ih'⟩
      rcases List.mem_cons.mp hc with rfl | hc
      · exact h'.1
      · exact leT_trans _ _ _ h'.1 ((List.pairwise_cons.mp ih').1 c hc)
theorem mem_mets : ∀ (xs acc : List Str) (y : Str), y ∈ xs.foldl met1 acc ↔ y ∈ acc ∨ y ∈ xs := by
  intro xs
  induction xs with
  | nil => intro acc y; simp
  | cons x xs ih =>
    intro acc y
    rw [List.foldl_cons, ih]
    unfold met1
    split
    · rename_i h
      have hx : x ∈ acc := by
        obtain ⟨z, hz, e⟩ := List.any_eq_true.mp h
        have : z = x := by simpa using e
        exact this ▸ hz
      constructor
      · rintro (h | h)
        · exact .inl h
        · exact .inr (List.mem_cons_of_mem _ h)
      · rintro (h | h)
        · exact .inl h
        · rcases List.mem_cons.mp h with rfl | h
          · exact .inl hx
          · exact .inr h
    · rw [List.mem_append, List.mem_singleton, List.mem_cons]
      constructor
      · rintro ((h | h) | h)
        · exact .inl h
        · exact .inr (.inl h)
        · exact .inr (.inr h)
      · rintro (h | h | h)
        · exact .inl (.inl h)
        · exact .inl (.inr h)
        · exact .inr h
theorem nodup_mets : ∀ (xs acc : List Str), acc.Nodup → (xs.foldl met1 acc).Nodup := by
  intro xs
  induction xs with
  | nil => intro acc h; exact h
  | cons x xs ih =>
    intro acc h
    rw [List.foldl_cons]
    refine ih _ ?_
    unfold met1
    split
    · exact h
    · rename_i hx
      refine List.nodup_append.mpr ⟨h, by simp, fun a ha b hb e => hx ?_⟩
      rw [List.mem_singleton] at hb
      exact List.any_eq_true.mpr ⟨a, ha, by simp [e, hb]⟩
theorem mem_sortT {xs : List Str} {y : Str} : y ∈ sortT xs ↔ y ∈ xs := by
  unfold sortT
  rw [List.mem_mergeSort]
  simpa [mets] using mem_mets xs [] y
theorem nodup_sortT (xs : List Str) : (sortT xs).Nodup := (List.mergeSort_perm _ _).nodup_iff.mpr (nodup_mets xs [] List.nodup_nil)
section
variable {P : Program} {w : World} {A : Around} {E : Value → Shared → Prop} {s : Shared}
theorem sorted_setT {a : Addr} {S : Str → Bool} {n : Nat} {Q : Value → Shared → Prop} (R : SetT P w s.heap a S n) (hh : A.handled = none) (h64 : n < 64)
    (hQ : ∀ s' p (out : Array Value) (c : Nat) (ns : List Str), (∀ b o, s.heap.get? b = some o → s'.heap.get? b = some o) → s'.gens = s.gens → s'.os = s.os → s.heap.objs.size ≤ p →
      s'.heap.get? p = some (seqObj "list" out c) → StrsAre out.toList ns → sortedS ns = true → (∀ k, k ∈ ns ↔ S k = true) → ns.Nodup → ns.length = n → Q (.ref p) s') :
    wpAny (model P w) A (call (.builtin "sorted") [.ref a]) Q E s := by
  obtain ⟨o, es, ep, t, ho, hex, hd, g, nd, hm, hb, hf, hn, hr, hl⟩ := R
  refine Calls.call_function_entry kind_sorted plain_sorted entry_sorted (args_sorted1 _) ?_
  unfold Builtin.«sorted»
  refine wpAny_bind (m := checkCount "sorted" 1 1 _) (wpAny_pure ?_)
  refine wpAny_bind (collect_set (A := A.in1) hh ⟨o, ho, hex.1, hd⟩ hf hb hr hl fun s1 vs k1 hz g1 o1 pm => ?_)
  have hvl : vs.length = n := by rw [pm.length_eq, List.length_map, Array.length_toList]; exact hn
  have hI : StrsAre vs (vs.map PyProof.Rows.strOf) := texts_of vs fun v hv => by
    obtain ⟨e, he, q⟩ := List.mem_map.mp (pm.mem_iff.mp hv)
    obtain ⟨k, tk, h1, _⟩ := g e he
    exact ⟨k, tk, by rw [← q]; exact h1⟩
  have pk : (vs.map PyProof.Rows.strOf).Perm (es.toList.map tkOf) := by
    have q := pm.map PyProof.Rows.strOf
    rw [List.map_map] at q
    refine q.trans (List.Perm.of_eq (List.map_congr_left fun e he => ?_))
    obtain ⟨k, tk, h1, _⟩ := g e he
    show PyProof.Rows.strOf e.2 = tkOf e
    unfold tkOf
    rw [h1]
    rfl
  refine wpAny_bind (wpAny_newList ?_ (by rw [hvl, sizeLine_eq]; omega))
  have hoL : (s1.heap.push (seqObj "list" vs.toArray 0)).get? s1.heap.objs.size = some (seqObj "list" vs.toArray 0) := Heap.get?_push_size _ rfl
  refine wpAny_bind (wpAny_holding (wpAny_call_entry slot_list_sort ⟨_, hoL, rfl⟩ entry_list_sort (list_sort_treeK PyProof.Rows.strKind_oneLt hoL hI.keysOf (fun v₁ v₂ rest e => keyKind_strs (by rw [← e]; exact hI)) (by rw [hvl]; exact h64) fun st' hp hs => ⟨_, rfl, ?_⟩) (args_list_sort _)))
  obtain ⟨ns', a1, a2, a3⟩ := sorted_out_str hI hp hs
  obtain ⟨c, hc⟩ := sortedHeap_at (vs := vs) (out := (arrOf st').map (·.2)) hoL
  have pn : ns'.Perm (es.toList.map tkOf) := a2.trans pk
  refine wpAny_pure ⟨_, rfl, hQ _ s1.heap.objs.size _ c ns' (fun b u e => ?_) g1 o1 hz hc a1 a3 (fun k => by rw [pn.mem_iff, ← hm k]) (pn.nodup_iff.mpr nd) ?_⟩
  · have q := k1 b u e
    have hlt := Heap.lt_size q
    show (sortedHeap (s1.heap.push (seqObj "list" vs.toArray 0)) s1.heap.objs.size vs _).get? b = some u
    rw [sortedHeap_old (Nat.ne_of_lt hlt) (by rw [size_push']; exact Nat.lt_succ_of_lt hlt)]
    exact Heap.get?_push_of_some _ q
  · rw [pn.length_eq, List.length_map, Array.length_toList]; exact hn
end
section
variable {K : PySem.W.Frag} {ct : String → Addr} {io : Io} {H : Hp} {A : Hd}
theorem drs_texts : ∀ xs : List Str, DRs K ct io H (xs.map V.str) (xs.map D.str)
  | [] => .nil
  | x :: xs => .cons (.str x) (drs_texts xs)
def gSortSet (d : D) (A : Hd) : R D := match asQ A d with
  | some es => match textsD es with
    | some xs => if xs.length < 4000 ∧ (mets xs).length < 64 then .ok (.lst ((sortT xs).map D.str)) A else .stk
    | none => .stk
  | none => .stk
def tSortSet (K : PySem.W.Frag) (ta : TE) : TE := fun σ H Q => ta σ H fun x H1 => ∃ l, ∃ xs : List Str, x = .ref l ∧ (SqL K H1 l (xs.map V.str) ∨ SqT K H1 l (xs.map V.str)) ∧ (xs.length < 4000 ∧ (mets xs).length < 64) ∧ ∀ p, H1 p = none → Q (.ref p) (upd H1 p (.lst ((sortT xs).map V.str)))
end
section
variable {X : Cx} {ct : String → Addr} {W : WX} {a : Expr} {fa : EF} {p p2 q pos : Pos}
theorem pe_sortSet {ta : TE} (hc : X.calm = true) (hg : Gl X "sorted") (hm : X.mg "sorted" = none) (hg2 : Gl X "set") (hm2 : X.mg "set" = none) (ha : PE X a ta) (na : starEach [a] X.env = (false, eval a X.env) :: starEach [] X.env := by rfl) :
    PE X (.Call (.Name "sorted" p) [.Call (.Name "set" p2) [a] [] q] [] pos) (tSortSet X.K ta) := by
  refine ⟨fun pins s σ H Q I h => ?_⟩
  refine Call_ (ld_blt I hg hm boot_sorted (PyProof.Rows.callWith_builtin1 (PyProof.Rows.args_cons ?_ rfl) rfl rfl))
  refine Call_ (ld_blt I hg2 hm2 boot_set ?_)
  refine PyProof.Rows.callWith_type1 (PyProof.Rows.args_cons (thn (ha.run pins s σ H _ I h) fun v s1 ⟨x, H1, I1, r1, q1⟩ => PyProof.Rows.args_nil ?_) na) na rfl
  obtain ⟨l, xs, rfl, sq, ⟨few, few2⟩, q1⟩ := q1
  cases r1
  have go : ∃ c items, SeqObj s1.heap l items c ∧ StrsAre items.toList xs := by
    rcases sq with sq | sq
    · obtain ⟨its, r, pl, hz⟩ := I1.list sq
      exact ⟨"list", its.toArray, .inl ⟨rfl, pl.isList⟩, by simpa using strsAre_of r⟩
    · obtain ⟨its, r, pl, hz⟩ := I1.tuple sq
      exact ⟨"tuple", its.toArray, .inr ⟨rfl, pl⟩, by simpa using strsAre_of r⟩
  obtain ⟨c, items, so, tx⟩ := go
  refine make_textsT (I1.ok.hd hc) so tx (by unfold scanBound; omega) fun h' tk gS gk => ?_
  refine PyProof.Rows.args_nil ?_
  have le := mets_le xs
  refine sorted_setT gS (I1.ok.hd hc) (by omega) fun s' p out c2 ns k g o hp hg3 hi hs hmm hnd hl => ?_
  have ens : ns = sortT xs := by
    refine sortT_of ?_ (pairwise_of_sortedS _ hs)
    refine (List.perm_ext_iff_of_nodup hnd (nodup_mets xs [] List.nodup_nil)).mpr fun k => ?_
    rw [hmm k, List.any_eq_true]
    constructor
    · rintro ⟨z, hz, e⟩
      have : z = k := by simpa using e
      exact this ▸ hz
    · intro hz
      exact ⟨k, hz, by simp⟩
  subst ens
  have k2 : ∀ b ob, s1.heap.get? b = some ob → s'.heap.get? b = some ob := fun b ob e => k b ob (gk b ob (Heap.lt_size e) e)
  have hp2 : s1.heap.objs.size ≤ p := ?_
  have hlen : ((sortT xs).map V.str).length ≤ sizeLine := by rw [List.length_map, hl, sizeLine_eq]; omega
  have hn : H1 p = none := I1.hok.fresh hp2
  have J : Inv X pins σ (upd H1 p (.lst ((sortT xs).map V.str))) { s1 with heap := s'.heap, gens := s'.gens, drawn := s'.drawn, toks := s'.toks } :=
    I1.call (ch := []) (Un.laid k2 hp2 hn) (I1.hok.laid k2 hp2 ⟨hlen, out.toList, c2, vals_of_strs hi, hg3⟩) (by rw [g]; exact I1.bare) (fun _ z => nomatch z)
  have e : s' = { s1 with heap := s'.heap, gens := s'.gens, drawn := s'.drawn, toks := s'.toks } := by
    cases s'
    cases s1
    cases o
    rfl
  · rw [e]
    exact ⟨.ref p, _, J, rfl, q1 p hn⟩
  · refine Nat.le_trans ?_ hp
    obtain ⟨oo, _, _, _, hoo, _⟩ := gS
    exact Nat.le_of_lt (Heap.lt_size hoo)
theorem pd_sortSet (hc : X.calm = true) (hg : Gl X "sorted") (hm : X.mg "sorted" = none) (hg2 : Gl X "set") (hm2 : X.mg "set" = none) (ha : PD X ct W a fa) (na : starEach [a] X.env = (false, eval a X.env) :: starEach [] X.env := by rfl) :
    PD X ct W (.Call (.Name "sorted" p) [.Call (.Name "set" p2) [a] [] q] [] pos) (eUn gSortSet fa) :=
  pe_mono (pe_sortSet hc hg hm hg2 hm2 ha na) fun σ H Q ⟨io, A, ro, s, p⟩ => ⟨io, A, ro, s, (p.bind (rep := DR X.K ct)).mono fun v H1 ⟨io1, A1, d, e1, h1, r1, p1⟩ => by
    unfold gSortSet at p1
    split at p1
    · rename_i es he
      split at p1
      · rename_i xs hx
        split at p1
        · rename_i few
          obtain ⟨a, us, rfl, sq, rs⟩ := asQ_ok h1 r1 he
          have e := textsD_ok rs hx
          subst e
          refine ⟨a, xs, rfl, sq, few, fun p hn => ?_⟩
          exact p1.new h1 hn (.newLst h1 hn (drs_texts _))
        · exact p1.elim
      · exact p1.elim
    · exact p1.elim⟩
end
section
variable {X : Cx} {ct : String → Addr} {W : WX} {a b : Expr} {fa fb : EF} {pos : Pos}
theorem pdt_inT (hu : X.A.units + 1 < cLine) (ha : PD X ct W a fa) (hb : PD X ct W b fb) (hm : behindInMarks .In b = false := by first | exact nobehind _ (by decide) (by decide) | rfl) : PDt X ct W (.Compare a [.In] [b] pos) (tCmpD (gInT true) fa fb) := by
  refine pt_of_pe (f := eBin (gInT true) fa fb) (pt_cmp (pos := pos) (pc_din hu ha hb) hm) fun σ H Q ⟨io, A, ro, s, p⟩ => ⟨io, A, ro, s, (p.bind (rep := DR X.K ct)).mono fun v H1 ⟨io1, A1, d, e1, h1, r1, p1⟩ => ⟨io1, A1, ro, s.mono e1 h1, (p1.bind (rep := DR X.K ct)).mono fun w H2 ⟨io2, A2, dk, e2, h2, r2, p2⟩ => ?_⟩⟩
  obtain ⟨a, o, ew, g, q⟩ := inT_fin e2 h1 r1 h2 r2 p2
  exact ⟨a, o, ew, g, by rw [show o.isSome = (o.isSome == true) by cases o <;> rfl]; exact q⟩
theorem pdt_notInT (hu : X.A.units + 1 < cLine) (ha : PD X ct W a fa) (hb : PD X ct W b fb) (hm : behindInMarks .NotIn b = false := by first | exact nobehind _ (by decide) (by decide) | rfl) : PDt X ct W (.Compare a [.NotIn] [b] pos) (tCmpD (gInT false) fa fb) := by
  refine pt_of_pe (f := eBin (gInT false) fa fb) (pt_cmp (pos := pos) (pc_dnotin hu ha hb) hm) fun σ H Q ⟨io, A, ro, s, p⟩ => ⟨io, A, ro, s, (p.bind (rep := DR X.K ct)).mono fun v H1 ⟨io1, A1, d, e1, h1, r1, p1⟩ => ⟨io1, A1, ro, s.mono e1 h1, (p1.bind (rep := DR X.K ct)).mono fun w H2 ⟨io2, A2, dk, e2, h2, r2, p2⟩ => ?_⟩⟩
  obtain ⟨a, o, ew, g, q⟩ := inT_fin e2 h1 r1 h2 r2 p2
  exact ⟨a, o, ew, g, by rw [show (!o.isSome) = (o.isSome == false) by cases o <;> rfl]; exact q⟩
end
end DV

set_option Elab.async false
set_option linter.all false
namespace Mg
open PySem
abbrev St := PySem.Str
/-! ### merging, with no program in sight: ls are the rests of the tuples -/
def headsOf (ls : List (List St)) : List St := ls.filterMap List.head?
def inTail (x : St) (ls : List (List St)) : Bool := ls.any fun l => decide (x ∈ l.tail)
def tails (x : St) (ls : List (List St)) : Nat := ls.countP fun l => decide (x ∈ l.tail)
def goodOf (ls : List (List St)) : List St := (headsOf ls).filter fun h => !inTail h ls
def dropHead (g : St) (l : List St) : List St := if l.head? = some g then l.tail else l
def step (ls : List (List St)) (g : St) : List (List St) := ls.map (dropHead g)
def size (ls : List (List St)) : Nat := (ls.map List.length).sum
theorem inTail_zero {x : St} {ls : List (List St)} : inTail x ls = false ↔ tails x ls = 0 := by
  unfold inTail tails
  rw [List.countP_eq_zero, List.any_eq_false]
/-- the law's way to leave a name out, and the program's -/
theorem filter_drop {g : St} {l : List St} (nd : l.Nodup) (h : g ∉ l.tail) : l.filter (fun x => decide (x ≠ g)) = dropHead g l := by
  cases l with
  | nil => rfl
  | cons a l =>
    have hl : l.filter (fun x => decide (x ≠ g)) = l := List.filter_eq_self.mpr fun x hx => decide_eq_true fun e => h (e ▸ hx)
    unfold dropHead
    by_cases e : a = g
    · subst e
      rw [List.filter_cons_of_neg (by simp), hl]
      simp
    · rw [List.filter_cons_of_pos (by simpa using e), hl, if_neg (by simpa using e)]
theorem filter_step {g : St} {ls : List (List St)} (nd : ∀ l ∈ ls, l.Nodup) (h : inTail g ls = false) : ls.map (fun l => l.filter fun x => decide (x ≠ g)) = step ls g := by
  unfold step
  refine List.map_congr_left fun l hl => filter_drop (nd l hl) fun hm => ?_
  unfold inTail at h
  rw [List.any_eq_false] at h
  exact h l hl (decide_eq_true hm)
theorem drop_nodup {g : St} {l : List St} (h : l.Nodup) : (dropHead g l).Nodup := by
  unfold dropHead
  split
  · exact h.sublist (List.tail_sublist _)
  · exact h
theorem step_nodup {g : St} {ls : List (List St)} (nd : ∀ l ∈ ls, l.Nodup) : ∀ l ∈ step ls g, l.Nodup := by
  intro l hl
  obtain ⟨l0, h0, rfl⟩ := List.mem_map.mp hl
  exact drop_nodup (nd l0 h0)
/-- leaving out the head: what stands in the tail now -/
theorem tail_drop {g : St} {l : List St} (nd : l.Nodup) (x : St) : decide (x ∈ (dropHead g l).tail) = (decide (x ∈ l.tail) && !(decide (l.head? = some g) && decide (l.tail.head? = some x))) := by
  unfold dropHead
  by_cases e : l.head? = some g
  · rw [if_pos e, decide_eq_true e, Bool.true_and]
    cases l with
    | nil => cases e
    | cons a l =>
      cases l with
      | nil => simp
      | cons b l =>
        have nb : b ∉ l := (List.nodup_cons.mp (List.nodup_cons.mp nd).2).1
        by_cases hx : x = b
        · subst hx
          simp [nb]
        · have hb : ¬ b = x := fun h => hx h.symm
          by_cases m : x ∈ l <;> simp [hx, hb, m]
  · rw [if_neg e, decide_eq_false e]
    simp
theorem heads_nil {ls : List (List St)} : headsOf ls = [] ↔ ∀ l ∈ ls, l = [] := by
  unfold headsOf
  rw [List.filterMap_eq_nil_iff]
  exact ⟨fun h l hl => List.head?_eq_none_iff.mp (h l hl), fun h l hl => by rw [h l hl]; rfl⟩
theorem size_drop {g : St} {l : List St} : (dropHead g l).length ≤ l.length := by
  unfold dropHead
  split
  · rw [List.length_tail]; omega
  · exact Nat.le_refl _
theorem size_step {g : St} : ∀ {ls : List (List St)}, g ∈ headsOf ls → size (step ls g) < size ls := by
  have le : ∀ ls : List (List St), size (step ls g) ≤ size ls := by
    intro ls
    induction ls with
    | nil => exact Nat.le_refl _
    | cons l ls ih =>
      have := size_drop (g := g) (l := l)
      simp only [size, step, List.map_cons, List.sum_cons] at ih ⊢
      omega
  intro ls
  induction ls with
  | nil => intro h; cases h
  | cons l ls ih =>
    intro h
    have h1 := le ls
    have h2 := size_drop (g := g) (l := l)
    by_cases e : l.head? = some g
    · have : (dropHead g l).length < l.length := by
        unfold dropHead
        rw [if_pos e]
        cases l with
        | nil => cases e
        | cons _ _ => simp
      simp only [size, step, List.map_cons, List.sum_cons] at h1 ⊢
      omega
    · have h' : g ∈ headsOf ls := by
        unfold headsOf at h ⊢
        rw [List.mem_filterMap] at h ⊢
        obtain ⟨l1, m1, e1⟩ := h
        rcases List.mem_cons.mp m1 with rfl | m
        · exact absurd e1 e
        · exact ⟨l1, m, e1⟩
      have := ih h'
      simp only [size, step, List.map_cons, List.sum_cons] at this ⊢
      omega
/-- the merge -/
def mergeN : Nat → List (List St) → Option (List St)
  | 0, _ => none
  | n + 1, ls => if headsOf ls = [] then some [] else match goodOf ls with
    | [] => none
    | g :: _ => (mergeN n (step ls g)).map (g :: ·)
def mergeL (ls : List (List St)) : Option (List St) := mergeN (size ls + 1) ls
theorem good_mem {g : St} {gs : List St} {ls : List (List St)} (h : goodOf ls = g :: gs) : g ∈ headsOf ls ∧ inTail g ls = false := by
  have m : g ∈ goodOf ls := by rw [h]; exact List.mem_cons_self
  obtain ⟨a, b⟩ := List.mem_filter.mp m
  exact ⟨a, by simpa using b⟩
theorem mergeN_more : ∀ {n m : Nat} {ls : List (List St)}, size ls < n → size ls < m → mergeN n ls = mergeN m ls
  | 0, _, _, h, _ => absurd h (Nat.not_lt_zero _)
  | _ + 1, 0, _, _, h => absurd h (Nat.not_lt_zero _)
  | n + 1, m + 1, ls, h, h2 => by
    unfold mergeN
    split
    · rfl
    · cases e : goodOf ls with
      | nil => rfl
      | cons g gs =>
        have := size_step (good_mem e).1
        show Option.map _ (mergeN n _) = Option.map _ (mergeN m _)
        rw [mergeN_more (n := n) (m := m) (by omega) (by omega)]
theorem mergeL_eq (ls : List (List St)) : mergeL ls = if headsOf ls = [] then some [] else match goodOf ls with
    | [] => none
    | g :: _ => (mergeL (step ls g)).map (g :: ·) := by
  show mergeN (size ls + 1) ls = _
  unfold mergeN
  split
  · rfl
  · cases e : goodOf ls with
    | nil => rfl
    | cons g gs =>
      have := size_step (good_mem e).1
      show Option.map _ (mergeN _ _) = Option.map _ (mergeN _ _)
      rw [mergeN_more (m := size (step ls g) + 1) this (Nat.lt_succ_self _)]
/-- each tuple stands in the merge, in its order -/
theorem merge_sub : ∀ {n : Nat} {ls : List (List St)} {r : List St}, mergeN n ls = some r → ∀ l ∈ ls, l.Sublist r
  | 0, _, _, h => by cases h
  | n + 1, ls, r, h => by
    unfold mergeN at h
    split at h
    · rename_i e
      cases h
      intro l hl
      rw [heads_nil.mp e l hl]
      exact List.nil_sublist _
    · cases e : goodOf ls with
      | nil => rw [e] at h; cases h
      | cons g gs =>
        rw [e] at h
        obtain ⟨r', hr, rfl⟩ := Option.map_eq_some_iff.mp h
        intro l hl
        have := merge_sub hr (dropHead g l) (List.mem_map.mpr ⟨l, hl, rfl⟩)
        unfold dropHead at this
        split at this
        · rename_i eh
          cases l with
          | nil => cases eh
          | cons a l =>
            cases eh
            exact List.Sublist.cons_cons _ this
        · exact List.Sublist.cons _ this
/-- no name comes twice, and none but those of the tuples -/
theorem merge_nodup : ∀ {n : Nat} {ls : List (List St)} {r : List St}, (∀ l ∈ ls, l.Nodup) → mergeN n ls = some r → r.Nodup ∧ ∀ x ∈ r, ∃ l ∈ ls, x ∈ l
  | 0, _, _, _, h => by cases h
  | n + 1, ls, r, nd, h => by
    unfold mergeN at h
    split at h
    · cases h
      exact ⟨List.nodup_nil, fun x hx => by cases hx⟩
    · cases e : goodOf ls with
      | nil => rw [e] at h; cases h
      | cons g gs =>
        rw [e] at h
        obtain ⟨r', hr, rfl⟩ := Option.map_eq_some_iff.mp h
        obtain ⟨i1, i2⟩ := merge_nodup (step_nodup nd) hr
        obtain ⟨gh, gt⟩ := good_mem e
        have back : ∀ x l, x ∈ dropHead g l → x ∈ l := fun x l hx => by
          unfold dropHead at hx
          split at hx
          · exact List.mem_of_mem_tail hx
          · exact hx
        refine ⟨List.nodup_cons.mpr ⟨fun hg => ?_, i1⟩, fun x hx => ?_⟩
        · obtain ⟨l', m, hgl⟩ := i2 g hg
          obtain ⟨l, hl, rfl⟩ := List.mem_map.mp m
          have nt : g ∉ l.tail := fun hm => by
            unfold inTail at gt
            rw [List.any_eq_false] at gt
            exact gt l hl (decide_eq_true hm)
          unfold dropHead at hgl
          split at hgl
          · exact nt hgl
          · rename_i ne
            cases l with
            | nil => cases hgl
            | cons a l =>
              rcases List.mem_cons.mp hgl with q | q
              · exact ne (by rw [q]; rfl)
              · exact nt q
        · rcases List.mem_cons.mp hx with rfl | q
          · obtain ⟨l, hl, eh⟩ := List.mem_filterMap.mp gh
            exact ⟨l, hl, List.mem_of_mem_head? eh⟩
          · obtain ⟨l', m, hxl⟩ := i2 x q
            obtain ⟨l, hl, rfl⟩ := List.mem_map.mp m
            exact ⟨l, hl, back x l hxl⟩
end Mg

set_option Elab.async false
set_option linter.all false
namespace Mg
open PySem
/-! ### rings: x stands ahead of y in one of the tuples -/
def Ahead (ls : List (List St)) (x y : St) : Prop := ∃ l ∈ ls, [x, y].Sublist l
def W (R : St → St → Prop) : Nat → St → St → Prop
  | 0, x, y => x = y
  | n + 1, x, y => ∃ z, W R n x z ∧ R z y
theorem W.one {R : St → St → Prop} {x y : St} (h : R x y) : W R 1 x y := ⟨x, rfl, h⟩
theorem W.front {R : St → St → Prop} {x : St} : ∀ {n : Nat} {y z : St}, R x y → W R n y z → W R (n + 1) x z
  | 0, _, _, h, h2 => by cases h2; exact ⟨x, rfl, h⟩
  | n + 1, y, z, h, h2 => by
    obtain ⟨u, h3, h4⟩ := h2
    exact ⟨u, W.front h h3, h4⟩
theorem W.map {R R' : St → St → Prop} (e : ∀ x y, R x y → R' x y) : ∀ {n : Nat} {x y : St}, W R n x y → W R' n x y
  | 0, _, _, h => h
  | n + 1, _, _, ⟨z, h, h2⟩ => ⟨z, h.map e, e _ _ h2⟩
theorem nodup_len {α : Type} [DecidableEq α] : ∀ {a b : List α}, a.Nodup → (∀ x ∈ a, x ∈ b) → a.length ≤ b.length
  | [], _, _, _ => Nat.zero_le _
  | x :: a, b, h, s => by
    obtain ⟨h1, h2⟩ := List.nodup_cons.mp h
    have hx := s x List.mem_cons_self
    have := nodup_len (a := a) (b := b.erase x) h2 fun y hy => (List.mem_erase_of_ne (fun e : y = x => h1 (e ▸ hy))).mpr (s y (List.mem_cons_of_mem _ hy))
    rw [List.length_erase_of_mem hx] at this
    have := List.length_pos_of_mem hx
    rw [List.length_cons]
    omega
theorem pair_cons {a x y : St} {l : List St} : [x, y].Sublist (a :: l) ↔ [x, y].Sublist l ∨ (x = a ∧ y ∈ l) := by
  constructor
  · intro h
    cases h with
    | cons _ h => exact .inl h
    | cons_cons _ h => exact .inr ⟨rfl, List.singleton_sublist.mp h⟩
  · rintro (h | ⟨rfl, h⟩)
    · exact h.cons _
    · exact (List.singleton_sublist.mpr h).cons_cons _
theorem pair_drop {x y : St} : ∀ {l : List St} {i : Nat}, l.Nodup → l[i]? = some x → ([x, y].Sublist l ↔ y ∈ l.drop (i + 1))
  | [], _, _, h => by cases h
  | a :: l, 0, nd, h => by
    cases h
    rw [pair_cons]
    have hn := (List.nodup_cons.mp nd).1
    exact ⟨fun h => h.elim (fun h => absurd (h.subset List.mem_cons_self) hn) fun h => h.2, fun h => .inr ⟨rfl, h⟩⟩
  | a :: l, i + 1, nd, h => by
    have h' : l[i]? = some x := h
    obtain ⟨hn, nd'⟩ := List.nodup_cons.mp nd
    rw [pair_cons, pair_drop nd' h']
    exact ⟨fun h => h.elim id fun h2 => absurd (h2.1 ▸ List.mem_of_getElem? h') hn, .inl⟩
theorem pair_ne {x y : St} {l : List St} (nd : l.Nodup) (h : [x, y].Sublist l) : x ≠ y := by
  have := nd.sublist h
  intro e
  subst e
  simp at this
theorem pair_idx {x y : St} : ∀ {l : List St}, l.Nodup → [x, y].Sublist l → l.idxOf x < l.idxOf y
  | [], _, h => by cases h
  | a :: l, nd, h => by
    obtain ⟨hn, nd'⟩ := List.nodup_cons.mp nd
    rcases pair_cons.mp h with h | ⟨rfl, h⟩
    · have hx : x ≠ a := fun e => hn (e ▸ h.subset List.mem_cons_self)
      have hy : y ≠ a := fun e => hn (e ▸ h.subset (List.mem_cons_of_mem _ List.mem_cons_self))
      have := pair_idx nd' h
      have ex : (a == x) = false := beq_false_of_ne (Ne.symm hx)
      have ey : (a == y) = false := beq_false_of_ne (Ne.symm hy)
      rw [List.idxOf_cons, List.idxOf_cons, ex, ey]
      exact Nat.succ_lt_succ this
    · rename_i hm
      have hy : x ≠ y := fun e => hn (e ▸ hm)
      have ey : (x == y) = false := beq_false_of_ne hy
      rw [List.idxOf_cons, List.idxOf_cons, ey, beq_self_eq_true]
      exact Nat.succ_pos _
/-! ### the law's search, level by level -/
def lvl (later : List St → List St) (s : St) : Nat → List St → List St → Nat → List St × Nat
  | 0, kn, _, k => (kn, k)
  | n + 1, kn, fr, k => if fr = [] ∨ s ∈ kn then (kn, k) else
      lvl later s n (kn ++ DV.sortT ((later fr).filter fun y => decide (y ∉ kn))) (DV.sortT ((later fr).filter fun y => decide (y ∉ kn))) (k + 1)
structure Lv (R : St → St → Prop) (s : St) (k : Nat) (kn fr : List St) : Prop where
  kn : ∀ y, y ∈ kn ↔ ∃ j, 1 ≤ j ∧ j ≤ k ∧ W R j s y
  fr1 : ∀ y ∈ fr, W R k s y
  fr2 : ∀ y, W R k s y → y ∈ fr ∨ ∃ j, 1 ≤ j ∧ j < k ∧ W R j s y
  pos : fr = [] → 1 ≤ k
  old : ∀ j, 1 ≤ j → j < k → ¬ W R j s s
theorem Lv.init (R : St → St → Prop) (s : St) : Lv R s 0 [] [s] where
  kn y := ⟨fun h => (by cases h), fun ⟨j, h1, h2, _⟩ => by omega⟩
  fr1 y h := by rw [List.mem_singleton] at h; exact h.symm
  fr2 y h := .inl (by rw [show y = s from h.symm]; exact List.mem_singleton.mpr rfl)
  pos h := by cases h
  old j h1 h2 := by omega
variable {R : St → St → Prop} {s : St}
theorem Lv.step {k : Nat} {kn fr : List St} {later : List St → List St} (hl : ∀ fr y, y ∈ later fr ↔ ∃ x ∈ fr, R x y) (h : Lv R s k kn fr) (hs : s ∉ kn) :
    Lv R s (k + 1) (kn ++ DV.sortT ((later fr).filter fun y => decide (y ∉ kn))) (DV.sortT ((later fr).filter fun y => decide (y ∉ kn))) := by
  have m : ∀ y, y ∈ DV.sortT ((later fr).filter fun y => decide (y ∉ kn)) ↔ (∃ x ∈ fr, R x y) ∧ y ∉ kn := fun y => by
    rw [DV.mem_sortT, List.mem_filter, hl, decide_eq_true_eq]
  have bk : ∀ y, W R (k + 1) s y → y ∈ kn ∨ ((∃ x ∈ fr, R x y) ∧ y ∉ kn) := fun y ⟨x, h1, h2⟩ => by
    by_cases hy : y ∈ kn
    · exact .inl hy
    · refine .inr ⟨?_, hy⟩
      rcases h.fr2 x h1 with h3 | ⟨j, a, b, c⟩
      · exact ⟨x, h3, h2⟩
      · exact absurd ((h.kn y).mpr ⟨j + 1, by omega, by omega, x, c, h2⟩) hy
  refine ⟨fun y => ?_, fun y hy => ?_, fun y hy => ?_, fun _ => by omega, fun j h1 h2 hw => ?_⟩
  · rw [List.mem_append, m]
    constructor
    · rintro (h1 | ⟨⟨x, h1, h2⟩, _⟩)
      · obtain ⟨j, a, b, c⟩ := (h.kn y).mp h1
        exact ⟨j, a, by omega, c⟩
      · exact ⟨k + 1, by omega, Nat.le_refl _, x, h.fr1 x h1, h2⟩
    · rintro ⟨j, a, b, c⟩
      by_cases e : j ≤ k
      · exact .inl ((h.kn y).mpr ⟨j, a, e, c⟩)
      · have e : j = k + 1 := by omega
        subst e
        exact bk y c
  · obtain ⟨⟨x, h1, h2⟩, _⟩ := (m y).mp hy
    exact ⟨x, h.fr1 x h1, h2⟩
  · rcases bk y hy with h1 | h1
    · obtain ⟨j, a, b, c⟩ := (h.kn y).mp h1
      exact .inr ⟨j, a, by omega, c⟩
    · exact .inl ((m y).mpr h1)
  · exact hs ((h.kn s).mpr ⟨j, h1, by omega, hw⟩)
/-- the shortest ring through s has n steps -/
def Cyc (R : St → St → Prop) (s : St) (n : Nat) : Prop := 1 ≤ n ∧ W R n s s ∧ ∀ j, 1 ≤ j → W R j s s → n ≤ j
theorem Lv.stop {k : Nat} {kn fr : List St} (h : Lv R s k kn fr) (hs : fr = [] ∨ s ∈ kn) : (s ∈ kn → Cyc R s k) ∧ (s ∉ kn → ∀ j, 1 ≤ j → ¬ W R j s s) := by
  constructor
  · intro hm
    obtain ⟨j, a, b, c⟩ := (h.kn s).mp hm
    have e : j = k := by
      by_cases e : j < k
      · exact absurd c (h.old j a e)
      · omega
    subst e
    refine ⟨a, c, fun i h1 h2 => ?_⟩
    by_cases e : i < j
    · exact absurd h2 (h.old i h1 e)
    · omega
  · intro hm
    have hf : fr = [] := hs.resolve_right hm
    have hk := h.pos hf
    have all : ∀ j, 1 ≤ j → ∀ y, W R j s y → y ∈ kn := by
      intro j
      induction j with
      | zero => intro h1; omega
      | succ j ih =>
        intro _ y ⟨x, h1, h2⟩
        by_cases ej : j = 0
        · subst ej
          exact (h.kn y).mpr ⟨1, Nat.le_refl _, hk, x, h1, h2⟩
        · obtain ⟨i, a, b, c⟩ := (h.kn x).mp (ih (by omega) x h1)
          have : ∃ i, 1 ≤ i ∧ i < k ∧ W R i s x := by
            by_cases e : i < k
            · exact ⟨i, a, e, c⟩
            · have e : i = k := by omega
              subst e
              rcases h.fr2 x c with h3 | h3
              · rw [hf] at h3; cases h3
              · exact h3
          obtain ⟨i, a, b, c⟩ := this
          exact (h.kn y).mpr ⟨i + 1, by omega, by omega, x, c, h2⟩
    exact fun j h1 hw => hm (all j h1 s hw)
theorem lvl_ok {later : List St → List St} (hl : ∀ fr y, y ∈ later fr ↔ ∃ x ∈ fr, R x y) (U : List St) (hU : ∀ x y, R x y → y ∈ U) :
    ∀ (n k : Nat) (kn fr : List St), Lv R s k kn fr → kn.Nodup → (∀ y ∈ kn, y ∈ U) → (fr = [] ∨ s ∈ kn ∨ U.length < n + kn.length) →
      (s ∈ (lvl later s n kn fr k).1 → Cyc R s (lvl later s n kn fr k).2) ∧ (s ∉ (lvl later s n kn fr k).1 → ∀ j, 1 ≤ j → ¬ W R j s s)
  | 0, k, kn, fr, h, nd, hu, hb => by
    refine h.stop ?_
    rcases hb with h1 | h1 | h1
    · exact .inl h1
    · exact .inr h1
    · have := nodup_len nd hu
      omega
  | n + 1, k, kn, fr, h, nd, hu, hb => by
    unfold lvl
    by_cases e : fr = [] ∨ s ∈ kn
    · rw [if_pos e]
      exact h.stop e
    · rw [if_neg e]
      have hs : s ∉ kn := fun h => e (.inr h)
      have m : ∀ y ∈ DV.sortT ((later fr).filter fun y => decide (y ∉ kn)), (∃ x ∈ fr, R x y) ∧ y ∉ kn := fun y hy => by
        rw [DV.mem_sortT, List.mem_filter, hl, decide_eq_true_eq] at hy
        exact hy
      refine lvl_ok hl U hU n (k + 1) _ _ (h.step hl hs) (List.nodup_append.mpr ⟨nd, DV.nodup_sortT _, fun a ha b hb e => (m b hb).2 (e ▸ ha)⟩) (fun y hy => ?_) ?_
      · rcases List.mem_append.mp hy with h1 | h1
        · exact hu y h1
        · obtain ⟨⟨x, _, h2⟩, _⟩ := m y h1
          exact hU x y h2
      · have hb' : U.length < n + 1 + kn.length := by
          rcases hb with h1 | h1 | h1
          · exact absurd (.inl h1) e
          · exact absurd (.inr h1) e
          · exact h1
        cases q : DV.sortT ((later fr).filter fun y => decide (y ∉ kn)) with
        | nil => exact .inl rfl
        | cons a r =>
          refine .inr (.inr ?_)
          rw [List.length_append, List.length_cons]
          omega
/-! ### the least ring over some starts -/
structure LeastIn (R : St → St → Prop) (seen : List St) (b : Nat) : Prop where
  none : b = 0 → ∀ s ∈ seen, ∀ j, 1 ≤ j → ¬ W R j s s
  some : b ≠ 0 → (∃ s ∈ seen, W R b s s) ∧ ∀ s ∈ seen, ∀ j, 1 ≤ j → W R j s s → b ≤ j
theorem LeastIn.nil : LeastIn R [] 0 := ⟨fun _ _ h => (by cases h), fun h => absurd rfl h⟩
theorem LeastIn.skip {seen : List St} {b : Nat} (h : LeastIn R seen b) (hn : ∀ j, 1 ≤ j → ¬ W R j s s) : LeastIn R (seen ++ [s]) b where
  none e x hx := by
    rcases List.mem_append.mp hx with h1 | h1
    · exact h.none e x h1
    · rw [List.mem_singleton] at h1; subst h1; exact hn
  some e := by
    obtain ⟨⟨x, h1, h2⟩, h3⟩ := h.some e
    refine ⟨⟨x, List.mem_append_left _ h1, h2⟩, fun y hy => ?_⟩
    rcases List.mem_append.mp hy with h4 | h4
    · exact h3 y h4
    · rw [List.mem_singleton] at h4; subst h4; exact fun j h5 h6 => absurd h6 (hn j h5)
theorem LeastIn.add {seen : List St} {b n : Nat} (h : LeastIn R seen b) (hc : Cyc R s n) : LeastIn R (seen ++ [s]) (if b = 0 ∨ n < b then n else b) where
  none e := by
    have := hc.1
    split at e
    · omega
    · rename_i q
      exact absurd (.inl e) q
  some e := by
    split
    · rename_i q
      refine ⟨⟨s, by simp, hc.2.1⟩, fun y hy j h5 h6 => ?_⟩
      rcases List.mem_append.mp hy with h4 | h4
      · by_cases q0 : b = 0
        · exact absurd h6 (h.none q0 y h4 j h5)
        · have := (h.some q0).2 y h4 j h5 h6
          omega
      · rw [List.mem_singleton] at h4; subst h4
        exact hc.2.2 j h5 h6
    · rename_i q
      have q0 : b ≠ 0 := fun z => q (.inl z)
      obtain ⟨⟨x, h1, h2⟩, h3⟩ := h.some q0
      refine ⟨⟨x, List.mem_append_left _ h1, h2⟩, fun y hy j h5 h6 => ?_⟩
      rcases List.mem_append.mp hy with h4 | h4
      · exact h3 y h4 j h5 h6
      · rw [List.mem_singleton] at h4; subst h4
        have := hc.2.2 j h5 h6
        omega
theorem LeastIn.uniq {A B : List St} {a b : Nat} (h : LeastIn R A a) (h2 : LeastIn R B b) (e : ∀ x, x ∈ A ↔ x ∈ B) : a = b := by
  by_cases ha : a = 0
  · by_cases hb : b = 0
    · rw [ha, hb]
    · obtain ⟨⟨x, h3, h4⟩, _⟩ := h2.some hb
      exact absurd h4 (h.none ha x ((e x).mpr h3) b (by omega))
  · obtain ⟨⟨x, h3, h4⟩, h5⟩ := h.some ha
    by_cases hb : b = 0
    · exact absurd h4 (h2.none hb x ((e x).mp h3) a (by omega))
    · obtain ⟨⟨y, h6, h7⟩, h8⟩ := h2.some hb
      have := h5 y ((e y).mpr h6) b (by omega) h7
      have := h8 x ((e x).mp h3) a (by omega) h4
      omega
end Mg

set_option Elab.async false
set_option linter.all false
namespace Mg
open PySem
/-! ### the merge fails exactly if there is a ring -/
theorem way_idx {ls : List (List St)} {r : List St} (nd : r.Nodup) (h : ∀ l ∈ ls, l.Sublist r) : ∀ {n : Nat} {x y : St}, W (Ahead ls) n x y → r.idxOf x + n ≤ r.idxOf y
  | 0, _, _, e => by cases e; exact Nat.le_refl _
  | n + 1, x, y, ⟨z, h1, l, hl, h2⟩ => by
    have := way_idx nd h h1
    have := pair_idx nd (h2.trans (h l hl))
    omega
theorem merge_noring {ls : List (List St)} {r : List St} (nd : ∀ l ∈ ls, l.Nodup) (h : mergeL ls = some r) {s : St} {j : Nat} (hj : 1 ≤ j) : ¬ W (Ahead ls) j s s := fun hw => by
  have := way_idx (merge_nodup nd h).1 (merge_sub h) hw
  omega
/-- from a relation without a first one in a list: a ring -/
theorem pigeon {α : Type} [DecidableEq α] (H : List α) (f : Nat → α) (h : ∀ k, f k ∈ H) : ∃ i j, i < j ∧ f i = f j := by
  by_cases nd : ((List.range (H.length + 1)).map f).Nodup
  · have := nodup_len nd (b := H) fun x hx => by
      obtain ⟨k, _, rfl⟩ := List.mem_map.mp hx
      exact h k
    rw [List.length_map, List.length_range] at this
    omega
  · unfold List.Nodup at nd
    rw [List.pairwise_iff_getElem] at nd
    simp only [Classical.not_forall] at nd
    obtain ⟨i, j, hi, hj, hij, e⟩ := nd
    refine ⟨i, j, hij, ?_⟩
    have e := Classical.not_not.mp e
    simpa using e
theorem back_ring {R : St → St → Prop} (H : List St) (x : St) (hx : x ∈ H) (h : ∀ y ∈ H, ∃ z ∈ H, R z y) : ∃ s ∈ H, ∃ j, 1 ≤ j ∧ W R j s s := by
  have : ∃ g : St → St, ∀ y ∈ H, g y ∈ H ∧ R (g y) y := ⟨fun y => if hy : y ∈ H then Classical.choose (h y hy) else y, fun y hy => by
    dsimp only
    rw [dif_pos hy]
    exact Classical.choose_spec (h y hy)⟩
  obtain ⟨g, hg⟩ := this
  let f : Nat → St := fun k => Nat.rec x (fun _ y => g y) k
  have fs : ∀ k, f (k + 1) = g (f k) := fun _ => rfl
  have fm : ∀ k, f k ∈ H := by
    intro k
    induction k with
    | zero => exact hx
    | succ k ih => rw [fs]; exact (hg _ ih).1
  have fw : ∀ d i, W R d (f (i + d)) (f i) := by
    intro d
    induction d with
    | zero => intro i; exact rfl
    | succ d ih =>
      intro i
      have : R (f (i + 1)) (f i) := by rw [fs]; exact (hg _ (fm i)).2
      have h2 := ih (i + 1)
      rw [show i + 1 + d = i + (d + 1) by omega] at h2
      exact ⟨_, h2, this⟩
  obtain ⟨i, j, hij, e⟩ := pigeon H f fm
  have := fw (j - i) i
  rw [show i + (j - i) = j by omega, ← e] at this
  exact ⟨f i, fm i, j - i, by omega, this⟩
theorem tail_pair {x : St} {l : List St} (h : x ∈ l.tail) : ∃ z, l.head? = some z ∧ [z, x].Sublist l := by
  cases l with
  | nil => cases h
  | cons a l => exact ⟨a, rfl, pair_cons.mpr (.inr ⟨rfl, h⟩)⟩
theorem stuck_ring {ls : List (List St)} (h : headsOf ls ≠ []) (g : goodOf ls = []) : ∃ s ∈ headsOf ls, ∃ j, 1 ≤ j ∧ W (Ahead ls) j s s := by
  obtain ⟨x, hx⟩ := List.exists_mem_of_ne_nil _ h
  refine back_ring (headsOf ls) x hx fun y hy => ?_
  unfold goodOf at g
  rw [List.filter_eq_nil_iff] at g
  have q := g y hy
  have q : inTail y ls = true := by simpa using q
  unfold inTail at q
  obtain ⟨l, hl, q⟩ := List.any_eq_true.mp q
  obtain ⟨z, h1, h2⟩ := tail_pair (of_decide_eq_true q)
  exact ⟨z, List.mem_filterMap.mpr ⟨l, hl, h1⟩, l, hl, h2⟩
theorem dropHead_sub (g : St) (l : List St) : (dropHead g l).Sublist l := by
  unfold dropHead
  split
  · exact List.tail_sublist _
  · exact List.Sublist.refl _
theorem ahead_step {ls : List (List St)} {g x y : St} (h : Ahead (step ls g) x y) : Ahead ls x y := by
  obtain ⟨l, hl, h⟩ := h
  obtain ⟨l0, h0, rfl⟩ := List.mem_map.mp hl
  exact ⟨l0, h0, h.trans (dropHead_sub g l0)⟩
theorem ring_of_none : ∀ (n : Nat) (ls : List (List St)), size ls < n → mergeL ls = none → ∃ s j, 1 ≤ j ∧ W (Ahead ls) j s s
  | 0, _, h, _ => absurd h (Nat.not_lt_zero _)
  | n + 1, ls, h, e => by
    rw [mergeL_eq] at e
    split at e
    · cases e
    · rename_i hh
      split at e
      · rename_i hg
        obtain ⟨s, _, j, h1, h2⟩ := stuck_ring hh hg
        exact ⟨s, j, h1, h2⟩
      · rename_i g gs hg
        have e := Option.map_eq_none_iff.mp e
        have hs := size_step (good_mem hg).1
        obtain ⟨s, j, h1, h2⟩ := ring_of_none n (step ls g) (by omega) e
        exact ⟨s, j, h1, h2.map fun _ _ => ahead_step⟩
theorem ring_mem {ls : List (List St)} {s : St} {j : Nat} (hj : 1 ≤ j) (h : W (Ahead ls) j s s) : ∃ l ∈ ls, s ∈ l := by
  cases j with
  | zero => omega
  | succ j =>
    obtain ⟨z, _, l, hl, h2⟩ := h
    exact ⟨l, hl, h2.subset (List.mem_cons_of_mem _ List.mem_cons_self)⟩
theorem merge_iff {ls : List (List St)} (nd : ∀ l ∈ ls, l.Nodup) {U : List St} (hU : ∀ l ∈ ls, ∀ x ∈ l, x ∈ U) {b : Nat} (h : LeastIn (Ahead ls) U b) : mergeL ls = none ↔ b ≠ 0 := by
  constructor
  · intro e hb
    obtain ⟨s, j, h1, h2⟩ := ring_of_none _ ls (Nat.lt_succ_self _) e
    obtain ⟨l, hl, hs⟩ := ring_mem h1 h2
    exact h.none hb s (hU l hl s hs) j h1 h2
  · intro hb
    cases e : mergeL ls with
    | none => rfl
    | some r =>
      obtain ⟨⟨s, _, hw⟩, _⟩ := h.some hb
      exact absurd hw (merge_noring nd e (by omega))
theorem no_self {ls : List (List St)} (nd : ∀ l ∈ ls, l.Nodup) {x y : St} (h : Ahead ls x y) : x ≠ y := by
  obtain ⟨l, hl, h⟩ := h
  exact pair_ne (nd l hl) h
end Mg

set_option Elab.async false
set_option linter.all false
namespace Mg
open PySem
/-! ### the program's search: a queue, and for each name the step that reached it -/
abbrev Ent := St × (St × Nat)
def keysE (es : List Ent) : List St := es.map (·.1)
/-- what a name's row brings -/
def newsE (x : St) : List (St × Nat) → List St → List Ent
  | [], _ => []
  | (y, i) :: r, ks => if y ∈ ks then newsE x r ks else (y, (x, i)) :: newsE x r (ks ++ [y])
theorem news_ok (x : St) : ∀ (row : List (St × Nat)) (ks : List St),
    (∀ e ∈ newsE x row ks, e.2.1 = x ∧ (e.1, e.2.2) ∈ row ∧ e.1 ∉ ks) ∧ (keysE (newsE x row ks)).Nodup ∧ (∀ y i, (y, i) ∈ row → y ∈ ks ∨ y ∈ keysE (newsE x row ks))
  | [], ks => ⟨fun e h => (by cases h), List.nodup_nil, fun _ _ h => (by cases h)⟩
  | (y, i) :: r, ks => by
    unfold newsE
    by_cases e : y ∈ ks
    · rw [if_pos e]
      obtain ⟨h1, h2, h3⟩ := news_ok x r ks
      refine ⟨fun e he => ⟨(h1 e he).1, List.mem_cons_of_mem _ (h1 e he).2.1, (h1 e he).2.2⟩, h2, fun z j hz => ?_⟩
      rcases List.mem_cons.mp hz with hz | hz
      · cases hz; exact .inl e
      · exact h3 z j hz
    · rw [if_neg e]
      obtain ⟨h1, h2, h3⟩ := news_ok x r (ks ++ [y])
      refine ⟨fun e he => ?_, ?_, fun z j hz => ?_⟩
      · rcases List.mem_cons.mp he with rfl | he
        · exact ⟨rfl, List.mem_cons_self, e⟩
        · obtain ⟨a, b, c⟩ := h1 e he
          exact ⟨a, List.mem_cons_of_mem _ b, fun hk => c (List.mem_append_left _ hk)⟩
      · refine List.nodup_cons.mpr ⟨fun hy => ?_, h2⟩
        obtain ⟨e, he, q⟩ := List.mem_map.mp hy
        have q : e.1 = y := q
        exact (h1 e he).2.2 (q ▸ (by simp))
      · rcases List.mem_cons.mp hz with hz | hz
        · cases hz; exact .inr List.mem_cons_self
        · rcases h3 z j hz with h | h
          · rcases List.mem_append.mp h with h | h
            · exact .inl h
            · rw [List.mem_singleton] at h; subst h; exact .inr List.mem_cons_self
          · exact .inr (List.mem_cons_of_mem _ h)
def bfs (T : St → List (St × Nat)) (s : St) : Nat → List Ent → List St → List Ent
  | 0, es, _ => es
  | n + 1, es, q => match q with
    | [] => es
    | x :: q => if s ∈ keysE es then es else bfs T s n (es ++ newsE x (T x) (keysE es)) (q ++ keysE (newsE x (T x) (keysE es)))
/-- the names in the order in which they are met -/
def seqE (s : St) (es : List Ent) : List St := s :: keysE es
theorem seq_succ {s : St} {es : List Ent} {j : Nat} : (seqE s es)[j + 1]? = (es[j]?).map (·.1) := by
  unfold seqE keysE
  rw [List.getElem?_cons_succ, List.getElem?_map]
structure Bf (R : St → St → Prop) (s : St) (G : St → St → Nat → Prop) (es : List Ent) (p : Nat) (dep : Nat → Nat) : Prop where
  nd : (keysE es).Nodup
  d0 : dep 0 = 0
  mono : ∀ i j, i ≤ j → j ≤ es.length → dep i ≤ dep j
  near : p ≤ es.length → dep es.length ≤ dep p + 1
  ent : ∀ j e, es[j]? = some e → ∃ k, k < p ∧ k ≤ j ∧ (seqE s es)[k]? = some e.2.1 ∧ dep (j + 1) = dep k + 1 ∧ G e.2.1 e.1 e.2.2
  pop : ∀ k, k < p → 0 < k → (seqE s es)[k]? ≠ some s
  out : ∀ k x y, k < p → (seqE s es)[k]? = some x → R x y → ∃ j, j < es.length ∧ (keysE es)[j]? = some y ∧ dep (j + 1) ≤ dep k + 1
theorem Bf.init (R : St → St → Prop) (s : St) (G : St → St → Nat → Prop) : Bf R s G [] 0 (fun _ => 0) where
  nd := List.nodup_nil
  d0 := rfl
  mono _ _ _ _ := Nat.le_refl _
  near _ := Nat.zero_le _
  ent j e h := by simp at h
  pop k h := absurd h (Nat.not_lt_zero _)
  out k x y h := absurd h (Nat.not_lt_zero _)
variable {R : St → St → Prop} {s : St} {G : St → St → Nat → Prop}
theorem seq_old {es new : List Ent} {k : Nat} (h : k ≤ es.length) : (seqE s (es ++ new))[k]? = (seqE s es)[k]? := by
  unfold seqE keysE
  rw [List.map_append, ← List.cons_append, List.getElem?_append_left]
  simp
  omega
theorem Bf.step {es : List Ent} {p : Nat} {dep : Nat → Nat} {x : St} {row : List (St × Nat)} (h : Bf R s G es p dep) (hs : s ∉ keysE es) (hp : p ≤ es.length) (hx : (seqE s es)[p]? = some x)
    (h1 : ∀ y i, (y, i) ∈ row → G x y i) (h2 : ∀ y, R x y → ∃ i, (y, i) ∈ row) : Bf R s G (es ++ newsE x row (keysE es)) (p + 1) (fun j => if j ≤ es.length then dep j else dep p + 1) := by
  obtain ⟨n1, n2, n3⟩ := news_ok x row (keysE es)
  generalize newsE x row (keysE es) = new at n1 n2 n3
  have hm : ∀ i, i ≤ es.length → dep i ≤ dep p + 1 := fun i hi => Nat.le_trans (h.mono i _ hi (Nat.le_refl _)) (h.near hp)
  refine ⟨?_, ?_, ?_, ?_, ?_, ?_, ?_⟩
  · unfold keysE at *
    rw [List.map_append]
    refine List.nodup_append.mpr ⟨h.nd, n2, fun a ha b hb e => ?_⟩
    obtain ⟨en, he, q⟩ := List.mem_map.mp hb
    have q : en.1 = b := q
    exact (n1 en he).2.2 (by rw [q, ← e]; exact ha)
  · simp [h.d0]
  · intro i j hij hj
    show (if i ≤ es.length then dep i else dep p + 1) ≤ if j ≤ es.length then dep j else dep p + 1
    by_cases a : i ≤ es.length
    · rw [if_pos a]
      by_cases b : j ≤ es.length
      · rw [if_pos b]; exact h.mono i j hij b
      · rw [if_neg b]; exact hm i a
    · rw [if_neg a, if_neg (by omega)]
      exact Nat.le_refl _
  · intro hq
    show (if (es ++ new).length ≤ es.length then dep (es ++ new).length else dep p + 1) ≤ (if p + 1 ≤ es.length then dep (p + 1) else dep p + 1) + 1
    rw [List.length_append] at hq ⊢
    by_cases a : p + 1 ≤ es.length
    · rw [if_pos a]
      have := h.mono p (p + 1) (Nat.le_succ _) a
      split
      · have := hm (es.length + new.length) (by omega); omega
      · omega
    · rw [if_neg a]
      split
      · have := hm (es.length + new.length) (by omega); omega
      · omega
  · intro j e he
    by_cases a : j < es.length
    · rw [List.getElem?_append_left a] at he
      obtain ⟨k, k1, k2, k3, k4, k5⟩ := h.ent j e he
      refine ⟨k, by omega, k2, by rw [seq_old (by omega)]; exact k3, ?_, k5⟩
      rw [if_pos (by omega), if_pos (by omega)]
      exact k4
    · rw [List.getElem?_append_right (by omega)] at he
      obtain ⟨a1, a2, a3⟩ := n1 e (List.mem_of_getElem? he)
      refine ⟨p, Nat.lt_succ_self _, by omega, by rw [seq_old hp, hx, a1], ?_, by rw [a1]; exact h1 _ _ a2⟩
      rw [if_neg (by omega), if_pos hp]
  · intro k hk h0 hz
    rw [seq_old (by omega)] at hz
    obtain ⟨k, rfl⟩ : ∃ m, k = m + 1 := ⟨k - 1, by omega⟩
    rw [seq_succ] at hz
    obtain ⟨e2, he2, q⟩ := Option.map_eq_some_iff.mp hz
    exact hs (List.mem_map.mpr ⟨e2, List.mem_of_getElem? he2, q⟩)
  · intro k z y hk hz hR
    by_cases a : k < p
    · rw [seq_old (by omega)] at hz
      obtain ⟨j, j1, j2, j3⟩ := h.out k z y a hz hR
      refine ⟨j, by rw [List.length_append]; omega, ?_, ?_⟩
      · unfold keysE at *
        rw [List.map_append, List.getElem?_append_left (by simpa using j1)]
        exact j2
      · rw [if_pos (by omega), if_pos (by omega)]
        exact j3
    · have e : k = p := by omega
      subst e
      rw [seq_old hp, hx] at hz
      cases hz
      obtain ⟨i, hi⟩ := h2 y hR
      rcases n3 y i hi with h3 | h3
      · obtain ⟨j, hj, e⟩ := List.getElem_of_mem h3
        have hj' : j < es.length := by unfold keysE at hj; simpa using hj
        refine ⟨j, by rw [List.length_append]; omega, ?_, ?_⟩
        · unfold keysE at *
          rw [List.map_append, List.getElem?_append_left (by simpa using hj'), List.getElem?_eq_getElem hj, e]
        · rw [if_pos (by omega), if_pos hp]
          exact hm _ (by omega)
      · obtain ⟨j, hj, e⟩ := List.getElem_of_mem h3
        have hj' : j < new.length := by unfold keysE at hj; simpa using hj
        refine ⟨es.length + j, by rw [List.length_append]; omega, ?_, ?_⟩
        · unfold keysE at *
          rw [List.map_append, List.getElem?_append_right (by simp), List.length_map, Nat.add_sub_cancel_left, List.getElem?_eq_getElem hj, e]
        · rw [if_neg (by omega), if_pos hp]
          exact Nat.le_refl _
/-- the steps back to the start -/
def lookE (es : List Ent) (y : St) : Option (St × Nat) := (es.find? fun e => decide (e.1 = y)).map (·.2)
theorem look_at {es : List Ent} (nd : (keysE es).Nodup) {j : Nat} {e : Ent} (h : es[j]? = some e) : lookE es e.1 = some e.2 := by
  unfold lookE
  induction es generalizing j with
  | nil => simp at h
  | cons a es ih =>
    obtain ⟨n1, n2⟩ := List.nodup_cons.mp nd
    rw [List.find?_cons]
    cases j with
    | zero => cases h; simp
    | succ j =>
      have h' : es[j]? = some e := h
      have hne : a.1 ≠ e.1 := fun z => n1 (List.mem_map.mpr ⟨e, List.mem_of_getElem? h', z.symm⟩)
      rw [decide_eq_false hne]
      exact ih n2 h'
abbrev Step3 := St × St × Nat
def chainE (es : List Ent) (s : St) : Nat → St → List Step3
  | 0, _ => []
  | n + 1, y => match lookE es y with
    | none => []
    | some (x, i) => (x, y, i) :: (if x = s then [] else chainE es s n x)
def ChOk (es : List Ent) (s : St) : Nat → St → Prop
  | 0, _ => False
  | n + 1, y => ∃ x i, lookE es y = some (x, i) ∧ (x = s ∨ ChOk es s n x)
/-- steps that follow each other from x to y -/
def PathE (G : St → St → Nat → Prop) : St → List Step3 → St → Prop
  | x, [], y => x = y
  | x, (a, b, i) :: r, y => x = a ∧ G a b i ∧ PathE G b r y
theorem path_snoc {x y z : St} {i : Nat} : ∀ {st : List Step3} {x : St}, PathE G x st y → G y z i → PathE G x (st ++ [(y, z, i)]) z
  | [], _, h, g => by cases h; exact ⟨rfl, g, rfl⟩
  | (a, b, j) :: r, _, ⟨h1, h2, h3⟩, g => ⟨h1, h2, path_snoc (x := x) h3 g⟩
theorem Bf.chain {es : List Ent} {p : Nat} {dep : Nat → Nat} (h : Bf R s G es p dep) : ∀ (n : Nat) (j : Nat) (e : Ent), es[j]? = some e → dep (j + 1) ≤ n →
    (chainE es s n e.1).length = dep (j + 1) ∧ PathE G s (chainE es s n e.1).reverse e.1 ∧ ChOk es s n e.1
  | 0, j, e, he, hn => by
    obtain ⟨k, _, _, _, k4, _⟩ := h.ent j e he
    omega
  | n + 1, j, e, he, hn => by
    obtain ⟨k, k1, k2, k3, k4, k5⟩ := h.ent j e he
    have lk := look_at h.nd he
    unfold chainE
    rw [lk]
    obtain ⟨y, x, i⟩ := e
    dsimp only at k3 k5 lk ⊢
    cases k with
    | zero =>
      have e : x = s := by
        have : (seqE s es)[0]? = some s := rfl
        rw [this] at k3
        exact (Option.some.inj k3).symm
      subst e
      rw [if_pos rfl, k4, h.d0]
      exact ⟨rfl, ⟨rfl, k5, rfl⟩, x, i, lk, .inl rfl⟩
    | succ k =>
      rw [seq_succ] at k3
      obtain ⟨e2, he2, q⟩ := Option.map_eq_some_iff.mp k3
      have q : e2.1 = x := q
      by_cases hxs : x = s
      · exact absurd (by rw [seq_succ, he2]; exact congrArg some (q.trans hxs)) (h.pop (k + 1) k1 (Nat.succ_pos _))
      · rw [if_neg hxs]
        obtain ⟨c1, c2, c3⟩ := Bf.chain h n k e2 he2 (by omega)
        rw [q] at c1 c2 c3
        refine ⟨by rw [List.length_cons, c1, k4], ?_, x, i, lk, .inr c3⟩
        rw [List.reverse_cons]
        exact path_snoc (x := s) c2 k5
/-- what the search says -/
theorem Bf.early {es : List Ent} {p : Nat} {dep : Nat → Nat} (h : Bf R s G es p dep) (hs : s ∉ keysE es) (hp : p ≤ es.length) : ∀ (j : Nat) (v : St), W R j s v → j ≤ dep p → ∃ k, k ≤ es.length ∧ (seqE s es)[k]? = some v ∧ dep k ≤ j ∧ (1 ≤ j → 1 ≤ k)
  | 0, v, e, _ => by cases e; exact ⟨0, Nat.zero_le _, rfl, by rw [h.d0]; exact Nat.le_refl _, fun h => absurd h (by omega)⟩
  | j + 1, v, ⟨u, h1, h2⟩, hj => by
    obtain ⟨k, k1, k2, k3, _⟩ := h.early hs hp j u h1 (by omega)
    have hk : k < p := by
      by_cases a : k < p
      · exact a
      · have := h.mono p k (by omega) k1
        omega
    obtain ⟨m, m1, m2, m3⟩ := h.out k u v hk k2 h2
    refine ⟨m + 1, by omega, ?_, by omega, fun _ => by omega⟩
    rw [seq_succ]
    unfold keysE at m2
    rw [List.getElem?_map] at m2
    exact m2
theorem Bf.found {es : List Ent} {p : Nat} {dep : Nat → Nat} {x : St} {row : List (St × Nat)} (h : Bf R s G es p dep) (hs : s ∉ keysE es) (hp : p ≤ es.length) (hx : (seqE s es)[p]? = some x)
    (h1 : ∀ y i, (y, i) ∈ row → G x y i) (h2 : ∀ y, R x y → ∃ i, (y, i) ∈ row) (hG : ∀ x y i, G x y i → R x y) (hn : s ∈ keysE (es ++ newsE x row (keysE es))) (n : Nat) (hb : (es ++ newsE x row (keysE es)).length ≤ n) :
    Cyc R s (chainE (es ++ newsE x row (keysE es)) s n s).length ∧ PathE G s (chainE (es ++ newsE x row (keysE es)) s n s).reverse s ∧ ChOk (es ++ newsE x row (keysE es)) s n s := by
  have B := h.step hs hp hx h1 h2
  obtain ⟨e, he, q⟩ := List.mem_map.mp hn
  have q : e.1 = s := q
  obtain ⟨j, hj, e'⟩ := List.getElem_of_mem he
  have he : (es ++ newsE x row (keysE es))[j]? = some e := by rw [List.getElem?_eq_getElem hj, e']
  have hjn : ¬ j < es.length := fun a => hs (by
    rw [List.getElem?_append_left a] at he
    exact List.mem_map.mpr ⟨e, List.mem_of_getElem? he, q⟩)
  have hd : (if j + 1 ≤ es.length then dep (j + 1) else dep p + 1) = dep p + 1 := if_neg (by omega)
  have bnd : ∀ k, k ≤ (es ++ newsE x row (keysE es)).length → (if k ≤ es.length then dep k else dep p + 1) ≤ k := by
    intro k
    induction k using Nat.strongRecOn with
    | _ k ih =>
      intro hk
      cases k with
      | zero => rw [if_pos (Nat.zero_le _), h.d0]; exact Nat.le_refl _
      | succ k =>
        obtain ⟨m, m1, m2, m3, m4, _⟩ := B.ent k _ (List.getElem?_eq_getElem (by omega))
        have := ih m (by omega) (by omega)
        omega
  obtain ⟨c1, c2, c3⟩ := B.chain n j e he (by have := bnd (j + 1) (by omega); omega)
  rw [q] at c1 c2 c3
  rw [hd] at c1
  have w : ∀ (st : List Step3) (x y : St), PathE G x st y → W R st.length x y := by
    intro st
    induction st with
    | nil => intro x y h; exact h
    | cons a st ih =>
      intro x y h
      obtain ⟨a, b, i⟩ := a
      obtain ⟨rfl, g, h3⟩ := h
      exact W.front (hG _ _ _ g) (ih _ _ h3)
  have hw := w _ _ _ c2
  rw [List.length_reverse] at hw
  refine ⟨⟨by omega, hw, fun i hi hwi => ?_⟩, c2, c3⟩
  by_cases a : i ≤ dep p
  · obtain ⟨k, k1, k2, k3, k4⟩ := h.early hs hp i s hwi a
    obtain ⟨k, rfl⟩ : ∃ m, k = m + 1 := ⟨k - 1, by have := k4 hi; omega⟩
    rw [seq_succ] at k2
    obtain ⟨e2, he2, q⟩ := Option.map_eq_some_iff.mp k2
    exact absurd (List.mem_map.mpr ⟨e2, List.mem_of_getElem? he2, q⟩) hs
  · omega
theorem Bf.none {es : List Ent} {p : Nat} {dep : Nat → Nat} (h : Bf R s G es p dep) (hs : s ∉ keysE es) (hp : es.length < p) : ∀ j, 1 ≤ j → ¬ W R j s s := by
  have all : ∀ (j : Nat) (v : St), W R j s v → ∃ k, k ≤ es.length ∧ (seqE s es)[k]? = some v ∧ (1 ≤ j → 1 ≤ k) := by
    intro j
    induction j with
    | zero => intro v e; cases e; exact ⟨0, Nat.zero_le _, rfl, fun h => absurd h (by omega)⟩
    | succ j ih =>
      rintro v ⟨u, h1, h2⟩
      obtain ⟨k, k1, k2, _⟩ := ih u h1
      obtain ⟨m, m1, m2, m3⟩ := h.out k u v (by omega) k2 h2
      refine ⟨m + 1, by omega, ?_, fun _ => by omega⟩
      rw [seq_succ]
      unfold keysE at m2
      rw [List.getElem?_map] at m2
      exact m2
  intro j hj hw
  obtain ⟨k, k1, k2, k3⟩ := all j s hw
  obtain ⟨k, rfl⟩ : ∃ m, k = m + 1 := ⟨k - 1, by have := k3 hj; omega⟩
  rw [seq_succ] at k2
  obtain ⟨e2, he2, q⟩ := Option.map_eq_some_iff.mp k2
  exact hs (List.mem_map.mpr ⟨e2, List.mem_of_getElem? he2, q⟩)
end Mg

set_option Elab.async false
set_option linter.all false
set_option maxRecDepth 100000
namespace K05
open PySem PySem.Spec PyProof.Rows L2 DV
def topS (i : Nat) : Stmt := PySem.Challenge.pw_nextbehind_k05_clashes_raised.main.body.getD i (.Pass ⟨0, 0, 0, 0⟩)
def ancT : String → List Cl
  | "BadTuple" => [.own "BadTuple", .own "WorldError", .bi "ValueError", .bi "Exception", .bi "BaseException", .bi "object"]
  | "Clash" => [.own "Clash", .own "LimitError", .bi "ArithmeticError", .bi "Exception", .bi "BaseException", .bi "object"]
  | _ => []
def xsT : List String := ["BadTuple", "Clash"]
def ownT : List String := ["WorldError", "BadTuple", "LimitError", "Clash"]
def biT : List String := []
def sbT : String → Cl → Option Bool := sbM ancT xsT ownT biT
theorem ancOk : AncOk ancT xsT ownT biT := by unfold AncOk; decide +kernel
def mt_WorldError : Cl → Option Bool := mtM ancT xsT "WorldError"
def mt_BadTuple : Cl → Option Bool := mtM ancT xsT "BadTuple"
def mt_LimitError : Cl → Option Bool := mtM ancT xsT "LimitError"
def mt_Clash : Cl → Option Bool := mtM ancT xsT "Clash"
def xs_index : List String := ["BadTuple"]
def xs_name : List String := ["Clash"]
def xs_tuples : List String := ["Clash"]
def xs_steps : List String := ["Clash"]
abbrev s_init_BadTuple : Stmt := (clsBody (topS 2)).getD 0 (.Pass ⟨0, 0, 0, 0⟩)
theorem w_BadTuple : InitW s_init_BadTuple "self" ["index"] ["self", "index", "__class__"] ["index"] := ⟨NdefX.nscope_by (by decide +kernel), rfl, ⟨_, rfl, rfl⟩, fun qual cc co doc pm ctv us hl => match us, hl with | [_, _], _ => rfl,
  ⟨_, _, _, _, _, _, _, _, _, _, by rfl, fun env => by rfl, fun P w K mg base qual cc co f A outer s H E => (pss_cons (ps_stoB (pe_var (i := 0) rfl (by first | exact Or.inl rfl | exact Or.inr (Or.inl rfl))) (pe_var (i := 1) rfl (by first | exact Or.inl rfl | exact Or.inr (Or.inl rfl)))) pss_nil)⟩⟩
abbrev s_init_Clash : Stmt := (clsBody (topS 4)).getD 0 (.Pass ⟨0, 0, 0, 0⟩)
theorem w_Clash : InitW s_init_Clash "self" ["name", "tuples", "steps"] ["self", "name", "tuples", "steps", "__class__"] ["name", "tuples", "steps"] := ⟨NdefX.nscope_by (by decide +kernel), rfl, ⟨_, rfl, rfl⟩, fun qual cc co doc pm ctv us hl => match us, hl with | [_, _, _, _], _ => rfl,
  ⟨_, _, _, _, _, _, _, _, _, _, by rfl, fun env => by rfl, fun P w K mg base qual cc co f A outer s H E => (pss_cons (ps_stoB (pe_var (i := 0) rfl (by first | exact Or.inl rfl | exact Or.inr (Or.inl rfl))) (pe_var (i := 1) rfl (by first | exact Or.inl rfl | exact Or.inr (Or.inl rfl)))) (pss_cons (ps_stoB (pe_var (i := 0) rfl (by first | exact Or.inl rfl | exact Or.inr (Or.inl rfl))) (pe_var (i := 2) rfl (by first | exact Or.inl rfl | exact Or.inr (Or.inl rfl)))) (pss_cons (ps_stoB (pe_var (i := 0) rfl (by first | exact Or.inl rfl | exact Or.inr (Or.inl rfl))) (pe_var (i := 3) rfl (by first | exact Or.inl rfl | exact Or.inr (Or.inl rfl)))) pss_nil)))⟩⟩
section
variable {P : Program} {w : World} {K : PySem.W.Frag} {mg : Str → Option Value} {base : Heap} {ct : String → Addr}

abbrev s_is_name : Stmt := topS 8
theorem sc_is_name : FnScope ["thing", "sign"] ["thing"] (defScope s_is_name) := ⟨rfl, rfl, rfl, by decide +kernel, rfl, by decide +kernel, by decide +kernel⟩
noncomputable def b_is_name : SF := (sSeq (sIf (tOrD (tNotD (tOfE (eArgs gIsa (aCons (eVar 0) (aCons (eC (.cls (.bi "str"))) aNil))))) (tNotD (fun ro A => ((eChain gLe gLe (eC (.int 1)) (eArgs gLen (aCons (eVar 0) aNil)) (eC (.int 8))) ro A).bind gBool)))
  (sRet (eC (.bl false)))
  sNx)
  (sRet (eArgs gAll (aCons (eComp (iSeq (eVar 0)) (.one 1) [1] ttYes (eBin gIn (eVar 1) (eC (.str "abcdefghijklmnopqrstuvwxyz")))) aNil))))
theorem d_is_name (m_isinstance : mg "isinstance" = none) (m_str : mg "str" = none) (m_len : mg "len" = none) (m_all : mg "all" = none) (g_MOST_LETTERS : ∃ u, mg "MOST_LETTERS" = some u ∧ RelV (.int 8) u) (g_LETTERS : ∃ u, mg "LETTERS" = some u ∧ RelV (.str "abcdefghijklmnopqrstuvwxyz") u) (f : Addr) :
    ∀ (cdv : Value) (A : Around) (outer : List PySem.Env) (s : Shared) (H : Hp) (E : XK), A.guards = some [] → Room 0 (A.deeper (envOfC "is_name" (defScope s_is_name) s.heap.objs.size f cdv)) → PSsD (cxD P w K mg base ["thing", "sign"] "is_name" s_is_name f cdv A outer s H E) ct (WD E) (defBody s_is_name) b_is_name := by
  intro cdv A outer s H E hg hr
  have tk : Takes (cxD P w K mg base ["thing", "sign"] "is_name" s_is_name f cdv A outer s H E) (WD E) := takes_of rfl rfl rfl rfl
  have hp : PassesOwn (model (cxD P w K mg base ["thing", "sign"] "is_name" s_is_name f cdv A outer s H E).prog (cxD P w K mg base ["thing", "sign"] "is_name" s_is_name f cdv A outer s H E).w) (cxD P w K mg base ["thing", "sign"] "is_name" s_is_name f cdv A outer s H E).A (cxD P w K mg base ["thing", "sign"] "is_name" s_is_name f cdv A outer s H E).env (cxD P w K mg base ["thing", "sign"] "is_name" s_is_name f cdv A outer s H E).xe := passes_of rfl
  exact (pssd_cons (psd_if (pdw_t (pdw_or (pdt_not (pdt_truth (pd_callB call_isi gIsa_ok (by rfl) m_isinstance (by decide +kernel) (pda_cons (pd_var 0) (pda_cons (pd_c (pe_bltn (v := .ty "str") (u := .type "str") (by rfl) m_str (by decide +kernel) rfl) (fun _ _ => .ty _)) pda_nil))))) (pdw_or1 (pdt_not (pdt_chain op_leX gLtL_ok op_leX gLtL_ok pd_int (pd_callB call_lenX gLen_ok (by rfl) m_len PySem.boot_len (pda_cons (pd_var 0) pda_nil)) (pd_gc (by rfl) g_MOST_LETTERS (fun _ _ => .int _)))))))
  (pssd_one (psd_ret pd_bl))
  pssd_nil)
  (pssd_one (psd_ret (pd_callB (cr_all rfl) gAll_ok (by rfl) m_all (by decide +kernel) (pda_cons (pd_comp (own := [("sign", 1)]) rfl sc_is_name.nd (pid_seq (pd_var 0)) (blkOk_by (N := ["thing", "sign"]) (sc := (defScope s_is_name)) (by decide +kernel)) (by decide) (fun _ _ _ _ _ => pg_name (i := 1) sc_is_name.nd rfl (Or.inl rfl)) (fun _ _ _ _ _ => ptsd_nil) (fun _ _ _ _ _ => (pd_cmp op_inX gIn_ok (pd_var 1) (pd_gc (by rfl) g_LETTERS (fun _ _ => .str _)) (by with_unfolding_all rfl)))) pda_nil)))))
noncomputable def F_is_name : FF := fun ds A => finR A (b_is_name (startD 2 ds) A)
theorem o_is_name (m_isinstance : mg "isinstance" = none) (m_str : mg "str" = none) (m_len : mg "len" = none) (m_all : mg "all" = none) (g_MOST_LETTERS : ∃ u, mg "MOST_LETTERS" = some u ∧ RelV (.int 8) u) (g_LETTERS : ∃ u, mg "LETTERS" = some u ∧ RelV (.str "abcdefghijklmnopqrstuvwxyz") u) {f : Addr} {fd : FuncData} (Fn : Fun K "is_name" "is_name" s_is_name f fd) : FnG P w K mg base 1 f fd ["thing"] (spD K ct 1 F_is_name) := okD Fn sc_is_name (d_is_name m_isinstance m_str m_len m_all g_MOST_LETTERS g_LETTERS f) fun ds A _ h => finR_ok h

abbrev s_are_different : Stmt := topS 9
theorem sc_are_different : FnScope ["thing", "name"] ["thing"] (defScope s_are_different) := ⟨rfl, rfl, rfl, by decide +kernel, rfl, by decide +kernel, by decide +kernel⟩
noncomputable def b_are_different : SF := (sSeq (sIf (tOrD (tNotD (tOfE (eArgs gIsa (aCons (eVar 0) (aCons (eC (.cls (.bi "tuple"))) aNil))))) (tNotD (tOfE (eArgs gAll (aCons (eComp (iSeq (eVar 0)) (.one 1) [1] ttYes (eArgs (fun ds A => F_is_name (ds ++ []) A) (aCons (eVar 1) aNil))) aNil)))))
  (sRet (eC (.bl false)))
  sNx)
  (sRet (eBin gEq (eUn gLenSet (eVar 0)) (eArgs gLen (aCons (eVar 0) aNil)))))
theorem d_are_different (c_is_name : Cal P w K mg base ct 1 "is_name" 1 [] F_is_name) (m_isinstance : mg "isinstance" = none) (m_tuple : mg "tuple" = none) (m_all : mg "all" = none) (m_len : mg "len" = none) (m_set : mg "set" = none) (f : Addr) :
    ∀ (cdv : Value) (A : Around) (outer : List PySem.Env) (s : Shared) (H : Hp) (E : XK), A.guards = some [] → Room 1 (A.deeper (envOfC "are_different" (defScope s_are_different) s.heap.objs.size f cdv)) → PSsD (cxD P w K mg base ["thing", "name"] "are_different" s_are_different f cdv A outer s H E) ct (WD E) (defBody s_are_different) b_are_different := by
  intro cdv A outer s H E hg hr
  have tk : Takes (cxD P w K mg base ["thing", "name"] "are_different" s_are_different f cdv A outer s H E) (WD E) := takes_of rfl rfl rfl rfl
  have hp : PassesOwn (model (cxD P w K mg base ["thing", "name"] "are_different" s_are_different f cdv A outer s H E).prog (cxD P w K mg base ["thing", "name"] "are_different" s_are_different f cdv A outer s H E).w) (cxD P w K mg base ["thing", "name"] "are_different" s_are_different f cdv A outer s H E).A (cxD P w K mg base ["thing", "name"] "are_different" s_are_different f cdv A outer s H E).env (cxD P w K mg base ["thing", "name"] "are_different" s_are_different f cdv A outer s H E).xe := passes_of rfl
  exact (pssd_cons (psd_if (pdw_t (pdw_or (pdt_not (pdt_truth (pd_callB call_isi gIsa_ok (by rfl) m_isinstance (by decide +kernel) (pda_cons (pd_var 0) (pda_cons (pd_c (pe_bltn (v := .ty "tuple") (u := .type "tuple") (by rfl) m_tuple (by decide +kernel) rfl) (fun _ _ => .ty _)) pda_nil))))) (pdw_or1 (pdt_not (pdt_truth (pd_callB (cr_all rfl) gAll_ok (by rfl) m_all (by decide +kernel) (pda_cons (pd_comp (own := [("name", 1)]) rfl sc_are_different.nd (pid_seq (pd_var 0)) (blkOk_by (N := ["thing", "name"]) (sc := (defScope s_are_different)) (by decide +kernel)) (by decide) (fun _ _ _ _ _ => pg_name (i := 1) sc_are_different.nd rfl (Or.inl rfl)) (fun _ _ _ _ _ => ptsd_nil) (fun _ _ _ _ _ => (pd_call c_is_name hg hr (by decide) (by rfl) takes0 (pda_cons (pd_var 1) pda_nil) (ar_cons ar_nil) rfl))) pda_nil)))))))
  (pssd_one (psd_ret pd_bl))
  pssd_nil)
  (pssd_one (psd_ret (pd_cmp (op_eqX hr.units) gEq_ok (pd_lenSet rfl (by rfl) m_len (by rfl) m_set (pd_var 0)) (pd_callB call_lenX gLen_ok (by rfl) m_len PySem.boot_len (pda_cons (pd_var 0) pda_nil)) (nomark _)))))
noncomputable def F_are_different : FF := fun ds A => finR A (b_are_different (startD 2 ds) A)
theorem o_are_different (c_is_name : Cal P w K mg base ct 1 "is_name" 1 [] F_is_name) (m_isinstance : mg "isinstance" = none) (m_tuple : mg "tuple" = none) (m_all : mg "all" = none) (m_len : mg "len" = none) (m_set : mg "set" = none) {f : Addr} {fd : FuncData} (Fn : Fun K "are_different" "are_different" s_are_different f fd) : FnG P w K mg base 2 f fd ["thing"] (spD K ct 1 F_are_different) := okD Fn sc_are_different (d_are_different c_is_name m_isinstance m_tuple m_all m_len m_set f) fun ds A _ h => finR_ok h

abbrev s_following : Stmt := topS 12
theorem sc_following : FnScope ["tuples", "found", "index", "one", "place", "name", "row", "other"] ["tuples"] (defScope s_following) := ⟨rfl, rfl, rfl, by decide +kernel, rfl, by decide +kernel, by decide +kernel⟩
noncomputable def b_following : SF := (sSeq (sAsg eDicM (gNm 1))
  (sSeq (sFor (iEnumS (eVar 0)) (gTpl [(gNm 2), (gNm 3)])
  (sFor (iEnumS (eVar 3)) (gTpl [(gNm 4), (gNm 5)])
  (sSeq (sAsg (eSetd (eVar 1) (eVar 5) eDicM) (gNm 6))
  (sFor (iSeq (eCut (eVar 3) (oSome (eBin gAdd (eVar 4) (eC (.int 1)))) oNone)) (gNm 7)
  (sEx (eSetd (eVar 6) (eVar 7) (eVar 2)))))))
  (sRet (eVar 1))))
theorem d_following (m_enumerate : mg "enumerate" = none) (f : Addr) :
    ∀ (cdv : Value) (A : Around) (outer : List PySem.Env) (s : Shared) (H : Hp) (E : XK), A.guards = some [] → Room 0 (A.deeper (envOfC "following" (defScope s_following) s.heap.objs.size f cdv)) → PSsD (cxD P w K mg base ["tuples", "found", "index", "one", "place", "name", "row", "other"] "following" s_following f cdv A outer s H E) ct (WD E) (defBody s_following) b_following := by
  intro cdv A outer s H E hg hr
  have tk : Takes (cxD P w K mg base ["tuples", "found", "index", "one", "place", "name", "row", "other"] "following" s_following f cdv A outer s H E) (WD E) := takes_of rfl rfl rfl rfl
  have hp : PassesOwn (model (cxD P w K mg base ["tuples", "found", "index", "one", "place", "name", "row", "other"] "following" s_following f cdv A outer s H E).prog (cxD P w K mg base ["tuples", "found", "index", "one", "place", "name", "row", "other"] "following" s_following f cdv A outer s H E).w) (cxD P w K mg base ["tuples", "found", "index", "one", "place", "name", "row", "other"] "following" s_following f cdv A outer s H E).A (cxD P w K mg base ["tuples", "found", "index", "one", "place", "name", "row", "other"] "following" s_following f cdv A outer s H E).env (cxD P w K mg base ["tuples", "found", "index", "one", "place", "name", "row", "other"] "following" s_following f cdv A outer s H E).xe := passes_of rfl
  exact (pssd_cons (psd_set (i := 1) sc_following.nd rfl (Or.inl rfl) pd_dicM)
  (pssd_cons (psd_for hp rfl (pid_enum (by rfl) m_enumerate (pd_var 0)) (pgd_tup rfl (pgsd_cons (pgd_name (i := 2) sc_following.nd rfl (Or.inl rfl)) (pgsd_cons (pgd_name (i := 3) sc_following.nd rfl (Or.inl rfl)) pgsd_nil)))
  (pssd_one (psd_for hp rfl (pid_enum (by rfl) m_enumerate (pd_var 3)) (pgd_tup rfl (pgsd_cons (pgd_name (i := 4) sc_following.nd rfl (Or.inl rfl)) (pgsd_cons (pgd_name (i := 5) sc_following.nd rfl (Or.inl rfl)) pgsd_nil)))
  (pssd_cons (psd_set (i := 6) sc_following.nd rfl (Or.inl rfl) (pd_setd (pd_var 1) (pd_var 5) pd_dicM ⟨by rfl, by rfl, by rfl, by rfl⟩))
  (pssd_one (psd_for hp rfl (pid_seq (pd_cut (pd_var 3) (pdo_some (pd_op op_addX gAdd_ok (pd_var 4) pd_int)) pdo_none)) (pgd_name (i := 7) sc_following.nd rfl (Or.inl rfl))
  (pssd_one (psd_expr (pd_setd (pd_var 6) (pd_var 7) (pd_var 2) ⟨by rfl, by rfl, by rfl, by rfl⟩)))))))))
  (pssd_one (psd_ret (pd_var 1)))))
noncomputable def F_following : FF := fun ds A => finK (b_following (startD 8 ds) A)
theorem o_following (m_enumerate : mg "enumerate" = none) {f : Addr} {fd : FuncData} (Fn : Fun K "following" "following" s_following f fd) : FnG P w K mg base 1 f fd ["tuples"] (spD K ct 1 F_following) := okD Fn sc_following (d_following m_enumerate f) fun ds A _ h => finK_ok h

abbrev s_ring_through : Stmt := topS 13
theorem sc_ring_through : FnScope ["table", "start", "before", "waiting", "name", "other", "index", "found"] ["table", "start"] (defScope s_ring_through) := ⟨rfl, rfl, rfl, by decide +kernel, rfl, by decide +kernel, by decide +kernel⟩
noncomputable def b_ring_through : SF := (sSeq (sPar (aCons eDicM (aCons (eArgs gLstM (aCons (eVar 1) aNil)) aNil)) [2, 3])
  (sSeq (whileD (tAndD (tOfE (eVar 3)) (tCmpD (gInT false) (eVar 1) (eVar 2)))
  (sSeq (sAsg (eMeth isL gPopAt (eVar 3) (aCons (eC (.int 0)) aNil)) (gNm 4))
  (lockD (eBin gSubT (eVar 0) (eVar 4)) (sFor (iItemsT (eBin gSubT (eVar 0) (eVar 4))) (gTpl [(gNm 5), (gNm 6)])
  (sIf (tCmpD (gInT false) (eVar 5) (eVar 2))
  (sSeq (sAsg (eArgs gTupD (aCons (eVar 4) (aCons (eVar 5) (aCons (eVar 6) aNil)))) (gAt (eVar 2) (eVar 5)))
  (sEx (eMeth isL gAppend (eVar 3) (aCons (eVar 5) aNil))))
  sNx)))) 200)
  (sSeq (sIf (tCmpD (gInT false) (eVar 1) (eVar 2))
  (sRet (eC .non))
  sNx)
  (sSeq (sAsg (eArgs gLstM (aCons (eBin gSubT (eVar 2) (eVar 1)) aNil)) (gNm 7))
  (sSeq (whileD (tCmpD gNe (eBin gSubD (eBin gSubD (eVar 7) (eUn gNeg (eC (.int 1)))) (eC (.int 0))) (eVar 1))
  (sEx (eMeth isL gAppend (eVar 7) (aCons (eBin gSubT (eVar 2) (eBin gSubD (eBin gSubD (eVar 7) (eUn gNeg (eC (.int 1)))) (eC (.int 0)))) aNil))) 200)
  (sRet (eArgs gTuple (aCons (eUn gRev (eVar 7)) aNil))))))))
theorem d_ring_through (m_tuple : mg "tuple" = none) (f : Addr) :
    ∀ (cdv : Value) (A : Around) (outer : List PySem.Env) (s : Shared) (H : Hp) (E : XK), A.guards = some [] → Room 0 (A.deeper (envOfC "ring_through" (defScope s_ring_through) s.heap.objs.size f cdv)) → PSsD (cxD P w K mg base ["table", "start", "before", "waiting", "name", "other", "index", "found"] "ring_through" s_ring_through f cdv A outer s H E) ct (WD E) (defBody s_ring_through) b_ring_through := by
  intro cdv A outer s H E hg hr
  have tk : Takes (cxD P w K mg base ["table", "start", "before", "waiting", "name", "other", "index", "found"] "ring_through" s_ring_through f cdv A outer s H E) (WD E) := takes_of rfl rfl rfl rfl
  have hp : PassesOwn (model (cxD P w K mg base ["table", "start", "before", "waiting", "name", "other", "index", "found"] "ring_through" s_ring_through f cdv A outer s H E).prog (cxD P w K mg base ["table", "start", "before", "waiting", "name", "other", "index", "found"] "ring_through" s_ring_through f cdv A outer s H E).w) (cxD P w K mg base ["table", "start", "before", "waiting", "name", "other", "index", "found"] "ring_through" s_ring_through f cdv A outer s H E).A (cxD P w K mg base ["table", "start", "before", "waiting", "name", "other", "index", "found"] "ring_through" s_ring_through f cdv A outer s H E).env (cxD P w K mg base ["table", "start", "before", "waiting", "name", "other", "index", "found"] "ring_through" s_ring_through f cdv A outer s H E).xe := passes_of rfl
  exact (pssd_cons (psd_par (i := 2) (j := 3) rfl sc_ring_through.nd rfl rfl (by decide) rfl rfl (pda_cons pd_dicM (pda_cons (pd_lstM (pda_cons (pd_var 1) pda_nil)) pda_nil)) rfl)
  (pssd_cons (psd_while 200 hp (pdw_t (pdw_and (pdt_truth (pd_var 3)) (pdw_and1 (pdt_notInT (hu_of hr) (pd_var 1) (pd_var 2)))))
  (pssd_cons (psd_set (i := 4) sc_ring_through.nd rfl (Or.inl rfl) (pd_meth PySem.F.plainAttrs_list PySem.F.slot_list_pop PySem.F.type_list_pop mt_popAt gPopAt_ok isL_ok (pd_var 3) (pda_cons pd_int pda_nil)))
  (pssd_one (psd_lock (psd_for hp rfl (pid_itemsT (pd_subT (hu_of hr) (pd_var 0) (pd_var 4) (fun _ _ => rfl))) (pgd_tup rfl (pgsd_cons (pgd_name (i := 5) sc_ring_through.nd rfl (Or.inl rfl)) (pgsd_cons (pgd_name (i := 6) sc_ring_through.nd rfl (Or.inl rfl)) pgsd_nil)))
  (pssd_one (psd_if (pdt_notInT (hu_of hr) (pd_var 5) (pd_var 2))
  (pssd_cons (psd_asg (pd_tup (pda_cons (pd_var 4) (pda_cons (pd_var 5) (pda_cons (pd_var 6) pda_nil)))) (pgd_at (pd_var 2) (pd_var 5) (hu_of hr)))
  (pssd_one (psd_expr (pd_meth PySem.F.plainAttrs_list PySem.F.slot_list_append PySem.F.type_list_append mt_append gAppend_ok isL_ok (pd_var 3) (pda_cons (pd_var 5) pda_nil)))))
  pssd_nil)))))))
  (pssd_cons (psd_if (pdt_notInT (hu_of hr) (pd_var 1) (pd_var 2))
  (pssd_one (psd_ret pd_non))
  pssd_nil)
  (pssd_cons (psd_set (i := 7) sc_ring_through.nd rfl (Or.inl rfl) (pd_lstM (pda_cons (pd_subT (hu_of hr) (pd_var 2) (pd_var 1) (fun _ _ => rfl)) pda_nil)))
  (pssd_cons (psd_while 200 hp (pdt_cmp (op_neX hr.units) gNe_ok (pd_sub (hu_of hr) (pd_sub (hu_of hr) (pd_var 7) (pd_un un_neg gNeg_ok pd_int) (fun _ _ => rfl) (fun _ _ => rfl)) pd_int (fun _ _ => rfl) (fun _ _ => rfl)) (pd_var 1) (nomark _))
  (pssd_one (psd_expr (pd_meth PySem.F.plainAttrs_list PySem.F.slot_list_append PySem.F.type_list_append mt_append gAppend_ok isL_ok (pd_var 7) (pda_cons (pd_subT (hu_of hr) (pd_var 2) (pd_sub (hu_of hr) (pd_sub (hu_of hr) (pd_var 7) (pd_un un_neg gNeg_ok pd_int) (fun _ _ => rfl) (fun _ _ => rfl)) pd_int (fun _ _ => rfl) (fun _ _ => rfl)) (fun _ _ => rfl)) pda_nil)))))
  (pssd_one (psd_ret (pd_callTy call_tupleF gTuple_ok (by rfl) m_tuple (by decide +kernel) (pda_cons (pd_rev (pd_var 7)) pda_nil)))))))))
noncomputable def F_ring_through : FF := fun ds A => finR A (b_ring_through (startD 8 ds) A)
theorem o_ring_through (m_tuple : mg "tuple" = none) {f : Addr} {fd : FuncData} (Fn : Fun K "ring_through" "ring_through" s_ring_through f fd) : FnG P w K mg base 1 f fd ["table", "start"] (spD K ct 2 F_ring_through) := okD Fn sc_ring_through (d_ring_through m_tuple f) fun ds A _ h => finR_ok h

abbrev s_shortest_ring : Stmt := topS 14
theorem sc_shortest_ring : FnScope ["tuples", "table", "best", "start", "steps"] ["tuples"] (defScope s_shortest_ring) := ⟨rfl, rfl, rfl, by decide +kernel, rfl, by decide +kernel, by decide +kernel⟩
noncomputable def b_shortest_ring : SF := (sSeq (sPar (aCons (eArgs (fun ds A => F_following (ds ++ []) A) (aCons (eVar 0) aNil)) (aCons (eC .non) aNil)) [1, 2])
  (sSeq (lockD (eVar 1) (sFor (iKeysT (eVar 1)) (gNm 3)
  (sSeq (sAsg (eArgs (fun ds A => F_ring_through (ds ++ []) A) (aCons (eVar 1) (aCons (eVar 3) aNil))) (gNm 4))
  (sIf (tAndD (tCmpD gNotN (eVar 4) (eC .non)) (tOrD (tCmpD gIsN (eVar 2) (eC .non)) (tCmpD gLt (eArgs gLen (aCons (eVar 4) aNil)) (eArgs gLen (aCons (eVar 2) aNil)))))
  (sAsg (eVar 4) (gNm 2))
  sNx))))
  (sRet (eVar 2))))
theorem d_shortest_ring (c_following : Cal P w K mg base ct 1 "following" 1 [] F_following) (c_ring_through : Cal P w K mg base ct 1 "ring_through" 2 [] F_ring_through) (m_len : mg "len" = none) (f : Addr) :
    ∀ (cdv : Value) (A : Around) (outer : List PySem.Env) (s : Shared) (H : Hp) (E : XK), A.guards = some [] → Room 1 (A.deeper (envOfC "shortest_ring" (defScope s_shortest_ring) s.heap.objs.size f cdv)) → PSsD (cxD P w K mg base ["tuples", "table", "best", "start", "steps"] "shortest_ring" s_shortest_ring f cdv A outer s H E) ct (WD E) (defBody s_shortest_ring) b_shortest_ring := by
  intro cdv A outer s H E hg hr
  have tk : Takes (cxD P w K mg base ["tuples", "table", "best", "start", "steps"] "shortest_ring" s_shortest_ring f cdv A outer s H E) (WD E) := takes_of rfl rfl rfl rfl
  have hp : PassesOwn (model (cxD P w K mg base ["tuples", "table", "best", "start", "steps"] "shortest_ring" s_shortest_ring f cdv A outer s H E).prog (cxD P w K mg base ["tuples", "table", "best", "start", "steps"] "shortest_ring" s_shortest_ring f cdv A outer s H E).w) (cxD P w K mg base ["tuples", "table", "best", "start", "steps"] "shortest_ring" s_shortest_ring f cdv A outer s H E).A (cxD P w K mg base ["tuples", "table", "best", "start", "steps"] "shortest_ring" s_shortest_ring f cdv A outer s H E).env (cxD P w K mg base ["tuples", "table", "best", "start", "steps"] "shortest_ring" s_shortest_ring f cdv A outer s H E).xe := passes_of rfl
  exact (pssd_cons (psd_par (i := 1) (j := 2) rfl sc_shortest_ring.nd rfl rfl (by decide) rfl rfl (pda_cons (pd_call c_following hg hr (by decide) (by rfl) tk (pda_cons (pd_var 0) pda_nil) (ar_cons ar_nil) rfl) (pda_cons pd_non pda_nil)) rfl)
  (pssd_cons (psd_lock (psd_for hp rfl (pid_keysT (pd_var 1)) (pgd_name (i := 3) sc_shortest_ring.nd rfl (Or.inl rfl))
  (pssd_cons (psd_set (i := 4) sc_shortest_ring.nd rfl (Or.inl rfl) (pd_call c_ring_through hg hr (by decide) (by rfl) tk (pda_cons (pd_var 1) (pda_cons (pd_var 3) pda_nil)) (ar_cons (ar_cons ar_nil)) rfl))
  (pssd_one (psd_if (pdw_t (pdw_and (pdt_cmp op_notN gNotN_ok (pd_var 4) pd_non (nomark _)) (pdw_and1 (pdw_t (pdw_or (pdt_cmp op_isN gIsN_ok (pd_var 2) pd_non (nomark _)) (pdw_or1 (pdt_cmp op_ltX gLtL_ok (pd_callB call_lenX gLen_ok (by rfl) m_len PySem.boot_len (pda_cons (pd_var 4) pda_nil)) (pd_callB call_lenX gLen_ok (by rfl) m_len PySem.boot_len (pda_cons (pd_var 2) pda_nil)) (nomark _))))))))
  (pssd_one (psd_set (i := 2) sc_shortest_ring.nd rfl (Or.inl rfl) (pd_var 4)))
  pssd_nil)))))
  (pssd_one (psd_ret (pd_var 2)))))
noncomputable def F_shortest_ring : FF := fun ds A => finR A (b_shortest_ring (startD 5 ds) A)
theorem o_shortest_ring (c_following : Cal P w K mg base ct 1 "following" 1 [] F_following) (c_ring_through : Cal P w K mg base ct 1 "ring_through" 2 [] F_ring_through) (m_len : mg "len" = none) {f : Addr} {fd : FuncData} (Fn : Fun K "shortest_ring" "shortest_ring" s_shortest_ring f fd) : FnG P w K mg base 2 f fd ["tuples"] (spD K ct 1 F_shortest_ring) := okD Fn sc_shortest_ring (d_shortest_ring c_following c_ring_through m_len f) fun ds A _ h => finR_ok h

abbrev s_merge_of : Stmt := topS 11
theorem sc_merge_of : FnScope ["tuples", "places", "found", "behind", "one", "name", "heads", "free", "index", "place"] ["tuples"] (defScope s_merge_of) := ⟨rfl, rfl, rfl, by decide +kernel, rfl, by decide +kernel, by decide +kernel⟩
noncomputable def b_merge_of : SF := (sSeq (sAsg (eArgs gTupD (aCons (eBin gMulM (eArgs gLstD (aCons (eC (.int 0)) aNil)) (eArgs gLen (aCons (eVar 0) aNil))) (aCons (eArgs gLstM aNil) (aCons eDicM aNil)))) (gTpl [(gNm 1), (gNm 2), (gNm 3)]))
  (sSeq (sFor (iSeq (eVar 0)) (gNm 4)
  (sFor (iSeq (eCut (eVar 4) (oSome (eC (.int 1))) oNone)) (gNm 5)
  (sAsg (eBin gAdd (eGet2 (eVar 3) (eVar 5) (eC (.int 0))) (eC (.int 1))) (gAt (eVar 3) (eVar 5)))))
  (whileD (tOfE (eC (.bl true)))
  (sSeq (sAsg (eComp (iZipS (eVar 0) (eVar 1)) (.tup [4, 9]) [4, 9] (tCmpD gLt (eVar 9) (eArgs gLen (aCons (eVar 4) aNil))) (eBin gSubD (eVar 4) (eVar 9))) (gNm 6))
  (sSeq (sAsg (eComp (iSeq (eVar 6)) (.one 5) [5] (tCmpD gEq (eGet2 (eVar 3) (eVar 5) (eC (.int 0))) (eC (.int 0))) (eVar 5)) (gNm 7))
  (sSeq (sIf (tCmpD gEq (eVar 6) (eArgs gLstD aNil))
  (sRet (eArgs gTupD (aCons (eArgs gTuple (aCons (eVar 2) aNil)) (aCons (eC .non) aNil))))
  sNx)
  (sSeq (sIf (tCmpD gEq (eVar 7) (eArgs gLstD aNil))
  (sRet (eArgs gTupD (aCons (eC .non) (aCons (eArgs (fun ds A => F_shortest_ring (ds ++ []) A) (aCons (eVar 0) aNil)) aNil))))
  sNx)
  (sSeq (sEx (eMeth isL gAppend (eVar 2) (aCons (eBin gSubD (eVar 7) (eC (.int 0))) aNil)))
  (sFor (iEnumS (eVar 0)) (gTpl [(gNm 8), (gNm 4)])
  (sIf (tCmpD gEq (eCut (eVar 4) (oSome (eBin gSubD (eVar 1) (eVar 8))) (oSome (eBin gAdd (eBin gSubD (eVar 1) (eVar 8)) (eC (.int 1))))) (eArgs gTupD (aCons (eBin gSubD (eVar 7) (eC (.int 0))) aNil)))
  (sSeq (sAugAt gAddI (eVar 1) (eVar 8) (eC (.int 1)))
  (sIf (tCmpD gLt (eBin gSubD (eVar 1) (eVar 8)) (eArgs gLen (aCons (eVar 4) aNil)))
  (sAugAt gSub (eVar 3) (eBin gSubD (eVar 4) (eBin gSubD (eVar 1) (eVar 8))) (eC (.int 1)))
  sNx))
  sNx))))))) 200)))
theorem d_merge_of (c_shortest_ring : Cal P w K mg base ct 2 "shortest_ring" 1 [] F_shortest_ring) (m_len : mg "len" = none) (m_zip : mg "zip" = none) (m_tuple : mg "tuple" = none) (m_enumerate : mg "enumerate" = none) (f : Addr) :
    ∀ (cdv : Value) (A : Around) (outer : List PySem.Env) (s : Shared) (H : Hp) (E : XK), A.guards = some [] → Room 2 (A.deeper (envOfC "merge_of" (defScope s_merge_of) s.heap.objs.size f cdv)) → PSsD (cxD P w K mg base ["tuples", "places", "found", "behind", "one", "name", "heads", "free", "index", "place"] "merge_of" s_merge_of f cdv A outer s H E) ct (WD E) (defBody s_merge_of) b_merge_of := by
  intro cdv A outer s H E hg hr
  have tk : Takes (cxD P w K mg base ["tuples", "places", "found", "behind", "one", "name", "heads", "free", "index", "place"] "merge_of" s_merge_of f cdv A outer s H E) (WD E) := takes_of rfl rfl rfl rfl
  have hp : PassesOwn (model (cxD P w K mg base ["tuples", "places", "found", "behind", "one", "name", "heads", "free", "index", "place"] "merge_of" s_merge_of f cdv A outer s H E).prog (cxD P w K mg base ["tuples", "places", "found", "behind", "one", "name", "heads", "free", "index", "place"] "merge_of" s_merge_of f cdv A outer s H E).w) (cxD P w K mg base ["tuples", "places", "found", "behind", "one", "name", "heads", "free", "index", "place"] "merge_of" s_merge_of f cdv A outer s H E).A (cxD P w K mg base ["tuples", "places", "found", "behind", "one", "name", "heads", "free", "index", "place"] "merge_of" s_merge_of f cdv A outer s H E).env (cxD P w K mg base ["tuples", "places", "found", "behind", "one", "name", "heads", "free", "index", "place"] "merge_of" s_merge_of f cdv A outer s H E).xe := passes_of rfl
  exact (pssd_cons (psd_asg (pd_tup (pda_cons (pd_op op_mulX gMulM_ok (pd_lst (pda_cons pd_int pda_nil)) (pd_callB call_lenX gLen_ok (by rfl) m_len PySem.boot_len (pda_cons (pd_var 0) pda_nil))) (pda_cons (pd_lstM pda_nil) (pda_cons pd_dicM pda_nil)))) (pgd_tup rfl (pgsd_cons (pgd_name (i := 1) sc_merge_of.nd rfl (Or.inl rfl)) (pgsd_cons (pgd_name (i := 2) sc_merge_of.nd rfl (Or.inl rfl)) (pgsd_cons (pgd_name (i := 3) sc_merge_of.nd rfl (Or.inr rfl)) pgsd_nil)))))
  (pssd_cons (psd_for hp rfl (pid_seq (pd_var 0)) (pgd_name (i := 4) sc_merge_of.nd rfl (Or.inl rfl))
  (pssd_one (psd_for hp rfl (pid_seq (pd_cut (pd_var 4) (pdo_some pd_int) pdo_none)) (pgd_name (i := 5) sc_merge_of.nd rfl (Or.inl rfl))
  (pssd_one (psd_asg (pd_op op_addX gAdd_ok (pd_get2 (hu_of hr) (pd_var 3) (pd_var 5) pd_int) pd_int) (pgd_at (pd_var 3) (pd_var 5) (hu_of hr)))))))
  (pssd_one (psd_while 200 hp (pdt_truth pd_bl)
  (pssd_cons (psd_setComp (i := 6) (own := [("one", 4), ("place", 9)]) rfl sc_merge_of.nd rfl rfl (sw_true rfl rfl rfl (by decide +kernel)) (pid_zipS (by rfl) m_zip (pd_var 0) (pd_var 1)) (blkOk_by (N := ["tuples", "places", "found", "behind", "one", "name", "heads", "free", "index", "place"]) (sc := (defScope s_merge_of)) (by decide +kernel)) (by decide) (fun _ _ _ _ _ => pg_tup rfl (pgs_cons (pg_name (i := 4) sc_merge_of.nd rfl (Or.inl rfl)) (pgs_cons (pg_name (i := 9) sc_merge_of.nd rfl (Or.inl rfl)) pgs_nil))) (fun _ _ _ _ _ => (ptsd_one (pdt_cmp op_ltX gLtL_ok (pd_var 9) (pd_callB call_lenX gLen_ok (by rfl) m_len PySem.boot_len (pda_cons (pd_var 4) pda_nil)) (nomark _)))) (fun _ _ _ _ _ => (pd_sub (hu_of hr) (pd_var 4) (pd_var 9) (fun _ _ => rfl) (fun _ _ => rfl))))
  (pssd_cons (psd_setComp (i := 7) (own := [("name", 5)]) rfl sc_merge_of.nd rfl rfl (sw_true rfl rfl rfl (by decide +kernel)) (pid_seq (pd_var 6)) (blkOk_by (N := ["tuples", "places", "found", "behind", "one", "name", "heads", "free", "index", "place"]) (sc := (defScope s_merge_of)) (by decide +kernel)) (by decide) (fun _ _ _ _ _ => pg_name (i := 5) sc_merge_of.nd rfl (Or.inl rfl)) (fun _ _ _ _ _ => (ptsd_one (pdt_cmp (op_eqX hr.units) gEq_ok (pd_get2 (hu_of hr) (pd_var 3) (pd_var 5) pd_int) pd_int (nomark _)))) (fun _ _ _ _ _ => (pd_var 5)))
  (pssd_cons (psd_if (pdt_cmp (op_eqX hr.units) gEq_ok (pd_var 6) (pd_lst pda_nil) (nomark _))
  (pssd_one (psd_ret (pd_tup (pda_cons (pd_callTy call_tupleF gTuple_ok (by rfl) m_tuple (by decide +kernel) (pda_cons (pd_var 2) pda_nil)) (pda_cons pd_non pda_nil)))))
  pssd_nil)
  (pssd_cons (psd_if (pdt_cmp (op_eqX hr.units) gEq_ok (pd_var 7) (pd_lst pda_nil) (nomark _))
  (pssd_one (psd_ret (pd_tup (pda_cons pd_non (pda_cons (pd_call c_shortest_ring hg hr (by decide) (by rfl) tk (pda_cons (pd_var 0) pda_nil) (ar_cons ar_nil) rfl) pda_nil)))))
  pssd_nil)
  (pssd_cons (psd_expr (pd_meth PySem.F.plainAttrs_list PySem.F.slot_list_append PySem.F.type_list_append mt_append gAppend_ok isL_ok (pd_var 2) (pda_cons (pd_sub (hu_of hr) (pd_var 7) pd_int (fun _ _ => rfl) (fun _ _ => rfl)) pda_nil)))
  (pssd_one (psd_for hp rfl (pid_enum (by rfl) m_enumerate (pd_var 0)) (pgd_tup rfl (pgsd_cons (pgd_name (i := 8) sc_merge_of.nd rfl (Or.inl rfl)) (pgsd_cons (pgd_name (i := 4) sc_merge_of.nd rfl (Or.inl rfl)) pgsd_nil)))
  (pssd_one (psd_if (pdt_cmp (op_eqX hr.units) gEq_ok (pd_cut (pd_var 4) (pdo_some (pd_sub (hu_of hr) (pd_var 1) (pd_var 8) (fun _ _ => rfl) (fun _ _ => rfl))) (pdo_some (pd_op op_addX gAdd_ok (pd_sub (hu_of hr) (pd_var 1) (pd_var 8) (fun _ _ => rfl) (fun _ _ => rfl)) pd_int))) (pd_tup (pda_cons (pd_sub (hu_of hr) (pd_var 7) pd_int (fun _ _ => rfl) (fun _ _ => rfl)) pda_nil)) (nomark _))
  (pssd_cons (psd_augAt (hu_of hr) (pd_var 1) (pd_var 8) pd_int ip_add gAddI_ok)
  (pssd_one (psd_if (pdt_cmp op_ltX gLtL_ok (pd_sub (hu_of hr) (pd_var 1) (pd_var 8) (fun _ _ => rfl) (fun _ _ => rfl)) (pd_callB call_lenX gLen_ok (by rfl) m_len PySem.boot_len (pda_cons (pd_var 4) pda_nil)) (nomark _))
  (pssd_one (psd_augAt (hu_of hr) (pd_var 3) (pd_sub (hu_of hr) (pd_var 4) (pd_sub (hu_of hr) (pd_var 1) (pd_var 8) (fun _ _ => rfl) (fun _ _ => rfl)) (fun _ _ => rfl) (fun _ _ => rfl)) pd_int ip_sub gSubI_ok))
  pssd_nil)))
  pssd_nil)))))))))))))
noncomputable def F_merge_of : FF := fun ds A => finR A (b_merge_of (startD 10 ds) A)
theorem o_merge_of (c_shortest_ring : Cal P w K mg base ct 2 "shortest_ring" 1 [] F_shortest_ring) (m_len : mg "len" = none) (m_zip : mg "zip" = none) (m_tuple : mg "tuple" = none) (m_enumerate : mg "enumerate" = none) {f : Addr} {fd : FuncData} (Fn : Fun K "merge_of" "merge_of" s_merge_of f fd) : FnG P w K mg base 3 f fd ["tuples"] (spD K ct 1 F_merge_of) := okD Fn sc_merge_of (d_merge_of c_shortest_ring m_len m_zip m_tuple m_enumerate f) fun ds A _ h => finR_ok h

abbrev s_check_tuples : Stmt := topS 15
theorem sc_check_tuples : FnScope ["tuples", "index", "one"] ["tuples"] (defScope s_check_tuples) := ⟨rfl, rfl, rfl, by decide +kernel, rfl, by decide +kernel, by decide +kernel⟩
noncomputable def b_check_tuples : SF := (sFor (iEnumS (eVar 0)) (gTpl [(gNm 1), (gNm 2)])
  (sIf (tNotD (tOfE (eArgs (fun ds A => F_are_different (ds ++ []) A) (aCons (eVar 2) aNil))))
  (sRaise "BadTuple" ["index"] (aCons (eVar 1) aNil))
  sNx))
theorem d_check_tuples (c_are_different : Cal P w K mg base ct 2 "are_different" 1 [] F_are_different) (m_enumerate : mg "enumerate" = none) (x_BadTuple : CalX P w K mg base ct "BadTuple" "BadTuple" ["index"]) (f : Addr) :
    ∀ (cdv : Value) (A : Around) (outer : List PySem.Env) (s : Shared) (H : Hp) (E : XK), A.guards = some [] → Room 2 (A.deeper (envOfC "check_tuples" (defScope s_check_tuples) s.heap.objs.size f cdv)) → PSsD (cxD P w K mg base ["tuples", "index", "one"] "check_tuples" s_check_tuples f cdv A outer s H E) ct (WD E) (defBody s_check_tuples) b_check_tuples := by
  intro cdv A outer s H E hg hr
  have tk : Takes (cxD P w K mg base ["tuples", "index", "one"] "check_tuples" s_check_tuples f cdv A outer s H E) (WD E) := takes_of rfl rfl rfl rfl
  have hp : PassesOwn (model (cxD P w K mg base ["tuples", "index", "one"] "check_tuples" s_check_tuples f cdv A outer s H E).prog (cxD P w K mg base ["tuples", "index", "one"] "check_tuples" s_check_tuples f cdv A outer s H E).w) (cxD P w K mg base ["tuples", "index", "one"] "check_tuples" s_check_tuples f cdv A outer s H E).A (cxD P w K mg base ["tuples", "index", "one"] "check_tuples" s_check_tuples f cdv A outer s H E).env (cxD P w K mg base ["tuples", "index", "one"] "check_tuples" s_check_tuples f cdv A outer s H E).xe := passes_of rfl
  exact (pssd_one (psd_for hp rfl (pid_enum (by rfl) m_enumerate (pd_var 0)) (pgd_tup rfl (pgsd_cons (pgd_name (i := 1) sc_check_tuples.nd rfl (Or.inl rfl)) (pgsd_cons (pgd_name (i := 2) sc_check_tuples.nd rfl (Or.inl rfl)) pgsd_nil)))
  (pssd_one (psd_if (pdt_not (pdt_truth (pd_call c_are_different hg hr (by decide) (by rfl) tk (pda_cons (pd_var 2) pda_nil) (ar_cons ar_nil) rfl)))
  (pssd_one (psd_raise x_BadTuple (hr.mono (by decide)) rfl tk (by rfl) (pda_cons (pd_var 1) pda_nil)))
  pssd_nil))))
noncomputable def F_check_tuples : FF := fun ds A => finR A (b_check_tuples (startD 3 ds) A)
theorem o_check_tuples (c_are_different : Cal P w K mg base ct 2 "are_different" 1 [] F_are_different) (m_enumerate : mg "enumerate" = none) (x_BadTuple : CalX P w K mg base ct "BadTuple" "BadTuple" ["index"]) {f : Addr} {fd : FuncData} (Fn : Fun K "check_tuples" "check_tuples" s_check_tuples f fd) : FnG P w K mg base 3 f fd ["tuples"] (spD K ct 1 F_check_tuples) := okD Fn sc_check_tuples (d_check_tuples c_are_different m_enumerate x_BadTuple f) fun ds A _ h => finR_ok h

abbrev s_merged : Stmt := topS 16
theorem sc_merged : FnScope ["tuples", "found", "steps"] ["tuples"] (defScope s_merged) := ⟨rfl, rfl, rfl, by decide +kernel, rfl, by decide +kernel, by decide +kernel⟩
noncomputable def b_merged : SF := (sSeq (sEx (eArgs (fun ds A => F_check_tuples (ds ++ []) A) (aCons (eVar 0) aNil)))
  (sSeq (sAsg (eArgs (fun ds A => F_merge_of (ds ++ []) A) (aCons (eVar 0) aNil)) (gTpl [(gNm 1), (gNm 2)]))
  (sSeq (sIf (tCmpD gIsN (eVar 1) (eC .non))
  (sRaise "Clash" ["name", "tuples", "steps"] (aCons (eC .non) (aCons (eVar 0) (aCons (eVar 2) aNil))))
  sNx)
  (sRet (eVar 1)))))
theorem d_merged (c_check_tuples : Cal P w K mg base ct 3 "check_tuples" 1 [] F_check_tuples) (c_merge_of : Cal P w K mg base ct 3 "merge_of" 1 [] F_merge_of) (x_Clash : CalX P w K mg base ct "Clash" "Clash" ["name", "tuples", "steps"]) (f : Addr) :
    ∀ (cdv : Value) (A : Around) (outer : List PySem.Env) (s : Shared) (H : Hp) (E : XK), A.guards = some [] → Room 3 (A.deeper (envOfC "merged" (defScope s_merged) s.heap.objs.size f cdv)) → PSsD (cxD P w K mg base ["tuples", "found", "steps"] "merged" s_merged f cdv A outer s H E) ct (WD E) (defBody s_merged) b_merged := by
  intro cdv A outer s H E hg hr
  have tk : Takes (cxD P w K mg base ["tuples", "found", "steps"] "merged" s_merged f cdv A outer s H E) (WD E) := takes_of rfl rfl rfl rfl
  have hp : PassesOwn (model (cxD P w K mg base ["tuples", "found", "steps"] "merged" s_merged f cdv A outer s H E).prog (cxD P w K mg base ["tuples", "found", "steps"] "merged" s_merged f cdv A outer s H E).w) (cxD P w K mg base ["tuples", "found", "steps"] "merged" s_merged f cdv A outer s H E).A (cxD P w K mg base ["tuples", "found", "steps"] "merged" s_merged f cdv A outer s H E).env (cxD P w K mg base ["tuples", "found", "steps"] "merged" s_merged f cdv A outer s H E).xe := passes_of rfl
  exact (pssd_cons (psd_expr (pd_call c_check_tuples hg hr (by decide) (by rfl) tk (pda_cons (pd_var 0) pda_nil) (ar_cons ar_nil) rfl))
  (pssd_cons (psd_asg (pd_call c_merge_of hg hr (by decide) (by rfl) tk (pda_cons (pd_var 0) pda_nil) (ar_cons ar_nil) rfl) (pgd_tup rfl (pgsd_cons (pgd_name (i := 1) sc_merged.nd rfl (Or.inl rfl)) (pgsd_cons (pgd_name (i := 2) sc_merged.nd rfl (Or.inl rfl)) pgsd_nil))))
  (pssd_cons (psd_if (pdt_cmp op_isN gIsN_ok (pd_var 1) pd_non (nomark _))
  (pssd_one (psd_raise x_Clash (hr.mono (by decide)) rfl tk (by rfl) (pda_cons pd_non (pda_cons (pd_var 0) (pda_cons (pd_var 2) pda_nil)))))
  pssd_nil)
  (pssd_one (psd_ret (pd_var 1))))))
noncomputable def F_merged : FF := fun ds A => finR A (b_merged (startD 3 ds) A)
theorem o_merged (c_check_tuples : Cal P w K mg base ct 3 "check_tuples" 1 [] F_check_tuples) (c_merge_of : Cal P w K mg base ct 3 "merge_of" 1 [] F_merge_of) (x_Clash : CalX P w K mg base ct "Clash" "Clash" ["name", "tuples", "steps"]) {f : Addr} {fd : FuncData} (Fn : Fun K "merged" "merged" s_merged f fd) (hb : ∀ us : List Value, bindArgs fd ⟨us, []⟩ = (newTuple us >>= fun t => pure [(("tuples" : Str), t)])) : FnS P w K mg base 4 f (spS K ct F_merged) := okDS Fn sc_merged hb (d_merged c_check_tuples c_merge_of x_Clash f) fun ds A _ h => finR_ok h

abbrev s__law_source : Stmt := topS 18
theorem sc__law_source : FnScope ["_law_script", "_law_k", "_law_cell"] ["_law_script", "_law_k"] (defScope s__law_source) := ⟨rfl, rfl, rfl, by decide +kernel, rfl, by decide +kernel, by decide +kernel⟩
noncomputable def b__law_source : SF := (sSeq (sAsg (eIf (tCmpD gNe (eVar 0) (eArgs gLstD aNil)) (eBin gSubD (eVar 0) (eBin gMod (eVar 1) (eArgs gLen (aCons (eVar 0) aNil)))) (eC (.int 1))) (gNm 2))
  (sRet (eArgs gLstM (aCons (eVar 2) (aCons (eBin gMul (eC (.int 3)) (eVar 1)) (aCons (eIf (tCmpD gGe (eVar 2) (eBin gPow (eC (.int 10)) (eC (.int 18)))) (eBin gDiv (eVar 2) (eBin gPow (eC (.int 10)) (eC (.int 18)))) (eC (.int 0))) aNil))))))
theorem d__law_source (m_len : mg "len" = none) (f : Addr) :
    ∀ (cdv : Value) (A : Around) (outer : List PySem.Env) (s : Shared) (H : Hp) (E : XK), A.guards = some [] → Room 0 (A.deeper (envOfC "_law_source" (defScope s__law_source) s.heap.objs.size f cdv)) → PSsD (cxD P w K mg base ["_law_script", "_law_k", "_law_cell"] "_law_source" s__law_source f cdv A outer s H E) ct (WD E) (defBody s__law_source) b__law_source := by
  intro cdv A outer s H E hg hr
  have tk : Takes (cxD P w K mg base ["_law_script", "_law_k", "_law_cell"] "_law_source" s__law_source f cdv A outer s H E) (WD E) := takes_of rfl rfl rfl rfl
  have hp : PassesOwn (model (cxD P w K mg base ["_law_script", "_law_k", "_law_cell"] "_law_source" s__law_source f cdv A outer s H E).prog (cxD P w K mg base ["_law_script", "_law_k", "_law_cell"] "_law_source" s__law_source f cdv A outer s H E).w) (cxD P w K mg base ["_law_script", "_law_k", "_law_cell"] "_law_source" s__law_source f cdv A outer s H E).A (cxD P w K mg base ["_law_script", "_law_k", "_law_cell"] "_law_source" s__law_source f cdv A outer s H E).env (cxD P w K mg base ["_law_script", "_law_k", "_law_cell"] "_law_source" s__law_source f cdv A outer s H E).xe := passes_of rfl
  exact (pssd_cons (psd_set (i := 2) sc__law_source.nd rfl (Or.inl rfl) (pd_if (pdt_cmp (op_neX hr.units) gNe_ok (pd_var 0) (pd_lst pda_nil) (nomark _)) (pd_sub (hu_of hr) (pd_var 0) (pd_op op_mod gMod_ok (pd_var 1) (pd_callB call_lenX gLen_ok (by rfl) m_len PySem.boot_len (pda_cons (pd_var 0) pda_nil))) (fun _ _ => rfl) (fun _ _ => rfl)) pd_int))
  (pssd_one (psd_ret (pd_lstM (pda_cons (pd_var 2) (pda_cons (pd_op op_mulX gMul_ok pd_int (pd_var 1)) (pda_cons (pd_if (pdt_cmp op_geX gLtL_ok (pd_var 2) (pd_op op_pow gPow_ok pd_int pd_int) (nomark _)) (pd_op op_fdivW gDiv_ok (pd_var 2) (pd_op op_pow gPow_ok pd_int pd_int)) pd_int) pda_nil)))))))
noncomputable def F__law_source : FF := fun ds A => finK (b__law_source (startD 3 ds) A)
theorem o__law_source (m_len : mg "len" = none) {f : Addr} {fd : FuncData} (Fn : Fun K "_law_source" "_law_source" s__law_source f fd) : FnG P w K mg base 1 f fd ["_law_script", "_law_k"] (spD K ct 2 F__law_source) := okD Fn sc__law_source (d__law_source m_len f) fun ds A _ h => finK_ok h

abbrev s__law_next : Stmt := topS 19
theorem sc__law_next : FnScope ["_law_source_here", "_law_many", "_law_found", "_law_primes", "_law_prime"] ["_law_source_here", "_law_many"] (defScope s__law_next) := ⟨rfl, rfl, rfl, by decide +kernel, rfl, by decide +kernel, by decide +kernel⟩
noncomputable def b__law_next : SF := (sSeq (sIf (tCmpD gGt (eBin gSubD (eVar 0) (eC (.int 2))) (eC (.int 0)))
  (sSeq (sAsg (eBin gMod (eBin gSubD (eVar 0) (eC (.int 2))) (eVar 1)) (gNm 2))
  (sSeq (sAsg (eBin gDiv (eBin gSubD (eVar 0) (eC (.int 2))) (eVar 1)) (gAt (eVar 0) (eC (.int 2))))
  (sRet (eVar 2))))
  sNx)
  (sSeq (sAsg (eBin gAdd (eBin gSubD (eVar 0) (eC (.int 1))) (eC (.int 1))) (gAt (eVar 0) (eC (.int 1))))
  (sSeq (sAsg (eArgs gLstD (aCons (eC (.int 2147483647)) (aCons (eC (.int 2147483629)) (aCons (eC (.int 2147483587)) (aCons (eC (.int 2147483579)) (aCons (eC (.int 2147483563)) (aCons (eC (.int 2147483549)) (aCons (eC (.int 2147483543)) (aCons (eC (.int 2147483497)) aNil))))))))) (gNm 3))
  (sSeq (sAsg (eBin gSubD (eBin gAdd (eVar 3) (eArgs gLstD (aCons (eC (.int 2147483489)) (aCons (eC (.int 2147483477)) (aCons (eC (.int 2147483423)) aNil))))) (eBin gMod (eBin gSubD (eVar 0) (eC (.int 1))) (eC (.int 11)))) (gNm 4))
  (sRet (eBin gMod (eBin gDiv (eBin gMod (eBin gPow (eBin gAdd (eBin gAdd (eBin gMod (eBin gSubD (eVar 0) (eC (.int 0))) (eVar 4)) (eBin gMul (eC (.int 7919)) (eBin gSubD (eVar 0) (eC (.int 1))))) (eC (.int 1))) (eC (.int 5))) (eVar 4)) (eC (.int 13))) (eVar 1)))))))
theorem d__law_next  (f : Addr) :
    ∀ (cdv : Value) (A : Around) (outer : List PySem.Env) (s : Shared) (H : Hp) (E : XK), A.guards = some [] → Room 0 (A.deeper (envOfC "_law_next" (defScope s__law_next) s.heap.objs.size f cdv)) → PSsD (cxD P w K mg base ["_law_source_here", "_law_many", "_law_found", "_law_primes", "_law_prime"] "_law_next" s__law_next f cdv A outer s H E) ct (WD E) (defBody s__law_next) b__law_next := by
  intro cdv A outer s H E hg hr
  have tk : Takes (cxD P w K mg base ["_law_source_here", "_law_many", "_law_found", "_law_primes", "_law_prime"] "_law_next" s__law_next f cdv A outer s H E) (WD E) := takes_of rfl rfl rfl rfl
  have hp : PassesOwn (model (cxD P w K mg base ["_law_source_here", "_law_many", "_law_found", "_law_primes", "_law_prime"] "_law_next" s__law_next f cdv A outer s H E).prog (cxD P w K mg base ["_law_source_here", "_law_many", "_law_found", "_law_primes", "_law_prime"] "_law_next" s__law_next f cdv A outer s H E).w) (cxD P w K mg base ["_law_source_here", "_law_many", "_law_found", "_law_primes", "_law_prime"] "_law_next" s__law_next f cdv A outer s H E).A (cxD P w K mg base ["_law_source_here", "_law_many", "_law_found", "_law_primes", "_law_prime"] "_law_next" s__law_next f cdv A outer s H E).env (cxD P w K mg base ["_law_source_here", "_law_many", "_law_found", "_law_primes", "_law_prime"] "_law_next" s__law_next f cdv A outer s H E).xe := passes_of rfl
  exact (pssd_cons (psd_if (pdt_cmp op_gtX gLtL_ok (pd_sub (hu_of hr) (pd_var 0) pd_int (fun _ _ => rfl) (fun _ _ => rfl)) pd_int (nomark _))
  (pssd_cons (psd_set (i := 2) sc__law_next.nd rfl (Or.inl rfl) (pd_op op_mod gMod_ok (pd_sub (hu_of hr) (pd_var 0) pd_int (fun _ _ => rfl) (fun _ _ => rfl)) (pd_var 1)))
  (pssd_cons (psd_asg (pd_op op_fdivW gDiv_ok (pd_sub (hu_of hr) (pd_var 0) pd_int (fun _ _ => rfl) (fun _ _ => rfl)) (pd_var 1)) (pgd_at (pd_var 0) pd_int (hu_of hr)))
  (pssd_one (psd_ret (pd_var 2)))))
  pssd_nil)
  (pssd_cons (psd_asg (pd_op op_addX gAdd_ok (pd_sub (hu_of hr) (pd_var 0) pd_int (fun _ _ => rfl) (fun _ _ => rfl)) pd_int) (pgd_at (pd_var 0) pd_int (hu_of hr)))
  (pssd_cons (psd_set (i := 3) sc__law_next.nd rfl (Or.inl rfl) (pd_lst (pda_cons pd_int (pda_cons pd_int (pda_cons pd_int (pda_cons pd_int (pda_cons pd_int (pda_cons pd_int (pda_cons pd_int (pda_cons pd_int pda_nil))))))))))
  (pssd_cons (psd_set (i := 4) sc__law_next.nd rfl (Or.inl rfl) (pd_sub (hu_of hr) (pd_op op_addX gAdd_ok (pd_var 3) (pd_lst (pda_cons pd_int (pda_cons pd_int (pda_cons pd_int pda_nil))))) (pd_op op_mod gMod_ok (pd_sub (hu_of hr) (pd_var 0) pd_int (fun _ _ => rfl) (fun _ _ => rfl)) pd_int) (fun _ _ => rfl) (fun _ _ => rfl)))
  (pssd_one (psd_ret (pd_op op_mod gMod_ok (pd_op op_fdivW gDiv_ok (pd_op op_mod gMod_ok (pd_op op_pow gPow_ok (pd_op op_addX gAdd_ok (pd_op op_addX gAdd_ok (pd_op op_mod gMod_ok (pd_sub (hu_of hr) (pd_var 0) pd_int (fun _ _ => rfl) (fun _ _ => rfl)) (pd_var 4)) (pd_op op_mulX gMul_ok pd_int (pd_sub (hu_of hr) (pd_var 0) pd_int (fun _ _ => rfl) (fun _ _ => rfl)))) pd_int) pd_int) (pd_var 4)) pd_int) (pd_var 1))))))))
noncomputable def F__law_next : FF := fun ds A => finR A (b__law_next (startD 5 ds) A)
theorem o__law_next  {f : Addr} {fd : FuncData} (Fn : Fun K "_law_next" "_law_next" s__law_next f fd) : FnG P w K mg base 1 f fd ["_law_source_here", "_law_many"] (spD K ct 2 F__law_next) := okD Fn sc__law_next (d__law_next  f) fun ds A _ h => finR_ok h

abbrev s__law_mixed : Stmt := topS 20
theorem sc__law_mixed : FnScope ["_law_source_here", "_law_items", "_law_rest", "_law_found"] ["_law_source_here", "_law_items"] (defScope s__law_mixed) := ⟨rfl, rfl, rfl, by decide +kernel, rfl, by decide +kernel, by decide +kernel⟩
noncomputable def b__law_mixed : SF := (sSeq (sPar (aCons (eArgs gListM (aCons (eVar 1) aNil)) (aCons (eArgs gLstM aNil) aNil)) [2, 3])
  (sSeq (whileD (tCmpD gNe (eVar 2) (eArgs gLstD aNil))
  (sEx (eMeth isL gAppend (eVar 3) (aCons (eMeth isL gPopAt (eVar 2) (aCons (eArgs (fun ds A => F__law_next (ds ++ []) A) (aCons (eVar 0) (aCons (eArgs gLen (aCons (eVar 2) aNil)) aNil))) aNil)) aNil))) 200)
  (sRet (eVar 3))))
theorem d__law_mixed (c__law_next : Cal P w K mg base ct 1 "_law_next" 2 [] F__law_next) (m_list : mg "list" = none) (m_len : mg "len" = none) (f : Addr) :
    ∀ (cdv : Value) (A : Around) (outer : List PySem.Env) (s : Shared) (H : Hp) (E : XK), A.guards = some [] → Room 1 (A.deeper (envOfC "_law_mixed" (defScope s__law_mixed) s.heap.objs.size f cdv)) → PSsD (cxD P w K mg base ["_law_source_here", "_law_items", "_law_rest", "_law_found"] "_law_mixed" s__law_mixed f cdv A outer s H E) ct (WD E) (defBody s__law_mixed) b__law_mixed := by
  intro cdv A outer s H E hg hr
  have tk : Takes (cxD P w K mg base ["_law_source_here", "_law_items", "_law_rest", "_law_found"] "_law_mixed" s__law_mixed f cdv A outer s H E) (WD E) := takes_of rfl rfl rfl rfl
  have hp : PassesOwn (model (cxD P w K mg base ["_law_source_here", "_law_items", "_law_rest", "_law_found"] "_law_mixed" s__law_mixed f cdv A outer s H E).prog (cxD P w K mg base ["_law_source_here", "_law_items", "_law_rest", "_law_found"] "_law_mixed" s__law_mixed f cdv A outer s H E).w) (cxD P w K mg base ["_law_source_here", "_law_items", "_law_rest", "_law_found"] "_law_mixed" s__law_mixed f cdv A outer s H E).A (cxD P w K mg base ["_law_source_here", "_law_items", "_law_rest", "_law_found"] "_law_mixed" s__law_mixed f cdv A outer s H E).env (cxD P w K mg base ["_law_source_here", "_law_items", "_law_rest", "_law_found"] "_law_mixed" s__law_mixed f cdv A outer s H E).xe := passes_of rfl
  exact (pssd_cons (psd_par (i := 2) (j := 3) rfl sc__law_mixed.nd rfl rfl (by decide) rfl rfl (pda_cons (pd_callTy call_list_of gListM_ok (by rfl) m_list (by decide +kernel) (pda_cons (pd_var 1) pda_nil)) (pda_cons (pd_lstM pda_nil) pda_nil)) rfl)
  (pssd_cons (psd_while 200 hp (pdt_cmp (op_neX hr.units) gNe_ok (pd_var 2) (pd_lst pda_nil) (nomark _))
  (pssd_one (psd_expr (pd_meth PySem.F.plainAttrs_list PySem.F.slot_list_append PySem.F.type_list_append mt_append gAppend_ok isL_ok (pd_var 3) (pda_cons (pd_meth PySem.F.plainAttrs_list PySem.F.slot_list_pop PySem.F.type_list_pop mt_popAt gPopAt_ok isL_ok (pd_var 2) (pda_cons (pd_call c__law_next hg hr (by decide) (by rfl) tk (pda_cons (pd_var 0) (pda_cons (pd_callB call_lenX gLen_ok (by rfl) m_len PySem.boot_len (pda_cons (pd_var 2) pda_nil)) pda_nil)) (ar_cons (ar_cons ar_nil)) rfl) pda_nil)) pda_nil)))))
  (pssd_one (psd_ret (pd_var 3)))))
noncomputable def F__law_mixed : FF := fun ds A => finR A (b__law_mixed (startD 4 ds) A)
theorem o__law_mixed (c__law_next : Cal P w K mg base ct 1 "_law_next" 2 [] F__law_next) (m_list : mg "list" = none) (m_len : mg "len" = none) {f : Addr} {fd : FuncData} (Fn : Fun K "_law_mixed" "_law_mixed" s__law_mixed f fd) : FnG P w K mg base 2 f fd ["_law_source_here", "_law_items"] (spD K ct 2 F__law_mixed) := okD Fn sc__law_mixed (d__law_mixed c__law_next m_list m_len f) fun ds A _ h => finR_ok h

abbrev s__law_within : Stmt := topS 21
theorem sc__law_within : FnScope ["_law_part", "_law_whole", "_law_spots", "_law_item", "_law_k"] ["_law_part", "_law_whole"] (defScope s__law_within) := ⟨rfl, rfl, rfl, by decide +kernel, rfl, by decide +kernel, by decide +kernel⟩
noncomputable def b__law_within : SF := (sSeq (sAsg (eComp (iSeq (eVar 0)) (.one 3) [3] ttYes (eIf (tCmpD gIn (eVar 3) (eVar 1)) (eIdx (eVar 1) (eVar 3)) (eBin gSub (eC (.int 0)) (eC (.int 1))))) (gNm 2))
  (sRet (eBin gEq (eComp (iRange1 (aCons (eArgs gLen (aCons (eVar 2) aNil)) aNil)) (.one 4) [4] (tOrD (tCmpD gLt (eBin gSubD (eVar 2) (eVar 4)) (eC (.int 0))) (tAndD (tCmpD gGt (eVar 4) (eC (.int 0))) (tCmpD gLe (eBin gSubD (eVar 2) (eVar 4)) (eBin gSubD (eVar 2) (eBin gSub (eVar 4) (eC (.int 1))))))) (eVar 4)) (eArgs gLstD aNil))))
theorem d__law_within (m_range : mg "range" = none) (m_len : mg "len" = none) (f : Addr) :
    ∀ (cdv : Value) (A : Around) (outer : List PySem.Env) (s : Shared) (H : Hp) (E : XK), A.guards = some [] → Room 0 (A.deeper (envOfC "_law_within" (defScope s__law_within) s.heap.objs.size f cdv)) → PSsD (cxD P w K mg base ["_law_part", "_law_whole", "_law_spots", "_law_item", "_law_k"] "_law_within" s__law_within f cdv A outer s H E) ct (WD E) (defBody s__law_within) b__law_within := by
  intro cdv A outer s H E hg hr
  have tk : Takes (cxD P w K mg base ["_law_part", "_law_whole", "_law_spots", "_law_item", "_law_k"] "_law_within" s__law_within f cdv A outer s H E) (WD E) := takes_of rfl rfl rfl rfl
  have hp : PassesOwn (model (cxD P w K mg base ["_law_part", "_law_whole", "_law_spots", "_law_item", "_law_k"] "_law_within" s__law_within f cdv A outer s H E).prog (cxD P w K mg base ["_law_part", "_law_whole", "_law_spots", "_law_item", "_law_k"] "_law_within" s__law_within f cdv A outer s H E).w) (cxD P w K mg base ["_law_part", "_law_whole", "_law_spots", "_law_item", "_law_k"] "_law_within" s__law_within f cdv A outer s H E).A (cxD P w K mg base ["_law_part", "_law_whole", "_law_spots", "_law_item", "_law_k"] "_law_within" s__law_within f cdv A outer s H E).env (cxD P w K mg base ["_law_part", "_law_whole", "_law_spots", "_law_item", "_law_k"] "_law_within" s__law_within f cdv A outer s H E).xe := passes_of rfl
  exact (pssd_cons (psd_set (i := 2) sc__law_within.nd rfl (Or.inr rfl) (pd_comp (own := [("_law_item", 3)]) rfl sc__law_within.nd (pid_seq (pd_var 0)) (blkOk_by (N := ["_law_part", "_law_whole", "_law_spots", "_law_item", "_law_k"]) (sc := (defScope s__law_within)) (by decide +kernel)) (by decide) (fun _ _ _ _ _ => pg_name (i := 3) sc__law_within.nd rfl (Or.inl rfl)) (fun _ _ _ _ _ => ptsd_nil) (fun _ _ _ _ _ => (pd_if (pdt_cmp op_inX gIn_ok (pd_var 3) (pd_var 1) (by with_unfolding_all rfl)) (pd_indexT (pd_var 1) (pd_var 3)) (pd_op op_sub gSub_ok pd_int pd_int)))))
  (pssd_one (psd_ret (pd_cmp (op_eqX hr.units) gEq_ok (pd_comp (own := [("_law_k", 4)]) rfl sc__law_within.nd (pid_range1 (by rfl) m_range (pda_cons (pd_callB call_lenX gLen_ok (by rfl) m_len PySem.boot_len (pda_cons (pd_var 2) pda_nil)) pda_nil)) (blkOk_by (N := ["_law_part", "_law_whole", "_law_spots", "_law_item", "_law_k"]) (sc := (defScope s__law_within)) (by decide +kernel)) (by decide) (fun _ _ _ _ _ => pg_name (i := 4) sc__law_within.nd rfl (Or.inl rfl)) (fun _ _ _ _ _ => (ptsd_one (pdw_t (pdw_or (pdt_cmp op_ltX gLtL_ok (pd_sub (hu_of hr) (pd_var 2) (pd_var 4) (fun _ _ => rfl) (fun _ _ => rfl)) pd_int (nomark _)) (pdw_or1 (pdw_t (pdw_and (pdt_cmp op_gtX gLtL_ok (pd_var 4) pd_int (nomark _)) (pdw_and1 (pdt_cmp op_leX gLtL_ok (pd_sub (hu_of hr) (pd_var 2) (pd_var 4) (fun _ _ => rfl) (fun _ _ => rfl)) (pd_sub (hu_of hr) (pd_var 2) (pd_op op_sub gSub_ok (pd_var 4) pd_int) (fun _ _ => rfl) (fun _ _ => rfl)) (nomark _)))))))))) (fun _ _ _ _ _ => (pd_var 4))) (pd_lst pda_nil) (nomark _)))))
noncomputable def F__law_within : FF := fun ds A => finR A (b__law_within (startD 5 ds) A)
theorem o__law_within (m_range : mg "range" = none) (m_len : mg "len" = none) {f : Addr} {fd : FuncData} (Fn : Fun K "_law_within" "_law_within" s__law_within f fd) : FnG P w K mg base 1 f fd ["_law_part", "_law_whole"] (spD K ct 2 F__law_within) := okD Fn sc__law_within (d__law_within m_range m_len f) fun ds A _ h => finR_ok h

abbrev s__law_name_rows : Stmt := topS 22
theorem sc__law_name_rows : FnScope ["_law_source_here", "_law_many", "_law_most", "_law_is_free", "_law_whole", "_law_found", "_law_turn", "_law_some", "_law_item"] ["_law_source_here", "_law_many", "_law_most", "_law_is_free"] (defScope s__law_name_rows) := ⟨rfl, rfl, rfl, by decide +kernel, rfl, by decide +kernel, by decide +kernel⟩
noncomputable def b__law_name_rows : SF := (sSeq (sPar (aCons (eCut (eArgs (fun ds A => F__law_mixed (ds ++ []) A) (aCons (eVar 0) (aCons (eArgs gLstD (aCons (eC (.str "a")) (aCons (eC (.str "b")) (aCons (eC (.str "c")) (aCons (eC (.str "d")) (aCons (eC (.str "node")) (aCons (eC (.str "f")) (aCons (eC (.str "box")) (aCons (eC (.str "h")) aNil))))))))) aNil))) oNone (oSome (eVar 2))) (aCons (eArgs gLstM aNil) aNil)) [4, 5])
  (sSeq (sFor (iRange1 (aCons (eVar 1) aNil)) (gNm 6)
  (sSeq (sAsg (eIf (tOrD (tNotD (tOfE (eVar 3))) (tCmpD gEq (eArgs (fun ds A => F__law_next (ds ++ []) A) (aCons (eVar 0) (aCons (eC (.int 2)) aNil))) (eC (.int 0)))) (eVar 4) (eArgs (fun ds A => F__law_mixed (ds ++ []) A) (aCons (eVar 0) (aCons (eVar 4) aNil)))) (gNm 7))
  (sEx (eMeth isL gAppend (eVar 5) (aCons (eArgs gTuple (aCons (eComp (iSeq (eVar 7)) (.one 8) [8] (tCmpD gGt (eArgs (fun ds A => F__law_next (ds ++ []) A) (aCons (eVar 0) (aCons (eC (.int 3)) aNil))) (eC (.int 0))) (eVar 8)) aNil)) aNil)))))
  (sRet (eVar 5))))
theorem d__law_name_rows (c__law_mixed : Cal P w K mg base ct 2 "_law_mixed" 2 [] F__law_mixed) (c__law_next : Cal P w K mg base ct 1 "_law_next" 2 [] F__law_next) (m_tuple : mg "tuple" = none) (m_range : mg "range" = none) (f : Addr) :
    ∀ (cdv : Value) (A : Around) (outer : List PySem.Env) (s : Shared) (H : Hp) (E : XK), A.guards = some [] → Room 2 (A.deeper (envOfC "_law_name_rows" (defScope s__law_name_rows) s.heap.objs.size f cdv)) → PSsD (cxD P w K mg base ["_law_source_here", "_law_many", "_law_most", "_law_is_free", "_law_whole", "_law_found", "_law_turn", "_law_some", "_law_item"] "_law_name_rows" s__law_name_rows f cdv A outer s H E) ct (WD E) (defBody s__law_name_rows) b__law_name_rows := by
  intro cdv A outer s H E hg hr
  have tk : Takes (cxD P w K mg base ["_law_source_here", "_law_many", "_law_most", "_law_is_free", "_law_whole", "_law_found", "_law_turn", "_law_some", "_law_item"] "_law_name_rows" s__law_name_rows f cdv A outer s H E) (WD E) := takes_of rfl rfl rfl rfl
  have hp : PassesOwn (model (cxD P w K mg base ["_law_source_here", "_law_many", "_law_most", "_law_is_free", "_law_whole", "_law_found", "_law_turn", "_law_some", "_law_item"] "_law_name_rows" s__law_name_rows f cdv A outer s H E).prog (cxD P w K mg base ["_law_source_here", "_law_many", "_law_most", "_law_is_free", "_law_whole", "_law_found", "_law_turn", "_law_some", "_law_item"] "_law_name_rows" s__law_name_rows f cdv A outer s H E).w) (cxD P w K mg base ["_law_source_here", "_law_many", "_law_most", "_law_is_free", "_law_whole", "_law_found", "_law_turn", "_law_some", "_law_item"] "_law_name_rows" s__law_name_rows f cdv A outer s H E).A (cxD P w K mg base ["_law_source_here", "_law_many", "_law_most", "_law_is_free", "_law_whole", "_law_found", "_law_turn", "_law_some", "_law_item"] "_law_name_rows" s__law_name_rows f cdv A outer s H E).env (cxD P w K mg base ["_law_source_here", "_law_many", "_law_most", "_law_is_free", "_law_whole", "_law_found", "_law_turn", "_law_some", "_law_item"] "_law_name_rows" s__law_name_rows f cdv A outer s H E).xe := passes_of rfl
  exact (pssd_cons (psd_par (i := 4) (j := 5) rfl sc__law_name_rows.nd rfl rfl (by decide) rfl rfl (pda_cons (pd_cut (pd_call c__law_mixed hg hr (by decide) (by rfl) tk (pda_cons (pd_var 0) (pda_cons (pd_lst (pda_cons pd_str (pda_cons pd_str (pda_cons pd_str (pda_cons pd_str (pda_cons pd_str (pda_cons pd_str (pda_cons pd_str (pda_cons pd_str pda_nil))))))))) pda_nil)) (ar_cons (ar_cons ar_nil)) rfl) pdo_none (pdo_some (pd_var 2))) (pda_cons (pd_lstM pda_nil) pda_nil)) rfl)
  (pssd_cons (psd_for hp rfl (pid_range1 (by rfl) m_range (pda_cons (pd_var 1) pda_nil)) (pgd_name (i := 6) sc__law_name_rows.nd rfl (Or.inl rfl))
  (pssd_cons (psd_set (i := 7) sc__law_name_rows.nd rfl (Or.inl rfl) (pd_if (pdw_t (pdw_or (pdt_not (pdt_truth (pd_var 3))) (pdw_or1 (pdt_cmp (op_eqX hr.units) gEq_ok (pd_call c__law_next hg hr (by decide) (by rfl) tk (pda_cons (pd_var 0) (pda_cons pd_int pda_nil)) (ar_cons (ar_cons ar_nil)) rfl) pd_int (nomark _))))) (pd_var 4) (pd_call c__law_mixed hg hr (by decide) (by rfl) tk (pda_cons (pd_var 0) (pda_cons (pd_var 4) pda_nil)) (ar_cons (ar_cons ar_nil)) rfl)))
  (pssd_one (psd_expr (pd_meth PySem.F.plainAttrs_list PySem.F.slot_list_append PySem.F.type_list_append mt_append gAppend_ok isL_ok (pd_var 5) (pda_cons (pd_callTy call_tupleF gTuple_ok (by rfl) m_tuple (by decide +kernel) (pda_cons (pd_comp (own := [("_law_item", 8)]) rfl sc__law_name_rows.nd (pid_seq (pd_var 7)) (blkOk_by (N := ["_law_source_here", "_law_many", "_law_most", "_law_is_free", "_law_whole", "_law_found", "_law_turn", "_law_some", "_law_item"]) (sc := (defScope s__law_name_rows)) (by decide +kernel)) (by decide) (fun _ _ _ _ _ => pg_name (i := 8) sc__law_name_rows.nd rfl (Or.inl rfl)) (fun _ _ _ _ _ => (ptsd_one (pdt_cmp op_gtX gLtL_ok (pd_call c__law_next hg hr (by decide) (by rfl) takes0 (pda_cons (pd_var 0) (pda_cons pd_int pda_nil)) (ar_cons (ar_cons ar_nil)) rfl) pd_int (nomark _)))) (fun _ _ _ _ _ => (pd_var 8))) pda_nil)) pda_nil))))))
  (pssd_one (psd_ret (pd_var 5)))))
noncomputable def F__law_name_rows : FF := fun ds A => finR A (b__law_name_rows (startD 9 ds) A)
theorem o__law_name_rows (c__law_mixed : Cal P w K mg base ct 2 "_law_mixed" 2 [] F__law_mixed) (c__law_next : Cal P w K mg base ct 1 "_law_next" 2 [] F__law_next) (m_tuple : mg "tuple" = none) (m_range : mg "range" = none) {f : Addr} {fd : FuncData} (Fn : Fun K "_law_name_rows" "_law_name_rows" s__law_name_rows f fd) : FnG P w K mg base 3 f fd ["_law_source_here", "_law_many", "_law_most", "_law_is_free"] (spD K ct 4 F__law_name_rows) := okD Fn sc__law_name_rows (d__law_name_rows c__law_mixed c__law_next m_tuple m_range f) fun ds A _ h => finR_ok h

abbrev s__law_merged_by : Stmt := topS 23
theorem sc__law_merged_by : FnScope ["_law_rows"] ["_law_rows"] (defScope s__law_merged_by) := ⟨rfl, rfl, rfl, by decide +kernel, rfl, by decide +kernel, by decide +kernel⟩
noncomputable def b__law_merged_by : SF := (sSeq (sIf (tCmpD gLt (eArgs gLen (aCons (eVar 0) aNil)) (eC (.int 2)))
  (sRet (eIf (tCmpD gNe (eVar 0) (eArgs gLstD aNil)) (eArgs (fun ds A => starF F_merged ds A) (aCons (eBin gSubD (eVar 0) (eC (.int 0))) aNil)) (fun _ A => starF F_merged [] A)))
  sNx)
  (sSeq (sIf (tCmpD gEq (eArgs gLen (aCons (eVar 0) aNil)) (eC (.int 2)))
  (sRet (eArgs (fun ds A => starF F_merged ds A) (aCons (eBin gSubD (eVar 0) (eC (.int 0))) (aCons (eBin gSubD (eVar 0) (eC (.int 1))) aNil))))
  sNx)
  (sSeq (sIf (tCmpD gEq (eArgs gLen (aCons (eVar 0) aNil)) (eC (.int 3)))
  (sRet (eArgs (fun ds A => starF F_merged ds A) (aCons (eBin gSubD (eVar 0) (eC (.int 0))) (aCons (eBin gSubD (eVar 0) (eC (.int 1))) (aCons (eBin gSubD (eVar 0) (eC (.int 2))) aNil)))))
  sNx)
  (sSeq (sIf (tCmpD gEq (eArgs gLen (aCons (eVar 0) aNil)) (eC (.int 4)))
  (sRet (eArgs (fun ds A => starF F_merged ds A) (aCons (eBin gSubD (eVar 0) (eC (.int 0))) (aCons (eBin gSubD (eVar 0) (eC (.int 1))) (aCons (eBin gSubD (eVar 0) (eC (.int 2))) (aCons (eBin gSubD (eVar 0) (eC (.int 3))) aNil))))))
  sNx)
  (sRet (eArgs (fun ds A => starF F_merged ds A) (aCons (eBin gSubD (eVar 0) (eC (.int 0))) (aCons (eBin gSubD (eVar 0) (eC (.int 1))) (aCons (eBin gSubD (eVar 0) (eC (.int 2))) (aCons (eBin gSubD (eVar 0) (eC (.int 3))) (aCons (eBin gSubD (eVar 0) (eC (.int 4))) aNil)))))))))))
theorem d__law_merged_by (c_merged : CalS P w K mg base ct 4 "merged" F_merged) (m_len : mg "len" = none) (f : Addr) :
    ∀ (cdv : Value) (A : Around) (outer : List PySem.Env) (s : Shared) (H : Hp) (E : XK), A.guards = some [] → Room 4 (A.deeper (envOfC "_law_merged_by" (defScope s__law_merged_by) s.heap.objs.size f cdv)) → PSsD (cxD P w K mg base ["_law_rows"] "_law_merged_by" s__law_merged_by f cdv A outer s H E) ct (WD E) (defBody s__law_merged_by) b__law_merged_by := by
  intro cdv A outer s H E hg hr
  have tk : Takes (cxD P w K mg base ["_law_rows"] "_law_merged_by" s__law_merged_by f cdv A outer s H E) (WD E) := takes_of rfl rfl rfl rfl
  have hp : PassesOwn (model (cxD P w K mg base ["_law_rows"] "_law_merged_by" s__law_merged_by f cdv A outer s H E).prog (cxD P w K mg base ["_law_rows"] "_law_merged_by" s__law_merged_by f cdv A outer s H E).w) (cxD P w K mg base ["_law_rows"] "_law_merged_by" s__law_merged_by f cdv A outer s H E).A (cxD P w K mg base ["_law_rows"] "_law_merged_by" s__law_merged_by f cdv A outer s H E).env (cxD P w K mg base ["_law_rows"] "_law_merged_by" s__law_merged_by f cdv A outer s H E).xe := passes_of rfl
  exact (pssd_cons (psd_if (pdt_cmp op_ltX gLtL_ok (pd_callB call_lenX gLen_ok (by rfl) m_len PySem.boot_len (pda_cons (pd_var 0) pda_nil)) pd_int (nomark _))
  (pssd_one (psd_ret (pd_if (pdt_cmp (op_neX hr.units) gNe_ok (pd_var 0) (pd_lst pda_nil) (nomark _)) (pd_callS c_merged hg hr (by decide) (by rfl) tk (pda_cons (pd_sub (hu_of hr) (pd_var 0) pd_int (fun _ _ => rfl) (fun _ _ => rfl)) pda_nil)) (pd_callS0 c_merged hg hr (by decide) (by rfl) tk))))
  pssd_nil)
  (pssd_cons (psd_if (pdt_cmp (op_eqX hr.units) gEq_ok (pd_callB call_lenX gLen_ok (by rfl) m_len PySem.boot_len (pda_cons (pd_var 0) pda_nil)) pd_int (nomark _))
  (pssd_one (psd_ret (pd_callS c_merged hg hr (by decide) (by rfl) tk (pda_cons (pd_sub (hu_of hr) (pd_var 0) pd_int (fun _ _ => rfl) (fun _ _ => rfl)) (pda_cons (pd_sub (hu_of hr) (pd_var 0) pd_int (fun _ _ => rfl) (fun _ _ => rfl)) pda_nil)))))
  pssd_nil)
  (pssd_cons (psd_if (pdt_cmp (op_eqX hr.units) gEq_ok (pd_callB call_lenX gLen_ok (by rfl) m_len PySem.boot_len (pda_cons (pd_var 0) pda_nil)) pd_int (nomark _))
  (pssd_one (psd_ret (pd_callS c_merged hg hr (by decide) (by rfl) tk (pda_cons (pd_sub (hu_of hr) (pd_var 0) pd_int (fun _ _ => rfl) (fun _ _ => rfl)) (pda_cons (pd_sub (hu_of hr) (pd_var 0) pd_int (fun _ _ => rfl) (fun _ _ => rfl)) (pda_cons (pd_sub (hu_of hr) (pd_var 0) pd_int (fun _ _ => rfl) (fun _ _ => rfl)) pda_nil))))))
  pssd_nil)
  (pssd_cons (psd_if (pdt_cmp (op_eqX hr.units) gEq_ok (pd_callB call_lenX gLen_ok (by rfl) m_len PySem.boot_len (pda_cons (pd_var 0) pda_nil)) pd_int (nomark _))
  (pssd_one (psd_ret (pd_callS c_merged hg hr (by decide) (by rfl) tk (pda_cons (pd_sub (hu_of hr) (pd_var 0) pd_int (fun _ _ => rfl) (fun _ _ => rfl)) (pda_cons (pd_sub (hu_of hr) (pd_var 0) pd_int (fun _ _ => rfl) (fun _ _ => rfl)) (pda_cons (pd_sub (hu_of hr) (pd_var 0) pd_int (fun _ _ => rfl) (fun _ _ => rfl)) (pda_cons (pd_sub (hu_of hr) (pd_var 0) pd_int (fun _ _ => rfl) (fun _ _ => rfl)) pda_nil)))))))
  pssd_nil)
  (pssd_one (psd_ret (pd_callS c_merged hg hr (by decide) (by rfl) tk (pda_cons (pd_sub (hu_of hr) (pd_var 0) pd_int (fun _ _ => rfl) (fun _ _ => rfl)) (pda_cons (pd_sub (hu_of hr) (pd_var 0) pd_int (fun _ _ => rfl) (fun _ _ => rfl)) (pda_cons (pd_sub (hu_of hr) (pd_var 0) pd_int (fun _ _ => rfl) (fun _ _ => rfl)) (pda_cons (pd_sub (hu_of hr) (pd_var 0) pd_int (fun _ _ => rfl) (fun _ _ => rfl)) (pda_cons (pd_sub (hu_of hr) (pd_var 0) pd_int (fun _ _ => rfl) (fun _ _ => rfl)) pda_nil))))))))))))
noncomputable def F__law_merged_by : FF := fun ds A => finR A (b__law_merged_by (startD 1 ds) A)
theorem o__law_merged_by (c_merged : CalS P w K mg base ct 4 "merged" F_merged) (m_len : mg "len" = none) {f : Addr} {fd : FuncData} (Fn : Fun K "_law_merged_by" "_law_merged_by" s__law_merged_by f fd) : FnG P w K mg base 5 f fd ["_law_rows"] (spD K ct 1 F__law_merged_by) := okD Fn sc__law_merged_by (d__law_merged_by c_merged m_len f) fun ds A _ h => finR_ok h

abbrev s__law_clash_fits : Stmt := topS 24
theorem sc__law_clash_fits : FnScope ["_law_rows", "_law_thing", "_law_step", "_law_spot"] ["_law_rows", "_law_thing"] (defScope s__law_clash_fits) := ⟨rfl, rfl, rfl, by decide +kernel, rfl, by decide +kernel, by decide +kernel⟩
noncomputable def b__law_clash_fits : SF := (sSeq (sIf (tOrD (tNotD (tOfE (eArgs gIsa (aCons (eVar 1) (aCons (eC (.cls (.bi "tuple"))) aNil))))) (tCmpD gLt (eArgs gLen (aCons (eVar 1) aNil)) (eC (.int 2))))
  (sRet (eC (.bl false)))
  sNx)
  (sSeq (sFor (iSeq (eVar 1)) (gNm 2)
  (sSeq (sIf (tOrD (tNotD (tOfE (eArgs gIsa (aCons (eVar 2) (aCons (eC (.cls (.bi "tuple"))) aNil))))) (tOrD (tCmpD gNe (eArgs gLen (aCons (eVar 2) aNil)) (eC (.int 3))) (tOrD (tNotD (tOfE (eArgs gIsa (aCons (eBin gSubD (eVar 2) (eC (.int 2))) (aCons (eC (.cls (.bi "int"))) aNil))))) (tOfE (eArgs gIsa (aCons (eBin gSubD (eVar 2) (eC (.int 2))) (aCons (eC (.cls (.bi "bool"))) aNil)))))))
  (sRet (eC (.bl false)))
  sNx)
  (sIf (tOrD (tNotD (fun ro A => ((eChain gLe gLt (eC (.int 0)) (eBin gSubD (eVar 2) (eC (.int 2))) (eArgs gLen (aCons (eVar 0) aNil))) ro A).bind gBool)) (tOrD (tCmpD gEq (eBin gSubD (eVar 2) (eC (.int 0))) (eBin gSubD (eVar 2) (eC (.int 1)))) (tNotD (tOfE (eArgs (fun ds A => F__law_within (ds ++ []) A) (aCons (eCut (eVar 2) oNone (oSome (eC (.int 2)))) (aCons (eBin gSubD (eVar 0) (eBin gSubD (eVar 2) (eC (.int 2)))) aNil)))))))
  (sRet (eC (.bl false)))
  sNx)))
  (sRet (eBin gEq (eComp (iRange1 (aCons (eArgs gLen (aCons (eVar 1) aNil)) aNil)) (.one 3) [3] (tCmpD gNe (eBin gSubD (eBin gSubD (eVar 1) (eBin gSub (eVar 3) (eC (.int 1)))) (eC (.int 1))) (eBin gSubD (eBin gSubD (eVar 1) (eVar 3)) (eC (.int 0)))) (eVar 3)) (eArgs gLstD aNil)))))
theorem d__law_clash_fits (c__law_within : Cal P w K mg base ct 1 "_law_within" 2 [] F__law_within) (m_isinstance : mg "isinstance" = none) (m_tuple : mg "tuple" = none) (m_len : mg "len" = none) (m_int : mg "int" = none) (m_bool : mg "bool" = none) (m_range : mg "range" = none) (f : Addr) :
    ∀ (cdv : Value) (A : Around) (outer : List PySem.Env) (s : Shared) (H : Hp) (E : XK), A.guards = some [] → Room 1 (A.deeper (envOfC "_law_clash_fits" (defScope s__law_clash_fits) s.heap.objs.size f cdv)) → PSsD (cxD P w K mg base ["_law_rows", "_law_thing", "_law_step", "_law_spot"] "_law_clash_fits" s__law_clash_fits f cdv A outer s H E) ct (WD E) (defBody s__law_clash_fits) b__law_clash_fits := by
  intro cdv A outer s H E hg hr
  have tk : Takes (cxD P w K mg base ["_law_rows", "_law_thing", "_law_step", "_law_spot"] "_law_clash_fits" s__law_clash_fits f cdv A outer s H E) (WD E) := takes_of rfl rfl rfl rfl
  have hp : PassesOwn (model (cxD P w K mg base ["_law_rows", "_law_thing", "_law_step", "_law_spot"] "_law_clash_fits" s__law_clash_fits f cdv A outer s H E).prog (cxD P w K mg base ["_law_rows", "_law_thing", "_law_step", "_law_spot"] "_law_clash_fits" s__law_clash_fits f cdv A outer s H E).w) (cxD P w K mg base ["_law_rows", "_law_thing", "_law_step", "_law_spot"] "_law_clash_fits" s__law_clash_fits f cdv A outer s H E).A (cxD P w K mg base ["_law_rows", "_law_thing", "_law_step", "_law_spot"] "_law_clash_fits" s__law_clash_fits f cdv A outer s H E).env (cxD P w K mg base ["_law_rows", "_law_thing", "_law_step", "_law_spot"] "_law_clash_fits" s__law_clash_fits f cdv A outer s H E).xe := passes_of rfl
  exact (pssd_cons (psd_if (pdw_t (pdw_or (pdt_not (pdt_truth (pd_callB call_isi gIsa_ok (by rfl) m_isinstance (by decide +kernel) (pda_cons (pd_var 1) (pda_cons (pd_c (pe_bltn (v := .ty "tuple") (u := .type "tuple") (by rfl) m_tuple (by decide +kernel) rfl) (fun _ _ => .ty _)) pda_nil))))) (pdw_or1 (pdt_cmp op_ltX gLtL_ok (pd_callB call_lenX gLen_ok (by rfl) m_len PySem.boot_len (pda_cons (pd_var 1) pda_nil)) pd_int (nomark _)))))
  (pssd_one (psd_ret pd_bl))
  pssd_nil)
  (pssd_cons (psd_for hp rfl (pid_seq (pd_var 1)) (pgd_name (i := 2) sc__law_clash_fits.nd rfl (Or.inl rfl))
  (pssd_cons (psd_if (pdw_t (pdw_or (pdt_not (pdt_truth (pd_callB call_isi gIsa_ok (by rfl) m_isinstance (by decide +kernel) (pda_cons (pd_var 2) (pda_cons (pd_c (pe_bltn (v := .ty "tuple") (u := .type "tuple") (by rfl) m_tuple (by decide +kernel) rfl) (fun _ _ => .ty _)) pda_nil))))) (pdw_or (pdt_cmp (op_neX hr.units) gNe_ok (pd_callB call_lenX gLen_ok (by rfl) m_len PySem.boot_len (pda_cons (pd_var 2) pda_nil)) pd_int (nomark _)) (pdw_or (pdt_not (pdt_truth (pd_callB call_isi gIsa_ok (by rfl) m_isinstance (by decide +kernel) (pda_cons (pd_sub (hu_of hr) (pd_var 2) pd_int (fun _ _ => rfl) (fun _ _ => rfl)) (pda_cons (pd_c (pe_bltn (v := .ty "int") (u := .type "int") (by rfl) m_int (by decide +kernel) rfl) (fun _ _ => .ty _)) pda_nil))))) (pdw_or1 (pdt_truth (pd_callB call_isi gIsa_ok (by rfl) m_isinstance (by decide +kernel) (pda_cons (pd_sub (hu_of hr) (pd_var 2) pd_int (fun _ _ => rfl) (fun _ _ => rfl)) (pda_cons (pd_c (pe_bltn (v := .ty "bool") (u := .type "bool") (by rfl) m_bool (by decide +kernel) rfl) (fun _ _ => .ty _)) pda_nil)))))))))
  (pssd_one (psd_ret pd_bl))
  pssd_nil)
  (pssd_one (psd_if (pdw_t (pdw_or (pdt_not (pdt_chain op_leX gLtL_ok op_ltX gLtL_ok pd_int (pd_sub (hu_of hr) (pd_var 2) pd_int (fun _ _ => rfl) (fun _ _ => rfl)) (pd_callB call_lenX gLen_ok (by rfl) m_len PySem.boot_len (pda_cons (pd_var 0) pda_nil)))) (pdw_or (pdt_cmp (op_eqX hr.units) gEq_ok (pd_sub (hu_of hr) (pd_var 2) pd_int (fun _ _ => rfl) (fun _ _ => rfl)) (pd_sub (hu_of hr) (pd_var 2) pd_int (fun _ _ => rfl) (fun _ _ => rfl)) (nomark _)) (pdw_or1 (pdt_not (pdt_truth (pd_call c__law_within hg hr (by decide) (by rfl) tk (pda_cons (pd_cut (pd_var 2) pdo_none (pdo_some pd_int)) (pda_cons (pd_sub (hu_of hr) (pd_var 0) (pd_sub (hu_of hr) (pd_var 2) pd_int (fun _ _ => rfl) (fun _ _ => rfl)) (fun _ _ => rfl) (fun _ _ => rfl)) pda_nil)) (ar_cons (ar_cons ar_nil)) rfl)))))))
  (pssd_one (psd_ret pd_bl))
  pssd_nil))))
  (pssd_one (psd_ret (pd_cmp (op_eqX hr.units) gEq_ok (pd_comp (own := [("_law_spot", 3)]) rfl sc__law_clash_fits.nd (pid_range1 (by rfl) m_range (pda_cons (pd_callB call_lenX gLen_ok (by rfl) m_len PySem.boot_len (pda_cons (pd_var 1) pda_nil)) pda_nil)) (blkOk_by (N := ["_law_rows", "_law_thing", "_law_step", "_law_spot"]) (sc := (defScope s__law_clash_fits)) (by decide +kernel)) (by decide) (fun _ _ _ _ _ => pg_name (i := 3) sc__law_clash_fits.nd rfl (Or.inl rfl)) (fun _ _ _ _ _ => (ptsd_one (pdt_cmp (op_neX hr.units) gNe_ok (pd_sub (hu_of hr) (pd_sub (hu_of hr) (pd_var 1) (pd_op op_sub gSub_ok (pd_var 3) pd_int) (fun _ _ => rfl) (fun _ _ => rfl)) pd_int (fun _ _ => rfl) (fun _ _ => rfl)) (pd_sub (hu_of hr) (pd_sub (hu_of hr) (pd_var 1) (pd_var 3) (fun _ _ => rfl) (fun _ _ => rfl)) pd_int (fun _ _ => rfl) (fun _ _ => rfl)) (nomark _)))) (fun _ _ _ _ _ => (pd_var 3))) (pd_lst pda_nil) (nomark _))))))
noncomputable def F__law_clash_fits : FF := fun ds A => finR A (b__law_clash_fits (startD 4 ds) A)
theorem o__law_clash_fits (c__law_within : Cal P w K mg base ct 1 "_law_within" 2 [] F__law_within) (m_isinstance : mg "isinstance" = none) (m_tuple : mg "tuple" = none) (m_len : mg "len" = none) (m_int : mg "int" = none) (m_bool : mg "bool" = none) (m_range : mg "range" = none) {f : Addr} {fd : FuncData} (Fn : Fun K "_law_clash_fits" "_law_clash_fits" s__law_clash_fits f fd) : FnG P w K mg base 2 f fd ["_law_rows", "_law_thing"] (spD K ct 2 F__law_clash_fits) := okD Fn sc__law_clash_fits (d__law_clash_fits c__law_within m_isinstance m_tuple m_len m_int m_bool m_range f) fun ds A _ h => finR_ok h

abbrev s__law_least_ring : Stmt := topS 25
theorem sc__law_least_ring : FnScope ["_law_rows", "_law_best", "_law_some", "_law_row", "_law_start", "_law_known", "_law_fresh", "_law_steps", "_law_later", "_law_here", "_law_item"] ["_law_rows"] (defScope s__law_least_ring) := ⟨rfl, rfl, rfl, by decide +kernel, rfl, by decide +kernel, by decide +kernel⟩
noncomputable def b__law_least_ring : SF := (sSeq (sAsg (eArgs gTupD (aCons (eC (.int 0)) (aCons (eArgs gLstD aNil) aNil))) (gTpl [(gNm 1), (gNm 2)]))
  (sSeq (sFor (iSeq (eVar 0)) (gNm 3)
  (sAsg (eBin gAdd (eVar 2) (eComp (iSeq (eVar 3)) (.one 10) [10] (tCmpD gNotIn (eVar 10) (eVar 2)) (eVar 10))) (gNm 2)))
  (sSeq (sFor (iSeq (eVar 2)) (gNm 4)
  (sSeq (sAsg (eArgs gTupD (aCons (eArgs gLstD aNil) (aCons (eArgs gLstD (aCons (eVar 4) aNil)) (aCons (eC (.int 0)) aNil)))) (gTpl [(gNm 5), (gNm 6), (gNm 7)]))
  (sSeq (whileD (tAndD (tCmpD gNe (eVar 6) (eArgs gLstD aNil)) (tCmpD gNotIn (eVar 4) (eVar 5)))
  (sSeq (sAsg (eBin gAdd (eVar 7) (eC (.int 1))) (gNm 7))
  (sSeq (sAsg (eArgs gLstD aNil) (gNm 8))
  (sSeq (sFor (iSeq (eVar 6)) (gNm 9)
  (sFor (iSeq (eVar 0)) (gNm 3)
  (sAsg (eBin gAdd (eVar 8) (eIf (tCmpD gIn (eVar 9) (eVar 3)) (eArgs gListD (aCons (eCut (eVar 3) (oSome (eBin gAdd (eIdx (eVar 3) (eVar 9)) (eC (.int 1)))) oNone) aNil)) (eArgs gLstD aNil))) (gNm 8))))
  (sSeq (sAsg (eUn gSortSet (eComp (iSeq (eVar 8)) (.one 10) [10] (tCmpD gNotIn (eVar 10) (eVar 5)) (eVar 10))) (gNm 6))
  (sAsg (eBin gAdd (eVar 5) (eVar 6)) (gNm 5)))))) 200)
  (sIf (tAndD (tCmpD gIn (eVar 4) (eVar 5)) (tOrD (tCmpD gEq (eVar 1) (eC (.int 0))) (tCmpD gLt (eVar 7) (eVar 1))))
  (sAsg (eVar 7) (gNm 1))
  sNx))))
  (sRet (eVar 1)))))
theorem d__law_least_ring (m_list : mg "list" = none) (m_sorted : mg "sorted" = none) (m_set : mg "set" = none) (f : Addr) :
    ∀ (cdv : Value) (A : Around) (outer : List PySem.Env) (s : Shared) (H : Hp) (E : XK), A.guards = some [] → Room 0 (A.deeper (envOfC "_law_least_ring" (defScope s__law_least_ring) s.heap.objs.size f cdv)) → PSsD (cxD P w K mg base ["_law_rows", "_law_best", "_law_some", "_law_row", "_law_start", "_law_known", "_law_fresh", "_law_steps", "_law_later", "_law_here", "_law_item"] "_law_least_ring" s__law_least_ring f cdv A outer s H E) ct (WD E) (defBody s__law_least_ring) b__law_least_ring := by
  intro cdv A outer s H E hg hr
  have tk : Takes (cxD P w K mg base ["_law_rows", "_law_best", "_law_some", "_law_row", "_law_start", "_law_known", "_law_fresh", "_law_steps", "_law_later", "_law_here", "_law_item"] "_law_least_ring" s__law_least_ring f cdv A outer s H E) (WD E) := takes_of rfl rfl rfl rfl
  have hp : PassesOwn (model (cxD P w K mg base ["_law_rows", "_law_best", "_law_some", "_law_row", "_law_start", "_law_known", "_law_fresh", "_law_steps", "_law_later", "_law_here", "_law_item"] "_law_least_ring" s__law_least_ring f cdv A outer s H E).prog (cxD P w K mg base ["_law_rows", "_law_best", "_law_some", "_law_row", "_law_start", "_law_known", "_law_fresh", "_law_steps", "_law_later", "_law_here", "_law_item"] "_law_least_ring" s__law_least_ring f cdv A outer s H E).w) (cxD P w K mg base ["_law_rows", "_law_best", "_law_some", "_law_row", "_law_start", "_law_known", "_law_fresh", "_law_steps", "_law_later", "_law_here", "_law_item"] "_law_least_ring" s__law_least_ring f cdv A outer s H E).A (cxD P w K mg base ["_law_rows", "_law_best", "_law_some", "_law_row", "_law_start", "_law_known", "_law_fresh", "_law_steps", "_law_later", "_law_here", "_law_item"] "_law_least_ring" s__law_least_ring f cdv A outer s H E).env (cxD P w K mg base ["_law_rows", "_law_best", "_law_some", "_law_row", "_law_start", "_law_known", "_law_fresh", "_law_steps", "_law_later", "_law_here", "_law_item"] "_law_least_ring" s__law_least_ring f cdv A outer s H E).xe := passes_of rfl
  exact (pssd_cons (psd_asg (pd_tup (pda_cons pd_int (pda_cons (pd_lst pda_nil) pda_nil))) (pgd_tup rfl (pgsd_cons (pgd_name (i := 1) sc__law_least_ring.nd rfl (Or.inl rfl)) (pgsd_cons (pgd_name (i := 2) sc__law_least_ring.nd rfl (Or.inr rfl)) pgsd_nil))))
  (pssd_cons (psd_for hp rfl (pid_seq (pd_var 0)) (pgd_name (i := 3) sc__law_least_ring.nd rfl (Or.inl rfl))
  (pssd_one (psd_set (i := 2) sc__law_least_ring.nd rfl (Or.inr rfl) (pd_op op_addX gAdd_ok (pd_var 2) (pd_comp (own := [("_law_item", 10)]) rfl sc__law_least_ring.nd (pid_seq (pd_var 3)) (blkOk_by (N := ["_law_rows", "_law_best", "_law_some", "_law_row", "_law_start", "_law_known", "_law_fresh", "_law_steps", "_law_later", "_law_here", "_law_item"]) (sc := (defScope s__law_least_ring)) (by decide +kernel)) (by decide) (fun _ _ _ _ _ => pg_name (i := 10) sc__law_least_ring.nd rfl (Or.inl rfl)) (fun _ _ _ _ _ => (ptsd_one (pdt_cmp op_notInX gNotIn_ok (pd_var 10) (pd_var 2) (by with_unfolding_all rfl)))) (fun _ _ _ _ _ => (pd_var 10)))))))
  (pssd_cons (psd_for hp rfl (pid_seq (pd_var 2)) (pgd_name (i := 4) sc__law_least_ring.nd rfl (Or.inl rfl))
  (pssd_cons (psd_asg (pd_tup (pda_cons (pd_lst pda_nil) (pda_cons (pd_lst (pda_cons (pd_var 4) pda_nil)) (pda_cons pd_int pda_nil)))) (pgd_tup rfl (pgsd_cons (pgd_name (i := 5) sc__law_least_ring.nd rfl (Or.inr rfl)) (pgsd_cons (pgd_name (i := 6) sc__law_least_ring.nd rfl (Or.inl rfl)) (pgsd_cons (pgd_name (i := 7) sc__law_least_ring.nd rfl (Or.inl rfl)) pgsd_nil)))))
  (pssd_cons (psd_while 200 hp (pdw_t (pdw_and (pdt_cmp (op_neX hr.units) gNe_ok (pd_var 6) (pd_lst pda_nil) (nomark _)) (pdw_and1 (pdt_cmp op_notInX gNotIn_ok (pd_var 4) (pd_var 5) (by with_unfolding_all rfl)))))
  (pssd_cons (psd_set (i := 7) sc__law_least_ring.nd rfl (Or.inl rfl) (pd_op op_addX gAdd_ok (pd_var 7) pd_int))
  (pssd_cons (psd_set (i := 8) sc__law_least_ring.nd rfl (Or.inl rfl) (pd_lst pda_nil))
  (pssd_cons (psd_for hp rfl (pid_seq (pd_var 6)) (pgd_name (i := 9) sc__law_least_ring.nd rfl (Or.inl rfl))
  (pssd_one (psd_for hp rfl (pid_seq (pd_var 0)) (pgd_name (i := 3) sc__law_least_ring.nd rfl (Or.inl rfl))
  (pssd_one (psd_set (i := 8) sc__law_least_ring.nd rfl (Or.inl rfl) (pd_op op_addX gAdd_ok (pd_var 8) (pd_if (pdt_cmp op_inX gIn_ok (pd_var 9) (pd_var 3) (by with_unfolding_all rfl)) (pd_callTy call_list_of gListD_ok (by rfl) m_list (by decide +kernel) (pda_cons (pd_cut (pd_var 3) (pdo_some (pd_op op_addX gAdd_ok (pd_indexT (pd_var 3) (pd_var 9)) pd_int)) pdo_none) pda_nil)) (pd_lst pda_nil))))))))
  (pssd_cons (psd_set (i := 6) sc__law_least_ring.nd rfl (Or.inl rfl) (pd_sortSet rfl (by rfl) m_sorted (by rfl) m_set (pd_comp (own := [("_law_item", 10)]) rfl sc__law_least_ring.nd (pid_seq (pd_var 8)) (blkOk_by (N := ["_law_rows", "_law_best", "_law_some", "_law_row", "_law_start", "_law_known", "_law_fresh", "_law_steps", "_law_later", "_law_here", "_law_item"]) (sc := (defScope s__law_least_ring)) (by decide +kernel)) (by decide) (fun _ _ _ _ _ => pg_name (i := 10) sc__law_least_ring.nd rfl (Or.inl rfl)) (fun _ _ _ _ _ => (ptsd_one (pdt_cmp op_notInX gNotIn_ok (pd_var 10) (pd_var 5) (by with_unfolding_all rfl)))) (fun _ _ _ _ _ => (pd_var 10)))))
  (pssd_one (psd_set (i := 5) sc__law_least_ring.nd rfl (Or.inr rfl) (pd_op op_addX gAdd_ok (pd_var 5) (pd_var 6)))))))))
  (pssd_one (psd_if (pdw_t (pdw_and (pdt_cmp op_inX gIn_ok (pd_var 4) (pd_var 5) (by with_unfolding_all rfl)) (pdw_and1 (pdw_t (pdw_or (pdt_cmp (op_eqX hr.units) gEq_ok (pd_var 1) pd_int (nomark _)) (pdw_or1 (pdt_cmp op_ltX gLtL_ok (pd_var 7) (pd_var 1) (nomark _))))))))
  (pssd_one (psd_set (i := 1) sc__law_least_ring.nd rfl (Or.inl rfl) (pd_var 7)))
  pssd_nil)))))
  (pssd_one (psd_ret (pd_var 1))))))
noncomputable def F__law_least_ring : FF := fun ds A => finR A (b__law_least_ring (startD 11 ds) A)
theorem o__law_least_ring (m_list : mg "list" = none) (m_sorted : mg "sorted" = none) (m_set : mg "set" = none) {f : Addr} {fd : FuncData} (Fn : Fun K "_law_least_ring" "_law_least_ring" s__law_least_ring f fd) : FnG P w K mg base 1 f fd ["_law_rows"] (spD K ct 1 F__law_least_ring) := okD Fn sc__law_least_ring (d__law_least_ring m_list m_sorted m_set f) fun ds A _ h => finR_ok h

abbrev s__law_clash_of : Stmt := topS 26
theorem sc__law_clash_of : FnScope ["_law_rows", "_law_caught", "_law_found", "error"] ["_law_rows"] (defScope s__law_clash_of) := ⟨rfl, rfl, rfl, by decide +kernel, rfl, by decide +kernel, by decide +kernel⟩
noncomputable def b__law_clash_of : SF := (sSeq (sAsg (eArgs gTupD (aCons (eC .non) (aCons (eC .non) aNil))) (gTpl [(gNm 1), (gNm 2)]))
  (sSeq (sTry (sAsg (eArgs gLstD (aCons (eArgs (fun ds A => F__law_merged_by (ds ++ []) A) (aCons (eVar 0) aNil)) aNil)) (gNm 2)) mt_Clash 3
  (sAsg (eVar 3) (gNm 1)))
  (sRet (eIf (tCmpD gIsN (eVar 1) (eC .non)) (eVar 2) (eArgs gTupD (aCons (eUn (gXf xs_name "name") (eVar 1)) (aCons (eUn (gXf xs_tuples "tuples") (eVar 1)) (aCons (eUn (gXf xs_steps "steps") (eVar 1)) aNil))))))))
theorem d__law_clash_of (c__law_merged_by : Cal P w K mg base ct 5 "_law_merged_by" 1 [] F__law_merged_by) (k_Clash : mg "Clash" = some (.ref (ct "Clash"))) (t_Clash : ∀ k b, mt_Clash k = some b → PySem.W.exmOne K (ClV ct k) (.ref (ct "Clash")) = some b) (f_steps : ∀ c ∈ xs_steps, XfC K (ct c) ∧ PySem.W.findIn K (.ref (ct c)) "steps" = some none) (f_tuples : ∀ c ∈ xs_tuples, XfC K (ct c) ∧ PySem.W.findIn K (.ref (ct c)) "tuples" = some none) (f_name : ∀ c ∈ xs_name, XfC K (ct c) ∧ PySem.W.findIn K (.ref (ct c)) "name" = some none) (f : Addr) :
    ∀ (cdv : Value) (A : Around) (outer : List PySem.Env) (s : Shared) (H : Hp) (E : XK), A.guards = some [] → Room 5 (A.deeper (envOfC "_law_clash_of" (defScope s__law_clash_of) s.heap.objs.size f cdv)) → PSsD (cxD P w K mg base ["_law_rows", "_law_caught", "_law_found", "error"] "_law_clash_of" s__law_clash_of f cdv A outer s H E) ct (WD E) (defBody s__law_clash_of) b__law_clash_of := by
  intro cdv A outer s H E hg hr
  have tk : Takes (cxD P w K mg base ["_law_rows", "_law_caught", "_law_found", "error"] "_law_clash_of" s__law_clash_of f cdv A outer s H E) (WD E) := takes_of rfl rfl rfl rfl
  have hp : PassesOwn (model (cxD P w K mg base ["_law_rows", "_law_caught", "_law_found", "error"] "_law_clash_of" s__law_clash_of f cdv A outer s H E).prog (cxD P w K mg base ["_law_rows", "_law_caught", "_law_found", "error"] "_law_clash_of" s__law_clash_of f cdv A outer s H E).w) (cxD P w K mg base ["_law_rows", "_law_caught", "_law_found", "error"] "_law_clash_of" s__law_clash_of f cdv A outer s H E).A (cxD P w K mg base ["_law_rows", "_law_caught", "_law_found", "error"] "_law_clash_of" s__law_clash_of f cdv A outer s H E).env (cxD P w K mg base ["_law_rows", "_law_caught", "_law_found", "error"] "_law_clash_of" s__law_clash_of f cdv A outer s H E).xe := passes_of rfl
  exact (pssd_cons (psd_asg (pd_tup (pda_cons pd_non (pda_cons pd_non pda_nil))) (pgd_tup rfl (pgsd_cons (pgd_name (i := 1) sc__law_clash_of.nd rfl (Or.inl rfl)) (pgsd_cons (pgd_name (i := 2) sc__law_clash_of.nd rfl (Or.inl rfl)) pgsd_nil))))
  (pssd_cons (psd_try (i := 3) rfl rfl rfl sc__law_clash_of.nd rfl rfl ⟨by rfl, by decide, Or.inl k_Clash⟩ tk t_Clash (fun W2 pn xe tk hp => (pssd_one (psd_set (i := 2) sc__law_clash_of.nd rfl (Or.inl rfl) (pd_lst (pda_cons (pd_call c__law_merged_by hg hr (by decide) (by rfl) tk (pda_cons (pd_var 0) pda_nil) (ar_cons ar_nil) rfl) pda_nil))))) (fun a pn => (pssd_one (psd_set (i := 1) sc__law_clash_of.nd rfl (Or.inl rfl) (pd_var 3)))))
  (pssd_one (psd_ret (pd_if (pdt_cmp op_isN gIsN_ok (pd_var 1) pd_non (nomark _)) (pd_var 2) (pd_tup (pda_cons (pd_xf f_name (pd_var 1)) (pda_cons (pd_xf f_tuples (pd_var 1)) (pda_cons (pd_xf f_steps (pd_var 1)) pda_nil)))))))))
noncomputable def F__law_clash_of : FF := fun ds A => finR A (b__law_clash_of (startD 4 ds) A)
theorem o__law_clash_of (c__law_merged_by : Cal P w K mg base ct 5 "_law_merged_by" 1 [] F__law_merged_by) (k_Clash : mg "Clash" = some (.ref (ct "Clash"))) (t_Clash : ∀ k b, mt_Clash k = some b → PySem.W.exmOne K (ClV ct k) (.ref (ct "Clash")) = some b) (f_steps : ∀ c ∈ xs_steps, XfC K (ct c) ∧ PySem.W.findIn K (.ref (ct c)) "steps" = some none) (f_tuples : ∀ c ∈ xs_tuples, XfC K (ct c) ∧ PySem.W.findIn K (.ref (ct c)) "tuples" = some none) (f_name : ∀ c ∈ xs_name, XfC K (ct c) ∧ PySem.W.findIn K (.ref (ct c)) "name" = some none) {f : Addr} {fd : FuncData} (Fn : Fun K "_law_clash_of" "_law_clash_of" s__law_clash_of f fd) : FnG P w K mg base 6 f fd ["_law_rows"] (spD K ct 1 F__law_clash_of) := okD Fn sc__law_clash_of (d__law_clash_of c__law_merged_by k_Clash t_Clash f_steps f_tuples f_name f) fun ds A _ h => finR_ok h

abbrev s_law : Stmt := topS 27
theorem sc_law : FnScope ["_law_script", "_law_k", "_law_source_here", "_law_turn", "_law_rows", "_law_told", "_law_least"] ["_law_script"] (defScope s_law) := ⟨rfl, rfl, rfl, by decide +kernel, rfl, by decide +kernel, by decide +kernel⟩
noncomputable def b_law : SF := (sSeq (sFor (iRange1 (aCons (eArgs gMax2 (aCons (eC (.int 1)) (aCons (eArgs gMin2 (aCons (eC (.int 6)) (aCons (eArgs gLen (aCons (eVar 0) aNil)) aNil))) aNil))) aNil)) (gNm 1)
  (sSeq (sAsg (eArgs (fun ds A => F__law_source (ds ++ []) A) (aCons (eVar 0) (aCons (eVar 1) aNil))) (gNm 2))
  (sFor (iRange1 (aCons (eC (.int 3)) aNil)) (gNm 3)
  (sSeq (sAsg (eArgs (fun ds A => F__law_name_rows (ds ++ []) A) (aCons (eVar 2) (aCons (eBin gAdd (eC (.int 2)) (eArgs (fun ds A => F__law_next (ds ++ []) A) (aCons (eVar 2) (aCons (eC (.int 4)) aNil)))) (aCons (eBin gAdd (eC (.int 2)) (eArgs (fun ds A => F__law_next (ds ++ []) A) (aCons (eVar 2) (aCons (eC (.int 7)) aNil)))) (aCons (eC (.bl true)) aNil))))) (gNm 4))
  (sSeq (sPar (aCons (eArgs (fun ds A => F__law_clash_of (ds ++ []) A) (aCons (eVar 4) aNil)) (aCons (eArgs (fun ds A => F__law_least_ring (ds ++ []) A) (aCons (eVar 4) aNil)) aNil)) [5, 6])
  (sSeq (sIf (tCmpD gNe (eArgs gIsa (aCons (eVar 5) (aCons (eC (.cls (.bi "list"))) aNil))) (eBin gEq (eVar 6) (eC (.int 0))))
  (sRet (eC (.bl false)))
  sNx)
  (sIf (tCmpD gGt (eVar 6) (eC (.int 0)))
  (sSeq (sIf (tOrD (tCmpD gNotN (eBin gSubD (eVar 5) (eC (.int 0))) (eC .non)) (tCmpD gNe (eArgs gRepr (aCons (eBin gSubD (eVar 5) (eC (.int 1))) aNil)) (eArgs gRepr (aCons (eArgs gTuple (aCons (eVar 4) aNil)) aNil))))
  (sRet (eC (.bl false)))
  sNx)
  (sIf (tOrD (tNotD (tOfE (eArgs (fun ds A => F__law_clash_fits (ds ++ []) A) (aCons (eVar 4) (aCons (eBin gSubD (eVar 5) (eC (.int 2))) aNil))))) (tCmpD gNe (eArgs gLen (aCons (eBin gSubD (eVar 5) (eC (.int 2))) aNil)) (eVar 6)))
  (sRet (eC (.bl false)))
  sNx))
  sNx)))))))
  (sSeq (sAsg (eArgs gLstD (aCons (eArgs gTupD (aCons (eC (.str "a")) (aCons (eC (.str "b")) aNil))) (aCons (eArgs gTupD (aCons (eC (.str "b")) (aCons (eC (.str "c")) aNil))) (aCons (eArgs gTupD (aCons (eC (.str "c")) (aCons (eC (.str "d")) aNil))) (aCons (eArgs gTupD (aCons (eC (.str "d")) (aCons (eC (.str "a")) aNil))) aNil))))) (gNm 4))
  (sSeq (sAsg (eArgs (fun ds A => F__law_clash_of (ds ++ []) A) (aCons (eVar 4) aNil)) (gNm 5))
  (sRet (eAndD (eNotD (eArgs gIsa (aCons (eVar 5) (aCons (eC (.cls (.bi "list"))) aNil)))) (eAndD (eBin gEq (eArgs gLen (aCons (eBin gSubD (eVar 5) (eC (.int 2))) aNil)) (eC (.int 4))) (eArgs (fun ds A => F__law_clash_fits (ds ++ []) A) (aCons (eVar 4) (aCons (eBin gSubD (eVar 5) (eC (.int 2))) aNil)))))))))
theorem d_law (c__law_source : Cal P w K mg base ct 1 "_law_source" 2 [] F__law_source) (c__law_name_rows : Cal P w K mg base ct 3 "_law_name_rows" 4 [] F__law_name_rows) (c__law_next : Cal P w K mg base ct 1 "_law_next" 2 [] F__law_next) (c__law_least_ring : Cal P w K mg base ct 1 "_law_least_ring" 1 [] F__law_least_ring) (c__law_clash_of : Cal P w K mg base ct 6 "_law_clash_of" 1 [] F__law_clash_of) (c__law_clash_fits : Cal P w K mg base ct 2 "_law_clash_fits" 2 [] F__law_clash_fits) (m_isinstance : mg "isinstance" = none) (m_list : mg "list" = none) (m_repr : mg "repr" = none) (m_tuple : mg "tuple" = none) (m_len : mg "len" = none) (m_range : mg "range" = none) (m_max : mg "max" = none) (m_min : mg "min" = none) (f : Addr) :
    ∀ (cdv : Value) (A : Around) (outer : List PySem.Env) (s : Shared) (H : Hp) (E : XK), A.guards = some [] → Room 6 (A.deeper (envOfC "law" (defScope s_law) s.heap.objs.size f cdv)) → PSsD (cxD P w K mg base ["_law_script", "_law_k", "_law_source_here", "_law_turn", "_law_rows", "_law_told", "_law_least"] "law" s_law f cdv A outer s H E) ct (WD E) (defBody s_law) b_law := by
  intro cdv A outer s H E hg hr
  have tk : Takes (cxD P w K mg base ["_law_script", "_law_k", "_law_source_here", "_law_turn", "_law_rows", "_law_told", "_law_least"] "law" s_law f cdv A outer s H E) (WD E) := takes_of rfl rfl rfl rfl
  have hp : PassesOwn (model (cxD P w K mg base ["_law_script", "_law_k", "_law_source_here", "_law_turn", "_law_rows", "_law_told", "_law_least"] "law" s_law f cdv A outer s H E).prog (cxD P w K mg base ["_law_script", "_law_k", "_law_source_here", "_law_turn", "_law_rows", "_law_told", "_law_least"] "law" s_law f cdv A outer s H E).w) (cxD P w K mg base ["_law_script", "_law_k", "_law_source_here", "_law_turn", "_law_rows", "_law_told", "_law_least"] "law" s_law f cdv A outer s H E).A (cxD P w K mg base ["_law_script", "_law_k", "_law_source_here", "_law_turn", "_law_rows", "_law_told", "_law_least"] "law" s_law f cdv A outer s H E).env (cxD P w K mg base ["_law_script", "_law_k", "_law_source_here", "_law_turn", "_law_rows", "_law_told", "_law_least"] "law" s_law f cdv A outer s H E).xe := passes_of rfl
  exact (pssd_cons (psd_for hp rfl (pid_range1 (by rfl) m_range (pda_cons (pd_callB (call_max2 rfl) gMax2_ok (by rfl) m_max (by decide +kernel) (pda_cons pd_int (pda_cons (pd_callB (call_min2 rfl) gMin2_ok (by rfl) m_min (by decide +kernel) (pda_cons pd_int (pda_cons (pd_callB call_lenX gLen_ok (by rfl) m_len PySem.boot_len (pda_cons (pd_var 0) pda_nil)) pda_nil))) pda_nil))) pda_nil)) (pgd_name (i := 1) sc_law.nd rfl (Or.inl rfl))
  (pssd_cons (psd_set (i := 2) sc_law.nd rfl (Or.inl rfl) (pd_call c__law_source hg hr (by decide) (by rfl) tk (pda_cons (pd_var 0) (pda_cons (pd_var 1) pda_nil)) (ar_cons (ar_cons ar_nil)) rfl))
  (pssd_one (psd_for hp rfl (pid_range1 (by rfl) m_range (pda_cons pd_int pda_nil)) (pgd_name (i := 3) sc_law.nd rfl (Or.inl rfl))
  (pssd_cons (psd_set (i := 4) sc_law.nd rfl (Or.inl rfl) (pd_call c__law_name_rows hg hr (by decide) (by rfl) tk (pda_cons (pd_var 2) (pda_cons (pd_op op_addX gAdd_ok pd_int (pd_call c__law_next hg hr (by decide) (by rfl) tk (pda_cons (pd_var 2) (pda_cons pd_int pda_nil)) (ar_cons (ar_cons ar_nil)) rfl)) (pda_cons (pd_op op_addX gAdd_ok pd_int (pd_call c__law_next hg hr (by decide) (by rfl) tk (pda_cons (pd_var 2) (pda_cons pd_int pda_nil)) (ar_cons (ar_cons ar_nil)) rfl)) (pda_cons pd_bl pda_nil)))) (ar_cons (ar_cons (ar_cons (ar_cons ar_nil)))) rfl))
  (pssd_cons (psd_par (i := 5) (j := 6) rfl sc_law.nd rfl rfl (by decide) rfl rfl (pda_cons (pd_call c__law_clash_of hg hr (by decide) (by rfl) tk (pda_cons (pd_var 4) pda_nil) (ar_cons ar_nil) rfl) (pda_cons (pd_call c__law_least_ring hg hr (by decide) (by rfl) tk (pda_cons (pd_var 4) pda_nil) (ar_cons ar_nil) rfl) pda_nil)) rfl)
  (pssd_cons (psd_if (pdt_cmp (op_neX hr.units) gNe_ok (pd_callB call_isi gIsa_ok (by rfl) m_isinstance (by decide +kernel) (pda_cons (pd_var 5) (pda_cons (pd_c (pe_bltn (v := .ty "list") (u := .type "list") (by rfl) m_list (by decide +kernel) rfl) (fun _ _ => .ty _)) pda_nil))) (pd_cmp (op_eqX hr.units) gEq_ok (pd_var 6) pd_int (nomark _)) (nomark _))
  (pssd_one (psd_ret pd_bl))
  pssd_nil)
  (pssd_one (psd_if (pdt_cmp op_gtX gLtL_ok (pd_var 6) pd_int (nomark _))
  (pssd_cons (psd_if (pdw_t (pdw_or (pdt_cmp op_notN gNotN_ok (pd_sub (hu_of hr) (pd_var 5) pd_int (fun _ _ => rfl) (fun _ _ => rfl)) pd_non (nomark _)) (pdw_or1 (pdt_cmp (op_neX hr.units) gNe_ok (pd_callB (call_repr hg hr.units) gRepr_ok (by rfl) m_repr (by decide +kernel) (pda_cons (pd_sub (hu_of hr) (pd_var 5) pd_int (fun _ _ => rfl) (fun _ _ => rfl)) pda_nil)) (pd_callB (call_repr hg hr.units) gRepr_ok (by rfl) m_repr (by decide +kernel) (pda_cons (pd_callTy call_tupleF gTuple_ok (by rfl) m_tuple (by decide +kernel) (pda_cons (pd_var 4) pda_nil)) pda_nil)) (nomark _)))))
  (pssd_one (psd_ret pd_bl))
  pssd_nil)
  (pssd_one (psd_if (pdw_t (pdw_or (pdt_not (pdt_truth (pd_call c__law_clash_fits hg hr (by decide) (by rfl) tk (pda_cons (pd_var 4) (pda_cons (pd_sub (hu_of hr) (pd_var 5) pd_int (fun _ _ => rfl) (fun _ _ => rfl)) pda_nil)) (ar_cons (ar_cons ar_nil)) rfl))) (pdw_or1 (pdt_cmp (op_neX hr.units) gNe_ok (pd_callB call_lenX gLen_ok (by rfl) m_len PySem.boot_len (pda_cons (pd_sub (hu_of hr) (pd_var 5) pd_int (fun _ _ => rfl) (fun _ _ => rfl)) pda_nil)) (pd_var 6) (nomark _)))))
  (pssd_one (psd_ret pd_bl))
  pssd_nil)))
  pssd_nil)))))))))
  (pssd_cons (psd_set (i := 4) sc_law.nd rfl (Or.inl rfl) (pd_lst (pda_cons (pd_tup (pda_cons pd_str (pda_cons pd_str pda_nil))) (pda_cons (pd_tup (pda_cons pd_str (pda_cons pd_str pda_nil))) (pda_cons (pd_tup (pda_cons pd_str (pda_cons pd_str pda_nil))) (pda_cons (pd_tup (pda_cons pd_str (pda_cons pd_str pda_nil))) pda_nil))))))
  (pssd_cons (psd_set (i := 5) sc_law.nd rfl (Or.inl rfl) (pd_call c__law_clash_of hg hr (by decide) (by rfl) tk (pda_cons (pd_var 4) pda_nil) (ar_cons ar_nil) rfl))
  (pssd_one (psd_ret (pd_and (pd_not (pd_callB call_isi gIsa_ok (by rfl) m_isinstance (by decide +kernel) (pda_cons (pd_var 5) (pda_cons (pd_c (pe_bltn (v := .ty "list") (u := .type "list") (by rfl) m_list (by decide +kernel) rfl) (fun _ _ => .ty _)) pda_nil)))) (pd_and (pd_cmp (op_eqX hr.units) gEq_ok (pd_callB call_lenX gLen_ok (by rfl) m_len PySem.boot_len (pda_cons (pd_sub (hu_of hr) (pd_var 5) pd_int (fun _ _ => rfl) (fun _ _ => rfl)) pda_nil)) pd_int (nomark _)) (pd_one (pd_call c__law_clash_fits hg hr (by decide) (by rfl) tk (pda_cons (pd_var 4) (pda_cons (pd_sub (hu_of hr) (pd_var 5) pd_int (fun _ _ => rfl) (fun _ _ => rfl)) pda_nil)) (ar_cons (ar_cons ar_nil)) rfl)))))))))
noncomputable def F_law : FF := fun ds A => finR A (b_law (startD 7 ds) A)
theorem o_law (c__law_source : Cal P w K mg base ct 1 "_law_source" 2 [] F__law_source) (c__law_name_rows : Cal P w K mg base ct 3 "_law_name_rows" 4 [] F__law_name_rows) (c__law_next : Cal P w K mg base ct 1 "_law_next" 2 [] F__law_next) (c__law_least_ring : Cal P w K mg base ct 1 "_law_least_ring" 1 [] F__law_least_ring) (c__law_clash_of : Cal P w K mg base ct 6 "_law_clash_of" 1 [] F__law_clash_of) (c__law_clash_fits : Cal P w K mg base ct 2 "_law_clash_fits" 2 [] F__law_clash_fits) (m_isinstance : mg "isinstance" = none) (m_list : mg "list" = none) (m_repr : mg "repr" = none) (m_tuple : mg "tuple" = none) (m_len : mg "len" = none) (m_range : mg "range" = none) (m_max : mg "max" = none) (m_min : mg "min" = none) {f : Addr} {fd : FuncData} (Fn : Fun K "law" "law" s_law f fd) : FnG P w K mg base 7 f fd ["_law_script"] (spD K ct 1 F_law) := okD Fn sc_law (d_law c__law_source c__law_name_rows c__law_next c__law_least_ring c__law_clash_of c__law_clash_fits m_isinstance m_list m_repr m_tuple m_len m_range m_max m_min f) fun ds A _ h => finR_ok h

end
end K05

set_option Elab.async false
set_option linter.all false
set_option maxRecDepth 100000
namespace K05
open PySem PySem.Spec PyProof.Rows L2 DV
theorem prime_at {j : Int} (h0 : 0 ≤ j) (h1 : j < 11) : ∃ p : Int, L2.atI [D.int 2147483647, .int 2147483629, .int 2147483587, .int 2147483579, .int 2147483563, .int 2147483549, .int 2147483543, .int 2147483497, .int 2147483489, .int 2147483477, .int 2147483423] j = some (.int p) ∧ 2147483000 < p ∧ p < 2 ^ 32 := by
  obtain ⟨x, hx, hm⟩ := atI_of (xs := [D.int 2147483647, .int 2147483629, .int 2147483587, .int 2147483579, .int 2147483563, .int 2147483549, .int 2147483543, .int 2147483497, .int 2147483489, .int 2147483477, .int 2147483423]) h0 (by simpa using h1)
  rw [hx]
  simp only [List.mem_cons, List.not_mem_nil, or_false] at hm
  rcases hm with e | e | e | e | e | e | e | e | e | e | e <;> rw [e] <;> exact ⟨_, rfl, by omega, by omega⟩
theorem next_ok {A : Hd} {k : Nat} {T m : Int} (S : SRC A k T) (hT : T ≤ 2 ^ 40) (hm : 0 < m) (hm2 : m < 2 ^ 60) : ∃ r l, F__law_next [.ref k, .int m] A = .ok (.int r) (A.set k l) ∧ 0 ≤ r ∧ r < m ∧ SRC (A.set k l) k (T + 1) := by
  obtain ⟨c, t, h, hA, ht0, ht1, hh⟩ := S
  have hk : k < A.length := (List.getElem?_eq_some_iff.mp hA).1
  have s0 : ∀ a b : Int, L2.atI [D.int c, .int a, .int b] 0 = some (.int c) := fun _ _ => rfl
  have s1 : ∀ a b : Int, L2.atI [D.int c, .int a, .int b] 1 = some (.int a) := fun _ _ => rfl
  have s2 : ∀ a b : Int, L2.atI [D.int c, .int a, .int b] 2 = some (.int b) := fun _ _ => rfl
  have big : m.natAbs.log2 < 9000 := by
    have : m.natAbs.log2 < 60 := by
      by_cases h0 : m.natAbs = 0
      · omega
      · exact (Nat.log2_lt h0).mpr (by omega)
    omega
  have mp : ∀ x : Int, 0 ≤ x % m ∧ x % m < m := fun x => ⟨Int.emod_nonneg _ (by omega), Int.emod_lt_of_pos _ hm⟩
  by_cases hp : 0 < h
  · refine ⟨h % m, .lst [.int c, .int t, .int (h / m)], ?_, (mp h).1, (mp h).2, c, t, h / m, by rw [List.getElem?_set_self hk], ht0, by omega, Int.ediv_nonneg hh (by omega)⟩
    unfold F__law_next b__law_next
    have w1 : ∀ d ro, setD (.ref k) (.int 2) d ro A = .ok ro (A.set k (.lst [.int c, .int t, d])) := fun d ro => set_num hA (i := 2) (j := 2) rfl
    simp [startD, sSeq, sIf, sAsg, sRet, sNx, tCmpD, eBin, eVar, eC, gNm, gAt, R.out, sub_num hA (s2 t h), gLtL, gBool, hp, gMod, gDiv, hm, CDivW, big, w1, finR]
  · have h1 : (A.set k (.lst [.int c, .int (t + 1), .int h]))[k]? = some (.lst [.int c, .int (t + 1), .int h]) := by rw [List.getElem?_set_self hk]
    generalize hA1 : A.set k (.lst [.int c, .int (t + 1), .int h]) = A1 at h1
    have w1 : ∀ ro, setD (.ref k) (.int 1) (.int (t + 1)) ro A = .ok ro A1 := fun ro => by rw [← hA1]; exact set_num hA (i := 1) (j := 1) rfl
    obtain ⟨p, hp1, hp2, hp3⟩ := prime_at (j := (t + 1) % 11) (Int.emod_nonneg _ (by omega)) (Int.emod_lt_of_pos _ (by omega))
    have p0 : 0 < p := by omega
    have cp := Int.emod_nonneg c (show p ≠ 0 by omega)
    have cq := Int.emod_lt_of_pos c p0
    have hpow : CPow (c % p + 7919 * (t + 1) + 1) 5 := ⟨by omega, by omega, by omega⟩
    have hmul : CMul 7919 (t + 1) := .inl ⟨by omega, by omega⟩
    have l13 : CDivW ((c % p + 7919 * (t + 1) + 1) ^ 5 % p) 13 := ⟨by omega, by decide⟩
    have sz : 11 ≤ sizeLine := by rw [sizeLine_eq]; omega
    have sz8 : 8 ≤ sizeLine := by omega
    have sz3 : 3 ≤ sizeLine := by omega
    refine ⟨_, .lst [.int c, .int (t + 1), .int h], ?_, (mp ((c % p + 7919 * (t + 1) + 1) ^ 5 % p / 13)).1, (mp _).2, c, t + 1, h, by rw [List.getElem?_set_self hk], by omega, by omega, hh⟩
    rw [hA1]
    have cs : ∀ i : Int, cutR A (.int i) A1 = .ok (.int i) A1 := fun i => cut_same (by rw [← hA1]; simp)
    unfold F__law_next b__law_next
    simp [startD, sSeq, sIf, sAsg, sRet, sNx, tCmpD, eBin, eVar, eC, gNm, gAt, R.out, sub_num hA (s2 t h), sub_num hA (s1 t h), gLtL, gBool, hp, gMod, gDiv, gAdd, gMul, gPow, hm, w1, finR, sub_num h1 (s1 _ _), sub_num h1 (s0 _ _), eArgs, aCons, aNil, gLstD, asL, sz, sz8, sz3, sub_lst hp1, p0, hpow, hmul, l13, cs]
end K05

set_option Elab.async false
set_option linter.all false
set_option maxRecDepth 100000
namespace K05
open PySem PySem.Spec PyProof.Rows L2 DV
def abc : Str := "abcdefghijklmnopqrstuvwxyz"
def isName : D → Bool
  | .str x => decide (1 ≤ x.length) && decide (x.length ≤ 8) && x.cps.toList.all fun c => decide (c ∈ abc.cps.toList)
  | _ => false
def okName : D → Bool
  | .str x => decide (x.length ≤ 1000) && PyData.canLay0 (.str x)
  | .ref _ => false
  | .scr _ => false
  | .cls _ => false
  | _ => true
def sgn : D → D := fun d => match d with | .str y => .bl (match y.cps.toList with | [c] => decide (c ∈ abc.cps.toList) | _ => false) | _ => .bl false
theorem name_ok {d : D} {A : Hd} (h : okName d = true) : F_is_name [d] A = .ok (.bl (isName d)) A := by
  cases d with
  | str x =>
    have hz : x.length ≤ sizeLine := Nat.le_trans (by unfold okName at h; rw [Bool.and_eq_true] at h; exact of_decide_eq_true h.1) sz1000
    unfold F_is_name b_is_name isName
    by_cases h1 : 1 ≤ x.length
    · by_cases h2 : x.length ≤ 8
      · have e1 : decide ((1 : Int) ≤ (x.length : Int)) = true := decide_eq_true (by omega)
        have e2 : decide ((x.length : Int) ≤ 8) = true := decide_eq_true (by omega)
        have hc : compD (.fix (charsD x)) (.one 1) [1] ttYes (eBin gIn (eVar 1) (eC (.str abc))) [some (.str x), none] (charsD x) [] A = .ok (([] : List D) ++ ((charsD x).filter fun _ => true).map sgn) A :=
          compD_pure (here_fix _ _) _ _ (by simp only [charsD, List.length_nil, List.length_map, Array.length_toList, Nat.zero_add]; exact hz) fun d hd => by
            obtain ⟨c, hc, rfl⟩ := List.mem_map.mp hd
            refine ⟨[some (.str x), some (.str ⟨#[c]⟩)], rfl, rfl, fun _ => ?_⟩
            simp [eBin, eVar, eC, gIn, inP, sgn]
        have hb : boolsD ((charsD x).map sgn) = some (x.cps.toList.map fun c => decide (c ∈ abc.cps.toList)) := by
          unfold charsD
          rw [List.map_map]
          exact boolsD_map (fun c => decide (c ∈ abc.cps.toList)) _
        have ht : (charsD x).filter (fun _ => true) = charsD x := List.filter_eq_self.mpr fun _ _ => rfl
        rw [ht] at hc
        unfold abc at hc
        simp [startD, sSeq, sIf, sRet, sNx, tOrD, tNotD, tOfE, eArgs, aCons, aNil, eVar, eC, gIsa, tyD, isaB, gTru, truD, eChain, gLen, hz, gLtL, e1, e2, gBool, gAll, eComp, iSeq, srcD, Src.items, hc, asR, asL, hb, finR, h1, h2, abc]
      · have e1 : decide ((1 : Int) ≤ (x.length : Int)) = true := decide_eq_true (by omega)
        have e2 : decide ((x.length : Int) ≤ 8) = false := decide_eq_false (by omega)
        simp [startD, sSeq, sIf, sRet, sNx, tOrD, tNotD, tOfE, eArgs, aCons, aNil, eVar, eC, gIsa, tyD, isaB, gTru, truD, eChain, gLen, hz, gLtL, e1, e2, gBool, finR, h1, h2]
    · have e1 : decide ((1 : Int) ≤ (x.length : Int)) = false := decide_eq_false (by omega)
      simp [startD, sSeq, sIf, sRet, sNx, tOrD, tNotD, tOfE, eArgs, aCons, aNil, eVar, eC, gIsa, tyD, isaB, gTru, truD, eChain, gLen, hz, gLtL, e1, gBool, finR, h1]
  | ref n => cases h
  | scr n => cases h
  | cls n => cases h
  | _ =>
    unfold F_is_name b_is_name isName
    simp [startD, sSeq, sIf, sRet, sNx, tOrD, tNotD, tOfE, eArgs, aCons, aNil, eVar, eC, gIsa, tyD, isaB, gTru, truD, finR]

end K05

set_option Elab.async false
set_option linter.all false
set_option maxRecDepth 100000
namespace K05
open PySem PySem.Spec PyProof.Rows L2 DV
def okIt (d : D) : Bool := okName d && layD d
def okRow : D → Bool
  | .tup ds => ds.all okIt && decide (ds.length ≤ 1000)
  | .ref _ => false
  | .scr _ => false
  | .cls _ => false
  | _ => true
def dist (ds : List D) : Bool := match textsD ds with
  | some xs => decide (((mets xs).length : Int) = (ds.length : Int))
  | none => false
def isDiff : D → Bool
  | .tup ds => ds.all isName && dist ds
  | _ => false
theorem names_texts : ∀ {ds : List D}, ds.all isName = true → ∃ xs, textsD ds = some xs ∧ xs.length = ds.length
  | [], _ => ⟨[], rfl, rfl⟩
  | d :: ds, h => by
    rw [List.all_cons, Bool.and_eq_true] at h
    obtain ⟨xs, e, l⟩ := names_texts h.2
    cases d with
    | str x => exact ⟨x :: xs, by unfold textsD; rw [e], by rw [List.length_cons, List.length_cons, l]⟩
    | _ => cases h.1
theorem isT_ok {d : D} {A : Hd} {ro : DV.Env} {T t : String} {b : Bool} (h0 : ro[0]? = some (some d)) (h : tyD A d = some t) (h2 : isaB t T = some b) : tNotD (tOfE (eArgs gIsa (aCons (eVar 0) (aCons (eC (.cls (.bi T))) aNil)))) ro A = .ok (!b) A := by
  refine tnot_ok (trub_ok (args2_ok (d := d) (A1 := A) (by unfold eVar; rw [h0]) rfl ?_))
  unfold gIsa
  simp only [h, h2]
def isTup : D → Bool
  | .tup _ => true
  | _ => false
theorem okRow_ty {d : D} {A : Hd} (h : okRow d = true) : ∃ t b, tyD A d = some t ∧ isaB t "tuple" = some b ∧ b = isTup d := by
  cases d with
  | ref n => cases h
  | scr n => cases h
  | cls n => cases h
  | non => exact ⟨"NoneType", false, rfl, by decide +kernel, rfl⟩
  | bl b => exact ⟨"bool", false, rfl, by decide +kernel, rfl⟩
  | int i => exact ⟨"int", false, rfl, by decide +kernel, rfl⟩
  | str x => exact ⟨"str", false, rfl, by decide +kernel, rfl⟩
  | tup x => exact ⟨"tuple", true, rfl, by decide +kernel, rfl⟩
  | lst x => exact ⟨"list", false, rfl, by decide +kernel, rfl⟩
  | dic x => exact ⟨"dict", false, rfl, by decide +kernel, rfl⟩
theorem setLen_ok {ds : List D} {A : Hd} (h : ds.all isName = true) (hl : ds.length ≤ 1000) : eBin gEq (eUn gLenSet (eVar 0)) (eArgs gLen (aCons (eVar 0) aNil)) [some (.tup ds), none] A = .ok (.bl (dist ds)) A := by
  obtain ⟨xs, e, l⟩ := names_texts h
  refine bin_ok (d := .int (mets xs).length) (e := .int ds.length) (A1 := A) (A2 := A) (un_ok rfl ?_) (args1_ok rfl ?_) ?_
  · unfold gLenSet
    show (match textsD ds with | some xs => if xs.length < 4000 then R.ok (D.int (mets xs).length) A else .stk | none => .stk) = _
    rw [e]
    show (if xs.length < 4000 then R.ok (D.int (mets xs).length) A else .stk) = _
    rw [if_pos (by omega)]
  · rfl
  · rw [gEq_int]
    unfold dist
    rw [e]
theorem comp1_ok {ds : List D} {A : Hd} {f : D → D} {te : EF} (hl : ds.length ≤ 1000) (h : ∀ d ∈ ds, te [some (.tup ds), some d] A = .ok (f d) A) : eComp (iSeq (eVar 0)) (.one 1) [1] ttYes te [some (.tup ds), none] A = .ok (.lst (ds.map f)) A := by
  have := compD_pure (s := .fix ds) (pt := .one 1) (vs := [1]) (tt := ttYes) (te := te) (ro := [some (.tup ds), none]) (p := fun _ => true) (f := f) (here_fix ds A) ds [] (by have := sz1000; simp; omega) fun d hd => ⟨_, rfl, rfl, fun _ => h d hd⟩
  rw [List.filter_eq_self.mpr fun _ _ => rfl, List.nil_append] at this
  exact comp_ok (seq_ok rfl rfl) this
theorem isDiff_tup (ds : List D) : isDiff (.tup ds) = (ds.all isName && dist ds) := rfl
theorem diff_ok {d : D} {A : Hd} (h : okRow d = true) : F_are_different [d] A = .ok (.bl (isDiff d)) A := by
  obtain ⟨t, b, h1, h2, h3⟩ := okRow_ty (A := A) h
  have hi := isT_ok (ro := [some d, none]) rfl h1 h2
  unfold F_are_different b_are_different
  by_cases ht : ∃ ds, d = .tup ds
  · obtain ⟨ds, rfl⟩ := ht
    subst h3
    unfold okRow at h
    rw [Bool.and_eq_true] at h
    have hl := of_decide_eq_true h.2
    have hall : eArgs gAll (aCons (eComp (iSeq (eVar 0)) (.one 1) [1] ttYes (eArgs (fun ds A => F_is_name (ds ++ []) A) (aCons (eVar 1) aNil))) aNil) [some (.tup ds), none] A = .ok (.bl (ds.all isName)) A := by
      refine args1_ok (comp1_ok (f := fun d => .bl (isName d)) hl fun d hd => args1_ok rfl ?_) ?_
      · refine name_ok ?_
        have := List.all_eq_true.mp h.1 d hd
        unfold okIt at this
        rw [Bool.and_eq_true] at this
        exact this.1
      · have hb := boolsD_map isName ds
        unfold gAll
        show (match boolsD (ds.map fun d => D.bl (isName d)) with | some bs => R.ok (D.bl (bs.all id)) A | none => R.stk) = _
        rw [hb]
        show R.ok (D.bl ((ds.map isName).all id)) A = _
        rw [List.all_map]
        rfl
    cases hn : ds.all isName with
    | true =>
      refine fin_ok (ro := [some (.tup ds), none]) (sseq_ok (ro' := [some (.tup ds), none]) (A1 := A) (sif_ok (z := false) (A1 := A) (tor_ok hi ((tnot_ok (trub_ok hall)).trans (by rw [hn]; rfl))) rfl) (sret_ok ((setLen_ok hn hl).trans ?_))) rfl
      rw [isDiff_tup, hn]; rfl
    | false =>
      have hz : isDiff (.tup ds) = false := by rw [isDiff_tup, hn]; rfl
      rw [hz]
      have ht : sIf (tOrD (tNotD (tOfE (eArgs gIsa (aCons (eVar 0) (aCons (eC (.cls (.bi "tuple"))) aNil))))) (tNotD (tOfE (eArgs gAll (aCons (eComp (iSeq (eVar 0)) (.one 1) [1] ttYes (eArgs (fun ds A => F_is_name (ds ++ []) A) (aCons (eVar 1) aNil))) aNil))))) (sRet (eC (.bl false))) sNx [some (.tup ds), none] A = .go (.ret (.bl false)) [some (.tup ds), none] A :=
        sif_ok (z := true) (A1 := A) (tor_ok hi ((tnot_ok (trub_ok hall)).trans (by rw [hn]; rfl))) rfl
      unfold sSeq startD
      exact fin_ok (ro := [some (.tup ds), none]) (by show (sIf _ _ _ [some (.tup ds), none] A).next _ = _; rw [ht]; rfl) rfl
  · have hb : b = false := by
      rw [h3]
      cases d with
      | tup ds => exact absurd ⟨ds, rfl⟩ ht
      | _ => rfl
    have hz : isDiff d = false := by
      cases d with
      | tup ds => exact absurd ⟨ds, rfl⟩ ht
      | _ => rfl
    rw [hz]
    subst hb
    have ht : sIf (tOrD (tNotD (tOfE (eArgs gIsa (aCons (eVar 0) (aCons (eC (.cls (.bi "tuple"))) aNil))))) (tNotD (tOfE (eArgs gAll (aCons (eComp (iSeq (eVar 0)) (.one 1) [1] ttYes (eArgs (fun ds A => F_is_name (ds ++ []) A) (aCons (eVar 1) aNil))) aNil))))) (sRet (eC (.bl false))) sNx [some d, none] A = .go (.ret (.bl false)) [some d, none] A :=
      sif_ok (z := true) (A1 := A) (tor_ok hi rfl) rfl
    unfold sSeq startD
    exact fin_ok (ro := [some d, none]) (by show (sIf _ _ _ [some d, none] A).next _ = _; rw [ht]; rfl) rfl

end K05

set_option Elab.async false
set_option linter.all false
set_option maxRecDepth 100000
namespace K05
open PySem PySem.Spec PyProof.Rows L2 DV
def laid (x : Str) : Bool := PyData.canLay0 (.str x)
def rowD (r : List Str) : D := .tup (r.map D.str)
def rowsD (rs : List (List Str)) : D := .tup (rs.map rowD)
/-- n sources of draws stand under numbers; the one at k has done at most T -/
structure SN (n k : Nat) (A : Hd) (T : Int) : Prop where
  len : A.length = n
  src : SRC A k T
  low : ∀ m ∈ A, ∀ z, M.lt z m = true
theorem SN.le {n k : Nat} {A : Hd} {T T' : Int} (h : SN n k A T) (e : T ≤ T') : SN n k A T' := ⟨h.len, h.src.le e, h.low⟩
theorem SN.kn {n k : Nat} {A : Hd} {T : Int} (h : SN n k A T) : k < n := by
  obtain ⟨c, t, q, e, _⟩ := h.src
  have := (List.getElem?_eq_some_iff.mp e).1
  rw [h.len] at this
  exact this
theorem SN.ml {n k : Nat} {A : Hd} {T : Int} (h : SN n k A T) (z : Nat) : ∀ m ∈ A, M.lt z m = true := fun m hm => h.low m hm z
theorem nextN {n k : Nat} {A X : Hd} {T m : Int} (S : SN n k A T) (hT : T ≤ 2 ^ 40) (hm : 0 < m) (hm2 : m < 2 ^ 60) : ∃ r A', F__law_next [.ref k, .int m] (A ++ X) = .ok (.int r) (A' ++ X) ∧ 0 ≤ r ∧ r < m ∧ SN n k A' (T + 1) := by
  have hk : k < A.length := by rw [S.len]; exact S.kn
  have S' : SRC (A ++ X) k T := by
    obtain ⟨c, t, q, e, r⟩ := S.src
    exact ⟨c, t, q, by rw [List.getElem?_append_left hk]; exact e, r⟩
  obtain ⟨r, l, e, h0, h1, h2⟩ := next_ok S' hT hm hm2
  have es : (A ++ X).set k l = A.set k l ++ X := List.set_append_left _ _ hk
  rw [es] at e h2
  have S2 : SRC (A.set k l) k (T + 1) := by
    obtain ⟨c, t, q, e, r⟩ := h2
    exact ⟨c, t, q, by rw [List.getElem?_append_left (by rw [List.length_set]; exact hk)] at e; exact e, r⟩
  refine ⟨r, A.set k l, e, h0, h1, by rw [List.length_set]; exact S.len, S2, fun x hx z => ?_⟩
  rcases List.mem_or_eq_of_mem_set hx with w | w
  · exact S.low x w z
  · obtain ⟨c, t, q, e, _⟩ := S2
    rw [List.getElem?_set_self hk] at e
    cases e
    rw [w]
    simp [M.lt, D.lts, D.lt]
theorem cut_tail {A A1 X : Hd} (hl : A1.length = A.length) (hf : ∀ m ∈ A1, M.lt A.length m = true) : (A1 ++ X).take A.length = A1 ∧ M.ltAll A.length ((A1 ++ X).take A.length) = true := by
  have e : (A1 ++ X).take A.length = A1 := by rw [← hl]; exact List.take_left
  refine ⟨e, ?_⟩
  rw [e]
  unfold M.ltAll
  exact List.all_eq_true.mpr hf
theorem cut_val {A A1 X : Hd} {d : D} (hl : A1.length = A.length) (hf : ∀ m ∈ A1, M.lt A.length m = true) (hd : d.lt A.length = true) : cutR A d (A1 ++ X) = .ok d A1 := by
  obtain ⟨e1, e2⟩ := cut_tail (X := X) hl hf
  unfold cutR frz
  rw [if_pos hd]
  show (if M.ltAll A.length ((A1 ++ X).take A.length) = true then R.ok d ((A1 ++ X).take A.length) else .ok d (A1 ++ X)) = _
  rw [if_pos e2, e1]
theorem cut_ref {A A1 X : Hd} {j : Nat} {ds : List D} (hl : A1.length = A.length) (hf : ∀ m ∈ A1, M.lt A.length m = true) (hx : X[j]? = some (.lst ds)) (hd : D.lts A.length ds = true) : cutR A (.ref (A.length + j)) (A1 ++ X) = .ok (.lst ds) A1 := by
  obtain ⟨e1, e2⟩ := cut_tail (X := X) hl hf
  have g : (A1 ++ X)[A.length + j]? = some (.lst ds) := by
    rw [List.getElem?_append_right (by omega), show A.length + j - A1.length = j by omega]
    exact hx
  have hn : ¬ (D.lt A.length (.ref (A.length + j)) = true) := by simp [D.lt]
  unfold cutR frz
  rw [if_neg hn]
  simp only [g, hd, if_true]
  rw [if_pos e2, e1]
theorem strs_lt (n : Nat) : ∀ xs : List Str, D.lts n (xs.map D.str) = true
  | [] => by simp [D.lts]
  | x :: xs => by
    rw [List.map_cons]
    unfold D.lts
    rw [strs_lt n xs]
    rfl
theorem map_erase {α β : Type} (f : α → β) : ∀ (l : List α) (i : Nat), (l.map f).eraseIdx i = (l.eraseIdx i).map f
  | [], _ => rfl
  | _ :: _, 0 => rfl
  | a :: l, i + 1 => by
    show f a :: (l.map f).eraseIdx i = f a :: (l.eraseIdx i).map f
    rw [map_erase f l i]
theorem perm_erase {α : Type} : ∀ (l : List α) (i : Nat) (h : i < l.length), (l[i] :: l.eraseIdx i).Perm l
  | [], _, h => absurd h (Nat.not_lt_zero _)
  | a :: l, 0, _ => List.Perm.refl _
  | a :: l, i + 1, h => by
    have hi : i < l.length := Nat.lt_of_succ_lt_succ h
    have ih := perm_erase l i hi
    show (l[i] :: a :: l.eraseIdx i).Perm (a :: l)
    exact (List.Perm.swap _ _ _).trans (ih.cons a)
/-! ### _law_mixed -/
theorem whileD_step {c : TF} {b : SF} {N : Nat} {ro ro' : DV.Env} {A A1 A2 : Hd} {o : Out} (h1 : c ro A = .ok true A1) (h2 : b ro A1 = .go .nx ro' A2) (h3 : whileD c b N ro' A2 = o) : whileD c b (N + 1) ro A = o := by
  unfold whileD
  rw [h1, R.then_ok, if_pos rfl, h2, Out.loop_nx, h3]
theorem whileD_stop {c : TF} {b : SF} {N : Nat} {ro : DV.Env} {A A1 : Hd} (h1 : c ro A = .ok false A1) : whileD c b (N + 1) ro A = .go .nx ro A1 := by
  unfold whileD
  rw [h1, R.then_ok, if_neg (by simp)]
theorem lenX {n k : Nat} {A X : Hd} {T : Int} (S : SN n k A T) : (A ++ X).length = n + X.length := by rw [List.length_append, S.len]
theorem nextX {n k : Nat} {A X : Hd} (L : Hd) {T m : Int} (S : SN n k A T) (hT : T ≤ 2 ^ 40) (hm : 0 < m) (hm2 : m < 2 ^ 60) : ∃ r A', F__law_next [.ref k, .int m] (A ++ X ++ L) = .ok (.int r) (A' ++ X ++ L) ∧ 0 ≤ r ∧ r < m ∧ SN n k A' (T + 1) := by
  obtain ⟨r, A', e, h⟩ := nextN (X := X ++ L) S hT hm hm2
  exact ⟨r, A', by rw [List.append_assoc, e, List.append_assoc], h⟩
theorem mixN {n k : Nat} {A : Hd} (X : Hd) (hX : ∀ m ∈ X, ∀ z, M.lt z m = true) {T : Int} {xs : List Str} (S : SN n k A T) (hT : T + 200 ≤ 2 ^ 40) (hl : xs.length ≤ 100) (hy : xs.all laid = true) : ∃ (ys : List Str) (A' : Hd), F__law_mixed [.ref k, .lst (xs.map D.str)] (A ++ X) = .ok (.lst (ys.map D.str)) (A' ++ X) ∧ ys.Perm xs ∧ SN n k A' (T + xs.length) := by
  have z := sz1000
  obtain ⟨nb, hnb⟩ : ∃ nb, nb = n + X.length := ⟨_, rfl⟩
  have lay : ∀ ys : List Str, (∀ y ∈ ys, y ∈ xs) → ∀ d ∈ ys.map D.str, layD d = true := fun ys h d hd => by
    obtain ⟨y, hy', rfl⟩ := List.mem_map.mp hd
    exact layD_str (List.all_eq_true.mp hy y (h y hy'))
  have loop : ∀ (m : Nat) (rest found : List Str) (A1 : Hd) (N : Nat), rest.length = m → m < N → found.length + rest.length = xs.length → (found ++ rest).Perm xs → SN n k A1 (T + found.length) →
      ∃ (ys : List Str) (A2 : Hd), whileD (tCmpD gNe (eVar 2) (eArgs gLstD aNil)) (sEx (eMeth isL gAppend (eVar 3) (aCons (eMeth isL gPopAt (eVar 2) (aCons (eArgs (fun ds A => F__law_next (ds ++ []) A) (aCons (eVar 0) (aCons (eArgs gLen (aCons (eVar 2) aNil)) aNil))) aNil)) aNil))) N [some (.ref k), some (.lst (xs.map D.str)), some (.ref nb), some (.ref (nb + 1))] (A1 ++ X ++ [.lst (rest.map D.str), .lst (found.map D.str)])
        = .go .nx [some (.ref k), some (.lst (xs.map D.str)), some (.ref nb), some (.ref (nb + 1))] (A2 ++ X ++ [.lst [], .lst (ys.map D.str)]) ∧ ys.Perm xs ∧ SN n k A2 (T + xs.length) := by
    intro m
    induction m with
    | zero =>
      intro rest found A1 N hr hN hlen hp S1
      have er : rest = [] := List.length_eq_zero_iff.mp hr
      subst er
      obtain ⟨N, rfl⟩ : ∃ M, N = M + 1 := ⟨N - 1, by omega⟩
      have g : (A1 ++ X ++ [M.lst [], .lst (found.map D.str)])[nb]? = some (.lst []) := by rw [List.getElem?_append_right (by rw [lenX S1, ← hnb]; exact Nat.le_refl _), lenX S1, ← hnb, Nat.sub_self]; rfl
      refine ⟨found, A1, whileD_stop (tcmp_ok (d := .ref nb) (e := .lst []) (A1 := A1 ++ X ++ [.lst [], .lst (found.map D.str)]) (A2 := A1 ++ X ++ [.lst [], .lst (found.map D.str)]) rfl (args_ok (ds := []) rfl rfl) ?_), by rw [List.append_nil] at hp; exact hp, S1.le (by simp at hlen; omega)⟩
      exact (gNe_num g (by intro d hd; cases hd)).trans rfl
    | succ m ih =>
      intro rest found A1 N hr hN hlen hp S1
      obtain ⟨N, rfl⟩ : ∃ M, N = M + 1 := ⟨N - 1, by omega⟩
      have g : (A1 ++ X ++ [M.lst (rest.map D.str), .lst (found.map D.str)])[nb]? = some (.lst (rest.map D.str)) := by rw [List.getElem?_append_right (by rw [lenX S1, ← hnb]; exact Nat.le_refl _), lenX S1, ← hnb, Nat.sub_self]; rfl
      have hrest : ∀ y ∈ rest, y ∈ xs := fun y h => hp.mem_iff.mp (List.mem_append_right _ h)
      obtain ⟨r, A2, e, r0, r1, S2⟩ := nextX (X := X) [M.lst (rest.map D.str), .lst (found.map D.str)] (m := (m + 1 : Nat)) S1 (by omega) (by omega) (by omega)
      have hrl : r.toNat < rest.length := by omega
      have g2 : (A2 ++ X ++ [M.lst (rest.map D.str), .lst (found.map D.str)])[nb]? = some (.lst (rest.map D.str)) := by rw [List.getElem?_append_right (by rw [lenX S2, ← hnb]; exact Nat.le_refl _), lenX S2, ← hnb, Nat.sub_self]; rfl
      have u1 : (A2 ++ X ++ [M.lst (rest.map D.str), .lst (found.map D.str)]).set nb (.lst ((rest.map D.str).eraseIdx r.toNat)) = A2 ++ X ++ [M.lst ((rest.eraseIdx r.toNat).map D.str), .lst (found.map D.str)] := by
        rw [List.set_append_right _ _ (by rw [lenX S2, ← hnb]; exact Nat.le_refl _), lenX S2, ← hnb, Nat.sub_self, map_erase]
        rfl
      have g3 : (A2 ++ X ++ [M.lst ((rest.eraseIdx r.toNat).map D.str), .lst (found.map D.str)])[nb + 1]? = some (.lst (found.map D.str)) := by rw [List.getElem?_append_right (by rw [lenX S2, ← hnb]; omega), lenX S2, ← hnb, show nb + 1 - nb = 1 by omega]; rfl
      have u2 : (A2 ++ X ++ [M.lst ((rest.eraseIdx r.toNat).map D.str), .lst (found.map D.str)]).set (nb + 1) (.lst (found.map D.str ++ [.str rest[r.toNat]])) = A2 ++ X ++ [M.lst ((rest.eraseIdx r.toNat).map D.str), .lst ((found ++ [rest[r.toNat]]).map D.str)] := by
        rw [List.set_append_right _ _ (by rw [lenX S2, ← hnb]; omega), lenX S2, ← hnb, show nb + 1 - nb = 1 by omega, List.map_append]
        rfl
      let ro : DV.Env := [some (.ref k), some (.lst (xs.map D.str)), some (.ref nb), some (.ref (nb + 1))]
      have hpop : eMeth isL gPopAt (eVar 2) (aCons (eArgs (fun ds A => F__law_next (ds ++ []) A) (aCons (eVar 0) (aCons (eArgs gLen (aCons (eVar 2) aNil)) aNil))) aNil) ro (A1 ++ X ++ [.lst (rest.map D.str), .lst (found.map D.str)]) = .ok (.str rest[r.toNat]) (A2 ++ X ++ [M.lst ((rest.eraseIdx r.toNat).map D.str), .lst (found.map D.str)]) := by
        have e1 : eArgs gLen (aCons (eVar 2) aNil) ro (A1 ++ X ++ [.lst (rest.map D.str), .lst (found.map D.str)]) = .ok (.int (m + 1 : Nat)) (A1 ++ X ++ [.lst (rest.map D.str), .lst (found.map D.str)]) := args1_ok (d := .ref nb) rfl (by
          unfold gLen asQ asR asL
          simp only [g]
          rw [List.length_map, hr])
        have e2 : eArgs (fun ds A => F__law_next (ds ++ []) A) (aCons (eVar 0) (aCons (eArgs gLen (aCons (eVar 2) aNil)) aNil)) ro (A1 ++ X ++ [.lst (rest.map D.str), .lst (found.map D.str)]) = .ok (.int r) (A2 ++ X ++ [.lst (rest.map D.str), .lst (found.map D.str)]) := args2_ok (d := .ref k) rfl e1 e
        unfold eMeth
        rw [show eVar 2 ro (A1 ++ X ++ [.lst (rest.map D.str), .lst (found.map D.str)]) = .ok (.ref nb) (A1 ++ X ++ [.lst (rest.map D.str), .lst (found.map D.str)]) from rfl, R.bind_ok]
        have il : isL (A1 ++ X ++ [.lst (rest.map D.str), .lst (found.map D.str)]) (.ref nb) = true := by
          unfold isL asR asL
          simp only [g]
          rfl
        rw [if_pos il, acons_ok e2 (show aNil ro _ = .ok [] _ from rfl), R.bind_ok]
        unfold gPopAt numL
        simp only [g2]
        have hg : (rest.map D.str)[r.toNat]? = some (.str rest[r.toNat]) := by rw [List.getElem?_map, List.getElem?_eq_getElem hrl]; rfl
        rw [if_pos ⟨r0, by omega⟩, hg]
        show R.ok _ _ = _
        rw [u1]
      have happ : eMeth isL gAppend (eVar 3) (aCons (eMeth isL gPopAt (eVar 2) (aCons (eArgs (fun ds A => F__law_next (ds ++ []) A) (aCons (eVar 0) (aCons (eArgs gLen (aCons (eVar 2) aNil)) aNil))) aNil)) aNil) ro (A1 ++ X ++ [.lst (rest.map D.str), .lst (found.map D.str)]) = .ok .non (A2 ++ X ++ [M.lst ((rest.eraseIdx r.toNat).map D.str), .lst ((found ++ [rest[r.toNat]]).map D.str)]) := by
        unfold eMeth at hpop ⊢
        rw [show eVar 3 ro (A1 ++ X ++ [.lst (rest.map D.str), .lst (found.map D.str)]) = .ok (.ref (nb + 1)) (A1 ++ X ++ [.lst (rest.map D.str), .lst (found.map D.str)]) from rfl, R.bind_ok]
        have g' : (A1 ++ X ++ [M.lst (rest.map D.str), .lst (found.map D.str)])[nb + 1]? = some (.lst (found.map D.str)) := by rw [List.getElem?_append_right (by rw [lenX S1, ← hnb]; omega), lenX S1, ← hnb, show nb + 1 - nb = 1 by omega]; rfl
        have il : isL (A1 ++ X ++ [.lst (rest.map D.str), .lst (found.map D.str)]) (.ref (nb + 1)) = true := by
          unfold isL asR asL
          simp only [g']
          rfl
        rw [if_pos il, acons_ok hpop (show aNil ro _ = .ok [] _ from rfl), R.bind_ok]
        unfold gAppend numL
        simp only [g3]
        rw [if_pos (by rw [List.length_map]; omega), u2]
      have hlr : (rest.eraseIdx r.toNat).length = m := by rw [List.length_eraseIdx_of_lt hrl, hr]; omega
      obtain ⟨ys, A3, e3, p3, S3⟩ := ih (rest.eraseIdx r.toNat) (found ++ [rest[r.toNat]]) A2 N hlr (by omega) (by rw [List.length_append, hlr]; simp; omega) (by
        refine List.Perm.trans ?_ hp
        rw [List.append_assoc]
        refine List.Perm.append_left _ ?_
        exact perm_erase rest r.toNat hrl) (S2.le (by rw [List.length_append]; simp; omega))
      refine ⟨ys, A3, whileD_step (A1 := A1 ++ X ++ [.lst (rest.map D.str), .lst (found.map D.str)]) (tcmp_ok (d := .ref nb) (e := .lst []) (A1 := A1 ++ X ++ [.lst (rest.map D.str), .lst (found.map D.str)]) (A2 := A1 ++ X ++ [.lst (rest.map D.str), .lst (found.map D.str)]) rfl (args_ok (ds := []) rfl rfl) ((gNe_num g (lay rest hrest)).trans ?_)) ?_ e3, p3, S3⟩
      · cases rest with
        | nil => cases hr
        | cons _ _ => rfl
      · unfold sEx
        rw [happ]
        rfl
  obtain ⟨ys, A2, e, p, S2⟩ := loop xs.length xs [] A 200 rfl (by omega) (by simp) (by simp) (S.le (by simp))
  refine ⟨ys, A2, ?_, p, S2⟩
  show finR (A ++ X) (b__law_mixed [some (.ref k), some (.lst (xs.map D.str)), none, none] (A ++ X)) = _
  have par : sPar (aCons (eArgs gListM (aCons (eVar 1) aNil)) (aCons (eArgs gLstM aNil) aNil)) [2, 3] [some (.ref k), some (.lst (xs.map D.str)), none, none] (A ++ X) = .go .nx [some (.ref k), some (.lst (xs.map D.str)), some (.ref nb), some (.ref (nb + 1))] (A ++ X ++ [.lst (xs.map D.str), .lst []]) := by
    have a1 : eArgs gListM (aCons (eVar 1) aNil) [some (.ref k), some (.lst (xs.map D.str)), none, none] (A ++ X) = .ok (.ref nb) (A ++ X ++ [.lst (xs.map D.str)]) := args1_ok (A1 := A ++ X) (d := .lst (xs.map D.str)) rfl (by
      show R.ok (D.ref (A ++ X).length) (A ++ X ++ [.lst (xs.map D.str)]) = _
      rw [lenX S, ← hnb])
    have a2 : eArgs gLstM aNil [some (.ref k), some (.lst (xs.map D.str)), none, none] (A ++ X ++ [.lst (xs.map D.str)]) = .ok (.ref (nb + 1)) ((A ++ X ++ [.lst (xs.map D.str)]) ++ [.lst []]) := args_ok (ds := []) (A1 := A ++ X ++ [.lst (xs.map D.str)]) rfl (by
      show R.ok (D.ref (A ++ X ++ [M.lst (xs.map D.str)]).length) _ = _
      rw [List.length_append, lenX S, ← hnb]
      rfl)
    unfold sPar
    rw [acons_ok a1 (acons_ok a2 (show aNil _ _ = .ok [] _ from rfl))]
    rw [List.append_assoc (A ++ X)]
    rfl
  unfold b__law_mixed
  have body := sseq_ok par (sseq_ok e (sret_ok (a := eVar 3) (d := .ref (nb + 1)) (A1 := A2 ++ X ++ [.lst [], .lst (ys.map D.str)]) rfl))
  rw [body]
  show cutR (A ++ X) (.ref (nb + 1)) (A2 ++ X ++ [.lst [], .lst (ys.map D.str)]) = _
  have := cut_ref (A := A ++ X) (A1 := A2 ++ X) (X := [.lst [], .lst (ys.map D.str)]) (j := 1) (ds := ys.map D.str) (by rw [lenX S, lenX S2]) (fun m hm => (List.mem_append.mp hm).elim (fun w => S2.low m w _) fun w => hX m w _) rfl (strs_lt _ _)
  rw [lenX S, ← hnb] at this
  exact this
end K05

set_option Elab.async false
set_option linter.all false
set_option maxRecDepth 100000
namespace K05
open PySem PySem.Spec PyProof.Rows L2 DV
theorem tor_f {t u : TF} {A A1 A3 : Hd} {ro : DV.Env} {w : Bool} (h1 : t ro A = .ok false A1) (h2 : u ro A1 = .ok w A3) : tOrD t u ro A = .ok w A3 := tor_ok h1 h2
theorem tor_t {t u : TF} {A A1 : Hd} {ro : DV.Env} (h1 : t ro A = .ok true A1) : tOrD t u ro A = .ok true A1 := tor_ok h1 rfl
/-- a comprehension that keeps some of the items, by drawn tests -/
theorem compD_sub {s : Src} {pt : Pat} {vs : List Nat} {tt : TF} {te : EF} {ro : DV.Env} {I : Nat → Hd → Prop} (hs : ∀ i A, I i A → s.here A) : ∀ (ds acc : List D) (i : Nat) (A : Hd), acc.length + ds.length ≤ sizeLine → I i A →
    (∀ j d A, ds[j]? = some d → I (i + j) A → ∃ ro1, pt.put d (wipeD ro vs) = some ro1 ∧ ∃ b A1, tt ro1 A = .ok b A1 ∧ I (i + j + 1) A1 ∧ te ro1 A1 = .ok d A1) →
    ∃ ys A', compD s pt vs tt te ro ds acc A = .ok (acc ++ ys) A' ∧ I (i + ds.length) A' ∧ ys.Sublist ds
  | [], acc, i, A, _, h, _ => ⟨[], A, by unfold compD; rw [if_pos (hs i A h), List.append_nil], h, List.Sublist.refl _⟩
  | d :: ds, acc, i, A, hl, h, st => by
    obtain ⟨ro1, e1, b, A1, e2, h1, h2⟩ := st 0 d A rfl h
    rw [List.length_cons] at hl
    have nx : ∀ j d A, ds[j]? = some d → I (i + 1 + j) A → ∃ ro1, pt.put d (wipeD ro vs) = some ro1 ∧ ∃ b A1, tt ro1 A = .ok b A1 ∧ I (i + 1 + j + 1) A1 ∧ te ro1 A1 = .ok d A1 := fun j d' A hd hI => by
      have := st (j + 1) d' A (by simpa using hd) (by rw [show i + (j + 1) = i + 1 + j by omega]; exact hI)
      rw [show i + (j + 1) + 1 = i + 1 + j + 1 by omega] at this
      exact this
    unfold compD
    rw [if_pos (hs i A h), e1]
    simp only [e2, calm_ok, R.bind_ok]
    cases b with
    | true =>
      obtain ⟨ys, A', q1, q2, q3⟩ := compD_sub hs ds (acc ++ [d]) (i + 1) A1 (by rw [List.length_append]; simp; omega) h1 nx
      refine ⟨d :: ys, A', ?_, by rw [List.length_cons, show i + (ds.length + 1) = i + 1 + ds.length by omega]; exact q2, q3.cons₂ d⟩
      rw [if_pos rfl, h2, calm_ok, R.bind_ok, if_pos (by omega), q1, List.append_assoc]
      rfl
    | false =>
      obtain ⟨ys, A', q1, q2, q3⟩ := compD_sub hs ds acc (i + 1) A1 (by omega) h1 nx
      refine ⟨ys, A', ?_, by rw [List.length_cons, show i + (ds.length + 1) = i + 1 + ds.length by omega]; exact q2, q3.cons d⟩
      rw [if_neg (by simp), q1]
theorem step_okL {i : Nat} {d : D} {ro0 ro : DV.Env} {A : Hd} {b : SF} {o : Out} (h : b ro A = o) (e : ro0.set i (some d) = ro := by rfl) : (gNm i d ro0 A).out.next b = o := by subst e; exact h
def names8 : List Str := ["a", "b", "c", "d", "node", "f", "box", "h"]
theorem sub_strs {xs : List Str} {ys : List D} (h : ys.Sublist (xs.map D.str)) : ∃ zs : List Str, ys = zs.map D.str ∧ zs.Sublist xs := by
  obtain ⟨zs, h1, h2⟩ := List.sublist_map_iff.mp h
  exact ⟨zs, h2, h1⟩
/-- a row of the law: different names of the eight -/
def rowOf (r : List Str) : Prop := ∃ p : List Str, p.Perm names8 ∧ r.Sublist p
theorem rowOf_mem {r : List Str} (h : rowOf r) : r.Nodup ∧ (∀ x ∈ r, x ∈ names8) ∧ r.length ≤ 8 := by
  obtain ⟨p, hp, hs⟩ := h
  have nd : names8.Nodup := by decide +kernel
  exact ⟨(hp.nodup_iff.mpr nd).sublist hs, fun x hx => hp.mem_iff.mp (hs.subset hx), Nat.le_trans hs.length_le (Nat.le_of_eq hp.length_eq)⟩
theorem low_row (r : List Str) (z : Nat) : D.lt z (rowD r) = true := by
  unfold rowD D.lt
  exact strs_lt z r
theorem low_rows : ∀ (rs : List (List Str)) (z : Nat), D.lts z (rs.map rowD) = true
  | [], _ => by simp [D.lts]
  | r :: rs, z => by
    rw [List.map_cons]
    unfold D.lts
    rw [low_row, low_rows rs z]
    rfl
theorem cut_sub (ds : List D) (lo hi : Option Int) : (DV.cutD ds lo hi).Sublist ds := (List.take_sublist _ _).trans (List.drop_sublist _ _)
theorem rowsN {n k : Nat} {A : Hd} {T : Int} {many most : Nat} (free : Bool) (S : SN n k A T) (hT : T + 400 ≤ 2 ^ 40) (hm : many ≤ 10) (hm2 : most ≤ 10) : ∃ (rs : List (List Str)) (A' : Hd), F__law_name_rows [.ref k, .int many, .int most, .bl free] A = .ok (.lst (rs.map rowD)) A' ∧ (∀ r ∈ rs, rowOf r) ∧ rs.length = many ∧ SN n k A' (T + 200) := by
  have z := sz1000
  have lay8 : names8.all laid = true := by decide +kernel
  have l8 : ∀ (ro : DV.Env) (A : Hd), eArgs gLstD (aCons (eC (.str "a")) (aCons (eC (.str "b")) (aCons (eC (.str "c")) (aCons (eC (.str "d")) (aCons (eC (.str "node")) (aCons (eC (.str "f")) (aCons (eC (.str "box")) (aCons (eC (.str "h")) aNil)))))))) ro A = .ok (.lst (names8.map D.str)) A := fun ro A => args_ok (A1 := A) (ds := names8.map D.str) rfl (by unfold gLstD; rw [if_pos (by show 8 ≤ sizeLine; omega)])
  obtain ⟨ys, A1, e1, p1, S1⟩ := mixN (X := []) (by intro m hm; cases hm) S (by omega) (by decide) lay8
  rw [List.append_nil, List.append_nil] at e1
  have S1 : SN n k A1 (T + 8) := S1
  let ro0 : DV.Env := [some (.ref k), some (.int many), some (.int most), some (.bl free), none, none, none, none, none]
  have ecut : eCut (eArgs (fun ds A => F__law_mixed (ds ++ []) A) (aCons (eVar 0) (aCons (eArgs gLstD (aCons (eC (.str "a")) (aCons (eC (.str "b")) (aCons (eC (.str "c")) (aCons (eC (.str "d")) (aCons (eC (.str "node")) (aCons (eC (.str "f")) (aCons (eC (.str "box")) (aCons (eC (.str "h")) aNil))))))))) aNil))) oNone (oSome (eVar 2)) ro0 A = .ok (.lst (DV.cutD (ys.map D.str) none (some (most : Int)))) A1 := by
    have ea : eArgs (fun ds A => F__law_mixed (ds ++ []) A) (aCons (eVar 0) (aCons (eArgs gLstD (aCons (eC (.str "a")) (aCons (eC (.str "b")) (aCons (eC (.str "c")) (aCons (eC (.str "d")) (aCons (eC (.str "node")) (aCons (eC (.str "f")) (aCons (eC (.str "box")) (aCons (eC (.str "h")) aNil))))))))) aNil)) ro0 A = .ok (.lst (ys.map D.str)) A1 := args2_ok (d := .ref k) (A1 := A) rfl (l8 _ _) e1
    unfold eCut
    rw [ea]
    rfl
  obtain ⟨ws, hws, sws⟩ := sub_strs (cut_sub (ys.map D.str) none (some (most : Int)))
  rw [hws] at ecut
  have wsrow : rowOf ws := ⟨ys, p1, sws⟩
  obtain ⟨_, wmem, wlen⟩ := rowOf_mem wsrow
  have wlay : ws.all laid = true := List.all_eq_true.mpr fun x hx => List.all_eq_true.mp lay8 x (wmem x hx)
  have par : sPar (aCons (eCut (eArgs (fun ds A => F__law_mixed (ds ++ []) A) (aCons (eVar 0) (aCons (eArgs gLstD (aCons (eC (.str "a")) (aCons (eC (.str "b")) (aCons (eC (.str "c")) (aCons (eC (.str "d")) (aCons (eC (.str "node")) (aCons (eC (.str "f")) (aCons (eC (.str "box")) (aCons (eC (.str "h")) aNil))))))))) aNil))) oNone (oSome (eVar 2))) (aCons (eArgs gLstM aNil) aNil)) [4, 5] ro0 A = .go .nx [some (.ref k), some (.int many), some (.int most), some (.bl free), some (.lst (ws.map D.str)), some (.ref n), none, none, none] (A1 ++ [.lst []]) := by
    have a2 : eArgs gLstM aNil ro0 A1 = .ok (.ref n) (A1 ++ [.lst []]) := args_ok (ds := []) (A1 := A1) rfl (by
      show R.ok (D.ref A1.length) _ = _
      rw [S1.len])
    unfold sPar
    rw [acons_ok ecut (acons_ok a2 (show aNil _ _ = .ok [] _ from rfl))]
    rfl
  -- the rows
  obtain ⟨ro2, A2, e2, rs, A3, t6, t7, t8, rfl, rfl, hrs, lrs, S3⟩ := forD_run (s := .fix (rangeD 0 many)) (g := gNm 6)
    (b := sSeq (sAsg (eIf (tOrD (tNotD (tOfE (eVar 3))) (tCmpD gEq (eArgs (fun ds A => F__law_next (ds ++ []) A) (aCons (eVar 0) (aCons (eC (.int 2)) aNil))) (eC (.int 0)))) (eVar 4) (eArgs (fun ds A => F__law_mixed (ds ++ []) A) (aCons (eVar 0) (aCons (eVar 4) aNil)))) (gNm 7))
      (sEx (eMeth isL gAppend (eVar 5) (aCons (eArgs gTuple (aCons (eComp (iSeq (eVar 7)) (.one 8) [8] (tCmpD gGt (eArgs (fun ds A => F__law_next (ds ++ []) A) (aCons (eVar 0) (aCons (eC (.int 3)) aNil))) (eC (.int 0))) (eVar 8)) aNil)) aNil))))
    (I := fun i ro A' => ∃ (rs : List (List Str)) (A3 : Hd) (t6 t7 t8 : Option D), ro = [some (.ref k), some (.int many), some (.int most), some (.bl free), some (.lst (ws.map D.str)), some (.ref n), t6, t7, t8] ∧ A' = A3 ++ [M.lst (rs.map rowD)] ∧ (∀ r ∈ rs, rowOf r) ∧ rs.length = i ∧ SN n k A3 (T + 8 + 18 * (i : Nat)))
    (fun _ _ A _ => here_fix _ A) (rangeD 0 many) 0 [some (.ref k), some (.int many), some (.int most), some (.bl free), some (.lst (ws.map D.str)), some (.ref n), none, none, none] (A1 ++ [.lst []]) ⟨[], A1, none, none, none, rfl, rfl, (by intro r hr; cases hr), rfl, S1.le (by omega)⟩ (by
      rintro j d ro A' hd ⟨rs, A3, t6, t7, t8, rfl, rfl, hrs, lrs, S3⟩
      have hj : j < many := by
        have := (List.getElem?_eq_some_iff.mp hd).1
        simpa [rangeD] using this
      have lowX : ∀ m ∈ [M.lst (rs.map rowD)], ∀ z, M.lt z m = true := fun m hm z => by
        rw [List.mem_singleton.mp hm]
        exact low_rows rs z
      let ro6 : DV.Env := [some (.ref k), some (.int many), some (.int most), some (.bl free), some (.lst (ws.map D.str)), some (.ref n), some d, t7, t8]
      obtain ⟨r, A4, g1, r0, r1, S4⟩ := nextN (X := [M.lst (rs.map rowD)]) (m := 2) S3 (by omega) (by omega) (by omega)
      have test : free = true → tOrD (tNotD (tOfE (eVar 3))) (tCmpD gEq (eArgs (fun ds A => F__law_next (ds ++ []) A) (aCons (eVar 0) (aCons (eC (.int 2)) aNil))) (eC (.int 0))) ro6 (A3 ++ [M.lst (rs.map rowD)]) = .ok (decide (r = 0)) (A4 ++ [M.lst (rs.map rowD)]) := fun hf => by
        subst hf
        exact tor_f (tnot_ok (z := true) (A1 := A3 ++ [M.lst (rs.map rowD)]) (trub_ok rfl)) (tcmp_ok (d := .int r) (args2_ok (d := .ref k) (e := .int 2) (A1 := A3 ++ [M.lst (rs.map rowD)]) (A2 := A3 ++ [M.lst (rs.map rowD)]) rfl rfl g1) rfl (gEq_int _ _ _))
      have some7 : ∃ (qs : List Str) (A5 : Hd), eIf (tOrD (tNotD (tOfE (eVar 3))) (tCmpD gEq (eArgs (fun ds A => F__law_next (ds ++ []) A) (aCons (eVar 0) (aCons (eC (.int 2)) aNil))) (eC (.int 0)))) (eVar 4) (eArgs (fun ds A => F__law_mixed (ds ++ []) A) (aCons (eVar 0) (aCons (eVar 4) aNil))) ro6 (A3 ++ [M.lst (rs.map rowD)]) = .ok (.lst (qs.map D.str)) (A5 ++ [M.lst (rs.map rowD)]) ∧ rowOf qs ∧ SN n k A5 (T + 8 + 18 * ((0 + j : Nat) : Int) + 9) := by
        cases free with
        | false => exact ⟨ws, A3, if_ok (z := true) (A1 := A3 ++ [M.lst (rs.map rowD)]) (tor_t (tnot_ok (z := false) (A1 := A3 ++ [M.lst (rs.map rowD)]) (trub_ok rfl))) rfl, wsrow, S3.le (by omega)⟩
        | true =>
        have test := test rfl
        by_cases q : r = 0
        · refine ⟨ws, A4, if_ok (z := true) (test.trans (by rw [decide_eq_true q])) rfl, wsrow, S4.le (by omega)⟩
        · obtain ⟨qs, A5, g2, p2, S5⟩ := mixN [M.lst (rs.map rowD)] lowX S4 (by omega) (by omega) wlay
          have g2' : eArgs (fun ds A => F__law_mixed (ds ++ []) A) (aCons (eVar 0) (aCons (eVar 4) aNil)) ro6 (A4 ++ [M.lst (rs.map rowD)]) = .ok (.lst (qs.map D.str)) (A5 ++ [M.lst (rs.map rowD)]) := args2_ok (d := .ref k) (e := .lst (ws.map D.str)) (A1 := A4 ++ [M.lst (rs.map rowD)]) (A2 := A4 ++ [M.lst (rs.map rowD)]) rfl rfl g2
          refine ⟨qs, A5, if_ok (z := false) (test.trans (by rw [decide_eq_false q])) g2', ?_, S5.le (by omega)⟩
          obtain ⟨p, hp, hs⟩ := wsrow
          -- a permutation of a part of the names
          obtain ⟨rest, hrest⟩ : ∃ rest, p.Perm (ws ++ rest) := hs.exists_perm_append
          exact ⟨qs ++ rest, ((p2.append_right rest).trans hrest.symm).trans hp, List.sublist_append_left _ _⟩
      obtain ⟨qs, A5, g2, rq, S5⟩ := some7
      obtain ⟨_, _, ql⟩ := rowOf_mem rq
      let ro7 : DV.Env := [some (.ref k), some (.int many), some (.int most), some (.bl free), some (.lst (ws.map D.str)), some (.ref n), some d, some (.lst (qs.map D.str)), t8]
      obtain ⟨zs, A6, g3, ⟨A7, rfl, S7⟩, sub⟩ := compD_sub (s := .fix (qs.map D.str)) (pt := .one 8) (vs := [8]) (tt := tCmpD gGt (eArgs (fun ds A => F__law_next (ds ++ []) A) (aCons (eVar 0) (aCons (eC (.int 3)) aNil))) (eC (.int 0))) (te := eVar 8) (ro := ro7) (I := fun i A' => ∃ A7, A' = A7 ++ [M.lst (rs.map rowD)] ∧ SN n k A7 (T + 8 + 18 * ((0 + j : Nat) : Int) + 9 + (i : Nat)))
        (fun _ A _ => here_fix _ A) (qs.map D.str) [] 0 (A5 ++ [M.lst (rs.map rowD)]) (by simp; omega) ⟨A5, rfl, S5.le (by omega)⟩ (by
          rintro i x A' hx ⟨A7, rfl, S7⟩
          have hi : i < 8 := by
            have := (List.getElem?_eq_some_iff.mp hx).1
            rw [List.length_map] at this
            omega
          obtain ⟨r, A8, g4, r0, r1, S8⟩ := nextN (X := [M.lst (rs.map rowD)]) (m := 3) S7 (by omega) (by omega) (by omega)
          refine ⟨_, rfl, decide (0 < r), A8 ++ [M.lst (rs.map rowD)], ?_, ⟨A8, rfl, S8.le (by omega)⟩, rfl⟩
          exact tcmp_ok (d := .int r) (args2_ok (d := .ref k) (e := .int 3) (A1 := A7 ++ [M.lst (rs.map rowD)]) (A2 := A7 ++ [M.lst (rs.map rowD)]) rfl rfl g4) rfl rfl)
      rw [List.nil_append] at g3
      obtain ⟨vs, rfl, sv⟩ := sub_strs sub
      have rv : rowOf vs := by
        obtain ⟨p, hp, hs⟩ := rq
        exact ⟨p, hp, sv.trans hs⟩
      have g5 : eArgs gTuple (aCons (eComp (iSeq (eVar 7)) (.one 8) [8] (tCmpD gGt (eArgs (fun ds A => F__law_next (ds ++ []) A) (aCons (eVar 0) (aCons (eC (.int 3)) aNil))) (eC (.int 0))) (eVar 8)) aNil) ro7 (A5 ++ [M.lst (rs.map rowD)]) = .ok (rowD vs) (A7 ++ [M.lst (rs.map rowD)]) := args1_ok (comp_ok (seq_ok rfl rfl) g3) rfl
      have gx : (A7 ++ [M.lst (rs.map rowD)])[n]? = some (.lst (rs.map rowD)) := by rw [List.getElem?_append_right (by rw [S7.len]; exact Nat.le_refl _), S7.len, Nat.sub_self]; rfl
      have gy : (A5 ++ [M.lst (rs.map rowD)])[n]? = some (.lst (rs.map rowD)) := by rw [List.getElem?_append_right (by rw [S5.len]; exact Nat.le_refl _), S5.len, Nat.sub_self]; rfl
      have happ : eMeth isL gAppend (eVar 5) (aCons (eArgs gTuple (aCons (eComp (iSeq (eVar 7)) (.one 8) [8] (tCmpD gGt (eArgs (fun ds A => F__law_next (ds ++ []) A) (aCons (eVar 0) (aCons (eC (.int 3)) aNil))) (eC (.int 0))) (eVar 8)) aNil)) aNil) ro7 (A5 ++ [M.lst (rs.map rowD)]) = .ok .non (A7 ++ [M.lst ((rs ++ [vs]).map rowD)]) := by
        unfold eMeth
        rw [show eVar 5 ro7 (A5 ++ [M.lst (rs.map rowD)]) = .ok (.ref n) (A5 ++ [M.lst (rs.map rowD)]) from rfl, R.bind_ok]
        have il : isL (A5 ++ [M.lst (rs.map rowD)]) (.ref n) = true := by
          unfold isL asR asL
          simp only [gy]
          rfl
        rw [if_pos il, acons_ok g5 (show aNil ro7 _ = .ok [] _ from rfl), R.bind_ok]
        unfold gAppend numL
        simp only [gx]
        rw [if_pos (by rw [List.length_map]; omega), List.set_append_right _ _ (by rw [S7.len]; exact Nat.le_refl _), S7.len, Nat.sub_self, List.map_append]
        rfl
      refine ⟨ro7, A7 ++ [M.lst ((rs ++ [vs]).map rowD)], ?_, rs ++ [vs], A7, _, _, _, rfl, rfl, ?_, by rw [List.length_append, lrs]; rfl, S7.le (by rw [List.length_map]; omega)⟩
      · refine step_okL (ro := ro6) ?_
        refine sseq_ok (ro' := ro7) (sasg_ok g2) ?_
        unfold sEx
        rw [happ]
        rfl
      · intro r hr
        rcases List.mem_append.mp hr with w | w
        · exact hrs r w
        · rw [List.mem_singleton.mp w]; exact rv)
  have lm : (rangeD 0 many).length = many := by simp [rangeD]
  rw [lm, Nat.zero_add] at lrs
  rw [lm, Nat.zero_add] at S3
  refine ⟨rs, A3, ?_, hrs, lrs, S3.le (by omega)⟩
  show finR A (b__law_name_rows ro0 A) = _
  unfold b__law_name_rows
  have rn := rng_ok (a := eVar 1) (ro := [some (.ref k), some (.int many), some (.int most), some (.bl free), some (.lst (ws.map D.str)), some (.ref n), none, none, none]) (A := A1 ++ [.lst []]) (A1 := A1 ++ [.lst []]) (n := many) rfl (by omega) (by omega)
  have body := sseq_ok par (sseq_ok (sfor_ok rn e2) (sret_ok (a := eVar 5) (d := .ref n) (A1 := A3 ++ [M.lst (rs.map rowD)]) rfl))
  rw [body]
  show cutR A (.ref n) (A3 ++ [M.lst (rs.map rowD)]) = _
  have := cut_ref (A := A) (A1 := A3) (X := [M.lst (rs.map rowD)]) (j := 0) (ds := rs.map rowD) (by rw [S.len, S3.len]) (S3.ml _) rfl (low_rows _ _)
  rw [S.len] at this
  exact this
end K05

set_option Elab.async false
set_option linter.all false
set_option maxRecDepth 100000
namespace K05
open PySem PySem.Spec PyProof.Rows L2 DV
/-! ### lists of texts as data -/
def listD (r : List Str) : D := .lst (r.map D.str)
theorem strs_lay : ∀ {r : List Str}, r.all laid = true → ∃ ps, toPs (r.map D.str) = some ps ∧ PyData.canLayAll0 ps = true ∧ PyData.depthAll ps = 0
  | [], _ => ⟨[], rfl, rfl, rfl⟩
  | x :: r, h => by
    rw [List.all_cons, Bool.and_eq_true] at h
    obtain ⟨ps, h1, h2, h3⟩ := strs_lay h.2
    refine ⟨.str x :: ps, ?_, ?_, ?_⟩
    · rw [List.map_cons]
      unfold toPs
      rw [h1]
      simp [toP]
    · unfold PyData.canLayAll0
      rw [h2, show PyData.canLay0 (.str x) = true from h.1]
      rfl
    · unfold PyData.depthAll
      rw [h3]
      rfl
theorem lay_listD {r : List Str} (h : r.all laid = true) : layD (listD r) = true := by
  obtain ⟨ps, h1, h2, h3⟩ := strs_lay h
  have e : toP (listD r) = some (.list ps) := by
    unfold listD toP
    rw [h1]
  unfold layD
  rw [e]
  have d1 : PyData.depth (.list ps) = PyData.depthAll ps + 1 := by
    first | rfl | (unfold PyData.depth; omega)
  show (PyData.canLay0 (.list ps) && decide (PyData.depth (.list ps) ≤ 50)) = true
  rw [d1, h3]
  unfold PyData.canLay0
  rw [h2]
  rfl
theorem lay_strs {r : List Str} (h : r.all laid = true) : ∀ d ∈ r.map D.str, layD d = true := fun d hd => by
  obtain ⟨y, hy, rfl⟩ := List.mem_map.mp hd
  exact layD_str (List.all_eq_true.mp h y hy)
theorem flat_strs (r : List Str) : (r.map D.str).all flatD = true := by
  rw [List.all_map]
  exact List.all_eq_true.mpr fun _ _ => rfl
theorem in_list (x : Str) (r : List Str) (A : Hd) : gIn (.str x) (listD r) A = .ok (.bl (decide (x ∈ r))) A := by
  have e : inP (.str x) (listD r) A = some (decide (x ∈ r)) := by
    show (if flatD (.str x) = true ∧ (r.map D.str).all flatD = true then some (memF (.str x) (r.map D.str)) else none) = _
    rw [if_pos ⟨rfl, flat_strs r⟩]
    congr 1
    unfold memF
    rw [List.any_map]
    induction r with
    | nil => rfl
    | cons a r ih =>
      rw [List.any_cons, ih]
      by_cases q : a = x
      · subst q
        simp [eqF]
      · have q2 : ¬ x = a := fun z => q z.symm
        simp [eqF, q, q2]
  unfold gIn
  rw [e]
/-- what the law's tests say of a row -/
def someD (d : D) : Bool := match d with
  | .lst xs => !xs.isEmpty
  | _ => false
def headD (d : D) : D := match d with
  | .lst (x :: _) => x
  | _ => .non
theorem heads_D : ∀ ls : List (List Str), ((ls.map listD).filter someD).map headD = (Mg.headsOf ls).map D.str
  | [] => rfl
  | [] :: ls => heads_D ls
  | (x :: l) :: ls => by
    have ih := heads_D ls
    simpa [Mg.headsOf, listD, someD, headD] using ih
theorem filter_listD (p : List Str → Bool) (q : D → Bool) (h : ∀ r, q (listD r) = p r) (ls : List (List Str)) : (ls.map listD).filter q = (ls.filter p).map listD := by
  rw [List.filter_map]
  congr 1
  exact List.filter_congr fun r _ => h r
theorem cut_listD (r : List Str) : DV.cutD (r.map D.str) (some 1) none = r.tail.map D.str := by
  have e : ∀ n : Nat, HT.sIx n 0 (some 1) = min 1 n := fun n => by
    unfold HT.sIx
    simp
  have e2 : ∀ n : Nat, HT.sIx n n none = n := fun n => rfl
  unfold DV.cutD
  rw [e, e2]
  cases r with
  | nil => rfl
  | cons a r =>
    simp
    exact List.take_of_length_le (by rw [List.length_map]; exact Nat.le_refl _)
end K05

set_option Elab.async false
set_option linter.all false
set_option maxRecDepth 100000
namespace K05
open PySem PySem.Spec PyProof.Rows L2 DV
/-- lists of different names -/
structure Fine (ls : List (List Str)) : Prop where
  nd : ∀ l ∈ ls, l.Nodup
  lay : ∀ l ∈ ls, l.all laid = true
  cnt : ls.length ≤ 10
  len : ∀ l ∈ ls, l.length ≤ 8
theorem drop_sub (g : Str) (l : List Str) : (Mg.dropHead g l).Sublist l := by
  unfold Mg.dropHead
  split
  · exact List.tail_sublist _
  · exact List.Sublist.refl _
theorem Fine.step {ls : List (List Str)} (h : Fine ls) (g : Str) : Fine (Mg.step ls g) := by
  refine ⟨Mg.step_nodup h.nd, fun l hl => ?_, by unfold Mg.step; rw [List.length_map]; exact h.cnt, fun l hl => ?_⟩
  · obtain ⟨l0, h0, rfl⟩ := List.mem_map.mp hl
    exact List.all_eq_true.mpr fun x hx => List.all_eq_true.mp (h.lay l0 h0) x ((drop_sub g l0).subset hx)
  · obtain ⟨l0, h0, rfl⟩ := List.mem_map.mp hl
    exact Nat.le_trans (drop_sub g l0).length_le (h.len l0 h0)
theorem heads_le (ls : List (List Str)) : (Mg.headsOf ls).length ≤ ls.length := List.length_filterMap_le _ _
theorem heads_lay {ls : List (List Str)} (h : Fine ls) : (Mg.headsOf ls).all laid = true := List.all_eq_true.mpr fun x hx => by
  obtain ⟨l, hl, e⟩ := List.mem_filterMap.mp hx
  exact List.all_eq_true.mp (h.lay l hl) x (List.mem_of_mem_head? e)
theorem atI_zero (d : D) (ds : List D) : L2.atI (d :: ds) 0 = some d := by
  have h : (0 : Int) < ((d :: ds).length : Nat) := by rw [List.length_cons]; omega
  unfold L2.atI ixN
  rw [if_pos (by omega), if_pos h]
  rfl
section
variable {ls : List (List Str)} {F t2 t3 t4 t5 t6 : Option D} {B : Hd}
abbrev env (ls : List (List Str)) (F t2 t3 t4 t5 t6 : Option D) : DV.Env := [some (.lst (ls.map listD)), F, t2, t3, t4, t5, t6]
theorem rows_lay (h : Fine ls) : ∀ d ∈ ls.map listD, layD d = true := fun d hd => by
  obtain ⟨r, hr, rfl⟩ := List.mem_map.mp hd
  exact lay_listD (h.lay r hr)
/-- while [one for one in lists if one != []] != [] -/
theorem test_ok (h : Fine ls) : tCmpD gNe (eComp (iSeq (eVar 0)) (.one 4) [4] (tCmpD gNe (eVar 4) (eArgs gLstD aNil)) (eVar 4)) (eArgs gLstD aNil) (env ls F t2 t3 t4 t5 t6) B = .ok (!(Mg.headsOf ls).isEmpty) B := by
  have z := sz1000
  have c1 := compD_pure (s := .fix (ls.map listD)) (pt := .one 4) (vs := [4]) (tt := tCmpD gNe (eVar 4) (eArgs gLstD aNil)) (te := eVar 4) (ro := env ls F t2 t3 t4 t5 t6) (A := B) (p := someD) (f := id) (here_fix _ _) (ls.map listD) [] (by have := h.cnt; simp; omega) (fun d hd => by
    obtain ⟨r, hr, rfl⟩ := List.mem_map.mp hd
    exact ⟨[some (.lst (ls.map listD)), F, t2, t3, some (listD r), t5, t6], rfl, tcmp_ok (d := listD r) (e := .lst []) (A1 := B) (A2 := B) rfl (args_ok (ds := []) (A1 := B) rfl rfl) (gNe_nil (lay_strs (h.lay r hr))), fun _ => rfl⟩)
  rw [List.nil_append, List.map_id] at c1
  have c2 := comp_ok (f := iSeq (eVar 0)) (ro := env ls F t2 t3 t4 t5 t6) (A := B) (A1 := B) (s := .fix (ls.map listD)) (seq_ok (d := .lst (ls.map listD)) (A1 := B) rfl rfl) c1
  refine tcmp_ok (d := .lst ((ls.map listD).filter someD)) (e := .lst []) (A1 := B) (A2 := B) c2 (args_ok (ds := []) (A1 := B) rfl rfl) ((gNe_nil fun d hd => rows_lay h d (List.mem_filter.mp hd).1).trans ?_)
  have e := congrArg List.length (heads_D ls)
  rw [List.length_map, List.length_map] at e
  have e2 : ((ls.map listD).filter someD).isEmpty = (Mg.headsOf ls).isEmpty := by
    cases q : (ls.map listD).filter someD with
    | nil => rw [q] at e; rw [List.length_eq_zero_iff.mp e.symm]; rfl
    | cons a as =>
      cases q2 : Mg.headsOf ls with
      | nil => rw [q, q2] at e; cases e
      | cons _ _ => rfl
  rw [e2]
theorem heads_ok (h : Fine ls) : eComp (iSeq (eVar 0)) (.one 4) [4] (tCmpD gNe (eVar 4) (eArgs gLstD aNil)) (eBin gSubD (eVar 4) (eC (.int 0))) (env ls F t2 t3 t4 t5 t6) B = .ok (.lst ((Mg.headsOf ls).map D.str)) B := by
  have z := sz1000
  have c1 := compD_pure (s := .fix (ls.map listD)) (pt := .one 4) (vs := [4]) (tt := tCmpD gNe (eVar 4) (eArgs gLstD aNil)) (te := eBin gSubD (eVar 4) (eC (.int 0))) (ro := env ls F t2 t3 t4 t5 t6) (A := B) (p := someD) (f := headD) (here_fix _ _) (ls.map listD) [] (by have := h.cnt; simp; omega) (fun d hd => by
    obtain ⟨r, hr, rfl⟩ := List.mem_map.mp hd
    refine ⟨[some (.lst (ls.map listD)), F, t2, t3, some (listD r), t5, t6], rfl, tcmp_ok (d := listD r) (e := .lst []) (A1 := B) (A2 := B) rfl (args_ok (ds := []) (A1 := B) rfl rfl) (gNe_nil (lay_strs (h.lay r hr))), fun hp => ?_⟩
    cases r with
    | nil => cases hp
    | cons a r => exact bin_ok (d := listD (a :: r)) (e := .int 0) (A1 := B) (A2 := B) rfl rfl (sub_lst (atI_zero _ _)))
  rw [List.nil_append, heads_D] at c1
  exact comp_ok (f := iSeq (eVar 0)) (ro := env ls F t2 t3 t4 t5 t6) (A := B) (A1 := B) (s := .fix (ls.map listD)) (seq_ok (d := .lst (ls.map listD)) (A1 := B) rfl rfl) c1
theorem mem_strs (x : Str) (r : List Str) : memF (.str x) (r.map D.str) = decide (x ∈ r) := by
  unfold memF
  rw [List.any_map]
  induction r with
  | nil => rfl
  | cons a r ih =>
    rw [List.any_cons, ih]
    by_cases q : a = x
    · subst q
      simp [eqF]
    · have q2 : ¬ x = a := fun z => q z.symm
      simp [eqF, q, q2]
def tailD (x : Str) (d : D) : Bool := match d with
  | .lst xs => memF (.str x) xs.tail
  | _ => false
theorem tail_listD (x : Str) (r : List Str) : tailD x (listD r) = decide (x ∈ r.tail) := by
  show memF (.str x) (r.map D.str).tail = _
  rw [← List.map_tail, mem_strs]
theorem empty_any {α : Type} (p : α → Bool) : ∀ l : List α, (l.filter p).isEmpty = !l.any p
  | [] => rfl
  | a :: l => by
    rw [List.filter_cons, List.any_cons]
    cases p a with
    | true => rfl
    | false => simpa using empty_any p l
def goodD (ls : List (List Str)) (d : D) : Bool := match d with
  | .str x => !Mg.inTail x ls
  | _ => false
/-- the heads that stand in no tail -/
theorem good_ok (h : Fine ls) : eComp (iSeq (eVar 2)) (.one 5) [5] (tCmpD gEq (eComp (iSeq (eVar 0)) (.one 4) [4] (tCmpD gIn (eVar 5) (eCut (eVar 4) (oSome (eC (.int 1))) oNone)) (eVar 4)) (eArgs gLstD aNil)) (eVar 5) (env ls F (some (.lst ((Mg.headsOf ls).map D.str))) t3 t4 t5 t6) B = .ok (.lst ((Mg.goodOf ls).map D.str)) B := by
  have z := sz1000
  let ro := env ls F (some (.lst ((Mg.headsOf ls).map D.str))) t3 t4 t5 t6
  have c1 := compD_pure (s := .fix ((Mg.headsOf ls).map D.str)) (pt := .one 5) (vs := [5]) (tt := tCmpD gEq (eComp (iSeq (eVar 0)) (.one 4) [4] (tCmpD gIn (eVar 5) (eCut (eVar 4) (oSome (eC (.int 1))) oNone)) (eVar 4)) (eArgs gLstD aNil)) (te := eVar 5) (ro := ro) (A := B) (p := goodD ls) (f := id) (here_fix _ _) ((Mg.headsOf ls).map D.str) [] (by have := h.cnt; have := heads_le ls; simp; omega) (fun d hd => by
    obtain ⟨x, hx, rfl⟩ := List.mem_map.mp hd
    let ro5 : DV.Env := [some (.lst (ls.map listD)), F, some (.lst ((Mg.headsOf ls).map D.str)), t3, t4, some (.str x), t6]
    refine ⟨ro5, rfl, ?_, fun _ => rfl⟩
    have i2 := compD_pure (s := .fix (ls.map listD)) (pt := .one 4) (vs := [4]) (tt := tCmpD gIn (eVar 5) (eCut (eVar 4) (oSome (eC (.int 1))) oNone)) (te := eVar 4) (ro := ro5) (A := B) (p := tailD x) (f := id) (here_fix _ _) (ls.map listD) [] (by have := h.cnt; simp; omega) (fun d hd => by
      obtain ⟨u, hu, rfl⟩ := List.mem_map.mp hd
      refine ⟨[some (.lst (ls.map listD)), F, some (.lst ((Mg.headsOf ls).map D.str)), t3, some (listD u), some (.str x), t6], rfl, ?_, fun _ => rfl⟩
      rw [tail_listD]
      refine tcmp_ok (d := .str x) (e := listD u.tail) (A1 := B) (A2 := B) rfl ?_ (in_list x u.tail B)
      show R.ok (D.lst (DV.cutD (u.map D.str) (some 1) none)) B = _
      rw [cut_listD]
      rfl)
    rw [List.nil_append, List.map_id] at i2
    have c2 := comp_ok (f := iSeq (eVar 0)) (ro := ro5) (A := B) (A1 := B) (s := .fix (ls.map listD)) (seq_ok (d := .lst (ls.map listD)) (A1 := B) rfl rfl) i2
    refine tcmp_ok (e := .lst []) (A1 := B) (A2 := B) c2 (args_ok (ds := []) (A1 := B) rfl rfl) ((gEq_nil fun d hd => rows_lay h d (List.mem_filter.mp hd).1).trans ?_)
    rw [empty_any, List.any_map]
    show R.ok (D.bl (!ls.any fun u => tailD x (listD u))) B = R.ok (D.bl (!Mg.inTail x ls)) B
    have e : (ls.any fun u => tailD x (listD u)) = Mg.inTail x ls := by
      unfold Mg.inTail
      congr 1
      funext u
      exact tail_listD x u
    rw [e])
  rw [List.nil_append, List.map_id] at c1
  refine (comp_ok (f := iSeq (eVar 2)) (ro := ro) (A := B) (A1 := B) (s := .fix ((Mg.headsOf ls).map D.str)) (seq_ok (d := .lst ((Mg.headsOf ls).map D.str)) (A1 := B) rfl rfl) c1).trans ?_
  rw [List.filter_map]
  rfl
end
end K05

set_option Elab.async false
set_option linter.all false
set_option maxRecDepth 100000
namespace K05
open PySem PySem.Spec PyProof.Rows L2 DV
def openD (d : D) : D := match d with
  | .tup xs => .lst xs
  | d => d
theorem strs_low (z : Nat) : ∀ r : List Str, D.lts z (r.map D.str) = true
  | [] => by simp [D.lts]
  | x :: r => by
    rw [List.map_cons]
    unfold D.lts
    rw [strs_low z r]
    simp [D.lt]
end K05

set_option Elab.async false
set_option linter.all false
set_option maxRecDepth 100000
namespace K05
open PySem PySem.Spec PyProof.Rows L2 DV
/-! ### the counts -/
theorem valD_pos {p : Key × D} {es : List (Key × D)} {k : Key} (e : p.1 = k) : valD (p :: es) k = some p.2 := by simp [valD, List.find?_cons, e]
theorem valD_neg {p : Key × D} {es : List (Key × D)} {k : Key} (e : ¬ p.1 = k) : valD (p :: es) k = valD es k := by simp [valD, List.find?_cons, e]
theorem valD_any (k : Key) : ∀ es : List (Key × D), (es.any fun kv => decide (kv.1 = k)) = (valD es k).isSome
  | [] => rfl
  | p :: es => by
    rw [List.any_cons]
    by_cases q : p.1 = k
    · rw [valD_pos q, decide_eq_true q]
      rfl
    · rw [valD_neg q, decide_eq_false q, valD_any k es]
      rfl
theorem valD_map (k j : Key) (v : D) : ∀ es : List (Key × D), valD (es.map fun kv => if kv.1 = k then (kv.1, v) else kv) j = (valD es j).map fun x => if j = k then v else x
  | [] => rfl
  | p :: es => by
    rw [List.map_cons]
    have hk : (if p.1 = k then (p.1, v) else p).1 = p.1 := by split <;> rfl
    by_cases q : p.1 = j
    · rw [valD_pos q, valD_pos (hk.trans q)]
      subst q
      by_cases q2 : p.1 = k <;> simp [q2]
    · rw [valD_neg q, valD_neg (fun e => q (hk.symm.trans e)), valD_map k j v es]
theorem valD_snoc (k j : Key) (v : D) : ∀ es : List (Key × D), valD es k = none → valD (es ++ [(k, v)]) j = if j = k then some v else valD es j
  | [], _ => by
    by_cases q : k = j
    · rw [List.nil_append, valD_pos q, if_pos q.symm]
    · rw [List.nil_append, valD_neg q, if_neg (fun e => q e.symm)]
  | p :: es, h => by
    have hp : ¬ p.1 = k := fun e => by rw [valD_pos e] at h; cases h
    rw [valD_neg hp] at h
    rw [List.cons_append]
    by_cases q : p.1 = j
    · rw [valD_pos q, valD_pos q, if_neg (fun e => hp (q.trans e))]
    · rw [valD_neg q, valD_neg q, valD_snoc k j v es h]
theorem valD_put (es : List (Key × D)) (k j : Key) (v : D) : valD (putD es k v) j = if j = k then some v else valD es j := by
  unfold putD
  rw [valD_any]
  cases q : valD es k with
  | none =>
    rw [if_neg (by simp)]
    exact valD_snoc k j v es q
  | some x =>
    rw [if_pos (show (some x).isSome = true from rfl), valD_map]
    by_cases q2 : j = k
    · subst q2
      rw [q, if_pos rfl]
      simp
    · rw [if_neg q2]
      simp [q2]
theorem putD_len (es : List (Key × D)) (k : Key) (v : D) : (putD es k v).length ≤ es.length + 1 := by
  unfold putD
  split
  · rw [List.length_map]; omega
  · rw [List.length_append]; exact Nat.le_refl _
/-- the dict tells f, 0 where it has no key -/
structure Beh (es : List (Key × D)) (f : Str → Int) (b : Nat) : Prop where
  at_ : ∀ x : Str, (valD es (.inr x)).getD (.int 0) = .int (f x)
  len : es.length ≤ b
  low : ∀ p ∈ es, ∃ i : Int, p.2 = D.int i
theorem put_low {es : List (Key × D)} (h : ∀ p ∈ es, ∃ i : Int, p.2 = D.int i) (k : Key) (i : Int) : ∀ p ∈ putD es k (.int i), ∃ i : Int, p.2 = D.int i := by
  intro p hp
  unfold putD at hp
  split at hp
  · obtain ⟨q, hq, rfl⟩ := List.mem_map.mp hp
    split
    · exact ⟨i, rfl⟩
    · exact h q hq
  · rcases List.mem_append.mp hp with hq | hq
    · exact h p hq
    · rw [List.mem_singleton] at hq
      subst hq
      exact ⟨i, rfl⟩
theorem Beh.nil : Beh [] (fun _ => 0) 0 := ⟨fun _ => rfl, Nat.le_refl _, fun _ h => (by cases h)⟩
theorem Beh.put {es : List (Key × D)} {f : Str → Int} {b : Nat} (h : Beh es f b) (x : Str) (i : Int) : Beh (putD es (.inr x) (.int i)) (fun y => if y = x then i else f y) (b + 1) := by
  refine ⟨fun y => ?_, Nat.le_trans (putD_len _ _ _) (by have := h.len; omega), put_low h.low _ _⟩
  rw [valD_put]
  by_cases q : y = x
  · subst q
    rw [if_pos rfl, if_pos rfl]
    rfl
  · rw [if_neg (fun e => q (Sum.inr.inj e)), if_neg q]
    exact h.at_ y
end K05

set_option Elab.async false
set_option linter.all false
set_option maxRecDepth 100000
namespace K05
open PySem PySem.Spec PyProof.Rows L2 DV
/-! ### merge_of: the counts are filled -/
/-- places is at n, found at n + 1, behind at n + 2 -/
abbrev hp (A : Hd) (ps : List Int) (fs : List Str) (es : List (Key × D)) : Hd := A ++ [M.lst (ps.map D.int), M.lst (fs.map D.str), M.dic es]
theorem hp_at0 {A : Hd} {ps fs es} : (hp A ps fs es)[A.length]? = some (.lst (ps.map D.int)) := by
  unfold hp
  rw [List.getElem?_append_right (Nat.le_refl _), Nat.sub_self]
  rfl
theorem hp_at1 {A : Hd} {ps fs es} : (hp A ps fs es)[A.length + 1]? = some (.lst (fs.map D.str)) := by
  unfold hp
  rw [List.getElem?_append_right (by omega), show A.length + 1 - A.length = 1 by omega]
  rfl
theorem hp_at2 {A : Hd} {ps fs es} : (hp A ps fs es)[A.length + 2]? = some (.dic es) := by
  unfold hp
  rw [List.getElem?_append_right (by omega), show A.length + 2 - A.length = 2 by omega]
  rfl
theorem hp_set0 {A : Hd} {ps fs es} (qs : List Int) : (hp A ps fs es).set A.length (.lst (qs.map D.int)) = hp A qs fs es := by
  unfold hp
  rw [List.set_append_right _ _ (Nat.le_refl _), Nat.sub_self]
  rfl
theorem hp_set1 {A : Hd} {ps fs es} (gs : List Str) : (hp A ps fs es).set (A.length + 1) (.lst (gs.map D.str)) = hp A ps gs es := by
  unfold hp
  rw [List.set_append_right _ _ (by omega), show A.length + 1 - A.length = 1 by omega]
  rfl
theorem hp_set2 {A : Hd} {ps fs es} (es' : List (Key × D)) : (hp A ps fs es).set (A.length + 2) (.dic es') = hp A ps fs es' := by
  unfold hp
  rw [List.set_append_right _ _ (by omega), show A.length + 2 - A.length = 2 by omega]
  rfl
/-- behind.get(name, 0) -/
theorem get_ok {A : Hd} {ps fs es} {f : Str → Int} {b : Nat} {ro : DV.Env} {x : Str} (h : Beh es f b) (h3 : ro[3]? = some (some (.ref (A.length + 2)))) (h5 : ro[5]? = some (some (.str x))) : eGet2 (eVar 3) (eVar 5) (eC (.int 0)) ro (hp A ps fs es) = .ok (.int (f x)) (hp A ps fs es) := by
  have e3 : eVar 3 ro (hp A ps fs es) = .ok (.ref (A.length + 2)) (hp A ps fs es) := by unfold eVar; rw [h3]
  have e5 : eVar 5 ro (hp A ps fs es) = .ok (.str x) (hp A ps fs es) := by unfold eVar; rw [h5]
  have ad : asD (hp A ps fs es) (.ref (A.length + 2)) = some es := by
    unfold asD
    simp only [hp_at2]
  unfold eGet2
  rw [e3, R.bind_ok, ad]
  show ((eVar 5 ro (hp A ps fs es)).bind _) = _
  rw [e5, R.bind_ok]
  show ((eC (.int 0) ro (hp A ps fs es)).bind _) = _
  rw [show eC (.int 0) ro (hp A ps fs es) = .ok (.int 0) (hp A ps fs es) from rfl, R.bind_ok, ad]
  show R.ok ((valD es (.inr x)).getD (.int 0)) (hp A ps fs es) = _
  rw [h.at_ x]
end K05

set_option Elab.async false
set_option linter.all false
set_option maxRecDepth 100000
namespace K05
open PySem PySem.Spec PyProof.Rows L2 DV
/-- behind[name] = v -/
theorem store_ok {A : Hd} {ps fs es} {f : Str → Int} {b : Nat} {ro : DV.Env} {x : Str} {i : Int} {e : EF} (h : Beh es f b) (hb : b < 900) (h3 : ro[3]? = some (some (.ref (A.length + 2)))) (h5 : ro[5]? = some (some (.str x))) (he : e ro (hp A ps fs es) = .ok (.int i) (hp A ps fs es)) :
    sAsg e (gAt (eVar 3) (eVar 5)) ro (hp A ps fs es) = .go .nx ro (hp A ps fs (putD es (.inr x) (.int i))) := by
  have z := sz1000
  have e3 : eVar 3 ro (hp A ps fs es) = .ok (.ref (A.length + 2)) (hp A ps fs es) := by unfold eVar; rw [h3]
  have e5 : eVar 5 ro (hp A ps fs es) = .ok (.str x) (hp A ps fs es) := by unfold eVar; rw [h5]
  have hl := h.len
  have st : gAt (eVar 3) (eVar 5) (.int i) ro (hp A ps fs es) = .ok ro (hp A ps fs (putD es (.inr x) (.int i))) := by
    unfold gAt
    rw [e3, R.bind_ok, e5, R.bind_ok]
    have n1 : numL (hp A ps fs es) (.ref (A.length + 2)) = none := by
      unfold numL
      simp only [hp_at2]
    have n2 : numD (hp A ps fs es) (.ref (A.length + 2)) = some (A.length + 2, es) := by
      unfold numD
      simp only [hp_at2]
    unfold setD
    rw [n1, n2]
    show (if es.length < sizeLine then R.ok ro ((hp A ps fs es).set (A.length + 2) (.dic (putD es (.inr x) (.int i)))) else .stk) = _
    rw [if_pos (by omega), hp_set2]
  unfold sAsg
  rw [he, R.then_ok, st]
  rfl
/-- behind[name] = behind.get(name, 0) + 1 -/
theorem count_ok {A : Hd} {ps fs es} {f : Str → Int} {b : Nat} {ro : DV.Env} {x : Str} (h : Beh es f b) (hb : b < 900) (h3 : ro[3]? = some (some (.ref (A.length + 2)))) (h5 : ro[5]? = some (some (.str x))) :
    ∃ es', sAsg (eBin gAdd (eGet2 (eVar 3) (eVar 5) (eC (.int 0))) (eC (.int 1))) (gAt (eVar 3) (eVar 5)) ro (hp A ps fs es) = .go .nx ro (hp A ps fs es') ∧ Beh es' (fun y => if y = x then f x + 1 else f y) (b + 1) :=
  ⟨_, store_ok h hb h3 h5 (bin_ok (d := .int (f x)) (e := .int 1) (get_ok h h3 h5) rfl rfl), h.put x (f x + 1)⟩
end K05

set_option Elab.async false
set_option linter.all false
set_option maxRecDepth 100000
namespace K05
open PySem PySem.Spec PyProof.Rows L2 DV
def times (y : Str) (xs : List Str) : Nat := xs.countP fun z => decide (z = y)
theorem Beh.congr {es f g b} (h : Beh es f b) (e : ∀ y, f y = g y) : Beh es g b := ⟨fun x => by rw [h.at_ x, e x], h.len, h.low⟩
/-- for name in xs: behind[name] = behind.get(name, 0) + 1 -/
theorem fill1 {A : Hd} {ps fs es} {f : Str → Int} {b : Nat} {v0 v1 v2 v4 t5 t6 t7 t8 t9 : Option D} (xs : List Str) (h : Beh es f b) (hb : b + xs.length < 900) :
    ∃ es' t5', forD (.fix (xs.map D.str)) (gNm 5) (sAsg (eBin gAdd (eGet2 (eVar 3) (eVar 5) (eC (.int 0))) (eC (.int 1))) (gAt (eVar 3) (eVar 5))) (xs.map D.str) [v0, v1, v2, some (.ref (A.length + 2)), v4, t5, t6, t7, t8, t9] (hp A ps fs es) = .go .nx [v0, v1, v2, some (.ref (A.length + 2)), v4, t5', t6, t7, t8, t9] (hp A ps fs es') ∧ Beh es' (fun y => f y + times y xs) (b + xs.length) := by
  obtain ⟨ro', A', e, es', t5', rfl, rfl, hB⟩ := forD_run (s := .fix (xs.map D.str)) (g := gNm 5) (b := sAsg (eBin gAdd (eGet2 (eVar 3) (eVar 5) (eC (.int 0))) (eC (.int 1))) (gAt (eVar 3) (eVar 5)))
    (I := fun i ro A' => ∃ es' t5', ro = [v0, v1, v2, some (.ref (A.length + 2)), v4, t5', t6, t7, t8, t9] ∧ A' = hp A ps fs es' ∧ Beh es' (fun y => f y + times y (xs.take i)) (b + i))
    (fun _ _ A _ => here_fix _ A) (xs.map D.str) 0 _ (hp A ps fs es) ⟨es, t5, rfl, rfl, h.congr fun y => by simp [times]⟩ (by
      rintro i d ro A' hd ⟨es', t5', rfl, rfl, hB⟩
      rw [Nat.zero_add] at hB ⊢
      rw [List.getElem?_map] at hd
      obtain ⟨x, hx, rfl⟩ := Option.map_eq_some_iff.mp hd
      have hi : i < xs.length := (List.getElem?_eq_some_iff.mp hx).1
      obtain ⟨es2, g1, g2⟩ := count_ok (ro := [v0, v1, v2, some (.ref (A.length + 2)), v4, some (.str x), t6, t7, t8, t9]) (x := x) (A := A) (ps := ps) (fs := fs) hB (by omega) rfl rfl
      refine ⟨_, _, step_okL g1, es2, some (.str x), rfl, rfl, g2.congr fun y => ?_⟩
      have tk : xs.take (i + 1) = xs.take i ++ [x] := by rw [List.take_add_one, hx]; rfl
      rw [tk]
      unfold times
      rw [List.countP_append]
      by_cases q : y = x
      · subst q
        rw [if_pos rfl]
        simp
        omega
      · rw [if_neg q]
        have q2 : ¬ x = y := fun z => q z.symm
        simp [q2])
  rw [List.length_map, Nat.zero_add, List.take_length] at hB
  exact ⟨es', t5', e, hB⟩
end K05

set_option Elab.async false
set_option linter.all false
set_option maxRecDepth 100000
namespace K05
open PySem PySem.Spec PyProof.Rows L2 DV
theorem times_nodup {y : Str} : ∀ {xs : List Str}, xs.Nodup → times y xs = if y ∈ xs then 1 else 0
  | [], _ => rfl
  | a :: xs, h => by
    obtain ⟨h1, h2⟩ := List.nodup_cons.mp h
    have ih := times_nodup (y := y) h2
    unfold times at ih ⊢
    rw [List.countP_cons, ih]
    by_cases q : a = y
    · subst q
      simp [h1]
    · have q2 : ¬ y = a := fun z => q z.symm
      simp [q, q2]
/-- the counts of the tails -/
theorem fill2 {A : Hd} {ps fs} {rs : List (List Str)} {v1 v2 t4 t5 t6 t7 t8 t9 : Option D} (h : Fine rs) :
    ∃ es t4' t5', sFor (iSeq (eVar 0)) (gNm 4) (sFor (iSeq (eCut (eVar 4) (oSome (eC (.int 1))) oNone)) (gNm 5) (sAsg (eBin gAdd (eGet2 (eVar 3) (eVar 5) (eC (.int 0))) (eC (.int 1))) (gAt (eVar 3) (eVar 5)))) [some (rowsD rs), v1, v2, some (.ref (A.length + 2)), t4, t5, t6, t7, t8, t9] (hp A ps fs []) = .go .nx [some (rowsD rs), v1, v2, some (.ref (A.length + 2)), t4', t5', t6, t7, t8, t9] (hp A ps fs es) ∧ Beh es (fun y => Mg.tails y rs) 80 := by
  obtain ⟨ro', A', e, es', t4', t5', rfl, rfl, hB⟩ := forD_run (s := .fix (rs.map rowD)) (g := gNm 4) (b := sFor (iSeq (eCut (eVar 4) (oSome (eC (.int 1))) oNone)) (gNm 5) (sAsg (eBin gAdd (eGet2 (eVar 3) (eVar 5) (eC (.int 0))) (eC (.int 1))) (gAt (eVar 3) (eVar 5))))
    (I := fun i ro A' => ∃ es' t4' t5', ro = [some (rowsD rs), v1, v2, some (.ref (A.length + 2)), t4', t5', t6, t7, t8, t9] ∧ A' = hp A ps fs es' ∧ Beh es' (fun y => Mg.tails y (rs.take i)) (8 * i))
    (fun _ _ A _ => here_fix _ A) (rs.map rowD) 0 _ (hp A ps fs []) ⟨[], t4, t5, rfl, rfl, Beh.nil.congr fun y => by simp [Mg.tails]⟩ (by
      rintro i d ro A' hd ⟨es', t4', t5', rfl, rfl, hB⟩
      rw [Nat.zero_add] at hB ⊢
      rw [List.getElem?_map] at hd
      obtain ⟨r, hr, rfl⟩ := Option.map_eq_some_iff.mp hd
      have hi : i < rs.length := (List.getElem?_eq_some_iff.mp hr).1
      have hm : r ∈ rs := List.mem_of_getElem? hr
      have hl := h.len r hm
      have hc := h.cnt
      have tl : r.tail.length ≤ 8 := by rw [List.length_tail]; omega
      obtain ⟨es2, t5'', g1, g2⟩ := fill1 (A := A) (ps := ps) (fs := fs) (v0 := some (rowsD rs)) (v1 := v1) (v2 := v2) (v4 := some (rowD r)) (t5 := t5') (t6 := t6) (t7 := t7) (t8 := t8) (t9 := t9) r.tail hB (by omega)
      have cut : iSeq (eCut (eVar 4) (oSome (eC (.int 1))) oNone) [some (rowsD rs), v1, v2, some (.ref (A.length + 2)), some (rowD r), t5', t6, t7, t8, t9] (hp A ps fs es') = .ok (.fix (r.tail.map D.str)) (hp A ps fs es') := by
        refine seq_ok (d := .tup (r.tail.map D.str)) (A1 := hp A ps fs es') ?_ rfl
        show R.ok (D.tup (DV.cutD (r.map D.str) (some 1) none)) (hp A ps fs es') = _
        rw [cut_listD]
      refine ⟨_, _, step_okL (sfor_ok cut g1), es2, some (rowD r), t5'', rfl, rfl, (g2.congr fun y => ?_).at_, ?_, g2.low⟩
      · have tk : rs.take (i + 1) = rs.take i ++ [r] := by rw [List.take_add_one, hr]; rfl
        rw [tk, times_nodup ((h.nd r hm).sublist (List.tail_sublist _))]
        unfold Mg.tails
        rw [List.countP_append]
        by_cases q : y ∈ r.tail <;> simp [q]
      · have := g2.len
        omega)
  rw [List.length_map, Nat.zero_add, List.take_length] at hB
  have hc := h.cnt
  exact ⟨es', t4', t5', sfor_ok (seq_ok (d := rowsD rs) (A1 := hp A ps fs []) rfl rfl) e, hB.at_, by have := hB.len; omega, hB.low⟩
end K05

set_option Elab.async false
set_option linter.all false
set_option maxRecDepth 100000
namespace K05
open PySem PySem.Spec PyProof.Rows L2 DV
/-! ### merge_of: rows with their places -/
abbrev LP := List (List Str × Nat)
def rowsOf (L : LP) : List (List Str) := L.map (·.1)
def placesOf (L : LP) : List Int := L.map fun p => (p.2 : Int)
def restsOf (L : LP) : List (List Str) := L.map fun p => p.1.drop p.2
def pairD (p : List Str × Nat) : D := .tup [rowD p.1, .int p.2]
theorem zip_L : ∀ L : LP, zpD ((rowsOf L).map rowD) ((placesOf L).map D.int) = L.map pairD
  | [] => rfl
  | p :: L => by
    have ih := zip_L L
    unfold zpD at ih ⊢
    unfold rowsOf placesOf at ih ⊢
    rw [List.map_cons, List.map_cons, List.map_cons, List.map_cons, List.zip_cons_cons, List.map_cons, ih, List.map_cons]
    rfl
def openP (d : D) : Bool := match d with
  | .tup [.tup xs, .int i] => decide (i < xs.length)
  | _ => false
def headP (d : D) : D := match d with
  | .tup [.tup xs, .int i] => (xs[i.toNat]?).getD .non
  | _ => .non
theorem heads_P : ∀ L : LP, ((L.map pairD).filter openP).map headP = (Mg.headsOf (restsOf L)).map D.str
  | [] => rfl
  | p :: L => by
    have ih := heads_P L
    have hd : openP (pairD p) = decide (p.2 < p.1.length) := by
      show decide ((p.2 : Int) < ((p.1.map D.str).length : Nat)) = _
      rw [List.length_map]
      by_cases q : p.2 < p.1.length
      · rw [decide_eq_true q]; exact decide_eq_true (by omega)
      · rw [decide_eq_false q]; exact decide_eq_false (by omega)
    unfold restsOf Mg.headsOf at ih ⊢
    rw [List.map_cons, List.map_cons, List.filterMap_cons, List.head?_drop, List.filter_cons, hd]
    by_cases q : p.2 < p.1.length
    · rw [decide_eq_true q, if_pos rfl, List.map_cons, ih, List.getElem?_eq_getElem q]
      have e : headP (pairD p) = .str p.1[p.2] := by
        show ((p.1.map D.str)[(p.2 : Int).toNat]?).getD .non = _
        rw [Int.toNat_natCast, List.getElem?_map, List.getElem?_eq_getElem q]
        rfl
      rw [e]
      rfl
    · rw [decide_eq_false q, if_neg (by simp), ih, List.getElem?_eq_none (by omega)]
end K05

set_option Elab.async false
set_option linter.all false
set_option maxRecDepth 100000
namespace K05
open PySem PySem.Spec PyProof.Rows L2 DV
/-! ### merge_of: the heads, and the free ones -/
theorem atI_nat {α : Type} (xs : List α) (i : Nat) : L2.atI xs (i : Int) = xs[i]? := by
  unfold L2.atI ixN
  rw [if_pos (Int.natCast_nonneg i)]
  by_cases h : i < xs.length
  · rw [if_pos (by omega)]
    rfl
  · rw [if_neg (by omega), List.getElem?_eq_none (by omega)]
    rfl
abbrev menv (rs : List (List Str)) (n : Nat) (t4 t5 t6 t7 t8 t9 : Option D) : DV.Env := [some (rowsD rs), some (.ref n), some (.ref (n + 1)), some (.ref (n + 2)), t4, t5, t6, t7, t8, t9]
theorem zip_ok {A : Hd} {L : LP} {fs es} {t4 t5 t6 t7 t8 t9 : Option D} : iZipS (eVar 0) (eVar 1) (menv (rowsOf L) A.length t4 t5 t6 t7 t8 t9) (hp A (placesOf L) fs es) = .ok (.mix (L.map pairD) [(A.length, (placesOf L).map D.int)]) (hp A (placesOf L) fs es) := by
  have a1 : asQ (hp A (placesOf L) fs es) (.ref A.length) = some ((placesOf L).map D.int) := by
    unfold asQ asR asL
    simp only [hp_at0]
  have k1 : keepD (hp A (placesOf L) fs es) (.ref A.length) = [(A.length, (placesOf L).map D.int)] := by
    unfold keepD
    simp only [hp_at0]
  unfold iZipS
  rw [show eVar 0 (menv (rowsOf L) A.length t4 t5 t6 t7 t8 t9) (hp A (placesOf L) fs es) = .ok (rowsD (rowsOf L)) (hp A (placesOf L) fs es) from rfl, R.bind_ok,
    show eVar 1 (menv (rowsOf L) A.length t4 t5 t6 t7 t8 t9) (hp A (placesOf L) fs es) = .ok (.ref A.length) (hp A (placesOf L) fs es) from rfl, R.bind_ok, a1, k1]
  show (if ((rowsOf L).map rowD).length = ((placesOf L).map D.int).length then R.ok (Src.mix (zpD ((rowsOf L).map rowD) ((placesOf L).map D.int)) [(A.length, (placesOf L).map D.int)]) (hp A (placesOf L) fs es) else .stk) = _
  rw [if_pos (by simp [rowsOf, placesOf]), zip_L]
theorem mheads_ok {A : Hd} {L : LP} {fs es} {t4 t5 t6 t7 t8 t9 : Option D} (hc : L.length ≤ 10) : eComp (iZipS (eVar 0) (eVar 1)) (.tup [4, 9]) [4, 9] (tCmpD gLt (eVar 9) (eArgs gLen (aCons (eVar 4) aNil))) (eBin gSubD (eVar 4) (eVar 9)) (menv (rowsOf L) A.length t4 t5 t6 t7 t8 t9) (hp A (placesOf L) fs es) = .ok (.lst ((Mg.headsOf (restsOf L)).map D.str)) (hp A (placesOf L) fs es) := by
  have z := sz1000
  have c1 := compD_pure (s := .mix (L.map pairD) [(A.length, (placesOf L).map D.int)]) (pt := .tup [4, 9]) (vs := [4, 9]) (tt := tCmpD gLt (eVar 9) (eArgs gLen (aCons (eVar 4) aNil))) (te := eBin gSubD (eVar 4) (eVar 9)) (ro := menv (rowsOf L) A.length t4 t5 t6 t7 t8 t9) (A := hp A (placesOf L) fs es) (p := openP) (f := headP) (fun p hp => by rw [List.mem_singleton.mp hp]; exact hp_at0) (L.map pairD) [] (by simp; omega) (fun d hd => by
    obtain ⟨p, hm, rfl⟩ := List.mem_map.mp hd
    refine ⟨menv (rowsOf L) A.length (some (rowD p.1)) t5 t6 t7 t8 (some (.int p.2)), rfl, ?_, fun ho => ?_⟩
    · exact tcmp_ok (d := .int p.2) (e := .int ((p.1.map D.str).length : Nat)) (A1 := hp A (placesOf L) fs es) (A2 := hp A (placesOf L) fs es) rfl (args1_ok (d := rowD p.1) (A1 := hp A (placesOf L) fs es) rfl rfl) rfl
    · have hl : p.2 < (p.1.map D.str).length := by
        have : decide ((p.2 : Int) < ((p.1.map D.str).length : Nat)) = true := ho
        have := of_decide_eq_true this
        omega
      refine bin_ok (d := rowD p.1) (e := .int p.2) (A1 := hp A (placesOf L) fs es) (A2 := hp A (placesOf L) fs es) rfl rfl (sub_tup ?_)
      rw [atI_nat, List.getElem?_eq_getElem hl]
      show some _ = some (headP (pairD p))
      show some _ = some (((p.1.map D.str)[(p.2 : Int).toNat]?).getD .non)
      rw [Int.toNat_natCast, List.getElem?_eq_getElem hl]
      rfl)
  rw [List.nil_append, heads_P] at c1
  exact comp_ok (f := iZipS (eVar 0) (eVar 1)) (s := .mix (L.map pairD) [(A.length, (placesOf L).map D.int)]) (A1 := hp A (placesOf L) fs es) zip_ok c1
theorem mfree_ok {A : Hd} {ps fs es} {rs : List (List Str)} {ls : List (List Str)} {t4 t5 t7 t8 t9 : Option D} (hB : Beh es (fun y => Mg.tails y ls) 80) (hc : ls.length ≤ 10) : eComp (iSeq (eVar 6)) (.one 5) [5] (tCmpD gEq (eGet2 (eVar 3) (eVar 5) (eC (.int 0))) (eC (.int 0))) (eVar 5) (menv rs A.length t4 t5 (some (.lst ((Mg.headsOf ls).map D.str))) t7 t8 t9) (hp A ps fs es) = .ok (.lst ((Mg.goodOf ls).map D.str)) (hp A ps fs es) := by
  have z := sz1000
  have hl := heads_le ls
  have c1 := compD_pure (s := .fix ((Mg.headsOf ls).map D.str)) (pt := .one 5) (vs := [5]) (tt := tCmpD gEq (eGet2 (eVar 3) (eVar 5) (eC (.int 0))) (eC (.int 0))) (te := eVar 5) (ro := menv rs A.length t4 t5 (some (.lst ((Mg.headsOf ls).map D.str))) t7 t8 t9) (A := hp A ps fs es) (p := goodD ls) (f := id) (here_fix _ _) ((Mg.headsOf ls).map D.str) [] (by simp; omega) (fun d hd => by
    obtain ⟨x, hx, rfl⟩ := List.mem_map.mp hd
    refine ⟨menv rs A.length t4 (some (.str x)) (some (.lst ((Mg.headsOf ls).map D.str))) t7 t8 t9, rfl, ?_, fun _ => rfl⟩
    refine tcmp_ok (d := .int (Mg.tails x ls)) (e := .int 0) (A1 := hp A ps fs es) (A2 := hp A ps fs es) (get_ok hB rfl rfl) rfl ((gEq_int _ _ _).trans ?_)
    show R.ok (D.bl (decide ((Mg.tails x ls : Int) = 0))) _ = R.ok (D.bl (!Mg.inTail x ls)) _
    congr 2
    cases q : Mg.inTail x ls with
    | false =>
      have := Mg.inTail_zero.mp q
      rw [this]
      rfl
    | true =>
      refine decide_eq_false fun h => ?_
      have := Mg.inTail_zero.mpr (show Mg.tails x ls = 0 by omega)
      rw [q] at this
      cases this)
  rw [List.nil_append, List.map_id] at c1
  refine (comp_ok (f := iSeq (eVar 6)) (A1 := hp A ps fs es) (s := .fix ((Mg.headsOf ls).map D.str)) (seq_ok (d := .lst ((Mg.headsOf ls).map D.str)) (A1 := hp A ps fs es) rfl rfl) c1).trans ?_
  rw [List.filter_map]
  rfl
end K05

set_option Elab.async false
set_option linter.all false
set_option maxRecDepth 100000
namespace K05
open PySem PySem.Spec PyProof.Rows L2 DV
/-! ### merge_of: one row behind a name that was found -/
theorem eqvAll_strs : ∀ xs ys : List Str, PyData.eqvAll (xs.map PyData.str) (ys.map PyData.str) = decide (xs = ys)
  | [], [] => rfl
  | [], _ :: _ => rfl
  | _ :: _, [] => rfl
  | x :: xs, y :: ys => by
    rw [List.map_cons, List.map_cons]
    unfold PyData.eqvAll
    rw [eqvAll_strs xs ys]
    show ((x == y) && decide (xs = ys)) = decide (x :: xs = y :: ys)
    by_cases q : x = y <;> simp [q]
theorem toPs_strs : ∀ xs : List Str, toPs (xs.map D.str) = some (xs.map PyData.str)
  | [] => rfl
  | x :: xs => by
    rw [List.map_cons]
    unfold toPs
    rw [toPs_strs xs]
    rfl
theorem lay_all {r : List Str} (h : r.all laid = true) : PyData.canLayAll0 (r.map PyData.str) = true ∧ PyData.depthAll (r.map PyData.str) = 0 := by
  obtain ⟨ps, h1, h2, h3⟩ := strs_lay h
  rw [toPs_strs] at h1
  cases h1
  exact ⟨h2, h3⟩
theorem gEq_strs {xs ys : List Str} (A : Hd) (h : xs.all laid = true) (h2 : ys.all laid = true) : gEq (.tup (xs.map D.str)) (.tup (ys.map D.str)) A = .ok (.bl (decide (xs = ys))) A := by
  have e : ∀ zs : List Str, toP (deR A (.tup (zs.map D.str))) = some (.tuple (zs.map PyData.str)) := fun zs => by
    show toP (.tup (zs.map D.str)) = _
    unfold toP
    rw [toPs_strs]
  have s : ∀ {zs : List Str}, zs.all laid = true → SeqAt.shaped (.tuple (zs.map PyData.str)) = true := fun {zs} hz => by
    obtain ⟨a, b⟩ := lay_all hz
    unfold SeqAt.shaped
    rw [Bool.and_eq_true]
    refine ⟨by unfold PyData.canLay0; exact a, decide_eq_true ?_⟩
    unfold PyData.depth
    omega
  have e3 : eqP A (.tup (xs.map D.str)) (.tup (ys.map D.str)) = some (decide (xs = ys)) := by
    unfold eqP
    rw [e, e]
    show (if SeqAt.shaped (.tuple (xs.map PyData.str)) = true ∧ SeqAt.shaped (.tuple (ys.map PyData.str)) = true then some (PyData.eqv (.tuple (xs.map PyData.str)) (.tuple (ys.map PyData.str))) else none) = _
    rw [if_pos ⟨s h, s h2⟩]
    show some (PyData.eqvAll _ _) = _
    rw [eqvAll_strs]
  unfold gEq
  simp only [e3]
def adv (g : Str) (p : List Str × Nat) : List Str × Nat := if (p.1.drop p.2).head? = some g then (p.1, p.2 + 1) else p
theorem adv_rest (g : Str) (p : List Str × Nat) : (adv g p).1.drop (adv g p).2 = Mg.dropHead g (p.1.drop p.2) := by
  unfold adv Mg.dropHead
  split
  · rw [List.tail_drop]
  · rfl
theorem adv_rests (g : Str) (L : LP) : restsOf (L.map (adv g)) = Mg.step (restsOf L) g := by
  unfold restsOf Mg.step
  rw [List.map_map, List.map_map]
  exact List.map_congr_left fun p _ => adv_rest g p
theorem adv_row (g : Str) (p : List Str × Nat) : (adv g p).1 = p.1 := by
  unfold adv
  split <;> rfl
theorem adv_rows (g : Str) (L : LP) : rowsOf (L.map (adv g)) = rowsOf L := by
  unfold rowsOf
  rw [List.map_map]
  exact List.map_congr_left fun p _ => adv_row g p
theorem tails_mid (y : Str) (P S : LP) (p : List Str × Nat) : Mg.tails y (restsOf (P ++ p :: S)) = Mg.tails y (restsOf P) + (if y ∈ (p.1.drop p.2).tail then 1 else 0) + Mg.tails y (restsOf S) := by
  unfold Mg.tails restsOf
  rw [List.map_append, List.map_cons, List.countP_append, List.countP_cons]
  by_cases q : y ∈ (p.1.drop p.2).tail <;> simp [q] <;> omega
theorem cut_one (r : List Str) (i : Nat) : DV.cutD (r.map D.str) (some (i : Int)) (some ((i : Int) + 1)) = ((r.drop i).head?.toList).map D.str := by
  have e1 : HT.sIx (r.map D.str).length 0 (some (i : Int)) = min i r.length := by rw [HT.sIx_nat, List.length_map]
  have e2 : HT.sIx (r.map D.str).length (r.map D.str).length (some ((i : Int) + 1)) = min (i + 1) r.length := by
    rw [show (i : Int) + 1 = ((i + 1 : Nat) : Int) by omega, HT.sIx_nat, List.length_map]
  unfold DV.cutD
  rw [e1, e2]
  by_cases h : i < r.length
  · rw [show min i r.length = i by omega, show min (i + 1) r.length - i = 1 by omega, ← List.map_drop]
    cases q : r.drop i with
    | nil =>
      have := congrArg List.length q
      rw [List.length_drop] at this
      simp at this
      omega
    | cons a l => rfl
  · rw [List.drop_eq_nil_of_le (show r.length ≤ i by omega), List.drop_eq_nil_of_le (by rw [List.length_map]; omega)]
    simp
theorem putD_len_in {es : List (Key × D)} {k : Key} {v w : D} (h : valD es k = some w) : (putD es k v).length = es.length := by
  unfold putD
  rw [valD_any, h, if_pos (show (some w).isSome = true from rfl), List.length_map]
theorem at_place {P S : LP} {p : List Str × Nat} : L2.atI ((placesOf (P ++ p :: S)).map D.int) (P.length : Int) = some (D.int p.2) := by
  rw [atI_nat]
  unfold placesOf
  rw [List.getElem?_map, List.getElem?_map, List.getElem?_append_right (Nat.le_refl _), Nat.sub_self]
  rfl
theorem set_place {P S : LP} {p : List Str × Nat} : ((placesOf (P ++ p :: S)).map D.int).set P.length (D.int ((p.2 : Int) + 1)) = (placesOf (P ++ (p.1, p.2 + 1) :: S)).map D.int := by
  unfold placesOf
  rw [List.map_append, List.map_append, List.map_append, List.map_append]
  rw [List.set_append_right _ _ (by simp)]
  simp
section
variable {A : Hd} {rs : List (List Str)} {fs : List Str} {es : List (Key × D)} {P S : LP} {p : List Str × Nat} {g : Str} {gs : List Str} {t5 t6 t9 : Option D}
abbrev e18 : EF := eBin gSubD (eVar 1) (eVar 8)
abbrev env8 (rs : List (List Str)) (A : Hd) (P : LP) (p : List Str × Nat) (g : Str) (gs : List Str) (t5 t6 t9 : Option D) : DV.Env := menv rs A.length (some (rowD p.1)) t5 t6 (some (.lst ((g :: gs).map D.str))) (some (.int (P.length : Nat))) t9
theorem e18_ok : e18 (env8 rs A P p g gs t5 t6 t9) (hp A (placesOf (P ++ p :: S)) fs es) = .ok (.int p.2) (hp A (placesOf (P ++ p :: S)) fs es) :=
  bin_ok (d := .ref A.length) (e := .int (P.length : Nat)) (A1 := hp A (placesOf (P ++ p :: S)) fs es) (A2 := hp A (placesOf (P ++ p :: S)) fs es) rfl rfl (sub_num hp_at0 at_place)
theorem cutOne_ok : eCut (eVar 4) (oSome e18) (oSome (eBin gAdd e18 (eC (.int 1)))) (env8 rs A P p g gs t5 t6 t9) (hp A (placesOf (P ++ p :: S)) fs es) = .ok (.tup (((p.1.drop p.2).head?.toList).map D.str)) (hp A (placesOf (P ++ p :: S)) fs es) := by
  let B := hp A (placesOf (P ++ p :: S)) fs es
  let ro := env8 rs A P p g gs t5 t6 t9
  have e2 : eBin gAdd e18 (eC (.int 1)) ro B = .ok (.int ((p.2 : Int) + 1)) B := bin_ok (e := .int 1) e18_ok rfl rfl
  have o1 : oSome e18 ro B = .ok (some (p.2 : Int)) B := by
    unfold oSome
    rw [show e18 ro B = _ from e18_ok, R.bind_ok]
  have o2 : oSome (eBin gAdd e18 (eC (.int 1))) ro B = .ok (some ((p.2 : Int) + 1)) B := by
    unfold oSome
    rw [e2, R.bind_ok]
  show eCut (eVar 4) (oSome e18) (oSome (eBin gAdd e18 (eC (.int 1)))) ro B = _
  unfold eCut
  rw [show eVar 4 ro B = .ok (rowD p.1) B from rfl, R.bind_ok, o1, R.bind_ok, o2, R.bind_ok]
  show R.ok (D.tup (DV.cutD (p.1.map D.str) (some (p.2 : Int)) (some ((p.2 : Int) + 1)))) B = _
  rw [cut_one]
theorem augP_ok : sAugAt gAddI (eVar 1) (eVar 8) (eC (.int 1)) (env8 rs A P p g gs t5 t6 t9) (hp A (placesOf (P ++ p :: S)) fs es) = .go .nx (env8 rs A P p g gs t5 t6 t9) (hp A (placesOf (P ++ (p.1, p.2 + 1) :: S)) fs es) := by
  let B := hp A (placesOf (P ++ p :: S)) fs es
  let ro := env8 rs A P p g gs t5 t6 t9
  have n1 : numL B (.ref A.length) = some (A.length, (placesOf (P ++ p :: S)).map D.int) := by
    unfold numL
    simp only [B, hp_at0]
  have i1 : gItem (.ref A.length) (.int (P.length : Nat)) B = .ok (.int p.2) B := by
    unfold gItem
    rw [n1]
    simp only [at_place]
  have ix : ixN ((placesOf (P ++ p :: S)).map D.int).length ((P.length : Nat) : Int) = some P.length := by
    unfold ixN
    rw [if_pos (Int.natCast_nonneg _), if_pos (by unfold placesOf; simp; omega)]
    rfl
  have s1 : setD (.ref A.length) (.int (P.length : Nat)) (.int ((p.2 : Int) + 1)) ro B = .ok ro (hp A (placesOf (P ++ (p.1, p.2 + 1) :: S)) fs es) := by
    unfold setD
    rw [n1]
    simp only [ix]
    rw [set_place, hp_set0]
  show sAugAt gAddI (eVar 1) (eVar 8) (eC (.int 1)) ro B = _
  unfold sAugAt
  rw [show eVar 1 ro B = .ok (.ref A.length) B from rfl, R.then_ok, show eVar 8 ro B = .ok (.int (P.length : Nat)) B from rfl, R.then_ok, i1, R.then_ok, show eC (.int 1) ro B = .ok (.int 1) B from rfl, R.then_ok,
    show gAddI (.int p.2) (.int 1) B = .ok (.int ((p.2 : Int) + 1)) B from rfl, R.then_ok, s1]
end
end K05

set_option Elab.async false
set_option linter.all false
set_option maxRecDepth 100000
namespace K05
open PySem PySem.Spec PyProof.Rows L2 DV
section
variable {A : Hd} {rs : List (List Str)} {fs : List Str} {es : List (Key × D)} {P S : LP} {p : List Str × Nat} {g : Str} {gs : List Str} {t5 t6 t9 : Option D}
noncomputable def tBody : SF := (sIf (tCmpD gEq (eCut (eVar 4) (oSome (eBin gSubD (eVar 1) (eVar 8))) (oSome (eBin gAdd (eBin gSubD (eVar 1) (eVar 8)) (eC (.int 1))))) (eArgs gTupD (aCons (eBin gSubD (eVar 7) (eC (.int 0))) aNil)))
  (sSeq (sAugAt gAddI (eVar 1) (eVar 8) (eC (.int 1)))
  (sIf (tCmpD gLt (eBin gSubD (eVar 1) (eVar 8)) (eArgs gLen (aCons (eVar 4) aNil)))
  (sAugAt gSub (eVar 3) (eBin gSubD (eVar 4) (eBin gSubD (eVar 1) (eVar 8))) (eC (.int 1)))
  sNx))
  sNx)
/-- the counts behind[x] -= 1 -/
theorem augB_ok {x : Str} {t : Nat} (hx : p.1[p.2]? = some x) (hv : valD es (.inr x) = some (.int (t : Nat))) (hl : es.length < 900) : sAugAt gSub (eVar 3) (eBin gSubD (eVar 4) (eBin gSubD (eVar 1) (eVar 8))) (eC (.int 1)) (env8 rs A P p g gs t5 t6 t9) (hp A (placesOf (P ++ p :: S)) fs es) = .go .nx (env8 rs A P p g gs t5 t6 t9) (hp A (placesOf (P ++ p :: S)) fs (putD es (.inr x) (.int ((t : Int) - 1)))) := by
  have z := sz1000
  let B := hp A (placesOf (P ++ p :: S)) fs es
  let ro := env8 rs A P p g gs t5 t6 t9
  have n1 : numL B (.ref (A.length + 2)) = none := by
    unfold numL
    simp only [B, hp_at2]
  have n2 : numD B (.ref (A.length + 2)) = some (A.length + 2, es) := by
    unfold numD
    simp only [B, hp_at2]
  have k : keyD (.str x) = some (.inr x) := rfl
  have i1 : gItem (.ref (A.length + 2)) (.str x) B = .ok (.int (t : Nat)) B := by
    unfold gItem
    rw [n1]
    simp only [n2, k, hv]
  have s1 : setD (.ref (A.length + 2)) (.str x) (.int ((t : Int) - 1)) ro B = .ok ro (hp A (placesOf (P ++ p :: S)) fs (putD es (.inr x) (.int ((t : Int) - 1)))) := by
    unfold setD
    rw [n1]
    simp only [n2, k]
    rw [if_pos (by omega), hp_set2]
  have e4 : eBin gSubD (eVar 4) (eBin gSubD (eVar 1) (eVar 8)) ro B = .ok (.str x) B := bin_ok (d := rowD p.1) (A1 := B) rfl e18_ok (sub_tup (by rw [atI_nat, List.getElem?_map, hx]; rfl))
  show sAugAt gSub (eVar 3) (eBin gSubD (eVar 4) (eBin gSubD (eVar 1) (eVar 8))) (eC (.int 1)) ro B = _
  unfold sAugAt
  rw [show eVar 3 ro B = .ok (.ref (A.length + 2)) B from rfl, R.then_ok, e4, R.then_ok, i1, R.then_ok, show eC (.int 1) ro B = .ok (.int 1) B from rfl, R.then_ok,
    show gSub (.int (t : Nat)) (.int 1) B = .ok (.int ((t : Int) - 1)) B from rfl, R.then_ok, s1]
theorem turn1 (hB : Beh es (fun y => Mg.tails y (restsOf (P ++ p :: S))) 80) (nd : (p.1.drop p.2).Nodup) (hla : p.1.all laid = true) (hlg : laid g = true) :
    ∃ es', tBody (env8 rs A P p g gs t5 t6 t9) (hp A (placesOf (P ++ p :: S)) fs es) = .go .nx (env8 rs A P p g gs t5 t6 t9) (hp A (placesOf (P ++ adv g p :: S)) fs es') ∧ Beh es' (fun y => Mg.tails y (restsOf (P ++ adv g p :: S))) 80 := by
  have z := sz1000
  have hhl : ((p.1.drop p.2).head?.toList).all laid = true := List.all_eq_true.mpr fun x hx => by
    have : x ∈ p.1.drop p.2 := by
      cases q : p.1.drop p.2 with
      | nil => rw [q] at hx; cases hx
      | cons a l => rw [q] at hx; rw [List.mem_singleton.mp hx]; exact List.mem_cons_self
    exact List.all_eq_true.mp hla x ((List.drop_sublist _ _).subset this)
  have tst : tCmpD gEq (eCut (eVar 4) (oSome (eBin gSubD (eVar 1) (eVar 8))) (oSome (eBin gAdd (eBin gSubD (eVar 1) (eVar 8)) (eC (.int 1))))) (eArgs gTupD (aCons (eBin gSubD (eVar 7) (eC (.int 0))) aNil)) (env8 rs A P p g gs t5 t6 t9) (hp A (placesOf (P ++ p :: S)) fs es) = .ok (decide ((p.1.drop p.2).head?.toList = [g])) (hp A (placesOf (P ++ p :: S)) fs es) := by
    refine tcmp_ok (e := .tup ([g].map D.str)) (A2 := hp A (placesOf (P ++ p :: S)) fs es) cutOne_ok (args1_ok (d := .str g) (A1 := hp A (placesOf (P ++ p :: S)) fs es) (bin_ok (d := .lst ((g :: gs).map D.str)) (e := .int 0) (A1 := hp A (placesOf (P ++ p :: S)) fs es) (A2 := hp A (placesOf (P ++ p :: S)) fs es) rfl rfl (sub_lst (atI_zero _ _))) ?_) (gEq_strs _ hhl (by simp [hlg]))
    unfold gTupD
    rw [if_pos (by show 1 ≤ sizeLine; omega)]
    rfl
  have hdec : ((p.1.drop p.2).head?.toList = [g]) ↔ (p.1.drop p.2).head? = some g := by
    cases (p.1.drop p.2).head? <;> simp
  by_cases hh : (p.1.drop p.2).head? = some g
  · rw [decide_eq_true (hdec.mpr hh)] at tst
    have ea : adv g p = (p.1, p.2 + 1) := by unfold adv; rw [if_pos hh]
    have er : Mg.dropHead g (p.1.drop p.2) = (p.1.drop p.2).tail := by unfold Mg.dropHead; rw [if_pos hh]
    have lt : tCmpD gLt (eBin gSubD (eVar 1) (eVar 8)) (eArgs gLen (aCons (eVar 4) aNil)) (env8 rs A P p g gs t5 t6 t9) (hp A (placesOf (P ++ (p.1, p.2 + 1) :: S)) fs es) = .ok (decide (((p.2 + 1 : Nat) : Int) < ((p.1.map D.str).length : Nat))) (hp A (placesOf (P ++ (p.1, p.2 + 1) :: S)) fs es) :=
      tcmp_ok (d := .int ((p.2 + 1 : Nat) : Int)) (e := .int ((p.1.map D.str).length : Nat)) (A1 := hp A (placesOf (P ++ (p.1, p.2 + 1) :: S)) fs es) (A2 := hp A (placesOf (P ++ (p.1, p.2 + 1) :: S)) fs es) (e18_ok (p := (p.1, p.2 + 1))) (args1_ok (d := rowD p.1) (A1 := hp A (placesOf (P ++ (p.1, p.2 + 1) :: S)) fs es) rfl rfl) rfl
    rw [ea]
    have tl : ∀ y, (if y ∈ (p.1.drop (p.2 + 1)).tail then 1 else 0 : Nat) = (if y ∈ (p.1.drop p.2).tail then (if (p.1.drop p.2).tail.head? = some y then 0 else 1) else 0) := fun y => by
      have := Mg.tail_drop (g := g) nd y
      rw [er, List.tail_drop, decide_eq_true hh, Bool.true_and] at this
      have h2 : (y ∈ (p.1.drop (p.2 + 1)).tail) ↔ (y ∈ (p.1.drop (p.2 + 1)) ∧ ¬ (p.1.drop (p.2 + 1)).head? = some y) := by
        constructor
        · intro h
          rw [decide_eq_true h] at this
          have h3 := this.symm
          rw [Bool.and_eq_true] at h3
          exact ⟨of_decide_eq_true h3.1, fun h4 => by rw [decide_eq_true h4] at h3; cases h3.2⟩
        · rintro ⟨a, b⟩
          rw [decide_eq_true a, decide_eq_false b] at this
          exact of_decide_eq_true this
      rw [show (p.1.drop p.2).tail = p.1.drop (p.2 + 1) from List.tail_drop ..]
      by_cases a : y ∈ p.1.drop (p.2 + 1)
      · by_cases b : (p.1.drop (p.2 + 1)).head? = some y
        · rw [if_neg (fun h => (h2.mp h).2 b), if_pos a, if_pos b]
        · rw [if_pos (h2.mpr ⟨a, b⟩), if_pos a, if_neg b]
      · rw [if_neg (fun h => a (h2.mp h).1), if_neg a]
    by_cases hlt : p.2 + 1 < p.1.length
    · rw [show decide (((p.2 + 1 : Nat) : Int) < ((p.1.map D.str).length : Nat)) = true from decide_eq_true (by rw [List.length_map]; omega)] at lt
      let x := p.1[p.2 + 1]
      have hx : p.1[p.2 + 1]? = some x := List.getElem?_eq_getElem hlt
      have hd : (p.1.drop (p.2 + 1)).head? = some x := by rw [List.head?_drop, hx]
      have hm : x ∈ p.1.drop (p.2 + 1) := List.mem_of_mem_head? hd
      have ht : (p.1.drop p.2).tail = p.1.drop (p.2 + 1) := List.tail_drop ..
      have hv : valD es (.inr x) = some (.int (Mg.tails x (restsOf (P ++ p :: S)) : Nat)) := by
        have h1 := hB.at_ x
        have h2 := tails_mid x P S p
        rw [ht, if_pos hm] at h2
        cases q : valD es (.inr x) with
        | none =>
          rw [q] at h1
          have h3 : (0 : Int) = (Mg.tails x (restsOf (P ++ p :: S)) : Nat) := by
            have : D.int 0 = D.int (Mg.tails x (restsOf (P ++ p :: S)) : Nat) := h1
            exact D.int.inj this
          omega
        | some v =>
          rw [q] at h1
          exact congrArg some h1
      have hle := hB.len
      refine ⟨putD es (.inr x) (.int ((Mg.tails x (restsOf (P ++ p :: S)) : Int) - 1)), sif_ok (z := true) tst (sseq_ok augP_ok (sif_ok (z := true) lt (augB_ok (p := (p.1, p.2 + 1)) hx hv (by omega)))), ?_⟩
      refine ⟨fun y => ?_, by rw [putD_len_in hv]; exact hle, put_low hB.low _ _⟩
      have h2 := tails_mid y P S p
      have h3 := tails_mid y P S (p.1, p.2 + 1)
      have h4 := tl y
      rw [ht] at h2 h4
      rw [hd] at h4
      rw [valD_put]
      by_cases q : y = x
      · subst q
        rw [if_pos rfl]
        rw [if_pos hm] at h2
        rw [if_pos hm, if_pos rfl] at h4
        show D.int _ = D.int _
        congr 1
        show ((Mg.tails x (restsOf (P ++ p :: S)) : Nat) : Int) - 1 = _
        have h5 : Mg.tails x (restsOf (P ++ (p.1, p.2 + 1) :: S)) = Mg.tails x (restsOf P) + (if x ∈ (p.1.drop (p.2 + 1)).tail then 1 else 0) + Mg.tails x (restsOf S) := h3
        rw [h4] at h5
        omega
      · rw [if_neg (fun e => q (Sum.inr.inj e)), hB.at_ y]
        have q2 : ¬ (some x = some y) := fun e => q (Option.some.inj e).symm
        rw [if_neg q2] at h4
        congr 1
        have h5 : Mg.tails y (restsOf (P ++ (p.1, p.2 + 1) :: S)) = Mg.tails y (restsOf P) + (if y ∈ (p.1.drop (p.2 + 1)).tail then 1 else 0) + Mg.tails y (restsOf S) := h3
        rw [h4] at h5
        omega
    · rw [show decide (((p.2 + 1 : Nat) : Int) < ((p.1.map D.str).length : Nat)) = false from decide_eq_false (by rw [List.length_map]; omega)] at lt
      refine ⟨es, sif_ok (z := true) tst (sseq_ok augP_ok (sif_ok (z := false) lt rfl)), hB.congr fun y => ?_⟩
      have h2 := tails_mid y P S p
      have h5 : Mg.tails y (restsOf (P ++ (p.1, p.2 + 1) :: S)) = Mg.tails y (restsOf P) + (if y ∈ (p.1.drop (p.2 + 1)).tail then 1 else 0) + Mg.tails y (restsOf S) := tails_mid y P S (p.1, p.2 + 1)
      have h0 : p.1.drop (p.2 + 1) = [] := List.drop_eq_nil_of_le (by omega)
      rw [List.tail_drop, h0, if_neg (by simp)] at h2
      rw [h0, if_neg (by simp)] at h5
      omega
  · rw [decide_eq_false (fun h => hh (hdec.mp h))] at tst
    have ea : adv g p = p := by unfold adv; rw [if_neg hh]
    rw [ea]
    exact ⟨es, sif_ok (z := false) tst rfl, hB⟩
end
end K05

set_option Elab.async false
set_option linter.all false
set_option maxRecDepth 100000
namespace K05
open PySem PySem.Spec PyProof.Rows L2 DV
theorem fine_rests {L : LP} (h : Fine (rowsOf L)) : Fine (restsOf L) := by
  have mem : ∀ l ∈ restsOf L, ∃ r ∈ rowsOf L, l.Sublist r := fun l hl => by
    obtain ⟨p, hp, rfl⟩ := List.mem_map.mp hl
    exact ⟨p.1, List.mem_map.mpr ⟨p, hp, rfl⟩, List.drop_sublist _ _⟩
  refine ⟨fun l hl => ?_, fun l hl => ?_, ?_, fun l hl => ?_⟩
  · obtain ⟨r, hr, hs⟩ := mem l hl
    exact (h.nd r hr).sublist hs
  · obtain ⟨r, hr, hs⟩ := mem l hl
    exact List.all_eq_true.mpr fun x hx => List.all_eq_true.mp (h.lay r hr) x (hs.subset hx)
  · have := h.cnt
    unfold rowsOf at this
    unfold restsOf
    rw [List.length_map] at this ⊢
    exact this
  · obtain ⟨r, hr, hs⟩ := mem l hl
    exact Nat.le_trans hs.length_le (h.len r hr)
section
variable {A : Hd} {fs : List Str} {g : Str} {gs : List Str} {t5 t6 t9 : Option D}
theorem turns {L : LP} {es : List (Key × D)} {t4 t8 : Option D} (h : Fine (rowsOf L)) (hlg : laid g = true) (hB : Beh es (fun y => Mg.tails y (restsOf L)) 80) :
    ∃ es' t4' t8', sFor (iEnumS (eVar 0)) (gTpl [(gNm 8), (gNm 4)]) tBody (menv (rowsOf L) A.length t4 t5 t6 (some (.lst ((g :: gs).map D.str))) t8 t9) (hp A (placesOf L) fs es) = .go .nx (menv (rowsOf L) A.length t4' t5 t6 (some (.lst ((g :: gs).map D.str))) t8' t9) (hp A (placesOf (L.map (adv g))) fs es') ∧ Beh es' (fun y => Mg.tails y (restsOf (L.map (adv g)))) 80 := by
  obtain ⟨ro', A', e, es', t4', t8', rfl, rfl, hB'⟩ := forD_run (s := .mix (enD 0 ((rowsOf L).map rowD)) []) (g := gTpl [(gNm 8), (gNm 4)]) (b := tBody)
    (I := fun i ro A' => ∃ es' t4' t8', ro = menv (rowsOf L) A.length t4' t5 t6 (some (.lst ((g :: gs).map D.str))) t8' t9 ∧ A' = hp A (placesOf ((L.take i).map (adv g) ++ L.drop i)) fs es' ∧ Beh es' (fun y => Mg.tails y (restsOf ((L.take i).map (adv g) ++ L.drop i))) 80)
    (fun _ _ A _ => by intro p hp; cases hp) (enD 0 ((rowsOf L).map rowD)) 0 _ (hp A (placesOf L) fs es) ⟨es, t4, t8, rfl, rfl, hB⟩ (by
      rintro j d ro A' hd ⟨es', t4', t8', rfl, rfl, hB⟩
      rw [Nat.zero_add] at hB ⊢
      rw [enD_get] at hd
      obtain ⟨r, hr, rfl⟩ := Option.map_eq_some_iff.mp hd
      rw [List.getElem?_map] at hr
      obtain ⟨r', hr', rfl⟩ := Option.map_eq_some_iff.mp hr
      unfold rowsOf at hr'
      rw [List.getElem?_map] at hr'
      obtain ⟨p, hp', rfl⟩ := Option.map_eq_some_iff.mp hr'
      have hj : j < L.length := (List.getElem?_eq_some_iff.mp hp').1
      have hm : p ∈ L := List.mem_of_getElem? hp'
      have hrm : p.1 ∈ rowsOf L := List.mem_map.mpr ⟨p, hm, rfl⟩
      have ed : L.drop j = p :: L.drop (j + 1) := by
        rw [List.drop_eq_getElem_cons hj, (List.getElem?_eq_some_iff.mp hp').2]
      have lp : ((L.take j).map (adv g)).length = j := by rw [List.length_map, List.length_take]; omega
      have en : (L.take (j + 1)).map (adv g) ++ L.drop (j + 1) = (L.take j).map (adv g) ++ adv g p :: L.drop (j + 1) := by
        rw [List.take_add_one, hp', List.map_append, List.append_assoc]
        rfl
      rw [ed] at hB ⊢
      obtain ⟨es2, g1, g2⟩ := turn1 (A := A) (rs := rowsOf L) (fs := fs) (g := g) (gs := gs) (t5 := t5) (t6 := t6) (t9 := t9) hB ((h.nd p.1 hrm).sublist (List.drop_sublist _ _)) (h.lay p.1 hrm) hlg
      rw [en]
      refine ⟨_, _, ?_, es2, some (rowD p.1), some (.int (((L.take j).map (adv g)).length : Nat)), rfl, rfl, g2⟩
      rw [← g1]
      show (tBody (menv (rowsOf L) A.length (some (rowD p.1)) t5 t6 (some (.lst ((g :: gs).map D.str))) (some (.int ((0 + j : Nat) : Int))) t9) _) = tBody (menv (rowsOf L) A.length (some (rowD p.1)) t5 t6 (some (.lst ((g :: gs).map D.str))) (some (.int ((((L.take j).map (adv g)).length : Nat) : Int))) t9) _
      rw [lp, Nat.zero_add])
  rw [enD_len, List.length_map, Nat.zero_add] at hB'
  have el : (rowsOf L).length = L.length := List.length_map ..
  have ef : (L.take (rowsOf L).length).map (adv g) ++ L.drop (rowsOf L).length = L.map (adv g) := by
    rw [el, List.take_length, List.drop_length, List.append_nil]
  rw [ef] at hB'
  refine ⟨es', t4', t8', ?_, hB'⟩
  have en : iEnumS (eVar 0) (menv (rowsOf L) A.length t4 t5 t6 (some (.lst ((g :: gs).map D.str))) t8 t9) (hp A (placesOf L) fs es) = .ok (.mix (enD 0 ((rowsOf L).map rowD)) []) (hp A (placesOf L) fs es) := rfl
  refine sfor_ok en (e.trans ?_)
  rw [enD_len, List.length_map, Nat.zero_add, ef]
end
noncomputable def wBody : SF := (sSeq (sAsg (eComp (iZipS (eVar 0) (eVar 1)) (.tup [4, 9]) [4, 9] (tCmpD gLt (eVar 9) (eArgs gLen (aCons (eVar 4) aNil))) (eBin gSubD (eVar 4) (eVar 9))) (gNm 6))
  (sSeq (sAsg (eComp (iSeq (eVar 6)) (.one 5) [5] (tCmpD gEq (eGet2 (eVar 3) (eVar 5) (eC (.int 0))) (eC (.int 0))) (eVar 5)) (gNm 7))
  (sSeq (sIf (tCmpD gEq (eVar 6) (eArgs gLstD aNil))
  (sRet (eArgs gTupD (aCons (eArgs gTuple (aCons (eVar 2) aNil)) (aCons (eC .non) aNil))))
  sNx)
  (sSeq (sIf (tCmpD gEq (eVar 7) (eArgs gLstD aNil))
  (sRet (eArgs gTupD (aCons (eC .non) (aCons (eArgs (fun ds A => F_shortest_ring (ds ++ []) A) (aCons (eVar 0) aNil)) aNil))))
  sNx)
  (sSeq (sEx (eMeth isL gAppend (eVar 2) (aCons (eBin gSubD (eVar 7) (eC (.int 0))) aNil)))
  (sFor (iEnumS (eVar 0)) (gTpl [(gNm 8), (gNm 4)]) tBody))))))
theorem sseq_ret {p q : SF} {ro ro' : DV.Env} {A A' : Hd} {d : D} (h : p ro A = .go (.ret d) ro' A') : sSeq p q ro A = .go (.ret d) ro' A' := by
  unfold sSeq
  rw [h]
  rfl
theorem wloop {A : Hd} : ∀ (N : Nat) (L : LP) (acc : List Str) (es : List (Key × D)) (t4 t5 t6 t7 t8 t9 : Option D) (r : List Str), Mg.size (restsOf L) < N → Fine (rowsOf L) → Beh es (fun y => Mg.tails y (restsOf L)) 80 → acc.length + Mg.size (restsOf L) ≤ 900 → Mg.mergeL (restsOf L) = some r →
    ∃ ro' ps' es', whileD (tOfE (eC (.bl true))) wBody N (menv (rowsOf L) A.length t4 t5 t6 t7 t8 t9) (hp A (placesOf L) acc es) = .go (.ret (.tup [.tup ((acc ++ r).map D.str), .non])) ro' (hp A ps' (acc ++ r) es')
  | 0, _, _, _, _, _, _, _, _, _, _, h, _, _, _, _ => absurd h (Nat.not_lt_zero _)
  | N + 1, L, acc, es, t4, t5, t6, t7, t8, t9, r, h, hf, hB, ha, hr => by
    have z := sz1000
    have hfr := fine_rests hf
    have hcl : L.length ≤ 10 := by have := hf.cnt; unfold rowsOf at this; rw [List.length_map] at this; exact this
    let B : Hd := hp A (placesOf L) acc es
    have tst : tOfE (eC (.bl true)) (menv (rowsOf L) A.length t4 t5 t6 t7 t8 t9) B = .ok true B := trub_ok rfl
    have hh := mheads_ok (A := A) (L := L) (fs := acc) (es := es) (t4 := t4) (t5 := t5) (t6 := t6) (t7 := t7) (t8 := t8) (t9 := t9) hcl
    have hg := mfree_ok (A := A) (ps := placesOf L) (fs := acc) (rs := rowsOf L) (t4 := t4) (t5 := t5) (t7 := t7) (t8 := t8) (t9 := t9) hB hfr.cnt
    have gl : (Mg.goodOf (restsOf L)).all laid = true := List.all_eq_true.mpr fun x hx => List.all_eq_true.mp (heads_lay hfr) x (List.mem_filter.mp hx).1
    let H : Option D := some (.lst ((Mg.headsOf (restsOf L)).map D.str))
    let G : Option D := some (.lst ((Mg.goodOf (restsOf L)).map D.str))
    have t6' : tCmpD gEq (eVar 6) (eArgs gLstD aNil) (menv (rowsOf L) A.length t4 t5 H G t8 t9) B = .ok ((Mg.headsOf (restsOf L)).map D.str).isEmpty B :=
      tcmp_ok (d := .lst ((Mg.headsOf (restsOf L)).map D.str)) (e := .lst []) (A1 := B) (A2 := B) rfl (args_ok (ds := []) (A1 := B) rfl rfl) (gEq_nil (lay_strs (heads_lay hfr)))
    have t7' : tCmpD gEq (eVar 7) (eArgs gLstD aNil) (menv (rowsOf L) A.length t4 t5 H G t8 t9) B = .ok ((Mg.goodOf (restsOf L)).map D.str).isEmpty B :=
      tcmp_ok (d := .lst ((Mg.goodOf (restsOf L)).map D.str)) (e := .lst []) (A1 := B) (A2 := B) rfl (args_ok (ds := []) (A1 := B) rfl rfl) (gEq_nil (lay_strs gl))
    have e := Mg.mergeL_eq (restsOf L)
    rw [hr] at e
    cases q : Mg.headsOf (restsOf L) with
    | nil =>
      rw [if_pos q] at e
      cases e
      have t6'' : tCmpD gEq (eVar 6) (eArgs gLstD aNil) (menv (rowsOf L) A.length t4 t5 H G t8 t9) B = .ok true B := by rw [t6', q]; rfl
      have asr : gTuple [.ref (A.length + 1)] B = .ok (.tup (acc.map D.str)) B := by
        unfold gTuple asR asL
        simp only [B, hp_at1]
      have rt : sRet (eArgs gTupD (aCons (eArgs gTuple (aCons (eVar 2) aNil)) (aCons (eC .non) aNil))) (menv (rowsOf L) A.length t4 t5 H G t8 t9) B = .go (.ret (.tup [.tup (acc.map D.str), .non])) (menv (rowsOf L) A.length t4 t5 H G t8 t9) B := sret_ok (args2_ok (e := .non) (A1 := B) (A2 := B) (args1_ok (d := .ref (A.length + 1)) (A1 := B) rfl asr) rfl (by
        unfold gTupD
        rw [if_pos (by show 2 ≤ sizeLine; omega)]))
      have body : wBody (menv (rowsOf L) A.length t4 t5 t6 t7 t8 t9) B = .go (.ret (.tup [.tup (acc.map D.str), .non])) (menv (rowsOf L) A.length t4 t5 H G t8 t9) B := by
        unfold wBody
        refine sseq_ok (sasg_ok hh) (sseq_ok (sasg_ok hg) ?_)
        exact sseq_ret (sif_ok (z := true) (A1 := B) t6'' rt)
      refine ⟨menv (rowsOf L) A.length t4 t5 H G t8 t9, placesOf L, es, ?_⟩
      rw [List.append_nil]
      unfold whileD
      rw [tst, R.then_ok, if_pos rfl, body]
      rfl
    | cons hd hs =>
      rw [if_neg (by rw [q]; simp)] at e
      cases qg : Mg.goodOf (restsOf L) with
      | nil => rw [qg] at e; cases e
      | cons g gs =>
        rw [qg] at e
        obtain ⟨r', hr', er⟩ := Option.map_eq_some_iff.mp e.symm
        obtain ⟨gm, gt⟩ := Mg.good_mem qg
        have hsz := Mg.size_step gm
        have lg : laid g = true := List.all_eq_true.mp gl g (by rw [qg]; exact List.mem_cons_self)
        have t6'' : tCmpD gEq (eVar 6) (eArgs gLstD aNil) (menv (rowsOf L) A.length t4 t5 H G t8 t9) B = .ok false B := by rw [t6', q]; rfl
        have t7'' : tCmpD gEq (eVar 7) (eArgs gLstD aNil) (menv (rowsOf L) A.length t4 t5 H G t8 t9) B = .ok false B := by rw [t7', qg]; rfl
        have hG : G = some (.lst ((g :: gs).map D.str)) := by show some (D.lst _) = _; rw [qg]
        have happ : sEx (eMeth isL gAppend (eVar 2) (aCons (eBin gSubD (eVar 7) (eC (.int 0))) aNil)) (menv (rowsOf L) A.length t4 t5 H (some (.lst ((g :: gs).map D.str))) t8 t9) B = .go .nx (menv (rowsOf L) A.length t4 t5 H (some (.lst ((g :: gs).map D.str))) t8 t9) (hp A (placesOf L) (acc ++ [g]) es) := by
          unfold sEx eMeth
          rw [show eVar 2 (menv (rowsOf L) A.length t4 t5 H (some (.lst ((g :: gs).map D.str))) t8 t9) B = .ok (.ref (A.length + 1)) B from rfl, R.bind_ok]
          have il : isL B (.ref (A.length + 1)) = true := by
            unfold isL asR asL
            simp only [B, hp_at1]
            rfl
          rw [if_pos il, acons_ok (d := .str g) (A1 := B) (bin_ok (d := .lst ((g :: gs).map D.str)) (e := .int 0) (A1 := B) (A2 := B) rfl rfl (sub_lst (atI_zero _ _))) (show aNil _ B = .ok [] B from rfl), R.bind_ok]
          unfold gAppend numL
          simp only [B, hp_at1]
          rw [if_pos (by rw [List.length_map]; omega), show acc.map D.str ++ [D.str g] = (acc ++ [g]).map D.str by rw [List.map_append]; rfl, hp_set1]
          rfl
        obtain ⟨es2, t4', t8', g1, g2⟩ := turns (A := A) (fs := acc ++ [g]) (g := g) (gs := gs) (t4 := t4) (t5 := t5) (t6 := H) (t8 := t8) (t9 := t9) hf lg hB
        have body : wBody (menv (rowsOf L) A.length t4 t5 t6 t7 t8 t9) B = .go .nx (menv (rowsOf L) A.length t4' t5 H (some (.lst ((g :: gs).map D.str))) t8' t9) (hp A (placesOf (L.map (adv g))) (acc ++ [g]) es2) := by
          unfold wBody
          refine sseq_ok (sasg_ok hh) (sseq_ok (sasg_ok hg) (sseq_ok (sif_ok (z := false) (A1 := B) t6'' rfl) (sseq_ok (sif_ok (z := false) (A1 := B) t7'' rfl) ?_)))
          show sSeq _ _ (menv (rowsOf L) A.length t4 t5 H G t8 t9) B = _
          rw [hG]
          exact sseq_ok happ g1
        have ih := wloop (A := A) N (L.map (adv g)) (acc ++ [g]) es2 t4' t5 H (some (.lst ((g :: gs).map D.str))) t8' t9 r' (by rw [adv_rests]; omega) (by rw [adv_rows]; exact hf) g2 (by rw [adv_rests, List.length_append]; simp; omega) (by rw [adv_rests]; exact hr')
        obtain ⟨ro', ps', es', e3⟩ := ih
        rw [adv_rows] at e3
        subst er
        refine ⟨ro', ps', es', ?_⟩
        rw [List.append_assoc] at e3
        exact whileD_step tst body e3
theorem wloopN {A : Hd} : ∀ (N : Nat) (L : LP) (acc : List Str) (es : List (Key × D)) (t4 t5 t6 t7 t8 t9 : Option D) (P : D → Prop), Mg.size (restsOf L) < N → Fine (rowsOf L) → Beh es (fun y => Mg.tails y (restsOf L)) 80 → acc.length + Mg.size (restsOf L) ≤ 900 → Mg.mergeL (restsOf L) = none → (∀ (ps : List Int) (fs : List Str) (es : List (Key × D)), (∀ p ∈ es, ∃ i : Int, p.2 = D.int i) → ∃ d, P d ∧ F_shortest_ring [rowsD (rowsOf L)] (hp A ps fs es) = .ok d (hp A ps fs es)) →
    ∃ d ro' ps' fs' es', P d ∧ whileD (tOfE (eC (.bl true))) wBody N (menv (rowsOf L) A.length t4 t5 t6 t7 t8 t9) (hp A (placesOf L) acc es) = .go (.ret (.tup [.non, d])) ro' (hp A ps' fs' es')
  | 0, _, _, _, _, _, _, _, _, _, _, h, _, _, _, _, _ => absurd h (Nat.not_lt_zero _)
  | N + 1, L, acc, es, t4, t5, t6, t7, t8, t9, P, h, hf, hB, ha, hr, hS => by
    have z := sz1000
    have hfr := fine_rests hf
    have hcl : L.length ≤ 10 := by have := hf.cnt; unfold rowsOf at this; rw [List.length_map] at this; exact this
    let B : Hd := hp A (placesOf L) acc es
    have tst : tOfE (eC (.bl true)) (menv (rowsOf L) A.length t4 t5 t6 t7 t8 t9) B = .ok true B := trub_ok rfl
    have hh := mheads_ok (A := A) (L := L) (fs := acc) (es := es) (t4 := t4) (t5 := t5) (t6 := t6) (t7 := t7) (t8 := t8) (t9 := t9) hcl
    have hg := mfree_ok (A := A) (ps := placesOf L) (fs := acc) (rs := rowsOf L) (t4 := t4) (t5 := t5) (t7 := t7) (t8 := t8) (t9 := t9) hB hfr.cnt
    have gl : (Mg.goodOf (restsOf L)).all laid = true := List.all_eq_true.mpr fun x hx => List.all_eq_true.mp (heads_lay hfr) x (List.mem_filter.mp hx).1
    let H : Option D := some (.lst ((Mg.headsOf (restsOf L)).map D.str))
    let G : Option D := some (.lst ((Mg.goodOf (restsOf L)).map D.str))
    have t6' : tCmpD gEq (eVar 6) (eArgs gLstD aNil) (menv (rowsOf L) A.length t4 t5 H G t8 t9) B = .ok ((Mg.headsOf (restsOf L)).map D.str).isEmpty B :=
      tcmp_ok (d := .lst ((Mg.headsOf (restsOf L)).map D.str)) (e := .lst []) (A1 := B) (A2 := B) rfl (args_ok (ds := []) (A1 := B) rfl rfl) (gEq_nil (lay_strs (heads_lay hfr)))
    have t7' : tCmpD gEq (eVar 7) (eArgs gLstD aNil) (menv (rowsOf L) A.length t4 t5 H G t8 t9) B = .ok ((Mg.goodOf (restsOf L)).map D.str).isEmpty B :=
      tcmp_ok (d := .lst ((Mg.goodOf (restsOf L)).map D.str)) (e := .lst []) (A1 := B) (A2 := B) rfl (args_ok (ds := []) (A1 := B) rfl rfl) (gEq_nil (lay_strs gl))
    have e := Mg.mergeL_eq (restsOf L)
    rw [hr] at e
    cases q : Mg.headsOf (restsOf L) with
    | nil =>
      rw [if_pos q] at e
      cases e
    | cons hd hs =>
      rw [if_neg (by rw [q]; simp)] at e
      cases qg : Mg.goodOf (restsOf L) with
      | nil =>
        have t6'' : tCmpD gEq (eVar 6) (eArgs gLstD aNil) (menv (rowsOf L) A.length t4 t5 H G t8 t9) B = .ok false B := by rw [t6', q]; rfl
        have t7'' : tCmpD gEq (eVar 7) (eArgs gLstD aNil) (menv (rowsOf L) A.length t4 t5 H G t8 t9) B = .ok true B := by rw [t7', qg]; rfl
        obtain ⟨d, hPd, hS'⟩ := hS (placesOf L) acc es hB.low
        have rt : sRet (eArgs gTupD (aCons (eC .non) (aCons (eArgs (fun ds A => F_shortest_ring (ds ++ []) A) (aCons (eVar 0) aNil)) aNil))) (menv (rowsOf L) A.length t4 t5 H G t8 t9) B = .go (.ret (.tup [.non, d])) (menv (rowsOf L) A.length t4 t5 H G t8 t9) B := sret_ok (args2_ok (d := .non) (e := d) (A1 := B) (A2 := B) rfl (args1_ok (d := rowsD (rowsOf L)) (A1 := B) rfl hS') (by
          unfold gTupD
          rw [if_pos (by show 2 ≤ sizeLine; omega)]))
        have body : wBody (menv (rowsOf L) A.length t4 t5 t6 t7 t8 t9) B = .go (.ret (.tup [.non, d])) (menv (rowsOf L) A.length t4 t5 H G t8 t9) B := by
          unfold wBody
          refine sseq_ok (sasg_ok hh) (sseq_ok (sasg_ok hg) (sseq_ok (sif_ok (z := false) (A1 := B) t6'' rfl) ?_))
          exact sseq_ret (sif_ok (z := true) (A1 := B) t7'' rt)
        refine ⟨d, menv (rowsOf L) A.length t4 t5 H G t8 t9, placesOf L, acc, es, hPd, ?_⟩
        unfold whileD
        rw [tst, R.then_ok, if_pos rfl, body]
        rfl
      | cons g gs =>
        rw [qg] at e
        have hr' := Option.map_eq_none_iff.mp e.symm
        obtain ⟨gm, gt⟩ := Mg.good_mem qg
        have hsz := Mg.size_step gm
        have lg : laid g = true := List.all_eq_true.mp gl g (by rw [qg]; exact List.mem_cons_self)
        have t6'' : tCmpD gEq (eVar 6) (eArgs gLstD aNil) (menv (rowsOf L) A.length t4 t5 H G t8 t9) B = .ok false B := by rw [t6', q]; rfl
        have t7'' : tCmpD gEq (eVar 7) (eArgs gLstD aNil) (menv (rowsOf L) A.length t4 t5 H G t8 t9) B = .ok false B := by rw [t7', qg]; rfl
        have hG : G = some (.lst ((g :: gs).map D.str)) := by show some (D.lst _) = _; rw [qg]
        have happ : sEx (eMeth isL gAppend (eVar 2) (aCons (eBin gSubD (eVar 7) (eC (.int 0))) aNil)) (menv (rowsOf L) A.length t4 t5 H (some (.lst ((g :: gs).map D.str))) t8 t9) B = .go .nx (menv (rowsOf L) A.length t4 t5 H (some (.lst ((g :: gs).map D.str))) t8 t9) (hp A (placesOf L) (acc ++ [g]) es) := by
          unfold sEx eMeth
          rw [show eVar 2 (menv (rowsOf L) A.length t4 t5 H (some (.lst ((g :: gs).map D.str))) t8 t9) B = .ok (.ref (A.length + 1)) B from rfl, R.bind_ok]
          have il : isL B (.ref (A.length + 1)) = true := by
            unfold isL asR asL
            simp only [B, hp_at1]
            rfl
          rw [if_pos il, acons_ok (d := .str g) (A1 := B) (bin_ok (d := .lst ((g :: gs).map D.str)) (e := .int 0) (A1 := B) (A2 := B) rfl rfl (sub_lst (atI_zero _ _))) (show aNil _ B = .ok [] B from rfl), R.bind_ok]
          unfold gAppend numL
          simp only [B, hp_at1]
          rw [if_pos (by rw [List.length_map]; omega), show acc.map D.str ++ [D.str g] = (acc ++ [g]).map D.str by rw [List.map_append]; rfl, hp_set1]
          rfl
        obtain ⟨es2, t4', t8', g1, g2⟩ := turns (A := A) (fs := acc ++ [g]) (g := g) (gs := gs) (t4 := t4) (t5 := t5) (t6 := H) (t8 := t8) (t9 := t9) hf lg hB
        have body : wBody (menv (rowsOf L) A.length t4 t5 t6 t7 t8 t9) B = .go .nx (menv (rowsOf L) A.length t4' t5 H (some (.lst ((g :: gs).map D.str))) t8' t9) (hp A (placesOf (L.map (adv g))) (acc ++ [g]) es2) := by
          unfold wBody
          refine sseq_ok (sasg_ok hh) (sseq_ok (sasg_ok hg) (sseq_ok (sif_ok (z := false) (A1 := B) t6'' rfl) (sseq_ok (sif_ok (z := false) (A1 := B) t7'' rfl) ?_)))
          show sSeq _ _ (menv (rowsOf L) A.length t4 t5 H G t8 t9) B = _
          rw [hG]
          exact sseq_ok happ g1
        have ih := wloopN (A := A) N (L.map (adv g)) (acc ++ [g]) es2 t4' t5 H (some (.lst ((g :: gs).map D.str))) t8' t9 P (by rw [adv_rests]; omega) (by rw [adv_rows]; exact hf) g2 (by rw [adv_rests, List.length_append]; simp; omega) (by rw [adv_rests]; exact hr') (by rw [adv_rows]; exact hS)
        obtain ⟨d, ro', ps', fs', es', hPd, e3⟩ := ih
        rw [adv_rows] at e3
        exact ⟨d, ro', ps', fs', es', hPd, whileD_step tst body e3⟩
end K05

set_option Elab.async false
set_option linter.all false
set_option maxRecDepth 100000
namespace K05
open PySem PySem.Spec PyProof.Rows L2 DV
/-- merge_of of rows that can be merged -/
theorem merge_ok {rs : List (List Str)} {A : Hd} {r : List Str} (low : ∀ m ∈ A, ∀ z, M.lt z m = true) (h : Fine rs) (hs : Mg.size rs < 200) (hr : Mg.mergeL rs = some r) : F_merge_of [rowsD rs] A = .ok (.tup [.tup (r.map D.str), .non]) A := by
  have z := sz1000
  have hc := h.cnt
  let L0 : LP := rs.map fun r => (r, 0)
  have r0 : rowsOf L0 = rs := by
    show (rs.map _).map _ = rs
    rw [List.map_map]
    exact (List.map_congr_left fun _ _ => rfl).trans (List.map_id _)
  have r1 : restsOf L0 = rs := by
    show (rs.map _).map _ = rs
    rw [List.map_map]
    exact (List.map_congr_left fun _ _ => rfl).trans (List.map_id _)
  have r2 : (placesOf L0).map D.int = List.replicate rs.length (D.int 0) := by
    show ((rs.map _).map _).map _ = _
    rw [List.map_map, List.map_map]
    exact List.map_eq_replicate_iff.mpr fun _ _ => rfl
  let ro : DV.Env := [some (rowsD rs), none, none, none, none, none, none, none, none, none]
  have e1 : eBin gMulM (eArgs gLstD (aCons (eC (.int 0)) aNil)) (eArgs gLen (aCons (eVar 0) aNil)) ro A = .ok (.ref A.length) (A ++ [M.lst ((placesOf L0).map D.int)]) := by
    refine bin_ok (d := .lst [.int 0]) (e := .int ((rs.map rowD).length : Nat)) (A1 := A) (A2 := A) (args1_ok (d := .int 0) (A1 := A) rfl ?_) (args1_ok (d := rowsD rs) (A1 := A) rfl rfl) ?_
    · unfold gLstD
      rw [if_pos (by show 1 ≤ sizeLine; omega)]
    · unfold gMulM asL
      dsimp only
      rw [if_pos (by rw [List.length_map]; exact ⟨by omega, by omega, by show 1 * _ ≤ _; omega⟩), Int.toNat_natCast, List.length_map, r2]
      exact congrArg (fun l => R.ok (D.ref A.length) (A ++ [M.lst l])) List.flatten_replicate_singleton
  have e2 : eArgs gLstM aNil ro (A ++ [M.lst ((placesOf L0).map D.int)]) = .ok (.ref (A.length + 1)) (A ++ [M.lst ((placesOf L0).map D.int)] ++ [M.lst []]) := args_ok (ds := []) (A1 := A ++ [M.lst ((placesOf L0).map D.int)]) rfl (by
    unfold gLstM
    rw [if_pos (by show 0 ≤ sizeLine; omega), List.length_append]
    rfl)
  have e3 : eDicM ro (A ++ [M.lst ((placesOf L0).map D.int)] ++ [M.lst []]) = .ok (.ref (A.length + 2)) (A ++ [M.lst ((placesOf L0).map D.int)] ++ [M.lst []] ++ [M.dic []]) := by
    unfold eDicM
    rw [List.length_append, List.length_append]
    rfl
  have hh : A ++ [M.lst ((placesOf L0).map D.int)] ++ [M.lst []] ++ [M.dic []] = hp A (placesOf L0) [] [] := by
    unfold hp
    rw [List.append_assoc, List.append_assoc]
    rfl
  have par : sAsg (eArgs gTupD (aCons (eBin gMulM (eArgs gLstD (aCons (eC (.int 0)) aNil)) (eArgs gLen (aCons (eVar 0) aNil))) (aCons (eArgs gLstM aNil) (aCons eDicM aNil)))) (gTpl [(gNm 1), (gNm 2), (gNm 3)]) ro A = .go .nx (menv rs A.length none none none none none none) (hp A (placesOf L0) [] []) := by
    unfold sAsg
    rw [args_ok (k := gTupD) (r := .ok (.tup [.ref A.length, .ref (A.length + 1), .ref (A.length + 2)]) (hp A (placesOf L0) [] [])) (acons_ok e1 (acons_ok e2 (acons_ok e3 (show aNil ro _ = .ok [] _ from rfl)))) (by
      unfold gTupD
      rw [if_pos (by show 3 ≤ sizeLine; omega), hh])]
    rfl
  obtain ⟨es, t4, t5, f1, f2⟩ := fill2 (A := A) (ps := placesOf L0) (fs := []) (v1 := some (.ref A.length)) (v2 := some (.ref (A.length + 1))) (t4 := none) (t5 := none) (t6 := none) (t7 := none) (t8 := none) (t9 := none) h
  obtain ⟨ro', ps', es', w⟩ := wloop (A := A) 200 L0 [] es t4 t5 none none none none r (by rw [r1]; exact hs) (by rw [r0]; exact h) (by rw [r1]; exact f2) (by rw [r1]; simp; omega) (by rw [r1]; exact hr)
  rw [r0, List.nil_append] at w
  show finR A (b_merge_of ro A) = _
  have body : b_merge_of ro A = .go (.ret (.tup [.tup (r.map D.str), .non])) ro' (hp A ps' r es') := sseq_ok par (sseq_ok f1 w)
  rw [body]
  exact cut_val (A1 := A) (X := [M.lst (ps'.map D.int), M.lst (r.map D.str), M.dic es']) rfl (fun m hm => low m hm _) (by simp [D.lt, D.lts, strs_low])
/-- merge_of of rows that cannot be merged -/
theorem merge_no {rs : List (List Str)} {A : Hd} {P : D → Prop} (low : ∀ m ∈ A, ∀ z, M.lt z m = true) (h : Fine rs) (hs : Mg.size rs < 200) (hr : Mg.mergeL rs = none) (hd : ∀ d, P d → ∀ n, d.lt n = true) (hS : ∀ (ps : List Int) (fs : List Str) (es : List (Key × D)), (∀ p ∈ es, ∃ i : Int, p.2 = D.int i) → ∃ d, P d ∧ F_shortest_ring [rowsD rs] (hp A ps fs es) = .ok d (hp A ps fs es)) : ∃ d, P d ∧ F_merge_of [rowsD rs] A = .ok (.tup [.non, d]) A := by
  have z := sz1000
  have hc := h.cnt
  let L0 : LP := rs.map fun r => (r, 0)
  have r0 : rowsOf L0 = rs := by
    show (rs.map _).map _ = rs
    rw [List.map_map]
    exact (List.map_congr_left fun _ _ => rfl).trans (List.map_id _)
  have r1 : restsOf L0 = rs := by
    show (rs.map _).map _ = rs
    rw [List.map_map]
    exact (List.map_congr_left fun _ _ => rfl).trans (List.map_id _)
  have r2 : (placesOf L0).map D.int = List.replicate rs.length (D.int 0) := by
    show ((rs.map _).map _).map _ = _
    rw [List.map_map, List.map_map]
    exact List.map_eq_replicate_iff.mpr fun _ _ => rfl
  let ro : DV.Env := [some (rowsD rs), none, none, none, none, none, none, none, none, none]
  have e1 : eBin gMulM (eArgs gLstD (aCons (eC (.int 0)) aNil)) (eArgs gLen (aCons (eVar 0) aNil)) ro A = .ok (.ref A.length) (A ++ [M.lst ((placesOf L0).map D.int)]) := by
    refine bin_ok (d := .lst [.int 0]) (e := .int ((rs.map rowD).length : Nat)) (A1 := A) (A2 := A) (args1_ok (d := .int 0) (A1 := A) rfl ?_) (args1_ok (d := rowsD rs) (A1 := A) rfl rfl) ?_
    · unfold gLstD
      rw [if_pos (by show 1 ≤ sizeLine; omega)]
    · unfold gMulM asL
      dsimp only
      rw [if_pos (by rw [List.length_map]; exact ⟨by omega, by omega, by show 1 * _ ≤ _; omega⟩), Int.toNat_natCast, List.length_map, r2]
      exact congrArg (fun l => R.ok (D.ref A.length) (A ++ [M.lst l])) List.flatten_replicate_singleton
  have e2 : eArgs gLstM aNil ro (A ++ [M.lst ((placesOf L0).map D.int)]) = .ok (.ref (A.length + 1)) (A ++ [M.lst ((placesOf L0).map D.int)] ++ [M.lst []]) := args_ok (ds := []) (A1 := A ++ [M.lst ((placesOf L0).map D.int)]) rfl (by
    unfold gLstM
    rw [if_pos (by show 0 ≤ sizeLine; omega), List.length_append]
    rfl)
  have e3 : eDicM ro (A ++ [M.lst ((placesOf L0).map D.int)] ++ [M.lst []]) = .ok (.ref (A.length + 2)) (A ++ [M.lst ((placesOf L0).map D.int)] ++ [M.lst []] ++ [M.dic []]) := by
    unfold eDicM
    rw [List.length_append, List.length_append]
    rfl
  have hh : A ++ [M.lst ((placesOf L0).map D.int)] ++ [M.lst []] ++ [M.dic []] = hp A (placesOf L0) [] [] := by
    unfold hp
    rw [List.append_assoc, List.append_assoc]
    rfl
  have par : sAsg (eArgs gTupD (aCons (eBin gMulM (eArgs gLstD (aCons (eC (.int 0)) aNil)) (eArgs gLen (aCons (eVar 0) aNil))) (aCons (eArgs gLstM aNil) (aCons eDicM aNil)))) (gTpl [(gNm 1), (gNm 2), (gNm 3)]) ro A = .go .nx (menv rs A.length none none none none none none) (hp A (placesOf L0) [] []) := by
    unfold sAsg
    rw [args_ok (k := gTupD) (r := .ok (.tup [.ref A.length, .ref (A.length + 1), .ref (A.length + 2)]) (hp A (placesOf L0) [] [])) (acons_ok e1 (acons_ok e2 (acons_ok e3 (show aNil ro _ = .ok [] _ from rfl)))) (by
      unfold gTupD
      rw [if_pos (by show 3 ≤ sizeLine; omega), hh])]
    rfl
  obtain ⟨es, t4, t5, f1, f2⟩ := fill2 (A := A) (ps := placesOf L0) (fs := []) (v1 := some (.ref A.length)) (v2 := some (.ref (A.length + 1))) (t4 := none) (t5 := none) (t6 := none) (t7 := none) (t8 := none) (t9 := none) h
  obtain ⟨d, ro', ps', fs', es', hPd, w⟩ := wloopN (A := A) 200 L0 [] es t4 t5 none none none none P (by rw [r1]; exact hs) (by rw [r0]; exact h) (by rw [r1]; exact f2) (by rw [r1]; simp; omega) (by rw [r1]; exact hr) (by rw [r0]; exact hS)
  rw [r0] at w
  refine ⟨d, hPd, ?_⟩
  show finR A (b_merge_of ro A) = _
  have body : b_merge_of ro A = .go (.ret (.tup [.non, d])) ro' (hp A ps' fs' es') := sseq_ok par (sseq_ok f1 w)
  rw [body]
  exact cut_val (A1 := A) (X := [M.lst (ps'.map D.int), M.lst (fs'.map D.str), M.dic es']) rfl (fun m hm => low m hm _) (by simp [D.lt, D.lts, hd d hPd])
end K05

set_option Elab.async false
set_option linter.all false
set_option maxRecDepth 100000
namespace K05
open PySem PySem.Spec PyProof.Rows L2 DV
/-! ### the checks; merged -/
theorem mets_nodup : ∀ (xs acc : List Str), (acc ++ xs).Nodup → xs.foldl met1 acc = acc ++ xs
  | [], acc, _ => by simp
  | x :: xs, acc, h => by
    have hx : x ∉ acc := fun z => by
      rw [List.nodup_append] at h
      exact h.2.2 x z x List.mem_cons_self rfl
    have e : met1 acc x = acc ++ [x] := by
      unfold met1
      rw [if_neg]
      intro z
      obtain ⟨y, hy, e⟩ := List.any_eq_true.mp z
      rw [eq_of_beq e] at hy
      exact hx hy
    rw [List.foldl_cons, e, mets_nodup xs (acc ++ [x]) (by rw [List.append_assoc]; exact h), List.append_assoc]
    rfl
/-- a name as the program wants it -/
def good1 (x : Str) : Bool := laid x && (okIt (.str x) && isName (.str x))
structure RowG (r : List Str) : Prop where
  nd : r.Nodup
  all : r.all good1 = true
  len : r.length ≤ 100
theorem good1_laid {x : Str} (h : good1 x = true) : laid x = true := by
  unfold good1 at h
  rw [Bool.and_eq_true] at h
  exact h.1
theorem RowG.laid {r : List Str} (h : RowG r) : r.all K05.laid = true := List.all_eq_true.mpr fun x hx => good1_laid (List.all_eq_true.mp h.all x hx)
theorem RowG.ok {r : List Str} (h : RowG r) : okRow (rowD r) = true ∧ isDiff (rowD r) = true := by
  have each : ∀ x ∈ r, okIt (.str x) = true ∧ isName (.str x) = true := fun x hx => by
    have := List.all_eq_true.mp h.all x hx
    unfold good1 at this
    rw [Bool.and_eq_true, Bool.and_eq_true] at this
    exact this.2
  have hl := h.len
  refine ⟨?_, ?_⟩
  · show ((r.map D.str).all okIt && decide ((r.map D.str).length ≤ 1000)) = true
    rw [List.all_eq_true.mpr (fun d hd => by obtain ⟨x, hx, rfl⟩ := List.mem_map.mp hd; exact (each x hx).1), decide_eq_true (by rw [List.length_map]; omega)]
    rfl
  · show ((r.map D.str).all isName && dist (r.map D.str)) = true
    rw [List.all_eq_true.mpr (fun d hd => by obtain ⟨x, hx, rfl⟩ := List.mem_map.mp hd; exact (each x hx).2), Bool.true_and]
    unfold dist
    rw [textsD_map]
    show decide (((mets r).length : Int) = ((r.map D.str).length : Int)) = true
    have e : mets r = r := by
      have := mets_nodup r [] h.nd
      simpa [mets] using this
    rw [e, List.length_map]
    exact decide_eq_true rfl
theorem rowG_of {r : List Str} (h : rowOf r) : RowG r := by
  obtain ⟨nd, mem, len⟩ := rowOf_mem h
  have all8 : names8.all good1 = true := by decide +kernel
  exact ⟨nd, List.all_eq_true.mpr fun x hx => List.all_eq_true.mp all8 x (mem x hx), by omega⟩
theorem step2_ok {b : SF} {o : Out} {d : D} {ro0 ro : DV.Env} {A : Hd} {g : GF} (h : b ro A = o) (e : g d ro0 A = .ok ro A := by rfl) : (g d ro0 A).out.next b = o := by rw [e]; exact h
theorem check_ok {rs : List (List Str)} {A : Hd} (h : ∀ r ∈ rs, RowG r) : F_check_tuples [rowsD rs] A = .ok .non A := by
  show finR A (b_check_tuples [some (rowsD rs), none, none] A) = _
  unfold b_check_tuples
  have src : iEnumS (eVar 0) [some (rowsD rs), none, none] A = .ok (.mix (enD 0 (rs.map rowD)) []) A := rfl
  obtain ⟨ro', A', e, t1, t2, rfl, rfl⟩ := forD_run (s := .mix (enD 0 (rs.map rowD)) []) (g := gTpl [gNm 1, gNm 2]) (b := sIf (tNotD (tOfE (eArgs (fun ds A => F_are_different (ds ++ []) A) (aCons (eVar 2) aNil)))) (sRaise "BadTuple" ["index"] (aCons (eVar 1) aNil)) sNx)
    (I := fun _ ro A' => ∃ t1 t2, ro = [some (rowsD rs), t1, t2] ∧ A' = A) (fun _ _ _ _ => fun p hp => by cases hp) (enD 0 (rs.map rowD)) 0 [some (rowsD rs), none, none] A ⟨none, none, rfl, rfl⟩ (by
      rintro j d ro A' hd ⟨t1, t2, rfl, rfl⟩
      rw [enD_get] at hd
      cases hx : (rs.map rowD)[j]? with
      | none => rw [hx] at hd; cases hd
      | some x =>
        rw [hx] at hd
        cases hd
        obtain ⟨r, hr, rfl⟩ := List.mem_map.mp (List.mem_of_getElem? hx)
        obtain ⟨f2, f3⟩ := (h r hr).ok
        refine ⟨[some (rowsD rs), some (.int ((0 + j : Nat) : Int)), some (rowD r)], A', ?_, ⟨_, _, rfl, rfl⟩⟩
        have dk : F_are_different [rowD r] A' = .ok (.bl true) A' := by rw [← f3]; exact diff_ok f2
        have ea : eArgs (fun ds A => F_are_different (ds ++ []) A) (aCons (eVar 2) aNil) [some (rowsD rs), some (.int ((0 + j : Nat) : Int)), some (rowD r)] A' = .ok (.bl true) A' := args1_ok (d := rowD r) (A1 := A') rfl dk
        have et : tNotD (tOfE (eArgs (fun ds A => F_are_different (ds ++ []) A) (aCons (eVar 2) aNil))) [some (rowsD rs), some (.int ((0 + j : Nat) : Int)), some (rowD r)] A' = .ok false A' := tnot_ok (trub_ok ea)
        have es : sIf (tNotD (tOfE (eArgs (fun ds A => F_are_different (ds ++ []) A) (aCons (eVar 2) aNil)))) (sRaise "BadTuple" ["index"] (aCons (eVar 1) aNil)) sNx [some (rowsD rs), some (.int ((0 + j : Nat) : Int)), some (rowD r)] A' = .go .nx [some (rowsD rs), some (.int ((0 + j : Nat) : Int)), some (rowD r)] A' := sif_ok (z := false) (A1 := A') et rfl
        exact step2_ok es)
  have e2 := sfor_ok (s := .mix (enD 0 (rs.map rowD)) []) src e
  rw [e2]
  exact (cut_self : cutR A' .non A' = _)
/-- rows that merged takes: at most ten of at most eight names -/
structure Rows (rs : List (List Str)) : Prop where
  row : ∀ r ∈ rs, RowG r
  cnt : rs.length ≤ 10
  len : ∀ r ∈ rs, r.length ≤ 8
theorem Rows.fine {rs : List (List Str)} (h : Rows rs) : Fine rs := ⟨fun r hr => (h.row r hr).nd, fun r hr => (h.row r hr).laid, h.cnt, h.len⟩
theorem size_le {m : Nat} : ∀ {rs : List (List Str)}, (∀ r ∈ rs, r.length ≤ m) → Mg.size rs ≤ m * rs.length
  | [], _ => Nat.zero_le _
  | r :: rs, h => by
    have := size_le (rs := rs) fun r hr => h r (List.mem_cons_of_mem _ hr)
    have h1 := h r List.mem_cons_self
    unfold Mg.size at this ⊢
    rw [List.map_cons, List.sum_cons, List.length_cons, Nat.mul_succ]
    omega
theorem Rows.size {rs : List (List Str)} (h : Rows rs) : Mg.size rs < 200 := by
  have h1 := size_le h.len
  have h2 := h.cnt
  have : 8 * rs.length ≤ 80 := by omega
  omega
theorem merged_ok {rs : List (List Str)} {A : Hd} {r : List Str} (low : ∀ m ∈ A, ∀ z, M.lt z m = true) (h : Rows rs) (hr : Mg.mergeL rs = some r) : F_merged [rowsD rs] A = .ok (.tup (r.map D.str)) A := by
  show finR A (b_merged [some (rowsD rs), none, none] A) = _
  have e1 : sEx (eArgs (fun ds A => F_check_tuples (ds ++ []) A) (aCons (eVar 0) aNil)) [some (rowsD rs), none, none] A = .go .nx [some (rowsD rs), none, none] A := by
    have e : eArgs (fun ds A => F_check_tuples (ds ++ []) A) (aCons (eVar 0) aNil) [some (rowsD rs), none, none] A = .ok .non A := args1_ok (d := rowsD rs) (A1 := A) rfl (check_ok h.row)
    unfold sEx
    rw [e]
    rfl
  have e2 : eArgs (fun ds A => F_merge_of (ds ++ []) A) (aCons (eVar 0) aNil) [some (rowsD rs), none, none] A = .ok (.tup [.tup (r.map D.str), .non]) A := args1_ok (d := rowsD rs) (A1 := A) rfl (merge_ok low h.fine h.size hr)
  have e3 : sAsg (eArgs (fun ds A => F_merge_of (ds ++ []) A) (aCons (eVar 0) aNil)) (gTpl [(gNm 1), (gNm 2)]) [some (rowsD rs), none, none] A = .go .nx [some (rowsD rs), some (.tup (r.map D.str)), some .non] A := by
    unfold sAsg
    rw [e2]
    rfl
  have e4 : tCmpD gIsN (eVar 1) (eC .non) [some (rowsD rs), some (.tup (r.map D.str)), some .non] A = .ok false A := tcmp_ok (d := .tup (r.map D.str)) (e := .non) (A1 := A) (A2 := A) rfl rfl rfl
  have body : b_merged [some (rowsD rs), none, none] A = .go (.ret (.tup (r.map D.str))) [some (rowsD rs), some (.tup (r.map D.str)), some .non] A := sseq_ok e1 (sseq_ok e3 (sseq_ok (sif_ok (z := false) (A1 := A) e4 rfl) (sret_ok (d := .tup (r.map D.str)) (A1 := A) rfl)))
  rw [body]
  exact (cut_self : cutR A _ A = _)
theorem star_ok {rs : List (List Str)} {A : Hd} {r : List Str} (low : ∀ m ∈ A, ∀ z, M.lt z m = true) (h : Rows rs) (hr : Mg.mergeL rs = some r) : starF F_merged (rs.map rowD) A = .ok (.tup (r.map D.str)) A := by
  have z := sz1000
  have hc := h.cnt
  unfold starF
  rw [if_pos (by rw [List.length_map]; omega)]
  exact merged_ok low h hr
theorem mergedBy_ok {rs : List (List Str)} {A : Hd} {r : List Str} (low : ∀ m ∈ A, ∀ z, M.lt z m = true) (h : Rows rs) (h5 : rs.length ≤ 5) (hr : Mg.mergeL rs = some r) : F__law_merged_by [.lst (rs.map rowD)] A = .ok (.tup (r.map D.str)) A := by
  have st := star_ok low h hr
  let ro : DV.Env := [some (.lst (rs.map rowD))]
  have hlen : eArgs gLen (aCons (eVar 0) aNil) ro A = .ok (.int ((rs.map rowD).length : Nat)) A := args1_ok (d := .lst (rs.map rowD)) (A1 := A) rfl rfl
  have sub : ∀ (i : Nat) (x : D), (rs.map rowD)[i]? = some x → eBin gSubD (eVar 0) (eC (.int (i : Nat))) ro A = .ok x A := fun i x hx => bin_ok (d := .lst (rs.map rowD)) (e := .int (i : Nat)) (A1 := A) (A2 := A) rfl rfl (sub_lst (by rw [atI_nat]; exact hx))
  have eq : ∀ n : Int, tCmpD gEq (eArgs gLen (aCons (eVar 0) aNil)) (eC (.int n)) ro A = .ok (decide (((rs.map rowD).length : Int) = n)) A := fun n => tcmp_ok (e := .int n) (A2 := A) hlen rfl (gEq_int _ _ _)
  have lt : tCmpD gLt (eArgs gLen (aCons (eVar 0) aNil)) (eC (.int 2)) ro A = .ok (decide (((rs.map rowD).length : Int) < 2)) A := tcmp_ok (e := .int 2) (A2 := A) hlen rfl rfl
  show finR A (b__law_merged_by ro A) = _
  have fin : ∀ o, o = Out.go (.ret (.tup (r.map D.str))) ro A → finR A o = .ok (.tup (r.map D.str)) A := fun o e => by rw [e]; exact (cut_self : cutR A _ A = _)
  refine fin _ ?_
  unfold b__law_merged_by
  rcases rs with _ | ⟨a, _ | ⟨b, _ | ⟨c, _ | ⟨d, _ | ⟨e, _ | ⟨f, rs⟩⟩⟩⟩⟩⟩
  · refine sseq_ret (sif_ok (z := true) lt (sret_ok (if_ok (z := false) (A1 := A) (tcmp_ok (d := .lst []) (e := .lst []) (A1 := A) (A2 := A) rfl (args_ok (ds := []) (A1 := A) rfl rfl) (gNe_nil (fun d hd => by cases hd))) st)))
  · have hne : tCmpD gNe (eVar 0) (eArgs gLstD aNil) ro A = .ok true A := tcmp_ok (d := .lst ([a].map rowD)) (e := .lst []) (A1 := A) (A2 := A) rfl (args_ok (ds := []) (A1 := A) rfl rfl) (gNe_nil (ds := [a].map rowD) (fun d hd => by
      rw [List.mem_singleton.mp hd]
      obtain ⟨ps, h1, h2, h3⟩ := strs_lay ((h.row a List.mem_cons_self).laid)
      have e : toP (rowD a) = some (.tuple ps) := by
        unfold rowD toP
        rw [h1]
      unfold layD
      rw [e]
      show (PyData.canLay0 (.tuple ps) && decide (PyData.depth (.tuple ps) ≤ 50)) = true
      have d1 : PyData.depth (.tuple ps) = PyData.depthAll ps + 1 := by
        first | rfl | (unfold PyData.depth; omega)
      rw [d1, h3]
      unfold PyData.canLay0
      rw [h2]
      rfl))
    exact sseq_ret (sif_ok (z := true) lt (sret_ok (if_ok (z := true) (A1 := A) hne (args1_ok (sub 0 _ rfl) st))))
  · refine sseq_ok (ro' := ro) (A1 := A) (sif_ok (z := false) lt rfl) (sseq_ret (sif_ok (z := true) (eq 2) (sret_ok (args2_ok (sub 0 _ rfl) (sub 1 _ rfl) st))))
  · refine sseq_ok (ro' := ro) (A1 := A) (sif_ok (z := false) lt rfl) (sseq_ok (ro' := ro) (A1 := A) (sif_ok (z := false) (eq 2) rfl) (sseq_ret (sif_ok (z := true) (eq 3) (sret_ok (args_ok (acons_ok (sub 0 _ rfl) (acons_ok (sub 1 _ rfl) (acons_ok (sub 2 _ rfl) rfl))) st)))))
  · refine sseq_ok (ro' := ro) (A1 := A) (sif_ok (z := false) lt rfl) (sseq_ok (ro' := ro) (A1 := A) (sif_ok (z := false) (eq 2) rfl) (sseq_ok (ro' := ro) (A1 := A) (sif_ok (z := false) (eq 3) rfl) (sseq_ret (sif_ok (z := true) (eq 4) (sret_ok (args_ok (acons_ok (sub 0 _ rfl) (acons_ok (sub 1 _ rfl) (acons_ok (sub 2 _ rfl) (acons_ok (sub 3 _ rfl) rfl)))) st))))))
  · refine sseq_ok (ro' := ro) (A1 := A) (sif_ok (z := false) lt rfl) (sseq_ok (ro' := ro) (A1 := A) (sif_ok (z := false) (eq 2) rfl) (sseq_ok (ro' := ro) (A1 := A) (sif_ok (z := false) (eq 3) rfl) (sseq_ok (ro' := ro) (A1 := A) (sif_ok (z := false) (eq 4) rfl) (sret_ok (args_ok (acons_ok (sub 0 _ rfl) (acons_ok (sub 1 _ rfl) (acons_ok (sub 2 _ rfl) (acons_ok (sub 3 _ rfl) (acons_ok (sub 4 _ rfl) rfl))))) st)))))
  · simp only [List.length_cons] at h5
    omega
theorem sret_err {a : EF} {ro : DV.Env} {A A1 : Hd} {c : Cl} {fs : List (Str × D)} (h : a ro A = .err c fs A1) : sRet a ro A = .err c fs ro A1 := by unfold sRet; rw [h, R.then_err]
theorem sseq_err {p q : SF} {ro ro' : DV.Env} {A A1 : Hd} {c : Cl} {fs : List (Str × D)} (h : p ro A = .err c fs ro' A1) : sSeq p q ro A = .err c fs ro' A1 := by unfold sSeq; rw [h, Out.next_err]
theorem merged_no {rs : List (List Str)} {A : Hd} {P : D → Prop} (low : ∀ m ∈ A, ∀ z, M.lt z m = true) (h : Rows rs) (hr : Mg.mergeL rs = none) (hd : ∀ d, P d → ∀ n, d.lt n = true) (hS : ∀ (ps : List Int) (fs : List Str) (es : List (Key × D)), (∀ p ∈ es, ∃ i : Int, p.2 = D.int i) → ∃ d, P d ∧ F_shortest_ring [rowsD rs] (hp A ps fs es) = .ok d (hp A ps fs es)) : ∃ d, P d ∧ F_merged [rowsD rs] A = (.err (.own "Clash") [("steps", d), ("tuples", rowsD rs), ("name", .non)] A) := by
  obtain ⟨d, hPd, mn⟩ := merge_no low h.fine h.size hr hd hS
  refine ⟨d, hPd, ?_⟩
  show finR A (b_merged [some (rowsD rs), none, none] A) = _
  have e1 : sEx (eArgs (fun ds A => F_check_tuples (ds ++ []) A) (aCons (eVar 0) aNil)) [some (rowsD rs), none, none] A = .go .nx [some (rowsD rs), none, none] A := by
    have e : eArgs (fun ds A => F_check_tuples (ds ++ []) A) (aCons (eVar 0) aNil) [some (rowsD rs), none, none] A = .ok .non A := args1_ok (d := rowsD rs) (A1 := A) rfl (check_ok h.row)
    unfold sEx
    rw [e]
    rfl
  have e2 : eArgs (fun ds A => F_merge_of (ds ++ []) A) (aCons (eVar 0) aNil) [some (rowsD rs), none, none] A = .ok (.tup [.non, d]) A := args1_ok (d := rowsD rs) (A1 := A) rfl mn
  have e3 : sAsg (eArgs (fun ds A => F_merge_of (ds ++ []) A) (aCons (eVar 0) aNil)) (gTpl [(gNm 1), (gNm 2)]) [some (rowsD rs), none, none] A = .go .nx [some (rowsD rs), some .non, some d] A := by
    unfold sAsg
    rw [e2]
    rfl
  have e4 : tCmpD gIsN (eVar 1) (eC .non) [some (rowsD rs), some .non, some d] A = .ok true A := tcmp_ok (d := .non) (e := .non) (A1 := A) (A2 := A) rfl rfl rfl
  have body : b_merged [some (rowsD rs), none, none] A = .err (.own "Clash") [("steps", d), ("tuples", rowsD rs), ("name", .non)] [some (rowsD rs), some .non, some d] A := sseq_ok e1 (sseq_ok e3 (sseq_err (sif_ok (z := true) (A1 := A) e4 rfl)))
  rw [body]
  rfl
theorem star_no {rs : List (List Str)} {A : Hd} {P : D → Prop} (low : ∀ m ∈ A, ∀ z, M.lt z m = true) (h : Rows rs) (hr : Mg.mergeL rs = none) (hd : ∀ d, P d → ∀ n, d.lt n = true) (hS : ∀ (ps : List Int) (fs : List Str) (es : List (Key × D)), (∀ p ∈ es, ∃ i : Int, p.2 = D.int i) → ∃ d, P d ∧ F_shortest_ring [rowsD rs] (hp A ps fs es) = .ok d (hp A ps fs es)) : ∃ d, P d ∧ starF F_merged (rs.map rowD) A = (.err (.own "Clash") [("steps", d), ("tuples", rowsD rs), ("name", .non)] A) := by
  have z := sz1000
  have hc := h.cnt
  obtain ⟨d, hPd, mn⟩ := merged_no low h hr hd hS
  refine ⟨d, hPd, ?_⟩
  unfold starF
  rw [if_pos (by rw [List.length_map]; omega)]
  exact mn
theorem mergedBy_err {rs : List (List Str)} {A : Hd} {c : Cl} {fs : List (Str × D)} (h : Rows rs) (h5 : rs.length ≤ 5) (st : starF F_merged (rs.map rowD) A = .err c fs A) : F__law_merged_by [.lst (rs.map rowD)] A = .err c fs A := by
  let ro : DV.Env := [some (.lst (rs.map rowD))]
  have hlen : eArgs gLen (aCons (eVar 0) aNil) ro A = .ok (.int ((rs.map rowD).length : Nat)) A := args1_ok (d := .lst (rs.map rowD)) (A1 := A) rfl rfl
  have sub : ∀ (i : Nat) (x : D), (rs.map rowD)[i]? = some x → eBin gSubD (eVar 0) (eC (.int (i : Nat))) ro A = .ok x A := fun i x hx => bin_ok (d := .lst (rs.map rowD)) (e := .int (i : Nat)) (A1 := A) (A2 := A) rfl rfl (sub_lst (by rw [atI_nat]; exact hx))
  have eq : ∀ n : Int, tCmpD gEq (eArgs gLen (aCons (eVar 0) aNil)) (eC (.int n)) ro A = .ok (decide (((rs.map rowD).length : Int) = n)) A := fun n => tcmp_ok (e := .int n) (A2 := A) hlen rfl (gEq_int _ _ _)
  have lt : tCmpD gLt (eArgs gLen (aCons (eVar 0) aNil)) (eC (.int 2)) ro A = .ok (decide (((rs.map rowD).length : Int) < 2)) A := tcmp_ok (e := .int 2) (A2 := A) hlen rfl rfl
  show finR A (b__law_merged_by ro A) = _
  have fin : ∀ o, o = Out.err c fs ro A → finR A o = .err c fs A := fun o e => by rw [e]; rfl
  refine fin _ ?_
  unfold b__law_merged_by
  rcases rs with _ | ⟨a, _ | ⟨b, _ | ⟨c, _ | ⟨d, _ | ⟨e, _ | ⟨f, rs⟩⟩⟩⟩⟩⟩
  · refine sseq_err (sif_ok (z := true) lt (sret_err (if_ok (z := false) (A1 := A) (tcmp_ok (d := .lst []) (e := .lst []) (A1 := A) (A2 := A) rfl (args_ok (ds := []) (A1 := A) rfl rfl) (gNe_nil (fun d hd => by cases hd))) st)))
  · have hne : tCmpD gNe (eVar 0) (eArgs gLstD aNil) ro A = .ok true A := tcmp_ok (d := .lst ([a].map rowD)) (e := .lst []) (A1 := A) (A2 := A) rfl (args_ok (ds := []) (A1 := A) rfl rfl) (gNe_nil (ds := [a].map rowD) (fun d hd => by
      rw [List.mem_singleton.mp hd]
      obtain ⟨ps, h1, h2, h3⟩ := strs_lay ((h.row a List.mem_cons_self).laid)
      have e : toP (rowD a) = some (.tuple ps) := by
        unfold rowD toP
        rw [h1]
      unfold layD
      rw [e]
      show (PyData.canLay0 (.tuple ps) && decide (PyData.depth (.tuple ps) ≤ 50)) = true
      have d1 : PyData.depth (.tuple ps) = PyData.depthAll ps + 1 := by
        first | rfl | (unfold PyData.depth; omega)
      rw [d1, h3]
      unfold PyData.canLay0
      rw [h2]
      rfl))
    exact sseq_err (sif_ok (z := true) lt (sret_err (if_ok (z := true) (A1 := A) hne (args1_ok (sub 0 _ rfl) st))))
  · refine sseq_ok (ro' := ro) (A1 := A) (sif_ok (z := false) lt rfl) (sseq_err (sif_ok (z := true) (eq 2) (sret_err (args2_ok (sub 0 _ rfl) (sub 1 _ rfl) st))))
  · refine sseq_ok (ro' := ro) (A1 := A) (sif_ok (z := false) lt rfl) (sseq_ok (ro' := ro) (A1 := A) (sif_ok (z := false) (eq 2) rfl) (sseq_err (sif_ok (z := true) (eq 3) (sret_err (args_ok (acons_ok (sub 0 _ rfl) (acons_ok (sub 1 _ rfl) (acons_ok (sub 2 _ rfl) rfl))) st)))))
  · refine sseq_ok (ro' := ro) (A1 := A) (sif_ok (z := false) lt rfl) (sseq_ok (ro' := ro) (A1 := A) (sif_ok (z := false) (eq 2) rfl) (sseq_ok (ro' := ro) (A1 := A) (sif_ok (z := false) (eq 3) rfl) (sseq_err (sif_ok (z := true) (eq 4) (sret_err (args_ok (acons_ok (sub 0 _ rfl) (acons_ok (sub 1 _ rfl) (acons_ok (sub 2 _ rfl) (acons_ok (sub 3 _ rfl) rfl)))) st))))))
  · refine sseq_ok (ro' := ro) (A1 := A) (sif_ok (z := false) lt rfl) (sseq_ok (ro' := ro) (A1 := A) (sif_ok (z := false) (eq 2) rfl) (sseq_ok (ro' := ro) (A1 := A) (sif_ok (z := false) (eq 3) rfl) (sseq_ok (ro' := ro) (A1 := A) (sif_ok (z := false) (eq 4) rfl) (sret_err (args_ok (acons_ok (sub 0 _ rfl) (acons_ok (sub 1 _ rfl) (acons_ok (sub 2 _ rfl) (acons_ok (sub 3 _ rfl) (acons_ok (sub 4 _ rfl) rfl))))) st)))))
  · simp only [List.length_cons] at h5
    omega
end K05

set_option Elab.async false
set_option linter.all false
set_option maxRecDepth 100000
namespace K05
open PySem PySem.Spec PyProof.Rows L2 DV
theorem toPs_ints : ∀ ns : List Int, toPs (ns.map D.int) = some (ns.map PyData.int) ∧ PyData.canLayAll0 (ns.map PyData.int) = true ∧ PyData.depthAll (ns.map PyData.int) = 0
  | [] => ⟨rfl, rfl, rfl⟩
  | n :: ns => by
    obtain ⟨h1, h2, h3⟩ := toPs_ints ns
    refine ⟨?_, ?_, ?_⟩
    · rw [List.map_cons]; unfold toPs; rw [h1]; rfl
    · rw [List.map_cons]; unfold PyData.canLayAll0; rw [h2]; rfl
    · rw [List.map_cons]; unfold PyData.depthAll; rw [h3]; rfl
theorem gNe_scr {ns : List Int} {A : Hd} : gNe (.scr (ns.map D.int)) (.lst []) A = .ok (.bl (!ns.isEmpty)) A := by
  obtain ⟨h1, h2, h3⟩ := toPs_ints ns
  have e : eqP A (.scr (ns.map D.int)) (.lst []) = some ns.isEmpty := by
    unfold eqP
    have e1 : toP (deR A (.scr (ns.map D.int))) = some (.list (ns.map PyData.int)) := by
      show toP (.scr _) = _
      unfold toP
      rw [h1]
    have e2 : toP (deR A (.lst [])) = some (.list []) := by
      show toP (.lst []) = _
      unfold toP
      rfl
    rw [e1, e2]
    have s1 : SeqAt.shaped (.list (ns.map PyData.int)) = true := by
      unfold SeqAt.shaped
      rw [Bool.and_eq_true]
      refine ⟨by unfold PyData.canLay0; exact h2, decide_eq_true ?_⟩
      unfold PyData.depth
      omega
    have s2 : SeqAt.shaped (.list []) = true := by decide +kernel
    show (if SeqAt.shaped (.list (ns.map PyData.int)) = true ∧ SeqAt.shaped (.list []) = true then some (PyData.eqv (.list (ns.map PyData.int)) (.list [])) else none) = _
    rw [if_pos ⟨s1, s2⟩]
    cases ns <;> rfl
  unfold gNe
  simp only [e]
theorem sourceN {ns : List Int} {kk : Nat} {A : Hd} (hl : ns.length ≤ 63) (hk : kk ≤ 10) (low : ∀ m ∈ A, ∀ z, M.lt z m = true) : ∃ A', F__law_source [.scr (ns.map D.int), .int kk] A = .ok (.ref A.length) A' ∧ SN (A.length + 1) A.length A' 30 := by
  have pw : CPow 10 18 := ⟨by omega, by omega, by decide⟩
  have z3 : 3 ≤ sizeLine := by have := sz1000; omega
  have mul : CMul 3 (kk : Int) := .inl ⟨by omega, by omega⟩
  have cell : ∃ c : Int, eIf (tCmpD gNe (eVar 0) (eArgs gLstD aNil)) (eBin gSubD (eVar 0) (eBin gMod (eVar 1) (eArgs gLen (aCons (eVar 0) aNil)))) (eC (.int 1)) [some (.scr (ns.map D.int)), some (.int kk), none] A = .ok (.int c) A := by
    by_cases hn : ns = []
    · subst hn
      exact ⟨1, if_ok (z := false) (A1 := A) (tcmp_ok (d := .scr (([] : List Int).map D.int)) (e := .lst []) (A1 := A) (A2 := A) rfl (args_ok (ds := []) (A1 := A) rfl rfl) (gNe_scr (ns := []))) rfl⟩
    · have hpos : 0 < ns.length := List.length_pos_iff.mpr hn
      have ml : (ns.map D.int).length = ns.length := List.length_map ..
      obtain ⟨x, hx, mx⟩ := atI_of (xs := ns.map D.int) (i := (kk : Int) % (ns.length : Int)) (Int.emod_nonneg _ (by omega)) (by rw [ml]; exact Int.emod_lt_of_pos _ (by omega))
      obtain ⟨c, _, rfl⟩ := List.mem_map.mp mx
      refine ⟨c, if_ok (z := true) (A1 := A) (tcmp_ok (d := .scr (ns.map D.int)) (e := .lst []) (A1 := A) (A2 := A) rfl (args_ok (ds := []) (A1 := A) rfl rfl) ((gNe_scr (ns := ns)).trans ?_)) ?_⟩
      · cases ns with
        | nil => exact absurd rfl hn
        | cons _ _ => rfl
      · rw [if_pos rfl]
        refine bin_ok (d := .scr (ns.map D.int)) (e := .int ((kk : Int) % (ns.length : Int))) (A1 := A) (A2 := A) rfl (bin_ok (d := .int kk) (e := .int ns.length) (A1 := A) (A2 := A) rfl (args1_ok (d := .scr (ns.map D.int)) (A1 := A) rfl (by
          show R.ok (D.int ((ns.map D.int).length : Nat)) A = _
          rw [ml])) ?_) (sub_scr hx)
        show (if (0 : Int) < (ns.length : Int) then R.ok (D.int ((kk : Int) % (ns.length : Int))) A else .stk) = _
        rw [if_pos (by omega)]
  obtain ⟨c, hc⟩ := cell
  let m0 : M := .lst [.int c, .int (3 * kk), .int (if 10 ^ 18 ≤ c then c / 10 ^ 18 else 0)]
  have h3 : eIf (tCmpD gGe (eVar 2) (eBin gPow (eC (.int 10)) (eC (.int 18)))) (eBin gDiv (eVar 2) (eBin gPow (eC (.int 10)) (eC (.int 18)))) (eC (.int 0)) [some (.scr (ns.map D.int)), some (.int kk), some (.int c)] A = .ok (.int (if 10 ^ 18 ≤ c then c / 10 ^ 18 else 0)) A := by
    have hp : eBin gPow (eC (.int 10)) (eC (.int 18)) [some (.scr (ns.map D.int)), some (.int kk), some (.int c)] A = .ok (.int (10 ^ 18)) A := bin_ok (A1 := A) (A2 := A) rfl rfl (by unfold gPow; simp [pw])
    refine if_ok (z := decide ((10 : Int) ^ 18 ≤ c)) (A1 := A) (tcmp_ok (d := .int c) (A1 := A) (A2 := A) rfl hp rfl) ?_
    by_cases q : (10 : Int) ^ 18 ≤ c
    · rw [if_pos (decide_eq_true q), if_pos q]
      refine bin_ok (d := .int c) (A1 := A) (A2 := A) rfl hp ?_
      have cd : CDivW c (10 ^ 18) := ⟨by omega, by decide +kernel⟩
      unfold gDiv
      simp only [cd, if_true]
    · rw [if_neg (by simpa using q), if_neg q]
      rfl
  have hm : eBin gMul (eC (.int 3)) (eVar 1) [some (.scr (ns.map D.int)), some (.int kk), some (.int c)] A = .ok (.int (3 * kk)) A := bin_ok (d := .int 3) (e := .int kk) (A1 := A) (A2 := A) rfl rfl (by unfold gMul; simp [mul])
  have hr : eArgs gLstM (aCons (eVar 2) (aCons (eBin gMul (eC (.int 3)) (eVar 1)) (aCons (eIf (tCmpD gGe (eVar 2) (eBin gPow (eC (.int 10)) (eC (.int 18)))) (eBin gDiv (eVar 2) (eBin gPow (eC (.int 10)) (eC (.int 18)))) (eC (.int 0))) aNil))) [some (.scr (ns.map D.int)), some (.int kk), some (.int c)] A = .ok (.ref A.length) (A ++ [m0]) := args_ok (acons_ok (a := eVar 2) (d := .int c) (A1 := A) rfl (acons_ok hm (acons_ok h3 (show aNil _ _ = .ok [] A from rfl)))) (by
    unfold gLstM
    rw [if_pos (by exact z3)])
  refine ⟨A ++ [m0], ?_, by rw [List.length_append]; rfl, ⟨c, 3 * kk, _, by rw [List.getElem?_append_right (Nat.le_refl _), Nat.sub_self]; rfl, by omega, by omega, ?_⟩, fun m hm z => ?_⟩
  · show finK (b__law_source [some (.scr (ns.map D.int)), some (.int kk), none] A) = _
    unfold b__law_source
    have all := sseq_ok (p := sAsg (eIf (tCmpD gNe (eVar 0) (eArgs gLstD aNil)) (eBin gSubD (eVar 0) (eBin gMod (eVar 1) (eArgs gLen (aCons (eVar 0) aNil)))) (eC (.int 1))) (gNm 2)) (ro := [some (.scr (ns.map D.int)), some (.int kk), none]) (A := A) (sasg_ok hc) (sret_ok hr)
    rw [all]
    rfl
  · split
    · exact Int.ediv_nonneg (by omega) (by omega)
    · omega
  · rcases List.mem_append.mp hm with w | w
    · exact low m w z
    · rw [List.mem_singleton.mp w]
      simp [m0, M.lt, D.lts, D.lt]
end K05

set_option Elab.async false
set_option linter.all false
set_option maxRecDepth 100000
namespace K05
open PySem PySem.Spec PyProof.Rows L2 DV
/-! ### repr of names, rows, lists of rows -/
def rowP (r : List Str) : PyData := .tuple (r.map PyData.str)
theorem showAll_strs : ∀ r : List Str, PyData.showableAll (r.map PyData.str) = true
  | [] => rfl
  | x :: r => by
    rw [List.map_cons]
    unfold PyData.showableAll
    rw [showAll_strs r]
    rfl
theorem shortAll_strs (B : Nat) : ∀ r : List Str, PyData.intsShortAll B (r.map PyData.str) = true
  | [] => rfl
  | x :: r => by
    rw [List.map_cons]
    unfold PyData.intsShortAll
    rw [shortAll_strs B r]
    rfl
theorem weightAll_strs : ∀ {r : List Str}, (∀ x ∈ r, x.length ≤ 8) → PyData.weightAll (r.map PyData.str) ≤ 9 * r.length
  | [], _ => Nat.zero_le _
  | x :: r, h => by
    have ih := weightAll_strs (r := r) fun y hy => h y (List.mem_cons_of_mem _ hy)
    have h1 : x.cps.size ≤ 8 := h x List.mem_cons_self
    rw [List.map_cons]
    unfold PyData.weightAll
    have e : PyData.weight (.str x) = x.cps.size := rfl
    rw [e, List.length_cons]
    omega
/-- what repr can show here -/
structure Shw (p : PyData) (w : Nat) (d : Nat) : Prop where
  show_ : p.showable = true
  lay : p.canLay0 = true
  short : p.intsShort 13 = true
  weight : p.weight ≤ w
  depth : p.depth ≤ d
theorem Shw.len {p : PyData} {w d : Nat} (h : Shw p w d) (hw : w ≤ 2 ^ 20) (hd : d ≤ 60) : p.shown.length ≤ sizeLine := by
  have h1 : PyData.layable0 p = true := by
    show (PyData.canLay0 p && decide (PyData.depth p ≤ 64) && decide (PyData.weight p ≤ 2 ^ 20)) = true
    have h2 := h.depth
    have h3 := h.weight
    rw [h.lay, decide_eq_true (by omega), decide_eq_true (by omega)]
    rfl
  have h4 := shown_le13 h1 h.short
  rw [sizeLine_eq]
  omega
theorem repr_ok {x : D} {p : PyData} {w d : Nat} {A : Hd} (hx : toP x = some p) (h : Shw p w d) (hw : w ≤ 2 ^ 20) (hd : d ≤ 60) : gRepr [x] A = .ok (.str p.shown) A := by
  have e : toP (deR A x) = some p := by
    cases x with
    | ref n => unfold toP at hx; cases hx
    | _ => exact hx
  have h2 := h.depth
  unfold gRepr
  simp only [e]
  rw [if_pos ⟨h.show_, by omega, h.len hw hd⟩]
theorem toP_row (r : List Str) : toP (rowD r) = some (rowP r) := by
  unfold rowD toP
  rw [toPs_strs]
  rfl
theorem shw_row {r : List Str} (h : r.all good1 = true) : Shw (rowP r) (9 * r.length) 1 := by
  have hl : r.all laid = true := List.all_eq_true.mpr fun x hx => good1_laid (List.all_eq_true.mp h x hx)
  obtain ⟨a, b⟩ := lay_all hl
  refine ⟨?_, ?_, ?_, ?_, ?_⟩
  · unfold rowP PyData.showable
    exact showAll_strs r
  · unfold rowP PyData.canLay0
    exact a
  · unfold rowP PyData.intsShort
    exact shortAll_strs 13 r
  · unfold rowP PyData.weight
    refine weightAll_strs fun x hx => ?_
    have := List.all_eq_true.mp h x hx
    unfold good1 at this
    rw [Bool.and_eq_true, Bool.and_eq_true] at this
    have h3 : (decide (1 ≤ x.length) && decide (x.length ≤ 8) && x.cps.toList.all fun c => decide (c ∈ abc.cps.toList)) = true := this.2.2
    rw [Bool.and_eq_true, Bool.and_eq_true] at h3
    exact of_decide_eq_true h3.1.2
  · unfold rowP PyData.depth
    omega
theorem rows_P : ∀ {rs : List (List Str)} {m : Nat}, (∀ r ∈ rs, r.all good1 = true) → (∀ r ∈ rs, r.length ≤ m) → toPs (rs.map rowD) = some (rs.map rowP) ∧ PyData.showableAll (rs.map rowP) = true ∧ PyData.canLayAll0 (rs.map rowP) = true ∧ PyData.intsShortAll 13 (rs.map rowP) = true ∧ PyData.weightAll (rs.map rowP) ≤ (9 * m + 1) * rs.length ∧ PyData.depthAll (rs.map rowP) ≤ 1
  | [], _, _, _ => ⟨rfl, rfl, rfl, rfl, Nat.zero_le _, Nat.zero_le _⟩
  | r :: rs, m, h, hm => by
    obtain ⟨a, b, c, d, e, f⟩ := rows_P (rs := rs) (m := m) (fun r hr => h r (List.mem_cons_of_mem _ hr)) fun r hr => hm r (List.mem_cons_of_mem _ hr)
    have s := shw_row (h r List.mem_cons_self)
    have hl := hm r List.mem_cons_self
    refine ⟨?_, ?_, ?_, ?_, ?_, ?_⟩
    · rw [List.map_cons]
      unfold toPs
      rw [a, toP_row]
      rfl
    · rw [List.map_cons]
      unfold PyData.showableAll
      rw [b, s.show_]
      rfl
    · rw [List.map_cons]
      unfold PyData.canLayAll0
      rw [c, s.lay]
      rfl
    · rw [List.map_cons]
      unfold PyData.intsShortAll
      rw [d, s.short]
      rfl
    · rw [List.map_cons]
      unfold PyData.weightAll
      have h1 := s.weight
      have h2 : 9 * r.length ≤ 9 * m := Nat.mul_le_mul_left 9 hl
      rw [List.length_cons, Nat.mul_succ]
      omega
    · rw [List.map_cons]
      unfold PyData.depthAll
      have h1 := s.depth
      omega
theorem repr_row {r : List Str} {A : Hd} (h : r.all good1 = true) (hl : r.length ≤ 1000) : ∃ t, gRepr [rowD r] A = .ok (.str t) A ∧ ∀ A', gRepr [rowD r] A' = .ok (.str t) A' :=
  ⟨_, repr_ok (toP_row r) (shw_row h) (by omega) (by omega), fun A' => repr_ok (toP_row r) (shw_row h) (by omega) (by omega)⟩
theorem repr_rows {rs : List (List Str)} {A : Hd} (h : Rows rs) : ∃ t, gRepr [.lst (rs.map rowD)] A = .ok (.str t) A ∧ ∀ A', gRepr [.lst (rs.map rowD)] A' = .ok (.str t) A' := by
  obtain ⟨a, b, c, d, e, f⟩ := rows_P (m := 8) (fun r hr => (h.row r hr).all) h.len
  have hc := h.cnt
  have ep : toP (.lst (rs.map rowD)) = some (.list (rs.map rowP)) := by
    unfold toP
    rw [a]
  have s : Shw (.list (rs.map rowP)) 730 2 := by
    refine ⟨?_, ?_, ?_, ?_, ?_⟩
    · unfold PyData.showable; exact b
    · unfold PyData.canLay0; exact c
    · unfold PyData.intsShort; exact d
    · unfold PyData.weight; omega
    · unfold PyData.depth; omega
  exact ⟨_, repr_ok ep s (by omega) (by omega), fun A' => repr_ok ep s (by omega) (by omega)⟩
end K05

set_option Elab.async false
set_option linter.all false
set_option maxRecDepth 100000
namespace K05
open PySem PySem.Spec PyProof.Rows L2 DV
/-! ### _law_within of a part in its order -/
def place (r : List Str) (a : Str) : Option Nat := r.findIdx? fun y => decide (y = a)
theorem place_cons (a x : Str) (r : List Str) : place (a :: r) x = if a = x then some 0 else (place r x).map (· + 1) := by
  unfold place
  rw [List.findIdx?_cons]
  by_cases q : a = x <;> simp [q]
theorem places_inc {p r : List Str} (h : p.Sublist r) : r.Nodup → ∃ js : List Nat, p.map (place r) = js.map some ∧ js.Pairwise (· < ·) := by
  induction h with
  | slnil => exact fun _ => ⟨[], rfl, List.Pairwise.nil⟩
  | @cons p r a hs ih =>
    intro nd
    obtain ⟨n1, n2⟩ := List.nodup_cons.mp nd
    obtain ⟨js, e, pw⟩ := ih n2
    refine ⟨js.map (· + 1), ?_, ?_⟩
    · have : p.map (place (a :: r)) = (p.map (place r)).map (fun o => o.map (· + 1)) := by
        rw [List.map_map]
        exact List.map_congr_left fun x hx => by
          rw [place_cons, if_neg (show ¬ a = x from fun q => n1 (by rw [q]; exact hs.subset hx))]
          rfl
      rw [this, e, List.map_map, List.map_map]
      rfl
    · rw [List.pairwise_map]
      exact pw.imp fun h => by omega
  | @cons_cons p r a hs ih =>
    intro nd
    obtain ⟨n1, n2⟩ := List.nodup_cons.mp nd
    obtain ⟨js, e, pw⟩ := ih n2
    refine ⟨0 :: js.map (· + 1), ?_, ?_⟩
    · have : p.map (place (a :: r)) = (p.map (place r)).map (fun o => o.map (· + 1)) := by
        rw [List.map_map]
        exact List.map_congr_left fun x hx => by
          rw [place_cons, if_neg (show ¬ a = x from fun q => n1 (by rw [q]; exact hs.subset hx))]
          rfl
      rw [List.map_cons, this, e, List.map_map, place_cons, if_pos rfl, List.map_cons, List.map_map]
      rfl
    · refine List.Pairwise.cons ?_ ?_
      · intro j hj
        obtain ⟨i, _, rfl⟩ := List.mem_map.mp hj
        omega
      · rw [List.pairwise_map]
        exact pw.imp fun h => by omega
theorem index_ok {r : List Str} {a : Str} {j : Nat} {A : Hd} (h : place r a = some j) : gIndex (rowD r) (.str a) A = .ok (.int (j : Nat)) A := by
  unfold gIndex rowD
  simp only [textsD_map]
  unfold place at h
  rw [h]
def spotD (r : List Str) (d : D) : D := match d with
  | .str x => match place r x with
    | some j => .int (j : Nat)
    | none => .int (-1)
  | _ => .non
theorem in_rowT (x : Str) (r : List Str) (A : Hd) : gIn (.str x) (rowD r) A = .ok (.bl (decide (x ∈ r))) A := by
  have e : inP (.str x) (rowD r) A = some (decide (x ∈ r)) := by
    show (if flatD (.str x) = true ∧ (r.map D.str).all flatD = true then some (memF (.str x) (r.map D.str)) else none) = _
    rw [if_pos ⟨rfl, flat_strs r⟩, mem_strs]
  unfold gIn
  rw [e]
theorem within_ok {p r : List Str} {A : Hd} (hs : p.Sublist r) (nd : r.Nodup) (hl : p.length ≤ 100) : F__law_within [rowD p, rowD r] A = .ok (.bl true) A := by
  have z := sz1000
  obtain ⟨js, ej, pw⟩ := places_inc hs nd
  have lj : js.length = p.length := by
    have := congrArg List.length ej
    rw [List.length_map, List.length_map] at this
    exact this.symm
  let ro0 : DV.Env := [some (rowD p), some (rowD r), none, none, none]
  have c1 := compD_pure (s := .fix (p.map D.str)) (pt := .one 3) (vs := [3]) (tt := ttYes) (te := eIf (tCmpD gIn (eVar 3) (eVar 1)) (eIdx (eVar 1) (eVar 3)) (eBin gSub (eC (.int 0)) (eC (.int 1)))) (ro := ro0) (A := A) (p := fun _ => true) (f := spotD r) (here_fix _ _) (p.map D.str) [] (by simp; omega) (fun d hd => by
    obtain ⟨x, hx, rfl⟩ := List.mem_map.mp hd
    refine ⟨[some (rowD p), some (rowD r), none, some (.str x), none], rfl, rfl, fun _ => ?_⟩
    have hm : x ∈ r := hs.subset hx
    obtain ⟨j, hj⟩ : ∃ j, place r x = some j := by
      have : place r x ∈ js.map some := by rw [← ej]; exact List.mem_map.mpr ⟨x, hx, rfl⟩
      obtain ⟨j, _, e⟩ := List.mem_map.mp this
      exact ⟨j, e.symm⟩
    refine if_ok (z := true) (A1 := A) (tcmp_ok (d := .str x) (e := rowD r) (A1 := A) (A2 := A) rfl rfl ((in_rowT x r A).trans (by rw [decide_eq_true hm]))) ?_
    rw [if_pos rfl]
    show (if isTupD (rowD r) then gIndex (rowD r) (.str x) A else .stk) = _
    have e : spotD r (.str x) = .int (j : Nat) := by
      unfold spotD
      simp only [hj]
    rw [e]
    exact index_ok hj)
  have em : (p.map D.str).map (spotD r) = js.map fun j : Nat => D.int (j : Nat) := by
    have e1 : (p.map D.str).map (spotD r) = (p.map (place r)).map fun o => match o with | some j => D.int (j : Nat) | none => D.int (-1) := by
      rw [List.map_map, List.map_map]
      refine List.map_congr_left fun x _ => ?_
      show spotD r (.str x) = _
      unfold spotD
      rfl
    rw [e1, ej, List.map_map]
    rfl
  rw [List.nil_append, List.filter_eq_self.mpr fun _ _ => rfl, em] at c1
  have e1 := comp_ok (f := iSeq (eVar 0)) (ro := ro0) (A := A) (A1 := A) (s := .fix (p.map D.str)) (seq_ok (d := rowD p) (A1 := A) rfl rfl) c1
  let SD : D := .lst (js.map fun j : Nat => D.int (j : Nat))
  let ro1 : DV.Env := [some (rowD p), some (rowD r), some SD, none, none]
  have at1 : ∀ s (h : s < js.length), L2.atI (js.map fun j : Nat => D.int (j : Nat)) (s : Int) = some (.int (js[s] : Nat)) := fun s h => by
    rw [atI_nat, List.getElem?_map, List.getElem?_eq_getElem h]
    rfl
  have c2 := compD_pure (s := .fix (rangeD 0 js.length)) (pt := .one 4) (vs := [4]) (tt := tOrD (tCmpD gLt (eBin gSubD (eVar 2) (eVar 4)) (eC (.int 0))) (tAndD (tCmpD gGt (eVar 4) (eC (.int 0))) (tCmpD gLe (eBin gSubD (eVar 2) (eVar 4)) (eBin gSubD (eVar 2) (eBin gSub (eVar 4) (eC (.int 1))))))) (te := eVar 4) (ro := ro1) (A := A) (p := fun _ => false) (f := id) (here_fix _ _) (rangeD 0 js.length) [] (by simp [rangeD]; omega) (fun d hd => by
    unfold rangeD at hd
    obtain ⟨s, hs', rfl⟩ := List.mem_map.mp hd
    have hs' := List.mem_range.mp hs'
    let ro4 : DV.Env := [some (rowD p), some (rowD r), some SD, none, some (.int (0 + (s : Nat)))]
    refine ⟨ro4, rfl, ?_, fun h => by cases h⟩
    have sub : eBin gSubD (eVar 2) (eVar 4) ro4 A = .ok (.int (js[s] : Nat)) A := bin_ok (d := SD) (e := .int (0 + (s : Nat))) (A1 := A) (A2 := A) rfl rfl (sub_lst (by rw [show (0 + (s : Nat) : Int) = (s : Nat) by omega]; exact at1 s hs'))
    refine tor_f (A1 := A) (tcmp_ok (d := .int (js[s] : Nat)) (e := .int 0) (A1 := A) (A2 := A) (A3 := A) sub rfl ?_) ?_
    · show R.ok (D.bl (decide (((js[s] : Nat) : Int) < 0))) A = _
      rw [decide_eq_false (by omega)]
    · have t1 : tCmpD gGt (eVar 4) (eC (.int 0)) ro4 A = .ok (decide ((0 : Int) < 0 + (s : Nat))) A := tcmp_ok (d := .int (0 + (s : Nat))) (e := .int 0) (A1 := A) (A2 := A) rfl rfl rfl
      by_cases q : s = 0
      · refine tand_ok (z := false) (A1 := A) (t1.trans (by rw [decide_eq_false (by omega)])) rfl
      · refine tand_ok (z := true) (A1 := A) (t1.trans (by rw [decide_eq_true (by omega)])) ?_
        have hp : s - 1 < js.length := by omega
        have lt : js[s - 1] < js[s] := List.pairwise_iff_getElem.mp pw (s - 1) s hp hs' (by omega)
        have sub2 : eBin gSubD (eVar 2) (eBin gSub (eVar 4) (eC (.int 1))) ro4 A = .ok (.int (js[s - 1] : Nat)) A := bin_ok (d := SD) (e := .int (0 + (s : Nat) - 1)) (A1 := A) (A2 := A) rfl rfl (sub_lst (by rw [show (0 + (s : Nat) - 1 : Int) = ((s - 1 : Nat) : Int) by omega]; exact at1 (s - 1) hp))
        refine (if_pos rfl).trans (tcmp_ok (d := .int (js[s] : Nat)) (e := .int (js[s - 1] : Nat)) (A1 := A) (A2 := A) sub sub2 ?_)
        show R.ok (D.bl (decide (((js[s] : Nat) : Int) ≤ ((js[s - 1] : Nat) : Int)))) A = _
        rw [decide_eq_false (by omega)])
  have ef : (rangeD 0 js.length).filter (fun _ => false) = [] := List.filter_eq_nil_iff.mpr fun _ _ h => by cases h
  rw [List.nil_append, ef] at c2
  have e2 : eComp (iRange1 (aCons (eArgs gLen (aCons (eVar 2) aNil)) aNil)) (.one 4) [4] (tOrD (tCmpD gLt (eBin gSubD (eVar 2) (eVar 4)) (eC (.int 0))) (tAndD (tCmpD gGt (eVar 4) (eC (.int 0))) (tCmpD gLe (eBin gSubD (eVar 2) (eVar 4)) (eBin gSubD (eVar 2) (eBin gSub (eVar 4) (eC (.int 1))))))) (eVar 4) ro1 A = .ok (.lst []) A :=
    comp_ok (s := .fix (rangeD 0 js.length)) (A1 := A) (rng_ok (n := (js.length : Nat)) (A1 := A) (args1_ok (d := SD) (A1 := A) rfl (by
      show R.ok (D.int ((js.map fun j : Nat => D.int (j : Nat)).length : Nat)) A = _
      rw [List.length_map])) (by omega) (by omega)) c2
  show finR A (b__law_within ro0 A) = _
  have body : b__law_within ro0 A = .go (.ret (.bl true)) ro1 A := sseq_ok (sasg_ok e1) (sret_ok (bin_ok (e := .lst []) (A2 := A) e2 (args_ok (ds := []) (A1 := A) rfl rfl) (gEq_nil (ds := []) fun d hd => by cases hd)))
  rw [body]
  exact (cut_self : cutR A (.bl true) A = _)
end K05

set_option Elab.async false
set_option linter.all false
set_option maxRecDepth 100000
/-! the table of the program: dicts of dicts -/
namespace K05
open PySem PySem.Spec PyProof.Rows L2 DV
abbrev Row := List (Str × Nat)
abbrev Tab := List (Str × Row)
def keysT (T : Tab) : List Str := T.map (·.1)
def keysR (r : Row) : List Str := r.map (·.1)
def HasP (T : Tab) (x y : Str) : Prop := ∃ p ∈ T, p.1 = x ∧ y ∈ keysR p.2
def rowE (r : Row) : List (Key × D) := r.map fun q => (.inr q.1, .int (q.2 : Nat))
def tabE (T : Tab) (num : Str → Nat) : List (Key × D) := T.map fun p => (.inr p.1, .ref (num p.1))
def GG (ls : List (List Str)) (x y : Str) (i : Nat) : Prop := ∃ l, ls[i]? = some l ∧ [x, y].Sublist l
structure Tb (n : Nat) (T : Tab) (num : Str → Nat) (B : Hd) : Prop where
  tab : B[n]? = some (.dic (tabE T num))
  row : ∀ p ∈ T, B[num p.1]? = some (.dic (rowE p.2))
  inj : ∀ p ∈ T, ∀ q ∈ T, num p.1 = num q.1 → p.1 = q.1
  far : ∀ p ∈ T, n < num p.1
  nd : (keysT T).Nodup
  oth : ∀ j m, B[j]? = some m → j ≠ n → ∀ z, M.lt z m = true
theorem row_lt (z : Nat) : ∀ r : Row, D.ltk z (rowE r) = true
  | [] => by simp [rowE, D.ltk]
  | q :: r => by
    have := row_lt z r
    unfold rowE at *
    rw [List.map_cons, D.ltk, this]
    simp [D.lt]
theorem oth_snoc {B : Hd} {n : Nat} (h : ∀ j m, B[j]? = some m → j ≠ n → ∀ z, M.lt z m = true) : ∀ j m, (B ++ [M.dic []])[j]? = some m → j ≠ n → ∀ z, M.lt z m = true := fun j m e hj z => by
  by_cases l : j < B.length
  · rw [List.getElem?_append_left l] at e
    exact h j m e hj z
  · rw [List.getElem?_append_right (by omega)] at e
    have hm := List.mem_of_getElem? e
    rw [List.mem_singleton] at hm
    subst hm
    simp [M.lt, D.ltk]
structure Le (T T' : Tab) : Prop where
  keys : ∀ x ∈ keysT T, x ∈ keysT T'
  has : ∀ x y, HasP T x y → HasP T' x y
theorem Le.refl (T : Tab) : Le T T := ⟨fun _ h => h, fun _ _ h => h⟩
theorem Le.trans {a b c : Tab} (h : Le a b) (h2 : Le b c) : Le a c := ⟨fun x z => h2.keys x (h.keys x z), fun x y z => h2.has x y (h.has x y z)⟩
structure Good (ls : List (List Str)) (T : Tab) : Prop where
  step : ∀ p ∈ T, ∀ q ∈ p.2, GG ls p.1 q.1 q.2
  name : ∀ p ∈ T, ∃ l ∈ ls, p.1 ∈ l
  rnd : ∀ p ∈ T, (keysR p.2).Nodup
theorem val_tab {T : Tab} {num : Str → Nat} {x : Str} (h : x ∈ keysT T) : valD (tabE T num) (.inr x) = some (.ref (num x)) := by
  unfold valD tabE keysT at *
  induction T with
  | nil => cases h
  | cons p T ih =>
    rw [List.map_cons, List.find?_cons]
    by_cases e : p.1 = x
    · simp [e]
    · have hn : decide ((Sum.inr p.1 : Key) = .inr x) = false := decide_eq_false fun z => e (Sum.inr.inj z)
      dsimp only
      rw [hn]
      refine ih ?_
      rcases List.mem_cons.mp h with h | h
      · exact absurd h.symm e
      · exact h
theorem val_tab_no {T : Tab} {num : Str → Nat} {x : Str} (h : x ∉ keysT T) : valD (tabE T num) (.inr x) = none := by
  unfold valD tabE keysT at *
  rw [Option.map_eq_none_iff, List.find?_eq_none]
  intro z hz
  obtain ⟨p, hp, rfl⟩ := List.mem_map.mp hz
  simp only [decide_eq_true_eq]
  exact fun e => h (List.mem_map.mpr ⟨p, hp, Sum.inr.inj e⟩)
theorem val_row {r : Row} {y : Str} (h : y ∈ keysR r) : ∃ i : Nat, valD (rowE r) (.inr y) = some (.int i) := by
  unfold valD rowE keysR at *
  induction r with
  | nil => cases h
  | cons p r ih =>
    rw [List.map_cons, List.find?_cons]
    by_cases e : p.1 = y
    · exact ⟨p.2, by simp [e]⟩
    · have hn : decide ((Sum.inr p.1 : Key) = .inr y) = false := decide_eq_false fun z => e (Sum.inr.inj z)
      dsimp only
      rw [hn]
      refine ih ?_
      rcases List.mem_cons.mp h with h | h
      · exact absurd h.symm e
      · exact h
theorem val_row_no {r : Row} {y : Str} (h : y ∉ keysR r) : valD (rowE r) (.inr y) = none := by
  unfold valD rowE keysR at *
  rw [Option.map_eq_none_iff, List.find?_eq_none]
  intro z hz
  obtain ⟨p, hp, rfl⟩ := List.mem_map.mp hz
  simp only [decide_eq_true_eq]
  exact fun e => h (List.mem_map.mpr ⟨p, hp, Sum.inr.inj e⟩)
theorem put_no {es : List (Key × D)} {k : Key} {v : D} (h : valD es k = none) : putD es k v = es ++ [(k, v)] := by
  unfold putD
  rw [valD_any, h]
  rfl
/-! ### found.setdefault(name, {}) -/
def ins1 (T : Tab) (x : Str) : Tab := if x ∈ keysT T then T else T ++ [(x, [])]
theorem ins1_le (T : Tab) (x : Str) : Le T (ins1 T x) ∧ x ∈ keysT (ins1 T x) := by
  unfold ins1
  split
  · rename_i h; exact ⟨Le.refl T, h⟩
  · refine ⟨⟨fun y h => ?_, fun a b ⟨p, hp, h⟩ => ⟨p, List.mem_append_left _ hp, h⟩⟩, ?_⟩
    · unfold keysT at *
      rw [List.map_append]
      exact List.mem_append_left _ h
    · unfold keysT
      simp
theorem ins1_good {ls : List (List Str)} {T : Tab} {x : Str} (h : Good ls T) (hx : ∃ l ∈ ls, x ∈ l) : Good ls (ins1 T x) := by
  unfold ins1
  split
  · exact h
  · refine ⟨fun p hp => ?_, fun p hp => ?_, fun p hp => ?_⟩
    all_goals rcases List.mem_append.mp hp with hp | hp
    · exact h.step p hp
    · rw [List.mem_singleton] at hp; subst hp; intro q hq; cases hq
    · exact h.name p hp
    · rw [List.mem_singleton] at hp; subst hp; exact hx
    · exact h.rnd p hp
    · rw [List.mem_singleton] at hp; subst hp; exact List.nodup_nil
theorem op1 {A X : Hd} {T : Tab} {num : Str → Nat} {x : Str} {ro : DV.Env} (h : Tb A.length T num (A ++ X)) (hl : T.length < sizeLine) (h1 : ro[1]? = some (some (.ref A.length))) (h5 : ro[5]? = some (some (.str x))) :
    ∃ num' X', eSetd (eVar 1) (eVar 5) eDicM ro (A ++ X) = .ok (.ref (num' x)) (A ++ X') ∧ Tb A.length (ins1 T x) num' (A ++ X') := by
  have e1 : eVar 1 ro (A ++ X) = .ok (.ref A.length) (A ++ X) := by unfold eVar; rw [h1]
  have e5 : eVar 5 ro (A ++ X) = .ok (.str x) (A ++ X) := by unfold eVar; rw [h5]
  have nx : A.length < (A ++ X).length := (List.getElem?_eq_some_iff.mp h.tab).1
  have old : ∀ (m : Nat) (v w : M), (A ++ X)[m]? = some v → (A ++ X ++ [w])[m]? = some v := fun m v w e => by
    rw [List.getElem?_append_left (List.getElem?_eq_some_iff.mp e).1]; exact e
  have hd : isDn (A ++ X) (.ref A.length) = true := by
    unfold isDn numD
    simp only [h.tab]
    rfl
  have go : eSetd (eVar 1) (eVar 5) eDicM ro (A ++ X) = gSetd (.ref A.length) (.str x) (.ref (A ++ X).length) (A ++ X ++ [.dic []]) := by
    unfold eSetd
    rw [e1, R.bind_ok, if_pos hd, e5, R.bind_ok]
    rfl
  have hn : numD (A ++ X ++ [.dic []]) (.ref A.length) = some (A.length, tabE T num) := by
    unfold numD
    simp only [old _ _ (.dic []) h.tab]
  have hlt : (tabE T num).length < sizeLine := by unfold tabE; rw [List.length_map]; exact hl
  by_cases e : x ∈ keysT T
  · refine ⟨num, X ++ [.dic []], ?_, ?_⟩
    · rw [go, ← List.append_assoc]
      unfold gSetd
      simp only [hn, keyD, if_pos hlt, val_tab e]
    · unfold ins1
      rw [if_pos e, ← List.append_assoc]
      exact ⟨old _ _ _ h.tab, fun p hp => old _ _ _ (h.row p hp), h.inj, h.far, h.nd, oth_snoc h.oth⟩
  · let num' : Str → Nat := fun y => if y = x then (A ++ X).length else num y
    have nk : ∀ p ∈ T, p.1 ≠ x := fun p hp z => e (List.mem_map.mpr ⟨p, hp, z⟩)
    have n1 : ∀ p ∈ T, num' p.1 = num p.1 := fun p hp => if_neg (nk p hp)
    have n2 : num' x = (A ++ X).length := if_pos rfl
    have te : tabE T num ++ [((.inr x : Key), D.ref (A ++ X).length)] = tabE (T ++ [(x, [])]) num' := by
      unfold tabE
      rw [List.map_append]
      congr 1
      · exact List.map_congr_left fun p hp => by rw [n1 p hp]
      · simp [n2]
    have lt : ∀ p ∈ T, num p.1 < (A ++ X).length := fun p hp => (List.getElem?_eq_some_iff.mp (h.row p hp)).1
    refine ⟨num', (X ++ [M.dic []]).set 0 (.dic (tabE (T ++ [(x, [])]) num')), ?_, ?_⟩
    · rw [go, n2]
      unfold gSetd
      simp only [hn, keyD, if_pos hlt, val_tab_no e, put_no (val_tab_no e), te]
      congr 1
      rw [List.append_assoc, List.set_append_right _ _ (Nat.le_refl _), Nat.sub_self]
    · have se : A ++ (X ++ [M.dic []]).set 0 (.dic (tabE (T ++ [(x, [])]) num')) = (A ++ X ++ [M.dic []]).set A.length (.dic (tabE (T ++ [(x, [])]) num')) := by
        rw [List.append_assoc, List.set_append_right _ _ (Nat.le_refl _), Nat.sub_self]
      unfold ins1
      rw [if_neg e, se]
      refine ⟨?_, fun p hp => ?_, fun p hp q hq en => ?_, fun p hp => ?_, ?_, fun j m e hj => ?_⟩
      rotate_right
      · rw [List.getElem?_set_ne (Ne.symm hj)] at e
        exact oth_snoc h.oth j m e hj
      · rw [List.getElem?_set_self (by rw [List.length_append]; omega)]
      · rcases List.mem_append.mp hp with hp | hp
        · rw [n1 p hp, List.getElem?_set_ne (Nat.ne_of_lt (h.far p hp))]
          exact old _ _ _ (h.row p hp)
        · rw [List.mem_singleton] at hp
          subst hp
          dsimp only
          rw [n2, List.getElem?_set_ne (by omega), List.getElem?_append_right (Nat.le_refl _), Nat.sub_self]
          rfl
      · rcases List.mem_append.mp hp with hp | hp <;> rcases List.mem_append.mp hq with hq | hq
        · rw [n1 p hp, n1 q hq] at en
          exact h.inj p hp q hq en
        · rw [List.mem_singleton] at hq; subst hq
          have := lt p hp
          dsimp only at en
          rw [n1 p hp, n2] at en
          omega
        · rw [List.mem_singleton] at hp; subst hp
          have := lt q hq
          dsimp only at en
          rw [n1 q hq, n2] at en
          omega
        · rw [List.mem_singleton] at hp hq; subst hp; subst hq; rfl
      · rcases List.mem_append.mp hp with hp | hp
        · rw [n1 p hp]; exact h.far p hp
        · rw [List.mem_singleton] at hp; subst hp
          dsimp only
          rw [n2]; exact nx
      · have := h.nd
        unfold keysT at *
        rw [List.map_append]
        exact List.nodup_append.mpr ⟨this, by simp, fun a ha b hb z => e (by simp at hb; subst hb; exact z ▸ ha)⟩
/-! ### row.setdefault(other, index) -/
def addY (i : Nat) (r : Row) (y : Str) : Row := if y ∈ keysR r then r else r ++ [(y, i)]
def ins2 (T : Tab) (x y : Str) (i : Nat) : Tab := T.map fun p => if p.1 = x then (p.1, addY i p.2 y) else p
theorem ins2_keys (T : Tab) (x y : Str) (i : Nat) : keysT (ins2 T x y i) = keysT T := by
  unfold keysT ins2
  rw [List.map_map]
  refine List.map_congr_left fun p _ => ?_
  show (if p.1 = x then (p.1, addY i p.2 y) else p).1 = p.1
  split <;> rfl
theorem addY_keys (i : Nat) (r : Row) (y : Str) : (∀ z ∈ keysR r, z ∈ keysR (addY i r y)) ∧ y ∈ keysR (addY i r y) := by
  unfold addY
  split
  · rename_i h; exact ⟨fun z h => h, h⟩
  · unfold keysR
    rw [List.map_append]
    exact ⟨fun z h => List.mem_append_left _ h, by simp⟩
theorem ins2_le (T : Tab) (x y : Str) (i : Nat) : Le T (ins2 T x y i) := by
  refine ⟨fun z h => by rw [ins2_keys]; exact h, fun a b ⟨p, hp, h1, h2⟩ => ?_⟩
  refine ⟨_, List.mem_map.mpr ⟨p, hp, rfl⟩, ?_, ?_⟩
  · split
    · exact h1
    · exact h1
  · split
    · exact (addY_keys i p.2 y).1 b h2
    · exact h2
theorem ins2_has {T : Tab} {x : Str} (y : Str) (i : Nat) (h : x ∈ keysT T) : HasP (ins2 T x y i) x y := by
  obtain ⟨p, hp, e⟩ := List.mem_map.mp h
  have e : p.1 = x := e
  refine ⟨_, List.mem_map.mpr ⟨p, hp, rfl⟩, ?_, ?_⟩
  · rw [if_pos e]; exact e
  · rw [if_pos e]; exact (addY_keys i p.2 y).2
theorem ins2_good {ls : List (List Str)} {T : Tab} {x y : Str} {i : Nat} (h : Good ls T) (hg : GG ls x y i) : Good ls (ins2 T x y i) := by
  refine ⟨fun p hp => ?_, fun p hp => ?_, fun p hp => ?_⟩
  all_goals
    obtain ⟨p, h0, rfl⟩ := List.mem_map.mp hp
    by_cases e : p.1 = x
  · rw [if_pos e]
    intro q hq
    unfold addY at hq
    split at hq
    · exact h.step p h0 q hq
    · rcases List.mem_append.mp hq with hq | hq
      · exact h.step p h0 q hq
      · rw [List.mem_singleton] at hq
        subst hq
        dsimp only
        rw [e]; exact hg
  · rw [if_neg e]; exact h.step p h0
  · rw [if_pos e]; exact h.name p h0
  · rw [if_neg e]; exact h.name p h0
  · rw [if_pos e]
    have := h.rnd p h0
    show (keysR (addY i p.2 y)).Nodup
    unfold addY
    split
    · exact this
    · rename_i hy
      unfold keysR at *
      rw [List.map_append]
      exact List.nodup_append.mpr ⟨this, by simp, fun a ha b hb z => hy (by simp at hb; subst hb; exact z ▸ ha)⟩
  · rw [if_neg e]; exact h.rnd p h0
theorem op2 {A X : Hd} {T : Tab} {num : Str → Nat} {x y : Str} {i : Nat} {ro : DV.Env} (h : Tb A.length T num (A ++ X)) (hx : x ∈ keysT T) (hl : ∀ p ∈ T, p.2.length < sizeLine) (h6 : ro[6]? = some (some (.ref (num x)))) (h7 : ro[7]? = some (some (.str y))) (h2 : ro[2]? = some (some (.int (i : Nat)))) :
    ∃ X', sEx (eSetd (eVar 6) (eVar 7) (eVar 2)) ro (A ++ X) = .go .nx ro (A ++ X') ∧ Tb A.length (ins2 T x y i) num (A ++ X') := by
  have e6 : eVar 6 ro (A ++ X) = .ok (.ref (num x)) (A ++ X) := by unfold eVar; rw [h6]
  have e7 : eVar 7 ro (A ++ X) = .ok (.str y) (A ++ X) := by unfold eVar; rw [h7]
  have e2 : eVar 2 ro (A ++ X) = .ok (.int (i : Nat)) (A ++ X) := by unfold eVar; rw [h2]
  obtain ⟨p, hp, ep⟩ := List.mem_map.mp hx
  have ep : p.1 = x := ep
  have hr := h.row p hp
  rw [ep] at hr
  have hd : isDn (A ++ X) (.ref (num x)) = true := by
    unfold isDn numD
    simp only [hr]
    rfl
  have hn : numD (A ++ X) (.ref (num x)) = some (num x, rowE p.2) := by
    unfold numD
    simp only [hr]
  have go : eSetd (eVar 6) (eVar 7) (eVar 2) ro (A ++ X) = gSetd (.ref (num x)) (.str y) (.int (i : Nat)) (A ++ X) := by
    unfold eSetd
    rw [e6, R.bind_ok, if_pos hd, e7, R.bind_ok, e2, R.bind_ok]
  have hlt : (rowE p.2).length < sizeLine := by unfold rowE; rw [List.length_map]; exact hl p hp
  have only : ∀ q ∈ T, q.1 = x → q = p := by
    intro q hq eq
    obtain ⟨a, ha, ea⟩ := List.getElem_of_mem hp
    obtain ⟨b, hb, eb⟩ := List.getElem_of_mem hq
    have nd := h.nd
    unfold keysT List.Nodup at nd
    rw [List.pairwise_iff_getElem] at nd
    by_cases l1 : a < b
    · exact absurd (by rw [List.getElem_map, List.getElem_map, ea, eb, ep, eq]) (nd a b (by simpa using ha) (by simpa using hb) l1)
    · by_cases l2 : b < a
      · exact absurd (by rw [List.getElem_map, List.getElem_map, ea, eb, ep, eq]) (nd b a (by simpa using hb) (by simpa using ha) l2)
      · have : a = b := by omega
        subst this
        rw [← ea, ← eb]
  by_cases e : y ∈ keysR p.2
  · have same : ins2 T x y i = T := by
      unfold ins2
      refine (List.map_congr_left fun q hq => ?_).trans (List.map_id _)
      by_cases eq : q.1 = x
      · rw [if_pos eq, only q hq eq]
        unfold addY
        rw [if_pos e]
        rfl
      · rw [if_neg eq]; rfl
    refine ⟨X, ?_, by rw [same]; exact h⟩
    obtain ⟨j, hj⟩ := val_row e
    unfold sEx
    rw [go]
    unfold gSetd
    simp only [hn, keyD, if_pos hlt, hj]
    rfl
  · have fx := h.far p hp
    rw [ep] at fx
    have lx : num x < (A ++ X).length := (List.getElem?_eq_some_iff.mp hr).1
    have se : A ++ X.set (num x - A.length) (.dic (rowE (p.2 ++ [(y, i)]))) = (A ++ X).set (num x) (.dic (rowE (p.2 ++ [(y, i)]))) := by
      rw [List.set_append_right _ _ (by omega)]
    refine ⟨X.set (num x - A.length) (.dic (rowE (p.2 ++ [(y, i)]))), ?_, ?_⟩
    · unfold sEx
      rw [go, se]
      unfold gSetd
      simp only [hn, keyD, if_pos hlt, val_row_no e, put_no (val_row_no e)]
      rw [show rowE p.2 ++ [((.inr y : Key), D.int (i : Nat))] = rowE (p.2 ++ [(y, i)]) by unfold rowE; rw [List.map_append]; rfl]
      rfl
    · rw [se]
      have mem : ∀ q ∈ ins2 T x y i, (∃ q0 ∈ T, q0.1 = q.1) := fun q hq => by
        obtain ⟨q0, h0, rfl⟩ := List.mem_map.mp hq
        exact ⟨q0, h0, by split <;> rfl⟩
      refine ⟨?_, fun q hq => ?_, fun q hq r hr2 en => ?_, fun q hq => ?_, by rw [ins2_keys]; exact h.nd, fun j m e hj => ?_⟩
      rotate_right
      · by_cases ej : j = num x
        · rw [ej, List.getElem?_set_self lx] at e
          cases e
          intro z
          simp only [M.lt]
          exact row_lt z _
        · rw [List.getElem?_set_ne (Ne.symm ej)] at e
          exact h.oth j m e hj
      · rw [List.getElem?_set_ne (Nat.ne_of_gt fx), h.tab]
        congr 2
        unfold tabE ins2
        rw [List.map_map]
        refine List.map_congr_left fun q _ => ?_
        show _ = ((Sum.inr (if q.1 = x then (q.1, addY i q.2 y) else q).1 : Key), D.ref (num (if q.1 = x then (q.1, addY i q.2 y) else q).1))
        split <;> rfl
      · obtain ⟨q0, h0, rfl⟩ := List.mem_map.mp hq
        by_cases eq : q0.1 = x
        · rw [if_pos eq]
          dsimp only
          rw [eq, List.getElem?_set_self lx, only q0 h0 eq]
          unfold addY
          rw [if_neg e]
        · rw [if_neg eq, List.getElem?_set_ne (fun z => eq ?_)]
          · exact h.row q0 h0
          · exact h.inj q0 h0 p hp (by rw [ep]; exact z.symm) |>.trans ep
      · obtain ⟨q0, h0, e0⟩ := mem q hq
        obtain ⟨r0, h1, e1⟩ := mem r hr2
        rw [← e0, ← e1] at en ⊢
        exact h.inj q0 h0 r0 h1 en
      · obtain ⟨q0, h0, e0⟩ := mem q hq
        rw [← e0]
        exact h.far q0 h0
end K05

set_option Elab.async false
set_option linter.all false
set_option maxRecDepth 100000
/-! following -/
namespace K05
open PySem PySem.Spec PyProof.Rows L2 DV
theorem good_row {ls : List (List Str)} {T : Tab} (h : Good ls T) : ∀ p ∈ T, p.2.length ≤ ls.flatten.length := fun p hp => by
  have := Mg.nodup_len (h.rnd p hp) (b := ls.flatten) fun y hy => by
    obtain ⟨q, hq, e⟩ := List.mem_map.mp hy
    have e : q.1 = y := e
    obtain ⟨l, hl, hs⟩ := h.step p hp q hq
    exact List.mem_flatten.mpr ⟨l, List.mem_of_getElem? hl, hs.subset (by rw [← e]; simp)⟩
  unfold keysR at this
  rw [List.length_map] at this
  exact this
theorem good_tab {ls : List (List Str)} {T : Tab} (h : Good ls T) (nd : (keysT T).Nodup) : T.length ≤ ls.flatten.length := by
  have := Mg.nodup_len nd (b := ls.flatten) fun y hy => by
    obtain ⟨p, hp, e⟩ := List.mem_map.mp hy
    have e : p.1 = y := e
    obtain ⟨l, hl, hs⟩ := h.name p hp
    exact List.mem_flatten.mpr ⟨l, hl, e ▸ hs⟩
  unfold keysT at this
  rw [List.length_map] at this
  exact this
abbrev fenv (rs : List (List Str)) (n : Nat) (t2 t3 t4 t5 t6 t7 : Option D) : DV.Env := [some (rowsD rs), some (.ref n), t2, t3, t4, t5, t6, t7]
theorem cut_from (r : List Str) (i : Nat) : DV.cutD (r.map D.str) (some (i : Int)) none = (r.drop i).map D.str := by
  have e1 : HT.sIx (r.map D.str).length 0 (some (i : Int)) = min i r.length := by rw [HT.sIx_nat, List.length_map]
  have e2 : HT.sIx (r.map D.str).length (r.map D.str).length none = r.length := by rw [List.length_map]; rfl
  unfold DV.cutD
  rw [e1, e2, List.map_drop]
  by_cases h : i < r.length
  · rw [show min i r.length = i by omega, List.take_of_length_le (by rw [List.length_drop, List.length_map]; exact Nat.le_refl _)]
  · rw [List.drop_eq_nil_of_le (show (r.map D.str).length ≤ min i r.length by rw [List.length_map]; omega), List.drop_eq_nil_of_le (show (r.map D.str).length ≤ i by rw [List.length_map]; omega)]
    simp
section
variable {rs : List (List Str)} {A : Hd}
noncomputable def fB3 : SF := sEx (eSetd (eVar 6) (eVar 7) (eVar 2))
noncomputable def fB2 : SF := (sSeq (sAsg (eSetd (eVar 1) (eVar 5) eDicM) (gNm 6)) (sFor (iSeq (eCut (eVar 3) (oSome (eBin gAdd (eVar 4) (eC (.int 1)))) oNone)) (gNm 7) fB3))
noncomputable def fB1 : SF := sFor (iEnumS (eVar 3)) (gTpl [(gNm 4), (gNm 5)]) fB2
/-- for other in one[place + 1:] -/
theorem fol3 (hF : rs.flatten.length ≤ 900) {X : Hd} {T : Tab} {num : Str → Nat} {x : Str} {i : Nat} {ys : List Str} {t3 t4 t5 t7 : Option D} (h : Tb A.length T num (A ++ X)) (hg : Good rs T) (hx : x ∈ keysT T) (hy : ∀ y ∈ ys, GG rs x y i) :
    ∃ T' X' t7', forD (.fix (ys.map D.str)) (gNm 7) fB3 (ys.map D.str) (fenv rs A.length (some (.int (i : Nat))) t3 t4 t5 (some (.ref (num x))) t7) (A ++ X) = .go .nx (fenv rs A.length (some (.int (i : Nat))) t3 t4 t5 (some (.ref (num x))) t7') (A ++ X') ∧ Tb A.length T' num (A ++ X') ∧ Good rs T' ∧ Le T T' ∧ ∀ y ∈ ys, HasP T' x y := by
  have z := sz1000
  obtain ⟨ro', A', e, T', X', t7', rfl, rfl, h1, h2, h3, h4⟩ := forD_run (s := .fix (ys.map D.str)) (g := gNm 7) (b := fB3)
    (I := fun k ro B => ∃ T' X' t7', ro = fenv rs A.length (some (.int (i : Nat))) t3 t4 t5 (some (.ref (num x))) t7' ∧ B = A ++ X' ∧ Tb A.length T' num (A ++ X') ∧ Good rs T' ∧ Le T T' ∧ ∀ y ∈ ys.take k, HasP T' x y)
    (fun _ _ A _ => here_fix _ A) (ys.map D.str) 0 _ (A ++ X) ⟨T, X, t7, rfl, rfl, h, hg, Le.refl T, fun y hy => by simp at hy⟩ (by
      rintro k d ro B hd ⟨T', X', t7', rfl, rfl, h1, h2, h3, h4⟩
      rw [Nat.zero_add] at h4 ⊢
      rw [List.getElem?_map] at hd
      obtain ⟨y, hy', rfl⟩ := Option.map_eq_some_iff.mp hd
      have hx' := h3.keys x hx
      obtain ⟨X2, g1, g2⟩ := op2 (A := A) (X := X') (T := T') (x := x) (y := y) (i := i) (ro := fenv rs A.length (some (.int (i : Nat))) t3 t4 t5 (some (.ref (num x))) (some (.str y))) h1 hx' (fun p hp => by have := good_row h2 p hp; omega) rfl rfl rfl
      refine ⟨_, _, step_okL g1, ins2 T' x y i, X2, some (.str y), rfl, rfl, g2, ins2_good h2 (hy y (List.mem_of_getElem? hy')), h3.trans (ins2_le _ _ _ _), fun u hu => ?_⟩
      have tk : ys.take (k + 1) = ys.take k ++ [y] := by rw [List.take_add_one, hy']; rfl
      rw [tk] at hu
      rcases List.mem_append.mp hu with hu | hu
      · exact (ins2_le _ _ _ _).has x u (h4 u hu)
      · rw [List.mem_singleton] at hu
        subst hu
        exact ins2_has u i hx')
  rw [List.length_map, Nat.zero_add, List.take_length] at h4
  exact ⟨T', X', t7', e, h1, h2, h3, h4⟩
/-- for place, name in enumerate(one) -/
theorem fol2 (hF : rs.flatten.length ≤ 900) (hnd : ∀ l ∈ rs, l.Nodup) {X : Hd} {T : Tab} {num : Str → Nat} {l : List Str} {i : Nat} {t4 t5 t6 t7 : Option D} (hl : rs[i]? = some l) (h : Tb A.length T num (A ++ X)) (hg : Good rs T) :
    ∃ T' num' X' t4' t5' t6' t7', fB1 (fenv rs A.length (some (.int (i : Nat))) (some (rowD l)) t4 t5 t6 t7) (A ++ X) = .go .nx (fenv rs A.length (some (.int (i : Nat))) (some (rowD l)) t4' t5' t6' t7') (A ++ X') ∧ Tb A.length T' num' (A ++ X') ∧ Good rs T' ∧ Le T T' ∧ (∀ x ∈ l, x ∈ keysT T') ∧ ∀ x y, [x, y].Sublist l → HasP T' x y := by
  have z := sz1000
  have lm : l ∈ rs := List.mem_of_getElem? hl
  have nd := hnd l lm
  obtain ⟨ro', A', e, T', num', X', t4', t5', t6', t7', rfl, rfl, h1, h2, h3, h4, h5⟩ := forD_run (s := .mix (enD 0 (l.map D.str)) []) (g := gTpl [(gNm 4), (gNm 5)]) (b := fB2)
    (I := fun k ro B => ∃ T' num' X' t4' t5' t6' t7', ro = fenv rs A.length (some (.int (i : Nat))) (some (rowD l)) t4' t5' t6' t7' ∧ B = A ++ X' ∧ Tb A.length T' num' (A ++ X') ∧ Good rs T' ∧ Le T T' ∧ (∀ x ∈ l.take k, x ∈ keysT T') ∧ ∀ j x, j < k → l[j]? = some x → ∀ y ∈ l.drop (j + 1), HasP T' x y)
    (fun _ _ _ _ => fun p hp => by cases hp) (enD 0 (l.map D.str)) 0 _ (A ++ X) ⟨T, num, X, t4, t5, t6, t7, rfl, rfl, h, hg, Le.refl T, fun x hx => by simp at hx, fun j x hj => by omega⟩ (by
      rintro k d ro B hd ⟨T', num', X', t4', t5', t6', t7', rfl, rfl, h1, h2, h3, h4, h5⟩
      rw [Nat.zero_add] at h4 h5 ⊢
      rw [enD_get, List.getElem?_map] at hd
      cases hx : l[k]? with
      | none => rw [hx] at hd; cases hd
      | some x =>
        rw [hx] at hd
        cases hd
        rw [Nat.zero_add]
        have xm : x ∈ l := List.mem_of_getElem? hx
        let ro1 := fenv rs A.length (some (.int (i : Nat))) (some (rowD l)) (some (.int (k : Nat))) (some (.str x)) t6' t7'
        obtain ⟨num2, X2, g1, g2⟩ := op1 (A := A) (X := X') (T := T') (num := num') (x := x) (ro := ro1) h1 (by have := good_tab h2 h1.nd; omega) rfl rfl
        have s1 : sAsg (eSetd (eVar 1) (eVar 5) eDicM) (gNm 6) ro1 (A ++ X') = .go .nx (fenv rs A.length (some (.int (i : Nat))) (some (rowD l)) (some (.int (k : Nat))) (some (.str x)) (some (.ref (num2 x))) t7') (A ++ X2) := sasg_ok g1
        obtain ⟨l1, l2⟩ := ins1_le T' x
        obtain ⟨T3, X3, t7'', f1, f2, f3, f4, f5⟩ := fol3 (A := A) hF (X := X2) (x := x) (i := i) (ys := l.drop (k + 1)) (t3 := some (rowD l)) (t4 := some (.int (k : Nat))) (t5 := some (.str x)) (t7 := t7') g2 (ins1_good h2 ⟨l, lm, xm⟩) l2 fun y hy => ⟨l, hl, (Mg.pair_drop nd hx).mpr hy⟩
        have cut : iSeq (eCut (eVar 3) (oSome (eBin gAdd (eVar 4) (eC (.int 1)))) oNone) (fenv rs A.length (some (.int (i : Nat))) (some (rowD l)) (some (.int (k : Nat))) (some (.str x)) (some (.ref (num2 x))) t7') (A ++ X2) = .ok (.fix ((l.drop (k + 1)).map D.str)) (A ++ X2) := by
          refine seq_ok (d := .tup ((l.drop (k + 1)).map D.str)) (A1 := A ++ X2) ?_ rfl
          show R.ok (D.tup (DV.cutD (l.map D.str) (some ((k : Int) + 1)) none)) (A ++ X2) = _
          rw [show (k : Int) + 1 = ((k + 1 : Nat) : Int) by omega, cut_from]
        have body : fB2 ro1 (A ++ X') = .go .nx (fenv rs A.length (some (.int (i : Nat))) (some (rowD l)) (some (.int (k : Nat))) (some (.str x)) (some (.ref (num2 x))) t7'') (A ++ X3) := sseq_ok s1 (sfor_ok cut f1)
        have L13 := l1.trans f4
        refine ⟨_, _, step2_ok body, T3, num2, X3, _, _, _, t7'', rfl, rfl, f2, f3, h3.trans L13, fun u hu => ?_, fun j u hj hu y hy => ?_⟩
        · have tk : l.take (k + 1) = l.take k ++ [x] := by rw [List.take_add_one, hx]; rfl
          rw [tk] at hu
          rcases List.mem_append.mp hu with hu | hu
          · exact L13.keys u (h4 u hu)
          · rw [List.mem_singleton] at hu
            subst hu
            exact f4.keys u l2
        · by_cases ej : j < k
          · exact L13.has u y (h5 j u ej hu y hy)
          · have ej : j = k := by omega
            subst ej
            rw [hx] at hu
            cases hu
            exact f5 y hy)
  rw [enD_len, List.length_map, Nat.zero_add] at h4 h5
  rw [List.take_length] at h4
  refine ⟨T', num', X', t4', t5', t6', t7', ?_, h1, h2, h3, h4, fun x y hxy => ?_⟩
  · exact sfor_ok (show iEnumS (eVar 3) (fenv rs A.length (some (.int (i : Nat))) (some (rowD l)) t4 t5 t6 t7) (A ++ X) = .ok (.mix (enD 0 (l.map D.str)) []) (A ++ X) from rfl) e
  · obtain ⟨j, hj, ex⟩ := List.getElem_of_mem (hxy.subset List.mem_cons_self : x ∈ l)
    have hj' : l[j]? = some x := by rw [List.getElem?_eq_getElem hj, ex]
    exact h5 j x hj hj' y ((Mg.pair_drop nd hj').mp hxy)
/-- the table stands for the tuples -/
structure TabOk (rs : List (List Str)) (T : Tab) : Prop where
  good : Good rs T
  keys : ∀ l ∈ rs, ∀ x ∈ l, x ∈ keysT T
  has : ∀ x y, Mg.Ahead rs x y → HasP T x y
theorem following_ok (low : ∀ m ∈ A, ∀ z, M.lt z m = true) (hF : rs.flatten.length ≤ 900) (hnd : ∀ l ∈ rs, l.Nodup) : ∃ T num X, F_following [rowsD rs] A = .ok (.ref A.length) (A ++ X) ∧ Tb A.length T num (A ++ X) ∧ TabOk rs T := by
  have z := sz1000
  show ∃ T num X, finK (b_following [some (rowsD rs), none, none, none, none, none, none, none] A) = _ ∧ _
  have s1 : sAsg eDicM (gNm 1) [some (rowsD rs), none, none, none, none, none, none, none] A = .go .nx (fenv rs A.length none none none none none none) (A ++ [M.dic []]) := sasg_ok (d := .ref A.length) rfl
  have t0 : Tb A.length [] (fun _ => 0) (A ++ [M.dic []]) := ⟨by rw [List.getElem?_append_right (Nat.le_refl _), Nat.sub_self]; rfl, fun p hp => (by cases hp), fun p hp => (by cases hp), fun p hp => (by cases hp), List.nodup_nil, oth_snoc fun j m e _ => low m (List.mem_of_getElem? e)⟩
  obtain ⟨ro', A', e, T', num', X', t2', t3', t4', t5', t6', t7', rfl, rfl, h1, h2, h4, h5⟩ := forD_run (s := .mix (enD 0 (rs.map rowD)) []) (g := gTpl [(gNm 2), (gNm 3)]) (b := fB1)
    (I := fun k ro B => ∃ T' num' X' t2' t3' t4' t5' t6' t7', ro = fenv rs A.length t2' t3' t4' t5' t6' t7' ∧ B = A ++ X' ∧ Tb A.length T' num' (A ++ X') ∧ Good rs T' ∧ (∀ l ∈ rs.take k, ∀ x ∈ l, x ∈ keysT T') ∧ ∀ l ∈ rs.take k, ∀ x y, [x, y].Sublist l → HasP T' x y)
    (fun _ _ _ _ => fun p hp => by cases hp) (enD 0 (rs.map rowD)) 0 _ (A ++ [M.dic []]) ⟨[], fun _ => 0, [M.dic []], none, none, none, none, none, none, rfl, rfl, t0, ⟨fun p hp => (by cases hp), fun p hp => (by cases hp), fun p hp => (by cases hp)⟩, fun l hl => by simp at hl, fun l hl => by simp at hl⟩ (by
      rintro k d ro B hd ⟨T', num', X', t2', t3', t4', t5', t6', t7', rfl, rfl, h1, h2, h4, h5⟩
      rw [Nat.zero_add] at h4 h5 ⊢
      rw [enD_get, List.getElem?_map] at hd
      cases hx : rs[k]? with
      | none => rw [hx] at hd; cases hd
      | some l =>
        rw [hx] at hd
        cases hd
        rw [Nat.zero_add]
        obtain ⟨T2, num2, X2, a4, a5, a6, a7, g1, g2, g3, g4, g5, g6⟩ := fol2 (A := A) hF hnd (t4 := t4') (t5 := t5') (t6 := t6') (t7 := t7') hx h1 h2
        have tk : rs.take (k + 1) = rs.take k ++ [l] := by rw [List.take_add_one, hx]; rfl
        refine ⟨_, _, step2_ok g1, T2, num2, X2, _, _, a4, a5, a6, a7, rfl, rfl, g2, g3, fun u hu x hxm => ?_, fun u hu x y hxy => ?_⟩
        · rw [tk] at hu
          rcases List.mem_append.mp hu with hu | hu
          · exact g4.keys x (h4 u hu x hxm)
          · rw [List.mem_singleton] at hu
            subst hu
            exact g5 x hxm
        · rw [tk] at hu
          rcases List.mem_append.mp hu with hu | hu
          · exact g4.has x y (h5 u hu x y hxy)
          · rw [List.mem_singleton] at hu
            subst hu
            exact g6 x y hxy)
  rw [enD_len, List.length_map, Nat.zero_add, List.take_length] at h4 h5
  refine ⟨T', num', X', ?_, h1, h2, h4, fun x y ⟨l, hl, hs⟩ => h5 l hl x y hs⟩
  have s2 : sFor (iEnumS (eVar 0)) (gTpl [(gNm 2), (gNm 3)]) fB1 (fenv rs A.length none none none none none none) (A ++ [M.dic []]) = .go .nx (fenv rs A.length t2' t3' t4' t5' t6' t7') (A ++ X') :=
    sfor_ok (show iEnumS (eVar 0) (fenv rs A.length none none none none none none) (A ++ [M.dic []]) = .ok (.mix (enD 0 (rs.map rowD)) []) (A ++ [M.dic []]) from rfl) e
  have body : b_following [some (rowsD rs), none, none, none, none, none, none, none] A = .go (.ret (.ref A.length)) (fenv rs A.length t2' t3' t4' t5' t6' t7') (A ++ X') := sseq_ok s1 (sseq_ok s2 (sret_ok rfl))
  rw [body]
  rfl
end
end K05

set_option Elab.async false
set_option linter.all false
set_option maxRecDepth 100000
/-! ring_through: the turns over a row -/
namespace K05
open PySem PySem.Spec PyProof.Rows L2 DV
section
variable {B : Hd} {n i : Nat} {ro : DV.Env}
theorem happ {es : List D} {a : EF} {d : D} (h : ro[i]? = some (some (.ref n))) (hn : B[n]? = some (.lst es)) (ha : a ro B = .ok d B) (hl : es.length < sizeLine) :
    sEx (eMeth isL gAppend (eVar i) (aCons a aNil)) ro B = .go .nx ro (B.set n (.lst (es ++ [d]))) := by
  have il : isL B (.ref n) = true := by
    unfold isL asR asL
    simp only [hn]
    rfl
  unfold sEx eMeth
  rw [show eVar i ro B = .ok (.ref n) B by unfold eVar; rw [h], R.bind_ok, if_pos il, acons_ok ha (show aNil ro _ = .ok [] _ from rfl), R.bind_ok]
  unfold gAppend numL
  simp only [hn]
  rw [if_pos hl]
  rfl
theorem hpop {ys : List D} {y : D} (h : ro[i]? = some (some (.ref n))) (hn : B[n]? = some (.lst (y :: ys))) :
    eMeth isL gPopAt (eVar i) (aCons (eC (.int 0)) aNil) ro B = .ok y (B.set n (.lst ys)) := by
  have il : isL B (.ref n) = true := by
    unfold isL asR asL
    simp only [hn]
    rfl
  unfold eMeth
  rw [show eVar i ro B = .ok (.ref n) B by unfold eVar; rw [h], R.bind_ok, if_pos il, acons_ok (show eC (.int 0) ro B = .ok (.int 0) B from rfl) (show aNil ro _ = .ok [] _ from rfl), R.bind_ok]
  unfold gPopAt numL
  simp only [hn]
  rw [if_pos ⟨by omega, by omega⟩]
  rfl
theorem forF_nil {ds : List D} {g : GF} {b : SF} {A : Hd} : forD (.fix ds) g b [] ro A = .go .nx ro A := by
  unfold forD
  rw [if_pos (here_fix _ _)]
theorem forF_cons {ds es : List D} {g : GF} {b : SF} {A A' : Hd} {d : D} {ro' : DV.Env} {o : Out} (h : (g d ro A).out.next b = .go .nx ro' A') (h2 : forD (.fix ds) g b es ro' A' = o) : forD (.fix ds) g b (d :: es) ro A = o := by
  unfold forD
  rw [if_pos (here_fix _ _), h, Out.loop_nx, h2]
end
def stepD (t : Mg.Step3) : D := .tup [.str t.1, .str t.2.1, .int (t.2.2 : Nat)]
def entE (es : List Mg.Ent) : List (Key × D) := es.map fun e => (.inr e.1, stepD (e.2.1, e.1, e.2.2))
theorem val_ent {es : List Mg.Ent} {y : Str} : valD (entE es) (.inr y) = (Mg.lookE es y).map fun p => stepD (p.1, y, p.2) := by
  unfold valD entE Mg.lookE
  induction es with
  | nil => rfl
  | cons e es ih =>
    rw [List.map_cons, List.find?_cons, List.find?_cons]
    by_cases q : e.1 = y
    · subst q
      simp
    · have hn : decide ((Sum.inr e.1 : Key) = .inr y) = false := decide_eq_false fun z => q (Sum.inr.inj z)
      dsimp only
      rw [hn, decide_eq_false q]
      exact ih
theorem look_none {es : List Mg.Ent} {y : Str} : (Mg.lookE es y).isSome = decide (y ∈ Mg.keysE es) := by
  unfold Mg.lookE Mg.keysE
  induction es with
  | nil => rfl
  | cons e es ih =>
    rw [List.find?_cons]
    by_cases q : e.1 = y
    · subst q; simp
    · rw [decide_eq_false q]
      rw [ih]
      have q2 : ¬ y = e.1 := fun z => q z.symm
      simp [q2]
/-- the heap of the search: C, then before and waiting -/
abbrev hq (C : Hd) (es : List Mg.Ent) (q : List Str) : Hd := C ++ [M.dic (entE es), M.lst (q.map D.str)]
section
variable {C : Hd} {es : List Mg.Ent} {q : List Str}
theorem hq_at0 : (hq C es q)[C.length]? = some (.dic (entE es)) := by
  rw [List.getElem?_append_right (Nat.le_refl _), Nat.sub_self]; rfl
theorem hq_at1 : (hq C es q)[C.length + 1]? = some (.lst (q.map D.str)) := by
  rw [List.getElem?_append_right (by omega), show C.length + 1 - C.length = 1 by omega]; rfl
theorem hq_set0 (es' : List Mg.Ent) : (hq C es q).set C.length (.dic (entE es')) = hq C es' q := by
  rw [List.set_append_right _ _ (Nat.le_refl _), Nat.sub_self]; rfl
theorem hq_set1 (q' : List Str) : (hq C es q).set (C.length + 1) (.lst (q'.map D.str)) = hq C es q' := by
  rw [List.set_append_right _ _ (by omega), show C.length + 1 - C.length = 1 by omega]; rfl
theorem hq_old {j : Nat} {m : M} (h : C[j]? = some m) : (hq C es q)[j]? = some m := by
  rw [List.getElem?_append_left (List.getElem?_eq_some_iff.mp h).1, h]
theorem hq_setC {j : Nat} {m : M} (h : j < C.length) : (hq C es q).set j m = hq (C.set j m) es q := by
  rw [List.set_append_left _ _ h]
theorem notin_ok {ro : DV.Env} {i : Nat} {y : Str} (hi : ro[i]? = some (some (.str y))) (h2 : ro[2]? = some (some (.ref C.length))) :
    tCmpD (gInT false) (eVar i) (eVar 2) ro (hq C es q) = .ok (!decide (y ∈ Mg.keysE es)) (hq C es q) := by
  have e1 : eVar i ro (hq C es q) = .ok (.str y) (hq C es q) := by unfold eVar; rw [hi]
  have e2 : eVar 2 ro (hq C es q) = .ok (.ref C.length) (hq C es q) := by unfold eVar; rw [h2]
  refine tcmp_ok e1 e2 ?_
  unfold gInT tabAt
  simp only [hq_at0, keyD]
  rw [val_ent, Option.isSome_map, look_none]
  cases decide (y ∈ Mg.keysE es) <;> rfl
abbrev renv (n m : Nat) (s : Str) (t4 t5 t6 t7 : Option D) : DV.Env := [some (.ref n), some (.str s), some (.ref m), some (.ref (m + 1)), t4, t5, t6, t7]
noncomputable def rB : SF := (sIf (tCmpD (gInT false) (eVar 5) (eVar 2))
  (sSeq (sAsg (eArgs gTupD (aCons (eVar 4) (aCons (eVar 5) (aCons (eVar 6) aNil)))) (gAt (eVar 2) (eVar 5)))
  (sEx (eMeth isL gAppend (eVar 3) (aCons (eVar 5) aNil))))
  sNx)
theorem ent_snoc (es : List Mg.Ent) (e : Mg.Ent) : entE es ++ [((.inr e.1 : Key), stepD (e.2.1, e.1, e.2.2))] = entE (es ++ [e]) := by unfold entE; rw [List.map_append]; rfl
/-- one turn -/
theorem rturn {n : Nat} {s x y : Str} {i : Nat} {t7 : Option D} (hz : es.length < 900) (hz2 : q.length < 1900) :
    rB (renv n C.length s (some (.str x)) (some (.str y)) (some (.int (i : Nat))) t7) (hq C es q) =
      .go .nx (renv n C.length s (some (.str x)) (some (.str y)) (some (.int (i : Nat))) t7) (if y ∈ Mg.keysE es then hq C es q else hq C (es ++ [(y, (x, i))]) (q ++ [y])) := by
  have z := sz1000
  have z2 : 2000 ≤ sizeLine := by rw [sizeLine_eq]; omega
  let ro := renv n C.length s (some (.str x)) (some (.str y)) (some (.int (i : Nat))) t7
  have t := notin_ok (C := C) (es := es) (q := q) (ro := ro) (i := 5) (y := y) rfl rfl
  by_cases e : y ∈ Mg.keysE es
  · rw [if_pos e]
    rw [decide_eq_true e] at t
    exact sif_ok (z := false) t rfl
  · rw [if_neg e]
    rw [decide_eq_false e] at t
    have vn : valD (entE es) (.inr y) = none := by
      rw [val_ent]
      have := look_none (es := es) (y := y)
      rw [decide_eq_false e] at this
      cases q2 : Mg.lookE es y with
      | none => rfl
      | some _ => rw [q2] at this; cases this
    have tp : eArgs gTupD (aCons (eVar 4) (aCons (eVar 5) (aCons (eVar 6) aNil))) ro (hq C es q) = .ok (stepD (x, y, i)) (hq C es q) := args_ok (ds := [.str x, .str y, .int (i : Nat)]) (A1 := hq C es q) rfl (by
      unfold gTupD
      rw [if_pos (by show 3 ≤ sizeLine; omega)]
      rfl)
    have st : gAt (eVar 2) (eVar 5) (stepD (x, y, i)) ro (hq C es q) = .ok ro (hq C (es ++ [(y, (x, i))]) q) := by
      unfold gAt
      rw [show eVar 2 ro (hq C es q) = .ok (.ref C.length) (hq C es q) from rfl, R.bind_ok, show eVar 5 ro (hq C es q) = .ok (.str y) (hq C es q) from rfl, R.bind_ok]
      unfold setD numL numD
      simp only [hq_at0, keyD]
      rw [if_pos (by unfold entE; rw [List.length_map]; omega), put_no vn, ent_snoc es (y, (x, i)), hq_set0]
    have s1 : sAsg (eArgs gTupD (aCons (eVar 4) (aCons (eVar 5) (aCons (eVar 6) aNil)))) (gAt (eVar 2) (eVar 5)) ro (hq C es q) = .go .nx ro (hq C (es ++ [(y, (x, i))]) q) := by
      unfold sAsg
      rw [tp, R.then_ok, st]
      rfl
    have s2 := happ (B := hq C (es ++ [(y, (x, i))]) q) (n := C.length + 1) (i := 3) (ro := ro) (a := eVar 5) (d := .str y) rfl hq_at1 rfl (by rw [List.length_map]; omega)
    rw [show q.map D.str ++ [D.str y] = (q ++ [y]).map D.str by rw [List.map_append]; rfl, hq_set1] at s2
    exact sif_ok (z := true) t (sseq_ok s1 s2)
theorem items_row (r : Row) : itemsD (rowE r) = r.map fun p => D.tup [.str p.1, .int (p.2 : Nat)] := by
  unfold itemsD rowE
  rw [List.map_map]
  rfl
/-- all turns over a row -/
theorem rturns {n : Nat} {s x : Str} {ds : List D} : ∀ (row : Row) (es : List Mg.Ent) (q : List Str) (t5 t6 t7 : Option D), es.length + (Mg.newsE x row (Mg.keysE es)).length < 900 → q.length + (Mg.newsE x row (Mg.keysE es)).length < 1900 →
    ∃ t5' t6', forD (.fix ds) (gTpl [(gNm 5), (gNm 6)]) rB (row.map fun p => D.tup [.str p.1, .int (p.2 : Nat)]) (renv n C.length s (some (.str x)) t5 t6 t7) (hq C es q) =
      .go .nx (renv n C.length s (some (.str x)) t5' t6' t7) (hq C (es ++ Mg.newsE x row (Mg.keysE es)) (q ++ Mg.keysE (Mg.newsE x row (Mg.keysE es))))
  | [], es, q, t5, t6, t7, _, _ => ⟨t5, t6, by rw [List.map_nil, forF_nil]; unfold Mg.newsE; simp [Mg.keysE]⟩
  | (y, i) :: row, es, q, t5, t6, t7, h1, h2 => by
    have t := rturn (C := C) (es := es) (q := q) (n := n) (s := s) (x := x) (y := y) (i := i) (t7 := t7) (by omega) (by omega)
    have tt : ((gTpl [(gNm 5), (gNm 6)]) (D.tup [.str y, .int (i : Nat)]) (renv n C.length s (some (.str x)) t5 t6 t7) (hq C es q)).out.next rB = _ := step2_ok t
    rw [List.map_cons]
    by_cases e : y ∈ Mg.keysE es
    · have en : Mg.newsE x ((y, i) :: row) (Mg.keysE es) = Mg.newsE x row (Mg.keysE es) := by
        rw [Mg.newsE, if_pos e]
      rw [en] at h1 h2 ⊢
      rw [if_pos e] at tt
      obtain ⟨a, b, f⟩ := rturns (x := x) row es q (some (.str y)) (some (.int (i : Nat))) t7 h1 h2
      exact ⟨a, b, forF_cons tt f⟩
    · have en : Mg.newsE x ((y, i) :: row) (Mg.keysE es) = (y, (x, i)) :: Mg.newsE x row (Mg.keysE (es ++ [(y, (x, i))])) := by
        rw [Mg.newsE, if_neg e]
        unfold Mg.keysE
        rw [List.map_append]
        rfl
      rw [en] at h1 h2 ⊢
      rw [List.length_cons] at h1 h2
      rw [if_neg e] at tt
      obtain ⟨a, b, f⟩ := rturns (x := x) row (es ++ [(y, (x, i))]) (q ++ [y]) (some (.str y)) (some (.int (i : Nat))) t7 (by rw [List.length_append]; simp; omega) (by rw [List.length_append]; simp; omega)
      refine ⟨a, b, forF_cons tt (f.trans ?_)⟩
      rw [List.append_assoc, List.append_assoc]
      rfl
end
end K05

set_option Elab.async false
set_option linter.all false
set_option maxRecDepth 100000
/-! ring_through: the search -/
namespace K05
open PySem PySem.Spec PyProof.Rows L2 DV
/-- the table can be read -/
structure TbR (n : Nat) (T : Tab) (num : Str → Nat) (B : Hd) : Prop where
  tab : tabAt B n = some (tabE T num)
  row : ∀ p ∈ T, B[num p.1]? = some (.dic (rowE p.2))
  far : ∀ p ∈ T, n < num p.1
  nd : (keysT T).Nodup
theorem nd_only {T : Tab} (nd : (keysT T).Nodup) {p q : Str × Row} (hp : p ∈ T) (hq : q ∈ T) (e : p.1 = q.1) : p = q := by
  obtain ⟨a, ha, ea⟩ := List.getElem_of_mem hp
  obtain ⟨b, hb, eb⟩ := List.getElem_of_mem hq
  unfold keysT List.Nodup at nd
  rw [List.pairwise_iff_getElem] at nd
  by_cases l1 : a < b
  · exact absurd (by rw [List.getElem_map, List.getElem_map, ea, eb, e]) (nd a b (by simpa using ha) (by simpa using hb) l1)
  · by_cases l2 : b < a
    · exact absurd (by rw [List.getElem_map, List.getElem_map, ea, eb, e]) (nd b a (by simpa using hb) (by simpa using ha) l2)
    · have : a = b := by omega
      subst this
      rw [← ea, ← eb]
section
variable {rs : List (List Str)} {T : Tab} {num : Str → Nat} {n : Nat} {B : Hd} {s : Str}
abbrev BF (rs : List (List Str)) (s : Str) := Mg.Bf (Mg.Ahead rs) s (GG rs)
theorem bf_mem {es : List Mg.Ent} {p : Nat} {dep : Nat → Nat} (h : BF rs s es p dep) : ∀ y ∈ Mg.keysE es, ∃ l ∈ rs, y ∈ l := fun y hy => by
  obtain ⟨e, he, q⟩ := List.mem_map.mp hy
  have q : e.1 = y := q
  obtain ⟨j, hj, ee⟩ := List.getElem_of_mem he
  obtain ⟨_, _, _, _, _, l, hl, hs⟩ := h.ent j e (by rw [List.getElem?_eq_getElem hj, ee])
  exact ⟨l, List.mem_of_getElem? hl, hs.subset (by rw [← q]; simp)⟩
theorem bf_len {es : List Mg.Ent} {p : Nat} {dep : Nat → Nat} (h : BF rs s es p dep) : es.length ≤ rs.flatten.length := by
  have := Mg.nodup_len h.nd (b := rs.flatten) fun y hy => by
    obtain ⟨l, hl, h2⟩ := bf_mem h y hy
    exact List.mem_flatten.mpr ⟨l, hl, h2⟩
  unfold Mg.keysE at this
  rw [List.length_map] at this
  exact this
noncomputable def rFe : EF := eBin gSubT (eVar 0) (eVar 4)
noncomputable def rW : SF := (sSeq (sAsg (eMeth isL gPopAt (eVar 3) (aCons (eC (.int 0)) aNil)) (gNm 4))
  (lockD (eBin gSubT (eVar 0) (eVar 4)) (sFor (iItemsT (eBin gSubT (eVar 0) (eVar 4))) (gTpl [(gNm 5), (gNm 6)]) rB)))
noncomputable def rTest : TF := (tAndD (tOfE (eVar 3)) (tCmpD (gInT false) (eVar 1) (eVar 2)))
theorem fe_ok {C : Hd} {es : List Mg.Ent} {q : List Str} {x : Str} {m : Nat} {t5 t6 t7 : Option D} (ht : tabAt C n = some (tabE T num)) (hx : x ∈ keysT T) :
    rFe (renv n m s (some (.str x)) t5 t6 t7) (hq C es q) = .ok (.ref (num x)) (hq C es q) := by
  refine bin_ok (d := .ref n) (e := .str x) (A1 := hq C es q) (A2 := hq C es q) rfl rfl ?_
  have h2 : tabAt (hq C es q) n = some (tabE T num) := by
    unfold tabAt at *
    cases h : C[n]? with
    | none => rw [h] at ht; cases ht
    | some m => rw [hq_old h]; rw [h] at ht; exact ht
  unfold gSubT
  simp only [h2, keyD, val_tab hx]
/-- one name is taken from the queue -/
theorem rwalk {es : List Mg.Ent} {q : List Str} {x : Str} {row : Row} {t4 t5 t6 t7 : Option D} (h : TbR n T num B) (hp : (x, row) ∈ T)
    (h1 : es.length + (Mg.newsE x row (Mg.keysE es)).length < 900) (h2 : q.length + (Mg.newsE x row (Mg.keysE es)).length < 1900) :
    ∃ t5' t6', rW (renv n B.length s t4 t5 t6 t7) (hq B es (x :: q)) =
      .go .nx (renv n B.length s (some (.str x)) t5' t6' t7) (hq B (es ++ Mg.newsE x row (Mg.keysE es)) (q ++ Mg.keysE (Mg.newsE x row (Mg.keysE es)))) := by
  have hx : x ∈ keysT T := List.mem_map.mpr ⟨_, hp, rfl⟩
  have hr := h.row _ hp
  have hf := h.far _ hp
  dsimp only at hr hf
  have lt : num x < B.length := (List.getElem?_eq_some_iff.mp hr).1
  have s1 : sAsg (eMeth isL gPopAt (eVar 3) (aCons (eC (.int 0)) aNil)) (gNm 4) (renv n B.length s t4 t5 t6 t7) (hq B es (x :: q)) = .go .nx (renv n B.length s (some (.str x)) t5 t6 t7) (hq B es q) := by
    refine (sasg_ok (hpop (n := B.length + 1) (y := .str x) (ys := q.map D.str) rfl hq_at1)).trans ?_
    rw [hq_set1]
    rfl
  let C : Hd := B.set (num x) (.tab (rowE row))
  have lc : C.length = B.length := List.length_set
  have tc : tabAt C n = some (tabE T num) := by
    have := h.tab
    unfold tabAt at *
    rw [List.getElem?_set_ne (Nat.ne_of_gt hf)]
    exact this
  have cx : C[num x]? = some (.tab (rowE row)) := List.getElem?_set_self lt
  have back : (hq C (es ++ Mg.newsE x row (Mg.keysE es)) (q ++ Mg.keysE (Mg.newsE x row (Mg.keysE es)))).set (num x) (.dic (rowE row)) = hq B (es ++ Mg.newsE x row (Mg.keysE es)) (q ++ Mg.keysE (Mg.newsE x row (Mg.keysE es))) := by
    rw [hq_setC (by rw [lc]; exact lt)]
    congr 1
    show (B.set (num x) _).set (num x) _ = B
    rw [List.set_set]
    obtain ⟨hlt, e⟩ := List.getElem?_eq_some_iff.mp hr
    rw [← e, List.set_getElem_self]
  obtain ⟨a, b, f⟩ := rturns (C := C) (n := n) (s := s) (x := x) (ds := itemsD (rowE row)) row es q t5 t6 t7 h1 h2
  rw [lc] at f
  have it : iItemsT (eBin gSubT (eVar 0) (eVar 4)) (renv n B.length s (some (.str x)) t5 t6 t7) (hq C es q) = .ok (.fix (itemsD (rowE row))) (hq C es q) := by
    unfold iItemsT
    rw [show eBin gSubT (eVar 0) (eVar 4) (renv n B.length s (some (.str x)) t5 t6 t7) (hq C es q) = .ok (.ref (num x)) (hq C es q) from fe_ok tc hx, R.bind_ok]
    simp only [hq_old cx]
  rw [← items_row] at f
  have sf := sfor_ok (gf := gTpl [(gNm 5), (gNm 6)]) (p := rB) it f
  refine ⟨a, b, ?_⟩
  unfold rW
  refine sseq_ok s1 ?_
  unfold lockD
  rw [show eBin gSubT (eVar 0) (eVar 4) (renv n B.length s (some (.str x)) t5 t6 t7) (hq B es q) = .ok (.ref (num x)) (hq B es q) from fe_ok h.tab hx]
  simp only [hq_old hr]
  rw [hq_setC lt]
  show unlD _ _ (sFor _ _ _ _ (hq C es q)) = _
  rw [sf]
  show Out.go _ _ _ = _
  rw [back]
def Found (rs : List (List Str)) (s : Str) (es : List Mg.Ent) : Prop := s ∈ Mg.keysE es ∧ ∀ n, es.length ≤ n → Mg.Cyc (Mg.Ahead rs) s (Mg.chainE es s n s).length ∧ Mg.PathE (GG rs) s (Mg.chainE es s n s).reverse s ∧ Mg.ChOk es s n s
def Nope (rs : List (List Str)) (s : Str) (es : List Mg.Ent) : Prop := s ∉ Mg.keysE es ∧ ∀ j, 1 ≤ j → ¬ Mg.W (Mg.Ahead rs) j s s
theorem test_ok' {es : List Mg.Ent} {q : List Str} {t4 t5 t6 t7 : Option D} : rTest (renv n B.length s t4 t5 t6 t7) (hq B es q) = .ok (!q.isEmpty && !decide (s ∈ Mg.keysE es)) (hq B es q) := by
  have t := notin_ok (C := B) (es := es) (q := q) (ro := renv n B.length s t4 t5 t6 t7) (i := 1) (y := s) rfl rfl
  have t1 : tOfE (eVar 3) (renv n B.length s t4 t5 t6 t7) (hq B es q) = .ok (!(q.map D.str).isEmpty) (hq B es q) := tru_ok (d := .ref (B.length + 1)) (A1 := hq B es q) rfl (by
    unfold gTru truD
    simp only [hq_at1])
  refine tand_ok t1 ?_
  cases q with
  | nil => rfl
  | cons a q => exact t
theorem rloop (hF : rs.flatten.length ≤ 800) (h : TbR n T num B) (hT : TabOk rs T) (hs : s ∈ keysT T) {t7 : Option D} : ∀ (N p : Nat) (es : List Mg.Ent) (dep : Nat → Nat) (t4 t5 t6 : Option D), BF rs s es p dep → s ∉ Mg.keysE es → p ≤ es.length + 1 → rs.flatten.length + 1 < N + p →
    ∃ es' q' t4' t5' t6', whileD rTest rW N (renv n B.length s t4 t5 t6 t7) (hq B es ((Mg.seqE s es).drop p)) = .go .nx (renv n B.length s t4' t5' t6' t7) (hq B es' q') ∧ es'.length ≤ rs.flatten.length ∧ (Found rs s es' ∨ Nope rs s es')
  | 0, p, es, dep, t4, t5, t6, b, hn, hp, hN => by
    have := bf_len b
    omega
  | N + 1, p, es, dep, t4, t5, t6, b, hn, hp, hN => by
    have ts := test_ok' (n := n) (B := B) (s := s) (es := es) (q := (Mg.seqE s es).drop p) (t4 := t4) (t5 := t5) (t6 := t6) (t7 := t7)
    have hl := bf_len b
    have sl : (Mg.seqE s es).length = es.length + 1 := by unfold Mg.seqE Mg.keysE; simp
    by_cases e : p ≤ es.length
    · have hlt : p < (Mg.seqE s es).length := by omega
      obtain ⟨x, hx⟩ : ∃ x, (Mg.seqE s es)[p]? = some x := ⟨_, List.getElem?_eq_getElem hlt⟩
      have ed : (Mg.seqE s es).drop p = x :: (Mg.seqE s es).drop (p + 1) := by
        rw [List.drop_eq_getElem_cons hlt]
        rw [List.getElem?_eq_getElem hlt] at hx
        rw [Option.some.inj hx]
      have xk : x ∈ keysT T := by
        have hm : x ∈ Mg.seqE s es := List.mem_of_getElem? hx
        unfold Mg.seqE at hm
        rcases List.mem_cons.mp hm with rfl | hm
        · exact hs
        · obtain ⟨l, hl, h2⟩ := bf_mem b x hm
          exact hT.keys l hl x h2
      obtain ⟨⟨x', row⟩, hpT, ex⟩ := List.mem_map.mp xk
      have ex : x' = x := ex
      subst ex
      have h1 : ∀ y i, (y, i) ∈ row → GG rs x' y i := fun y i hy => hT.good.step _ hpT _ hy
      have h2 : ∀ y, Mg.Ahead rs x' y → ∃ i, (y, i) ∈ row := fun y hy => by
        obtain ⟨p2, hp2, e2, hy2⟩ := hT.has x' y hy
        have := nd_only h.nd hp2 hpT e2
        subst this
        obtain ⟨q, hq, eq⟩ := List.mem_map.mp hy2
        exact ⟨q.2, by rw [← show q.1 = y from eq]; exact hq⟩
      have nb := b.step hn e hx h1 h2
      have nl := bf_len nb
      rw [List.length_append] at nl
      have ql : ((Mg.seqE s es).drop (p + 1)).length ≤ es.length := by rw [List.length_drop]; omega
      rw [ed] at ts ⊢
      rw [decide_eq_false hn] at ts
      obtain ⟨a, c, f⟩ := rwalk (s := s) (t4 := t4) (t5 := t5) (t6 := t6) (t7 := t7) (es := es) (q := (Mg.seqE s es).drop (p + 1)) h hpT (by omega) (by omega)
      have es1 : (Mg.seqE s es).drop (p + 1) ++ Mg.keysE (Mg.newsE x' row (Mg.keysE es)) = (Mg.seqE s (es ++ Mg.newsE x' row (Mg.keysE es))).drop (p + 1) := by
        have : Mg.seqE s (es ++ Mg.newsE x' row (Mg.keysE es)) = Mg.seqE s es ++ Mg.keysE (Mg.newsE x' row (Mg.keysE es)) := by
          unfold Mg.seqE Mg.keysE
          rw [List.map_append]
          rfl
        rw [this, List.drop_append_of_le_length (by omega)]
      rw [es1] at f
      by_cases hn2 : s ∈ Mg.keysE (es ++ Mg.newsE x' row (Mg.keysE es))
      · have fo : Found rs s (es ++ Mg.newsE x' row (Mg.keysE es)) := ⟨hn2, fun m hm => b.found hn e hx h1 h2 (fun x y i ⟨l, hl, hs⟩ => ⟨l, List.mem_of_getElem? hl, hs⟩) hn2 m hm⟩
        have ts2 := test_ok' (n := n) (B := B) (s := s) (es := es ++ Mg.newsE x' row (Mg.keysE es)) (q := (Mg.seqE s (es ++ Mg.newsE x' row (Mg.keysE es))).drop (p + 1)) (t4 := some (.str x')) (t5 := a) (t6 := c) (t7 := t7)
        rw [decide_eq_true hn2, Bool.not_true, Bool.and_false] at ts2
        obtain ⟨N, rfl⟩ : ∃ M, N = M + 1 := ⟨N - 1, by omega⟩
        exact ⟨_, _, _, _, _, whileD_step ts f (whileD_stop ts2), by rw [List.length_append]; exact nl, .inl fo⟩
      · obtain ⟨es', q', t4', t5', t6', g1, g2, g3⟩ := rloop hF h hT hs N (p + 1) (es ++ Mg.newsE x' row (Mg.keysE es)) _ (some (.str x')) a c nb hn2 (by rw [List.length_append]; omega) (by omega)
        exact ⟨es', q', t4', t5', t6', whileD_step ts f g1, g2, g3⟩
    · have ed : (Mg.seqE s es).drop p = [] := List.drop_eq_nil_of_le (by omega)
      rw [ed] at ts ⊢
      exact ⟨es, [], t4, t5, t6, whileD_stop ts, hl, .inr ⟨hn, b.none hn (by omega)⟩⟩
end
end K05

set_option Elab.async false
set_option linter.all false
set_option maxRecDepth 100000
/-! ring_through: the steps back, and the whole -/
namespace K05
open PySem PySem.Spec PyProof.Rows L2 DV
section
variable {rs : List (List Str)} {T : Tab} {num : Str → Nat} {n : Nat} {B : Hd} {s : Str} {es : List Mg.Ent} {q : List Str}
abbrev hf (C : Hd) (es : List Mg.Ent) (q : List Str) (acc : List Mg.Step3) : Hd := hq C es q ++ [M.lst (acc.map stepD)]
theorem hf_at {acc : List Mg.Step3} : (hf B es q acc)[B.length + 2]? = some (.lst (acc.map stepD)) := by
  have : (hq B es q).length = B.length + 2 := by simp [hq]
  rw [← this, List.getElem?_append_right (Nat.le_refl _), Nat.sub_self]; rfl
theorem hf_set {acc : List Mg.Step3} (acc' : List Mg.Step3) : (hf B es q acc).set (B.length + 2) (.lst (acc'.map stepD)) = hf B es q acc' := by
  have : (hq B es q).length = B.length + 2 := by simp [hq]
  rw [← this, List.set_append_right _ _ (Nat.le_refl _), Nat.sub_self]; rfl
noncomputable def lastF : EF := eBin gSubD (eBin gSubD (eVar 7) (eUn gNeg (eC (.int 1)))) (eC (.int 0))
theorem last_ok {pre : List Mg.Step3} {t : Mg.Step3} {t4 t5 t6 : Option D} : lastF (renv n B.length s t4 t5 t6 (some (.ref (B.length + 2)))) (hf B es q (pre ++ [t])) = .ok (.str t.1) (hf B es q (pre ++ [t])) := by
  refine bin_ok (d := stepD t) (e := .int 0) (A1 := hf B es q (pre ++ [t])) (A2 := hf B es q (pre ++ [t])) ?_ rfl (sub_tup rfl)
  refine bin_ok (d := .ref (B.length + 2)) (e := .int (-1)) (A1 := hf B es q (pre ++ [t])) (A2 := hf B es q (pre ++ [t])) rfl rfl (sub_num hf_at ?_)
  have l : ((pre ++ [t]).map stepD).length = pre.length + 1 := by simp
  have g : ((pre ++ [t]).map stepD)[pre.length]? = some (stepD t) := by simp
  unfold L2.atI
  have e : L2.ixN ((pre ++ [t]).map stepD).length (-1) = some pre.length := by
    rw [l]
    unfold L2.ixN
    rw [if_neg (by omega)]
    first
      | (rw [if_pos (by omega)]; congr 1; omega)
      | (rw [if_neg (by omega)]; congr 1; omega)
  rw [e]
  exact g
theorem gNe_strs (x y : Str) (A : Hd) : gNe (.str x) (.str y) A = .ok (.bl (!decide (x = y))) A := rfl
noncomputable def fTest : TF := tCmpD gNe lastF (eVar 1)
noncomputable def fBody : SF := sEx (eMeth isL gAppend (eVar 7) (aCons (eBin gSubT (eVar 2) lastF) aNil))
theorem floop {t4 t5 t6 : Option D} : ∀ (k N : Nat) (pre : List Mg.Step3) (x y : Str) (i : Nat), k < N → (x = s ∨ Mg.ChOk es s k x) → pre.length + k ≤ 900 →
    whileD fTest fBody N (renv n B.length s t4 t5 t6 (some (.ref (B.length + 2)))) (hf B es q (pre ++ [(x, y, i)])) =
      .go .nx (renv n B.length s t4 t5 t6 (some (.ref (B.length + 2)))) (hf B es q (pre ++ [(x, y, i)] ++ (if x = s then [] else Mg.chainE es s k x)))
  | k, 0, _, _, _, _, h, _, _ => by omega
  | k, N + 1, pre, x, y, i, h, hc, hl => by
    have z := sz1000
    have z2 : 2000 ≤ sizeLine := by rw [sizeLine_eq]; omega
    let ro := renv n B.length s t4 t5 t6 (some (.ref (B.length + 2)))
    have lo := last_ok (n := n) (B := B) (s := s) (es := es) (q := q) (pre := pre) (t := (x, y, i)) (t4 := t4) (t5 := t5) (t6 := t6)
    have ts : fTest ro (hf B es q (pre ++ [(x, y, i)])) = .ok (!decide (x = s)) (hf B es q (pre ++ [(x, y, i)])) := tcmp_ok (e := .str s) (A2 := hf B es q (pre ++ [(x, y, i)])) lo rfl (gNe_strs _ _ _)
    by_cases e : x = s
    · rw [if_pos e, List.append_nil]
      rw [decide_eq_true e] at ts
      exact whileD_stop ts
    · rw [if_neg e]
      rw [decide_eq_false e] at ts
      have hc := hc.resolve_left e
      cases k with
      | zero => exact hc.elim
      | succ k =>
        obtain ⟨x2, i2, lk, hc2⟩ := hc
        have sb : eBin gSubT (eVar 2) lastF ro (hf B es q (pre ++ [(x, y, i)])) = .ok (stepD (x2, x, i2)) (hf B es q (pre ++ [(x, y, i)])) := by
          refine bin_ok (d := .ref B.length) (e := .str x) (A1 := hf B es q (pre ++ [(x, y, i)])) (A2 := hf B es q (pre ++ [(x, y, i)])) rfl lo ?_
          have h0 : (hf B es q (pre ++ [(x, y, i)]))[B.length]? = some (.dic (entE es)) := by
            rw [List.getElem?_append_left (by simp [hq])]
            exact hq_at0
          unfold gSubT tabAt
          simp only [h0, keyD, val_ent, lk]
          rfl
        have bd : fBody ro (hf B es q (pre ++ [(x, y, i)])) = .go .nx ro (hf B es q (pre ++ [(x, y, i)] ++ [(x2, x, i2)])) := by
          refine (happ (n := B.length + 2) (i := 7) rfl hf_at sb (by simp; omega)).trans ?_
          rw [show (pre ++ [(x, y, i)]).map stepD ++ [stepD (x2, x, i2)] = (pre ++ [(x, y, i)] ++ [(x2, x, i2)]).map stepD by rw [List.map_append (l₁ := pre ++ [(x, y, i)])]; rfl, hf_set]
        have ih := floop (t4 := t4) (t5 := t5) (t6 := t6) k N (pre ++ [(x, y, i)]) x2 x i2 (by omega) hc2 (by simp; omega)
        refine whileD_step ts bd (ih.trans ?_)
        congr 2
        rw [List.append_assoc]
        congr 1
        rw [Mg.chainE, lk]
        rfl
theorem steps_lt (z : Nat) : ∀ st : List Mg.Step3, D.lts z (st.map stepD) = true
  | [] => by simp [D.lts]
  | t :: st => by
    rw [List.map_cons, D.lts, steps_lt z st]
    simp [stepD, D.lt, D.lts]
theorem chain_len (es : List Mg.Ent) (s : Str) : ∀ (n : Nat) (x : Str), (Mg.chainE es s n x).length ≤ n
  | 0, _ => Nat.le_refl _
  | n + 1, x => by
    unfold Mg.chainE
    split
    · exact Nat.zero_le _
    · rw [List.length_cons]
      split
      · simp
      · exact Nat.succ_le_succ (chain_len es s n _)
theorem ring_ok (hF : rs.flatten.length ≤ 190) (h : TbR n T num B) (hT : TabOk rs T) (hs : s ∈ keysT T) (low : ∀ m ∈ B, M.lt B.length m = true) :
    ∃ d, F_ring_through [.ref n, .str s] B = .ok d B ∧ ((d = .non ∧ ∀ j, 1 ≤ j → ¬ Mg.W (Mg.Ahead rs) j s s) ∨ ∃ st : List Mg.Step3, d = .tup (st.map stepD) ∧ Mg.Cyc (Mg.Ahead rs) s st.length ∧ Mg.PathE (GG rs) s st s ∧ st.length ≤ 190) := by
  have z := sz1000
  let ro0 : DV.Env := [some (.ref n), some (.str s), none, none, none, none, none, none]
  have par : sPar (aCons eDicM (aCons (eArgs gLstM (aCons (eVar 1) aNil)) aNil)) [2, 3] ro0 B = .go .nx (renv n B.length s none none none none) (hq B [] [s]) := by
    have a2 : eArgs gLstM (aCons (eVar 1) aNil) ro0 (B ++ [M.dic []]) = .ok (.ref (B.length + 1)) (B ++ [M.dic []] ++ [M.lst [.str s]]) := args1_ok (d := .str s) (A1 := B ++ [M.dic []]) rfl (by
      unfold gLstM
      rw [if_pos (by show 1 ≤ sizeLine; omega), List.length_append]
      rfl)
    unfold sPar
    rw [acons_ok (show eDicM ro0 B = .ok (.ref B.length) (B ++ [M.dic []]) from rfl) (acons_ok a2 (show aNil _ _ = .ok [] _ from rfl)), List.append_assoc]
    rfl
  have b0 := Mg.Bf.init (Mg.Ahead rs) s (GG rs)
  obtain ⟨es, q, t4, t5, t6, w1, w2, w3⟩ := rloop (t7 := none) (by omega) h hT hs 200 0 [] _ none none none b0 (by simp [Mg.keysE]) (Nat.zero_le _) (by omega)
  have w1 : whileD rTest rW 200 (renv n B.length s none none none none) (hq B [] [s]) = _ := w1
  let ro1 := renv n B.length s t4 t5 t6 none
  have tn := notin_ok (C := B) (es := es) (q := q) (ro := ro1) (i := 1) (y := s) rfl rfl
  have cutv : ∀ (d : D) (X : Hd), (∀ z, d.lt z = true) → finR B (.go (.ret d) ro1 (B ++ X)) = .ok d B := fun d X hd => cut_val (A := B) (A1 := B) (X := X) rfl low (hd _)
  rcases w3 with ⟨f1, f2⟩ | ⟨f1, f2⟩
  · obtain ⟨c1, c2, c3⟩ := f2 es.length (Nat.le_refl _)
    rw [decide_eq_true f1] at tn
    refine ⟨.tup ((Mg.chainE es s es.length s).reverse.map stepD), ?_, .inr ⟨_, rfl, by rw [List.length_reverse]; exact c1, c2, by rw [List.length_reverse]; have := chain_len es s es.length s; omega⟩⟩
    show finR B (b_ring_through ro0 B) = _
    obtain ⟨k, hk⟩ : ∃ k, es.length = k + 1 := by
      cases hk : es.length with
      | zero => rw [hk] at c3; exact c3.elim
      | succ k => exact ⟨k, rfl⟩
    rw [hk] at c3 ⊢
    obtain ⟨x, i, lk, hc⟩ := c3
    have ech : Mg.chainE es s (k + 1) s = [(x, s, i)] ++ (if x = s then [] else Mg.chainE es s k x) := by rw [Mg.chainE, lk]; rfl
    have sb : eBin gSubT (eVar 2) (eVar 1) ro1 (hq B es q) = .ok (stepD (x, s, i)) (hq B es q) := by
      refine bin_ok (d := .ref B.length) (e := .str s) (A1 := hq B es q) (A2 := hq B es q) rfl rfl ?_
      unfold gSubT tabAt
      simp only [hq_at0, keyD, val_ent, lk]
      rfl
    have lq : (hq B es q).length = B.length + 2 := by simp [hq]
    have s7 : sAsg (eArgs gLstM (aCons (eBin gSubT (eVar 2) (eVar 1)) aNil)) (gNm 7) ro1 (hq B es q) = .go .nx (renv n B.length s t4 t5 t6 (some (.ref (B.length + 2)))) (hf B es q [(x, s, i)]) := by
      refine (sasg_ok (args1_ok (d := stepD (x, s, i)) (A1 := hq B es q) (r := .ok (.ref (B.length + 2)) (hf B es q [(x, s, i)])) sb ?_)).trans rfl
      unfold gLstM
      rw [if_pos (by show 1 ≤ sizeLine; omega), lq]
      rfl
    have fl := floop (n := n) (B := B) (q := q) (t4 := t4) (t5 := t5) (t6 := t6) k 200 [] x s i (by omega) hc (by simp; omega)
    rw [List.nil_append, ← ech] at fl
    let acc := Mg.chainE es s (k + 1) s
    let ro2 := renv n B.length s t4 t5 t6 (some (.ref (B.length + 2)))
    have rv : eArgs gTuple (aCons (eUn gRev (eVar 7)) aNil) ro2 (hf B es q acc) = .ok (.tup (acc.reverse.map stepD)) (hf B es q acc) := by
      refine args1_ok (d := .lst (acc.map stepD).reverse) (A1 := hf B es q acc) (un_ok (d := .ref (B.length + 2)) (A1 := hf B es q acc) rfl ?_) ?_
      · unfold gRev asR asL
        simp only [hf_at]
      · rw [List.map_reverse]
        rfl
    have body : b_ring_through ro0 B = .go (.ret (.tup (acc.reverse.map stepD))) ro2 (hf B es q acc) := sseq_ok par (sseq_ok w1 (sseq_ok (sif_ok (z := false) tn rfl) (sseq_ok s7 (sseq_ok fl (sret_ok rv)))))
    rw [body, show hf B es q acc = B ++ ([M.dic (entE es), M.lst (q.map D.str)] ++ [M.lst (acc.map stepD)]) from List.append_assoc _ _ _]
    exact cut_val (A := B) (A1 := B) rfl low (by simp only [D.lt]; exact steps_lt _ _)
  · rw [decide_eq_false f1] at tn
    refine ⟨.non, ?_, .inl ⟨rfl, f2⟩⟩
    show finR B (b_ring_through ro0 B) = _
    have body : b_ring_through ro0 B = .go (.ret .non) ro1 (hq B es q) := sseq_ok par (sseq_ok w1 (sseq_ret (sif_ok (z := true) tn rfl)))
    rw [body]
    exact cutv .non _ fun _ => by simp [D.lt]
end
end K05

set_option Elab.async false
set_option linter.all false
set_option maxRecDepth 100000
/-! shortest_ring -/
namespace K05
open PySem PySem.Spec PyProof.Rows L2 DV
def BestD (rs : List (List Str)) (d : D) (b : Nat) : Prop := (d = .non ∧ b = 0) ∨ ∃ (st : List Mg.Step3) (s : Str), d = .tup (st.map stepD) ∧ st.length = b ∧ b ≠ 0 ∧ Mg.PathE (GG rs) s st s ∧ st.length ≤ 190
theorem bestD_lt {rs : List (List Str)} {d : D} {b : Nat} (h : BestD rs d b) (n : Nat) : d.lt n = true := by
  rcases h with ⟨rfl, _⟩ | ⟨st, s, rfl, _⟩
  · simp [D.lt]
  · simp only [D.lt]
    exact steps_lt n st
theorem ltk_tab {z : Nat} {num : Str → Nat} : ∀ {T : Tab}, (∀ p ∈ T, num p.1 < z) → D.ltk z (tabE T num) = true
  | [], _ => by simp [tabE, D.ltk]
  | p :: T, h => by
    have := ltk_tab (z := z) (num := num) (T := T) fun q hq => h q (List.mem_cons_of_mem _ hq)
    have h1 := h p List.mem_cons_self
    unfold tabE at *
    rw [List.map_cons, D.ltk, this]
    simp [D.lt, h1]
abbrev senv (rs : List (List Str)) (n : Nat) (best t3 t4 : Option D) : DV.Env := [some (rowsD rs), some (.ref n), best, t3, t4]
section
variable {rs : List (List Str)} {T : Tab} {num : Str → Nat} {n : Nat} {B : Hd}
noncomputable def sB : SF := (sSeq (sAsg (eArgs (fun ds A => F_ring_through (ds ++ []) A) (aCons (eVar 1) (aCons (eVar 3) aNil))) (gNm 4))
  (sIf (tAndD (tCmpD gNotN (eVar 4) (eC .non)) (tOrD (tCmpD gIsN (eVar 2) (eC .non)) (tCmpD gLt (eArgs gLen (aCons (eVar 4) aNil)) (eArgs gLen (aCons (eVar 2) aNil)))))
  (sAsg (eVar 4) (gNm 2))
  sNx))
theorem lens {st : List Mg.Step3} {i : Nat} {ro : DV.Env} {A : Hd} (h : ro[i]? = some (some (.tup (st.map stepD)))) : eArgs gLen (aCons (eVar i) aNil) ro A = .ok (.int (st.length : Nat)) A := by
  refine args1_ok (d := .tup (st.map stepD)) (A1 := A) (by unfold eVar; rw [h]) ?_
  show R.ok (D.int ((st.map stepD).length : Nat)) A = _
  rw [List.length_map]
theorem sturn (hF : rs.flatten.length ≤ 190) (h : TbR n T num B) (hT : TabOk rs T) {s : Str} (hs : s ∈ keysT T) (low : ∀ m ∈ B, M.lt B.length m = true) {best : D} {b : Nat} {seen : List Str} {t4 : Option D}
    (hb : BestD rs best b) (hl : Mg.LeastIn (Mg.Ahead rs) seen b) :
    ∃ best' b' t4', sB (senv rs n (some best) (some (.str s)) t4) B = .go .nx (senv rs n (some best') (some (.str s)) t4') B ∧ BestD rs best' b' ∧ Mg.LeastIn (Mg.Ahead rs) (seen ++ [s]) b' := by
  obtain ⟨d, f1, f2⟩ := ring_ok hF h hT hs low
  let ro0 := senv rs n (some best) (some (.str s)) t4
  have e1 : eArgs (fun ds A => F_ring_through (ds ++ []) A) (aCons (eVar 1) (aCons (eVar 3) aNil)) ro0 B = .ok d B := args2_ok (d := .ref n) (e := .str s) (A1 := B) (A2 := B) rfl rfl f1
  have s1 : sAsg (eArgs (fun ds A => F_ring_through (ds ++ []) A) (aCons (eVar 1) (aCons (eVar 3) aNil))) (gNm 4) ro0 B = .go .nx (senv rs n (some best) (some (.str s)) (some d)) B :=
    (sasg_ok e1).trans rfl
  let ro := senv rs n (some best) (some (.str s)) (some d)
  rcases f2 with ⟨rfl, no⟩ | ⟨st, rfl, hc, hp, hsl⟩
  · refine ⟨best, b, _, sseq_ok s1 (sif_ok (z := false) (A1 := B) (tand_ok (z := false) (A1 := B) (tcmp_ok (d := .non) (e := .non) (A1 := B) (A2 := B) rfl rfl rfl) rfl) rfl), hb, hl.skip no⟩
  · have t1 : tCmpD gNotN (eVar 4) (eC .non) ro B = .ok true B := tcmp_ok (d := .tup (st.map stepD)) (e := .non) (A1 := B) (A2 := B) rfl rfl rfl
    have pos := hc.1
    have nw : BestD rs (.tup (st.map stepD)) st.length := .inr ⟨st, s, rfl, rfl, by omega, hp, hsl⟩
    have ad := hl.add hc
    rcases hb with ⟨rfl, rfl⟩ | ⟨st0, s0, rfl, e0, nz, hp0, hs0⟩
    · refine ⟨_, st.length, _, sseq_ok s1 (sif_ok (z := true) (A1 := B) (tand_ok (z := true) (A1 := B) t1 (tor_ok (z := true) (A1 := B) (tcmp_ok (d := .non) (e := .non) (A1 := B) (A2 := B) rfl rfl rfl) rfl)) (sasg_ok (d := .tup (st.map stepD)) (A1 := B) rfl)), nw, ?_⟩
      rw [if_pos (.inl rfl)] at ad
      exact ad
    · have t2 : tCmpD gLt (eArgs gLen (aCons (eVar 4) aNil)) (eArgs gLen (aCons (eVar 2) aNil)) ro B = .ok (decide ((st.length : Int) < (st0.length : Nat))) B := tcmp_ok (A1 := B) (A2 := B) (lens rfl) (lens rfl) rfl
      have t3 : tAndD (tCmpD gNotN (eVar 4) (eC .non)) (tOrD (tCmpD gIsN (eVar 2) (eC .non)) (tCmpD gLt (eArgs gLen (aCons (eVar 4) aNil)) (eArgs gLen (aCons (eVar 2) aNil)))) ro B = .ok (decide ((st.length : Int) < (st0.length : Nat))) B :=
        tand_ok (z := true) (A1 := B) t1 (tor_ok (z := false) (A1 := B) (tcmp_ok (d := .tup (st0.map stepD)) (e := .non) (A1 := B) (A2 := B) rfl rfl rfl) t2)
      subst e0
      by_cases e : st.length < st0.length
      · rw [decide_eq_true (by omega)] at t3
        rw [if_pos (.inr e)] at ad
        exact ⟨_, st.length, _, sseq_ok s1 (sif_ok (z := true) (A1 := B) t3 (sasg_ok (d := .tup (st.map stepD)) (A1 := B) rfl)), nw, ad⟩
      · rw [decide_eq_false (by omega)] at t3
        rw [if_neg (by omega)] at ad
        exact ⟨_, st0.length, _, sseq_ok s1 (sif_ok (z := false) (A1 := B) t3 rfl), .inr ⟨st0, s0, rfl, rfl, nz, hp0, hs0⟩, ad⟩
theorem sloop (hF : rs.flatten.length ≤ 190) (h : TbR n T num B) (hT : TabOk rs T) (low : ∀ m ∈ B, M.lt B.length m = true) {ds : List D} : ∀ (ks seen : List Str) (best : D) (b : Nat) (t3 t4 : Option D), (∀ x ∈ ks, x ∈ keysT T) → BestD rs best b → Mg.LeastIn (Mg.Ahead rs) seen b →
    ∃ best' b' t3' t4', forD (.fix ds) (gNm 3) sB (ks.map D.str) (senv rs n (some best) t3 t4) B = .go .nx (senv rs n (some best') t3' t4') B ∧ BestD rs best' b' ∧ Mg.LeastIn (Mg.Ahead rs) (seen ++ ks) b'
  | [], seen, best, b, t3, t4, _, hb, hl => ⟨best, b, t3, t4, forF_nil, hb, by rw [List.append_nil]; exact hl⟩
  | s :: ks, seen, best, b, t3, t4, hk, hb, hl => by
    obtain ⟨best1, b1, t41, f, hb1, hl1⟩ := sturn hF h hT (hk s List.mem_cons_self) low (t4 := t4) hb hl
    obtain ⟨best2, b2, t32, t42, g, hb2, hl2⟩ := sloop hF h hT low (ds := ds) ks (seen ++ [s]) best1 b1 (some (.str s)) t41 (fun x hx => hk x (List.mem_cons_of_mem _ hx)) hb1 hl1
    refine ⟨best2, b2, t32, t42, ?_, hb2, by rw [List.append_assoc] at hl2; exact hl2⟩
    rw [List.map_cons]
    exact forF_cons (step_okL f) g
end
theorem keysD_tab {T : Tab} {num : Str → Nat} : keysD (tabE T num) = (keysT T).map D.str := by
  unfold keysD tabE keysT
  rw [List.map_map, List.map_map]
  rfl
theorem shortest_ok {rs : List (List Str)} {A : Hd} (low : ∀ m ∈ A, ∀ z, M.lt z m = true) (hF : rs.flatten.length ≤ 190) (hnd : ∀ l ∈ rs, l.Nodup) :
    ∃ d b U, F_shortest_ring [rowsD rs] A = .ok d A ∧ BestD rs d b ∧ Mg.LeastIn (Mg.Ahead rs) U b ∧ ∀ x, x ∈ U ↔ ∃ l ∈ rs, x ∈ l := by
  obtain ⟨T, num, X, f1, f2, f3⟩ := following_ok low (by omega) hnd
  let n := A.length
  let ro0 : DV.Env := [some (rowsD rs), none, none, none, none]
  have e1 : eArgs (fun ds A => F_following (ds ++ []) A) (aCons (eVar 0) aNil) ro0 A = .ok (.ref A.length) (A ++ X) := args1_ok (d := rowsD rs) (A1 := A) rfl f1
  have par : sPar (aCons (eArgs (fun ds A => F_following (ds ++ []) A) (aCons (eVar 0) aNil)) (aCons (eC .non) aNil)) [1, 2] ro0 A = .go .nx (senv rs n (some .non) none none) (A ++ X) := by
    unfold sPar
    rw [acons_ok e1 (acons_ok (show eC .non ro0 (A ++ X) = .ok .non (A ++ X) from rfl) (show aNil _ _ = .ok [] _ from rfl))]
    rfl
  let B : Hd := (A ++ X).set n (.tab (tabE T num))
  have lt : n < (A ++ X).length := (List.getElem?_eq_some_iff.mp f2.tab).1
  have lB : B.length = (A ++ X).length := List.length_set
  have tB : B[n]? = some (.tab (tabE T num)) := List.getElem?_set_self lt
  have hB : TbR n T num B := ⟨by unfold tabAt; rw [tB], fun p hp => by
    have := f2.far p hp
    show ((A ++ X).set n _)[num p.1]? = _
    rw [List.getElem?_set_ne (Nat.ne_of_lt this)]
    exact f2.row p hp, f2.far, f2.nd⟩
  have lowB : ∀ m ∈ B, M.lt B.length m = true := fun m hm => by
    obtain ⟨j, hj, e⟩ := List.getElem_of_mem hm
    have e : B[j]? = some m := by rw [List.getElem?_eq_getElem hj, e]
    by_cases ej : j = n
    · subst ej
      rw [tB] at e
      cases e
      unfold M.lt
      exact ltk_tab fun p hp => (List.getElem?_eq_some_iff.mp (hB.row p hp)).1
    · have e : ((A ++ X).set n (.tab (tabE T num)))[j]? = some m := e
      rw [List.getElem?_set_ne (Ne.symm ej)] at e
      exact f2.oth j m e ej _
  have back : B.set n (.dic (tabE T num)) = A ++ X := by
    show ((A ++ X).set n _).set n _ = _
    rw [List.set_set]
    obtain ⟨hlt, e⟩ := List.getElem?_eq_some_iff.mp f2.tab
    exact (congrArg _ e.symm).trans (List.set_getElem_self _)
  obtain ⟨best, b, t3, t4, g1, g2, g3⟩ := sloop hF hB f3 lowB (ds := keysD (tabE T num)) (keysT T) [] .non 0 none none (fun _ h => h) (.inl ⟨rfl, rfl⟩) Mg.LeastIn.nil
  rw [List.nil_append] at g3
  refine ⟨best, b, keysT T, ?_, g2, g3, fun x => ⟨fun hx => ?_, fun ⟨l, hl, hx⟩ => f3.keys l hl x hx⟩⟩
  · have it : iKeysT (eVar 1) (senv rs n (some .non) none none) B = .ok (.fix (keysD (tabE T num))) B := by
      unfold iKeysT
      rw [show eVar 1 (senv rs n (some .non) none none) B = .ok (.ref n) B from rfl, R.bind_ok]
      simp only [tB]
    rw [← keysD_tab (num := num)] at g1
    have sf := sfor_ok (gf := gNm 3) (p := sB) it g1
    have lk : lockD (eVar 1) (sFor (iKeysT (eVar 1)) (gNm 3) sB) (senv rs n (some .non) none none) (A ++ X) = .go .nx (senv rs n (some best) t3 t4) (A ++ X) := by
      unfold lockD
      rw [show eVar 1 (senv rs n (some .non) none none) (A ++ X) = .ok (.ref n) (A ++ X) from rfl]
      simp only [show (A ++ X)[n]? = _ from f2.tab]
      show unlD _ _ (sFor _ _ _ _ B) = _
      rw [sf]
      show Out.go _ _ (B.set n _) = _
      rw [back]
    have body : b_shortest_ring ro0 A = .go (.ret best) (senv rs n (some best) t3 t4) (A ++ X) := sseq_ok par (sseq_ok lk (sret_ok rfl))
    show finR A (b_shortest_ring ro0 A) = _
    rw [body]
    exact cut_val (A := A) (A1 := A) (X := X) rfl (fun m hm => low m hm _) (bestD_lt g2 _)
  · obtain ⟨p, hp, e⟩ := List.mem_map.mp hx
    obtain ⟨l, hl, h⟩ := f3.good.name p hp
    exact ⟨l, hl, by rw [← show p.1 = x from e]; exact h⟩
end K05

set_option Elab.async false
set_option linter.all false
set_option maxRecDepth 100000
/-! the law's least ring: names, and one level -/
namespace K05
open PySem PySem.Spec PyProof.Rows L2 DV
theorem notin_list (x : Str) (r : List Str) (A : Hd) : gNotIn (.str x) (listD r) A = .ok (.bl (!decide (x ∈ r))) A := by
  have e : inP (.str x) (listD r) A = some (decide (x ∈ r)) := by
    show (if flatD (.str x) = true ∧ (r.map D.str).all flatD = true then some (memF (.str x) (r.map D.str)) else none) = _
    rw [if_pos ⟨rfl, flat_strs r⟩, mem_strs]
  unfold gNotIn
  rw [e]
def coll : List Str → List (List Str) → List Str
  | acc, [] => acc
  | acc, r :: rs => coll (acc ++ r.filter fun x => decide (x ∉ acc)) rs
theorem coll_mem : ∀ (rs : List (List Str)) (acc : List Str) (x : Str), x ∈ coll acc rs ↔ x ∈ acc ∨ ∃ l ∈ rs, x ∈ l
  | [], acc, x => by simp [coll]
  | r :: rs, acc, x => by
    rw [coll, coll_mem rs]
    simp only [List.mem_append, List.mem_filter, decide_eq_true_eq, List.mem_cons, exists_eq_or_imp]
    constructor
    · rintro ((h | h) | h)
      · exact .inl h
      · exact .inr (.inl h.1)
      · exact .inr (.inr h)
    · rintro (h | h | h)
      · exact .inl (.inl h)
      · by_cases q : x ∈ acc
        · exact .inl (.inl q)
        · exact .inl (.inr ⟨h, q⟩)
      · exact .inr h
theorem coll_nd : ∀ (rs : List (List Str)) (acc : List Str), acc.Nodup → (∀ l ∈ rs, l.Nodup) → (coll acc rs).Nodup
  | [], acc, h, _ => h
  | r :: rs, acc, h, hr => by
    rw [coll]
    refine coll_nd rs _ (List.nodup_append.mpr ⟨h, (hr r List.mem_cons_self).filter _, fun a ha b hb e => ?_⟩) fun l hl => hr l (List.mem_cons_of_mem _ hl)
    subst e
    have := (List.mem_filter.mp hb).2
    simp only [decide_eq_true_eq] at this
    exact this ha
/-- items that are not in a list -/
def outF (kn : List Str) (d : D) : Bool := match d with
  | .str x => !decide (x ∈ kn)
  | _ => false
theorem out_filter (kn xs : List Str) : ((xs.map D.str).filter (outF kn)).map id = (xs.filter fun x => decide (x ∉ kn)).map D.str := by
  rw [List.map_id, List.filter_map]
  congr 1
  refine List.filter_congr fun x _ => ?_
  show (!decide (x ∈ kn)) = _
  by_cases q : x ∈ kn <;> simp [q]
section
variable {rs : List (List Str)} {A : Hd}
abbrev lenv (rs : List (List Str)) (best : Nat) (sm : List Str) (t3 t4 t5 t6 t7 t8 t9 : Option D) : DV.Env := [some (.lst (rs.map rowD)), some (.int (best : Nat)), some (listD sm), t3, t4, t5, t6, t7, t8, t9, none]
/-- items of a list that are not in another one -/
theorem outs {ro : DV.Env} {i j : Nat} {xs kn : List Str} {d : D} (hs : iSeq (eVar i) ro A = .ok (.fix (xs.map D.str)) A) (hl : ro.length = 11) (hj : j < 10) (hk : ro[j]? = some (some (listD kn))) (hz : xs.length ≤ 1000) :
    eComp (iSeq (eVar i)) (.one 10) [10] (tCmpD gNotIn (eVar 10) (eVar j)) (eVar 10) ro A = .ok (.lst ((xs.filter fun x => decide (x ∉ kn)).map D.str)) A := by
  have z := sz1000
  have c := compD_pure (s := .fix (xs.map D.str)) (pt := .one 10) (vs := [10]) (tt := tCmpD gNotIn (eVar 10) (eVar j)) (te := eVar 10) (ro := ro) (A := A) (p := outF kn) (f := id) (here_fix _ _) (xs.map D.str) [] (by simp; omega) (fun d hd => by
    obtain ⟨x, hx, rfl⟩ := List.mem_map.mp hd
    have wl : (wipeD ro [10]).length = 11 := by simp [wipeD, hl]
    have g10 : ((wipeD ro [10]).set 10 (some (.str x)))[10]? = some (some (.str x)) := List.getElem?_set_self (by omega)
    have gj : ((wipeD ro [10]).set 10 (some (.str x)))[j]? = some (some (listD kn)) := by
      rw [List.getElem?_set_ne (by omega)]
      show (ro.set 10 none)[j]? = _
      rw [List.getElem?_set_ne (by omega)]
      exact hk
    have e10 : eVar 10 ((wipeD ro [10]).set 10 (some (.str x))) A = .ok (.str x) A := by unfold eVar; rw [g10]
    refine ⟨(wipeD ro [10]).set 10 (some (.str x)), by simp [Pat.put, hl, wl], ?_, fun _ => e10⟩
    exact tcmp_ok (d := .str x) (e := listD kn) (A1 := A) (A2 := A) e10 (by unfold eVar; rw [gj]) (notin_list x kn A))
  rw [List.nil_append, out_filter] at c
  exact comp_ok (s := .fix (xs.map D.str)) hs c
noncomputable def nB : SF := (sAsg (eBin gAdd (eVar 2) (eComp (iSeq (eVar 3)) (.one 10) [10] (tCmpD gNotIn (eVar 10) (eVar 2)) (eVar 10))) (gNm 2))
theorem add_strs {xs ys : List Str} (h : xs.length + ys.length ≤ 1000) : gAdd (listD xs) (.lst (ys.map D.str)) A = .ok (listD (xs ++ ys)) A := by
  have z := sz1000
  unfold listD
  unfold gAdd asL
  dsimp only
  rw [if_pos (by rw [List.length_map, List.length_map]; omega), List.map_append]
/-- the names in the order in which they come -/
theorem names_loop {ds : List D} : ∀ (qs : List (List Str)) (acc : List Str) (t3 : Option D), acc.length + 8 * qs.length ≤ 900 → (∀ r ∈ qs, r.length ≤ 8) →
    ∃ t3', forD (.fix ds) (gNm 3) nB (qs.map rowD) (lenv rs 0 acc t3 none none none none none none) A = .go .nx (lenv rs 0 (coll acc qs) t3' none none none none none none) A
  | [], acc, t3, _, _ => ⟨t3, forF_nil⟩
  | r :: qs, acc, t3, hl, hr => by
    have h8 := hr r List.mem_cons_self
    have fl : (r.filter fun x => decide (x ∉ acc)).length ≤ r.length := List.length_filter_le _ _
    rw [List.length_cons] at hl
    have tr : nB (lenv rs 0 acc (some (rowD r)) none none none none none none) A = .go .nx (lenv rs 0 (acc ++ r.filter fun x => decide (x ∉ acc)) (some (rowD r)) none none none none none none) A := by
      refine (sasg_ok (bin_ok (d := listD acc) (e := .lst ((r.filter fun x => decide (x ∉ acc)).map D.str)) (A1 := A) (A2 := A) rfl (outs (d := .non) (seq_ok (d := rowD r) (A1 := A) rfl rfl) rfl (by omega) rfl (by omega)) (add_strs (by omega)))).trans rfl
    obtain ⟨t3', f⟩ := names_loop qs (acc ++ r.filter fun x => decide (x ∉ acc)) (some (rowD r)) (by rw [List.length_append]; omega) fun l hl => hr l (List.mem_cons_of_mem _ hl)
    refine ⟨t3', ?_⟩
    rw [List.map_cons]
    exact forF_cons (step_okL tr) f
/-! ### what comes later -/
theorem place_at : ∀ (r : List Str) (x : Str), (∃ j, place r x = some j ∧ r[j]? = some x) ∨ (place r x = none ∧ x ∉ r)
  | [], x => .inr ⟨rfl, by simp⟩
  | a :: r, x => by
    rw [place_cons]
    by_cases e : a = x
    · exact .inl ⟨0, by rw [if_pos e], by rw [e]; rfl⟩
    · rw [if_neg e]
      rcases place_at r x with ⟨j, h1, h2⟩ | ⟨h1, h2⟩
      · exact .inl ⟨j + 1, by rw [h1]; rfl, by rw [List.getElem?_cons_succ]; exact h2⟩
      · exact .inr ⟨by rw [h1]; rfl, fun z => (List.mem_cons.mp z).elim (fun q => e q.symm) h2⟩
def nxt (x : Str) (r : List Str) : List Str := match place r x with
  | some j => r.drop (j + 1)
  | none => []
theorem nxt_mem {x y : Str} {r : List Str} (nd : r.Nodup) : y ∈ nxt x r ↔ [x, y].Sublist r := by
  unfold nxt
  rcases place_at r x with ⟨j, h1, h2⟩ | ⟨h1, h2⟩
  · rw [h1]
    exact (Mg.pair_drop nd h2).symm
  · rw [h1]
    exact ⟨fun h => (by cases h), fun h => absurd (h.subset List.mem_cons_self) h2⟩
theorem nxt_len (x : Str) (r : List Str) : (nxt x r).length ≤ r.length := by
  unfold nxt
  split
  · rw [List.length_drop]; omega
  · exact Nat.zero_le _
def later (rs : List (List Str)) (fr : List Str) : List Str := fr.flatMap fun x => rs.flatMap (nxt x)
theorem later_mem {rs : List (List Str)} (nd : ∀ l ∈ rs, l.Nodup) (fr : List Str) (y : Str) : y ∈ later rs fr ↔ ∃ x ∈ fr, Mg.Ahead rs x y := by
  unfold later
  simp only [List.mem_flatMap]
  constructor
  · rintro ⟨x, hx, r, hr, h⟩
    exact ⟨x, hx, r, hr, (nxt_mem (nd r hr)).mp h⟩
  · rintro ⟨x, hx, r, hr, h⟩
    exact ⟨x, hx, r, hr, (nxt_mem (nd r hr)).mpr h⟩
theorem rows_len {x : Str} : ∀ {qs : List (List Str)}, (∀ r ∈ qs, r.length ≤ 8) → (qs.flatMap (nxt x)).length ≤ 8 * qs.length
  | [], _ => Nat.zero_le _
  | r :: qs, h => by
    have := rows_len (x := x) (qs := qs) fun l hl => h l (List.mem_cons_of_mem _ hl)
    have h1 := h r List.mem_cons_self
    have := nxt_len x r
    rw [List.flatMap_cons, List.length_append, List.length_cons]
    omega
theorem later_len {rs : List (List Str)} (h8 : ∀ r ∈ rs, r.length ≤ 8) : ∀ fr : List Str, (later rs fr).length ≤ 8 * rs.length * fr.length
  | [] => Nat.zero_le _
  | x :: fr => by
    have := later_len h8 fr
    have h1 := rows_len (x := x) h8
    unfold later at this ⊢
    rw [List.flatMap_cons, List.length_append, List.length_cons, Nat.mul_succ]
    omega
noncomputable def lB1 : SF := (sAsg (eBin gAdd (eVar 8) (eIf (tCmpD gIn (eVar 9) (eVar 3)) (eArgs gListD (aCons (eCut (eVar 3) (oSome (eBin gAdd (eIdx (eVar 3) (eVar 9)) (eC (.int 1)))) oNone) aNil)) (eArgs gLstD aNil))) (gNm 8))
noncomputable def lB2 : SF := sFor (iSeq (eVar 0)) (gNm 3) lB1
variable {best : Nat} {sm : List Str} {t4 t5 t6 t7 : Option D}
theorem lturn1 {r acc : List Str} {x : Str} (hl : acc.length + r.length ≤ 1000) :
    lB1 (lenv rs best sm (some (rowD r)) t4 t5 t6 t7 (some (listD acc)) (some (.str x))) A = .go .nx (lenv rs best sm (some (rowD r)) t4 t5 t6 t7 (some (listD (acc ++ nxt x r))) (some (.str x))) A := by
  have z := sz1000
  let ro := lenv rs best sm (some (rowD r)) t4 t5 t6 t7 (some (listD acc)) (some (.str x))
  have nl := nxt_len x r
  have e : eIf (tCmpD gIn (eVar 9) (eVar 3)) (eArgs gListD (aCons (eCut (eVar 3) (oSome (eBin gAdd (eIdx (eVar 3) (eVar 9)) (eC (.int 1)))) oNone) aNil)) (eArgs gLstD aNil) ro A = .ok (.lst ((nxt x r).map D.str)) A := by
    have t : tCmpD gIn (eVar 9) (eVar 3) ro A = .ok (decide (x ∈ r)) A := tcmp_ok (d := .str x) (e := rowD r) (A1 := A) (A2 := A) rfl rfl (in_rowT x r A)
    rcases place_at r x with ⟨j, h1, h2⟩ | ⟨h1, h2⟩
    · rw [decide_eq_true (List.mem_of_getElem? h2)] at t
      refine if_ok (z := true) t ?_
      rw [if_pos rfl]
      have ix : eIdx (eVar 3) (eVar 9) ro A = .ok (.int (j : Nat)) A := by
        show (if isTupD (rowD r) then gIndex (rowD r) (.str x) A else .stk) = _
        exact index_ok h1
      have ad : eBin gAdd (eIdx (eVar 3) (eVar 9)) (eC (.int 1)) ro A = .ok (.int ((j + 1 : Nat) : Int)) A := bin_ok (d := .int (j : Nat)) (e := .int 1) (A1 := A) (A2 := A) ix rfl (by
        show R.ok (D.int ((j : Int) + 1)) A = _
        rfl)
      have ct : eCut (eVar 3) (oSome (eBin gAdd (eIdx (eVar 3) (eVar 9)) (eC (.int 1)))) oNone ro A = .ok (.tup ((nxt x r).map D.str)) A := by
        unfold eCut
        rw [show eVar 3 ro A = .ok (rowD r) A from rfl, R.bind_ok]
        unfold oSome
        rw [ad]
        show R.ok (D.tup (DV.cutD (r.map D.str) (some ((j + 1 : Nat) : Int)) none)) A = _
        rw [cut_from]
        unfold nxt
        rw [h1]
      exact args1_ok ct rfl
    · rw [decide_eq_false h2] at t
      refine if_ok (z := false) t ?_
      rw [if_neg (by simp)]
      unfold nxt
      rw [h1]
      exact args_ok (ds := []) (A1 := A) rfl (by
        unfold gLstD
        rw [if_pos (by show 0 ≤ sizeLine; omega)]
        rfl)
  exact (sasg_ok (bin_ok (d := listD acc) (A1 := A) (A2 := A) rfl e (add_strs (by omega)))).trans rfl
theorem lrows {x : Str} {ds : List D} : ∀ (qs : List (List Str)) (acc : List Str) (t3 : Option D), acc.length + 8 * qs.length ≤ 990 → (∀ r ∈ qs, r.length ≤ 8) →
    ∃ t3', forD (.fix ds) (gNm 3) lB1 (qs.map rowD) (lenv rs best sm t3 t4 t5 t6 t7 (some (listD acc)) (some (.str x))) A = .go .nx (lenv rs best sm t3' t4 t5 t6 t7 (some (listD (acc ++ qs.flatMap (nxt x)))) (some (.str x))) A
  | [], acc, t3, _, _ => ⟨t3, by rw [List.flatMap_nil, List.append_nil]; exact forF_nil⟩
  | r :: qs, acc, t3, hl, hr => by
    have h8 := hr r List.mem_cons_self
    have nl := nxt_len x r
    rw [List.length_cons] at hl
    obtain ⟨t3', f⟩ := lrows qs (acc ++ nxt x r) (some (rowD r)) (by rw [List.length_append]; omega) fun l hl => hr l (List.mem_cons_of_mem _ hl)
    refine ⟨t3', ?_⟩
    rw [List.map_cons, List.flatMap_cons, ← List.append_assoc]
    exact forF_cons (step_okL (lturn1 (by omega))) f
theorem lfresh (h10 : rs.length ≤ 10) (h8 : ∀ r ∈ rs, r.length ≤ 8) {ds : List D} : ∀ (fs acc : List Str) (t3 t9 : Option D), acc.length + 80 * fs.length ≤ 900 →
    ∃ t3' t9', forD (.fix ds) (gNm 9) lB2 (fs.map D.str) (lenv rs best sm t3 t4 t5 t6 t7 (some (listD acc)) t9) A = .go .nx (lenv rs best sm t3' t4 t5 t6 t7 (some (listD (acc ++ later rs fs))) t9') A
  | [], acc, t3, t9, _ => ⟨t3, t9, by show forD _ _ _ [] _ _ = _; rw [show later rs [] = [] from rfl, List.append_nil]; exact forF_nil⟩
  | x :: fs, acc, t3, t9, hl => by
    rw [List.length_cons] at hl
    have rl := rows_len (x := x) h8
    obtain ⟨t3', f⟩ := lrows (A := A) (rs := rs) (best := best) (sm := sm) (t4 := t4) (t5 := t5) (t6 := t6) (t7 := t7) (x := x) (ds := rs.map rowD) rs acc t3 (by omega) h8
    have b : lB2 (lenv rs best sm t3 t4 t5 t6 t7 (some (listD acc)) (some (.str x))) A = _ := sfor_ok (s := .fix (rs.map rowD)) (seq_ok (d := .lst (rs.map rowD)) (A1 := A) rfl rfl) f
    obtain ⟨t3'', t9', g⟩ := lfresh h10 h8 (ds := ds) fs (acc ++ rs.flatMap (nxt x)) t3' (some (.str x)) (by rw [List.length_append]; omega)
    refine ⟨t3'', t9', ?_⟩
    rw [List.map_cons, show later rs (x :: fs) = rs.flatMap (nxt x) ++ later rs fs from rfl, ← List.append_assoc]
    exact forF_cons (step_okL b) g
end
end K05

set_option Elab.async false
set_option linter.all false
set_option maxRecDepth 100000
/-! the law's least ring: the levels -/
namespace K05
open PySem PySem.Spec PyProof.Rows L2 DV
section
variable {rs : List (List Str)} {A : Hd} {best : Nat} {sm : List Str} {s : Str}
abbrev wenv (rs : List (List Str)) (best : Nat) (sm : List Str) (t3 : Option D) (s : Str) (kn fr : List Str) (k : Nat) (t8 t9 : Option D) : DV.Env := lenv rs best sm t3 (some (.str s)) (some (listD kn)) (some (listD fr)) (some (.int (k : Nat))) t8 t9
noncomputable def lTest : TF := (tAndD (tCmpD gNe (eVar 6) (eArgs gLstD aNil)) (tCmpD gNotIn (eVar 4) (eVar 5)))
noncomputable def lBody : SF := (sSeq (sAsg (eBin gAdd (eVar 7) (eC (.int 1))) (gNm 7))
  (sSeq (sAsg (eArgs gLstD aNil) (gNm 8))
  (sSeq (sFor (iSeq (eVar 6)) (gNm 9) lB2)
  (sSeq (sAsg (eUn gSortSet (eComp (iSeq (eVar 8)) (.one 10) [10] (tCmpD gNotIn (eVar 10) (eVar 5)) (eVar 10))) (gNm 6))
  (sAsg (eBin gAdd (eVar 5) (eVar 6)) (gNm 5))))))
theorem ltest_ok {kn fr : List Str} {k : Nat} {t3 t8 t9 : Option D} (hf : fr.all laid = true) :
    lTest (wenv rs best sm t3 s kn fr k t8 t9) A = .ok (!decide (fr = [] ∨ s ∈ kn)) A := by
  have t1 : tCmpD gNe (eVar 6) (eArgs gLstD aNil) (wenv rs best sm t3 s kn fr k t8 t9) A = .ok (!(fr.map D.str).isEmpty) A :=
    tcmp_ok (d := listD fr) (e := .lst []) (A1 := A) (A2 := A) rfl (args_ok (ds := []) (A1 := A) rfl rfl) (gNe_nil (lay_strs hf))
  have t2 : tCmpD gNotIn (eVar 4) (eVar 5) (wenv rs best sm t3 s kn fr k t8 t9) A = .ok (!decide (s ∈ kn)) A := tcmp_ok (d := .str s) (e := listD kn) (A1 := A) (A2 := A) rfl rfl (notin_list s kn A)
  refine tand_ok t1 ?_
  cases fr with
  | nil => simp
  | cons a fr =>
    show tCmpD _ _ _ _ A = _
    rw [t2]
    simp
abbrev fresh (rs : List (List Str)) (kn fr : List Str) : List Str := sortT ((later rs fr).filter fun y => decide (y ∉ kn))
theorem lstep (h10 : rs.length ≤ 10) (h8 : ∀ r ∈ rs, r.length ≤ 8) {U : List Str} (hU : ∀ l ∈ rs, ∀ x ∈ l, x ∈ U) (hU8 : U.length ≤ 8) {kn fr : List Str} {k : Nat} {t3 t8 t9 : Option D} (hf : fr.length ≤ 8) (hk : kn.length ≤ 8) :
    ∃ t3' t8' t9', lBody (wenv rs best sm t3 s kn fr k t8 t9) A = .go .nx (wenv rs best sm t3' s (kn ++ fresh rs kn fr) (fresh rs kn fr) (k + 1) t8' t9') A := by
  have z := sz1000
  have s1 : sAsg (eBin gAdd (eVar 7) (eC (.int 1))) (gNm 7) (wenv rs best sm t3 s kn fr k t8 t9) A = .go .nx (wenv rs best sm t3 s kn fr (k + 1) t8 t9) A :=
    (sasg_ok (d := .int ((k : Nat) + 1)) (A1 := A) rfl).trans rfl
  have s2 : sAsg (eArgs gLstD aNil) (gNm 8) (wenv rs best sm t3 s kn fr (k + 1) t8 t9) A = .go .nx (wenv rs best sm t3 s kn fr (k + 1) (some (listD [])) t9) A :=
    (sasg_ok (d := .lst []) (A1 := A) (args_ok (ds := []) (A1 := A) rfl rfl)).trans rfl
  obtain ⟨t3', t9', f⟩ := lfresh (A := A) (best := best) (sm := sm) (t4 := some (.str s)) (t5 := some (listD kn)) (t6 := some (listD fr)) (t7 := some (.int ((k + 1 : Nat) : Int))) h10 h8 (ds := fr.map D.str) fr [] t3 t9 (by simp; omega)
  rw [List.nil_append] at f
  have s3 : sFor (iSeq (eVar 6)) (gNm 9) lB2 (wenv rs best sm t3 s kn fr (k + 1) (some (listD [])) t9) A = .go .nx (wenv rs best sm t3' s kn fr (k + 1) (some (listD (later rs fr))) t9') A :=
    sfor_ok (s := .fix (fr.map D.str)) (seq_ok (d := listD fr) (A1 := A) rfl rfl) f
  have ll := later_len h8 fr
  have l640 : 8 * rs.length * fr.length ≤ 640 := by
    have : 8 * rs.length * fr.length ≤ 80 * 8 := Nat.mul_le_mul (by omega) hf
    omega
  let xs := (later rs fr).filter fun y => decide (y ∉ kn)
  have xl : xs.length ≤ 640 := Nat.le_trans (List.length_filter_le _ _) (by omega)
  have xU : ∀ x ∈ xs, x ∈ U := fun x hx => by
    have := (List.mem_filter.mp hx).1
    unfold later at this
    obtain ⟨a, _, h⟩ := List.mem_flatMap.mp this
    obtain ⟨r, hr, h⟩ := List.mem_flatMap.mp h
    refine hU r hr x ?_
    unfold nxt at h
    split at h
    · exact List.mem_of_mem_drop h
    · cases h
  have ml : (mets xs).length ≤ 8 := Nat.le_trans (Mg.nodup_len (nodup_mets xs [] List.nodup_nil) (b := U) fun y hy => xU y (((mem_mets xs [] y).mp hy).elim (fun h => (by cases h)) id)) hU8
  have sl : (sortT xs).length ≤ 8 := Nat.le_trans (Mg.nodup_len (nodup_sortT xs) (b := U) fun y hy => xU y (mem_sortT.mp hy)) hU8
  have cm : eComp (iSeq (eVar 8)) (.one 10) [10] (tCmpD gNotIn (eVar 10) (eVar 5)) (eVar 10) (wenv rs best sm t3' s kn fr (k + 1) (some (listD (later rs fr))) t9') A = .ok (.lst (xs.map D.str)) A :=
    outs (d := .non) (seq_ok (d := listD (later rs fr)) (A1 := A) rfl rfl) rfl (by omega) rfl (by omega)
  have srt : eUn gSortSet (eComp (iSeq (eVar 8)) (.one 10) [10] (tCmpD gNotIn (eVar 10) (eVar 5)) (eVar 10)) (wenv rs best sm t3' s kn fr (k + 1) (some (listD (later rs fr))) t9') A = .ok (listD (sortT xs)) A := by
    refine un_ok cm ?_
    unfold gSortSet
    rw [show asQ A (.lst (xs.map D.str)) = some (xs.map D.str) from rfl]
    simp only [textsD_map]
    rw [if_pos ⟨by omega, by omega⟩]
    rfl
  have s4 : sAsg (eUn gSortSet (eComp (iSeq (eVar 8)) (.one 10) [10] (tCmpD gNotIn (eVar 10) (eVar 5)) (eVar 10))) (gNm 6) (wenv rs best sm t3' s kn fr (k + 1) (some (listD (later rs fr))) t9') A = .go .nx (wenv rs best sm t3' s kn (sortT xs) (k + 1) (some (listD (later rs fr))) t9') A :=
    (sasg_ok srt).trans rfl
  have s5 : sAsg (eBin gAdd (eVar 5) (eVar 6)) (gNm 5) (wenv rs best sm t3' s kn (sortT xs) (k + 1) (some (listD (later rs fr))) t9') A = .go .nx (wenv rs best sm t3' s (kn ++ sortT xs) (sortT xs) (k + 1) (some (listD (later rs fr))) t9') A :=
    (sasg_ok (bin_ok (d := listD kn) (e := listD (sortT xs)) (A1 := A) (A2 := A) rfl rfl (add_strs (by omega)))).trans rfl
  exact ⟨t3', _, t9', sseq_ok s1 (sseq_ok s2 (sseq_ok s3 (sseq_ok s4 s5)))⟩
theorem lwhile (h10 : rs.length ≤ 10) (h8 : ∀ r ∈ rs, r.length ≤ 8) {U : List Str} (lU : U.all laid = true) (hU : ∀ l ∈ rs, ∀ x ∈ l, x ∈ U) (hU8 : U.length ≤ 8) : ∀ (n N k : Nat) (kn fr : List Str) (t3 t8 t9 : Option D), n < N → kn.Nodup → (∀ y ∈ kn, y ∈ U) → fr.Nodup → (∀ y ∈ fr, y ∈ U) → (fr = [] ∨ s ∈ kn ∨ U.length < n + kn.length) →
    ∃ fr' t3' t8' t9', whileD lTest lBody N (wenv rs best sm t3 s kn fr k t8 t9) A = .go .nx (wenv rs best sm t3' s (Mg.lvl (later rs) s n kn fr k).1 fr' (Mg.lvl (later rs) s n kn fr k).2 t8' t9') A
  | _, 0, _, _, _, _, _, _, h, _, _, _, _, _ => absurd h (Nat.not_lt_zero _)
  | n, N + 1, k, kn, fr, t3, t8, t9, hN, kd, ku, fd, fu, hb => by
    have fl : fr.all laid = true := List.all_eq_true.mpr fun x hx => List.all_eq_true.mp lU x (fu x hx)
    have kl := Nat.le_trans (Mg.nodup_len kd ku) hU8
    have fl8 := Nat.le_trans (Mg.nodup_len fd fu) hU8
    have ts := ltest_ok (rs := rs) (A := A) (best := best) (sm := sm) (s := s) (kn := kn) (k := k) (t3 := t3) (t8 := t8) (t9 := t9) fl
    by_cases e : fr = [] ∨ s ∈ kn
    · rw [decide_eq_true e] at ts
      refine ⟨fr, t3, t8, t9, ?_⟩
      have : Mg.lvl (later rs) s n kn fr k = (kn, k) := by
        cases n with
        | zero => rfl
        | succ n => unfold Mg.lvl; rw [if_pos e]
      rw [this]
      exact whileD_stop ts
    · rw [decide_eq_false e] at ts
      cases n with
      | zero =>
        have := Mg.nodup_len kd ku
        rcases hb with h1 | h1 | h1
        · exact absurd (.inl h1) e
        · exact absurd (.inr h1) e
        · omega
      | succ n =>
        obtain ⟨t3', t8', t9', f⟩ := lstep (A := A) (best := best) (sm := sm) (s := s) h10 h8 hU hU8 (kn := kn) (fr := fr) (k := k) (t3 := t3) (t8 := t8) (t9 := t9) fl8 kl
        have m : ∀ y ∈ fresh rs kn fr, y ∈ U ∧ y ∉ kn := fun y hy => by
          have h := List.mem_filter.mp (mem_sortT.mp hy)
          refine ⟨?_, by simpa using h.2⟩
          have h := h.1
          unfold later at h
          obtain ⟨a, _, h⟩ := List.mem_flatMap.mp h
          obtain ⟨r, hr, h⟩ := List.mem_flatMap.mp h
          refine hU r hr y ?_
          unfold nxt at h
          split at h
          · exact List.mem_of_mem_drop h
          · cases h
        obtain ⟨fr', t3'', t8'', t9'', g⟩ := lwhile h10 h8 lU hU hU8 n N (k + 1) (kn ++ fresh rs kn fr) (fresh rs kn fr) t3' t8' t9' (by omega)
          (List.nodup_append.mpr ⟨kd, nodup_sortT _, fun a ha b hb e => (m b hb).2 (e ▸ ha)⟩)
          (fun y hy => (List.mem_append.mp hy).elim (ku y) fun h => (m y h).1) (nodup_sortT _) (fun y hy => (m y hy).1) (by
            have hb' : U.length < n + 1 + kn.length := by
              rcases hb with h1 | h1 | h1
              · exact absurd (.inl h1) e
              · exact absurd (.inr h1) e
              · exact h1
            cases q : fresh rs kn fr with
            | nil => exact .inl rfl
            | cons a r =>
              refine .inr (.inr ?_)
              rw [List.length_append, List.length_cons]
              omega)
        refine ⟨fr', t3'', t8'', t9'', ?_⟩
        rw [Mg.lvl, if_neg e]
        exact whileD_step ts f g
end
end K05

set_option Elab.async false
set_option linter.all false
set_option maxRecDepth 100000
/-! the law's least ring: the whole -/
namespace K05
open PySem PySem.Spec PyProof.Rows L2 DV
section
variable {rs : List (List Str)} {A : Hd} {sm : List Str}
noncomputable def lStart : SF := (sSeq (sAsg (eArgs gTupD (aCons (eArgs gLstD aNil) (aCons (eArgs gLstD (aCons (eVar 4) aNil)) (aCons (eC (.int 0)) aNil)))) (gTpl [(gNm 5), (gNm 6), (gNm 7)]))
  (sSeq (whileD lTest lBody 200)
  (sIf (tAndD (tCmpD gIn (eVar 4) (eVar 5)) (tOrD (tCmpD gEq (eVar 1) (eC (.int 0))) (tCmpD gLt (eVar 7) (eVar 1))))
  (sAsg (eVar 7) (gNm 1))
  sNx)))
theorem lstart (hnd : ∀ l ∈ rs, l.Nodup) (h10 : rs.length ≤ 10) (h8 : ∀ r ∈ rs, r.length ≤ 8) {U : List Str} (lU : U.all laid = true) (hU : ∀ l ∈ rs, ∀ x ∈ l, x ∈ U) (hU8 : U.length ≤ 8) {s : Str} (hs : s ∈ U) {b : Nat} {seen : List Str} (hl : Mg.LeastIn (Mg.Ahead rs) seen b) {t3 t5 t6 t7 t8 t9 : Option D} :
    ∃ b' t3' t5' t6' t7' t8' t9', lStart (lenv rs b sm t3 (some (.str s)) t5 t6 t7 t8 t9) A = .go .nx (lenv rs b' sm t3' (some (.str s)) t5' t6' t7' t8' t9') A ∧ Mg.LeastIn (Mg.Ahead rs) (seen ++ [s]) b' := by
  have z := sz1000
  have s1 : sAsg (eArgs gTupD (aCons (eArgs gLstD aNil) (aCons (eArgs gLstD (aCons (eVar 4) aNil)) (aCons (eC (.int 0)) aNil)))) (gTpl [(gNm 5), (gNm 6), (gNm 7)]) (lenv rs b sm t3 (some (.str s)) t5 t6 t7 t8 t9) A = .go .nx (wenv rs b sm t3 s [] [s] 0 t8 t9) A := by
    unfold sAsg
    rw [args_ok (k := gTupD) (ds := [.lst [], .lst [.str s], .int 0]) (A1 := A) (r := .ok (.tup [.lst [], .lst [.str s], .int 0]) A) (acons_ok (args_ok (ds := []) (A1 := A) rfl (by
      unfold gLstD; rw [if_pos (by show 0 ≤ sizeLine; omega)])) (acons_ok (args1_ok (d := .str s) (A1 := A) rfl (by
      unfold gLstD; rw [if_pos (by show 1 ≤ sizeLine; omega)])) (acons_ok (show eC (.int 0) _ A = .ok (.int 0) A from rfl) (show aNil _ _ = .ok [] _ from rfl)))) (by
      unfold gTupD
      rw [if_pos (by show 3 ≤ sizeLine; omega)])]
    rfl
  have hlm := fun fr y => later_mem hnd fr y
  have hAU : ∀ x y, Mg.Ahead rs x y → y ∈ U := fun x y ⟨l, hl, h⟩ => hU l hl y (h.subset (by simp))
  obtain ⟨fr', t3', t8', t9', w⟩ := lwhile (A := A) (best := b) (sm := sm) (s := s) h10 h8 lU hU hU8 20 200 0 [] [s] t3 t8 t9 (by omega) List.nodup_nil (fun y h => (by cases h)) (by simp) (fun y h => by rw [List.mem_singleton] at h; exact h ▸ hs) (.inr (.inr (by simp; omega)))
  obtain ⟨o1, o2⟩ := Mg.lvl_ok hlm U hAU 20 0 [] [s] (Mg.Lv.init _ s) List.nodup_nil (fun y h => (by cases h)) (.inr (.inr (by simp; omega)))
  generalize Mg.lvl (later rs) s 20 [] [s] 0 = p at w o1 o2
  obtain ⟨kn, k⟩ := p
  dsimp only at w o1 o2
  let ro := wenv rs b sm t3' s kn fr' k t8' t9'
  have t1 : tCmpD gIn (eVar 4) (eVar 5) ro A = .ok (decide (s ∈ kn)) A := tcmp_ok (d := .str s) (e := listD kn) (A1 := A) (A2 := A) rfl rfl (in_list s kn A)
  have t2 : tOrD (tCmpD gEq (eVar 1) (eC (.int 0))) (tCmpD gLt (eVar 7) (eVar 1)) ro A = .ok (decide (b = 0 ∨ k < b)) A := by
    have u1 : tCmpD gEq (eVar 1) (eC (.int 0)) ro A = .ok (decide ((b : Int) = 0)) A := tcmp_ok (d := .int (b : Nat)) (e := .int 0) (A1 := A) (A2 := A) rfl rfl (gEq_int _ _ _)
    have u2 : tCmpD gLt (eVar 7) (eVar 1) ro A = .ok (decide ((k : Int) < (b : Nat))) A := tcmp_ok (d := .int (k : Nat)) (e := .int (b : Nat)) (A1 := A) (A2 := A) rfl rfl rfl
    by_cases e : b = 0
    · rw [decide_eq_true (by omega)] at u1
      rw [decide_eq_true (.inl e)]
      exact tor_t u1
    · rw [decide_eq_false (by omega)] at u1
      refine tor_f u1 (u2.trans ?_)
      congr 1
      by_cases q : k < b
      · rw [decide_eq_true (by omega), decide_eq_true (.inr q)]
      · rw [decide_eq_false (by omega), decide_eq_false (by omega)]
  by_cases e : s ∈ kn
  · rw [decide_eq_true e] at t1
    have ad := hl.add (o1 e)
    have t3 : tAndD (tCmpD gIn (eVar 4) (eVar 5)) (tOrD (tCmpD gEq (eVar 1) (eC (.int 0))) (tCmpD gLt (eVar 7) (eVar 1))) ro A = .ok (decide (b = 0 ∨ k < b)) A := tand_ok t1 t2
    by_cases q : b = 0 ∨ k < b
    · rw [decide_eq_true q] at t3
      rw [if_pos q] at ad
      exact ⟨k, _, _, _, _, _, _, sseq_ok s1 (sseq_ok w (sif_ok (z := true) (A1 := A) t3 ((sasg_ok (d := .int (k : Nat)) (A1 := A) rfl).trans rfl))), ad⟩
    · rw [decide_eq_false q] at t3
      rw [if_neg q] at ad
      exact ⟨b, _, _, _, _, _, _, sseq_ok s1 (sseq_ok w (sif_ok (z := false) (A1 := A) t3 rfl)), ad⟩
  · rw [decide_eq_false e] at t1
    have t3 : tAndD (tCmpD gIn (eVar 4) (eVar 5)) (tOrD (tCmpD gEq (eVar 1) (eC (.int 0))) (tCmpD gLt (eVar 7) (eVar 1))) ro A = .ok false A := tand_ok t1 rfl
    exact ⟨b, _, _, _, _, _, _, sseq_ok s1 (sseq_ok w (sif_ok (z := false) (A1 := A) t3 rfl)), hl.skip (o2 e)⟩
theorem lstarts (hnd : ∀ l ∈ rs, l.Nodup) (h10 : rs.length ≤ 10) (h8 : ∀ r ∈ rs, r.length ≤ 8) {U : List Str} (lU : U.all laid = true) (hU : ∀ l ∈ rs, ∀ x ∈ l, x ∈ U) (hU8 : U.length ≤ 8) {ds : List D} : ∀ (ks seen : List Str) (b : Nat) (t3 t4 t5 t6 t7 t8 t9 : Option D), (∀ x ∈ ks, x ∈ U) → Mg.LeastIn (Mg.Ahead rs) seen b →
    ∃ b' t3' t4' t5' t6' t7' t8' t9', forD (.fix ds) (gNm 4) lStart (ks.map D.str) (lenv rs b sm t3 t4 t5 t6 t7 t8 t9) A = .go .nx (lenv rs b' sm t3' t4' t5' t6' t7' t8' t9') A ∧ Mg.LeastIn (Mg.Ahead rs) (seen ++ ks) b'
  | [], seen, b, t3, t4, t5, t6, t7, t8, t9, _, hl => ⟨b, t3, t4, t5, t6, t7, t8, t9, forF_nil, by rw [List.append_nil]; exact hl⟩
  | s :: ks, seen, b, t3, t4, t5, t6, t7, t8, t9, hk, hl => by
    obtain ⟨b1, a3, a5, a6, a7, a8, a9, f, l1⟩ := lstart (A := A) (sm := sm) hnd h10 h8 lU hU hU8 (hk s List.mem_cons_self) hl (t3 := t3) (t5 := t5) (t6 := t6) (t7 := t7) (t8 := t8) (t9 := t9)
    obtain ⟨b2, c3, c4, c5, c6, c7, c8, c9, g, l2⟩ := lstarts hnd h10 h8 lU hU hU8 (ds := ds) ks (seen ++ [s]) b1 a3 (some (.str s)) a5 a6 a7 a8 a9 (fun x hx => hk x (List.mem_cons_of_mem _ hx)) l1
    refine ⟨b2, c3, c4, c5, c6, c7, c8, c9, ?_, by rw [List.append_assoc] at l2; exact l2⟩
    rw [List.map_cons]
    exact forF_cons (step_okL f) g
end
theorem least_ok {rs : List (List Str)} {A : Hd} (h : Rows rs) (hU : ∀ l ∈ rs, ∀ x ∈ l, x ∈ names8) :
    ∃ (b : Nat) (U : List Str), F__law_least_ring [.lst (rs.map rowD)] A = .ok (.int (b : Nat)) A ∧ Mg.LeastIn (Mg.Ahead rs) U b ∧ ∀ x, x ∈ U ↔ ∃ l ∈ rs, x ∈ l := by
  have z := sz1000
  have hnd : ∀ l ∈ rs, l.Nodup := fun l hl => (h.row l hl).nd
  have h10 := h.cnt
  have h8 := h.len
  have lU : names8.all laid = true := by decide +kernel
  let ro0 : DV.Env := [some (.lst (rs.map rowD)), none, none, none, none, none, none, none, none, none, none]
  have s1 : sAsg (eArgs gTupD (aCons (eC (.int 0)) (aCons (eArgs gLstD aNil) aNil))) (gTpl [(gNm 1), (gNm 2)]) ro0 A = .go .nx (lenv rs 0 [] none none none none none none none) A := by
    unfold sAsg
    rw [args2_ok (k := gTupD) (d := .int 0) (e := .lst []) (A1 := A) (A2 := A) (r := .ok (.tup [.int 0, .lst []]) A) rfl (args_ok (ds := []) (A1 := A) rfl (by
      unfold gLstD; rw [if_pos (by show 0 ≤ sizeLine; omega)])) (by
      unfold gTupD
      rw [if_pos (by show 2 ≤ sizeLine; omega)])]
    rfl
  obtain ⟨t3, f1⟩ := names_loop (rs := rs) (A := A) (ds := rs.map rowD) rs [] none (by simp; omega) h8
  have s2 : sFor (iSeq (eVar 0)) (gNm 3) nB (lenv rs 0 [] none none none none none none none) A = _ := sfor_ok (s := .fix (rs.map rowD)) (seq_ok (d := .lst (rs.map rowD)) (A1 := A) rfl rfl) f1
  have cm := fun x => coll_mem rs [] x
  obtain ⟨b, a3, a4, a5, a6, a7, a8, a9, f2, hl⟩ := lstarts (rs := rs) (A := A) (sm := coll [] rs) hnd h10 h8 lU hU (by decide) (ds := (coll [] rs).map D.str) (coll [] rs) [] 0 t3 none none none none none none (fun x hx => by
    obtain ⟨l, hl, h⟩ := ((cm x).mp hx).resolve_left (fun h => by cases h)
    exact hU l hl x h) Mg.LeastIn.nil
  rw [List.nil_append] at hl
  have s3 : sFor (iSeq (eVar 2)) (gNm 4) lStart (lenv rs 0 (coll [] rs) t3 none none none none none none) A = _ := sfor_ok (s := .fix ((coll [] rs).map D.str)) (seq_ok (d := listD (coll [] rs)) (A1 := A) rfl rfl) f2
  refine ⟨b, coll [] rs, ?_, hl, fun x => (cm x).trans ⟨fun h => h.resolve_left (fun h => by cases h), .inr⟩⟩
  show finR A (b__law_least_ring ro0 A) = _
  have body : b__law_least_ring ro0 A = .go (.ret (.int (b : Nat))) (lenv rs b (coll [] rs) a3 a4 a5 a6 a7 a8 a9) A := sseq_ok s1 (sseq_ok s2 (sseq_ok s3 (sret_ok rfl)))
  rw [body]
  unfold finR
  exact cut_self
end K05

set_option Elab.async false
set_option linter.all false
set_option maxRecDepth 100000
/-! the law's reading of a clash -/
namespace K05
open PySem PySem.Spec PyProof.Rows L2 DV
section
variable {G : Str → Str → Nat → Prop}
theorem path_all : ∀ {st : List Mg.Step3} {x y : Str}, Mg.PathE G x st y → ∀ t ∈ st, G t.1 t.2.1 t.2.2
  | [], _, _, _, t, ht => by cases ht
  | (a, b, i) :: st, x, y, ⟨_, h2, h3⟩, t, ht => by
    rcases List.mem_cons.mp ht with rfl | ht
    · exact h2
    · exact path_all h3 t ht
theorem path_first {st : List Mg.Step3} {x y : Str} (h : Mg.PathE G x st y) {t : Mg.Step3} (ht : st[0]? = some t) : t.1 = x := by
  cases st with
  | nil => cases ht
  | cons u st =>
    obtain ⟨a, b, i⟩ := u
    cases ht
    exact h.1.symm
theorem path_next : ∀ {st : List Mg.Step3} {x y : Str}, Mg.PathE G x st y → ∀ (k : Nat) (t u : Mg.Step3), st[k]? = some t → st[k + 1]? = some u → u.1 = t.2.1
  | [], _, _, _, _, _, _, ht, _ => by simp at ht
  | (a, b, i) :: st, x, y, ⟨_, _, h3⟩, 0, t, u, ht, hu => by
    cases ht
    exact path_first h3 (by simpa using hu)
  | (a, b, i) :: st, x, y, ⟨_, _, h3⟩, k + 1, t, u, ht, hu => path_next h3 k t u (by simpa using ht) (by simpa using hu)
theorem path_last : ∀ {st : List Mg.Step3} {x y : Str}, Mg.PathE G x st y → ∀ (t : Mg.Step3), st[st.length - 1]? = some t → t.2.1 = y
  | [], _, _, _, t, ht => by simp at ht
  | [(a, b, i)], x, y, ⟨_, _, h3⟩, t, ht => by
    cases ht
    exact h3
  | (a, b, i) :: u :: st, x, y, ⟨_, _, h3⟩, t, ht => path_last h3 t (by simpa using ht)
end
theorem atI_last {α : Type} (xs : List α) : L2.atI xs (-1) = xs[xs.length - 1]? := by
  unfold L2.atI ixN
  rw [if_neg (by omega)]
  by_cases h : xs.length = 0
  · rw [if_neg (by omega), List.getElem?_eq_none (by omega)]
    rfl
  · rw [if_pos (by omega)]
    show xs[((-1 : Int) + xs.length).toNat]? = _
    congr 1
    omega
theorem isa_at {a : EF} {d : D} {ro : DV.Env} {A : Hd} {T t : String} {b : Bool} (ha : a ro A = .ok d A) (h : tyD A d = some t) (h2 : isaB t T = some b) : tOfE (eArgs gIsa (aCons a (aCons (eC (.cls (.bi T))) aNil))) ro A = .ok b A := by
  refine trub_ok (args2_ok (d := d) (A1 := A) ha rfl ?_)
  unfold gIsa
  simp only [h, h2]
section
variable {rs : List (List Str)} {st : List Mg.Step3} {A : Hd}
abbrev cenv (rs : List (List Str)) (st : List Mg.Step3) (t2 : Option D) : DV.Env := [some (.lst (rs.map rowD)), some (.tup (st.map stepD)), t2, none]
noncomputable def cT1 : TF := (tOrD (tNotD (tOfE (eArgs gIsa (aCons (eVar 2) (aCons (eC (.cls (.bi "tuple"))) aNil))))) (tOrD (tCmpD gNe (eArgs gLen (aCons (eVar 2) aNil)) (eC (.int 3))) (tOrD (tNotD (tOfE (eArgs gIsa (aCons (eBin gSubD (eVar 2) (eC (.int 2))) (aCons (eC (.cls (.bi "int"))) aNil))))) (tOfE (eArgs gIsa (aCons (eBin gSubD (eVar 2) (eC (.int 2))) (aCons (eC (.cls (.bi "bool"))) aNil)))))))
noncomputable def cT2 : TF := (tOrD (tNotD (fun ro A => ((eChain gLe gLt (eC (.int 0)) (eBin gSubD (eVar 2) (eC (.int 2))) (eArgs gLen (aCons (eVar 0) aNil))) ro A).bind gBool)) (tOrD (tCmpD gEq (eBin gSubD (eVar 2) (eC (.int 0))) (eBin gSubD (eVar 2) (eC (.int 1)))) (tNotD (tOfE (eArgs (fun ds A => F__law_within (ds ++ []) A) (aCons (eCut (eVar 2) oNone (oSome (eC (.int 2)))) (aCons (eBin gSubD (eVar 0) (eBin gSubD (eVar 2) (eC (.int 2)))) aNil)))))))
noncomputable def cB : SF := (sSeq (sIf cT1 (sRet (eC (.bl false))) sNx) (sIf cT2 (sRet (eC (.bl false))) sNx))
theorem cstep (hnd : ∀ l ∈ rs, l.Nodup) {t : Mg.Step3} (g : GG rs t.1 t.2.1 t.2.2) : cB (cenv rs st (some (stepD t))) A = .go .nx (cenv rs st (some (stepD t))) A := by
  obtain ⟨a, b, i⟩ := t
  obtain ⟨l, hl, hs⟩ := g
  dsimp only at hl hs
  have nd := hnd l (List.mem_of_getElem? hl)
  let ro := cenv rs st (some (stepD (a, b, i)))
  have e2 : eVar 2 ro A = .ok (.tup [.str a, .str b, .int (i : Nat)]) A := rfl
  have s0 : eBin gSubD (eVar 2) (eC (.int 0)) ro A = .ok (.str a) A := bin_ok (A1 := A) (A2 := A) e2 rfl (sub_tup rfl)
  have s1 : eBin gSubD (eVar 2) (eC (.int 1)) ro A = .ok (.str b) A := bin_ok (A1 := A) (A2 := A) e2 rfl (sub_tup rfl)
  have s2 : eBin gSubD (eVar 2) (eC (.int 2)) ro A = .ok (.int (i : Nat)) A := bin_ok (A1 := A) (A2 := A) e2 rfl (sub_tup rfl)
  have t1 : cT1 ro A = .ok false A := by
    refine tor_f (A1 := A) (tnot_ok (isa_at (b := true) e2 (t := "tuple") rfl (by decide +kernel))) ?_
    refine tor_f (A1 := A) (tcmp_ok (d := .int 3) (e := .int 3) (A1 := A) (A2 := A) (args1_ok e2 rfl) rfl (gNe_int 3 3 A)) ?_
    refine tor_f (A1 := A) (tnot_ok (isa_at (b := true) s2 (t := "int") rfl (by decide +kernel))) ?_
    exact isa_at (b := false) s2 (t := "int") rfl (by decide +kernel)
  have li : i < rs.length := (List.getElem?_eq_some_iff.mp hl).1
  have ch : (fun ro A => ((eChain gLe gLt (eC (.int 0)) (eBin gSubD (eVar 2) (eC (.int 2))) (eArgs gLen (aCons (eVar 0) aNil))) ro A).bind gBool) ro A = .ok true A := by
    show ((eChain gLe gLt (eC (.int 0)) (eBin gSubD (eVar 2) (eC (.int 2))) (eArgs gLen (aCons (eVar 0) aNil))) ro A).bind gBool = _
    unfold eChain
    rw [show eC (.int 0) ro A = .ok (.int 0) A from rfl, R.bind_ok, s2, R.bind_ok]
    show ((R.ok (D.bl (decide ((0 : Int) ≤ (i : Nat)))) A).bind _).bind gBool = _
    rw [decide_eq_true (by omega), R.bind_ok]
    rw [show gBool (.bl true) A = .ok true A from rfl, R.bind_ok, if_pos rfl, show eArgs gLen (aCons (eVar 0) aNil) ro A = .ok (.int ((rs.map rowD).length : Nat)) A from args1_ok (d := .lst (rs.map rowD)) (A1 := A) rfl rfl, R.bind_ok]
    show (R.ok (D.bl (decide (((i : Nat) : Int) < ((rs.map rowD).length : Nat)))) A).bind gBool = _
    rw [decide_eq_true (by rw [List.length_map]; omega)]
    rfl
  have ne : a ≠ b := Mg.pair_ne nd hs
  have eq : tCmpD gEq (eBin gSubD (eVar 2) (eC (.int 0))) (eBin gSubD (eVar 2) (eC (.int 1))) ro A = .ok false A := by
    refine tcmp_ok (A1 := A) (A2 := A) s0 s1 ?_
    show R.ok (D.bl (decide (a = b))) A = _
    rw [decide_eq_false ne]
  have ct : eCut (eVar 2) oNone (oSome (eC (.int 2))) ro A = .ok (rowD [a, b]) A := rfl
  have sr : eBin gSubD (eVar 0) (eBin gSubD (eVar 2) (eC (.int 2))) ro A = .ok (rowD l) A := bin_ok (d := .lst (rs.map rowD)) (e := .int (i : Nat)) (A1 := A) (A2 := A) rfl s2 (sub_lst (by rw [atI_nat, List.getElem?_map, hl]; rfl))
  have wi : eArgs (fun ds A => F__law_within (ds ++ []) A) (aCons (eCut (eVar 2) oNone (oSome (eC (.int 2)))) (aCons (eBin gSubD (eVar 0) (eBin gSubD (eVar 2) (eC (.int 2)))) aNil)) ro A = .ok (.bl true) A := args2_ok (A1 := A) (A2 := A) ct sr (within_ok hs nd (by simp))
  have t2 : cT2 ro A = .ok false A := tor_f (A1 := A) (tnot_ok (z := true) ch) (tor_f (A1 := A) eq (tnot_ok (z := true) (trub_ok wi)))
  exact sseq_ok (sif_ok (z := false) (A1 := A) t1 rfl) (sif_ok (z := false) (A1 := A) t2 rfl)
theorem csteps (hnd : ∀ l ∈ rs, l.Nodup) {ds : List D} : ∀ (ts : List Mg.Step3) (t2 : Option D), (∀ t ∈ ts, GG rs t.1 t.2.1 t.2.2) →
    ∃ t2', forD (.fix ds) (gNm 2) cB (ts.map stepD) (cenv rs st t2) A = .go .nx (cenv rs st t2') A
  | [], t2, _ => ⟨t2, forF_nil⟩
  | t :: ts, t2, h => by
    obtain ⟨t2', f⟩ := csteps hnd (ds := ds) ts (some (stepD t)) fun u hu => h u (List.mem_cons_of_mem _ hu)
    refine ⟨t2', ?_⟩
    rw [List.map_cons]
    exact forF_cons (step_okL (cstep hnd (h t List.mem_cons_self))) f
end
theorem fits_ok {rs : List (List Str)} {st : List Mg.Step3} {s : Str} {A : Hd} (hnd : ∀ l ∈ rs, l.Nodup) (hp : Mg.PathE (GG rs) s st s) (h2 : 2 ≤ st.length) (hl : st.length ≤ 190) :
    F__law_clash_fits [.lst (rs.map rowD), .tup (st.map stepD)] A = .ok (.bl true) A := by
  have z := sz1000
  have lm : (st.map stepD).length = st.length := List.length_map _
  let ro0 := cenv rs st none
  have len0 : eArgs gLen (aCons (eVar 1) aNil) ro0 A = .ok (.int (st.length : Nat)) A := args1_ok (d := .tup (st.map stepD)) (A1 := A) rfl (by
    show R.ok (D.int ((st.map stepD).length : Nat)) A = _
    rw [lm])
  have t0 : tOrD (tNotD (tOfE (eArgs gIsa (aCons (eVar 1) (aCons (eC (.cls (.bi "tuple"))) aNil))))) (tCmpD gLt (eArgs gLen (aCons (eVar 1) aNil)) (eC (.int 2))) ro0 A = .ok false A := by
    refine tor_f (A1 := A) (tnot_ok (isa_at (b := true) (d := .tup (st.map stepD)) rfl (t := "tuple") rfl (by decide +kernel))) ?_
    refine tcmp_ok (d := .int (st.length : Nat)) (e := .int 2) (A1 := A) (A2 := A) len0 rfl ?_
    show R.ok (D.bl (decide (((st.length : Nat) : Int) < 2))) A = _
    rw [decide_eq_false (by omega)]
  obtain ⟨t2, f⟩ := csteps (A := A) (st := st) hnd (ds := st.map stepD) st none (path_all hp)
  have s2 : sFor (iSeq (eVar 1)) (gNm 2) cB ro0 A = _ := sfor_ok (s := .fix (st.map stepD)) (seq_ok (d := .tup (st.map stepD)) (A1 := A) rfl rfl) f
  let ro1 := cenv rs st t2
  let tt : TF := tCmpD gNe (eBin gSubD (eBin gSubD (eVar 1) (eBin gSub (eVar 3) (eC (.int 1)))) (eC (.int 1))) (eBin gSubD (eBin gSubD (eVar 1) (eVar 3)) (eC (.int 0)))
  have c := compD_pure (s := .fix (rangeD 0 st.length)) (pt := .one 3) (vs := [3]) (tt := tt) (te := eVar 3) (ro := ro1) (A := A) (p := fun _ => false) (f := id) (here_fix _ _) (rangeD 0 st.length) [] (by simp [rangeD]; omega) (fun d hd => by
    unfold rangeD at hd
    obtain ⟨k, hk, rfl⟩ := List.mem_map.mp hd
    have hk := List.mem_range.mp hk
    let ro3 : DV.Env := [some (.lst (rs.map rowD)), some (.tup (st.map stepD)), t2, some (.int (0 + (k : Nat)))]
    refine ⟨ro3, rfl, ?_, fun h => by cases h⟩
    obtain ⟨t, ht⟩ : ∃ t, st[k]? = some t := ⟨_, List.getElem?_eq_getElem hk⟩
    have u1 : eBin gSubD (eVar 1) (eVar 3) ro3 A = .ok (stepD t) A := bin_ok (d := .tup (st.map stepD)) (e := .int (0 + (k : Nat))) (A1 := A) (A2 := A) rfl rfl (sub_tup (by rw [show (0 + (k : Nat) : Int) = (k : Nat) by omega, atI_nat, List.getElem?_map, ht]; rfl))
    have u2 : eBin gSubD (eBin gSubD (eVar 1) (eVar 3)) (eC (.int 0)) ro3 A = .ok (.str t.1) A := bin_ok (A1 := A) (A2 := A) u1 rfl (sub_tup rfl)
    obtain ⟨u, hu, eu⟩ : ∃ u, L2.atI (st.map stepD) (0 + (k : Nat) - 1) = some (stepD u) ∧ u.2.1 = t.1 := by
      cases k with
      | zero =>
        obtain ⟨u, hu⟩ : ∃ u, st[st.length - 1]? = some u := ⟨_, List.getElem?_eq_getElem (by omega)⟩
        refine ⟨u, ?_, (path_last hp u hu).trans (path_first hp ht).symm⟩
        rw [show (0 + ((0 : Nat) : Int) - 1 : Int) = -1 by omega, atI_last, lm, List.getElem?_map, hu]
        rfl
      | succ k =>
        obtain ⟨u, hu⟩ : ∃ u, st[k]? = some u := ⟨_, List.getElem?_eq_getElem (by omega)⟩
        refine ⟨u, ?_, (path_next hp k u t hu ht).symm⟩
        rw [show (0 + ((k + 1 : Nat) : Int) - 1 : Int) = (k : Nat) by omega, atI_nat, List.getElem?_map, hu]
        rfl
    have v1 : eBin gSubD (eVar 1) (eBin gSub (eVar 3) (eC (.int 1))) ro3 A = .ok (stepD u) A := bin_ok (d := .tup (st.map stepD)) (e := .int (0 + (k : Nat) - 1)) (A1 := A) (A2 := A) rfl rfl (sub_tup hu)
    have v2 : eBin gSubD (eBin gSubD (eVar 1) (eBin gSub (eVar 3) (eC (.int 1)))) (eC (.int 1)) ro3 A = .ok (.str u.2.1) A := bin_ok (A1 := A) (A2 := A) v1 rfl (sub_tup rfl)
    refine tcmp_ok (A1 := A) (A2 := A) v2 u2 ?_
    rw [gNe_strs, decide_eq_true eu]
    rfl)
  have ef : (rangeD 0 st.length).filter (fun _ => false) = [] := List.filter_eq_nil_iff.mpr fun _ _ h => by cases h
  rw [List.nil_append, ef] at c
  have len1 : eArgs gLen (aCons (eVar 1) aNil) ro1 A = .ok (.int (st.length : Nat)) A := args1_ok (d := .tup (st.map stepD)) (A1 := A) rfl (by
    show R.ok (D.int ((st.map stepD).length : Nat)) A = _
    rw [lm])
  have e2 : eComp (iRange1 (aCons (eArgs gLen (aCons (eVar 1) aNil)) aNil)) (.one 3) [3] tt (eVar 3) ro1 A = .ok (.lst []) A := comp_ok (s := .fix (rangeD 0 st.length)) (A1 := A) (rng_ok (n := (st.length : Nat)) (A1 := A) len1 (by omega) (by omega)) c
  show finR A (b__law_clash_fits ro0 A) = _
  have body : b__law_clash_fits ro0 A = .go (.ret (.bl true)) ro1 A := sseq_ok (sif_ok (z := false) (A1 := A) t0 rfl) (sseq_ok s2 (sret_ok (bin_ok (e := .lst []) (A2 := A) e2 (args_ok (ds := []) (A1 := A) rfl rfl) (gEq_nil (ds := []) fun d hd => by cases hd))))
  rw [body]
  unfold finR
  exact cut_self
end K05

set_option Elab.async false
set_option linter.all false
set_option maxRecDepth 100000
/-! clash_of -/
namespace K05
open PySem PySem.Spec PyProof.Rows L2 DV
/-- what is told of rows that cannot be merged -/
def PD0 (rs : List (List Str)) (d : D) : Prop := ∃ b U, BestD rs d b ∧ Mg.LeastIn (Mg.Ahead rs) U b ∧ ∀ x, x ∈ U ↔ ∃ l ∈ rs, x ∈ l
theorem flat_le : ∀ {rs : List (List Str)}, (∀ r ∈ rs, r.length ≤ 8) → rs.flatten.length ≤ 8 * rs.length
  | [], _ => Nat.zero_le _
  | r :: rs, h => by
    have := flat_le (rs := rs) fun l hl => h l (List.mem_cons_of_mem _ hl)
    have h1 := h r List.mem_cons_self
    rw [List.flatten_cons, List.length_append, List.length_cons]
    omega
theorem ints_lts (z : Nat) : ∀ ps : List Int, D.lts z (ps.map D.int) = true
  | [] => by simp [D.lts]
  | p :: ps => by
    rw [List.map_cons, D.lts, ints_lts z ps]
    simp [D.lt]
theorem ints_ltk (z : Nat) : ∀ es : List (Key × D), (∀ p ∈ es, ∃ i : Int, p.2 = D.int i) → D.ltk z es = true
  | [], _ => by simp [D.ltk]
  | (k, v) :: es, h => by
    obtain ⟨i, hi⟩ := h _ List.mem_cons_self
    dsimp only at hi
    subst hi
    rw [D.ltk, ints_ltk z es fun p hp => h p (List.mem_cons_of_mem _ hp)]
    simp [D.lt]
theorem short_all {rs : List (List Str)} {A : Hd} (low : ∀ m ∈ A, ∀ z, M.lt z m = true) (h : Rows rs) : ∀ (ps : List Int) (fs : List Str) (es : List (Key × D)), (∀ p ∈ es, ∃ i : Int, p.2 = D.int i) → ∃ d, PD0 rs d ∧ F_shortest_ring [rowsD rs] (hp A ps fs es) = .ok d (hp A ps fs es) := fun ps fs es he => by
  have hF := flat_le h.len
  have hc := h.cnt
  obtain ⟨d, b, U, f, g1, g2, g3⟩ := shortest_ok (rs := rs) (A := hp A ps fs es) (fun m hm z => by
    rcases List.mem_append.mp hm with hm | hm
    · exact low m hm z
    · simp only [List.mem_cons, List.not_mem_nil, or_false] at hm
      rcases hm with rfl | rfl | rfl
      · exact ints_lts z ps
      · exact strs_lt z fs
      · exact ints_ltk z es he) (by omega) fun l hl => (h.row l hl).nd
  exact ⟨d, ⟨b, U, g1, g2, g3⟩, f⟩
theorem pd0_lt {rs : List (List Str)} (d : D) (h : PD0 rs d) (n : Nat) : d.lt n = true := by
  obtain ⟨b, U, h, _⟩ := h
  exact bestD_lt h n
section
variable {rs : List (List Str)} {A : Hd}
noncomputable def tryF : SF := (sTry (sAsg (eArgs gLstD (aCons (eArgs (fun ds A => F__law_merged_by (ds ++ []) A) (aCons (eVar 0) aNil)) aNil)) (gNm 2)) mt_Clash 3
  (sAsg (eVar 3) (gNm 1)))
abbrev oenv (rs : List (List Str)) (c f : D) : DV.Env := [some (.lst (rs.map rowD)), some c, some f, none]
theorem oinit {t2 : DV.Env} : sAsg (eArgs gTupD (aCons (eC .non) (aCons (eC .non) aNil))) (gTpl [(gNm 1), (gNm 2)]) [some (.lst (rs.map rowD)), none, none, none] A = .go .nx (oenv rs .non .non) A := by
  have z := sz1000
  unfold sAsg
  rw [args2_ok (r := .ok (.tup [.non, .non]) A) (d := .non) (e := .non) (A1 := A) (A2 := A) rfl rfl (by unfold gTupD; exact if_pos (by show 2 ≤ sizeLine; omega))]
  rfl
theorem clashof_ok (low : ∀ m ∈ A, ∀ z, M.lt z m = true) (h : Rows rs) (h5 : rs.length ≤ 5) {r : List Str} (hr : Mg.mergeL rs = some r) : F__law_clash_of [.lst (rs.map rowD)] A = .ok (.lst [.tup (r.map D.str)]) A := by
  have z := sz1000
  have mb := mergedBy_ok low h h5 hr
  let ro := oenv rs .non .non
  have e : eArgs gLstD (aCons (eArgs (fun ds A => F__law_merged_by (ds ++ []) A) (aCons (eVar 0) aNil)) aNil) ro A = .ok (.lst [.tup (r.map D.str)]) A :=
    args1_ok (d := .tup (r.map D.str)) (A1 := A) (args1_ok (d := .lst (rs.map rowD)) (A1 := A) rfl mb) (by
      unfold gLstD
      rw [if_pos (by show 1 ≤ sizeLine; omega)])
  have s2 : tryF ro A = .go .nx (oenv rs .non (.lst [.tup (r.map D.str)])) A := by
    unfold tryF sTry
    rw [sasg_ok e]
    rfl
  have body : b__law_clash_of [some (.lst (rs.map rowD)), none, none, none] A = .go (.ret (.lst [.tup (r.map D.str)])) (oenv rs .non (.lst [.tup (r.map D.str)])) A :=
    sseq_ok (oinit (t2 := [])) (sseq_ok s2 (sret_ok (if_ok (z := true) (A1 := A) (tcmp_ok (d := .non) (e := .non) (A1 := A) (A2 := A) rfl rfl rfl) rfl)))
  show finR A (b__law_clash_of [some (.lst (rs.map rowD)), none, none, none] A) = _
  rw [body]
  unfold finR
  exact cut_self
theorem sif_e {t : TF} {a b : EF} {ro : DV.Env} {A A1 : Hd} {r : R D} (h1 : t ro A = .ok false A1) (h2 : b ro A1 = r) : eIf t a b ro A = r := if_ok h1 h2
theorem low_rowsD (n : Nat) : (rowsD rs).lt n = true := by
  unfold rowsD D.lt
  exact low_rows rs n
theorem clashof_no (low : ∀ m ∈ A, ∀ z, M.lt z m = true) (h : Rows rs) (h5 : rs.length ≤ 5) (hr : Mg.mergeL rs = none) : ∃ d, PD0 rs d ∧ F__law_clash_of [.lst (rs.map rowD)] A = .ok (.tup [.non, rowsD rs, d]) A := by
  have z := sz1000
  obtain ⟨d, hd, st⟩ := star_no low h hr (fun d h n => pd0_lt d h n) (short_all low h)
  refine ⟨d, hd, ?_⟩
  have mb := mergedBy_err h h5 st
  let ro := oenv rs .non .non
  let fs : List (Str × D) := [("steps", d), ("tuples", rowsD rs), ("name", .non)]
  have e : eArgs gLstD (aCons (eArgs (fun ds A => F__law_merged_by (ds ++ []) A) (aCons (eVar 0) aNil)) aNil) ro A = .err (.own "Clash") fs A := by
    have e1 : eArgs (fun ds A => F__law_merged_by (ds ++ []) A) (aCons (eVar 0) aNil) ro A = .err (.own "Clash") fs A := args1_ok (d := .lst (rs.map rowD)) (A1 := A) rfl mb
    have go : ∀ (g : EF) (k : List D → Hd → R D), g ro A = .err (.own "Clash") fs A → eArgs k (aCons g aNil) ro A = .err (.own "Clash") fs A := fun g k hg => by
      unfold eArgs aCons
      rw [hg]
      rfl
    exact go _ _ e1
  let A1 : Hd := A ++ [M.exc "Clash" fs]
  let ro1 := oenv rs (.ref A.length) .non
  have s2 : tryF ro A = .go .nx ro1 A1 := by
    unfold tryF sTry sAsg
    rw [e]
    rfl
  have g : A1[A.length]? = some (.exc "Clash" fs) := by
    rw [List.getElem?_append_right (Nat.le_refl _), Nat.sub_self]; rfl
  have x1 : eUn (gXf xs_name "name") (eVar 1) ro1 A1 = .ok .non A1 := un_ok (d := .ref A.length) (A1 := A1) rfl (by
    unfold gXf
    simp only [g]
    rfl)
  have x2 : eUn (gXf xs_tuples "tuples") (eVar 1) ro1 A1 = .ok (rowsD rs) A1 := un_ok (d := .ref A.length) (A1 := A1) rfl (by
    unfold gXf
    simp only [g]
    rfl)
  have x3 : eUn (gXf xs_steps "steps") (eVar 1) ro1 A1 = .ok d A1 := un_ok (d := .ref A.length) (A1 := A1) rfl (by
    unfold gXf
    simp only [g]
    rfl)
  have tp : eArgs gTupD (aCons (eUn (gXf xs_name "name") (eVar 1)) (aCons (eUn (gXf xs_tuples "tuples") (eVar 1)) (aCons (eUn (gXf xs_steps "steps") (eVar 1)) aNil))) ro1 A1 = .ok (.tup [.non, rowsD rs, d]) A1 :=
    args_ok (ds := [.non, rowsD rs, d]) (acons_ok x1 (acons_ok x2 (acons_ok x3 (show aNil _ _ = .ok [] _ from rfl)))) (by
      unfold gTupD
      rw [if_pos (by show 3 ≤ sizeLine; omega)])
  have body : b__law_clash_of [some (.lst (rs.map rowD)), none, none, none] A = .go (.ret (.tup [.non, rowsD rs, d])) ro1 A1 :=
    sseq_ok (oinit (t2 := [])) (sseq_ok s2 (sret_ok (sif_e (A1 := A1) (tcmp_ok (d := .ref A.length) (e := .non) (A1 := A1) (A2 := A1) rfl rfl rfl) tp)))
  show finR A (b__law_clash_of [some (.lst (rs.map rowD)), none, none, none] A) = _
  rw [body]
  exact cut_val (A := A) (A1 := A) (X := [M.exc "Clash" fs]) rfl (fun m hm => low m hm _) (by
    simp only [D.lt, D.lts, pd0_lt d hd, low_rowsD, Bool.and_self])
end
end K05

set_option Elab.async false
set_option linter.all false
set_option maxRecDepth 100000
/-! the law -/
namespace K05
open PySem PySem.Spec PyProof.Rows L2 DV
theorem gNe_bls (a : Bool) (A : Hd) : gNe (.bl a) (.bl a) A = .ok (.bl false) A := by
  cases a <;> rfl
theorem gNe_same (x : Str) (A : Hd) : gNe (.str x) (.str x) A = .ok (.bl false) A := by
  rw [gNe_strs]
  simp
theorem repr_rowsT {rs : List (List Str)} {A : Hd} (h : Rows rs) : ∃ t, gRepr [rowsD rs] A = .ok (.str t) A := by
  obtain ⟨a, b, c, d, e, f⟩ := rows_P (m := 8) (fun r hr => (h.row r hr).all) h.len
  have hc := h.cnt
  have ep : toP (rowsD rs) = some (.tuple (rs.map rowP)) := by
    unfold rowsD toP
    rw [a]
  have s : Shw (.tuple (rs.map rowP)) 730 2 := by
    refine ⟨?_, ?_, ?_, ?_, ?_⟩
    · unfold PyData.showable; exact b
    · unfold PyData.canLay0; exact c
    · unfold PyData.intsShort; exact d
    · unfold PyData.weight; omega
    · unfold PyData.depth; omega
  exact ⟨_, repr_ok ep s (by omega) (by omega)⟩
noncomputable def kTest : TF := (tCmpD gNe (eArgs gIsa (aCons (eVar 5) (aCons (eC (.cls (.bi "list"))) aNil))) (eBin gEq (eVar 6) (eC (.int 0))))
noncomputable def kA : TF := (tOrD (tCmpD gNotN (eBin gSubD (eVar 5) (eC (.int 0))) (eC .non)) (tCmpD gNe (eArgs gRepr (aCons (eBin gSubD (eVar 5) (eC (.int 1))) aNil)) (eArgs gRepr (aCons (eArgs gTuple (aCons (eVar 4) aNil)) aNil))))
noncomputable def kB : TF := (tOrD (tNotD (tOfE (eArgs (fun ds A => F__law_clash_fits (ds ++ []) A) (aCons (eVar 4) (aCons (eBin gSubD (eVar 5) (eC (.int 2))) aNil))))) (tCmpD gNe (eArgs gLen (aCons (eBin gSubD (eVar 5) (eC (.int 2))) aNil)) (eVar 6)))
noncomputable def kC : SF := (sSeq (sIf kTest (sRet (eC (.bl false))) sNx) (sIf (tCmpD gGt (eVar 6) (eC (.int 0))) (sSeq (sIf kA (sRet (eC (.bl false))) sNx) (sIf kB (sRet (eC (.bl false))) sNx)) sNx))
noncomputable def bIn : SF := (sSeq (sAsg (eArgs (fun ds A => F__law_name_rows (ds ++ []) A) (aCons (eVar 2) (aCons (eBin gAdd (eC (.int 2)) (eArgs (fun ds A => F__law_next (ds ++ []) A) (aCons (eVar 2) (aCons (eC (.int 4)) aNil)))) (aCons (eBin gAdd (eC (.int 2)) (eArgs (fun ds A => F__law_next (ds ++ []) A) (aCons (eVar 2) (aCons (eC (.int 7)) aNil)))) (aCons (eC (.bl true)) aNil))))) (gNm 4))
  (sSeq (sPar (aCons (eArgs (fun ds A => F__law_clash_of (ds ++ []) A) (aCons (eVar 4) aNil)) (aCons (eArgs (fun ds A => F__law_least_ring (ds ++ []) A) (aCons (eVar 4) aNil)) aNil)) [5, 6]) kC))
noncomputable def bTurn : SF := (sSeq (sAsg (eArgs (fun ds A => F__law_source (ds ++ []) A) (aCons (eVar 0) (aCons (eVar 1) aNil))) (gNm 2)) (sFor (iRange1 (aCons (eC (.int 3)) aNil)) (gNm 3) bIn))
noncomputable def bRest : SF := (sSeq (sAsg (eArgs gLstD (aCons (eArgs gTupD (aCons (eC (.str "a")) (aCons (eC (.str "b")) aNil))) (aCons (eArgs gTupD (aCons (eC (.str "b")) (aCons (eC (.str "c")) aNil))) (aCons (eArgs gTupD (aCons (eC (.str "c")) (aCons (eC (.str "d")) aNil))) (aCons (eArgs gTupD (aCons (eC (.str "d")) (aCons (eC (.str "a")) aNil))) aNil))))) (gNm 4))
  (sSeq (sAsg (eArgs (fun ds A => F__law_clash_of (ds ++ []) A) (aCons (eVar 4) aNil)) (gNm 5))
  (sRet (eAndD (eNotD (eArgs gIsa (aCons (eVar 5) (aCons (eC (.cls (.bi "list"))) aNil)))) (eAndD (eBin gEq (eArgs gLen (aCons (eBin gSubD (eVar 5) (eC (.int 2))) aNil)) (eC (.int 4))) (eArgs (fun ds A => F__law_clash_fits (ds ++ []) A) (aCons (eVar 4) (aCons (eBin gSubD (eVar 5) (eC (.int 2))) aNil))))))))
theorem law_parts : b_law = sSeq (sFor (iRange1 (aCons (eArgs gMax2 (aCons (eC (.int 1)) (aCons (eArgs gMin2 (aCons (eC (.int 6)) (aCons (eArgs gLen (aCons (eVar 0) aNil)) aNil))) aNil))) aNil)) (gNm 1) bTurn) bRest := rfl
theorem rows_of {rs : List (List Str)} (h : ∀ r ∈ rs, rowOf r) (hn : rs.length ≤ 10) : Rows rs := ⟨fun r hr => rowG_of (h r hr), hn, fun r hr => (rowOf_mem (h r hr)).2.2⟩
theorem draw {n k : Nat} {A : Hd} {T c : Int} {ro : DV.Env} (S : SN n k A T) (hT : T ≤ 2 ^ 40) (hc : 0 < c) (hc2 : c ≤ 100) (h2 : ro[2]? = some (some (.ref k))) : ∃ (m : Nat) (A' : Hd), eArgs (fun ds A => F__law_next (ds ++ []) A) (aCons (eVar 2) (aCons (eC (.int c)) aNil)) ro A = .ok (.int (m : Nat)) A' ∧ (m : Int) < c ∧ SN n k A' (T + 1) := by
  obtain ⟨r, A', g, r0, r1, S'⟩ := nextN (X := []) (m := c) S hT hc (by omega)
  rw [List.append_nil, List.append_nil] at g
  obtain ⟨m, rfl⟩ : ∃ m : Nat, r = (m : Nat) := ⟨r.toNat, by omega⟩
  exact ⟨m, A', args2_ok (d := .ref k) (e := .int c) (A1 := A) (A2 := A) (by unfold eVar; rw [h2]) rfl g, r1, S'⟩
theorem best_two {rs : List (List Str)} (hnd : ∀ l ∈ rs, l.Nodup) {U : List Str} {b : Nat} (hb : b ≠ 0) (h : Mg.LeastIn (Mg.Ahead rs) U b) : 2 ≤ b := by
  obtain ⟨⟨s, _, hw⟩, _⟩ := h.some hb
  cases b with
  | zero => exact absurd rfl hb
  | succ b =>
    cases b with
    | zero =>
      obtain ⟨x, hx, hr⟩ := hw
      cases hx
      exact absurd rfl (Mg.no_self hnd hr)
    | succ b => omega
abbrev kenv (s t1 t2 t3 : Option D) (rs : List (List Str)) (told : D) (b : Nat) : DV.Env := [s, t1, t2, t3, some (.lst (rs.map rowD)), some told, some (.int (b : Nat))]
theorem kc_ok {rs : List (List Str)} {A : Hd} {s t1 t2 t3 : Option D} {r : List Str} : kC (kenv s t1 t2 t3 rs (.lst [.tup (r.map D.str)]) 0) A = .go .nx (kenv s t1 t2 t3 rs (.lst [.tup (r.map D.str)]) 0) A := by
  let ro := kenv s t1 t2 t3 rs (.lst [.tup (r.map D.str)]) 0
  have i : eArgs gIsa (aCons (eVar 5) (aCons (eC (.cls (.bi "list"))) aNil)) ro A = .ok (.bl true) A := args2_ok (d := .lst [.tup (r.map D.str)]) (e := .cls (.bi "list")) (A1 := A) (A2 := A) rfl rfl (by
    unfold gIsa
    simp only [show tyD A (.lst [.tup (r.map D.str)]) = some "list" from rfl, show isaB "list" "list" = some true by decide +kernel])
  have q : eBin gEq (eVar 6) (eC (.int 0)) ro A = .ok (.bl true) A := bin_ok (d := .int 0) (e := .int 0) (A1 := A) (A2 := A) rfl rfl (gEq_int 0 0 A)
  have k1 : kTest ro A = .ok false A := tcmp_ok (A1 := A) (A2 := A) i q (gNe_bls true A)
  exact sseq_ok (sif_ok (z := false) (A1 := A) k1 rfl) (sif_ok (z := false) (A1 := A) (tcmp_ok (d := .int 0) (e := .int 0) (A1 := A) (A2 := A) rfl rfl rfl) rfl)
theorem kc_no {rs : List (List Str)} {A : Hd} {s t1 t2 t3 : Option D} (h : Rows rs) {st : List Mg.Step3} {x : Str} (hp : Mg.PathE (GG rs) x st x) (h2 : 2 ≤ st.length) (hl : st.length ≤ 190) :
    kC (kenv s t1 t2 t3 rs (.tup [.non, rowsD rs, .tup (st.map stepD)]) st.length) A = .go .nx (kenv s t1 t2 t3 rs (.tup [.non, rowsD rs, .tup (st.map stepD)]) st.length) A := by
  let ro := kenv s t1 t2 t3 rs (.tup [.non, rowsD rs, .tup (st.map stepD)]) st.length
  have i : eArgs gIsa (aCons (eVar 5) (aCons (eC (.cls (.bi "list"))) aNil)) ro A = .ok (.bl false) A := args2_ok (d := .tup [.non, rowsD rs, .tup (st.map stepD)]) (e := .cls (.bi "list")) (A1 := A) (A2 := A) rfl rfl (by
    unfold gIsa
    simp only [show tyD A (.tup [.non, rowsD rs, .tup (st.map stepD)]) = some "tuple" from rfl, show isaB "tuple" "list" = some false by decide +kernel])
  have q : eBin gEq (eVar 6) (eC (.int 0)) ro A = .ok (.bl false) A := bin_ok (d := .int (st.length : Nat)) (e := .int 0) (A1 := A) (A2 := A) rfl rfl ((gEq_int _ 0 A).trans (by rw [decide_eq_false (by omega)]))
  have k1 : kTest ro A = .ok false A := tcmp_ok (A1 := A) (A2 := A) i q (gNe_bls false A)
  have gt : tCmpD gGt (eVar 6) (eC (.int 0)) ro A = .ok true A := tcmp_ok (d := .int (st.length : Nat)) (e := .int 0) (A1 := A) (A2 := A) rfl rfl (by
    show R.ok (D.bl (decide ((0 : Int) < (st.length : Nat)))) A = _
    rw [decide_eq_true (by omega)])
  have e5 : eVar 5 ro A = .ok (.tup [.non, rowsD rs, .tup (st.map stepD)]) A := rfl
  have s0 : eBin gSubD (eVar 5) (eC (.int 0)) ro A = .ok .non A := bin_ok (A1 := A) (A2 := A) e5 rfl (sub_tup rfl)
  have s1 : eBin gSubD (eVar 5) (eC (.int 1)) ro A = .ok (rowsD rs) A := bin_ok (A1 := A) (A2 := A) e5 rfl (sub_tup rfl)
  have s2 : eBin gSubD (eVar 5) (eC (.int 2)) ro A = .ok (.tup (st.map stepD)) A := bin_ok (A1 := A) (A2 := A) e5 rfl (sub_tup rfl)
  obtain ⟨t, rt⟩ := repr_rowsT (A := A) h
  have r1 : eArgs gRepr (aCons (eBin gSubD (eVar 5) (eC (.int 1))) aNil) ro A = .ok (.str t) A := args1_ok (A1 := A) s1 rt
  have r2 : eArgs gRepr (aCons (eArgs gTuple (aCons (eVar 4) aNil)) aNil) ro A = .ok (.str t) A := args1_ok (d := rowsD rs) (A1 := A) (args1_ok (d := .lst (rs.map rowD)) (A1 := A) rfl rfl) rt
  have ka : kA ro A = .ok false A := tor_f (A1 := A) (tcmp_ok (d := .non) (e := .non) (A1 := A) (A2 := A) s0 rfl rfl) (tcmp_ok (A1 := A) (A2 := A) r1 r2 (gNe_same t A))
  have fi : eArgs (fun ds A => F__law_clash_fits (ds ++ []) A) (aCons (eVar 4) (aCons (eBin gSubD (eVar 5) (eC (.int 2))) aNil)) ro A = .ok (.bl true) A := args2_ok (d := .lst (rs.map rowD)) (e := .tup (st.map stepD)) (A1 := A) (A2 := A) rfl s2 (fits_ok (fun l hl => (h.row l hl).nd) hp h2 hl)
  have ln : eArgs gLen (aCons (eBin gSubD (eVar 5) (eC (.int 2))) aNil) ro A = .ok (.int (st.length : Nat)) A := args1_ok (A1 := A) s2 (by
    show R.ok (D.int ((st.map stepD).length : Nat)) A = _
    rw [List.length_map])
  have kb : kB ro A = .ok false A := tor_f (A1 := A) (tnot_ok (trub_ok fi)) (tcmp_ok (e := .int (st.length : Nat)) (A1 := A) (A2 := A) ln rfl ((gNe_int _ _ A).trans (by rw [decide_eq_true rfl]; rfl)))
  exact sseq_ok (sif_ok (z := false) (A1 := A) k1 rfl) (sif_ok (z := true) (A1 := A) gt (sseq_ok (sif_ok (z := false) (A1 := A) ka rfl) (sif_ok (z := false) (A1 := A) kb rfl)))
theorem told_ok {rs : List (List Str)} {A : Hd} {s t1 t2 t3 t5 t6 : Option D} (low : ∀ m ∈ A, ∀ z, M.lt z m = true) (h : Rows rs) (h5 : rs.length ≤ 5) (hU : ∀ l ∈ rs, ∀ x ∈ l, x ∈ names8) :
    ∃ told b, sSeq (sPar (aCons (eArgs (fun ds A => F__law_clash_of (ds ++ []) A) (aCons (eVar 4) aNil)) (aCons (eArgs (fun ds A => F__law_least_ring (ds ++ []) A) (aCons (eVar 4) aNil)) aNil)) [5, 6]) kC [s, t1, t2, t3, some (.lst (rs.map rowD)), t5, t6] A = .go .nx (kenv s t1 t2 t3 rs told b) A := by
  have hnd : ∀ l ∈ rs, l.Nodup := fun l hl => (h.row l hl).nd
  obtain ⟨b, U, lr, hl, hu⟩ := least_ok (A := A) h hU
  have mi := Mg.merge_iff hnd (fun l hl x hx => (hu x).mpr ⟨l, hl, hx⟩) hl
  let ro : DV.Env := [s, t1, t2, t3, some (.lst (rs.map rowD)), t5, t6]
  have par : ∀ told, F__law_clash_of [.lst (rs.map rowD)] A = .ok told A → sPar (aCons (eArgs (fun ds A => F__law_clash_of (ds ++ []) A) (aCons (eVar 4) aNil)) (aCons (eArgs (fun ds A => F__law_least_ring (ds ++ []) A) (aCons (eVar 4) aNil)) aNil)) [5, 6] ro A = .go .nx (kenv s t1 t2 t3 rs told b) A := fun told ht => by
    have e1 : eArgs (fun ds A => F__law_clash_of (ds ++ []) A) (aCons (eVar 4) aNil) ro A = .ok told A := args1_ok (d := .lst (rs.map rowD)) (A1 := A) rfl ht
    have e2 : eArgs (fun ds A => F__law_least_ring (ds ++ []) A) (aCons (eVar 4) aNil) ro A = .ok (.int (b : Nat)) A := args1_ok (d := .lst (rs.map rowD)) (A1 := A) rfl lr
    unfold sPar
    rw [acons_ok e1 (acons_ok e2 (show aNil ro A = .ok [] A from rfl)), R.then_ok]
    rfl
  cases hm : Mg.mergeL rs with
  | some r =>
    have b0 : b = 0 := Classical.byContradiction fun q => by
      have := mi.mpr q
      rw [hm] at this
      cases this
    subst b0
    exact ⟨_, 0, sseq_ok (par _ (clashof_ok low h h5 hm)) kc_ok⟩
  | none =>
    have bn := mi.mp hm
    obtain ⟨d, ⟨b', U', hb, hl', hu'⟩, ht⟩ := clashof_no low h h5 hm
    have eb : b' = b := hl'.uniq hl fun x => (hu' x).trans (hu x).symm
    subst eb
    rcases hb with ⟨_, e0⟩ | ⟨st, x, rfl, e, _, hp, h190⟩
    · exact absurd e0 bn
    · subst e
      exact ⟨_, _, sseq_ok (par _ ht) (kc_no h hp (best_two hnd bn hl) h190)⟩
theorem in_ok {n k : Nat} {A : Hd} {T : Int} {s t1 t3 t4 t5 t6 : Option D} (S : SN n k A T) (hT : T + 1000 ≤ 2 ^ 40) :
    ∃ (u4 u5 u6 : Option D) (A' : Hd), bIn [s, t1, some (.ref k), t3, t4, t5, t6] A = .go .nx [s, t1, some (.ref k), t3, u4, u5, u6] A' ∧ SN n k A' (T + 210) := by
  have z := sz1000
  let ro : DV.Env := [s, t1, some (.ref k), t3, t4, t5, t6]
  obtain ⟨m1, A1, g1, h1, S1⟩ := draw (ro := ro) (c := 4) S (by omega) (by omega) (by omega) rfl
  obtain ⟨m2, A2, g2, h2, S2⟩ := draw (ro := ro) (c := 7) S1 (by omega) (by omega) (by omega) rfl
  obtain ⟨rs, A4, g4, hrs, lrs, S4⟩ := rowsN (many := 2 + m1) (most := 2 + m2) true S2 (by omega) (by omega) (by omega)
  have e1 : eBin gAdd (eC (.int 2)) (eArgs (fun ds A => F__law_next (ds ++ []) A) (aCons (eVar 2) (aCons (eC (.int 4)) aNil))) ro A = .ok (.int ((2 + m1 : Nat) : Int)) A1 := bin_ok (d := .int 2) (e := .int (m1 : Nat)) (A1 := A) (A2 := A1) rfl g1 (by
    show R.ok (D.int (2 + (m1 : Nat))) A1 = _
    rw [show (2 + (m1 : Nat) : Int) = ((2 + m1 : Nat) : Int) by omega])
  have e2 : eBin gAdd (eC (.int 2)) (eArgs (fun ds A => F__law_next (ds ++ []) A) (aCons (eVar 2) (aCons (eC (.int 7)) aNil))) ro A1 = .ok (.int ((2 + m2 : Nat) : Int)) A2 := bin_ok (d := .int 2) (e := .int (m2 : Nat)) (A1 := A1) (A2 := A2) rfl g2 (by
    show R.ok (D.int (2 + (m2 : Nat))) A2 = _
    rw [show (2 + (m2 : Nat) : Int) = ((2 + m2 : Nat) : Int) by omega])
  have e4 : eArgs (fun ds A => F__law_name_rows (ds ++ []) A) (aCons (eVar 2) (aCons (eBin gAdd (eC (.int 2)) (eArgs (fun ds A => F__law_next (ds ++ []) A) (aCons (eVar 2) (aCons (eC (.int 4)) aNil)))) (aCons (eBin gAdd (eC (.int 2)) (eArgs (fun ds A => F__law_next (ds ++ []) A) (aCons (eVar 2) (aCons (eC (.int 7)) aNil)))) (aCons (eC (.bl true)) aNil)))) ro A = .ok (.lst (rs.map rowD)) A4 :=
    args_ok (acons_ok (d := .ref k) (A1 := A) rfl (acons_ok e1 (acons_ok e2 (acons_ok (d := .bl true) (A1 := A2) rfl (show aNil ro A2 = .ok [] A2 from rfl))))) g4
  have R0 : Rows rs := rows_of hrs (by omega)
  have low : ∀ m ∈ A4, ∀ z, M.lt z m = true := fun m hm z => S4.low m hm z
  obtain ⟨told, b, f⟩ := told_ok (s := s) (t1 := t1) (t2 := some (.ref k)) (t3 := t3) (t5 := t5) (t6 := t6) low R0 (by omega) fun l hl x hx => (rowOf_mem (hrs l hl)).2.1 x hx
  exact ⟨some (.lst (rs.map rowD)), some told, some (.int (b : Nat)), A4, sseq_ok (sasg_ok e4) f, S4.le (by omega)⟩
theorem turn_ok {ns : List Int} {A : Hd} {j : Nat} {t2 t3 t4 t5 t6 : Option D} (hl : ns.length ≤ 63) (hj : j ≤ 10) (low : ∀ m ∈ A, ∀ z, M.lt z m = true) :
    ∃ (u2 u3 u4 u5 u6 : Option D) (A' : Hd), bTurn [some (.scr (ns.map D.int)), some (.int j), t2, t3, t4, t5, t6] A = .go .nx [some (.scr (ns.map D.int)), some (.int j), u2, u3, u4, u5, u6] A' ∧ (∀ m ∈ A', ∀ z, M.lt z m = true) := by
  obtain ⟨A1, g1, S1⟩ := sourceN (kk := j) hl hj low
  let k := A.length
  obtain ⟨ro', A', e, u3, u4, u5, u6, rfl, S'⟩ := forD_run (s := .fix (rangeD 0 3)) (g := gNm 3) (b := bIn)
    (I := fun i ro A' => ∃ (u3 u4 u5 u6 : Option D), ro = [some (.scr (ns.map D.int)), some (.int j), some (.ref k), u3, u4, u5, u6] ∧ SN (k + 1) k A' (30 + 210 * (i : Nat)))
    (fun _ _ A _ => here_fix _ A) (rangeD 0 3) 0 [some (.scr (ns.map D.int)), some (.int j), some (.ref k), t3, t4, t5, t6] A1 ⟨t3, t4, t5, t6, rfl, S1.le (by omega)⟩ (by
      rintro i d ro A1 hd ⟨u3, u4, u5, u6, rfl, S1⟩
      have hi : i < 3 := by
        have := (List.getElem?_eq_some_iff.mp hd).1
        simpa [rangeD] using this
      obtain ⟨v4, v5, v6, A2, g, S2⟩ := in_ok (s := some (.scr (ns.map D.int))) (t1 := some (.int j)) (t3 := some d) (t4 := u4) (t5 := u5) (t6 := u6) S1 (by omega)
      exact ⟨_, A2, step_okL g, _, _, _, _, rfl, S2.le (by omega)⟩)
  refine ⟨some (.ref k), u3, u4, u5, u6, A', ?_, S'.low⟩
  unfold bTurn
  exact sseq_ok (A1 := A1) (sasg_ok (args2_ok (d := .scr (ns.map D.int)) (e := .int j) (A1 := A) (A2 := A) rfl rfl g1)) (sfor_ok (rng_ok (n := 3) (A1 := A1) rfl (by omega) (by omega)) e)
end K05

set_option Elab.async false
set_option linter.all false
set_option maxRecDepth 100000
/-! the law: the ring of four, and the whole -/
namespace K05
open PySem PySem.Spec PyProof.Rows L2 DV
def rs4 : List (List Str) := [["a", "b"], ["b", "c"], ["c", "d"], ["d", "a"]]
def num4 (x : Str) : Nat := if x = "a" then 0 else if x = "b" then 1 else if x = "c" then 2 else 3
theorem ahead4 {x y : Str} (h : Mg.Ahead rs4 x y) : num4 y % 4 = (num4 x + 1) % 4 := by
  obtain ⟨l, hl, hs⟩ := h
  have hl2 : l.length = 2 := by
    have : ∀ l ∈ rs4, l.length = 2 := by decide +kernel
    exact this l hl
  have e := hs.eq_of_length (by rw [hl2]; rfl)
  subst e
  have : ∀ l ∈ rs4, ∀ x y, l = [x, y] → num4 y % 4 = (num4 x + 1) % 4 := by
    intro l hl x y e
    unfold rs4 at hl
    simp only [List.mem_cons, List.not_mem_nil, or_false] at hl
    rcases hl with rfl | rfl | rfl | rfl
    all_goals
      simp only [List.cons.injEq, and_true] at e
      obtain ⟨e1, e2⟩ := e
      rw [← e1, ← e2]
      decide +kernel
  exact this _ hl x y rfl
theorem way4 : ∀ {n : Nat} {x y : Str}, Mg.W (Mg.Ahead rs4) n x y → num4 y % 4 = (num4 x + n) % 4
  | 0, _, _, e => by cases e; rfl
  | n + 1, x, y, ⟨z, h1, h2⟩ => by
    have := way4 h1
    have := ahead4 h2
    omega
theorem least4 : Mg.LeastIn (Mg.Ahead rs4) ["a", "b", "c", "d"] 4 where
  none e := by cases e
  some _ := by
    have mem : ∀ x y l, l ∈ rs4 → l = [x, y] → Mg.Ahead rs4 x y := fun x y l hl e => ⟨l, hl, by rw [e]; exact List.Sublist.refl _⟩
    refine ⟨⟨"a", by simp, "d", ⟨"c", ⟨"b", ⟨"a", rfl, mem "a" "b" ["a", "b"] (by simp [rs4]) rfl⟩, mem "b" "c" ["b", "c"] (by simp [rs4]) rfl⟩, mem "c" "d" ["c", "d"] (by simp [rs4]) rfl⟩, mem "d" "a" ["d", "a"] (by simp [rs4]) rfl⟩, fun s _ j hj hw => ?_⟩
    have := way4 hw
    omega
theorem rows_dec {rs : List (List Str)} (h : (rs.all fun r => decide r.Nodup && r.all good1 && decide (r.length ≤ 8)) = true) (hn : rs.length ≤ 10) : Rows rs := by
  refine ⟨fun r hr => ?_, hn, fun r hr => ?_⟩
  · have := List.all_eq_true.mp h r hr
    rw [Bool.and_eq_true, Bool.and_eq_true] at this
    exact ⟨of_decide_eq_true this.1.1, this.1.2, by have := of_decide_eq_true this.2; omega⟩
  · have := List.all_eq_true.mp h r hr
    rw [Bool.and_eq_true, Bool.and_eq_true] at this
    exact of_decide_eq_true this.2
theorem rest_ok {A : Hd} {s t1 t2 t3 t4 t5 t6 : Option D} (low : ∀ m ∈ A, ∀ z, M.lt z m = true) : ∃ ro', bRest [s, t1, t2, t3, t4, t5, t6] A = .go (.ret (.bl true)) ro' A := by
  have z := sz1000
  have z2 : 2 ≤ sizeLine := by omega
  have z4 : 4 ≤ sizeLine := by omega
  let ro0 : DV.Env := [s, t1, t2, t3, t4, t5, t6]
  have R0 : Rows rs4 := rows_dec (by decide +kernel) (by decide)
  have hm : Mg.mergeL rs4 = none := by decide +kernel
  obtain ⟨d, ⟨b, U, hb, hl, hu⟩, ht⟩ := clashof_no low R0 (by decide) hm
  have eb : b = 4 := hl.uniq least4 fun x => by
    rw [hu]
    simp only [rs4, List.mem_cons, List.not_mem_nil, or_false, exists_eq_or_imp, exists_eq_left]
    constructor
    · rintro ((h | h) | (h | h) | (h | h) | (h | h))
      all_goals simp [h]
    · rintro (h | h | h | h)
      all_goals simp [h]
  rcases hb with ⟨_, e0⟩ | ⟨st, x, rfl, e, _, hp, h190⟩
  · omega
  · have e4 : st.length = 4 := by omega
    have p2 : ∀ a b : Str, eArgs gTupD (aCons (eC (.str a)) (aCons (eC (.str b)) aNil)) ro0 A = .ok (rowD [a, b]) A := fun a b => by
      simp [eArgs, aCons, aNil, eC, gTupD, z2, rowD]
    have rows : eArgs gLstD (aCons (eArgs gTupD (aCons (eC (.str "a")) (aCons (eC (.str "b")) aNil))) (aCons (eArgs gTupD (aCons (eC (.str "b")) (aCons (eC (.str "c")) aNil))) (aCons (eArgs gTupD (aCons (eC (.str "c")) (aCons (eC (.str "d")) aNil))) (aCons (eArgs gTupD (aCons (eC (.str "d")) (aCons (eC (.str "a")) aNil))) aNil)))) ro0 A = .ok (.lst (rs4.map rowD)) A :=
      args_ok (ds := rs4.map rowD) (A1 := A) (acons_ok (p2 "a" "b") (acons_ok (p2 "b" "c") (acons_ok (p2 "c" "d") (acons_ok (p2 "d" "a") (show aNil ro0 A = .ok [] A from rfl))))) (by
        unfold gLstD
        rw [if_pos (by show 4 ≤ sizeLine; omega)])
    let ro1 : DV.Env := [s, t1, t2, t3, some (.lst (rs4.map rowD)), t5, t6]
    let td : D := .tup [.non, rowsD rs4, .tup (st.map stepD)]
    let ro2 : DV.Env := [s, t1, t2, t3, some (.lst (rs4.map rowD)), some td, t6]
    have s1 : sAsg (eArgs gLstD (aCons (eArgs gTupD (aCons (eC (.str "a")) (aCons (eC (.str "b")) aNil))) (aCons (eArgs gTupD (aCons (eC (.str "b")) (aCons (eC (.str "c")) aNil))) (aCons (eArgs gTupD (aCons (eC (.str "c")) (aCons (eC (.str "d")) aNil))) (aCons (eArgs gTupD (aCons (eC (.str "d")) (aCons (eC (.str "a")) aNil))) aNil))))) (gNm 4) ro0 A = .go .nx ro1 A := (sasg_ok rows).trans rfl
    have e2 : eArgs (fun ds A => F__law_clash_of (ds ++ []) A) (aCons (eVar 4) aNil) ro1 A = .ok td A := args1_ok (d := .lst (rs4.map rowD)) (A1 := A) rfl ht
    have s2 : sAsg (eArgs (fun ds A => F__law_clash_of (ds ++ []) A) (aCons (eVar 4) aNil)) (gNm 5) ro1 A = .go .nx ro2 A := (sasg_ok e2).trans rfl
    have i : eArgs gIsa (aCons (eVar 5) (aCons (eC (.cls (.bi "list"))) aNil)) ro2 A = .ok (.bl false) A := args2_ok (d := td) (e := .cls (.bi "list")) (A1 := A) (A2 := A) rfl rfl (by
      unfold gIsa
      simp only [show tyD A td = some "tuple" from rfl, show isaB "tuple" "list" = some false by decide +kernel])
    have s5 : eBin gSubD (eVar 5) (eC (.int 2)) ro2 A = .ok (.tup (st.map stepD)) A := bin_ok (d := td) (e := .int 2) (A1 := A) (A2 := A) rfl rfl (sub_tup rfl)
    have ln : eArgs gLen (aCons (eBin gSubD (eVar 5) (eC (.int 2))) aNil) ro2 A = .ok (.int (st.length : Nat)) A := args1_ok (A1 := A) s5 (by
      show R.ok (D.int ((st.map stepD).length : Nat)) A = _
      rw [List.length_map])
    have q : eBin gEq (eArgs gLen (aCons (eBin gSubD (eVar 5) (eC (.int 2))) aNil)) (eC (.int 4)) ro2 A = .ok (.bl true) A := bin_ok (e := .int 4) (A1 := A) (A2 := A) ln rfl ((gEq_int _ 4 A).trans (by rw [decide_eq_true (by omega)]))
    have fi : eArgs (fun ds A => F__law_clash_fits (ds ++ []) A) (aCons (eVar 4) (aCons (eBin gSubD (eVar 5) (eC (.int 2))) aNil)) ro2 A = .ok (.bl true) A := args2_ok (d := .lst (rs4.map rowD)) (e := .tup (st.map stepD)) (A1 := A) (A2 := A) rfl s5 (fits_ok (fun l hl => (R0.row l hl).nd) hp (by omega) h190)
    have nt : eNotD (eArgs gIsa (aCons (eVar 5) (aCons (eC (.cls (.bi "list"))) aNil))) ro2 A = .ok (.bl true) A := by
      unfold eNotD
      rw [i]
      rfl
    exact ⟨ro2, sseq_ok s1 (sseq_ok s2 (sret_ok (and_ok (z := true) (A1 := A) nt ((if_pos rfl).trans (and_ok (z := true) (A1 := A) q ((if_pos rfl).trans fi))))))⟩
theorem law_ok {ns : List Int} (hl : ns.length ≤ 63) : ∃ A', F_law [.scr (ns.map D.int)] [] = .ok (.bl true) A' := by
  have z := sz1000
  let m : Int := if (ns.length : Int) < 6 then ns.length else 6
  let n : Int := if m > 1 then m else 1
  have n1 : 1 ≤ n := by show 1 ≤ (if m > 1 then m else 1); split <;> omega
  have n4 : n ≤ 6 := by
    have : m ≤ 6 := by show (if (ns.length : Int) < 6 then (ns.length : Int) else 6) ≤ 6; split <;> omega
    show (if m > 1 then m else 1) ≤ 6
    split <;> omega
  let ro0 : DV.Env := [some (.scr (ns.map D.int)), none, none, none, none, none, none]
  have rg : iRange1 (aCons (eArgs gMax2 (aCons (eC (.int 1)) (aCons (eArgs gMin2 (aCons (eC (.int 6)) (aCons (eArgs gLen (aCons (eVar 0) aNil)) aNil))) aNil))) aNil) ro0 [] = .ok (.fix (rangeD 0 n.toNat)) [] := by
    refine rng_ok (n := n) (A1 := []) (args2_ok (d := .int 1) (e := .int m) (A1 := []) (A2 := []) rfl (args2_ok (d := .int 6) (e := .int ns.length) (A1 := []) (A2 := []) rfl (args1_ok (d := .scr (ns.map D.int)) (A1 := []) rfl ?_) rfl) rfl) (by omega) (by omega)
    show R.ok (D.int ((ns.map D.int).length : Nat)) ([] : Hd) = _
    rw [List.length_map]
  obtain ⟨ro', A', e, t1, t2, t3, t4, t5, t6, rfl, low⟩ := forD_run (s := .fix (rangeD 0 n.toNat)) (g := gNm 1) (b := bTurn)
    (I := fun i ro A' => ∃ (t1 t2 t3 t4 t5 t6 : Option D), ro = [some (.scr (ns.map D.int)), t1, t2, t3, t4, t5, t6] ∧ (∀ m ∈ A', ∀ z, M.lt z m = true))
    (fun _ _ A _ => here_fix _ A) (rangeD 0 n.toNat) 0 ro0 [] ⟨none, none, none, none, none, none, rfl, (by intro m hm; cases hm)⟩ (by
      rintro i d ro A1 hd ⟨t1, t2, t3, t4, t5, t6, rfl, low⟩
      obtain ⟨hi, rfl⟩ : i < n.toNat ∧ d = .int (i : Nat) := by
        have hi : i < n.toNat := by
          have := (List.getElem?_eq_some_iff.mp hd).1
          simpa [rangeD] using this
        refine ⟨hi, ?_⟩
        unfold rangeD at hd
        rw [List.getElem?_map, List.getElem?_range hi] at hd
        have := Option.some.inj hd
        rw [← this]
        show D.int (0 + (i : Int)) = _
        rw [Int.zero_add]
      obtain ⟨u2, u3, u4, u5, u6, A2, g, low2⟩ := turn_ok (j := i) (t2 := t2) (t3 := t3) (t4 := t4) (t5 := t5) (t6 := t6) hl (by omega) low
      exact ⟨_, A2, step_okL g, _, _, _, _, _, _, rfl, low2⟩)
  obtain ⟨ro2, e2⟩ := rest_ok (A := A') (s := some (.scr (ns.map D.int))) (t1 := t1) (t2 := t2) (t3 := t3) (t4 := t4) (t5 := t5) (t6 := t6) low
  have main : b_law (startD 7 [.scr (ns.map D.int)]) [] = .go (.ret (.bl true)) ro2 A' := by
    rw [law_parts]
    exact sseq_ok (sfor_ok rg e) e2
  refine ⟨[], ?_⟩
  unfold F_law
  show finR [] (b_law (startD 7 [.scr (ns.map D.int)]) []) = _
  rw [main]
  rfl
end K05

set_option Elab.async false
set_option linter.all false
set_option maxRecDepth 100000
namespace K05
open PySem PySem.Spec PyProof.Rows L2 DV

theorem all_mk {P : Program} {w : World} {K : PySem.W.Frag} {h : Heap} {mg : Str → Option Value} {fa f0 f1 f2 f3 f4 f5 f6 f7 f8 f9 f10 f11 f12 f13 f14 f15 f16 f17 C_WorldError C_BadTuple C_LimitError C_Clash fI_BadTuple cc_BadTuple co_BadTuple fI_Clash cc_Clash co_Clash : Addr} {nm_BadTuple q_BadTuple : Str} {N_BadTuple : Addr} {bs_BadTuple sz_BadTuple : List Value} {sn_BadTuple : List Str} {ab_BadTuple : Bool} {col_BadTuple : Option Bool} {dd_BadTuple : Option Addr} {k0_BadTuple k1_BadTuple k2_BadTuple k3_BadTuple k5_BadTuple : Option Value} {od_BadTuple cd_BadTuple ld_BadTuple : Option Addr} {oc_BadTuple dc_BadTuple pm_BadTuple cv_BadTuple ccl_BadTuple lcl_BadTuple : Value} {osl_BadTuple ccs_BadTuple lsl_BadTuple : Array (Option Value)} {va_BadTuple : Array Value} {file_BadTuple : Str} {tf_BadTuple : Tok} {nm_Clash q_Clash : Str} {N_Clash : Addr} {bs_Clash sz_Clash : List Value} {sn_Clash : List Str} {ab_Clash : Bool} {col_Clash : Option Bool} {dd_Clash : Option Addr} {k0_Clash k1_Clash k2_Clash k3_Clash k5_Clash : Option Value} {od_Clash cd_Clash ld_Clash : Option Addr} {oc_Clash dc_Clash pm_Clash cv_Clash ccl_Clash lcl_Clash : Value} {osl_Clash ccs_Clash lsl_Clash : Array (Option Value)} {va_Clash : Array Value} {file_Clash : Str} {tf_Clash : Tok} (X : K.In h) (G : h.Ns mainGlobals mg) (hfa : mg "law" = some (.ref fa))
    {od0 an0 od1 an1 od2 an2 od3 an3 od4 an4 od5 an5 od6 an6 od7 an7 od8 an8 od9 an9 od10 an10 od11 an11 od12 an12 od13 an13 od14 an14 od15 an15 od16 an16 od17 an17 : Option Addr} {sl0 sl1 sl2 sl3 sl4 sl5 sl6 sl7 sl8 sl9 sl10 sl11 sl12 sl13 sl14 sl15 sl16 sl17 : Array (Option Value)} {oc0 kV0 dc0 pm0 cd0 ct0 oc1 kV1 dc1 pm1 cd1 ct1 oc2 kV2 dc2 pm2 cd2 ct2 oc3 kV3 dc3 pm3 cd3 ct3 oc4 kV4 dc4 pm4 cd4 ct4 oc5 kV5 dc5 pm5 cd5 ct5 oc6 kV6 dc6 pm6 cd6 ct6 oc7 kV7 dc7 pm7 cd7 ct7 oc8 kV8 dc8 pm8 cd8 ct8 oc9 kV9 dc9 pm9 cd9 ct9 oc10 kV10 dc10 pm10 cd10 ct10 oc11 kV11 dc11 pm11 cd11 ct11 oc12 kV12 dc12 pm12 cd12 ct12 oc13 kV13 dc13 pm13 cd13 ct13 oc14 kV14 dc14 pm14 cd14 ct14 oc15 kV15 dc15 pm15 cd15 ct15 oc16 kV16 dc16 pm16 cd16 ct16 oc17 kV17 dc17 pm17 cd17 ct17 u_MOST_LETTERS u_LETTERS : Value}
    (a0 : PySem.W.nsIn K mainGlobals "_law_source" = some (some (.ref f0))) (l0 : K.lookup f0 = some ⟨oc0, od0, .func (PySem.W.fnOf "_law_source" "_law_source" (defArgs s__law_source) (defBody s__law_source) (defScope s__law_source) .none kV0 dc0 pm0 an0 cd0 ct0), sl0⟩) (c0 : PySem.W.codeIn K cd0 "_law_source" = true) (k0 : PySem.W.keepIn K (.ref f0) = true)
    (a1 : PySem.W.nsIn K mainGlobals "_law_next" = some (some (.ref f1))) (l1 : K.lookup f1 = some ⟨oc1, od1, .func (PySem.W.fnOf "_law_next" "_law_next" (defArgs s__law_next) (defBody s__law_next) (defScope s__law_next) .none kV1 dc1 pm1 an1 cd1 ct1), sl1⟩) (c1 : PySem.W.codeIn K cd1 "_law_next" = true) (k1 : PySem.W.keepIn K (.ref f1) = true)
    (a2 : PySem.W.nsIn K mainGlobals "_law_mixed" = some (some (.ref f2))) (l2 : K.lookup f2 = some ⟨oc2, od2, .func (PySem.W.fnOf "_law_mixed" "_law_mixed" (defArgs s__law_mixed) (defBody s__law_mixed) (defScope s__law_mixed) .none kV2 dc2 pm2 an2 cd2 ct2), sl2⟩) (c2 : PySem.W.codeIn K cd2 "_law_mixed" = true) (k2 : PySem.W.keepIn K (.ref f2) = true)
    (a3 : PySem.W.nsIn K mainGlobals "_law_name_rows" = some (some (.ref f3))) (l3 : K.lookup f3 = some ⟨oc3, od3, .func (PySem.W.fnOf "_law_name_rows" "_law_name_rows" (defArgs s__law_name_rows) (defBody s__law_name_rows) (defScope s__law_name_rows) .none kV3 dc3 pm3 an3 cd3 ct3), sl3⟩) (c3 : PySem.W.codeIn K cd3 "_law_name_rows" = true) (k3 : PySem.W.keepIn K (.ref f3) = true)
    (a4 : PySem.W.nsIn K mainGlobals "_law_least_ring" = some (some (.ref f4))) (l4 : K.lookup f4 = some ⟨oc4, od4, .func (PySem.W.fnOf "_law_least_ring" "_law_least_ring" (defArgs s__law_least_ring) (defBody s__law_least_ring) (defScope s__law_least_ring) .none kV4 dc4 pm4 an4 cd4 ct4), sl4⟩) (c4 : PySem.W.codeIn K cd4 "_law_least_ring" = true) (k4 : PySem.W.keepIn K (.ref f4) = true)
    (a5 : PySem.W.nsIn K mainGlobals "is_name" = some (some (.ref f5))) (l5 : K.lookup f5 = some ⟨oc5, od5, .func (PySem.W.fnOf "is_name" "is_name" (defArgs s_is_name) (defBody s_is_name) (defScope s_is_name) .none kV5 dc5 pm5 an5 cd5 ct5), sl5⟩) (c5 : PySem.W.codeIn K cd5 "is_name" = true) (k5 : PySem.W.keepIn K (.ref f5) = true)
    (a6 : PySem.W.nsIn K mainGlobals "are_different" = some (some (.ref f6))) (l6 : K.lookup f6 = some ⟨oc6, od6, .func (PySem.W.fnOf "are_different" "are_different" (defArgs s_are_different) (defBody s_are_different) (defScope s_are_different) .none kV6 dc6 pm6 an6 cd6 ct6), sl6⟩) (c6 : PySem.W.codeIn K cd6 "are_different" = true) (k6 : PySem.W.keepIn K (.ref f6) = true)
    (a7 : PySem.W.nsIn K mainGlobals "check_tuples" = some (some (.ref f7))) (l7 : K.lookup f7 = some ⟨oc7, od7, .func (PySem.W.fnOf "check_tuples" "check_tuples" (defArgs s_check_tuples) (defBody s_check_tuples) (defScope s_check_tuples) .none kV7 dc7 pm7 an7 cd7 ct7), sl7⟩) (c7 : PySem.W.codeIn K cd7 "check_tuples" = true) (k7 : PySem.W.keepIn K (.ref f7) = true)
    (a8 : PySem.W.nsIn K mainGlobals "following" = some (some (.ref f8))) (l8 : K.lookup f8 = some ⟨oc8, od8, .func (PySem.W.fnOf "following" "following" (defArgs s_following) (defBody s_following) (defScope s_following) .none kV8 dc8 pm8 an8 cd8 ct8), sl8⟩) (c8 : PySem.W.codeIn K cd8 "following" = true) (k8 : PySem.W.keepIn K (.ref f8) = true)
    (a9 : PySem.W.nsIn K mainGlobals "ring_through" = some (some (.ref f9))) (l9 : K.lookup f9 = some ⟨oc9, od9, .func (PySem.W.fnOf "ring_through" "ring_through" (defArgs s_ring_through) (defBody s_ring_through) (defScope s_ring_through) .none kV9 dc9 pm9 an9 cd9 ct9), sl9⟩) (c9 : PySem.W.codeIn K cd9 "ring_through" = true) (k9 : PySem.W.keepIn K (.ref f9) = true)
    (a10 : PySem.W.nsIn K mainGlobals "shortest_ring" = some (some (.ref f10))) (l10 : K.lookup f10 = some ⟨oc10, od10, .func (PySem.W.fnOf "shortest_ring" "shortest_ring" (defArgs s_shortest_ring) (defBody s_shortest_ring) (defScope s_shortest_ring) .none kV10 dc10 pm10 an10 cd10 ct10), sl10⟩) (c10 : PySem.W.codeIn K cd10 "shortest_ring" = true) (k10 : PySem.W.keepIn K (.ref f10) = true)
    (a11 : PySem.W.nsIn K mainGlobals "merge_of" = some (some (.ref f11))) (l11 : K.lookup f11 = some ⟨oc11, od11, .func (PySem.W.fnOf "merge_of" "merge_of" (defArgs s_merge_of) (defBody s_merge_of) (defScope s_merge_of) .none kV11 dc11 pm11 an11 cd11 ct11), sl11⟩) (c11 : PySem.W.codeIn K cd11 "merge_of" = true) (k11 : PySem.W.keepIn K (.ref f11) = true)
    (a12 : PySem.W.nsIn K mainGlobals "merged" = some (some (.ref f12))) (l12 : K.lookup f12 = some ⟨oc12, od12, .func (PySem.W.fnOf "merged" "merged" (defArgs s_merged) (defBody s_merged) (defScope s_merged) .none kV12 dc12 pm12 an12 cd12 ct12), sl12⟩) (c12 : PySem.W.codeIn K cd12 "merged" = true) (k12 : PySem.W.keepIn K (.ref f12) = true)
    (a13 : PySem.W.nsIn K mainGlobals "_law_merged_by" = some (some (.ref f13))) (l13 : K.lookup f13 = some ⟨oc13, od13, .func (PySem.W.fnOf "_law_merged_by" "_law_merged_by" (defArgs s__law_merged_by) (defBody s__law_merged_by) (defScope s__law_merged_by) .none kV13 dc13 pm13 an13 cd13 ct13), sl13⟩) (c13 : PySem.W.codeIn K cd13 "_law_merged_by" = true) (k13 : PySem.W.keepIn K (.ref f13) = true)
    (a14 : PySem.W.nsIn K mainGlobals "_law_clash_of" = some (some (.ref f14))) (l14 : K.lookup f14 = some ⟨oc14, od14, .func (PySem.W.fnOf "_law_clash_of" "_law_clash_of" (defArgs s__law_clash_of) (defBody s__law_clash_of) (defScope s__law_clash_of) .none kV14 dc14 pm14 an14 cd14 ct14), sl14⟩) (c14 : PySem.W.codeIn K cd14 "_law_clash_of" = true) (k14 : PySem.W.keepIn K (.ref f14) = true)
    (a15 : PySem.W.nsIn K mainGlobals "_law_within" = some (some (.ref f15))) (l15 : K.lookup f15 = some ⟨oc15, od15, .func (PySem.W.fnOf "_law_within" "_law_within" (defArgs s__law_within) (defBody s__law_within) (defScope s__law_within) .none kV15 dc15 pm15 an15 cd15 ct15), sl15⟩) (c15 : PySem.W.codeIn K cd15 "_law_within" = true) (k15 : PySem.W.keepIn K (.ref f15) = true)
    (a16 : PySem.W.nsIn K mainGlobals "_law_clash_fits" = some (some (.ref f16))) (l16 : K.lookup f16 = some ⟨oc16, od16, .func (PySem.W.fnOf "_law_clash_fits" "_law_clash_fits" (defArgs s__law_clash_fits) (defBody s__law_clash_fits) (defScope s__law_clash_fits) .none kV16 dc16 pm16 an16 cd16 ct16), sl16⟩) (c16 : PySem.W.codeIn K cd16 "_law_clash_fits" = true) (k16 : PySem.W.keepIn K (.ref f16) = true)
    (a17 : PySem.W.nsIn K mainGlobals "law" = some (some (.ref f17))) (l17 : K.lookup f17 = some ⟨oc17, od17, .func (PySem.W.fnOf "law" "law" (defArgs s_law) (defBody s_law) (defScope s_law) .none kV17 dc17 pm17 an17 cd17 ct17), sl17⟩) (c17 : PySem.W.codeIn K cd17 "law" = true) (k17 : PySem.W.keepIn K (.ref f17) = true)
    (z_len : PySem.W.nsIn K mainGlobals "len" = some none)
    (z_list : PySem.W.nsIn K mainGlobals "list" = some none)
    (z_tuple : PySem.W.nsIn K mainGlobals "tuple" = some none)
    (z_range : PySem.W.nsIn K mainGlobals "range" = some none)
    (z_sorted : PySem.W.nsIn K mainGlobals "sorted" = some none)
    (z_set : PySem.W.nsIn K mainGlobals "set" = some none)
    (z_isinstance : PySem.W.nsIn K mainGlobals "isinstance" = some none)
    (z_str : PySem.W.nsIn K mainGlobals "str" = some none)
    (z_all : PySem.W.nsIn K mainGlobals "all" = some none)
    (z_enumerate : PySem.W.nsIn K mainGlobals "enumerate" = some none)
    (z_zip : PySem.W.nsIn K mainGlobals "zip" = some none)
    (z_int : PySem.W.nsIn K mainGlobals "int" = some none)
    (z_bool : PySem.W.nsIn K mainGlobals "bool" = some none)
    (z_repr : PySem.W.nsIn K mainGlobals "repr" = some none)
    (z_max : PySem.W.nsIn K mainGlobals "max" = some none)
    (z_min : PySem.W.nsIn K mainGlobals "min" = some none)
    (v_MOST_LETTERS : PySem.W.nsIn K mainGlobals "MOST_LETTERS" = some (some u_MOST_LETTERS))
    (v_LETTERS : PySem.W.nsIn K mainGlobals "LETTERS" = some (some u_LETTERS))
    (r_MOST_LETTERS : RelV (.int 8) u_MOST_LETTERS)
    (r_LETTERS : RelV (.str "abcdefghijklmnopqrstuvwxyz") u_LETTERS)
    (aC_WorldError : PySem.W.nsIn K mainGlobals "WorldError" = some (some (.ref C_WorldError)))
    (aC_BadTuple : PySem.W.nsIn K mainGlobals "BadTuple" = some (some (.ref C_BadTuple)))
    (aC_LimitError : PySem.W.nsIn K mainGlobals "LimitError" = some (some (.ref C_LimitError)))
    (aC_Clash : PySem.W.nsIn K mainGlobals "Clash" = some (some (.ref C_Clash)))
    (zsup : PySem.W.nsIn K mainGlobals "super" = some none)
    (zopq : PySem.W.nsIn K cStatics "thirdparty.any" = some none)
    (ztop : (P.main.scope.names.lookup ("super" : Str)).isSome = false)
    (nd_C : [C_WorldError, C_BadTuple, C_LimitError, C_Clash].Nodup)
    (lC_BadTuple : K.lookup C_BadTuple = some (excClassObj nm_BadTuple q_BadTuple C_BadTuple N_BadTuple bs_BadTuple [.ref C_WorldError, .type "ValueError", .type "Exception", .type "BaseException", .type "object"] true sn_BadTuple sz_BadTuple ab_BadTuple col_BadTuple dd_BadTuple k0_BadTuple k1_BadTuple k2_BadTuple k3_BadTuple k5_BadTuple "ValueError.__new__"))
    (rC_BadTuple : refsT [.type "ValueError", .type "Exception", .type "BaseException", .type "object"] [.ref C_WorldError, .type "ValueError", .type "Exception", .type "BaseException", .type "object"] = true)
    (sC_BadTuple : PySem.W.findIn K (.ref C_BadTuple) "__setattr__" = some (some (.builtin "object.__setattr__")))
    (tC_BadTuple : PySem.W.typeIn K (.ref C_BadTuple) = some (.type "type"))
    (kC_BadTuple : PySem.W.keepIn K (.ref C_BadTuple) = true)
    (iC_BadTuple : PySem.W.findIn K (.ref C_BadTuple) "__init__" = some (some (.ref fI_BadTuple)))
    (tI_BadTuple : PySem.W.typeIn K (.ref fI_BadTuple) = some (.type "function"))
    (lF_BadTuple : K.lookup fI_BadTuple = some ⟨oc_BadTuple, od_BadTuple, .func ((initF s_init_BadTuple "BadTuple.__init__" cc_BadTuple co_BadTuple).fd dc_BadTuple pm_BadTuple cv_BadTuple), osl_BadTuple⟩)
    (cI_BadTuple : PySem.W.codeIn K (.ref co_BadTuple) "BadTuple.__init__" = true)
    (lo_BadTuple : K.lookup co_BadTuple = some ⟨ccl_BadTuple, cd_BadTuple, .fields va_BadTuple, ccs_BadTuple⟩)
    (vs_BadTuple : va_BadTuple[2]? = some (.str file_BadTuple tf_BadTuple))
    (fi_BadTuple : ((P.main.file : Str) == file_BadTuple) = true)
    (lc_BadTuple : K.lookup cc_BadTuple = some ⟨lcl_BadTuple, ld_BadTuple, .cell (some (.ref C_BadTuple)), lsl_BadTuple⟩)
    (su_BadTuple : PySem.W.ks_superIn K C_BadTuple C_BadTuple "__init__" = some (some (.builtin "ValueError.__init__")))
    (sv_BadTuple : PySem.W.subIn K (.ref C_BadTuple) (.type "ValueError") = some true)
    (ms_BadTuple : PySem.W.mroIn K C_BadTuple (.ref C_BadTuple) = some true)
    (nf_BadTuple_index : PySem.W.findIn K (.ref C_BadTuple) "index" = some none)
    (ga_BadTuple : PySem.W.findIn K (.ref C_BadTuple) "__getattribute__" = some (some (.builtin "BaseException.__getattribute__")))
    (gg_BadTuple : PySem.W.findIn K (.ref C_BadTuple) "__getattr__" = some none)
    (ca_BadTuple : PySem.W.findIn K (.ref C_BadTuple) "__class__" = some (some (.builtin "object.__class__")))
    (mo_BadTuple : PySem.W.mroIn K C_BadTuple (.type "object") = some true)
    (lC_Clash : K.lookup C_Clash = some (excClassObj nm_Clash q_Clash C_Clash N_Clash bs_Clash [.ref C_LimitError, .type "ArithmeticError", .type "Exception", .type "BaseException", .type "object"] true sn_Clash sz_Clash ab_Clash col_Clash dd_Clash k0_Clash k1_Clash k2_Clash k3_Clash k5_Clash "ArithmeticError.__new__"))
    (rC_Clash : refsT [.type "ArithmeticError", .type "Exception", .type "BaseException", .type "object"] [.ref C_LimitError, .type "ArithmeticError", .type "Exception", .type "BaseException", .type "object"] = true)
    (sC_Clash : PySem.W.findIn K (.ref C_Clash) "__setattr__" = some (some (.builtin "object.__setattr__")))
    (tC_Clash : PySem.W.typeIn K (.ref C_Clash) = some (.type "type"))
    (kC_Clash : PySem.W.keepIn K (.ref C_Clash) = true)
    (iC_Clash : PySem.W.findIn K (.ref C_Clash) "__init__" = some (some (.ref fI_Clash)))
    (tI_Clash : PySem.W.typeIn K (.ref fI_Clash) = some (.type "function"))
    (lF_Clash : K.lookup fI_Clash = some ⟨oc_Clash, od_Clash, .func ((initF s_init_Clash "Clash.__init__" cc_Clash co_Clash).fd dc_Clash pm_Clash cv_Clash), osl_Clash⟩)
    (cI_Clash : PySem.W.codeIn K (.ref co_Clash) "Clash.__init__" = true)
    (lo_Clash : K.lookup co_Clash = some ⟨ccl_Clash, cd_Clash, .fields va_Clash, ccs_Clash⟩)
    (vs_Clash : va_Clash[2]? = some (.str file_Clash tf_Clash))
    (fi_Clash : ((P.main.file : Str) == file_Clash) = true)
    (lc_Clash : K.lookup cc_Clash = some ⟨lcl_Clash, ld_Clash, .cell (some (.ref C_Clash)), lsl_Clash⟩)
    (su_Clash : PySem.W.ks_superIn K C_Clash C_Clash "__init__" = some (some (.builtin "ArithmeticError.__init__")))
    (sv_Clash : PySem.W.subIn K (.ref C_Clash) (.type "ArithmeticError") = some true)
    (ms_Clash : PySem.W.mroIn K C_Clash (.ref C_Clash) = some true)
    (nf_Clash_name : PySem.W.findIn K (.ref C_Clash) "name" = some none)
    (nf_Clash_tuples : PySem.W.findIn K (.ref C_Clash) "tuples" = some none)
    (nf_Clash_steps : PySem.W.findIn K (.ref C_Clash) "steps" = some none)
    (ga_Clash : PySem.W.findIn K (.ref C_Clash) "__getattribute__" = some (some (.builtin "BaseException.__getattribute__")))
    (gg_Clash : PySem.W.findIn K (.ref C_Clash) "__getattr__" = some none)
    (ca_Clash : PySem.W.findIn K (.ref C_Clash) "__class__" = some (some (.builtin "object.__class__")))
    (mo_Clash : PySem.W.mroIn K C_Clash (.type "object") = some true)
    (eC_WorldError : PySem.W.subIn K (.ref C_WorldError) (.type "BaseException") = some true)
    (hd_WorldError : PySem.W.hasDictIn K C_WorldError = true)
    (tC_WorldError : PySem.W.typeIn K (.ref C_WorldError) = some (.type "type"))
    (eC_BadTuple : PySem.W.subIn K (.ref C_BadTuple) (.type "BaseException") = some true)
    (hd_BadTuple : PySem.W.hasDictIn K C_BadTuple = true)
    (eC_LimitError : PySem.W.subIn K (.ref C_LimitError) (.type "BaseException") = some true)
    (hd_LimitError : PySem.W.hasDictIn K C_LimitError = true)
    (tC_LimitError : PySem.W.typeIn K (.ref C_LimitError) = some (.type "type"))
    (eC_Clash : PySem.W.subIn K (.ref C_Clash) (.type "BaseException") = some true)
    (hd_Clash : PySem.W.hasDictIn K C_Clash = true)
    (hnC : PySem.W.specialIn K (.builtin "object.__class__") "__get__" = some (some (.builtin "getset_descriptor.__get__")))
    (htC : PySem.W.takesIn K (.builtin "object.__class__") = some true) :
    ∃ fd : FuncData, (∀ (s : Shared) (v : Value), BindsTo s fd ⟨[v], []⟩ [("_law_script", v)]) ∧ ∀ base : Heap, K.In base → base.Ns mainGlobals mg → FnG P w K mg base 7 fa fd ["_law_script"] (fun vs H Q E => ∀ ct, spD K ct 1 F_law vs H Q E) := by
  have e := hfa.symm.trans (PySem.W.mg_of X G a17)
  cases e
  refine ⟨PySem.W.fnOf "law" "law" (defArgs s_law) (defBody s_law) (defScope s_law) .none kV17 dc17 pm17 an17 cd17 ct17, fun s v => .of_eq rfl, fun base _ _ => ?_⟩
  let ctN : String → Addr := fun c => if c = "WorldError" then C_WorldError else if c = "BadTuple" then C_BadTuple else if c = "LimitError" then C_LimitError else if c = "Clash" then C_Clash else 0
  have e_WorldError : ctN "WorldError" = C_WorldError := by simp [ctN]
  have e_BadTuple : ctN "BadTuple" = C_BadTuple := by simp [ctN]
  have e_LimitError : ctN "LimitError" = C_LimitError := by simp [ctN]
  have e_Clash : ctN "Clash" = C_Clash := by simp [ctN]
  have k_WorldError : mg "WorldError" = some (.ref (ctN "WorldError")) := by rw [e_WorldError]; exact PySem.W.mg_of X G aC_WorldError
  have k_BadTuple : mg "BadTuple" = some (.ref (ctN "BadTuple")) := by rw [e_BadTuple]; exact PySem.W.mg_of X G aC_BadTuple
  have k_LimitError : mg "LimitError" = some (.ref (ctN "LimitError")) := by rw [e_LimitError]; exact PySem.W.mg_of X G aC_LimitError
  have k_Clash : mg "Clash" = some (.ref (ctN "Clash")) := by rw [e_Clash]; exact PySem.W.mg_of X G aC_Clash
  have zs : mg "super" = none := PySem.W.mg_none_of X G zsup
  have x_BadTuple : CalX P w K mg base ctN "BadTuple" "BadTuple" ["index"] := calX_mk base_VE e_BadTuple (PySem.W.mg_of X G aC_BadTuple) zs (fun g hg => by simp only [List.mem_cons, List.not_mem_nil, or_false] at hg; rcases hg with rfl; exact nf_BadTuple_index) (by simp) (by simp) rfl ⟨⟨_, _, _, _, _, _, _, _, _, _, _, _, _, _, _, lC_BadTuple, rC_BadTuple⟩, sC_BadTuple, eC_BadTuple, tC_BadTuple, kC_BadTuple, iC_BadTuple, tI_BadTuple, ⟨_, _, _, _, _, _, lF_BadTuple⟩, cI_BadTuple, ⟨_, _, _, _, _, _, lo_BadTuple, vs_BadTuple, fi_BadTuple⟩, ⟨_, _, _, lc_BadTuple⟩, su_BadTuple, sv_BadTuple, ms_BadTuple, zopq, ztop⟩ w_BadTuple
  have x_Clash : CalX P w K mg base ctN "Clash" "Clash" ["name", "tuples", "steps"] := calX_mk base_AE e_Clash (PySem.W.mg_of X G aC_Clash) zs (fun g hg => by simp only [List.mem_cons, List.not_mem_nil, or_false] at hg; rcases hg with rfl | rfl | rfl; exact nf_Clash_name; exact nf_Clash_tuples; exact nf_Clash_steps) (by simp) (by simp) rfl ⟨⟨_, _, _, _, _, _, _, _, _, _, _, _, _, _, _, lC_Clash, rC_Clash⟩, sC_Clash, eC_Clash, tC_Clash, kC_Clash, iC_Clash, tI_Clash, ⟨_, _, _, _, _, _, lF_Clash⟩, cI_Clash, ⟨_, _, _, _, _, _, lo_Clash, vs_Clash, fi_Clash⟩, ⟨_, _, _, lc_Clash⟩, su_Clash, sv_Clash, ms_Clash, zopq, ztop⟩ w_Clash
  have u_BadTuple : ClsX K (ctN "BadTuple") := by rw [e_BadTuple]; exact ⟨ga_BadTuple, gg_BadTuple, eC_BadTuple, hd_BadTuple, ca_BadTuple, hnC, htC, mo_BadTuple⟩
  have u_Clash : ClsX K (ctN "Clash") := by rw [e_Clash]; exact ⟨ga_Clash, gg_Clash, eC_Clash, hd_Clash, ca_Clash, hnC, htC, mo_Clash⟩
  have O_T : Ords K ctN ancT xsT ownT biT := by
    refine ⟨by simpa only [ownT, List.map_cons, List.map_nil, e_WorldError, e_BadTuple, e_LimitError, e_Clash] using nd_C, ancOk.sub, fun c hc v => ?_, ancOk.self, ancOk.anco, fun c hc => ?_, fun c hc => ?_, fun c hc => ?_, fun c hc => ?_, ancOk.kmt⟩
    · simp only [xsT, List.mem_cons, List.not_mem_nil, or_false] at hc
      rcases hc with rfl | rfl
      · rw [show (ancT "BadTuple").map (ClV ctN) = [.ref (ctN "BadTuple"), .ref (ctN "WorldError"), .type "ValueError", .type "Exception", .type "BaseException", .type "object"] from rfl, e_BadTuple, e_WorldError]; exact mro_of lC_BadTuple v
      · rw [show (ancT "Clash").map (ClV ctN) = [.ref (ctN "Clash"), .ref (ctN "LimitError"), .type "ArithmeticError", .type "Exception", .type "BaseException", .type "object"] from rfl, e_Clash, e_LimitError]; exact mro_of lC_Clash v
    · simp only [xsT, List.mem_cons, List.not_mem_nil, or_false] at hc
      rcases hc with rfl | rfl
      · exact u_BadTuple.exc
      · exact u_Clash.exc
    · simp only [ownT, List.mem_cons, List.not_mem_nil, or_false] at hc
      rcases hc with rfl | rfl | rfl | rfl
      · rw [e_WorldError]; exact hd_WorldError
      · rw [e_BadTuple]; exact hd_BadTuple
      · rw [e_LimitError]; exact hd_LimitError
      · rw [e_Clash]; exact hd_Clash
    · simp only [ownT, List.mem_cons, List.not_mem_nil, or_false] at hc
      rcases hc with rfl | rfl | rfl | rfl
      · rw [e_WorldError]; exact tC_WorldError
      · rw [e_BadTuple]; exact tC_BadTuple
      · rw [e_LimitError]; exact tC_LimitError
      · rw [e_Clash]; exact tC_Clash
    · simp only [ownT, List.mem_cons, List.not_mem_nil, or_false] at hc
      rcases hc with rfl | rfl | rfl | rfl
      · rw [e_WorldError]; exact eC_WorldError
      · rw [e_BadTuple]; exact eC_BadTuple
      · rw [e_LimitError]; exact eC_LimitError
      · rw [e_Clash]; exact eC_Clash
  have i_T : IsT K ctN xsT sbT := O_T.isT
  have t_Clash : ∀ k b, mt_Clash k = some b → PySem.W.exmOne K (ClV ctN k) (.ref (ctN "Clash")) = some b := fun k b h => O_T.mt (D := "Clash") (by decide) k b h
  have f_steps : ∀ c ∈ xs_steps, XfC K (ctN c) ∧ PySem.W.findIn K (.ref (ctN c)) "steps" = some none := by
    intro c hc
    simp only [xs_steps, List.mem_cons, List.not_mem_nil, or_false] at hc
    rcases hc with rfl
    · exact ⟨u_Clash.xf, by rw [e_Clash]; exact nf_Clash_steps⟩
  have f_tuples : ∀ c ∈ xs_tuples, XfC K (ctN c) ∧ PySem.W.findIn K (.ref (ctN c)) "tuples" = some none := by
    intro c hc
    simp only [xs_tuples, List.mem_cons, List.not_mem_nil, or_false] at hc
    rcases hc with rfl
    · exact ⟨u_Clash.xf, by rw [e_Clash]; exact nf_Clash_tuples⟩
  have f_name : ∀ c ∈ xs_name, XfC K (ctN c) ∧ PySem.W.findIn K (.ref (ctN c)) "name" = some none := by
    intro c hc
    simp only [xs_name, List.mem_cons, List.not_mem_nil, or_false] at hc
    rcases hc with rfl
    · exact ⟨u_Clash.xf, by rw [e_Clash]; exact nf_Clash_name⟩
  have m_len : mg "len" = none := PySem.W.mg_none_of X G z_len
  have m_list : mg "list" = none := PySem.W.mg_none_of X G z_list
  have m_tuple : mg "tuple" = none := PySem.W.mg_none_of X G z_tuple
  have m_range : mg "range" = none := PySem.W.mg_none_of X G z_range
  have m_sorted : mg "sorted" = none := PySem.W.mg_none_of X G z_sorted
  have m_set : mg "set" = none := PySem.W.mg_none_of X G z_set
  have m_isinstance : mg "isinstance" = none := PySem.W.mg_none_of X G z_isinstance
  have m_str : mg "str" = none := PySem.W.mg_none_of X G z_str
  have m_all : mg "all" = none := PySem.W.mg_none_of X G z_all
  have m_enumerate : mg "enumerate" = none := PySem.W.mg_none_of X G z_enumerate
  have m_zip : mg "zip" = none := PySem.W.mg_none_of X G z_zip
  have m_int : mg "int" = none := PySem.W.mg_none_of X G z_int
  have m_bool : mg "bool" = none := PySem.W.mg_none_of X G z_bool
  have m_repr : mg "repr" = none := PySem.W.mg_none_of X G z_repr
  have m_max : mg "max" = none := PySem.W.mg_none_of X G z_max
  have m_min : mg "min" = none := PySem.W.mg_none_of X G z_min
  have g_MOST_LETTERS : ∃ u, mg "MOST_LETTERS" = some u ∧ RelV (.int 8) u := ⟨_, PySem.W.mg_of X G v_MOST_LETTERS, r_MOST_LETTERS⟩
  have g_LETTERS : ∃ u, mg "LETTERS" = some u ∧ RelV (.str "abcdefghijklmnopqrstuvwxyz") u := ⟨_, PySem.W.mg_of X G v_LETTERS, r_LETTERS⟩
  have n__law_source := fun_mk (st := s__law_source) l0 c0 k0
  have b__law_source := n__law_source.binds (ps := ["_law_script", "_law_k"]) fun _ _ _ _ _ _ us hl => match us, hl with | [_, _], _ => rfl
  have c__law_source : Cal P w K mg base ctN 1 "_law_source" 2 [] F__law_source := ⟨f0, _, ["_law_script", "_law_k"], [], [], o__law_source m_len n__law_source, PySem.W.mg_of X G a0, k0, b__law_source, .nil, fun _ _ => .nil⟩
  have n__law_next := fun_mk (st := s__law_next) l1 c1 k1
  have b__law_next := n__law_next.binds (ps := ["_law_source_here", "_law_many"]) fun _ _ _ _ _ _ us hl => match us, hl with | [_, _], _ => rfl
  have c__law_next : Cal P w K mg base ctN 1 "_law_next" 2 [] F__law_next := ⟨f1, _, ["_law_source_here", "_law_many"], [], [], o__law_next  n__law_next, PySem.W.mg_of X G a1, k1, b__law_next, .nil, fun _ _ => .nil⟩
  have n__law_mixed := fun_mk (st := s__law_mixed) l2 c2 k2
  have b__law_mixed := n__law_mixed.binds (ps := ["_law_source_here", "_law_items"]) fun _ _ _ _ _ _ us hl => match us, hl with | [_, _], _ => rfl
  have c__law_mixed : Cal P w K mg base ctN 2 "_law_mixed" 2 [] F__law_mixed := ⟨f2, _, ["_law_source_here", "_law_items"], [], [], o__law_mixed c__law_next m_list m_len n__law_mixed, PySem.W.mg_of X G a2, k2, b__law_mixed, .nil, fun _ _ => .nil⟩
  have n__law_name_rows := fun_mk (st := s__law_name_rows) l3 c3 k3
  have b__law_name_rows := n__law_name_rows.binds (ps := ["_law_source_here", "_law_many", "_law_most", "_law_is_free"]) fun _ _ _ _ _ _ us hl => match us, hl with | [_, _, _, _], _ => rfl
  have c__law_name_rows : Cal P w K mg base ctN 3 "_law_name_rows" 4 [] F__law_name_rows := ⟨f3, _, ["_law_source_here", "_law_many", "_law_most", "_law_is_free"], [], [], o__law_name_rows c__law_mixed c__law_next m_tuple m_range n__law_name_rows, PySem.W.mg_of X G a3, k3, b__law_name_rows, .nil, fun _ _ => .nil⟩
  have n__law_least_ring := fun_mk (st := s__law_least_ring) l4 c4 k4
  have b__law_least_ring := n__law_least_ring.binds (ps := ["_law_rows"]) fun _ _ _ _ _ _ us hl => match us, hl with | [_], _ => rfl
  have c__law_least_ring : Cal P w K mg base ctN 1 "_law_least_ring" 1 [] F__law_least_ring := ⟨f4, _, ["_law_rows"], [], [], o__law_least_ring m_list m_sorted m_set n__law_least_ring, PySem.W.mg_of X G a4, k4, b__law_least_ring, .nil, fun _ _ => .nil⟩
  have n_is_name := fun_mk (st := s_is_name) l5 c5 k5
  have b_is_name := n_is_name.binds (ps := ["thing"]) fun _ _ _ _ _ _ us hl => match us, hl with | [_], _ => rfl
  have c_is_name : Cal P w K mg base ctN 1 "is_name" 1 [] F_is_name := ⟨f5, _, ["thing"], [], [], o_is_name m_isinstance m_str m_len m_all g_MOST_LETTERS g_LETTERS n_is_name, PySem.W.mg_of X G a5, k5, b_is_name, .nil, fun _ _ => .nil⟩
  have n_are_different := fun_mk (st := s_are_different) l6 c6 k6
  have b_are_different := n_are_different.binds (ps := ["thing"]) fun _ _ _ _ _ _ us hl => match us, hl with | [_], _ => rfl
  have c_are_different : Cal P w K mg base ctN 2 "are_different" 1 [] F_are_different := ⟨f6, _, ["thing"], [], [], o_are_different c_is_name m_isinstance m_tuple m_all m_len m_set n_are_different, PySem.W.mg_of X G a6, k6, b_are_different, .nil, fun _ _ => .nil⟩
  have n_check_tuples := fun_mk (st := s_check_tuples) l7 c7 k7
  have b_check_tuples := n_check_tuples.binds (ps := ["tuples"]) fun _ _ _ _ _ _ us hl => match us, hl with | [_], _ => rfl
  have c_check_tuples : Cal P w K mg base ctN 3 "check_tuples" 1 [] F_check_tuples := ⟨f7, _, ["tuples"], [], [], o_check_tuples c_are_different m_enumerate x_BadTuple n_check_tuples, PySem.W.mg_of X G a7, k7, b_check_tuples, .nil, fun _ _ => .nil⟩
  have n_following := fun_mk (st := s_following) l8 c8 k8
  have b_following := n_following.binds (ps := ["tuples"]) fun _ _ _ _ _ _ us hl => match us, hl with | [_], _ => rfl
  have c_following : Cal P w K mg base ctN 1 "following" 1 [] F_following := ⟨f8, _, ["tuples"], [], [], o_following m_enumerate n_following, PySem.W.mg_of X G a8, k8, b_following, .nil, fun _ _ => .nil⟩
  have n_ring_through := fun_mk (st := s_ring_through) l9 c9 k9
  have b_ring_through := n_ring_through.binds (ps := ["table", "start"]) fun _ _ _ _ _ _ us hl => match us, hl with | [_, _], _ => rfl
  have c_ring_through : Cal P w K mg base ctN 1 "ring_through" 2 [] F_ring_through := ⟨f9, _, ["table", "start"], [], [], o_ring_through m_tuple n_ring_through, PySem.W.mg_of X G a9, k9, b_ring_through, .nil, fun _ _ => .nil⟩
  have n_shortest_ring := fun_mk (st := s_shortest_ring) l10 c10 k10
  have b_shortest_ring := n_shortest_ring.binds (ps := ["tuples"]) fun _ _ _ _ _ _ us hl => match us, hl with | [_], _ => rfl
  have c_shortest_ring : Cal P w K mg base ctN 2 "shortest_ring" 1 [] F_shortest_ring := ⟨f10, _, ["tuples"], [], [], o_shortest_ring c_following c_ring_through m_len n_shortest_ring, PySem.W.mg_of X G a10, k10, b_shortest_ring, .nil, fun _ _ => .nil⟩
  have n_merge_of := fun_mk (st := s_merge_of) l11 c11 k11
  have b_merge_of := n_merge_of.binds (ps := ["tuples"]) fun _ _ _ _ _ _ us hl => match us, hl with | [_], _ => rfl
  have c_merge_of : Cal P w K mg base ctN 3 "merge_of" 1 [] F_merge_of := ⟨f11, _, ["tuples"], [], [], o_merge_of c_shortest_ring m_len m_zip m_tuple m_enumerate n_merge_of, PySem.W.mg_of X G a11, k11, b_merge_of, .nil, fun _ _ => .nil⟩
  have n_merged := fun_mk (st := s_merged) l12 c12 k12
  have c_merged : CalS P w K mg base ctN 4 "merged" F_merged := ⟨f12, o_merged c_check_tuples c_merge_of x_Clash n_merged (fun us => by cases us <;> rfl), PySem.W.mg_of X G a12, k12⟩
  have n__law_merged_by := fun_mk (st := s__law_merged_by) l13 c13 k13
  have b__law_merged_by := n__law_merged_by.binds (ps := ["_law_rows"]) fun _ _ _ _ _ _ us hl => match us, hl with | [_], _ => rfl
  have c__law_merged_by : Cal P w K mg base ctN 5 "_law_merged_by" 1 [] F__law_merged_by := ⟨f13, _, ["_law_rows"], [], [], o__law_merged_by c_merged m_len n__law_merged_by, PySem.W.mg_of X G a13, k13, b__law_merged_by, .nil, fun _ _ => .nil⟩
  have n__law_clash_of := fun_mk (st := s__law_clash_of) l14 c14 k14
  have b__law_clash_of := n__law_clash_of.binds (ps := ["_law_rows"]) fun _ _ _ _ _ _ us hl => match us, hl with | [_], _ => rfl
  have c__law_clash_of : Cal P w K mg base ctN 6 "_law_clash_of" 1 [] F__law_clash_of := ⟨f14, _, ["_law_rows"], [], [], o__law_clash_of c__law_merged_by k_Clash t_Clash f_steps f_tuples f_name n__law_clash_of, PySem.W.mg_of X G a14, k14, b__law_clash_of, .nil, fun _ _ => .nil⟩
  have n__law_within := fun_mk (st := s__law_within) l15 c15 k15
  have b__law_within := n__law_within.binds (ps := ["_law_part", "_law_whole"]) fun _ _ _ _ _ _ us hl => match us, hl with | [_, _], _ => rfl
  have c__law_within : Cal P w K mg base ctN 1 "_law_within" 2 [] F__law_within := ⟨f15, _, ["_law_part", "_law_whole"], [], [], o__law_within m_range m_len n__law_within, PySem.W.mg_of X G a15, k15, b__law_within, .nil, fun _ _ => .nil⟩
  have n__law_clash_fits := fun_mk (st := s__law_clash_fits) l16 c16 k16
  have b__law_clash_fits := n__law_clash_fits.binds (ps := ["_law_rows", "_law_thing"]) fun _ _ _ _ _ _ us hl => match us, hl with | [_, _], _ => rfl
  have c__law_clash_fits : Cal P w K mg base ctN 2 "_law_clash_fits" 2 [] F__law_clash_fits := ⟨f16, _, ["_law_rows", "_law_thing"], [], [], o__law_clash_fits c__law_within m_isinstance m_tuple m_len m_int m_bool m_range n__law_clash_fits, PySem.W.mg_of X G a16, k16, b__law_clash_fits, .nil, fun _ _ => .nil⟩
  have q_law : FnG P w K mg base 7 _ _ _ (spD K ctN 1 F_law) := o_law c__law_source c__law_name_rows c__law_next c__law_least_ring c__law_clash_of c__law_clash_fits m_isinstance m_list m_repr m_tuple m_len m_range m_max m_min (fun_mk (st := s_law) l17 c17 k17)
  exact ⟨fun vs H Q E z => q_law.len vs H Q E (z ctN), fun A outer s H args us vs Q E g r e b v z => q_law.run A outer s H args us vs Q E g r e b v (z ctN)⟩
theorem law_sp {K : PySem.W.Frag} {H : Hp} {a : Addr} {ns : List Int} (hl : ns.length ≤ 63) (hS : Scr K io0 H a (ns.map V.int)) (ct : String → Addr) : spD K ct 1 F_law [.ref a] H (fun v _ => v = .bl true) (fun _ _ _ => False) := by
  refine ⟨io0, [], [.scr (ns.map D.int)], rfl, ⟨List.nodup_nil, rfl, fun n a m e1 e2 => by simp at e2, fun a ha => by cases ha⟩, .cons (.scr hS ?_) .nil, ?_⟩
  · clear hS hl
    induction ns with
    | nil => exact .nil
    | cons n ns ih => exact .cons (.int n) ih
  · obtain ⟨A', e⟩ := law_ok hl
    rw [e]
    intro v io' H' x h r
    cases r
    rfl
theorem walk {l : PySem.W.OpenLaw} {q : Program} {loose : List Str} {XP : (Str → Option Value) → Heap → Prop} {YP : World → Heap → Prop} {d : DefRec} {K : Params → PySem.W.Frag} (hn : l.most = some 63) (hdf : d.params.defaults = []) (hr : Room 7 callerA)
    (hY : ∀ (w : World) (h : Heap), YP w h → (K w.params).In h)
    (F : ∀ (w : World) (mg : Str → Option Value) (fa : Addr) (h : Heap), (K w.params).In h → h.Ns mainGlobals mg → mg d.name = some (.ref fa) → ∃ fd : FuncData, (∀ (s : Shared) (u : Value), BindsTo s fd ⟨[u], []⟩ [("_law_script", u)]) ∧
      ∀ base : Heap, (K w.params).In base → base.Ns mainGlobals mg → FnG l.prog w (K w.params) mg base 7 fa fd ["_law_script"] (fun vs H Q E => ∀ ct, spD (K w.params) ct 1 F_law vs H Q E)) :
    PySem.W.WalkO q loose XP YP l.row.toRowW d [] (fun f vs => PySem.call f vs) :=
  walkG (n := 63) (k := 7) (x := "_law_script") (sp := fun w vs H Q E => ∀ ct, spD (K w.params) ct 1 F_law vs H Q E) hn (by decide) hdf hr hY fun w mg fa h KX G hmg => ⟨F w mg fa h KX G hmg, fun H a ns hl hS ct => law_sp hl hS ct⟩
end K05

open PySem PySem.W PyProof.Rows in
set_option maxRecDepth 100000 in
set_option maxHeartbeats 0 in
theorem PySem.Challenge.cw_nextbehind_k05_clashes_raised_holds : PySem.Challenge.rw_nextbehind_k05_clashes_raised.Holds := by
  w_on; o_law; k_head; (case hw => w_witness2)
  k_fill
  refine K05.walk (l := PySem.Challenge.rw_nextbehind_k05_clashes_raised) rfl rfl ⟨rfl, by decide, by decide⟩ (fun w h Y => PySem.W.kIn_of Y) ?F
  case F =>
    intro w mg fa h KX G hmg
    refine' K05.all_mk KX G hmg ?a0 ?l0 ?c0 ?k0 ?a1 ?l1 ?c1 ?k1 ?a2 ?l2 ?c2 ?k2 ?a3 ?l3 ?c3 ?k3 ?a4 ?l4 ?c4 ?k4 ?a5 ?l5 ?c5 ?k5 ?a6 ?l6 ?c6 ?k6 ?a7 ?l7 ?c7 ?k7 ?a8 ?l8 ?c8 ?k8 ?a9 ?l9 ?c9 ?k9 ?a10 ?l10 ?c10 ?k10 ?a11 ?l11 ?c11 ?k11 ?a12 ?l12 ?c12 ?k12 ?a13 ?l13 ?c13 ?k13 ?a14 ?l14 ?c14 ?k14 ?a15 ?l15 ?c15 ?k15 ?a16 ?l16 ?c16 ?k16 ?a17 ?l17 ?c17 ?k17 ?z_len ?z_list ?z_tuple ?z_range ?z_sorted ?z_set ?z_isinstance ?z_str ?z_all ?z_enumerate ?z_zip ?z_int ?z_bool ?z_repr ?z_max ?z_min ?v_MOST_LETTERS ?v_LETTERS ?r_MOST_LETTERS ?r_LETTERS ?aC_WorldError ?aC_BadTuple ?aC_LimitError ?aC_Clash ?zsup ?zopq ?ztop ?nd_C ?lC_BadTuple ?rC_BadTuple ?sC_BadTuple ?tC_BadTuple ?kC_BadTuple ?iC_BadTuple ?tI_BadTuple ?lF_BadTuple ?cI_BadTuple ?lo_BadTuple ?vs_BadTuple ?fi_BadTuple ?lc_BadTuple ?su_BadTuple ?sv_BadTuple ?ms_BadTuple ?nf_BadTuple_index ?ga_BadTuple ?gg_BadTuple ?ca_BadTuple ?mo_BadTuple ?lC_Clash ?rC_Clash ?sC_Clash ?tC_Clash ?kC_Clash ?iC_Clash ?tI_Clash ?lF_Clash ?cI_Clash ?lo_Clash ?vs_Clash ?fi_Clash ?lc_Clash ?su_Clash ?sv_Clash ?ms_Clash ?nf_Clash_name ?nf_Clash_tuples ?nf_Clash_steps ?ga_Clash ?gg_Clash ?ca_Clash ?mo_Clash ?eC_WorldError ?hd_WorldError ?tC_WorldError ?eC_BadTuple ?hd_BadTuple ?eC_LimitError ?hd_LimitError ?tC_LimitError ?eC_Clash ?hd_Clash ?hnC ?htC
    (case a0 => k_is)
    (case l0 => k_is)
    (case c0 => k_is)
    (case k0 => k_is)
    (case a1 => k_is)
    (case l1 => k_is)
    (case c1 => k_is)
    (case k1 => k_is)
    (case a2 => k_is)
    (case l2 => k_is)
    (case c2 => k_is)
    (case k2 => k_is)
    (case a3 => k_is)
    (case l3 => k_is)
    (case c3 => k_is)
    (case k3 => k_is)
    (case a4 => k_is)
    (case l4 => k_is)
    (case c4 => k_is)
    (case k4 => k_is)
    (case a5 => k_is)
    (case l5 => k_is)
    (case c5 => k_is)
    (case k5 => k_is)
    (case a6 => k_is)
    (case l6 => k_is)
    (case c6 => k_is)
    (case k6 => k_is)
    (case a7 => k_is)
    (case l7 => k_is)
    (case c7 => k_is)
    (case k7 => k_is)
    (case a8 => k_is)
    (case l8 => k_is)
    (case c8 => k_is)
    (case k8 => k_is)
    (case a9 => k_is)
    (case l9 => k_is)
    (case c9 => k_is)
    (case k9 => k_is)
    (case a10 => k_is)
    (case l10 => k_is)
    (case c10 => k_is)
    (case k10 => k_is)
    (case a11 => k_is)
    (case l11 => k_is)
    (case c11 => k_is)
    (case k11 => k_is)
    (case a12 => k_is)
    (case l12 => k_is)
    (case c12 => k_is)
    (case k12 => k_is)
    (case a13 => k_is)
    (case l13 => k_is)
    (case c13 => k_is)
    (case k13 => k_is)
    (case a14 => k_is)
    (case l14 => k_is)
    (case c14 => k_is)
    (case k14 => k_is)
    (case a15 => k_is)
    (case l15 => k_is)
    (case c15 => k_is)
    (case k15 => k_is)
    (case a16 => k_is)
    (case l16 => k_is)
    (case c16 => k_is)
    (case k16 => k_is)
    (case a17 => k_is)
    (case l17 => k_is)
    (case c17 => k_is)
    (case k17 => k_is)
    (case z_len => k_is)
    (case z_list => k_is)
    (case z_tuple => k_is)
    (case z_range => k_is)
    (case z_sorted => k_is)
    (case z_set => k_is)
    (case z_isinstance => k_is)
    (case z_str => k_is)
    (case z_all => k_is)
    (case z_enumerate => k_is)
    (case z_zip => k_is)
    (case z_int => k_is)
    (case z_bool => k_is)
    (case z_repr => k_is)
    (case z_max => k_is)
    (case z_min => k_is)
    (case v_MOST_LETTERS => k_is)
    (case v_LETTERS => k_is)
    (case r_MOST_LETTERS => first | exact ⟨_, rfl⟩ | rfl)
    (case r_LETTERS => first | exact ⟨_, rfl⟩ | rfl)
    (case aC_WorldError => k_is)
    (case aC_BadTuple => k_is)
    (case aC_LimitError => k_is)
    (case aC_Clash => k_is)
    (case zsup => k_is)
    (case zopq => k_is)
    (case ztop => first | rfl | decide +kernel)
    (case nd_C => decide +kernel)
    (case lC_BadTuple => k_is)
    (case rC_BadTuple => first | rfl | decide +kernel)
    (case sC_BadTuple => k_is)
    (case tC_BadTuple => k_is)
    (case kC_BadTuple => k_is)
    (case iC_BadTuple => k_is)
    (case tI_BadTuple => k_is)
    (case lF_BadTuple => k_is)
    (case cI_BadTuple => k_is)
    (case lo_BadTuple => k_is)
    (case vs_BadTuple => first | rfl | decide +kernel)
    (case fi_BadTuple => first | rfl | decide +kernel)
    (case lc_BadTuple => k_is)
    (case su_BadTuple => first | ks_is | k_is)
    (case sv_BadTuple => k_is)
    (case ms_BadTuple => k_is)
    (case nf_BadTuple_index => k_is)
    (case ga_BadTuple => k_is)
    (case gg_BadTuple => k_is)
    (case ca_BadTuple => k_is)
    (case mo_BadTuple => k_is)
    (case lC_Clash => k_is)
    (case rC_Clash => first | rfl | decide +kernel)
    (case sC_Clash => k_is)
    (case tC_Clash => k_is)
    (case kC_Clash => k_is)
    (case iC_Clash => k_is)
    (case tI_Clash => k_is)
    (case lF_Clash => k_is)
    (case cI_Clash => k_is)
    (case lo_Clash => k_is)
    (case vs_Clash => first | rfl | decide +kernel)
    (case fi_Clash => first | rfl | decide +kernel)
    (case lc_Clash => k_is)
    (case su_Clash => first | ks_is | k_is)
    (case sv_Clash => k_is)
    (case ms_Clash => k_is)
    (case nf_Clash_name => k_is)
    (case nf_Clash_tuples => k_is)
    (case nf_Clash_steps => k_is)
    (case ga_Clash => k_is)
    (case gg_Clash => k_is)
    (case ca_Clash => k_is)
    (case mo_Clash => k_is)
    (case eC_WorldError => k_is)
    (case hd_WorldError => k_is)
    (case tC_WorldError => k_is)
    (case eC_BadTuple => k_is)
    (case hd_BadTuple => k_is)
    (case eC_LimitError => k_is)
    (case hd_LimitError => k_is)
    (case tC_LimitError => k_is)
    (case eC_Clash => k_is)
    (case hd_Clash => k_is)
    (case hnC => k_is)
    (case htC => k_is)
#print axioms PySem.Challenge.cw_nextbehind_k05_clashes_raised_holds

