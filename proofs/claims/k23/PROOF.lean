import PyProof.Rows.All
import Wide.All
import OpenK.AllK
import Wide.FinOn
import HandS.ForMost
import HandS.ForExc
import HandS.TupAny
import HandS.IsInst
import HandS.Deep
import HandS.Flow
import HandS.Zip
import HandS.Wide
import HandS.Strs
import HandS.SetKeys
import HandS.WordsDict
import HandS.Small
import HandS.ExcField
import HandS.ExcInit
import HandS.Nested
import KE.GoesEnumKw
import HandS.Star
import KE.KExcSuper
import KE.KExcInit
import KE.KExcIs
import HandS.ExcIs
import HandS.TupMul
import KE.KUnpack
import PyProof.ReprRoads
import HandS.Set
import OpenK.KCls
import PyProof.AttrMiss
import KE.KOpsOwn
import PyProof.InstNe
import HandS.SlotsOwn
import PySem.Challenge.RW_nextbehind_k23_chains_added
import PyProof.P3Eq
set_option Elab.async false
set_option linter.all false
set_option maxRecDepth 100000
/-! DvA: by-value data D, the abstract objects M, how they stand in the hand layer's heap. -/
namespace DV
open PySem PySem.Spec PyProof.Rows L2

/-- a class: one of the text's own by its name, or a built-in one -/
inductive Cl where
  | own (n : String) | bi (n : String)
  deriving DecidableEq
/-- a value: tuples, lists and dicts that nobody changes stand by value; what may change stands under a number -/
inductive D where
  | non | bl (b : Bool) | int (i : Int) | str (s : Str)
  | tup (ds : List D) | lst (ds : List D) | scr (ds : List D) | dic (es : List (Key × D)) | ref (n : Nat) | cls (c : Cl)
/-- what stands under a number -/
inductive M where
  | lst (ds : List D) | dic (es : List (Key × D)) | ins (c : String) (fs : List (Str × D)) | exc (c : String) (fs : List (Str × D)) | tab (es : List (Key × D))
abbrev Hd := List M
abbrev Env := List (Option D)

/-- which objects stand under numbers (nm), and which are held back (hd): a list that a comprehension fills -/
structure Io where
  nm : List Addr
  hd : List Addr
def io0 : Io := ⟨[], []⟩
instance : Membership Addr Io := ⟨fun io a => a ∈ io.nm ∨ a ∈ io.hd⟩
def Io.add (io : Io) (p : Addr) : Io := ⟨io.nm ++ [p], io.hd⟩
def Io.hold (io : Io) (p : Addr) : Io := ⟨io.nm, p :: io.hd⟩
theorem Io.mem_nm {io : Io} {a : Addr} (h : a ∈ io.nm) : a ∈ io := .inl h
theorem Io.nmem {io : Io} {a : Addr} (h : a ∉ io) : a ∉ io.nm := fun z => h (.inl z)
/-- a list of the written part -/
def KL (K : PySem.W.Frag) (a : Addr) (xs : List V) : Prop :=
  ∃ (o : Obj) (its : Array Value) (n : Nat), K.lookup a = some o ∧ o.cls = .type "list" ∧ o.dict = none ∧ o.data = .seq its n ∧ its.size ≤ sizeLine ∧ Vals xs its.toList
/-- the script, locked (or a list of the written part) -/
def Scr (K : PySem.W.Frag) (io : Io) (H : Hp) (a : Addr) (xs : List V) : Prop := (a ∉ io ∧ ∃ o, H a = some (.frz o (.lst xs))) ∨ KL K a xs
theorem Scr.sq {K : PySem.W.Frag} {io : Io} {H : Hp} {a : Addr} {xs : List V} (h : Scr K io H a xs) : SqL K H a xs := by
  rcases h with ⟨_, o, e⟩ | h
  · exact .inl (.inr ⟨o, e⟩)
  · exact .inr h
/-- a tuple whose object has no dict of its own: a new one, or one of the written part -/
def PTup (K : PySem.W.Frag) (H : Hp) (a : Addr) (xs : List V) : Prop := (∃ o : Obj, H a = some (.frz o (.tup xs)) ∧ o.dict = none) ∨
  ∃ (o : Obj) (its : Array Value) (n : Nat), K.lookup a = some o ∧ o.cls = .type "tuple" ∧ o.dict = none ∧ o.data = .seq its n ∧ its.size ≤ sizeLine ∧ Vals xs its.toList
theorem PTup.sq {K : PySem.W.Frag} {H : Hp} {a : Addr} {xs : List V} (h : PTup K H a xs) : SqT K H a xs := by
  rcases h with ⟨o, e, _⟩ | ⟨o, its, n, e, c, _, d, z, r⟩
  · exact .inl (.inr ⟨o, e⟩)
  · exact .inr ⟨o, its, n, e, c, d, z, r⟩
/-- an exception that was caught: its class, its dict -/
def EO (cls : Value) (d : Option Addr) (a : Addr) : HO := .ext fun h => ∃ (oe : Obj) (vs : Array Value), h.get? a = some oe ∧ Zc cls d oe ∧ oe.data = .fields vs
theorem eo_tup {cls d a xs} : EO cls d a ≠ .tup xs := fun z => by
  have z' : HO.ext _ = HO.tup xs := z
  cases z'
theorem eo_frz {cls d a o u} : EO cls d a ≠ .frz o u := fun z => by
  have z' : HO.ext _ = HO.frz o u := z
  cases z'
section
variable (K : PySem.W.Frag) (ct : String → Addr) (io : Io) (H : Hp)
mutual
inductive DR : V → D → Prop
  | non : DR .non .non
  | bl (b : Bool) : DR (.bl b) (.bl b)
  | int (i : Int) : DR (.int i) (.int i)
  | str (x : Str) : DR (.str x) (.str x)
  | tup {a : Addr} {xs : List V} {ds : List D} : PTup K H a xs → DRs xs ds → DR (.ref a) (.tup ds)
  | lst {a : Addr} {xs : List V} {ds : List D} : a ∉ io → H a = some (.lst xs) → DRs xs ds → DR (.ref a) (.lst ds)
  | scr {a : Addr} {xs : List V} {ds : List D} : Scr K io H a xs → DRs xs ds → DR (.ref a) (.scr ds)
  | dic {a : Addr} {kvs : List (Key × V)} {es : List (Key × D)} : a ∉ io → H a = some (.dK kvs) → kvs.map (·.1) = es.map (·.1) → DRs (kvs.map (·.2)) (es.map (·.2)) → DR (.ref a) (.dic es)
  | ref {a : Addr} {n : Nat} : io.nm[n]? = some a → DR (.ref a) (.ref n)
  | ty (n : String) : DR (.ty n) (.cls (.bi n))
  | own (n : String) : DR (.ref (ct n)) (.cls (.own n))
inductive DRs : List V → List D → Prop
  | nil : DRs [] []
  | cons {v : V} {vs : List V} {d : D} {ds : List D} : DR v d → DRs vs ds → DRs (v :: vs) (d :: ds)
end
/-- the object at a is m -/
def MR (a : Addr) : M → Prop
  | .lst ds => ∃ xs, H a = some (.lst xs) ∧ DRs K ct io H xs ds
  | .dic es => ∃ kvs, H a = some (.dK kvs) ∧ kvs.map (·.1) = es.map (·.1) ∧ DRs K ct io H (kvs.map (·.2)) (es.map (·.2))
  | .ins c fs => ∃ dx gs, H a = some (.ins (ct c) dx gs) ∧ gs.map (·.1) = fs.map (·.1) ∧ DRs K ct io H (gs.map (·.2)) (fs.map (·.2))
  | .tab es => ∃ o kvs, H a = some (.frz o (.dK kvs)) ∧ kvs.map (·.1) = es.map (·.1) ∧ DRs K ct io H (kvs.map (·.2)) (es.map (·.2))
  | .exc c fs => ∃ d, H a = some (EO (.ref (ct c)) d a) ∧ (fs = [] ∨ ∃ p gs, d = some p ∧ p ∉ io ∧ H p = some (.xd gs) ∧ gs.map (·.1) = fs.map (·.1) ∧ DRs K ct io H (gs.map (·.2)) (fs.map (·.2)))
structure HR (A : Hd) : Prop where
  nd : io.nm.Nodup
  len : io.nm.length = A.length
  at_ : ∀ (n : Nat) (a : Addr) (m : M), io.nm[n]? = some a → A[n]? = some m → MR K ct io H a m
  hid : ∀ a ∈ io.hd, a ∉ io.nm ∧ ∃ xs, H a = some (.lst xs)
structure EnvR (ro : Env) (σ : L2.St) : Prop where
  len : ro.length = σ.length
  at_ : ∀ (i : Nat) (d : D), ro[i]? = some (some d) → ∃ v, σ[i]? = some (some v) ∧ DR K ct io H v d
end

/-- from one state to a later one -/
structure Ext (io : Io) (H : Hp) (io' : Io) (H' : Hp) : Prop where
  pre : ∃ more, io'.nm = io.nm ++ more
  hd1 : ∀ a ∈ io.hd, a ∈ io'.hd
  hd2 : ∀ a ∈ io'.hd, a ∈ io.hd ∨ H a = none
  fresh : ∀ b, b ∈ io'.nm → b ∉ io.nm → H b = none
  keep : ∀ b o, H b = some o → b ∉ io.nm → H' b = some o
  there : ∀ b o, H b = some o → ∃ o', H' b = some o'
  frz : ∀ b o u, H b = some (.frz o u) → H' b = some (.frz o u)

section
variable {K : PySem.W.Frag} {ct : String → Addr} {io io' io2 : Io} {H H' H2 : Hp}
theorem Ext.refl : Ext io H io H := ⟨⟨[], by simp⟩, fun _ h => h, fun _ h => .inl h, fun b h n => absurd h n, fun _ _ e _ => e, fun _ o e => ⟨o, e⟩, fun _ _ _ e => e⟩
theorem Ext.trans (a : Ext io H io' H') (b : Ext io' H' io2 H2) : Ext io H io2 H2 := by
  obtain ⟨m1, e1⟩ := a.pre
  obtain ⟨m2, e2⟩ := b.pre
  have back : ∀ c, H' c = none → H c = none := fun c e => by
    cases q : H c with
    | none => rfl
    | some o => obtain ⟨o', q'⟩ := a.there c o q; rw [e] at q'; cases q'
  refine ⟨⟨m1 ++ m2, by rw [e2, e1, List.append_assoc]⟩, fun c h => b.hd1 c (a.hd1 c h), fun c h => (b.hd2 c h).elim (a.hd2 c) fun z => .inr (back c z), fun c h n => ?_, fun c o e n => ?_, fun c o e => ?_, fun c o u e => b.frz c o u (a.frz c o u e)⟩
  · by_cases h1 : c ∈ io'.nm
    · exact a.fresh c h1 n
    · exact back c (b.fresh c h h1)
  · have q := a.keep c o e n
    refine b.keep c o q fun h1 => ?_
    have := a.fresh c h1 n
    rw [e] at this; cases this
  · obtain ⟨o', e'⟩ := a.there c o e
    exact b.there c o' e'
theorem Ext.mem (a : Ext io H io' H') {n : Nat} {b : Addr} (h : io.nm[n]? = some b) : io'.nm[n]? = some b := by
  obtain ⟨m, e⟩ := a.pre
  rw [e, List.getElem?_append_left (List.getElem?_eq_some_iff.mp h).1]
  exact h
theorem Ext.notin (a : Ext io H io' H') {b : Addr} {o : HO} (e : H b = some o) (n : b ∉ io) : b ∉ io' := fun h => by
  rcases h with h | h
  · have := a.fresh b h (Io.nmem n)
    rw [e] at this; cases this
  · rcases a.hd2 b h with z | z
    · exact n (.inr z)
    · rw [e] at z; cases z
theorem Ext.kept (a : Ext io H io' H') {b : Addr} {o : HO} (e : H b = some o) (n : b ∉ io) : H' b = some o := a.keep b o e (Io.nmem n)
theorem Rd.ext {u : HO} (a : Ext io H io' H') {b : Addr} (r : Rd H b u) (n : b ∉ io.nm) : Rd H' b u := by
  rcases r with e | ⟨o, e⟩
  · exact .inl (a.keep b _ e n)
  · exact .inr ⟨o, a.keep b _ e n⟩

/-- tuples never change: also those that stand in the list of numbers (there are none) -/
theorem SqT.ext (a : Ext io H io' H') (hn : ∀ b u, Rd H b (.tup u) → b ∉ io.nm) {b : Addr} {xs : List V} (h : SqT K H b xs) : SqT K H' b xs := by
  rcases h with h | h
  · exact .inl (Rd.ext a h (hn b xs h))
  · exact .inr h
theorem PTup.ext (a : Ext io H io' H') (hn : ∀ b u, Rd H b (.tup u) → b ∉ io.nm) {b : Addr} {xs : List V} (h : PTup K H b xs) : PTup K H' b xs := by
  rcases h with ⟨o, e, d⟩ | h
  · exact .inl ⟨o, a.keep b _ e (hn b xs (.inr ⟨o, e⟩)), d⟩
  · exact .inr h
/-- no tuple stands under a number -/
def NoT (io : Io) (H : Hp) : Prop := ∀ b u, Rd H b (.tup u) → b ∉ io.nm
mutual
theorem DR.mono (a : Ext io H io' H') (hn : NoT io H) : ∀ {v : V} {d : D}, DR K ct io H v d → DR K ct io' H' v d
  | _, _, .non => .non
  | _, _, .bl b => .bl b
  | _, _, .int i => .int i
  | _, _, .str x => .str x
  | _, _, .tup h hs => .tup (PTup.ext a hn h) (DRs.mono a hn hs)
  | _, _, .lst n h hs => .lst (a.notin h n) (a.kept h n) (DRs.mono a hn hs)
  | _, _, .scr h hs => .scr (h.elim (fun ⟨n, o, e⟩ => .inl ⟨a.notin e n, o, a.kept e n⟩) .inr) (DRs.mono a hn hs)
  | _, _, .dic n h e hs => .dic (a.notin h n) (a.kept h n) e (DRs.mono a hn hs)
  | _, _, .ref h => .ref (a.mem h)
  | _, _, .ty n => .ty n
  | _, _, .own n => .own n
theorem DRs.mono (a : Ext io H io' H') (hn : NoT io H) : ∀ {vs : List V} {ds : List D}, DRs K ct io H vs ds → DRs K ct io' H' vs ds
  | _, _, .nil => .nil
  | _, _, .cons h hs => .cons (DR.mono a hn h) (DRs.mono a hn hs)
end
theorem HR.noT {A : Hd} (h : HR K ct io H A) : NoT io H := fun b u r hb => by
  obtain ⟨n, hlt, e⟩ := List.getElem_of_mem hb
  have e1 : io.nm[n]? = some b := by rw [List.getElem?_eq_getElem hlt, e]
  have hl : n < A.length := by rw [← h.len]; exact hlt
  have q := h.at_ n b A[n] e1 (List.getElem?_eq_getElem hl)
  have : ∀ o, H b = some o → (∀ u, o ≠ .tup u) ∧ (∀ p u, o ≠ .frz p u) → False := fun o ho hh => by
    rcases r with r | ⟨p, r⟩
    · rw [ho] at r; exact hh.1 u (Option.some.inj r)
    · rw [ho] at r; exact hh.2 p _ (Option.some.inj r)
  cases hm : A[n] with
  | lst ds => rw [hm] at q; obtain ⟨xs, e2, _⟩ := q; exact this _ e2 ⟨(by intro u z; cases z), (by intro p u z; cases z)⟩
  | dic es => rw [hm] at q; obtain ⟨xs, e2, _⟩ := q; exact this _ e2 ⟨(by intro u z; cases z), (by intro p u z; cases z)⟩
  | ins c fs => rw [hm] at q; obtain ⟨dx, gs, e2, _⟩ := q; exact this _ e2 ⟨(by intro u z; cases z), (by intro p u z; cases z)⟩
  | tab es =>
    rw [hm] at q
    obtain ⟨o, xs, e2, _⟩ := q
    rcases r with r | ⟨p, r⟩
    · rw [e2] at r; cases r
    · rw [e2] at r; cases r
  | exc c fs => rw [hm] at q; obtain ⟨d, e2, _⟩ := q; exact this _ e2 ⟨fun u => eo_tup, fun p u => eo_frz⟩
theorem EnvR.mono {ro : Env} {σ : L2.St} (h : EnvR K ct io H ro σ) (a : Ext io H io' H') (hn : NoT io H) : EnvR K ct io' H' ro σ :=
  ⟨h.len, fun i d e => let ⟨v, e1, r⟩ := h.at_ i d e; ⟨v, e1, r.mono a hn⟩⟩
theorem EnvR.set {ro : Env} {σ : L2.St} (h : EnvR K ct io H ro σ) {i : Nat} {v : V} {d : D} (r : DR K ct io H v d) : EnvR K ct io H (ro.set i (some d)) (σ.set i (some v)) := by
  refine ⟨by rw [List.length_set, List.length_set, h.len], fun j e hj => ?_⟩
  by_cases hij : i = j
  · subst hij
    by_cases hi : i < ro.length
    · rw [List.getElem?_set_self hi] at hj
      cases hj
      exact ⟨v, by rw [List.getElem?_set_self (by rw [← h.len]; exact hi)], r⟩
    · rw [List.getElem?_eq_none (by rw [List.length_set]; omega)] at hj; cases hj
  · rw [List.getElem?_set_ne hij] at hj
    obtain ⟨w, e1, q⟩ := h.at_ j e hj
    exact ⟨w, by rw [List.getElem?_set_ne hij]; exact e1, q⟩
theorem DRs.length : ∀ {vs : List V} {ds : List D}, DRs K ct io H vs ds → vs.length = ds.length
  | _, _, .nil => rfl
  | _, _, .cons _ hs => by rw [List.length_cons, List.length_cons, DRs.length hs]
theorem DRs.get : ∀ {vs : List V} {ds : List D} {i : Nat} {d : D}, DRs K ct io H vs ds → ds[i]? = some d → ∃ v, vs[i]? = some v ∧ DR K ct io H v d
  | _, _, _, _, .nil, e => by simp at e
  | _, _, 0, _, .cons h _, e => by simp at e; subst e; exact ⟨_, rfl, h⟩
  | _, _, i + 1, _, .cons _ hs, e => DRs.get (i := i) hs (by simpa using e)
theorem DRs.get' : ∀ {vs : List V} {ds : List D} {i : Nat} {v : V}, DRs K ct io H vs ds → vs[i]? = some v → ∃ d, ds[i]? = some d ∧ DR K ct io H v d
  | _, _, _, _, .nil, e => by simp at e
  | _, _, 0, _, .cons h _, e => by simp at e; subst e; exact ⟨_, rfl, h⟩
  | _, _, i + 1, _, .cons _ hs, e => DRs.get' (i := i) hs (by simpa using e)
theorem DRs.append : ∀ {vs ws : List V} {ds es : List D}, DRs K ct io H vs ds → DRs K ct io H ws es → DRs K ct io H (vs ++ ws) (ds ++ es)
  | _, _, _, _, .nil, s => s
  | _, _, _, _, .cons h hs, s => .cons h (DRs.append hs s)
theorem DRs.take : ∀ {vs : List V} {ds : List D} (n : Nat), DRs K ct io H vs ds → DRs K ct io H (vs.take n) (ds.take n)
  | _, _, 0, _ => .nil
  | _, _, _ + 1, .nil => .nil
  | _, _, n + 1, .cons h hs => .cons h (DRs.take n hs)
theorem DRs.drop : ∀ {vs : List V} {ds : List D} (n : Nat), DRs K ct io H vs ds → DRs K ct io H (vs.drop n) (ds.drop n)
  | _, _, 0, h => h
  | _, _, _ + 1, .nil => .nil
  | _, _, n + 1, .cons _ hs => DRs.drop n hs
theorem DRs.set {v : V} {d : D} (r : DR K ct io H v d) : ∀ {vs : List V} {ds : List D} (i : Nat), DRs K ct io H vs ds → DRs K ct io H (vs.set i v) (ds.set i d)
  | _, _, _, .nil => .nil
  | _, _, 0, .cons _ hs => .cons r hs
  | _, _, i + 1, .cons h hs => .cons h (DRs.set r i hs)
theorem DRs.eraseIdx : ∀ {vs : List V} {ds : List D} (i : Nat), DRs K ct io H vs ds → DRs K ct io H (vs.eraseIdx i) (ds.eraseIdx i)
  | _, _, _, .nil => .nil
  | _, _, 0, .cons _ hs => hs
  | _, _, i + 1, .cons h hs => .cons h (DRs.eraseIdx i hs)
theorem DRs.reverse {vs : List V} {ds : List D} (h : DRs K ct io H vs ds) : DRs K ct io H vs.reverse ds.reverse := by
  induction vs generalizing ds with
  | nil => cases h; exact .nil
  | cons v vs ih =>
    cases h with
    | cons h hs =>
      rw [List.reverse_cons, List.reverse_cons]
      exact DRs.append (ih hs) (.cons h .nil)
theorem DRs.replicate {v : V} {d : D} (h : DR K ct io H v d) : ∀ n : Nat, DRs K ct io H (List.replicate n v) (List.replicate n d)
  | 0 => .nil
  | n + 1 => .cons h (DRs.replicate h n)
theorem DR.ne_new {v : V} {d : D} : True := trivial

theorem HR.get {A : Hd} (h : HR K ct io H A) {n : Nat} {a : Addr} {m : M} (e : io.nm[n]? = some a) (q : A[n]? = some m) : MR K ct io H a m := h.at_ n a m e q
theorem HR.has {A : Hd} (h : HR K ct io H A) {n : Nat} {a : Addr} (e : io.nm[n]? = some a) : ∃ m, A[n]? = some m := by
  have hl := (List.getElem?_eq_some_iff.mp e).1
  rw [h.len] at hl
  exact ⟨A[n], List.getElem?_eq_getElem hl⟩
theorem keys_isEmpty {kvs : List (Key × V)} {es : List (Key × D)} (k : kvs.map (·.1) = es.map (·.1)) : kvs.isEmpty = es.isEmpty := by
  cases kvs with
  | nil => cases es with
    | nil => rfl
    | cons _ _ => cases k
  | cons _ _ => cases es with
    | nil => cases k
    | cons _ _ => rfl
theorem DRs.isEmpty {vs : List V} {ds : List D} (h : DRs K ct io H vs ds) : vs.isEmpty = ds.isEmpty := by cases h <;> rfl
/-- a new object is laid that has no number -/
theorem Ext.laid {p : Addr} {o : HO} (n : H p = none) : Ext io H io (upd H p o) := by
  refine ⟨⟨[], by simp⟩, fun _ h => h, fun _ h => .inl h, fun b h k => absurd h k, fun b x e k => ?_, fun b x e => ?_, fun b o u e => by rw [upd_ne (ne_of_none e n)]; exact e⟩
  · rw [upd_ne (ne_of_none e n)]; exact e
  · exact ⟨x, by rw [upd_ne (ne_of_none e n)]; exact e⟩
theorem HR.ne {A : Hd} (h : HR K ct io H A) {p : Addr} (n : H p = none) : p ∉ io := fun hb => by
  rcases hb with hb | hb
  · obtain ⟨k, hlt, e⟩ := List.getElem_of_mem hb
    have e1 : io.nm[k]? = some p := by rw [List.getElem?_eq_getElem hlt, e]
    have hl : k < A.length := by rw [← h.len]; exact hlt
    have q := h.at_ k p A[k] e1 (List.getElem?_eq_getElem hl)
    cases hm : A[k] with
    | lst ds => rw [hm] at q; obtain ⟨xs, e2, _⟩ := q; rw [n] at e2; cases e2
    | dic es => rw [hm] at q; obtain ⟨xs, e2, _⟩ := q; rw [n] at e2; cases e2
    | ins c fs => rw [hm] at q; obtain ⟨dx, gs, e2, _⟩ := q; rw [n] at e2; cases e2
    | tab es => rw [hm] at q; obtain ⟨o, xs, e2, _⟩ := q; rw [n] at e2; cases e2
    | exc c fs => rw [hm] at q; obtain ⟨d, e2, _⟩ := q; rw [n] at e2; cases e2
  · obtain ⟨xs, e⟩ := (h.hid p hb).2
    rw [n] at e; cases e
theorem MR.mono {a : Addr} {m : M} (x : Ext io H io' H') (hn : NoT io H) (he : ∀ o, H a = some o → H' a = some o) (h : MR K ct io H a m) : MR K ct io' H' a m := by
  cases m with
  | lst ds => obtain ⟨xs, e, r⟩ := h; exact ⟨xs, he _ e, r.mono x hn⟩
  | dic es => obtain ⟨xs, e, k, r⟩ := h; exact ⟨xs, he _ e, k, r.mono x hn⟩
  | ins c fs => obtain ⟨dx, gs, e, k, r⟩ := h; exact ⟨dx, gs, he _ e, k, r.mono x hn⟩
  | tab es => obtain ⟨o, xs, e, k, r⟩ := h; exact ⟨o, xs, he _ e, k, r.mono x hn⟩
  | exc c fs =>
    obtain ⟨d, e, q⟩ := h
    refine ⟨d, he _ e, q.imp id ?_⟩
    rintro ⟨p, gs, h1, h2, h3, h4, h5⟩
    exact ⟨p, gs, h1, x.notin h3 h2, x.kept h3 h2, h4, h5.mono x hn⟩
/-- all is kept -/
theorem HR.same {A : Hd} (h : HR K ct io H A) (x : Ext io H io H') (k : ∀ b o, H b = some o → H' b = some o) : HR K ct io H' A :=
  ⟨h.nd, h.len, fun n a m e1 e2 => (h.at_ n a m e1 e2).mono x h.noT (k a), fun a ha => ⟨(h.hid a ha).1, let ⟨xs, e⟩ := (h.hid a ha).2; ⟨xs, k a _ e⟩⟩⟩
theorem HR.laid {A : Hd} (h : HR K ct io H A) {p : Addr} {o : HO} (n : H p = none) : HR K ct io (upd H p o) A :=
  h.same (Ext.laid n) fun b x e => by rw [upd_ne (ne_of_none e n)]; exact e
end
end DV

set_option Elab.async false
set_option linter.all false
set_option maxRecDepth 100000
/-! DvB: defs at states where nothing is being shown (guards empty), their calls; the law's end. -/
namespace DV
open PySem PySem.Spec PyProof.Rows L2

/-- as FnOk, at states where no repr runs -/
structure FnG (P : Program) (w : World) (K : PySem.W.Frag) (mg : Str → Option Value) (base : Heap) (k : Nat) (f : Addr) (fd : FuncData) (ps : List Str) (sp : Sp) : Prop where
  len : ∀ vs H Q E, sp vs H Q E → vs.length = ps.length
  run : ∀ (A : Around) (outer : List PySem.Env) (s : Shared) (H : Hp) (args : Args) (us : List Value) (vs : List V) (Q : VK) (E : XK), A.guards = some [] → Room k A → Env0 P w K mg base A outer s H → BindsTo s fd args (ps.zip us) →
    Vals vs us → sp vs H Q E → codeAny (model P w) A (.call (.ref f) args) (CR (L2.CX P w) outer P w H s Q E) s
section
variable {P : Program} {w : World} {K : PySem.W.Frag} {mg : Str → Option Value} {base : Heap}
theorem FnG.mono {j k : Nat} {f : Addr} {fd : FuncData} {ps : List Str} {sp : Sp} (F : FnG P w K mg base j f fd ps sp) (h : j ≤ k) : FnG P w K mg base k f fd ps sp :=
  ⟨F.len, fun A outer s H args us vs Q E g r => F.run A outer s H args us vs Q E g (r.mono h)⟩

/-- a def of the text: its body at the entry -/
theorem okG {x qual : Str} {st : Stmt} {f : Addr} {fd : FuncData} {N ps : List Str} {k : Nat} {sp : Sp} (F : Fun K x qual st f fd) (S : FnScope N ps (defScope st)) (len : ∀ vs H Q E, sp vs H Q E → vs.length = ps.length)
    (body : ∀ (cdv : Value) (A : Around) (outer : List PySem.Env) (s : Shared) (H : Hp) (vs : List V) (Q : VK) (E : XK), A.guards = some [] → Room k (A.deeper (envOfC qual (defScope st) s.heap.objs.size f cdv)) → sp vs H Q E →
      ∃ t, PSs (cxOf (L2.CX P w) P w K mg base N qual (defScope st) f cdv A outer s H E) (defBody st) t ∧ t { nx := fun _ H' => Q .non H', rt := Q } (start N vs) H) : FnG P w K mg base (k + 1) f fd ps sp := by
  obtain ⟨oc, od, kV, doc, pm, an, cdv, ct, osl, rfl, lk, hcd⟩ := F.ex
  refine ⟨len, fun A outer s H args us vs Q E hgd hr e0 hb r hsp => ?_⟩
  have hl := len _ _ _ _ hsp
  have KX : K.In s.heap := e0.mod.kin.keeps (fun b o e => (e0.bs b o e).1)
  have lim : s.heap.NoLimit := e0.mod.nolimit.keeps (fun b o e => (e0.bs b o e).1)
  have hk : ∀ y ∈ ps.zip us, (defScope st).names.lookup y.1 = some .local ∨ ((defScope st).names.lookup y.1 = some .cell ∧ ((cellsFrom (s.heap.objs.size + 1) (defScope st).names []).lookup y.1).isSome = true) := by
    intro ⟨n, v⟩ hy
    rcases S.par n (List.of_mem_zip hy).1 with q | q
    · left; exact q
    · right; exact ⟨q, PySem.W.cellsFrom_some _ _ _ (.inl q)⟩
  refine codeAny_call_function hr.depth (KX _ _ lk) rfl S.co S.gen rfl (PySem.W.codeRec_of KX hcd) (hb _ _ _ _ ?_)
  refine wpAny_newFunctionEnv_cells S.kind hk (fun env he s1 x => ?_)
  subst he
  refine ⟨lim.keeps x.toInCall.keep, codeAny_func ?_⟩
  obtain ⟨t, ht, hq⟩ := body cdv A outer s H vs Q E hgd (hr.deeper _) hsp
  have I : Inv (cxOf (L2.CX P w) P w K mg base N qual (defScope st) f cdv A outer s H E) [] (start N vs) H s1 := inv_start S hr.hd e0 hl r x
  refine wpAny_mono (ht.run [] s1 (start N vs) H _ I hq) (fun fl s' hs => ?_) (fun e s' hs => hs)
  cases fl with
  | ret u => obtain ⟨v, σ', H', J, rv, q⟩ := hs; exact ⟨v, H', J.os, J.bare, J.base, J.hok, rv, q⟩
  | next => obtain ⟨σ', H', J, q⟩ := hs; exact ⟨.non, H', J.os, J.bare, J.base, J.hok, rfl, q⟩
  | brk => obtain ⟨_, _, _, q⟩ := hs; exact q.elim
  | cont => obtain ⟨_, _, _, q⟩ := hs; exact q.elim
end

section
variable {X : Cx} {k : Nat} {f C : Addr} {fd : FuncData} {ps : List Str} {sp : Sp} {ds : List Value} {dvs : List V} {W : WX} {x m : Str} {p pos apos : Pos} {e o : Expr} {es : List Expr} {ta : TE} {t : TA}
theorem run_G {pins : List (Addr × Obj)} {σ : L2.St} {H : Hp} {s : Shared} {Q : VK} {us : List Value} {vs : List V} (F : FnG X.prog X.w X.K X.mg X.base k f fd ps sp) (hg : X.A.guards = some []) (hr : Room k X.A) (hb : Binds X.K fd ps ds) (hd : Vals dvs ds) (tk : Takes X W)
    (I : Inv X pins σ H s) (r : Vals vs us) (h : sp (vs ++ dvs) H Q (WE W σ)) : wpAny (model X.prog X.w) X.A (call (.ref f) us) (EP X pins σ Q) X.xe s := by
  have r2 : Vals (vs ++ dvs) (us ++ ds) := Vals.append r hd
  have hl : (us ++ ds).length = ps.length := Eq.trans r2.length.symm (F.len _ _ _ _ h)
  refine wpAny_call (codeAny_mono (F.run X.A X.stack s H ⟨us, []⟩ (us ++ ds) (vs ++ dvs) Q (WE W σ) hg hr I.env0 (hb s us I.kIn hl) r2 h) (fun r s' hq => ?_))
  match r, hq with
  | .error e, hq => exact passAt tk σ pins H s e s' I hq
  | .ok (.ret u), hq => exact I.after hq
  | .ok .next, hq => exact (False.elim hq)
  | .ok .brk, hq => exact (False.elim hq)
  | .ok .cont, hq => exact (False.elim hq)
/-- f(e, ..): the def at the module's name x -/
theorem pe_G (F : FnG X.prog X.w X.K X.mg X.base k f fd ps sp) (hgd : X.A.guards = some []) (hr : Room k X.A) (hg : Gl X x) (hm : X.mg x = some (.ref f)) (hk : PySem.W.keepIn X.K (.ref f) = true) (hb : Binds X.K fd ps ds) (hd : Vals dvs ds) (tk : Takes X W)
    (ha : PA X (e :: es) t) (hdb : (x == ("__debug__" : Str)) = false := by decide) (he : starEach (e :: es) X.env = (false, eval e X.env) :: starEach es X.env := by rfl) (hpl : (backTo pos (starEach es X.env)).any (·.1) = false := by rfl) :
    PE X (.Call (.Name x p) (e :: es) [] pos) (fun σ H Q => t σ H fun vs H1 => sp (vs ++ dvs) H1 Q (WE W σ)) := by
  refine ⟨fun pins s σ H Q I h => wpAny_Call_Name_kw (ld_glob I hg hm ?_ hdb)⟩
  exact PySem.W.callWith_K (h₀ := X.base) I.ok.mod.kin hk (thn (ha.run pos pins s σ H _ I h) fun us s1 ⟨vs, H1, I1, r, q⟩ => ⟨I1.kIn, run_G F hgd hr hb hd tk I1 r q⟩) he hpl
theorem pe_G0 (F : FnG X.prog X.w X.K X.mg X.base k f fd ps sp) (hgd : X.A.guards = some []) (hr : Room k X.A) (hg : Gl X x) (hm : X.mg x = some (.ref f)) (hk : PySem.W.keepIn X.K (.ref f) = true) (hb : Binds X.K fd ps ds) (hd : Vals dvs ds) (tk : Takes X W)
    (hdb : (x == ("__debug__" : Str)) = false := by decide) : PE X (.Call (.Name x p) [] [] pos) (fun σ H Q => sp dvs H Q (WE W σ)) := by
  refine ⟨fun pins s σ H Q I h => wpAny_Call_Name_kw (ld_glob I hg hm ?_ hdb)⟩
  exact PySem.W.callWith_K0 I.kIn hk (run_G (us := []) (vs := []) F hgd hr hb hd tk I .nil h)
end

/-- the law's own call, from its promise (as law_call, for FnG) -/
theorem callG {P : Program} {w : World} {K : PySem.W.Frag} {mg mb : Str → Option Value} {k : Nat} {fa a : Addr} {fd : FuncData} {x : Str} {sp : Sp} {s₁ : Shared} {vs : List Value} {ns : List Int}
    (KX : K.In s₁.heap) (hns : s₁.heap.Ns mainGlobals mg) (hb : s₁.heap.Ns builtinsNs mb) (hbb : ∀ x : Str, x ≠ "__name__" → mb x = bootBuiltins x) (hlim : s₁.heap.NoLimit) (hg : s₁.gens = #[])
    (ha : s₁.heap.get? a = some { cls := .type "list", data := .seq vs.toArray }) (hi : IntsAre vs ns) (hl : ns.length ≤ sizeLine) (hr : Room k callerA)
    (F : ∀ base : Heap, K.In base → base.Ns mainGlobals mg → FnG P w K mg base k fa fd [x] sp) (hbind : ∀ (s : Shared) (u : Value), BindsTo s fd ⟨[u], []⟩ [(x, u)])
    (hsp : ∀ H : Hp, Scr K io0 H a (ns.map V.int) → sp [.ref a] H (fun v _ => v = .bl true) fun _ _ _ => False) :
    codeAny (model P w) callerA (.call (.ref fa) ⟨[.ref a], []⟩) (fun r s' => r = .ok (.ret (.bool true)) ∧ OldK s₁.heap s'.heap ∧ s'.os = s₁.os ∧ AllBare s'.gens) s₁ := by
  have rv := vals_ints hi
  obtain ⟨oa, hoa⟩ : ∃ oa : Obj, oa = { cls := .type "list", data := .seq vs.toArray } := ⟨_, rfl⟩
  have core : ∀ H : Hp, (∀ b, b ≠ a → H b = none) → (H a = none ∨ (H a = some (.frz oa (.lst (ns.map V.int))) ∧ K.lookup a = none)) → Scr K io0 H a (ns.map V.int) →
      codeAny (model P w) callerA (.call (.ref fa) ⟨[.ref a], []⟩) (fun r s' => r = .ok (.ret (.bool true)) ∧ OldK s₁.heap s'.heap ∧ s'.os = s₁.os ∧ AllBare s'.gens) s₁ := by
    intro H h2 h1 hS
    have hok : HOk P w H s₁.heap := fun b u z => by
      by_cases hb : b = a
      · rcases h1 with h1 | ⟨h1, _⟩
        · rw [hb, h1] at z; cases z
        · rw [hb, h1] at z
          cases z
          rw [hb]
          refine ⟨by rw [hoa]; exact ha, by rw [List.length_map]; exact hl, vs, _, rv, ha⟩
      · rw [h2 b hb] at z; cases z
    have free : ∀ {b : Addr} {o : Obj}, s₁.heap.get? b = some o → (b = a → K.lookup a = none → False) → H b = none := fun {b o} e d => by
      by_cases hb : b = a
      · rcases h1 with h1 | ⟨_, h1⟩
        · rw [hb]; exact h1
        · exact (d hb h1).elim
      · exact h2 b hb
    have nsK : ∀ {b : Addr} {m : Str → Option Value}, s₁.heap.Ns b m → (hidT s₁.heap H).Ns b m := fun {b m} ⟨o, es, ep, e, d, r⟩ => ⟨o, es, ep, hidT_get e (free e fun hb _ => by
      rw [hb, ha] at e
      cases e
      cases (show Data.seq vs.toArray _ = Data.dict es ep from d)), d, r⟩
    have hKb : K.In (hidT s₁.heap H) := fun b o e => hidT_get (KX b o e) (free (KX b o e) fun hb hn => by rw [hb, hn] at e; cases e)
    have hM : Mod K mg (hidT s₁.heap H) := ⟨hKb, nsK hns, ⟨mb, nsK hb, hbb⟩, let ⟨mc, q1, q2⟩ := hlim; ⟨mc, nsK q1, q2⟩⟩
    have e0 : Env0 P w K mg (hidT s₁.heap H) callerA [] s₁ H := ⟨rfl, hM, fun b o e => of_hidT e, Nat.le_of_eq (hidT_size _ _), trivial, fun b hb => absurd (show b ∈ ([] : List Addr) from hb) (by simp), hok, .of_eq hg⟩
    refine codeAny_mono ((F _ hKb (nsK hns)).run callerA [] s₁ H ⟨[.ref a], []⟩ [.ref a] [.ref a] _ _ rfl hr e0 (hbind s₁ (.ref a)) (.cons rfl .nil) (hsp H hS)) (fun r s' h => ?_)
    match r, h with
    | .error e, h => obtain ⟨_, _, _, _, _, _, _, _, _, _, _, _, z⟩ := h; exact z.elim
    | .ok .next, h => exact (False.elim h)
    | .ok .brk, h => exact (False.elim h)
    | .ok .cont, h => exact (False.elim h)
    | .ok (.ret u), h =>
      obtain ⟨v, H', os, bare, un, hok', r', q⟩ := h
      have q' : v = .bl true := q
      subst q'
      obtain rfl : u = Value.bool true := r'
      refine ⟨rfl, OldK.of_keep fun b o e => ?_, os, bare⟩
      by_cases hb : b = a
      · rcases h1 with h1 | ⟨h1, _⟩
        · rw [hb] at e ⊢
          exact un.keep a o e h1 (by intro z; exact absurd (show a ∈ ([] : List Addr) from z) (by simp)) (by simp)
        · obtain ⟨e2, _⟩ := hok' b _ (un.frzs b oa _ (by rw [hb]; exact h1))
          rw [hb, ha] at e
          cases e
          rw [e2, hoa]
      · exact un.keep b o e (h2 b hb) (by intro z; exact absurd (show b ∈ ([] : List Addr) from z) (by simp)) (by simp)
  cases hk : K.lookup a with
  | some o =>
    have e := KX a o hk
    rw [ha] at e
    cases e
    exact core (fun _ => none) (fun _ _ => rfl) (.inl rfl) (.inr ⟨_, vs.toArray, _, hk, rfl, rfl, rfl, by rw [List.size_toArray, hi.length]; exact hl, by simpa using rv⟩)
  | none =>
    refine core (fun b => if b = a then some (.frz oa (.lst (ns.map V.int))) else none) (fun b hb => if_neg hb) (.inr ⟨if_pos rfl, hk⟩) (.inl ⟨(by rintro (z | z) <;> cases z), oa, if_pos rfl⟩)

/-- the goal that k_head leaves, from the law's promise -/
theorem walkG {l : PySem.W.OpenLaw} {n k : Nat} {q : Program} {loose : List Str} {XP : (Str → Option Value) → Heap → Prop} {YP : World → Heap → Prop} {d : DefRec} {K : Params → PySem.W.Frag} {sp : World → Sp} {x : Str}
    (hn : l.most = some n) (hn2 : n ≤ sizeLine) (hdf : d.params.defaults = []) (hr : Room k callerA)
    (hY : ∀ (w : World) (h : Heap), YP w h → (K w.params).In h)
    (F : ∀ (w : World) (mg : Str → Option Value) (fa : Addr) (h : Heap), (K w.params).In h → h.Ns mainGlobals mg → mg d.name = some (.ref fa) →
      (∃ fd : FuncData, (∀ (s : Shared) (u : Value), BindsTo s fd ⟨[u], []⟩ [(x, u)]) ∧
        ∀ base : Heap, (K w.params).In base → base.Ns mainGlobals mg → FnG l.prog w (K w.params) mg base k fa fd [x] (sp w)) ∧
      ∀ (H : Hp) (a : Addr) (ns : List Int), ns.length ≤ n → Scr (K w.params) io0 H a (ns.map V.int) → sp w [.ref a] H (fun v _ => v = .bl true) fun _ _ _ => False) :
    PySem.W.WalkO q loose XP YP l.row.toRowW d [] (fun f vs => PySem.call f vs) := by
  refine Att.attach_call hn hdf fun w s₀ s₁ mg mb fa o pm cd doc a vs ns G Y ho hd hcd hmg hobj hints hlen hg => ?_
  have KX := hY w _ Y
  obtain ⟨⟨fd, hb, hF⟩, hsp⟩ := F w mg fa _ KX G.T.g hmg
  exact callG KX G.T.g G.T.b G.T.builtins G.T.nolimit hg hobj hints (Nat.le_trans hlen hn2) hr hF hb (fun H hS => hsp H a ns hlen hS)
end DV

set_option Elab.async false
set_option linter.all false
set_option maxRecDepth 100000
/-! DvC: results, what they ask of the heap, the judgements by data, names, constants, displays, and / or / not / if. -/
namespace DV
open PySem PySem.Spec PyProof.Rows L2

inductive R (α : Type) where
  | ok (a : α) (A : Hd) | err (c : Cl) (fs : List (Str × D)) (A : Hd) | stk
def R.bind {α β : Type} (r : R α) (k : α → Hd → R β) : R β := match r with
  | .ok a A => k a A
  | .err c fs A => .err c fs A
  | .stk => .stk
@[simp] theorem R.bind_ok {α β : Type} (a : α) (A : Hd) (k : α → Hd → R β) : (R.ok a A).bind k = k a A := rfl
@[simp] theorem R.bind_err {α β : Type} (c : Cl) (fs : List (Str × D)) (A : Hd) (k : α → Hd → R β) : (R.err c fs A : R α).bind k = .err c fs A := rfl
@[simp] theorem R.bind_stk {α β : Type} (k : α → Hd → R β) : (R.stk : R α).bind k = .stk := rfl
theorem R.bind_assoc {α β γ : Type} (r : R α) (k : α → Hd → R β) (l : β → Hd → R γ) : (r.bind k).bind l = r.bind fun a A => (k a A).bind l := by
  cases r <;> rfl

abbrev EF := Env → Hd → R D
abbrev TF := Env → Hd → R Bool
abbrev AF := Env → Hd → R (List D)

def ClV (ct : String → Addr) : Cl → Value
  | .own n => .ref (ct n)
  | .bi n => .type n
/-- an exception in the air -/
structure XR (K : PySem.W.Frag) (ct : String → Addr) (io : Io) (H : Hp) (c : Cl) (fs : List (Str × D)) (cls : Value) (dd : Option Addr) : Prop where
  cls : cls = ClV ct c
  fds : fs = [] ∨ ∃ p gs, dd = some p ∧ p ∉ io ∧ H p = some (.xd gs) ∧ gs.map (·.1) = fs.map (·.1) ∧ DRs K ct io H (gs.map (·.2)) (fs.map (·.2))

section
variable (K : PySem.W.Frag) (ct : String → Addr)
/-- what a result asks -/
def Post {α β : Type} (rep : Io → Hp → β → α → Prop) (W : WX) (σ : L2.St) (io : Io) (H : Hp) (r : R α) (Q : β → Hp → Prop) : Prop := match r with
  | .ok a A => ∀ b io' H', Ext io H io' H' → HR K ct io' H' A → rep io' H' b a → Q b H'
  | .err c fs A => ∀ cls dd io' H', Ext io H io' H' → HR K ct io' H' A → XR K ct io' H' c fs cls dd → W cls dd σ H'
  | .stk => False
abbrev repB : Io → Hp → Bool → Bool → Prop := fun _ _ b a => b = a
/-- a state -/
structure Sta (ro : Env) (A : Hd) (io : Io) (σ : L2.St) (H : Hp) : Prop where
  hr : HR K ct io H A
  env : EnvR K ct io H ro σ
def tD (W : WX) (f : EF) : TE := fun σ H Q => ∃ io A ro, Sta K ct ro A io σ H ∧ Post K ct (DR K ct) W σ io H (f ro A) Q
def tT (W : WX) (f : TF) : TT := fun σ H Q => ∃ io A ro, Sta K ct ro A io σ H ∧ Post K ct repB W σ io H (f ro A) Q
def tL (W : WX) (f : AF) : TA := fun σ H Q => ∃ io A ro, Sta K ct ro A io σ H ∧ Post K ct (DRs K ct) W σ io H (f ro A) Q
end

section
variable {K : PySem.W.Frag} {ct : String → Addr} {W : WX} {σ : L2.St} {io io' : Io} {H H' : Hp} {A A' : Hd} {ro : Env}
theorem Post.mono {α β : Type} {rep : Io → Hp → β → α → Prop} {r : R α} {Q Q' : β → Hp → Prop} (h : Post K ct rep W σ io H r Q) (m : ∀ b H', Q b H' → Q' b H') : Post K ct rep W σ io H r Q' := by
  cases r with
  | ok a A => exact fun b io' H' e h1 r => m _ _ (h b io' H' e h1 r)
  | err c fs A => exact h
  | stk => exact h
theorem Post.ext {α β : Type} {rep : Io → Hp → β → α → Prop} {r : R α} {Q : β → Hp → Prop} (e : Ext io H io' H') (h : Post K ct rep W σ io H r Q) : Post K ct rep W σ io' H' r Q := by
  cases r with
  | ok a A => exact fun b io2 H2 e2 h1 r => h b io2 H2 (e.trans e2) h1 r
  | err c fs A => exact fun cls dd io2 H2 e2 h1 r => h cls dd io2 H2 (e.trans e2) h1 r
  | stk => exact h
theorem Post.bind {α β γ δ : Type} {rep : Io → Hp → β → α → Prop} {rep2 : Io → Hp → δ → γ → Prop} {r : R α} {k : α → Hd → R γ} {Q : δ → Hp → Prop} (h : Post K ct rep2 W σ io H (r.bind k) Q) :
    Post K ct rep W σ io H r (fun b H1 => ∃ io1 A1 a, Ext io H io1 H1 ∧ HR K ct io1 H1 A1 ∧ rep io1 H1 b a ∧ Post K ct rep2 W σ io1 H1 (k a A1) Q) := by
  cases r with
  | ok a A => exact fun b io1 H1 e h1 r => ⟨io1, A, a, e, h1, r, Post.ext e h⟩
  | err c fs A => exact h
  | stk => exact h
theorem Sta.mono (s : Sta K ct ro A io σ H) (e : Ext io H io' H') (h : HR K ct io' H' A') : Sta K ct ro A' io' σ H' := ⟨h, s.env.mono e s.hr.noT⟩
/-- a value that stands already -/
theorem Post.here {α β : Type} {rep : Io → Hp → β → α → Prop} {a : α} {b : β} {Q : β → Hp → Prop} (h : Post K ct rep W σ io H (.ok a A) Q) (hr : HR K ct io H A) (r : rep io H b a) : Q b H := h b io H Ext.refl hr r
/-- a new object -/
theorem Post.new {d : D} {p : Addr} {o : HO} {Q : VK} (h : Post K ct (DR K ct) W σ io H (.ok d A) Q) (hr : HR K ct io H A) (n : H p = none) (r : DR K ct io (upd H p o) (.ref p) d) : Q (.ref p) (upd H p o) :=
  h _ io _ (Ext.laid n) (hr.laid n) r
theorem DRs.laid {vs : List V} {ds : List D} {p : Addr} {o : HO} (h : DRs K ct io H vs ds) (hr : HR K ct io H A) (n : H p = none) : DRs K ct io (upd H p o) vs ds := h.mono (Ext.laid n) hr.noT
theorem DR.laid {v : V} {d : D} {p : Addr} {o : HO} (h : DR K ct io H v d) (hr : HR K ct io H A) (n : H p = none) : DR K ct io (upd H p o) v d := h.mono (Ext.laid n) hr.noT
theorem DR.newLst {vs : List V} {ds : List D} {p : Addr} (hr : HR K ct io H A) (n : H p = none) (h : DRs K ct io H vs ds) : DR K ct io (upd H p (.lst vs)) (.ref p) (.lst ds) := .lst (hr.ne n) upd_same (h.laid hr n)
theorem DR.newTup {vs : List V} {ds : List D} {p : Addr} {o : Obj} (hr : HR K ct io H A) (n : H p = none) (ho : o.dict = none) (h : DRs K ct io H vs ds) : DR K ct io (upd H p (.frz o (.tup vs))) (.ref p) (.tup ds) := .tup (.inl ⟨o, upd_same, ho⟩) (h.laid hr n)
end

/-! ### judgements -/
section
variable (X : Cx) (ct : String → Addr) (W : WX)
abbrev PD (e : Expr) (f : EF) : Prop := PE X e (tD X.K ct W f)
abbrev PDt (e : Expr) (f : TF) : Prop := PT X e (tT X.K ct W f)
abbrev PDw (e : Expr) (f : TF) : Prop := PW X e (tT X.K ct W f)
abbrev PDa (es : List Expr) (f : AF) : Prop := PA X es (tL X.K ct W f)
end
theorem pe_mono {X : Cx} {e : Expr} {t t' : TE} (h : PE X e t) (m : ∀ σ H Q, t' σ H Q → t σ H Q) : PE X e t' := ⟨fun pins s σ H Q I q => h.run pins s σ H Q I (m _ _ _ q)⟩
theorem pt_mono {X : Cx} {e : Expr} {t t' : TT} (h : PT X e t) (m : ∀ σ H Q, t' σ H Q → t σ H Q) : PT X e t' := ⟨fun pins s σ H Q I q => h.run pins s σ H Q I (m _ _ _ q)⟩
theorem pw_mono {X : Cx} {e : Expr} {t t' : TT} (h : PW X e t) (m : ∀ σ H Q, t' σ H Q → t σ H Q) : PW X e t' := ⟨fun wh pins s σ H Q I q => h.run wh pins s σ H Q I (m _ _ _ q)⟩
theorem pa_mono {X : Cx} {e : List Expr} {t t' : TA} (h : PA X e t) (m : ∀ σ H Q, t' σ H Q → t σ H Q) : PA X e t' := ⟨fun pos pins s σ H Q I q => h.run pos pins s σ H Q I (m _ _ _ q)⟩

/-! ### combinators -/
def eVar (i : Nat) : EF := fun ro A => match ro[i]? with
  | some (some d) => .ok d A
  | _ => .stk
def eC (d : D) : EF := fun _ A => .ok d A
def eBin (g : D → D → Hd → R D) (a b : EF) : EF := fun ro A => (a ro A).bind fun d A1 => (b ro A1).bind fun e A2 => g d e A2
def eUn (g : D → Hd → R D) (a : EF) : EF := fun ro A => (a ro A).bind fun d A1 => g d A1
def aNil : AF := fun _ A => .ok [] A
def aCons (a : EF) (b : AF) : AF := fun ro A => (a ro A).bind fun d A1 => (b ro A1).bind fun ds A2 => .ok (d :: ds) A2
def eArgs (g : List D → Hd → R D) (a : AF) : EF := fun ro A => (a ro A).bind fun ds A1 => g ds A1
def gTupD (ds : List D) (A : Hd) : R D := if ds.length ≤ sizeLine then .ok (.tup ds) A else .stk
def gLstD (ds : List D) (A : Hd) : R D := if ds.length ≤ sizeLine then .ok (.lst ds) A else .stk
/-- a list that will change: it gets a number -/
def gLstM (ds : List D) (A : Hd) : R D := if ds.length ≤ sizeLine then .ok (.ref A.length) (A ++ [.lst ds]) else .stk

/-- a value's truth -/
def truD (d : D) (A : Hd) : Option Bool := match d with
  | .non => some false
  | .bl b => some b
  | .int i => some (i != 0)
  | .str y => if y.length ≤ sizeLine then some (y.length != 0) else none
  | .tup ds => some (!ds.isEmpty)
  | .lst ds => some (!ds.isEmpty)
  | .scr ds => some (!ds.isEmpty)
  | .dic es => some (!es.isEmpty)
  | .ref n => match A[n]? with
    | some (.lst ds) => some (!ds.isEmpty)
    | some (.dic es) => some (!es.isEmpty)
    | _ => none
  | .cls _ => none
def gTru (d : D) (A : Hd) : R Bool := match truD d A with
  | some b => .ok b A
  | none => .stk
/-- a bool's truth, as a test -/
def gBool (d : D) (A : Hd) : R Bool := match d with
  | .bl b => .ok b A
  | _ => .stk
def tOfE (a : EF) : TF := fun ro A => (a ro A).bind gTru
def tAndD (a b : TF) : TF := fun ro A => (a ro A).bind fun c A1 => if c then b ro A1 else .ok false A1
def tOrD (a b : TF) : TF := fun ro A => (a ro A).bind fun c A1 => if c then .ok true A1 else b ro A1
def tNotD (a : TF) : TF := fun ro A => (a ro A).bind fun c A1 => .ok (!c) A1
def eAndD (a b : EF) : EF := fun ro A => (a ro A).bind fun d A1 => (gTru d A1).bind fun c A2 => if c then b ro A2 else .ok d A2
def eOrD (a b : EF) : EF := fun ro A => (a ro A).bind fun d A1 => (gTru d A1).bind fun c A2 => if c then .ok d A2 else b ro A2
def eNotD (a : EF) : EF := fun ro A => (a ro A).bind fun d A1 => (gTru d A1).bind fun c A2 => .ok (.bl (!c)) A2
def eIf (c : TF) (a b : EF) : EF := fun ro A => (c ro A).bind fun k A1 => if k then a ro A1 else b ro A1

section
variable {X : Cx} {ct : String → Addr} {W : WX} {e a b : Expr} {pos : Pos} {fa fb : EF} {ft fu : TF}
theorem pd_var (i : Nat) {x : Str} (hN : X.N[i]? = some x := by rfl) (hv : Vis X.env.scope x := by first | exact Or.inl rfl | exact Or.inr (Or.inl rfl) | exact Or.inr (Or.inr rfl)) (hd : (x == ("__debug__" : Str)) = false := by decide)
    (hcd : (x == ("__classdict__" : Str)) = false := by decide) : PD X ct W (.Name x pos) (eVar i) :=
  pe_mono (pe_var hN hv hd hcd) fun σ H Q ⟨io, A, ro, s, p⟩ => by
    unfold eVar at p
    split at p
    · rename_i d q
      obtain ⟨v, e1, r⟩ := s.env.at_ i d q
      exact ⟨v, e1, p.here s.hr r⟩
    · exact p.elim
theorem pd_c {v : V} {d : D} (h : PE X e (tC v)) (r : ∀ io H, DR X.K ct io H v d) : PD X ct W e (eC d) :=
  pe_mono h fun σ H Q ⟨io, A, ro, s, p⟩ => p.here s.hr (r io H)
theorem pd_int {i j} : PD X ct W (.Constant (.int i) j pos) (eC (.int i)) := pd_c pe_int fun _ _ => .int i
theorem pd_bl {b j} : PD X ct W (.Constant (.bool b) j pos) (eC (.bl b)) := pd_c pe_bl fun _ _ => .bl b
theorem pd_non {j} : PD X ct W (.Constant .none j pos) (eC .non) := pd_c pe_non fun _ _ => .non
theorem pd_str {x j} : PD X ct W (.Constant (.str x) j pos) (eC (.str x)) := pd_c pe_str fun _ _ => .str x

/-- what a rule by values wants, from a function on data -/
def OpD (K : PySem.W.Frag) (ct : String → Addr) (r : R2) (g : D → D → Hd → R D) : Prop := ∀ (W : WX) σ io H A x y d e Q, HR K ct io H A → DR K ct io H x d → DR K ct io H y e → Post K ct (DR K ct) W σ io H (g d e A) Q → r x y H Q
def UnD (K : PySem.W.Frag) (ct : String → Addr) (r : V → Hp → VK → Prop) (g : D → Hd → R D) : Prop := ∀ (W : WX) σ io H A x d Q, HR K ct io H A → DR K ct io H x d → Post K ct (DR K ct) W σ io H (g d A) Q → r x H Q
def CaD (K : PySem.W.Frag) (ct : String → Addr) (r : List V → Hp → VK → Prop) (g : List D → Hd → R D) : Prop := ∀ (W : WX) σ io H A xs ds Q, HR K ct io H A → DRs K ct io H xs ds → Post K ct (DR K ct) W σ io H (g ds A) Q → r xs H Q

theorem tOp_D {K : PySem.W.Frag} {r : R2} {g : D → D → Hd → R D} (o : OpD K ct r g) {σ : L2.St} {H : Hp} {Q : VK} (h : tD K ct W (eBin g fa fb) σ H Q) : tOp r (tD K ct W fa) (tD K ct W fb) σ H Q := by
  obtain ⟨io, A, ro, s, p⟩ := h
  refine ⟨io, A, ro, s, (p.bind (rep := DR K ct)).mono ?_⟩
  rintro v H1 ⟨io1, A1, d, e1, h1, r1, p1⟩
  refine ⟨io1, A1, ro, s.mono e1 h1, (p1.bind (rep := DR K ct)).mono ?_⟩
  rintro w H2 ⟨io2, A2, d2, e2, h2, r2, p2⟩
  exact o W σ io2 H2 A2 v w d d2 Q h2 (r1.mono e2 h1.noT) r2 p2
theorem tUn_D {K : PySem.W.Frag} {r : V → Hp → VK → Prop} {g : D → Hd → R D} (o : UnD K ct r g) {σ : L2.St} {H : Hp} {Q : VK} (h : tD K ct W (eUn g fa) σ H Q) : tUn r (tD K ct W fa) σ H Q := by
  obtain ⟨io, A, ro, s, p⟩ := h
  refine ⟨io, A, ro, s, (p.bind (rep := DR K ct)).mono ?_⟩
  rintro v H1 ⟨io1, A1, d, e1, h1, r1, p1⟩
  exact o W σ io1 H1 A1 v d Q h1 r1 p1
theorem tCB_D {K : PySem.W.Frag} {r : List V → Hp → VK → Prop} {g : List D → Hd → R D} (o : CaD K ct r g) {fl : AF} {σ : L2.St} {H : Hp} {Q : VK} (h : tD K ct W (eArgs g fl) σ H Q) : tCB r (tL K ct W fl) σ H Q := by
  obtain ⟨io, A, ro, s, p⟩ := h
  refine ⟨io, A, ro, s, (p.bind (rep := DRs K ct)).mono ?_⟩
  rintro v H1 ⟨io1, A1, d, e1, h1, r1, p1⟩
  exact o W σ io1 H1 A1 v d Q h1 r1 p1

theorem pd_op {op : Operator} {r : R2} {g : D → D → Hd → R D} (ho : OpR X (binaryOp op) r) (o : OpD X.K ct r g) (ha : PD X ct W a fa) (hb : PD X ct W b fb) : PD X ct W (.BinOp a op b pos) (eBin g fa fb) :=
  pe_mono (pe_op ho ha hb) fun _ _ _ h => tOp_D o h
theorem pd_cmp {op : CmpOp} {r : R2} {g : D → D → Hd → R D} (ho : OpR X (compareOp op) r) (o : OpD X.K ct r g) (ha : PD X ct W a fa) (hb : PD X ct W b fb) (hm : behindInMarks op b = false) : PD X ct W (.Compare a [op] [b] pos) (eBin g fa fb) :=
  pe_mono (pe_cmpR ho ha hb hm) fun _ _ _ h => tOp_D o h
theorem pd_un {op : UnaryOp} {r : V → Hp → VK → Prop} {g : D → Hd → R D} (ho : UnR X (unaryOp op) r) (o : UnD X.K ct r g) (ha : PD X ct W a fa) : PD X ct W (.UnaryOp op a pos) (eUn g fa) :=
  pe_mono (pe_un ho ha) fun _ _ _ h => tUn_D o h
theorem pd_ix {r : R2} {g : D → D → Hd → R D} (ho : IxR X r) (o : OpD X.K ct r g) (ha : PD X ct W a fa) (hb : PD X ct W b fb) (hs : PlainIx b) : PD X ct W (.Subscript a b pos) (eBin g fa fb) :=
  pe_mono (pe_ix ho ha hb hs) fun _ _ _ h => tOp_D o h
theorem pd_callB {x : Str} {p : Pos} {es : List Expr} {fl : AF} {id : String} {r : List V → Hp → VK → Prop} {g : List D → Hd → R D} (hc : CallR X (.builtin id) r) (o : CaD X.K ct r g) (hg : Gl X x) (hm : X.mg x = none) (hv : bootBuiltins x = some (.builtin id)) (ha : PDa X ct W (e :: es) fl)
    (hn : x ≠ "__name__" := by decide) (hdb : (x == ("__debug__" : Str)) = false := by decide) (he : starEach (e :: es) X.env = (false, eval e X.env) :: starEach es X.env := by rfl) (hpl : (backTo pos (starEach es X.env)).any (·.1) = false := by rfl) :
    PD X ct W (.Call (.Name x p) (e :: es) [] pos) (eArgs g fl) := pe_mono (pe_callB hc hg hm hv ha hn hdb he hpl) fun _ _ _ h => tCB_D o h
theorem pd_callTy {x : Str} {p : Pos} {es : List Expr} {fl : AF} {T : String} {r : List V → Hp → VK → Prop} {g : List D → Hd → R D} (hc : CallR X (.type T) r) (o : CaD X.K ct r g) (hg : Gl X x) (hm : X.mg x = none) (hv : bootBuiltins x = some (.type T)) (ha : PDa X ct W (e :: es) fl)
    (hn : x ≠ "__name__" := by decide) (hdb : (x == ("__debug__" : Str)) = false := by decide) (he : starEach (e :: es) X.env = (false, eval e X.env) :: starEach es X.env := by rfl) (hpl : (backTo pos (starEach es X.env)).any (·.1) = false := by rfl) :
    PD X ct W (.Call (.Name x p) (e :: es) [] pos) (eArgs g fl) := pe_mono (pe_callTy hc hg hm hv ha hn hdb he hpl) fun _ _ _ h => tCB_D o h

theorem pda_nil : PDa X ct W [] aNil := pa_mono pa_nil fun σ H Q ⟨io, A, ro, s, p⟩ => p.here s.hr .nil
theorem pda_cons {es : List Expr} {fl : AF} (ha : PD X ct W e fa) (hl : PDa X ct W es fl) (he : starEach (e :: es) X.env = (false, eval e X.env) :: starEach es X.env := by rfl) : PDa X ct W (e :: es) (aCons fa fl) :=
  pa_mono (pa_cons ha hl he) fun σ H Q ⟨io, A, ro, s, p⟩ => by
    refine ⟨io, A, ro, s, (p.bind (rep := DR X.K ct)).mono ?_⟩
    rintro v H1 ⟨io1, A1, d, e1, h1, r1, p1⟩
    refine ⟨io1, A1, ro, s.mono e1 h1, (p1.bind (rep := DRs X.K ct)).mono ?_⟩
    rintro w H2 ⟨io2, A2, d2, e2, h2, r2, p2⟩
    exact p2.here h2 (.cons (r1.mono e2 h1.noT) r2)
def tTupF (t : TA) : TE := fun σ H Q => t σ H fun xs H1 => xs.length ≤ sizeLine ∧ ∀ (p : Addr) (o : Obj), o.dict = none → H1 p = none → Q (.ref p) (upd H1 p (.frz o (.tup xs)))
theorem pe_tupF {es : List Expr} {k : Nat} {t : TA} (h : PA X es t) : PE X (.Tuple es k pos) (tTupF t) := by
  refine ⟨fun pins s σ H Q I hq => ?_⟩
  refine wpAny_Tuple_spliced (thn (h.run pos pins s σ H _ I hq) fun us s1 ⟨xs, H1, I1, r, z, q⟩ => ⟨by rw [← r.length]; exact z, ?_⟩)
  have nn : H1 s1.heap.objs.size = none := I1.hok.fresh (Nat.le_refl _)
  have get : (s1.heap.push ({ cls := .type "tuple", data := .seq us.toArray } : Obj)).get? s1.heap.objs.size = some { cls := .type "tuple", data := .seq us.toArray } := Heap.get?_push_size _ rfl
  exact ⟨.ref s1.heap.objs.size, _, I1.laid (t' := s1.toks) (o := .frz { cls := .type "tuple", data := .seq us.toArray } (.tup xs)) (fun b u e => Heap.get?_push_of_some _ e) (Nat.le_refl _) ⟨get, z, us, r, ⟨_, get, rfl, _, rfl⟩⟩, rfl, q _ _ rfl nn⟩
theorem pd_tup {es : List Expr} {k : Nat} {fl : AF} (h : PDa X ct W es fl) : PD X ct W (.Tuple es k pos) (eArgs gTupD fl) :=
  pe_mono (pe_tupF h) fun σ H Q ⟨io, A, ro, s, p⟩ => by
    refine ⟨io, A, ro, s, (p.bind (rep := DRs X.K ct)).mono ?_⟩
    rintro v H1 ⟨io1, A1, d, e1, h1, r1, p1⟩
    unfold gTupD at p1
    split at p1
    · rename_i hz
      exact ⟨by rw [r1.length]; exact hz, fun q o ho hq => p1.new h1 hq (.newTup h1 hq ho r1)⟩
    · exact p1.elim
theorem pd_lst {es : List Expr} {fl : AF} (h : PDa X ct W es fl) : PD X ct W (.List es pos) (eArgs gLstD fl) :=
  pe_mono (pe_lst h) fun σ H Q ⟨io, A, ro, s, p⟩ => by
    refine ⟨io, A, ro, s, (p.bind (rep := DRs X.K ct)).mono ?_⟩
    rintro v H1 ⟨io1, A1, d, e1, h1, r1, p1⟩
    unfold gLstD at p1
    split at p1
    · rename_i hz
      exact ⟨by rw [r1.length]; exact hz, fun q hq => p1.new h1 hq (.newLst h1 hq r1)⟩
    · exact p1.elim

/-! ### a new numbered object -/
theorem Ext.num {io : Io} {H : Hp} {p : Addr} {o : HO} (n : H p = none) : Ext io H (io.add p) (upd H p o) := by
  refine ⟨⟨[p], rfl⟩, fun _ h => h, fun _ h => .inl h, fun b h k => ?_, fun b x e k => ?_, fun b x e => ⟨x, ?_⟩, fun b o u e => by rw [upd_ne (ne_of_none e n)]; exact e⟩
  · rcases List.mem_append.mp h with h | h
    · exact absurd h k
    · rw [List.mem_singleton.mp h]; exact n
  · rw [upd_ne (ne_of_none e n)]; exact e
  · rw [upd_ne (ne_of_none e n)]; exact e
theorem HR.num {K : PySem.W.Frag} {io : Io} {H : Hp} {A : Hd} {p : Addr} {o : HO} {m : M} (h : HR K ct io H A) (n : H p = none) (hm : MR K ct (io.add p) (upd H p o) p m) : HR K ct (io.add p) (upd H p o) (A ++ [m]) := by
  refine ⟨?_, by show (io.nm ++ [p]).length = _; rw [List.length_append, List.length_append, h.len]; rfl, fun k a m' e1 e2 => ?_, fun a ha => ?_⟩
  · show (io.nm ++ [p]).Nodup
    rw [List.nodup_append]
    refine ⟨h.nd, (by simp), fun a ha b hb => ?_⟩
    rw [List.mem_singleton.mp hb]
    rintro rfl
    exact h.ne n (.inl ha)
  · have e1 : (io.nm ++ [p])[k]? = some a := e1
    by_cases hk : k < io.nm.length
    · rw [List.getElem?_append_left hk] at e1
      rw [List.getElem?_append_left (by rw [← h.len]; exact hk)] at e2
      exact (h.at_ k a m' e1 e2).mono (Ext.num n) h.noT fun o' e => by rw [upd_ne (ne_of_none e n)]; exact e
    · rw [List.getElem?_append_right (by omega)] at e1
      rw [List.getElem?_append_right (by rw [← h.len]; omega)] at e2
      have l1 := (List.getElem?_eq_some_iff.mp e1).1
      have hk0 : k - io.nm.length = 0 := by simpa using l1
      have hk1 : k - A.length = 0 := by rw [← h.len]; exact hk0
      rw [hk0] at e1
      rw [hk1] at e2
      cases e1
      cases e2
      exact hm
  · obtain ⟨h1, xs, h2⟩ := h.hid a ha
    have hp : a ≠ p := ne_of_none h2 n
    refine ⟨fun z => ?_, xs, by rw [upd_ne hp]; exact h2⟩
    rcases List.mem_append.mp z with z | z
    · exact h1 z
    · exact hp (List.mem_singleton.mp z)
theorem pd_lstM {es : List Expr} {fl : AF} (h : PDa X ct W es fl) : PD X ct W (.List es pos) (eArgs gLstM fl) :=
  pe_mono (pe_lst h) fun σ H Q ⟨io, A, ro, s, p⟩ => by
    refine ⟨io, A, ro, s, (p.bind (rep := DRs X.K ct)).mono ?_⟩
    rintro v H1 ⟨io1, A1, d, e1, h1, r1, p1⟩
    unfold gLstM at p1
    split at p1
    · rename_i hz
      refine ⟨by rw [r1.length]; exact hz, fun q hq => ?_⟩
      refine p1 _ (io1.add q) _ (Ext.num hq) (h1.num hq ⟨_, upd_same, r1.mono (Ext.num hq) h1.noT⟩) (.ref ?_)
      show (io1.nm ++ [q])[A1.length]? = some q
      rw [← h1.len]
      simp
    · exact p1.elim

/-! ### truth, and, or, not, if -/
theorem tru_D {K : PySem.W.Frag} {io : Io} {H : Hp} {A : Hd} {v : V} {d : D} {b : Bool} (h : HR K ct io H A) (r : DR K ct io H v d) (e : truD d A = some b) : TruV K v H b := by
  cases r with
  | non => cases e; rfl
  | bl c => cases e; rfl
  | int i => cases e; rfl
  | str x =>
    unfold truD at e
    dsimp only at e
    split at e
    · rename_i hz
      cases e
      refine ⟨hz, ?_⟩
      cases hx : x.length with
      | zero => rfl
      | succ n => rfl
    · cases e
  | tup q rs => cases e; exact .inr (.inl ⟨_, q.sq, by rw [rs.isEmpty]⟩)
  | lst n q rs => cases e; exact .inl ⟨_, SqL.of q, by rw [rs.isEmpty]⟩
  | scr q rs => cases e; exact .inl ⟨_, q.sq, by rw [rs.isEmpty]⟩
  | dic n q k rs => cases e; exact .inr (.inr ⟨_, q, by rw [keys_isEmpty k]⟩)
  | ref q =>
    obtain ⟨m, hm⟩ := h.has q
    have mr := h.get q hm
    unfold truD at e
    dsimp only at e
    rw [hm] at e
    cases m with
    | lst ds => cases e; obtain ⟨xs, q1, rs⟩ := mr; exact .inl ⟨_, SqL.of q1, by rw [rs.isEmpty]⟩
    | dic es => cases e; obtain ⟨kvs, q1, k, rs⟩ := mr; exact .inr (.inr ⟨_, q1, by rw [keys_isEmpty k]⟩)
    | ins c fs => cases e
    | exc c fs => cases e
    | tab es => cases e
  | ty n => cases e
  | own n => cases e
theorem gTru_ok {d : D} {A A1 : Hd} {c : Bool} (e : gTru d A = .ok c A1) : truD d A = some c ∧ A1 = A := by
  unfold gTru at e
  cases h : truD d A with
  | none => rw [h] at e; cases e
  | some b => rw [h] at e; cases e; exact ⟨rfl, rfl⟩
theorem gTru_post {α β : Type} {rep : Io → Hp → β → α → Prop} {K : PySem.W.Frag} {σ : L2.St} {io : Io} {H : Hp} {A : Hd} {d : D} {k : Bool → Hd → R α} {Q : β → Hp → Prop} (p : Post K ct rep W σ io H ((gTru d A).bind k) Q) :
    ∃ c, truD d A = some c ∧ Post K ct rep W σ io H (k c A) Q := by
  unfold gTru at p
  cases h : truD d A with
  | none => rw [h] at p; exact p.elim
  | some b => rw [h] at p; exact ⟨b, rfl, p⟩

theorem pdt_truth (h : PD X ct W e fa) (he : ∀ whole, isTrue e X.env whole = (do let v ← whole; standAt e.pos; holding [v] (truthy v)) := by intro _; rfl) : PDt X ct W e (tOfE fa) :=
  pt_mono (pt_truth h he) fun σ H Q ⟨io, A, ro, s, p⟩ => by
    refine ⟨io, A, ro, s, (p.bind (rep := DR X.K ct)).mono ?_⟩
    rintro v H1 ⟨io1, A1, d, e1, h1, r1, p1⟩
    rw [show gTru d A1 = (gTru d A1).bind (fun c A => .ok c A) by cases gTru d A1 <;> rfl] at p1
    obtain ⟨c, hc, p2⟩ := gTru_post p1
    exact ⟨c, tru_D h1 r1 hc, p2.here h1 rfl⟩
theorem pt_of_pe {t : TE} (he : PT X e (tTest t)) {f : EF} (m : ∀ σ H Q, tD X.K ct W f σ H Q → t σ H Q) : PDt X ct W e (fun ro A => (f ro A).bind gBool) :=
  pt_mono he fun σ H Q ⟨io, A, ro, s, p⟩ => m _ _ _ ⟨io, A, ro, s, (p.bind (rep := DR X.K ct)).mono fun v H1 ⟨io1, A1, d, e1, h1, r1, p1⟩ => by
    cases r1 with
    | bl c => exact ⟨c, rfl, p1.here h1 rfl⟩
    | _ => exact p1.elim⟩
def tCmpD (g : D → D → Hd → R D) (a b : EF) : TF := fun ro A => (eBin g a b ro A).bind gBool
theorem pdt_cmp {op : CmpOp} {r : R2} {g : D → D → Hd → R D} (ho : OpR X (compareOp op) r) (o : OpD X.K ct r g) (ha : PD X ct W a fa) (hb : PD X ct W b fb) (hm : behindInMarks op b = false) : PDt X ct W (.Compare a [op] [b] pos) (tCmpD g fa fb) :=
  pt_of_pe (pt_cmpR ho ha hb hm) fun _ _ _ h => tOp_D o h
/-- a < b < c -/
def eChain (g g' : D → D → Hd → R D) (a b c : EF) : EF := fun ro A => (a ro A).bind fun x A1 => (b ro A1).bind fun y A2 => (g x y A2).bind fun z A3 => (gBool z A3).bind fun k A4 =>
  if k then (c ro A4).bind fun w A5 => g' y w A5 else .ok (.bl false) A4
theorem chain_D {K : PySem.W.Frag} {r r' : R2} {g g' : D → D → Hd → R D} (o : OpD K ct r g) (o' : OpD K ct r' g') {fc : EF} {σ : L2.St} {H : Hp} {Q : VK} (h : tD K ct W (eChain g g' fa fb fc) σ H Q) : tChain r r' (tD K ct W fa) (tD K ct W fb) (tD K ct W fc) σ H Q := by
  obtain ⟨io, A, ro, s, p⟩ := h
  refine ⟨io, A, ro, s, (p.bind (rep := DR K ct)).mono ?_⟩
  rintro v H1 ⟨io1, A1, d, e1, h1, r1, p1⟩
  refine ⟨io1, A1, ro, s.mono e1 h1, (p1.bind (rep := DR K ct)).mono ?_⟩
  rintro w H2 ⟨io2, A2, d2, e2, h2, r2, p2⟩
  refine o W σ io2 H2 A2 v w d d2 _ h2 (r1.mono e2 h1.noT) r2 ((p2.bind (rep := DR K ct)).mono ?_)
  rintro z H3 ⟨io3, A3, d3, e3, h3, r3, p3⟩
  cases r3 with
  | bl k =>
    refine ⟨k, rfl, ?_⟩
    cases k with
    | false => exact p3.here h3 (.bl false)
    | true =>
      refine ⟨io3, A3, ro, ((s.mono e1 h1).mono e2 h2).mono e3 h3, (Post.bind (rep := DR K ct) p3).mono ?_⟩
      rintro u H4 ⟨io4, A4, d4, e4, h4, r4, p4⟩
      exact o' W σ io4 H4 A4 w u d2 d4 _ h4 ((r2.mono e3 h2.noT).mono e4 h3.noT) r4 p4
  | _ => exact p3.elim
theorem pd_chain {c : Expr} {fc : EF} {op op' : CmpOp} {r r' : R2} {g g' : D → D → Hd → R D} (ho : OpR X (compareOp op) r) (o : OpD X.K ct r g) (ho' : OpR X (compareOp op') r') (o' : OpD X.K ct r' g') (ha : PD X ct W a fa) (hb : PD X ct W b fb) (hc : PD X ct W c fc) (hm : lastMarks [op, op'] [b, c] = false := by with_unfolding_all rfl) :
    PD X ct W (.Compare a [op, op'] [b, c] pos) (eChain g g' fa fb fc) := pe_mono (pe_chain ho ho' ha hb hc hm) fun _ _ _ h => chain_D o o' h
theorem pdt_chain {c : Expr} {fc : EF} {op op' : CmpOp} {r r' : R2} {g g' : D → D → Hd → R D} (ho : OpR X (compareOp op) r) (o : OpD X.K ct r g) (ho' : OpR X (compareOp op') r') (o' : OpD X.K ct r' g') (ha : PD X ct W a fa) (hb : PD X ct W b fb) (hc : PD X ct W c fc) (hm : lastMarks [op, op'] [b, c] = false := by with_unfolding_all rfl) :
    PDt X ct W (.Compare a [op, op'] [b, c] pos) (fun ro A => (eChain g g' fa fb fc ro A).bind gBool) := pt_of_pe (pt_chain ho ho' ha hb hc hm) fun _ _ _ h => chain_D o o' h

theorem pdt_not (h : PDt X ct W e ft) : PDt X ct W (.UnaryOp .Not e pos) (tNotD ft) :=
  pt_mono (pt_not h) fun σ H Q ⟨io, A, ro, s, p⟩ => ⟨io, A, ro, s, (p.bind (rep := repB)).mono fun c H1 ⟨io1, A1, d, e1, h1, r1, p1⟩ => by
    rw [show c = d from r1]
    exact p1.here h1 rfl⟩
theorem pdw_and1 (h : PDt X ct W e ft) : PDw X ct W (.BoolOp .And [e] pos) ft := pw_and1 h
theorem pdw_or1 (h : PDt X ct W e ft) : PDw X ct W (.BoolOp .Or [e] pos) ft := pw_or1 h
theorem pdw_and {rest : List Expr} (ha : PDt X ct W a ft) (hb : PDw X ct W (.BoolOp .And (b :: rest) pos) fu) : PDw X ct W (.BoolOp .And (a :: b :: rest) pos) (tAndD ft fu) :=
  pw_mono (pw_and ha hb) fun σ H Q ⟨io, A, ro, s, p⟩ => ⟨io, A, ro, s, (p.bind (rep := repB)).mono fun c H1 ⟨io1, A1, d, e1, h1, r1, p1⟩ => by
    rw [show c = d from r1]
    cases d with
    | true => exact ⟨io1, A1, ro, s.mono e1 h1, p1⟩
    | false => exact p1.here h1 rfl⟩
theorem pdw_or {rest : List Expr} (ha : PDt X ct W a ft) (hb : PDw X ct W (.BoolOp .Or (b :: rest) pos) fu) : PDw X ct W (.BoolOp .Or (a :: b :: rest) pos) (tOrD ft fu) :=
  pw_mono (pw_or ha hb) fun σ H Q ⟨io, A, ro, s, p⟩ => ⟨io, A, ro, s, (p.bind (rep := repB)).mono fun c H1 ⟨io1, A1, d, e1, h1, r1, p1⟩ => by
    rw [show c = d from r1]
    cases d with
    | false => exact ⟨io1, A1, ro, s.mono e1 h1, p1⟩
    | true => exact p1.here h1 rfl⟩
theorem pdw_t (h : PDw X ct W e ft) : PDt X ct W e ft := h.pt
theorem pd_and {rest : List Expr} (ha : PD X ct W a fa) (hb : PD X ct W (.BoolOp .And (b :: rest) pos) fb) : PD X ct W (.BoolOp .And (a :: b :: rest) pos) (eAndD fa fb) :=
  pe_mono (pe_andT ha hb) fun σ H Q ⟨io, A, ro, s, p⟩ => ⟨io, A, ro, s, (p.bind (rep := DR X.K ct)).mono fun v H1 ⟨io1, A1, d, e1, h1, r1, p1⟩ => by
    obtain ⟨c, hc, p2⟩ := gTru_post p1
    refine ⟨c, tru_D h1 r1 hc, ?_⟩
    cases c with
    | true => exact ⟨io1, A1, ro, s.mono e1 h1, p2⟩
    | false => exact p2.here h1 r1⟩
theorem pd_or {rest : List Expr} (ha : PD X ct W a fa) (hb : PD X ct W (.BoolOp .Or (b :: rest) pos) fb) : PD X ct W (.BoolOp .Or (a :: b :: rest) pos) (eOrD fa fb) :=
  pe_mono (pe_orT ha hb) fun σ H Q ⟨io, A, ro, s, p⟩ => ⟨io, A, ro, s, (p.bind (rep := DR X.K ct)).mono fun v H1 ⟨io1, A1, d, e1, h1, r1, p1⟩ => by
    obtain ⟨c, hc, p2⟩ := gTru_post p1
    refine ⟨c, tru_D h1 r1 hc, ?_⟩
    cases c with
    | false => exact ⟨io1, A1, ro, s.mono e1 h1, p2⟩
    | true => exact p2.here h1 r1⟩
theorem pd_one {op} (h : PD X ct W a fa) : PD X ct W (.BoolOp op [a] pos) fa := pe_one h
theorem pd_not (ha : PD X ct W a fa) : PD X ct W (.UnaryOp .Not a pos) (eNotD fa) :=
  pe_mono (pe_notT ha) fun σ H Q ⟨io, A, ro, s, p⟩ => ⟨io, A, ro, s, (p.bind (rep := DR X.K ct)).mono fun v H1 ⟨io1, A1, d, e1, h1, r1, p1⟩ => by
    obtain ⟨c, hc, p2⟩ := gTru_post p1
    exact ⟨c, tru_D h1 r1 hc, p2.here h1 (.bl _)⟩⟩
theorem pd_if {c : Expr} (hc : PDt X ct W c ft) (ha : PD X ct W a fa) (hb : PD X ct W b fb) : PD X ct W (.IfExp c a b pos) (eIf ft fa fb) :=
  pe_mono (pe_ifExp hc ha hb) fun σ H Q ⟨io, A, ro, s, p⟩ => ⟨io, A, ro, s, (p.bind (rep := repB)).mono fun k H1 ⟨io1, A1, d, e1, h1, r1, p1⟩ => by
    rw [show k = d from r1]
    cases d with
    | true => exact ⟨io1, A1, ro, s.mono e1 h1, p1⟩
    | false => exact ⟨io1, A1, ro, s.mono e1 h1, p1⟩⟩
end
end DV

set_option Elab.async false
set_option linter.all false
set_option maxRecDepth 100000
/-! DvD: operators, comparisons, subscripts, built-in functions by data. -/
namespace DV
open PySem PySem.Spec PyProof.Rows L2
section
variable {K : PySem.W.Frag} {ct : String → Addr} {io : Io} {H : Hp} {A : Hd}

/-- a list by itself or under its number -/
def asL (A : Hd) : D → Option (List D)
  | .lst ds => some ds
  | .ref n => match A[n]? with
    | some (.lst ds) => some ds
    | _ => none
  | _ => none
theorem asL_ok {v : V} {d : D} {ds : List D} (h : HR K ct io H A) (r : DR K ct io H v d) (e : asL A d = some ds) : ∃ a xs, v = .ref a ∧ H a = some (.lst xs) ∧ DRs K ct io H xs ds := by
  cases r with
  | lst n q rs => cases e; exact ⟨_, _, rfl, q, rs⟩
  | ref q =>
    obtain ⟨m, hm⟩ := h.has q
    have mr := h.get q hm
    unfold asL at e
    dsimp only at e
    rw [hm] at e
    cases m with
    | lst es => cases e; obtain ⟨xs, q1, rs⟩ := mr; exact ⟨_, xs, rfl, q1, rs⟩
    | dic es => cases e
    | ins c fs => cases e
    | exc c fs => cases e
    | tab es => cases e
  | _ => cases e
/-- a list that is read (also the script) -/
def asR (A : Hd) : D → Option (List D)
  | .scr ds => some ds
  | d => asL A d
theorem asR_ok {v : V} {d : D} {ds : List D} (h : HR K ct io H A) (r : DR K ct io H v d) (e : asR A d = some ds) : ∃ a xs, v = .ref a ∧ SqL K H a xs ∧ DRs K ct io H xs ds := by
  by_cases hs : ∃ es, d = .scr es
  · obtain ⟨es, rfl⟩ := hs
    cases e
    cases r with
    | scr q rs => exact ⟨_, _, rfl, q.sq, rs⟩
  · have e' : asL A d = some ds := by
      cases d with
      | scr es => exact absurd ⟨es, rfl⟩ hs
      | _ => exact e
    obtain ⟨a, xs, h1, h2, h3⟩ := asL_ok h r e'
    exact ⟨a, xs, h1, SqL.of h2, h3⟩
/-- a list or tuple that is read -/
def asQ (A : Hd) : D → Option (List D)
  | .tup ds => some ds
  | d => asR A d
theorem asQ_ok {v : V} {d : D} {ds : List D} (h : HR K ct io H A) (r : DR K ct io H v d) (e : asQ A d = some ds) : ∃ a xs, v = .ref a ∧ (SqL K H a xs ∨ SqT K H a xs) ∧ DRs K ct io H xs ds := by
  by_cases hs : ∃ es, d = .tup es
  · obtain ⟨es, rfl⟩ := hs
    cases e
    cases r with
    | tup q rs => exact ⟨_, _, rfl, .inr q.sq, rs⟩
  · have e' : asR A d = some ds := by
      cases d with
      | tup es => exact absurd ⟨es, rfl⟩ hs
      | _ => exact e
    obtain ⟨a, xs, h1, h2, h3⟩ := asR_ok h r e'
    exact ⟨a, xs, h1, .inl h2, h3⟩
def asD (A : Hd) : D → Option (List (Key × D))
  | .dic es => some es
  | .ref n => match A[n]? with
    | some (.dic es) => some es
    | _ => none
  | _ => none
theorem asD_ok {v : V} {d : D} {es : List (Key × D)} (h : HR K ct io H A) (r : DR K ct io H v d) (e : asD A d = some es) : ∃ a kvs, v = .ref a ∧ H a = some (.dK kvs) ∧ kvs.map (·.1) = es.map (·.1) ∧ DRs K ct io H (kvs.map (·.2)) (es.map (·.2)) := by
  cases r with
  | dic n q k rs => cases e; exact ⟨_, _, rfl, q, k, rs⟩
  | ref q =>
    obtain ⟨m, hm⟩ := h.has q
    have mr := h.get q hm
    unfold asD at e
    dsimp only at e
    rw [hm] at e
    cases m with
    | dic es => cases e; obtain ⟨xs, q1, k, rs⟩ := mr; exact ⟨_, xs, rfl, q1, k, rs⟩
    | lst es => cases e
    | ins c fs => cases e
    | exc c fs => cases e
    | tab es => cases e
  | _ => cases e

/-! ### arithmetic -/
def gAdd (d e : D) (A : Hd) : R D := match d, e with
  | .int i, .int j => .ok (.int (i + j)) A
  | .str x, .str y => if x.length + y.length ≤ sizeLine then .ok (.str (x ++ y)) A else .stk
  | .tup xs, .tup ys => if xs.length + ys.length ≤ sizeLine then .ok (.tup (xs ++ ys)) A else .stk
  | d, e => match asL A d, asL A e with
    | some xs, some ys => if xs.length + ys.length ≤ sizeLine then .ok (.lst (xs ++ ys)) A else .stk
    | _, _ => .stk
/-- t + u -/
def rCatF (K : PySem.W.Frag) : R2 := fun x y H Q => ∃ a b xs ys, x = .ref a ∧ y = .ref b ∧ SqT K H a xs ∧ SqT K H b ys ∧ xs.length + ys.length ≤ sizeLine ∧
  (xs = [] → Q (.ref b) H) ∧ (xs ≠ [] → ys = [] → Q (.ref a) H) ∧ (xs ≠ [] → ys ≠ [] → ∀ (p : Addr) (o : Obj), o.dict = none → H p = none → Q (.ref p) (upd H p (.frz o (.tup (xs ++ ys)))))
theorem op_catF {X : Cx} : OpR X (binaryOp .Add) (rCatF X.K) := by
  intro pins s σ H x y v u Q I rx ry h
  obtain ⟨a, b, xs, ys, rfl, rfl, ha, hb, hz, q0, q1, q2⟩ := h
  cases rx
  cases ry
  obtain ⟨its, r1, p1, _⟩ := I.tuple ha
  obtain ⟨its2, r2, p2, _⟩ := I.tuple hb
  by_cases hx : xs = []
  · subst hx
    cases r1
    exact cat_tup0 p1 p2 ⟨.ref b, H, I, rfl, q0 rfl⟩
  · refine HT.cat_tup p1 p2 (fun z => hx (r1.nil_iff.mp z)) (fun z => ⟨.ref a, H, I, rfl, q1 hx (r2.nil_iff.mp z)⟩) (fun z => ?_) (by rw [← r1.length, ← r2.length]; exact hz)
    refine ⟨.ref s.heap.objs.size, _, I.laid (t' := s.toks) (o := .frz { cls := .type "tuple", data := .seq (its ++ its2).toArray } (.tup (xs ++ ys))) (fun b ob q => Heap.get?_push_of_some _ q) (Nat.le_refl _) ?_, rfl, q2 hx (fun w => z (r2.nil_iff.mpr w)) _ _ rfl (I.hok.fresh (Nat.le_refl _))⟩
    exact ⟨Heap.get?_push_size _ rfl, by rw [List.length_append]; exact hz, _, r1.append r2, IsTup.new _ _⟩
abbrev rAddX (K : PySem.W.Frag) : R2 := fun x y H Q => (rI0 (fun i j => .int (i + j)) x y H Q ∨ (∃ i j, x = .str i ∧ y = .str j ∧ i.length + j.length ≤ sizeLine ∧ Q (.str (i ++ j)) H)) ∨ (rCatF K x y H Q ∨ rCat x y H Q)
theorem op_addX {X : Cx} : OpR X (binaryOp .Add) (rAddX X.K) := (op_add.or op_add_str).or (op_catF.or op_cat)
theorem gAdd_ok : OpD K ct (rAddX K) gAdd := by
  intro W σ io H A x y d e Q h rx ry p
  unfold gAdd at p
  split at p
  · cases rx; cases ry
    exact .inl (.inl ⟨_, _, rfl, rfl, p.here h (.int _)⟩)
  · cases rx; cases ry
    split at p
    · rename_i hz
      exact .inl (.inr ⟨_, _, rfl, rfl, hz, p.here h (.str _)⟩)
    · exact p.elim
  · rename_i ds es
    cases rx with
    | @tup a xs _ qx rx =>
      cases ry with
      | @tup b ys _ qy ry =>
        split at p
        · rename_i hz
          refine .inr (.inl ⟨_, _, xs, ys, rfl, rfl, qx.sq, qy.sq, by rw [rx.length, ry.length]; exact hz, fun e0 => ?_, fun _ e0 => ?_, fun _ _ q o ho hq => ?_⟩)
          · subst e0
            cases rx
            exact p.here h (.tup qy ry)
          · subst e0
            cases ry
            rw [List.append_nil] at p
            exact p.here h (.tup qx rx)
          · exact p.new h hq (.newTup h hq ho (rx.append ry))
        · exact p.elim
  · split at p
    · rename_i xs ys h1 h2
      obtain ⟨a, us, rfl, q1, r1⟩ := asL_ok h rx h1
      obtain ⟨b, ws, rfl, q2, r2⟩ := asL_ok h ry h2
      split at p
      · rename_i hz
        exact .inr (.inr ⟨a, b, us, ws, rfl, rfl, q1, q2, by rw [r1.length, r2.length]; exact hz, fun q hq => p.new h hq (.newLst h hq (r1.append r2))⟩)
      · exact p.elim
    · exact p.elim
def gSub (d e : D) (A : Hd) : R D := match d, e with
  | .int i, .int j => .ok (.int (i - j)) A
  | _, _ => .stk
theorem gSub_ok : OpD K ct (rI0 fun i j => .int (i - j)) gSub := by
  intro W σ io H A x y d e Q h rx ry p
  unfold gSub at p
  split at p
  · cases rx; cases ry
    exact ⟨_, _, rfl, rfl, p.here h (.int _)⟩
  · exact p.elim
instance (i j : Int) : Decidable (CMul i j) := by unfold CMul; infer_instance
instance (i j : Int) : Decidable (CPow i j) := by unfold CPow; infer_instance
instance (i j : Int) : Decidable (CDivW i j) := by unfold CDivW; infer_instance
def gMul (d e : D) (A : Hd) : R D := match d, e with
  | .int i, .int j => if CMul i j then .ok (.int (i * j)) A else .stk
  | d, .int k => match asL A d with
    | some xs => if -(2 ^ 63) ≤ k ∧ k < 2 ^ 63 ∧ xs.length * k.toNat ≤ sizeLine then .ok (.lst (List.replicate k.toNat xs).flatten) A else .stk
    | none => .stk
  | _, _ => .stk
abbrev rMulX : R2 := fun x y H Q => rI CMul (fun i j => .int (i * j)) x y H Q ∨ rRep x y H Q
theorem op_mulX {X : Cx} : OpR X (binaryOp .Mult) rMulX := op_mul.or op_rep
theorem DRs.flatrep {vs : List V} {ds : List D} (h : DRs K ct io H vs ds) : ∀ n : Nat, DRs K ct io H (List.replicate n vs).flatten (List.replicate n ds).flatten
  | 0 => .nil
  | n + 1 => by
    rw [List.replicate_succ, List.replicate_succ, List.flatten_cons, List.flatten_cons]
    exact h.append (DRs.flatrep h n)
theorem gMul_ok : OpD K ct rMulX gMul := by
  intro W σ io H A x y d e Q h rx ry p
  unfold gMul at p
  split at p
  · cases rx; cases ry
    split at p
    · rename_i hz
      exact .inl ⟨_, _, rfl, rfl, hz, p.here h (.int _)⟩
    · exact p.elim
  · cases ry
    split at p
    · rename_i xs h1
      obtain ⟨a, us, rfl, q1, r1⟩ := asL_ok h rx h1
      split at p
      · rename_i hz
        exact .inr ⟨a, _, us, rfl, rfl, q1, hz.1, hz.2.1, by rw [r1.length]; exact hz.2.2, fun q hq => p.new h hq (.newLst h hq (r1.flatrep _))⟩
      · exact p.elim
    · exact p.elim
  · exact p.elim
def gDiv (d e : D) (A : Hd) : R D := match d, e with
  | .int i, .int j => if CDivW i j then .ok (.int (i / j)) A else .stk
  | _, _ => .stk
theorem gDiv_ok : OpD K ct (rI CDivW fun i j => .int (i / j)) gDiv := by
  intro W σ io H A x y d e Q h rx ry p
  unfold gDiv at p
  split at p
  · cases rx; cases ry
    split at p
    · rename_i hz
      exact ⟨_, _, rfl, rfl, hz, p.here h (.int _)⟩
    · exact p.elim
  · exact p.elim
def gMod (d e : D) (A : Hd) : R D := match d, e with
  | .int i, .int j => if 0 < j then .ok (.int (i % j)) A else .stk
  | _, _ => .stk
theorem gMod_ok : OpD K ct (rI (fun _ j => 0 < j) fun i j => .int (i % j)) gMod := by
  intro W σ io H A x y d e Q h rx ry p
  unfold gMod at p
  split at p
  · cases rx; cases ry
    split at p
    · rename_i hz
      exact ⟨_, _, rfl, rfl, hz, p.here h (.int _)⟩
    · exact p.elim
  · exact p.elim
def gPow (d e : D) (A : Hd) : R D := match d, e with
  | .int i, .int j => if CPow i j then .ok (.int (i ^ j.toNat)) A else .stk
  | _, _ => .stk
theorem gPow_ok : OpD K ct (rI CPow fun i j => .int (i ^ j.toNat)) gPow := by
  intro W σ io H A x y d e Q h rx ry p
  unfold gPow at p
  split at p
  · cases rx; cases ry
    split at p
    · rename_i hz
      exact ⟨_, _, rfl, rfl, hz, p.here h (.int _)⟩
    · exact p.elim
  · exact p.elim
def gNeg (d : D) (A : Hd) : R D := match d with
  | .int i => .ok (.int (-i)) A
  | _ => .stk
theorem gNeg_ok : UnD K ct (rU fun i => .int (-i)) gNeg := by
  intro W σ io H A x d Q h rx p
  unfold gNeg at p
  split at p
  · cases rx
    exact ⟨_, rfl, p.here h (.int _)⟩
  · exact p.elim

/-! ### comparisons -/
def gLtL (cmpI : Int → Int → Bool) (cmpS : List Nat → List Nat → Bool) (d e : D) (A : Hd) : R D := match d, e with
  | .int i, .int j => .ok (.bl (cmpI i j)) A
  | .str x, .str y => .ok (.bl (cmpS x.cps.toList y.cps.toList)) A
  | _, _ => .stk
abbrev rLtL (cmpI : Int → Int → Bool) (cmpS : List Nat → List Nat → Bool) : R2 := fun x y H Q => rI0 (fun i j => .bl (cmpI i j)) x y H Q ∨ ∃ i j, x = .str i ∧ y = .str j ∧ Q (.bl (cmpS i.cps.toList j.cps.toList)) H
theorem gLtL_ok {cmpI : Int → Int → Bool} {cmpS : List Nat → List Nat → Bool} : OpD K ct (rLtL cmpI cmpS) (gLtL cmpI cmpS) := by
  intro W σ io H A x y d e Q h rx ry p
  unfold gLtL at p
  split at p
  · cases rx; cases ry
    exact .inl ⟨_, _, rfl, rfl, p.here h (.bl _)⟩
  · cases rx; cases ry
    exact .inr ⟨_, _, rfl, rfl, p.here h (.bl _)⟩
  · exact p.elim
abbrev gLt := gLtL (fun i j => decide (i < j)) (fun a b => decide (a < b))
abbrev gLe := gLtL (fun i j => decide (i ≤ j)) (fun a b => !decide (b < a))
abbrev gGt := gLtL (fun i j => decide (j < i)) (fun a b => decide (b < a))
abbrev gGe := gLtL (fun i j => decide (j ≤ i)) (fun a b => !decide (a < b))
theorem op_ltX {X : Cx} : OpR X (compareOp .Lt) (rLtL (fun i j => decide (i < j)) (fun a b => decide (a < b))) := op_lt.or op_lt_str
theorem op_leX {X : Cx} : OpR X (compareOp .LtE) (rLtL (fun i j => decide (i ≤ j)) (fun a b => !decide (b < a))) := op_le.or op_le_str
theorem op_gtX {X : Cx} : OpR X (compareOp .Gt) (rLtL (fun i j => decide (j < i)) (fun a b => decide (b < a))) := op_gt.or op_gt_str
theorem op_geX {X : Cx} : OpR X (compareOp .GtE) (rLtL (fun i j => decide (j ≤ i)) (fun a b => !decide (a < b))) := op_ge.or op_ge_str

mutual
def toP : D → Option PyData
  | .non => some .none
  | .bl b => some (.bool b)
  | .int i => some (.int i)
  | .str s => some (.str s)
  | .tup ds => match toPs ds with
    | some ps => some (.tuple ps)
    | none => none
  | .lst ds => match toPs ds with
    | some ps => some (.list ps)
    | none => none
  | .scr ds => match toPs ds with
    | some ps => some (.list ps)
    | none => none
  | .dic _ => none
  | .ref _ => none
  | .cls _ => none
def toPs : List D → Option (List PyData)
  | [] => some []
  | d :: ds => match toP d, toPs ds with
    | some p, some ps => some (p :: ps)
    | _, _ => none
end
mutual
theorem toP_ok : ∀ {v : V} {d : D} {p : PyData}, DR K ct io H v d → toP d = some p → Dp K H v p
  | _, _, _, .non, e => by unfold toP at e; cases e; exact .non
  | _, _, _, .bl b, e => by unfold toP at e; cases e; exact .bl b
  | _, _, _, .int i, e => by unfold toP at e; cases e; exact .int i
  | _, _, _, .str x, e => by unfold toP at e; cases e; exact .str x
  | _, _, _, .tup q rs, e => by
    unfold toP at e
    split at e
    · rename_i ps h; cases e; exact .tup q.sq (toPs_ok rs h)
    · cases e
  | _, _, _, .lst n q rs, e => by
    unfold toP at e
    split at e
    · rename_i ps h; cases e; exact .lst (SqL.of q) (toPs_ok rs h)
    · cases e
  | _, _, _, .scr q rs, e => by
    unfold toP at e
    split at e
    · rename_i ps h; cases e; exact .lst q.sq (toPs_ok rs h)
    · cases e
  | _, _, _, .dic _ _ _ _, e => by unfold toP at e; cases e
  | _, _, _, .ref _, e => by unfold toP at e; cases e
  | _, _, _, .ty _, e => by unfold toP at e; cases e
  | _, _, _, .own _, e => by unfold toP at e; cases e
theorem toPs_ok : ∀ {vs : List V} {ds : List D} {ps : List PyData}, DRs K ct io H vs ds → toPs ds = some ps → DpAll K H vs ps
  | _, _, _, .nil, e => by unfold toPs at e; cases e; exact .nil
  | _, _, _, .cons r rs, e => by
    unfold toPs at e
    split at e
    · rename_i p ps h1 h2; cases e; exact .cons (toP_ok r h1) (toPs_ok rs h2)
    · cases e
end
/-- a numbered list as the list that it is now -/
def deR (A : Hd) : D → D
  | .ref n => match A[n]? with
    | some (.lst ds) => .lst ds
    | _ => .ref n
  | d => d
theorem deR_ne {d : D} (h : ∀ n, d ≠ .ref n) : deR A d = d := by
  cases d with
  | ref n => exact absurd rfl (h n)
  | _ => rfl
theorem deR_ok {v : V} {d : D} {p : PyData} (h : HR K ct io H A) (r : DR K ct io H v d) (e : toP (deR A d) = some p) : Dp K H v p := by
  by_cases hd : ∃ n, d = .ref n
  · obtain ⟨n, rfl⟩ := hd
    cases r with
    | ref q =>
    obtain ⟨m, hm⟩ := h.has q
    have mr := h.get q hm
    unfold deR at e
    dsimp only at e
    rw [hm] at e
    cases m with
    | lst es =>
      obtain ⟨xs, q1, rs⟩ := mr
      dsimp only at e
      unfold toP at e
      split at e
      · rename_i ps h1; cases e; exact .lst (SqL.of q1) (toPs_ok rs h1)
      · cases e
    | dic es => dsimp only at e; unfold toP at e; cases e
    | ins c fs => dsimp only at e; unfold toP at e; cases e
    | exc c fs => dsimp only at e; unfold toP at e; cases e
    | tab es => dsimp only at e; unfold toP at e; cases e
  · rw [deR_ne fun n z => hd ⟨n, z⟩] at e
    exact toP_ok r e
def eqP (A : Hd) (d e : D) : Option Bool := match toP (deR A d), toP (deR A e) with
  | some p, some q => if SeqAt.shaped p = true ∧ SeqAt.shaped q = true then some (PyData.eqv p q) else none
  | _, _ => none
def gEq (d e : D) (A : Hd) : R D := match d, e with
  | .str x, .str y => .ok (.bl (decide (x = y))) A
  | d, e => match eqP A d e with
    | some b => .ok (.bl b) A
    | none => .stk
def gNe (d e : D) (A : Hd) : R D := match d, e with
  | .str x, .str y => .ok (.bl (!decide (x = y))) A
  | d, e => match eqP A d e with
    | some b => .ok (.bl (!b)) A
    | none => .stk
abbrev rEqX (K : PySem.W.Frag) : R2 := fun x y H Q => rEq x y H Q ∨ rEqD K x y H Q
abbrev rNeX (K : PySem.W.Frag) : R2 := fun x y H Q => rNe x y H Q ∨ rNeD K x y H Q
theorem op_eqX {X : Cx} (hu : X.A.units + 64 < cLine) : OpR X (compareOp .Eq) (rEqX X.K) := op_eq.or (op_eqD hu)
theorem op_neX {X : Cx} (hu : X.A.units + 64 < cLine) : OpR X (compareOp .NotEq) (rNeX X.K) := op_ne.or (op_neD hu)
theorem eqP_ok {x y : V} {d e : D} {b : Bool} (h : HR K ct io H A) (rx : DR K ct io H x d) (ry : DR K ct io H y e) (q : eqP A d e = some b) : ∃ p p', Dp K H x p ∧ Dp K H y p' ∧ SeqAt.shaped p = true ∧ SeqAt.shaped p' = true ∧ b = PyData.eqv p p' := by
  unfold eqP at q
  split at q
  · rename_i p p' h1 h2
    split at q
    · rename_i hs
      cases q
      exact ⟨p, p', deR_ok h rx h1, deR_ok h ry h2, hs.1, hs.2, rfl⟩
    · cases q
  · cases q
theorem str_dec {x y : Str} : decide (V.str x = V.str y) = decide (x = y) := decide_eq_decide.mpr ⟨fun z => V.str.inj z, fun z => by rw [z]⟩
theorem gEq_ok : OpD K ct (rEqX K) gEq := by
  intro W σ io H A x y d e Q h rx ry p
  unfold gEq at p
  split at p
  · cases rx; cases ry
    exact .inl ⟨rfl, p.here h (by rw [str_dec]; exact .bl _)⟩
  · split at p
    · rename_i b hb
      obtain ⟨p1, p2, h1, h2, h3, h4, rfl⟩ := eqP_ok h rx ry hb
      exact .inr ⟨p1, p2, h1, h2, h3, h4, p.here h (.bl _)⟩
    · exact p.elim
theorem gNe_ok : OpD K ct (rNeX K) gNe := by
  intro W σ io H A x y d e Q h rx ry p
  unfold gNe at p
  split at p
  · cases rx; cases ry
    exact .inl ⟨rfl, p.here h (by rw [str_dec]; exact .bl _)⟩
  · split at p
    · rename_i b hb
      obtain ⟨p1, p2, h1, h2, h3, h4, rfl⟩ := eqP_ok h rx ry hb
      exact .inr ⟨p1, p2, h1, h2, h3, h4, p.here h (.bl _)⟩
    · exact p.elim
/-- is None, is not None -/
def isNonD : D → Bool
  | .non => true
  | _ => false
def gIsN (d e : D) (A : Hd) : R D := match e with
  | .non => .ok (.bl (isNonD d)) A
  | _ => .stk
def gNotN (d e : D) (A : Hd) : R D := match e with
  | .non => .ok (.bl (!isNonD d)) A
  | _ => .stk
theorem isN_V {x : V} {d : D} (r : DR K ct io H x d) : decide (x = .non) = isNonD d := by
  cases r <;> first | rfl | exact decide_eq_false (by intro z; cases z)
theorem gIsN_ok : OpD K ct (fun x y H Q => y = .non ∧ Q (.bl (decide (x = .non))) H) gIsN := by
  intro W σ io H A x y d e Q h rx ry p
  unfold gIsN at p
  split at p
  · cases ry
    refine ⟨rfl, p.here h ?_⟩
    rw [isN_V rx]
    exact .bl _
  · exact p.elim
theorem gNotN_ok : OpD K ct (fun x y H Q => y = .non ∧ Q (.bl (!decide (x = .non))) H) gNotN := by
  intro W σ io H A x y d e Q h rx ry p
  unfold gNotN at p
  split at p
  · cases ry
    refine ⟨rfl, p.here h ?_⟩
    rw [isN_V rx]
    exact .bl _
  · exact p.elim

/-! ### in, not in -/
def flatD : D → Bool
  | .non => true
  | .bl _ => true
  | .int _ => true
  | .str _ => true
  | _ => false
/-- == of flat data -/
def eqF : D → D → Bool
  | .non, .non => true
  | .bl a, .bl b => a == b
  | .bl a, .int b => (if a then 1 else 0) == b
  | .int a, .bl b => a == (if b then 1 else 0)
  | .int a, .int b => a == b
  | .str a, .str b => a == b
  | _, _ => false
theorem flat_V {x : V} {d : D} (r : DR K ct io H x d) (f : flatD d = true) : flatV x = true := by
  cases r <;> first | rfl | cases f
theorem eqF_V {x y : V} {d e : D} (rx : DR K ct io H x d) (ry : DR K ct io H y e) (fd : flatD d = true) (fe : flatD e = true) : eqV x y = eqF d e := by
  cases rx <;> first | cases fd; done | (cases ry <;> first | rfl | cases fe)
theorem flatAll_V : ∀ {xs : List V} {ds : List D}, DRs K ct io H xs ds → ds.all flatD = true → xs.all flatV = true
  | _, _, .nil, _ => rfl
  | _, _, .cons r rs, f => by
    rw [List.all_cons, Bool.and_eq_true] at f
    rw [List.all_cons, flat_V r f.1, flatAll_V rs f.2]
    rfl
def memF (d : D) (ds : List D) : Bool := ds.any fun e => eqF e d
theorem memF_V {x : V} {d : D} (r : DR K ct io H x d) (f : flatD d = true) : ∀ {xs : List V} {ds : List D}, DRs K ct io H xs ds → ds.all flatD = true → inV x xs = memF d ds
  | _, _, .nil, _ => rfl
  | _, _, .cons q qs, g => by
    rw [List.all_cons, Bool.and_eq_true] at g
    have ih := memF_V r f qs g.2
    have e1 := eqF_V q r g.1 f
    show (eqV _ x || inV x _) = (eqF _ d || memF d _)
    rw [e1, ih]
/-- d in e for a text of one sign in a text, a flat value in a list or tuple of flat values -/
def inP (d e : D) (A : Hd) : Option Bool := match d, e with
  | .str x, .str z => match x.cps.toList with
    | [c] => some (decide (c ∈ z.cps.toList))
    | _ => none
  | d, e => match asQ A e with
    | some ds => if flatD d = true ∧ ds.all flatD = true then some (memF d ds) else none
    | none => none
def gIn (d e : D) (A : Hd) : R D := match inP d e A with
  | some b => .ok (.bl b) A
  | none => .stk
def gNotIn (d e : D) (A : Hd) : R D := match inP d e A with
  | some b => .ok (.bl (!b)) A
  | none => .stk
abbrev rInX (K : PySem.W.Frag) (neg : Bool) : R2 := fun x y H Q => (∃ (c : Nat) (z : Str), x = .str ⟨#[c]⟩ ∧ y = .str z ∧ Q (.bl (if neg then !decide (c ∈ z.cps.toList) else decide (c ∈ z.cps.toList))) H) ∨ rIn K neg x y H Q
theorem op_inX {X : Cx} : OpR X (compareOp .In) (rInX X.K false) := op_in_sign.or op_in_seq
theorem op_notInX {X : Cx} : OpR X (compareOp .NotIn) (rInX X.K true) := op_notIn_sign.or op_notIn_seq
theorem inP_ok {neg b : Bool} {x y : V} {d e : D} {Q : VK} (h : HR K ct io H A) (rx : DR K ct io H x d) (ry : DR K ct io H y e) (q : inP d e A = some b) (hQ : Q (.bl (if neg then !b else b)) H) : rInX K neg x y H Q := by
  unfold inP at q
  split at q
  · rename_i x z
    cases rx; cases ry
    split at q
    · rename_i c hc
      cases q
      refine .inl ⟨c, z, ?_, rfl, hQ⟩
      have : x = ⟨#[c]⟩ := by
        cases x with
        | mk a =>
          have : a = #[c] := Array.toList_inj.mp hc
          rw [this]
      rw [this]
    · cases q
  · split at q
    · rename_i ds hd
      split at q
      · rename_i hf
        cases q
        obtain ⟨a, xs, rfl, hs, rs⟩ := asQ_ok h ry hd
        refine .inr ⟨a, xs, rfl, hs, flat_V rx hf.1, flatAll_V rs hf.2, ?_⟩
        rw [memF_V rx hf.1 rs hf.2]
        exact hQ
      · cases q
    · cases q
theorem gIn_ok : OpD K ct (rInX K false) gIn := by
  intro W σ io H A x y d e Q h rx ry p
  unfold gIn at p
  split at p
  · rename_i b hb
    exact inP_ok h rx ry hb (p.here h (.bl _))
  · exact p.elim
theorem gNotIn_ok : OpD K ct (rInX K true) gNotIn := by
  intro W σ io H A x y d e Q h rx ry p
  unfold gNotIn at p
  split at p
  · rename_i b hb
    exact inP_ok h rx ry hb (p.here h (.bl _))
  · exact p.elim

/-! ### subscripts -/
theorem DRs.atI {xs : List V} {ds : List D} (h : DRs K ct io H xs ds) {i : Int} {d : D} (e : atI ds i = some d) : ∃ v, L2.atI xs i = some v ∧ DR K ct io H v d := by
  unfold L2.atI at e ⊢
  rw [h.length]
  cases q : ixN ds.length i with
  | none => rw [q] at e; cases e
  | some j =>
    rw [q] at e
    obtain ⟨v, h1, h2⟩ := h.get e
    exact ⟨v, h1, h2⟩
def gIx (d e : D) (A : Hd) : R D := match d, e with
  | .str z, .int i => if z.length ≤ sizeLine then (match L2.atI z.cps.toList i with | some c => .ok (.str ⟨#[c]⟩) A | none => .stk) else .stk
  | d, .int i => match asQ A d with
    | some ds => match L2.atI ds i with
      | some x => .ok x A
      | none => .stk
    | none => .stk
  | _, _ => .stk
theorem gIx_ok : OpD K ct (rIx K) gIx := by
  intro W σ io H A x y d e Q h rx ry p
  unfold gIx at p
  split at p
  · cases rx; cases ry
    split at p
    · rename_i hz
      split at p
      · rename_i c hc
        exact .inr (.inr ⟨_, _, c, rfl, rfl, hz, hc, p.here h (.str _)⟩)
      · exact p.elim
    · exact p.elim
  · cases ry
    split at p
    · rename_i ds hd
      split at p
      · rename_i z hz
        obtain ⟨a, xs, rfl, hs, rs⟩ := asQ_ok h rx hd
        obtain ⟨v, h1, h2⟩ := rs.atI hz
        rcases hs with hs | hs
        · exact .inl ⟨a, xs, _, v, rfl, rfl, hs, h1, p.here h h2⟩
        · exact .inr (.inl ⟨a, xs, _, v, rfl, rfl, hs, h1, p.here h h2⟩)
      · exact p.elim
    · exact p.elim
  · exact p.elim

/-! ### slices -/
def cutD (xs : List D) (lo hi : Option Int) : List D := (xs.drop (HT.sIx xs.length 0 lo)).take (HT.sIx xs.length xs.length hi - HT.sIx xs.length 0 lo)
theorem DRs.cut {xs : List V} {ds : List D} (h : DRs K ct io H xs ds) (lo hi : Option Int) : DRs K ct io H (cutV xs lo hi) (cutD ds lo hi) := by
  unfold cutV cutD
  rw [h.length]
  exact (h.drop _).take _
def gCut (d : D) (lo hi : Option Int) (A : Hd) : R D := match d with
  | .str z => if z.length ≤ sizeLine then .ok (.str (cutS z lo hi)) A else .stk
  | .tup ds => .ok (.tup (cutD ds lo hi)) A
  | d => match asR A d with
    | some ds => .ok (.lst (cutD ds lo hi)) A
    | none => .stk
/-- t[lo:hi]: the whole of it is t itself -/
def rSlF (K : PySem.W.Frag) : V → Option Int → Option Int → Hp → VK → Prop := fun x lo hi H Q => ∃ a xs, x = .ref a ∧ SqT K H a xs ∧
  (HT.sIx xs.length 0 lo = 0 ∧ HT.sIx xs.length xs.length hi = xs.length → Q (.ref a) H) ∧
  (¬ (HT.sIx xs.length 0 lo = 0 ∧ HT.sIx xs.length xs.length hi = xs.length) → ∀ (p : Addr) (o : Obj), o.dict = none → H p = none → Q (.ref p) (upd H p (.frz o (.tup (cutV xs lo hi)))))
theorem sl_tupF {X : Cx} : SlR X (rSlF X.K) := by
  intro pins s σ H x v vl vu lo hi sl Q I rx hs pl pu h
  obtain ⟨a, xs, rfl, hx, q1, q2⟩ := h
  cases rx
  obtain ⟨its, r, ht, hz⟩ := I.tuple hx
  have hlen : its.toArray.size = xs.length := by rw [List.size_toArray]; exact r.length.symm
  refine ⟨"tuple", _, PyProof.Rows.slot_tuple_getitem.lookup, ht.typeIs, ?_⟩
  by_cases hw : HT.sIx xs.length 0 lo = 0 ∧ HT.sIx xs.length xs.length hi = xs.length
  · exact getItem_tuple_whole ht hs pl pu (by rw [hlen]; exact hw) ⟨.ref a, H, I, rfl, q1 hw⟩
  · refine HT.getItem_tuple_cut ht hs pl pu (by rw [hlen]; exact hw) ?_ (by rw [hlen]; exact hz)
    rw [hlen]
    refine ⟨.ref s.heap.objs.size, _, I.laid (t' := s.toks) (o := .frz { cls := .type "tuple", data := .seq (List.take (HT.sIx xs.length xs.length hi - HT.sIx xs.length 0 lo) (List.drop (HT.sIx xs.length 0 lo) its.toArray.toList)).toArray } (.tup (cutV xs lo hi))) (fun b ob q => Heap.get?_push_of_some _ q) (Nat.le_refl _) ?_, rfl, q2 hw _ _ rfl (I.hok.fresh (Nat.le_refl _))⟩
    exact ⟨Heap.get?_push_size _ rfl, Nat.le_trans (cutV_length xs lo hi) hz, _, (r.drop (HT.sIx xs.length 0 lo)).take (HT.sIx xs.length xs.length hi - HT.sIx xs.length 0 lo), IsTup.new _ _⟩
abbrev rCutX (K : PySem.W.Frag) : V → Option Int → Option Int → Hp → VK → Prop := fun x lo hi H Q => rSlL K x lo hi H Q ∨ (rSlF K x lo hi H Q ∨ rSlS x lo hi H Q)
theorem sl_X {X : Cx} : SlR X (rCutX X.K) := sl_list.or (sl_tupF.or sl_str)
theorem gCut_ok {W : WX} {σ : L2.St} {x : V} {d : D} {lo hi : Option Int} {Q : VK} (h : HR K ct io H A) (rx : DR K ct io H x d) (p : Post K ct (DR K ct) W σ io H (gCut d lo hi A) Q) : rCutX K x lo hi H Q := by
  unfold gCut at p
  split at p
  · cases rx
    split at p
    · rename_i hz
      exact .inr (.inr ⟨_, rfl, hz, p.here h (.str _)⟩)
    · exact p.elim
  · rename_i ds
    cases rx with
    | @tup a xs _ qx rx =>
      refine .inr (.inl ⟨a, xs, rfl, qx.sq, fun hw => ?_, fun _ q o ho hq => p.new h hq (.newTup h hq ho (rx.cut lo hi))⟩)
      have e : cutD ds lo hi = ds := by
        unfold cutD
        rw [← rx.length, hw.1, hw.2]
        simp [rx.length]
      rw [e] at p
      exact p.here h (.tup qx rx)
  · split at p
    · rename_i ds hd
      obtain ⟨a, xs, rfl, hs, rs⟩ := asR_ok h rx hd
      exact .inl ⟨a, xs, rfl, hs, fun q hq => p.new h hq (.newLst h hq (rs.cut lo hi))⟩
    · exact p.elim
end

/-- a part of a slice -/
abbrev OF := Env → Hd → R (Option Int)
def oNone : OF := fun _ A => .ok none A
def oSome (a : EF) : OF := fun ro A => (a ro A).bind fun d A1 => match d with
  | .int i => .ok (some i) A1
  | _ => .stk
abbrev repO : Io → Hp → Option Int → Option Int → Prop := fun _ _ b a => b = a
def tO (K : PySem.W.Frag) (ct : String → Addr) (W : WX) (f : OF) : TO := fun σ H Q => ∃ io A ro, Sta K ct ro A io σ H ∧ Post K ct repO W σ io H (f ro A) Q
def eCut (a : EF) (lo hi : OF) : EF := fun ro A => (a ro A).bind fun d A1 => (lo ro A1).bind fun l A2 => (hi ro A2).bind fun u A3 => gCut d l u A3
section
variable {X : Cx} {ct : String → Addr} {W : WX} {e a b : Expr} {pos : Pos} {fa fb : EF} {ft fu : TF} {fl : AF}
theorem po_mono {e : Option Expr} {t t' : TO} (h : PO X e t) (m : ∀ σ H Q, t' σ H Q → t σ H Q) : PO X e t' := ⟨fun pins s σ H Q I q => h.run pins s σ H Q I (m _ _ _ q)⟩
theorem pdo_none : PO X none (tO X.K ct W oNone) := po_mono po_none fun σ H Q ⟨io, A, ro, s, p⟩ => p.here s.hr rfl
theorem pdo_some (h : PD X ct W e fa) : PO X (some e) (tO X.K ct W (oSome fa)) := po_mono (po_some h) fun σ H Q ⟨io, A, ro, s, p⟩ => ⟨io, A, ro, s, (p.bind (rep := DR X.K ct)).mono fun v H1 ⟨io1, A1, d, e1, h1, r1, p1⟩ => by
  cases r1 with
  | int i => exact ⟨i, rfl, p1.here h1 rfl⟩
  | _ => exact p1.elim⟩
theorem pd_cut {lo hi : Option Expr} {fl fh : OF} {p2 : Pos} (ha : PD X ct W a fa) (hl : PO X lo (tO X.K ct W fl)) (hh : PO X hi (tO X.K ct W fh)) : PD X ct W (.Subscript a (.Slice lo hi none p2) pos) (eCut fa fl fh) :=
  pe_mono (pe_slice sl_X ha hl hh) fun σ H Q ⟨io, A, ro, s, p⟩ => ⟨io, A, ro, s, (p.bind (rep := DR X.K ct)).mono fun v H1 ⟨io1, A1, d, e1, h1, r1, p1⟩ =>
    ⟨io1, A1, ro, s.mono e1 h1, (p1.bind (rep := repO)).mono fun l H2 ⟨io2, A2, l', e2, h2, r2, p2⟩ =>
      ⟨io2, A2, ro, (s.mono e1 h1).mono e2 h2, (p2.bind (rep := repO)).mono fun u H3 ⟨io3, A3, u', e3, h3, r3, p3⟩ => by
        rw [show l = l' from r2, show u = u' from r3]
        exact gCut_ok h3 ((r1.mono e2 h1.noT).mono e3 h2.noT) p3⟩⟩⟩

/-! ### dicts: d[k], k in d -/
def valD (es : List (Key × D)) (k : Key) : Option D := (es.find? fun kv => decide (kv.1 = k)).map (·.2)
/-- a key of a dict -/
def keyD : D → Option Key
  | .int i => some (.inl i)
  | .str x => some (.inr x)
  | _ => none
theorem keyD_ok {K : PySem.W.Frag} {io : Io} {H : Hp} {v : V} {d : D} {k : Key} (r : DR K ct io H v d) (e : keyD d = some k) : v = kV k := by
  cases r <;> first | (cases e; rfl) | cases e
theorem valD_ok {K : PySem.W.Frag} {io : Io} {H : Hp} (k : Key) : ∀ {kvs : List (Key × V)} {es : List (Key × D)}, kvs.map (·.1) = es.map (·.1) → DRs K ct io H (kvs.map (·.2)) (es.map (·.2)) →
    match valD es k with
    | some d => ∃ v, valV kvs k = some v ∧ DR K ct io H v d
    | none => valV kvs k = none
  | [], [], _, _ => rfl
  | [], _ :: _, e, _ => by cases e
  | _ :: _, [], e, _ => by cases e
  | p :: kvs, q :: es, e, r => by
    rw [List.map_cons, List.map_cons] at e r
    have e1 : p.1 = q.1 := (List.cons.inj e).1
    cases r with
    | cons r rs =>
      have ih := valD_ok k (List.cons.inj e).2 rs
      by_cases hk : q.1 = k
      · have h1 : valD (q :: es) k = some q.2 := by simp [valD, List.find?_cons, hk]
        rw [h1]
        exact ⟨p.2, valV_pos (e1.trans hk), r⟩
      · have h1 : valD (q :: es) k = valD es k := by simp [valD, List.find?_cons, hk]
        have h2 : valV (p :: kvs) k = valV kvs k := valV_neg fun z => hk (e1.symm.trans z)
        rw [h1, h2]
        exact ih
def gSubD (d e : D) (A : Hd) : R D := match asD A d, keyD e with
  | some es, some k => match valD es k with
    | some x => .ok x A
    | none => .stk
  | _, _ => gIx d e A
theorem asD_not {A : Hd} {d : D} {es : List (Key × D)} (h : asD A d = some es) (e : D) : gIx d e A = .stk := by
  cases d with
  | dic _ => cases e <;> rfl
  | ref n =>
    unfold asD at h
    dsimp only at h
    cases hm : A[n]? with
    | none => rw [hm] at h; cases h
    | some m =>
      rw [hm] at h
      cases m with
      | dic _ => cases e <;> first | rfl | (unfold gIx asQ asR asL; simp only [hm])
      | lst _ => cases h
      | ins _ _ => cases h
      | exc _ _ => cases h
      | tab _ => cases h
  | _ => cases h
theorem pd_sub (hu : X.A.units + 1 < cLine) (ha : PD X ct W a fa) (hb : PD X ct W b fb) (hs : PlainIx b) (hn : NoSl b) : PD X ct W (.Subscript a b pos) (eBin gSubD fa fb) := by
  have h1 := pe_ix (pos := pos) (X := X) ix_seq ha hb hs
  have h2 := pe_dget (pos := pos) hu ha hb hn
  refine ⟨fun pins s σ H Q I h => ?_⟩
  obtain ⟨io, A, ro, st, p⟩ := h
  -- what both give is known; the kind of the first decides
  by_cases hd : ∃ d A1 e A2 es, fa ro A = .ok d A1 ∧ fb ro A1 = .ok e A2 ∧ asD A2 d = some es
  · obtain ⟨d, A1, e, A2, es, q1, q2, q3⟩ := hd
    refine h2.run pins s σ H Q I ⟨io, A, ro, st, ?_⟩
    unfold eBin at p
    rw [q1, R.bind_ok, q2, R.bind_ok] at p
    rw [q1]
    intro v io1 H1 e1 hr1 r1
    refine ⟨io1, A1, ro, st.mono e1 hr1, ?_⟩
    rw [q2]
    intro w io2 H2 e2 hr2 r2
    have p := Post.ext (e1.trans e2) p
    unfold gSubD at p
    rw [q3] at p
    obtain ⟨b, kvs, rfl, hb1, hk, hrs⟩ := asD_ok hr2 (r1.mono e2 hr1.noT) q3
    cases hkd : keyD e with
    | none =>
      rw [hkd] at p
      dsimp only at p
      rw [asD_not q3] at p
      exact p.elim
    | some k =>
      rw [hkd] at p
      dsimp only at p
      have ew := keyD_ok r2 hkd
      subst ew
      have hv := valD_ok k hk hrs
      cases hx : valD es k with
      | none => rw [hx] at p; exact p.elim
      | some x =>
        rw [hx] at p hv
        obtain ⟨v', g1, g2⟩ := hv
        exact ⟨b, v', rfl, by rw [← g1]; exact DGet.k hb1, p.here hr2 g2⟩
  · refine h1.run pins s σ H Q I ⟨io, A, ro, st, ?_⟩
    unfold eBin at p
    cases q1 : fa ro A with
    | stk => rw [q1] at p; exact p.elim
    | err c fs A' => rw [q1] at p; exact p
    | ok d A1 =>
      rw [q1, R.bind_ok] at p
      intro v io1 H1 e1 hr1 r1
      refine ⟨io1, A1, ro, st.mono e1 hr1, ?_⟩
      cases q2 : fb ro A1 with
      | stk => rw [q2] at p; exact p.elim
      | err c fs A' => rw [q2] at p; exact Post.ext e1 p
      | ok e A2 =>
        rw [q2, R.bind_ok] at p
        intro w io2 H2 e2 hr2 r2
        have p := Post.ext (e1.trans e2) p
        have g : gSubD d e A2 = gIx d e A2 := by
          unfold gSubD
          cases q3 : asD A2 d with
          | none => rfl
          | some es => exact absurd ⟨d, A1, e, A2, es, q1, q2, q3⟩ hd
        rw [g] at p
        exact gIx_ok W σ io2 H2 A2 v w d e Q hr2 (r1.mono e2 hr1.noT) r2 p
end
end DV

set_option Elab.async false
set_option linter.all false
set_option maxRecDepth 100000
/-! DvE: built-in functions by data. -/
namespace DV
open PySem PySem.Spec PyProof.Rows L2
section
variable {K : PySem.W.Frag} {ct : String → Addr} {io : Io} {H : Hp} {A : Hd}
/-! ### len -/
def gLen (ds : List D) (A : Hd) : R D := match ds with
  | [.str x] => if x.length ≤ sizeLine then .ok (.int x.length) A else .stk
  | [d] => match asQ A d with
    | some es => .ok (.int es.length) A
    | none => match asD A d with
      | some es => .ok (.int es.length) A
      | none => .stk
  | _ => .stk
abbrev rLenX (K : PySem.W.Frag) : List V → Hp → VK → Prop := fun xs H Q => (∃ x n, xs = [x] ∧ LenV K x H n ∧ Q (.int n) H) ∨ ∃ a kvs, xs = [V.ref a] ∧ H a = some (.dK kvs) ∧ Q (.int kvs.length) H
theorem call_lenX {X : Cx} : CallR X (.builtin "len") (rLenX X.K) := call_len.or call_lenD
theorem gLen_ok : CaD K ct (rLenX K) gLen := by
  intro W σ io H A xs ds Q h r p
  unfold gLen at p
  split at p
  · cases r with
    | cons r rs =>
    cases r; cases rs
    split at p
    · rename_i hz
      exact .inl ⟨_, _, rfl, ⟨hz, rfl⟩, p.here h (.int _)⟩
    · exact p.elim
  · cases r with
    | cons r rs =>
    cases rs
    split at p
    · rename_i es he
      obtain ⟨a, us, rfl, hs, hr⟩ := asQ_ok h r he
      refine .inl ⟨_, us.length, rfl, ?_, by rw [hr.length]; exact p.here h (.int _)⟩
      rcases hs with hs | hs
      · exact .inl ⟨us, hs, rfl⟩
      · exact .inr ⟨us, hs, rfl⟩
    · split at p
      · rename_i es he
        obtain ⟨a, kvs, rfl, hs, hk, hr⟩ := asD_ok h r he
        refine .inr ⟨a, kvs, rfl, hs, ?_⟩
        have e : kvs.length = es.length := by
          have := congrArg List.length hk
          simpa using this
        rw [e]
        exact p.here h (.int _)
      · exact p.elim
  · exact p.elim

/-! ### isinstance, one built-in class -/
def tyD (A : Hd) : D → Option String
  | .non => some "NoneType"
  | .bl _ => some "bool"
  | .int _ => some "int"
  | .str _ => some "str"
  | .tup _ => some "tuple"
  | .lst _ => some "list"
  | .scr _ => some "list"
  | .dic _ => some "dict"
  | .ref n => match A[n]? with
    | some (.lst _) => some "list"
    | some (.dic _) => some "dict"
    | _ => none
  | .cls _ => none
theorem tyD_ok {v : V} {d : D} {T : String} (h : HR K ct io H A) (r : DR K ct io H v d) (e : tyD A d = some T) : TyX K H v (.type T) := by
  cases r with
  | non => cases e; exact .base .non
  | bl b => cases e; exact .base (.bl b)
  | int i => cases e; exact .base (.int i)
  | str x => cases e; exact .base (.str x)
  | tup q rs =>
    cases e
    rcases q.sq with (q | ⟨o, q⟩) | ⟨o, its, n, q, qc, _⟩
    · exact .base (.tup q)
    · exact .fTuple q
    · exact .kTuple q qc
  | lst n q rs => cases e; exact .base (.lst q)
  | scr q rs =>
    cases e
    rcases q with ⟨_, o, q⟩ | ⟨o, its, n, q, qc, _⟩
    · exact .base (.frz q)
    · exact .kList q qc
  | dic n q k rs => cases e; exact .base (.dK q)
  | ref q =>
    obtain ⟨m, hm⟩ := h.has q
    have mr := h.get q hm
    unfold tyD at e
    dsimp only at e
    rw [hm] at e
    cases m with
    | lst ds => cases e; obtain ⟨xs, q1, rs⟩ := mr; exact .base (.lst q1)
    | dic es => cases e; obtain ⟨kvs, q1, k, rs⟩ := mr; exact .base (.dK q1)
    | ins c fs => cases e
    | exc c fs => cases e
    | tab es => cases e
  | ty n => cases e
  | own n => cases e
/-- isinstance among the built-in classes that are met -/
def isaB (t T : String) : Option Bool :=
  if (["NoneType", "bool", "int", "str", "tuple", "list", "dict"] : List String).contains t ∧ (["int", "str", "tuple", "list", "dict", "bool"] : List String).contains T then some (t == T || (t == "bool" && T == "int")) else none
theorem isaB_ok {t T : String} {b : Bool} (e : isaB t T = some b) : PySem.W.kitOne K (.type t) (.type T) = some b := by
  refine kit_ty ?_
  unfold isaB at e
  split at e
  · rename_i hc
    have all : ∀ t ∈ (["NoneType", "bool", "int", "str", "tuple", "list", "dict"] : List String), ∀ T ∈ (["int", "str", "tuple", "list", "dict", "bool"] : List String), kitB t T = some (t == T || (t == "bool" && T == "int")) := by decide +kernel
    rw [← e]
    exact all t (by simpa using hc.1) T (by simpa using hc.2)
  · cases e
def gIsa (ds : List D) (A : Hd) : R D := match ds with
  | [d, .cls (.bi T)] => match tyD A d with
    | some t => match isaB t T with
      | some b => .ok (.bl b) A
      | none => .stk
    | none => .stk
  | _ => .stk
theorem gIsa_ok : CaD K ct (rIsi K) gIsa := by
  intro W σ io H A xs ds Q h r p
  unfold gIsa at p
  split at p
  · rename_i d T
    cases r with
    | cons r rs =>
    cases rs with
    | cons r2 rs =>
    cases rs
    cases r2
    split at p
    · rename_i t ht
      split at p
      · rename_i b hb
        exact ⟨_, _, _, _, b, rfl, .ty T, tyD_ok h r ht, isaB_ok hb, p.here h (.bl _)⟩
      · exact p.elim
    · exact p.elim
  · exact p.elim

/-! ### all, any of a list of bools -/
def boolsD : List D → Option (List Bool)
  | [] => some []
  | .bl b :: r => match boolsD r with
    | some bs => some (b :: bs)
    | none => none
  | _ :: _ => none
theorem boolsD_ok : ∀ {vs : List V} {ds : List D} {bs : List Bool}, DRs K ct io H vs ds → boolsD ds = some bs → vs = bs.map V.bl
  | _, _, _, .nil, e => by cases e; rfl
  | _, _, _, .cons r rs, e => by
    cases r with
    | bl b =>
      unfold boolsD at e
      split at e
      · rename_i bs h1
        cases e
        rw [boolsD_ok rs h1]
        rfl
      · cases e
    | _ => cases e
def gAll (ds : List D) (A : Hd) : R D := match ds with
  | [d] => match asR A d with
    | some es => match boolsD es with
      | some bs => .ok (.bl (bs.all id)) A
      | none => .stk
    | none => .stk
  | _ => .stk
def gAny (ds : List D) (A : Hd) : R D := match ds with
  | [d] => match asR A d with
    | some es => match boolsD es with
      | some bs => .ok (.bl (bs.any id)) A
      | none => .stk
    | none => .stk
  | _ => .stk
theorem gAll_ok : CaD K ct (rAll K) gAll := by
  intro W σ io H A xs ds Q h r p
  unfold gAll at p
  split at p
  · cases r with
    | cons r rs =>
    cases rs
    split at p
    · rename_i es he
      split at p
      · rename_i bs hb
        obtain ⟨a, us, rfl, hs, hr⟩ := asR_ok h r he
        have e := boolsD_ok hr hb
        subst e
        exact ⟨a, bs, rfl, hs, p.here h (.bl _)⟩
      · exact p.elim
    · exact p.elim
  · exact p.elim
theorem gAny_ok : CaD K ct (rAny K) gAny := by
  intro W σ io H A xs ds Q h r p
  unfold gAny at p
  split at p
  · cases r with
    | cons r rs =>
    cases rs
    split at p
    · rename_i es he
      split at p
      · rename_i bs hb
        obtain ⟨a, us, rfl, hs, hr⟩ := asR_ok h r he
        have e := boolsD_ok hr hb
        subst e
        exact ⟨a, bs, rfl, hs, p.here h (.bl _)⟩
      · exact p.elim
    · exact p.elim
  · exact p.elim

/-! ### tuple(x), list(x) -/
def gTuple (ds : List D) (A : Hd) : R D := match ds with
  | [.tup es] => .ok (.tup es) A
  | [d] => match asR A d with
    | some es => .ok (.tup es) A
    | none => .stk
  | _ => .stk
def rTupleX (K : PySem.W.Frag) : List V → Hp → VK → Prop := fun xs H Q => ∃ p ys, xs = [.ref p] ∧ ((SqL K H p ys ∧ ∀ (l : Addr) (o : Obj), o.dict = none → H l = none → Q (.ref l) (upd H l (.frz o (.tup ys)))) ∨ (SqT K H p ys ∧ Q (.ref p) H))
theorem call_tupleF {X : Cx} : CallR X (.type "tuple") (rTupleX X.K) := by
  intro pins s σ H x us Q I r h
  obtain ⟨p, ys, rfl, h⟩ := h
  obtain ⟨u, rfl, rx⟩ := vals1 r
  cases rx
  rcases h with ⟨hq, q⟩ | ⟨hq, q⟩
  · obtain ⟨its, r', pl, hz⟩ := I.list hq
    have hlen := r'.length
    refine call_tuple_list pl.isList (fun h' kp => ?_) (by simp only [List.size_toArray] <;> omega)
    have I1 : Inv X pins σ H { s with heap := h' } := I.kept (t' := s.toks) kp
    have get : (h'.push ({ cls := .type "tuple", data := .seq its.toArray } : Obj)).get? h'.objs.size = some { cls := .type "tuple", data := .seq its.toArray } := Heap.get?_push_size _ rfl
    exact ⟨.ref h'.objs.size, _, I1.laid (t' := s.toks) (o := .frz { cls := .type "tuple", data := .seq its.toArray } (.tup ys)) (fun b o e => Heap.get?_push_of_some _ e) (Nat.le_refl _) ⟨get, hz, its, r', IsTup.new _ _⟩, rfl, q _ _ rfl (I1.hok.fresh (Nat.le_refl _))⟩
  · obtain ⟨its, r', pl, hz⟩ := I.tuple hq
    exact call_tuple_same pl ⟨.ref p, H, I, rfl, q⟩
theorem gTuple_ok : CaD K ct (rTupleX K) gTuple := by
  intro W σ io H A xs ds Q h r p
  unfold gTuple at p
  split at p
  · cases r with
    | cons r rs =>
    cases rs
    cases r with
    | tup q hr => exact ⟨_, _, rfl, .inr ⟨q.sq, p.here h (.tup q hr)⟩⟩
  · cases r with
    | cons r rs =>
    cases rs
    split at p
    · rename_i es he
      obtain ⟨a, us, rfl, hs, hr⟩ := asR_ok h r he
      exact ⟨a, us, rfl, .inl ⟨hs, fun l o ho hl => p.new h hl (.newTup h hl ho hr)⟩⟩
    · exact p.elim
  · exact p.elim
def gListD (ds : List D) (A : Hd) : R D := match ds with
  | [d] => match asQ A d with
    | some es => .ok (.lst es) A
    | none => .stk
  | _ => .stk
def gListM (ds : List D) (A : Hd) : R D := match ds with
  | [d] => match asQ A d with
    | some es => .ok (.ref A.length) (A ++ [.lst es])
    | none => .stk
  | _ => .stk
abbrev rListX (K : PySem.W.Frag) : List V → Hp → VK → Prop := fun xs H Q => ∃ p ys, xs = [.ref p] ∧ (SqL K H p ys ∨ SqT K H p ys) ∧ ∀ l, H l = none → Q (.ref l) (upd H l (.lst ys))
theorem gListD_ok : CaD K ct (rListX K) gListD := by
  intro W σ io H A xs ds Q h r p
  unfold gListD at p
  split at p
  · cases r with
    | cons r rs =>
    cases rs
    split at p
    · rename_i es he
      obtain ⟨a, us, rfl, hs, hr⟩ := asQ_ok h r he
      exact ⟨a, us, rfl, hs, fun l hl => p.new h hl (.newLst h hl hr)⟩
    · exact p.elim
  · exact p.elim
theorem Post.num {W : WX} {σ : L2.St} {m : M} {p : Addr} {o : HO} {Q : VK} (q : Post K ct (DR K ct) W σ io H (.ok (.ref A.length) (A ++ [m])) Q) (h : HR K ct io H A) (n : H p = none) (hm : MR K ct (io.add p) (upd H p o) p m) : Q (.ref p) (upd H p o) :=
  q _ (io.add p) _ (Ext.num n) (h.num n hm) (.ref (by show (io.nm ++ [p])[A.length]? = some p; rw [← h.len]; simp))
theorem gListM_ok : CaD K ct (rListX K) gListM := by
  intro W σ io H A xs ds Q h r p
  unfold gListM at p
  split at p
  · cases r with
    | cons r rs =>
    cases rs
    split at p
    · rename_i es he
      obtain ⟨a, us, rfl, hs, hr⟩ := asQ_ok h r he
      exact ⟨a, us, rfl, hs, fun l hl => p.num h hl ⟨_, upd_same, hr.mono (Ext.num hl) h.noT⟩⟩
    · exact p.elim
  · exact p.elim

/-! ### min, max of two ints -/
def gMin2 (ds : List D) (A : Hd) : R D := match ds with
  | [.int i, .int j] => .ok (.int (if j < i then j else i)) A
  | _ => .stk
def gMax2 (ds : List D) (A : Hd) : R D := match ds with
  | [.int i, .int j] => .ok (.int (if j > i then j else i)) A
  | _ => .stk
theorem gMin2_ok : CaD K ct (fun xs H Q => ∃ i j, xs = [.int i, .int j] ∧ Q (.int (if j < i then j else i)) H) gMin2 := by
  intro W σ io H A xs ds Q h r p
  unfold gMin2 at p
  split at p
  · cases r with
    | cons r rs =>
    cases rs with
    | cons r2 rs =>
    cases rs; cases r; cases r2
    exact ⟨_, _, rfl, p.here h (.int _)⟩
  · exact p.elim
theorem gMax2_ok : CaD K ct (fun xs H Q => ∃ i j, xs = [.int i, .int j] ∧ Q (.int (if j > i then j else i)) H) gMax2 := by
  intro W σ io H A xs ds Q h r p
  unfold gMax2 at p
  split at p
  · cases r with
    | cons r rs =>
    cases rs with
    | cons r2 rs =>
    cases rs; cases r; cases r2
    exact ⟨_, _, rfl, p.here h (.int _)⟩
  · exact p.elim

/-! ### repr of data without dicts -/
mutual
theorem Dp.noDict {v : V} : ∀ {p : PyData}, Dp K H v p → p.hasDict = false
  | _, .non => rfl
  | _, .bl _ => rfl
  | _, .int _ => rfl
  | _, .str _ => rfl
  | _, .lst _ hs => by unfold PyData.hasDict; exact DpAll.noDict hs
  | _, .tup _ hs => by unfold PyData.hasDict; exact DpAll.noDict hs
theorem DpAll.noDict {vs : List V} : ∀ {ps : List PyData}, DpAll K H vs ps → PyData.hasDictAll ps = false
  | _, .nil => rfl
  | _, .cons h hs => by unfold PyData.hasDictAll; rw [Dp.noDict h, DpAll.noDict hs]; rfl
end
def rRepr (K : PySem.W.Frag) : List V → Hp → VK → Prop := fun xs H Q => ∃ x p, xs = [x] ∧ Dp K H x p ∧ p.showable = true ∧ p.depth ≤ 60 ∧ p.shown.length ≤ sizeLine ∧ Q (.str p.shown) H
theorem call_repr {X : Cx} (hg : X.A.guards = some []) (hu : X.A.units + 64 < cLine) : CallR X (.builtin "repr") (rRepr X.K) := by
  intro pins s σ H xs us Q I r h
  obtain ⟨x, p, rfl, hd, hs, hdp, hz, q⟩ := h
  obtain ⟨u, rfl, rx⟩ := vals1 r
  obtain ⟨as, rd⟩ := Dp.reads I p x u hd rx
  cases hd with
  | non => cases rx; exact PySem.P.repr_of_none ⟨.str _, H, I.tok _, ⟨_, rfl⟩, q⟩
  | bl b => cases rx; exact PySem.P.repr_of_bool ⟨.str _, H, I.tok _, ⟨_, rfl⟩, q⟩
  | int i =>
    obtain ⟨t, rfl⟩ := rx
    refine PySem.P.repr_of_int (by simpa [PyData.showable] using hs) ⟨.str _, H, I.tok _, ⟨_, rfl⟩, q⟩
  | str z =>
    obtain ⟨t, rfl⟩ := rx
    exact PySem.P.repr_of_str ⟨.str _, H, I.tok _, ⟨_, rfl⟩, q⟩ hz
  | lst h1 h2 =>
    cases rx
    refine repr_of_reads' rd hs (PyData.noDict_hsm (Dp.noDict (.lst h1 h2))) hg (by omega) (fun _ _ e => e) (fun h' u tk hk => ?_) hz
    exact ⟨.str _, H, I.kept (t' := tk) hk, ⟨_, rfl⟩, q⟩
  | tup h1 h2 =>
    cases rx
    refine repr_of_reads' rd hs (PyData.noDict_hsm (Dp.noDict (.tup h1 h2))) hg (by omega) (fun _ _ e => e) (fun h' u tk hk => ?_) hz
    exact ⟨.str _, H, I.kept (t' := tk) hk, ⟨_, rfl⟩, q⟩
def gRepr (ds : List D) (A : Hd) : R D := match ds with
  | [d] => match toP (deR A d) with
    | some p => if p.showable = true ∧ p.depth ≤ 60 ∧ p.shown.length ≤ sizeLine then .ok (.str p.shown) A else .stk
    | none => .stk
  | _ => .stk
theorem gRepr_ok : CaD K ct (rRepr K) gRepr := by
  intro W σ io H A xs ds Q h r p
  unfold gRepr at p
  split at p
  · cases r with
    | cons r rs =>
    cases rs
    split at p
    · rename_i q hq
      split at p
      · rename_i hc
        exact ⟨_, q, rfl, deR_ok h r hq, hc.1, hc.2.1, hc.2.2, p.here h (.str _)⟩
      · exact p.elim
    · exact p.elim
  · exact p.elim
end
end DV

set_option Elab.async false
set_option linter.all false
set_option maxRecDepth 100000
/-! DvF: statements by data. -/
namespace DV
open PySem PySem.Spec PyProof.Rows L2

inductive Fl where
  | nx | ret (d : D) | bk | ct
inductive Out where
  | go (f : Fl) (ro : Env) (A : Hd) | err (c : Cl) (fs : List (Str × D)) (ro : Env) (A : Hd) | stk
abbrev SF := Env → Hd → Out

section
variable (K : PySem.W.Frag) (ct : String → Addr)
def SPost (W : WX) (io : Io) (H : Hp) (o : Out) (Z : Ends) : Prop := match o with
  | .go .nx ro A => ∀ σ' io' H', Ext io H io' H' → Sta K ct ro A io' σ' H' → Z.nx σ' H'
  | .go .bk ro A => ∀ σ' io' H', Ext io H io' H' → Sta K ct ro A io' σ' H' → Z.bk σ' H'
  | .go .ct ro A => ∀ σ' io' H', Ext io H io' H' → Sta K ct ro A io' σ' H' → Z.ct σ' H'
  | .go (.ret d) ro A => ∀ v io' H', Ext io H io' H' → HR K ct io' H' A → DR K ct io' H' v d → Z.rt v H'
  | .err c fs ro A => ∀ cls dd σ' io' H', Ext io H io' H' → Sta K ct ro A io' σ' H' → XR K ct io' H' c fs cls dd → W cls dd σ' H'
  | .stk => False
def tS (W : WX) (f : SF) : TS := fun Z σ H => ∃ io A ro, Sta K ct ro A io σ H ∧ SPost K ct W io H (f ro A) Z
end
/-- an expression, then a statement's rest -/
def R.then {α : Type} (r : R α) (ro : Env) (k : α → Hd → Out) : Out := match r with
  | .ok a A => k a A
  | .err c fs A => .err c fs ro A
  | .stk => .stk
@[simp] theorem R.then_ok {α : Type} (a : α) (A : Hd) (ro : Env) (k : α → Hd → Out) : (R.ok a A).then ro k = k a A := rfl
@[simp] theorem R.then_err {α : Type} (c : Cl) (fs : List (Str × D)) (A : Hd) (ro : Env) (k : α → Hd → Out) : (R.err c fs A : R α).then ro k = .err c fs ro A := rfl
@[simp] theorem R.then_stk {α : Type} (ro : Env) (k : α → Hd → Out) : (R.stk : R α).then ro k = .stk := rfl
/-- a statement, then the rest of the block -/
def Out.next (o : Out) (k : Env → Hd → Out) : Out := match o with
  | .go .nx ro A => k ro A
  | o => o
@[simp] theorem Out.next_nx (ro : Env) (A : Hd) (k : Env → Hd → Out) : (Out.go .nx ro A).next k = k ro A := rfl
@[simp] theorem Out.next_bk (ro : Env) (A : Hd) (k : Env → Hd → Out) : (Out.go .bk ro A).next k = .go .bk ro A := rfl
@[simp] theorem Out.next_ct (ro : Env) (A : Hd) (k : Env → Hd → Out) : (Out.go .ct ro A).next k = .go .ct ro A := rfl
@[simp] theorem Out.next_ret (d : D) (ro : Env) (A : Hd) (k : Env → Hd → Out) : (Out.go (.ret d) ro A).next k = .go (.ret d) ro A := rfl
@[simp] theorem Out.next_err (c : Cl) (fs : List (Str × D)) (ro : Env) (A : Hd) (k : Env → Hd → Out) : (Out.err c fs ro A).next k = .err c fs ro A := rfl
@[simp] theorem Out.next_stk (k : Env → Hd → Out) : (Out.stk).next k = .stk := rfl

section
variable {K : PySem.W.Frag} {ct : String → Addr} {W : WX} {σ : L2.St} {io io' : Io} {H H' : Hp} {A A' : Hd} {ro : Env} {Z Z' : Ends}
theorem SPost.ext {o : Out} (e : Ext io H io' H') (h : SPost K ct W io H o Z) : SPost K ct W io' H' o Z := by
  cases o with
  | go f ro A => cases f with
    | nx => exact fun s i h' e2 => h s i h' (e.trans e2)
    | bk => exact fun s i h' e2 => h s i h' (e.trans e2)
    | ct => exact fun s i h' e2 => h s i h' (e.trans e2)
    | ret d => exact fun s i h' e2 => h s i h' (e.trans e2)
  | err c fs ro A => exact fun c d s i h' e2 => h c d s i h' (e.trans e2)
  | stk => exact h
theorem SPost.mono {o : Out} (h : SPost K ct W io H o Z) (h1 : ∀ σ H, Z.nx σ H → Z'.nx σ H) (h2 : ∀ v H, Z.rt v H → Z'.rt v H) (h3 : ∀ σ H, Z.bk σ H → Z'.bk σ H) (h4 : ∀ σ H, Z.ct σ H → Z'.ct σ H) : SPost K ct W io H o Z' := by
  cases o with
  | go f ro A => cases f with
    | nx => exact fun s i h' e q => h1 _ _ (h s i h' e q)
    | bk => exact fun s i h' e q => h3 _ _ (h s i h' e q)
    | ct => exact fun s i h' e q => h4 _ _ (h s i h' e q)
    | ret d => exact fun s i h' e q r => h2 _ _ (h s i h' e q r)
  | err c fs ro A => exact h
  | stk => exact h
/-- the value comes, then the rest -/
theorem Post.then {α β : Type} {rep : Io → Hp → β → α → Prop} {r : R α} {k : α → Hd → Out} (s : Sta K ct ro A io σ H) (h : SPost K ct W io H (r.then ro k) Z) :
    Post K ct rep W σ io H r (fun b H1 => ∃ io1 A1 a, Ext io H io1 H1 ∧ Sta K ct ro A1 io1 σ H1 ∧ rep io1 H1 b a ∧ SPost K ct W io1 H1 (k a A1) Z) := by
  cases r with
  | ok a A1 => exact fun b io1 H1 e h1 r => ⟨io1, A1, a, e, s.mono e h1, r, SPost.ext e h⟩
  | err c fs A1 => exact fun cls dd io1 H1 e h1 x => h cls dd σ io1 H1 e (s.mono e h1) x
  | stk => exact h
theorem SPost.next {o : Out} {k : Env → Hd → Out} (h : SPost K ct W io H (o.next k) Z) : SPost K ct W io H o { Z with nx := fun σ' H' => ∃ io1 A1 ro1, Sta K ct ro1 A1 io1 σ' H' ∧ SPost K ct W io1 H' (k ro1 A1) Z } := by
  cases o with
  | go f ro A => cases f with
    | nx => exact fun s i h' e q => ⟨i, A, ro, q, SPost.ext e h⟩
    | bk => exact h
    | ct => exact h
    | ret d => exact h
  | err c fs ro A => exact h
  | stk => exact h
end

section
variable (X : Cx) (ct : String → Addr) (W : WX)
abbrev PSD (st : Stmt) (f : SF) : Prop := PS X st (tS X.K ct W f)
abbrev PSsD (st : List Stmt) (f : SF) : Prop := PSs X st (tS X.K ct W f)
end
theorem ps_mono {X : Cx} {e : Stmt} {t t' : TS} (h : PS X e t) (m : ∀ Z σ H, t' Z σ H → t Z σ H) : PS X e t' := ⟨fun pins s σ H Q I q => h.run pins s σ H Q I (m _ _ _ q)⟩
theorem pss_mono {X : Cx} {e : List Stmt} {t t' : TS} (h : PSs X e t) (m : ∀ Z σ H, t' Z σ H → t Z σ H) : PSs X e t' := ⟨fun pins s σ H Q I q => h.run pins s σ H Q I (m _ _ _ q)⟩

def sNx : SF := fun ro A => .go .nx ro A
def sSeq (a b : SF) : SF := fun ro A => (a ro A).next b
def sEx (a : EF) : SF := fun ro A => (a ro A).then ro fun _ A1 => .go .nx ro A1
def sRet (a : EF) : SF := fun ro A => (a ro A).then ro fun d A1 => .go (.ret d) ro A1
def sRetN : SF := fun ro A => .go (.ret .non) ro A
def sIf (c : TF) (a b : SF) : SF := fun ro A => (c ro A).then ro fun k A1 => if k then a ro A1 else b ro A1
def sBk : SF := fun ro A => .go .bk ro A
def sCt : SF := fun ro A => .go .ct ro A
/-- where a value goes -/
abbrev GF := D → Env → Hd → R Env
def gNm (i : Nat) : GF := fun d ro A => .ok (ro.set i (some d)) A
def gTs : List GF → List D → Env → Hd → R Env
  | [], [], ro, A => .ok ro A
  | g :: gs, d :: ds, ro, A => (g d ro A).bind fun ro A => gTs gs ds ro A
  | _, _, _, _ => .stk
def gTpl (gs : List GF) : GF := fun d ro A => match d with
  | .tup ds => if ds.length = gs.length then gTs gs ds ro A else .stk
  | _ => .stk
/-- a target's end, no error served -/
def R.out (r : R Env) : Out := match r with
  | .ok ro A => .go .nx ro A
  | _ => .stk
def sAsg (a : EF) (g : GF) : SF := fun ro A => (a ro A).then ro fun d A1 => (g d ro A1).out

section
variable {X : Cx} {ct : String → Addr} {W : WX} {e a b : Expr} {pos : Pos} {fa fb : EF} {ft fu : TF} {fl : AF} {st : Stmt} {sts : List Stmt} {fs gs : SF}
theorem pssd_nil : PSsD X ct W [] sNx := pss_mono pss_nil fun Z σ H ⟨io, A, ro, s, p⟩ => p σ io H Ext.refl s
theorem pssd_cons (h : PSD X ct W st fs) (r : PSsD X ct W sts gs) : PSsD X ct W (st :: sts) (sSeq fs gs) := pss_mono (pss_cons h r) fun Z σ H ⟨io, A, ro, s, p⟩ => ⟨io, A, ro, s, p.next⟩
theorem pssd_one (h : PSD X ct W st fs) : PSsD X ct W [st] fs := pss_one h
theorem psd_pass : PSD X ct W (.Pass pos) sNx := ps_mono ps_pass fun Z σ H ⟨io, A, ro, s, p⟩ => p σ io H Ext.refl s
theorem psd_break : PSD X ct W (.Break pos) sBk := ps_mono ps_break fun Z σ H ⟨io, A, ro, s, p⟩ => p σ io H Ext.refl s
theorem psd_continue : PSD X ct W (.Continue pos) sCt := ps_mono ps_continue fun Z σ H ⟨io, A, ro, s, p⟩ => p σ io H Ext.refl s
theorem psd_expr (h : PD X ct W e fa) (hs : swapsWith e none pos.line X.env = pure false := by rfl) : PSD X ct W (.Expr e pos) (sEx fa) := ps_mono (ps_expr h hs) fun Z σ H ⟨io, A, ro, s, p⟩ =>
  ⟨io, A, ro, s, (Post.then (rep := DR X.K ct) s p).mono fun v H1 ⟨io1, A1, d, e1, s1, r, q⟩ => q σ io1 H1 Ext.refl s1⟩
theorem psd_ret (h : PD X ct W e fa) : PSD X ct W (.Return (some e) pos) (sRet fa) := ps_mono (ps_ret h) fun Z σ H ⟨io, A, ro, s, p⟩ =>
  ⟨io, A, ro, s, (Post.then (rep := DR X.K ct) s p).mono fun v H1 ⟨io1, A1, d, e1, s1, r, q⟩ => q v io1 H1 Ext.refl s1.hr r⟩
theorem psd_retN : PSD X ct W (.Return none pos) sRetN := ps_mono ps_retN fun Z σ H ⟨io, A, ro, s, p⟩ => p .non io H Ext.refl s.hr .non
theorem psd_if {c : Expr} {xs ys : List Stmt} (hc : PDt X ct W c ft) (hx : PSsD X ct W xs fs) (hy : PSsD X ct W ys gs) : PSD X ct W (.If c xs ys pos) (sIf ft fs gs) := ps_mono (ps_if hc hx hy) fun Z σ H ⟨io, A, ro, s, p⟩ =>
  ⟨io, A, ro, s, (Post.then (rep := repB) s p).mono fun k H1 ⟨io1, A1, d, e1, s1, r, q⟩ => by
    rw [show k = d from r]
    cases d with
    | true => exact ⟨io1, A1, ro, s1, q⟩
    | false => exact ⟨io1, A1, ro, s1, q⟩⟩

/-- where a value goes, by data -/
def GPost (K : PySem.W.Frag) (ct : String → Addr) (io : Io) (H : Hp) (r : R Env) (Q : L2.St → Hp → Prop) : Prop := match r with
  | .ok ro A => ∀ σ' io' H', Ext io H io' H' → Sta K ct ro A io' σ' H' → Q σ' H'
  | _ => False
def tG (K : PySem.W.Frag) (ct : String → Addr) (g : GF) : TG := fun v σ H Q => ∃ io A ro d, Sta K ct ro A io σ H ∧ DR K ct io H v d ∧ GPost K ct io H (g d ro A) Q
def tGs (K : PySem.W.Frag) (ct : String → Addr) (g : List D → Env → Hd → R Env) : TGs := fun vs σ H Q => ∃ io A ro ds, Sta K ct ro A io σ H ∧ DRs K ct io H vs ds ∧ GPost K ct io H (g ds ro A) Q
abbrev PGD (X : Cx) (ct : String → Addr) (e : Expr) (g : GF) : Prop := PG X e (tG X.K ct g)
abbrev PGsD (X : Cx) (ct : String → Addr) (e : List Expr) (g : List GF) : Prop := PGs X e (tGs X.K ct (gTs g))
theorem pg_mono {X : Cx} {e : Expr} {t t' : TG} (h : PG X e t) (m : ∀ v σ H Q, t' v σ H Q → t v σ H Q) : PG X e t' := ⟨fun pins s σ H v u Q I r q => h.run pins s σ H v u Q I r (m _ _ _ _ q)⟩
theorem pgs_mono {X : Cx} {e : List Expr} {t t' : TGs} (h : PGs X e t) (m : ∀ v σ H Q, t' v σ H Q → t v σ H Q) : PGs X e t' := ⟨fun pins s σ H v u Q I r q => h.run pins s σ H v u Q I r (m _ _ _ _ q)⟩
theorem GPost.ext {K : PySem.W.Frag} {io io' : Io} {H H' : Hp} {r : R Env} {Q : L2.St → Hp → Prop} (e : Ext io H io' H') (h : GPost K ct io H r Q) : GPost K ct io' H' r Q := by
  cases r with
  | ok ro A => exact fun s i h' e2 => h s i h' (e.trans e2)
  | err c fs A => exact h
  | stk => exact h
theorem pgd_name {i : Nat} {x : Str} (hN : X.N.Nodup) (hi : X.N[i]? = some x) (hx : Loc X.env.scope x) (hf : X.fn x = true ∨ X.env.scope.names.lookup x = some .local := by first | exact .inl rfl | exact .inr rfl | assumption) : PGD X ct (.Name x pos) (gNm i) :=
  pg_mono (pg_name hN hi hx hf) fun v σ H Q ⟨io, A, ro, d, s, r, p⟩ => p _ io H Ext.refl ⟨s.hr, s.env.set r⟩
theorem pgsd_nil : PGsD X ct [] [] := pgs_mono pgs_nil fun vs σ H Q ⟨io, A, ro, ds, s, r, p⟩ => by
  cases r with
  | nil => exact ⟨rfl, p σ io H Ext.refl s⟩
  | cons _ _ => exact p.elim
theorem pgsd_cons {es : List Expr} {g : GF} {gl : List GF} (h : PGD X ct e g) (hr : PGsD X ct es gl) (hs : (assignEach (e :: es) X.env).map (·.2) = assign e X.env :: (assignEach es X.env).map (·.2) := by rfl) : PGsD X ct (e :: es) (g :: gl) :=
  pgs_mono (pgs_cons h hr hs) fun vs σ H Q ⟨io, A, ro, ds, s, r, p⟩ => by
    cases r with
    | nil => exact p.elim
    | @cons v vs d ds r rs =>
      refine ⟨v, vs, rfl, io, A, ro, d, s, r, ?_⟩
      have p : GPost X.K ct io H ((g d ro A).bind fun ro A => gTs gl ds ro A) Q := p
      cases hg : g d ro A with
      | ok ro1 A1 => rw [hg] at p; exact fun σ1 io1 H1 e1 s1 => ⟨io1, A1, ro1, ds, s1, rs.mono e1 s.hr.noT, GPost.ext e1 p⟩
      | err c fs A1 => rw [hg] at p; exact p
      | stk => rw [hg] at p; exact p
theorem pgd_tup {es : List Expr} {k : Nat} {gl : List GF} (hc : X.calm = true) (h : PGsD X ct es gl) (hn : (assignEach es X.env).length = gl.length := by rfl) (hst : (assignEach es X.env).findIdx? (·.1) = none := by rfl) : PGD X ct (.Tuple es k pos) (gTpl gl) :=
  pg_mono (pg_tup hc h hn hst) fun v σ H Q ⟨io, A, ro, d, s, r, p⟩ => by
    unfold gTpl at p
    split at p
    · rename_i ds
      split at p
      · rename_i hl
        cases r with
        | tup q rs => exact ⟨_, _, rfl, q.sq, by rw [rs.length]; exact hl, io, A, ro, ds, s, rs, p⟩
      · exact p.elim
    · exact p.elim
theorem out_post {K : PySem.W.Frag} {io : Io} {H : Hp} {r : R Env} {Z : Ends} (h : SPost K ct W io H r.out Z) : GPost K ct io H r Z.nx := by
  cases r with
  | ok ro A => exact h
  | err c fs A => exact h
  | stk => exact h
theorem psd_asg {tg : Expr} {g : GF} (he : PD X ct W e fa) (hg : PGD X ct tg g) (hs : swapsWithSole [tg] e pos.line X.env = pure false := by rfl) (hw : swappedStores [tg] e X.env = pure none := by rfl)
    (h1 : (assignEach [tg] X.env).map (·.2) = [assign tg X.env] := by rfl) : PSD X ct W (.Assign [tg] e pos) (sAsg fa g) :=
  ps_mono (ps_asg he hg hs hw h1) fun Z σ H ⟨io, A, ro, s, p⟩ =>
    ⟨io, A, ro, s, (Post.then (rep := DR X.K ct) s p).mono fun v H1 ⟨io1, A1, d, e1, s1, r, q⟩ => ⟨io1, A1, ro, d, s1, r, out_post q⟩⟩
theorem psd_set {i : Nat} {x : Str} {pos' : Pos} (hN : X.N.Nodup) (hi : X.N[i]? = some x) (hx : Loc X.env.scope x) (he : PD X ct W e fa) (hs : swapsWith e (some (.Name x pos')) pos.line X.env = pure false := by rfl) (hf : X.fn x = true ∨ X.env.scope.names.lookup x = some .local := by first | exact .inl rfl | exact .inr rfl | assumption) :
    PSD X ct W (.Assign [.Name x pos'] e pos) (sAsg fa (gNm i)) :=
  ps_mono (ps_set hN hi hx he hs hf) fun Z σ H ⟨io, A, ro, s, p⟩ =>
    ⟨io, A, ro, s, (Post.then (rep := DR X.K ct) s p).mono fun v H1 ⟨io1, A1, d, e1, s1, r, q⟩ => q _ io1 H1 Ext.refl ⟨s1.hr, s1.env.set r⟩⟩

/-- x, y = a, b (and three), plain names: one after another by their places -/
def sPar (a : AF) (is : List Nat) : SF := fun ro A => (a ro A).then ro fun ds A1 => if ds.length = is.length then .go .nx ((is.zip ds).foldl (fun ro p => ro.set p.1 (some p.2)) ro) A1 else .stk
theorem psd_par {i j : Nat} {x y : Str} {px py pt : Pos} {kt k2 pt2} (hc : X.calm = true) (hN : X.N.Nodup) (hi : X.N[i]? = some x) (hj : X.N[j]? = some y) (hij : i ≠ j)
    (hx : X.env.scope.names.lookup x = some .local) (hy : X.env.scope.names.lookup y = some .local) (ha : PDa X ct W [a, b] fl)
    (hw : swappedStores [.Tuple [.Name x px, .Name y py] kt pt] (.Tuple [a, b] k2 pt2) X.env = pure (some [x, y]))
    (hs : swapsWithSole [.Tuple [.Name x px, .Name y py] kt pt] (.Tuple [a, b] k2 pt2) pos.line X.env = pure false := by rfl) :
    PSD X ct W (.Assign [.Tuple [.Name x px, .Name y py] kt pt] (.Tuple [a, b] k2 pt2) pos) (sPar fl [i, j]) :=
  ps_mono (ps_par hc hN hi hj hij hx hy ha hw hs) fun Z σ H ⟨io, A, ro, s, p⟩ =>
    ⟨io, A, ro, s, (Post.then (rep := DRs X.K ct) s p).mono fun v H1 ⟨io1, A1, d, e1, s1, r, q⟩ => by
      split at q
      · cases r with
        | nil => rename_i hl; cases hl
        | cons r rs => cases rs with
          | nil => rename_i hl; cases hl
          | cons r2 rs => cases rs with
            | nil => exact ⟨_, _, rfl, q _ io1 H1 Ext.refl ⟨s1.hr, (s1.env.set r).set r2⟩⟩
            | cons _ _ => rename_i hl; cases hl
      · exact q.elim⟩
end
end DV

set_option Elab.async false
set_option linter.all false
set_option maxRecDepth 100000
/-! DvG: what changes: stores by place, op= , methods of lists; loops. -/
namespace DV
open PySem PySem.Spec PyProof.Rows L2
section
variable {K : PySem.W.Frag} {ct : String → Addr} {W : WX} {σ : L2.St} {io io' : Io} {H H' : Hp} {A A' : Hd} {ro : Env}
/-- what stands there is not locked -/
theorem nfz {a : Addr} {u0 : HO} (e : H a = some u0) (n : ∀ o u, u0 ≠ .frz o u) : ∀ o u, H a ≠ some (.frz o u) := fun o u z => n o u (by rw [e] at z; exact Option.some.inj z)
theorem nfzL {a : Addr} {xs : List V} (e : H a = some (.lst xs)) : ∀ o u, H a ≠ some (.frz o u) := nfz e fun _ _ z => by cases z
theorem nfzD {a : Addr} {kvs : List (Key × V)} (e : H a = some (.dK kvs)) : ∀ o u, H a ≠ some (.frz o u) := nfz e fun _ _ z => by cases z
theorem Ext.write {a : Addr} {o : HO} (ha : a ∈ io.nm) (hi : ∃ u, H a = some u) (hz : ∀ o u, H a ≠ some (.frz o u)) : Ext io H io (upd H a o) := by
  refine ⟨⟨[], by simp⟩, fun _ h => h, fun _ h => .inl h, fun b h k => absurd h k, fun b x e k => ?_, fun b x e => ?_, fun b o' u e => by rw [upd_ne (fun z : b = a => hz o' u (z ▸ e))]; exact e⟩
  · rw [upd_ne (fun z : b = a => k (z ▸ ha))]; exact e
  · by_cases hb : b = a
    · subst hb; exact ⟨o, upd_same⟩
    · exact ⟨x, by rw [upd_ne hb]; exact e⟩
theorem HR.tracked {n : Nat} {a : Addr} (h : HR K ct io H A) (e : io.nm[n]? = some a) : a ∈ io.nm ∧ ∃ u, H a = some u := by
  refine ⟨List.mem_of_getElem? e, ?_⟩
  obtain ⟨m, hm⟩ := h.has e
  have mr := h.get e hm
  cases m with
  | lst ds => obtain ⟨xs, q, _⟩ := mr; exact ⟨_, q⟩
  | dic es => obtain ⟨xs, q, _⟩ := mr; exact ⟨_, q⟩
  | ins c fs => obtain ⟨dx, gs, q, _⟩ := mr; exact ⟨_, q⟩
  | exc c fs => obtain ⟨d, q, _⟩ := mr; exact ⟨_, q⟩
  | tab es => obtain ⟨o, kvs, q, _⟩ := mr; exact ⟨_, q⟩
theorem HR.write {n : Nat} {a : Addr} {o : HO} {m : M} (h : HR K ct io H A) (e : io.nm[n]? = some a) (hz : ∀ o u, H a ≠ some (.frz o u)) (hm : MR K ct io (upd H a o) a m) : HR K ct io (upd H a o) (A.set n m) := by
  obtain ⟨ha, hu⟩ := h.tracked e
  have x : Ext io H io (upd H a o) := Ext.write ha hu hz
  refine ⟨h.nd, by rw [List.length_set]; exact h.len, fun k b m' e1 e2 => ?_, fun b hb => ?_⟩
  · by_cases hk : n = k
    · subst hk
      have hl : n < A.length := by rw [← h.len]; exact (List.getElem?_eq_some_iff.mp e).1
      rw [List.getElem?_set_self hl] at e2
      rw [e] at e1
      cases e1; cases e2
      exact hm
    · rw [List.getElem?_set_ne hk] at e2
      refine (h.at_ k b m' e1 e2).mono x h.noT fun u q => ?_
      have hb : b ≠ a := fun z => by
        subst z
        obtain ⟨h1, q1⟩ := List.getElem?_eq_some_iff.mp e
        obtain ⟨h2, q2⟩ := List.getElem?_eq_some_iff.mp e1
        exact hk ((List.getElem_inj h.nd).mp (q1.trans q2.symm))
      rw [upd_ne hb]
      exact q
  · obtain ⟨h1, xs, h2⟩ := h.hid b hb
    exact ⟨h1, xs, by rw [upd_ne (fun z : b = a => h1 (z ▸ ha))]; exact h2⟩
/-- the object under n becomes m -/
theorem Sta.write {n : Nat} {a : Addr} {o : HO} {m : M} (s : Sta K ct ro A io σ H) (e : io.nm[n]? = some a) (hz : ∀ o u, H a ≠ some (.frz o u)) (hm : MR K ct io (upd H a o) a m) : Sta K ct ro (A.set n m) io σ (upd H a o) := by
  obtain ⟨ha, hu⟩ := s.hr.tracked e
  exact ⟨s.hr.write e hz hm, s.env.mono (Ext.write ha hu hz) s.hr.noT⟩
theorem HR.extW {n : Nat} {a : Addr} {o : HO} (h : HR K ct io H A) (e : io.nm[n]? = some a) (hz : ∀ o u, H a ≠ some (.frz o u)) : Ext io H io (upd H a o) := by
  obtain ⟨ha, hu⟩ := h.tracked e
  exact Ext.write ha hu hz
/-- the list under a number -/
def numL (A : Hd) : D → Option (Nat × List D)
  | .ref n => match A[n]? with
    | some (.lst ds) => some (n, ds)
    | _ => none
  | _ => none
theorem numL_ok {v : V} {d : D} {n : Nat} {ds : List D} (h : HR K ct io H A) (r : DR K ct io H v d) (e : numL A d = some (n, ds)) : ∃ a xs, v = .ref a ∧ d = .ref n ∧ io.nm[n]? = some a ∧ H a = some (.lst xs) ∧ DRs K ct io H xs ds := by
  cases r with
  | ref q =>
    obtain ⟨m, hm⟩ := h.has q
    have mr := h.get q hm
    unfold numL at e
    dsimp only at e
    rw [hm] at e
    cases m with
    | lst es => cases e; obtain ⟨xs, q1, rs⟩ := mr; exact ⟨_, xs, rfl, rfl, q, q1, rs⟩
    | dic es => cases e
    | ins c fs => cases e
    | exc c fs => cases e
    | tab es => cases e
  | _ => cases e
def numD (A : Hd) : D → Option (Nat × List (Key × D))
  | .ref n => match A[n]? with
    | some (.dic es) => some (n, es)
    | _ => none
  | _ => none
theorem numD_ok {v : V} {d : D} {n : Nat} {es : List (Key × D)} (h : HR K ct io H A) (r : DR K ct io H v d) (e : numD A d = some (n, es)) : ∃ a kvs, v = .ref a ∧ d = .ref n ∧ io.nm[n]? = some a ∧ H a = some (.dK kvs) ∧ kvs.map (·.1) = es.map (·.1) ∧ DRs K ct io H (kvs.map (·.2)) (es.map (·.2)) := by
  cases r with
  | ref q =>
    obtain ⟨m, hm⟩ := h.has q
    have mr := h.get q hm
    unfold numD at e
    dsimp only at e
    rw [hm] at e
    cases m with
    | dic es => cases e; obtain ⟨xs, q1, k, rs⟩ := mr; exact ⟨_, xs, rfl, rfl, q, q1, k, rs⟩
    | lst es => cases e
    | ins c fs => cases e
    | exc c fs => cases e
    | tab es => cases e
  | _ => cases e
def putD (es : List (Key × D)) (k : Key) (v : D) : List (Key × D) :=
  if (es.any fun kv => decide (kv.1 = k)) = true then es.map (fun kv => if kv.1 = k then (kv.1, v) else kv) else es ++ [(k, v)]
def dropD (es : List (Key × D)) (k : Key) : List (Key × D) := es.filter fun kv => decide (kv.1 ≠ k)
theorem keys_any (k : Key) : ∀ {kvs : List (Key × V)} {es : List (Key × D)}, kvs.map (·.1) = es.map (·.1) → (kvs.any fun kv => decide (kv.1 = k)) = es.any fun kv => decide (kv.1 = k)
  | [], [], _ => rfl
  | [], _ :: _, e => by cases e
  | _ :: _, [], e => by cases e
  | p :: kvs, q :: es, e => by
    rw [List.map_cons, List.map_cons] at e
    rw [List.any_cons, List.any_cons, keys_any k (List.cons.inj e).2, (List.cons.inj e).1]
theorem put_keys (k : Key) (v : V) (d : D) {kvs : List (Key × V)} {es : List (Key × D)} (e : kvs.map (·.1) = es.map (·.1)) : (putK kvs k v).map (·.1) = (putD es k d).map (·.1) := by
  unfold putK putD
  rw [keys_any k e]
  split
  · have h1 : ∀ l : List (Key × V), (l.map fun kv => if kv.1 = k then (kv.1, v) else kv).map (·.1) = l.map (·.1) := fun l => by
      rw [List.map_map]
      refine List.map_congr_left fun kv _ => ?_
      show (if kv.1 = k then (kv.1, v) else kv).1 = kv.1
      split <;> rfl
    have h2 : ∀ l : List (Key × D), (l.map fun kv => if kv.1 = k then (kv.1, d) else kv).map (·.1) = l.map (·.1) := fun l => by
      rw [List.map_map]
      refine List.map_congr_left fun kv _ => ?_
      show (if kv.1 = k then (kv.1, d) else kv).1 = kv.1
      split <;> rfl
    rw [h1, h2, e]
  · rw [List.map_append, List.map_append, e]
    rfl
theorem put_vals {k : Key} {v : V} {d : D} (r : DR K ct io H v d) : ∀ {kvs : List (Key × V)} {es : List (Key × D)}, kvs.map (·.1) = es.map (·.1) → DRs K ct io H (kvs.map (·.2)) (es.map (·.2)) → DRs K ct io H ((putK kvs k v).map (·.2)) ((putD es k d).map (·.2)) := by
  intro kvs es e rs
  unfold putK putD
  rw [keys_any k e]
  split
  · have go : ∀ {kvs : List (Key × V)} {es : List (Key × D)}, kvs.map (·.1) = es.map (·.1) → DRs K ct io H (kvs.map (·.2)) (es.map (·.2)) →
        DRs K ct io H ((kvs.map fun kv => if kv.1 = k then (kv.1, v) else kv).map (·.2)) ((es.map fun kv => if kv.1 = k then (kv.1, d) else kv).map (·.2)) := by
      intro kvs
      induction kvs with
      | nil => intro es e rs; cases es with
        | nil => exact .nil
        | cons _ _ => cases e
      | cons p kvs ih => intro es e rs; cases es with
        | nil => cases e
        | cons q es =>
          rw [List.map_cons, List.map_cons] at e rs
          cases rs with
          | cons r1 rs =>
            have h1 : p.1 = q.1 := (List.cons.inj e).1
            have ih := ih (List.cons.inj e).2 rs
            rw [List.map_cons, List.map_cons, List.map_cons, List.map_cons]
            refine .cons ?_ ih
            rw [h1]
            split
            · exact r
            · exact r1
    exact go e rs
  · rw [List.map_append, List.map_append]
    exact rs.append (.cons r .nil)

/-! ### o[i] = v -/
def setD (x y d : D) (ro : Env) (A : Hd) : R Env := match numL A x, y with
  | some (n, ds), .int k => match ixN ds.length k with
    | some j => .ok ro (A.set n (.lst (ds.set j d)))
    | none => .stk
  | some _, _ => .stk
  | none, y => match numD A x, keyD y with
    | some (n, es), some k => if es.length < sizeLine then .ok ro (A.set n (.dic (putD es k d))) else .stk
    | _, _ => .stk
abbrev rSetX : TSet := fun o i v H Q => rSetL o i v H Q ∨ rSetD o i v H Q
theorem set_X {X : Cx} (hu : X.A.units + 1 < cLine) : PSet X rSetX := by
  intro pins s σ H o i v ov iv u Q I ro ri rv h
  rcases h with h | h
  · exact set_list pins s σ H o i v ov iv u Q I ro ri rv h
  · exact set_dict hu pins s σ H o i v ov iv u Q I ro ri rv h
theorem setD_ok {x y v : V} {dx dy d : D} {Q : Hp → Prop} (s : Sta K ct ro A io σ H) (rx : DR K ct io H x dx) (ry : DR K ct io H y dy) (r : DR K ct io H v d)
    (p : GPost K ct io H (setD dx dy d ro A) (fun σ' H' => σ' = σ → Q H')) : rSetX x y v H Q := by
  unfold setD at p
  split at p
  · rename_i n ds k hn
    obtain ⟨a, xs, rfl, rfl, hio, hH, rs⟩ := numL_ok s.hr rx hn
    cases ry
    split at p
    · rename_i j hj
      refine .inl ⟨a, xs, k, j, rfl, rfl, hH, by rw [rs.length]; exact hj, ?_⟩
      have x1 := s.hr.extW (o := .lst (xs.set j v)) hio (nfzL hH)
      exact p σ io _ x1 (s.write hio (nfzL hH) ⟨_, upd_same, (rs.set r j).mono x1 s.hr.noT⟩) rfl
    · exact p.elim
  · exact p.elim
  · split at p
    · rename_i n es k hn hk
      obtain ⟨a, kvs, rfl, rfl, hio, hH, ek, rs⟩ := numD_ok s.hr rx hn
      have ey := keyD_ok ry hk
      subst ey
      split at p
      · rename_i hz
        have hl : kvs.length = es.length := by simpa using congrArg List.length ek
        have x1 := s.hr.extW (o := .dK (putK kvs k v)) hio (nfzD hH)
        exact .inr ⟨a, _, rfl, DPut.k hH (by rw [hl]; exact hz), p σ io _ x1 (s.write hio (nfzD hH) ⟨_, upd_same, put_keys k v d ek, (put_vals r ek rs).mono x1 s.hr.noT⟩) rfl⟩
      · exact p.elim
    · exact p.elim
end
def gAt (o i : EF) : GF := fun d ro A => (o ro A).bind fun x A1 => (i ro A1).bind fun y A2 => setD x y d ro A2
section
variable {X : Cx} {ct : String → Addr} {W : WX} {e a b o i : Expr} {pos : Pos} {fa fb fo fi : EF}
theorem tD_G {K : PySem.W.Frag} {σ : L2.St} {io : Io} {H : Hp} {A : Hd} {ro : Env} {k : D → Hd → R Env} {Q : L2.St → Hp → Prop} (s : Sta K ct ro A io σ H) (p : GPost K ct io H ((fa ro A).bind k) Q) :
    tD K ct (fun _ _ _ _ => False) fa σ H (fun v H1 => ∃ io1 A1 d, Ext io H io1 H1 ∧ Sta K ct ro A1 io1 σ H1 ∧ DR K ct io1 H1 v d ∧ GPost K ct io1 H1 (k d A1) Q) := by
  refine ⟨io, A, ro, s, ?_⟩
  cases h : fa ro A with
  | ok d A1 => rw [h] at p; exact fun v io1 H1 e1 h1 r => ⟨io1, A1, d, e1, s.mono e1 h1, r, GPost.ext e1 p⟩
  | err c fs A1 => rw [h] at p; exact p.elim
  | stk => rw [h] at p; exact p
theorem pgd_at (ho : PD X ct (fun _ _ _ _ => False) o fo) (hi : PD X ct (fun _ _ _ _ => False) i fi) (hu : X.A.units + 1 < cLine)
    (ha : ∀ v, assign (.Subscript o i pos) X.env v = (do
      let ov ← holding [v] (eval o X.env)
      let iv ← holding [v, ov] (eval i X.env)
      standAt pos
      holding [v, ov, iv] (setItem ov iv v)
      release [v, ov, iv] []) := by intro _; rfl) : PGD X ct (.Subscript o i pos) (gAt fo fi) :=
  pg_mono (pg_sub ho hi (set_X hu) ha) fun v σ H Q ⟨io, A, ro, d, s, r, p⟩ => by
    obtain ⟨jo, jA, jr, js, jp⟩ := tD_G (fa := fo) s p
    refine ⟨jo, jA, jr, js, jp.mono fun x H1 ⟨io1, A1, dx, e1, s1, rx, p1⟩ => ?_⟩
    obtain ⟨ko, kA, kr, ks, kp⟩ := tD_G (fa := fi) s1 p1
    refine ⟨ko, kA, kr, ks, kp.mono fun y H2 ⟨io2, A2, dy, e2, s2, ry, p2⟩ => ?_⟩
    refine setD_ok s2 (rx.mono e2 s1.hr.noT) ry ((r.mono e1 s.hr.noT).mono e2 s1.hr.noT) ?_
    cases hs : setD dx dy d ro A2 with
    | ok ro1 A3 =>
      rw [hs] at p2
      exact fun σ' io' H' ex st hσ => by have := p2 σ' io' H' ex st; rw [hσ] at this; exact this
    | err c fs A3 => rw [hs] at p2; exact p2
    | stk => rw [hs] at p2; exact p2
end
end DV

set_option Elab.async false
set_option linter.all false
set_option maxRecDepth 100000
/-! DvH: what is walked, for, while, list comprehensions by data. -/
namespace DV
open PySem PySem.Spec PyProof.Rows L2

/-- what is walked: items by value, or a numbered list that stays as it is -/
inductive Src where
  | fix (ds : List D) | num (n : Nat) (ds : List D) | mix (ds : List D) (ks : List (Nat × List D))
def Src.items : Src → List D
  | .fix ds => ds
  | .num _ ds => ds
  | .mix ds _ => ds
def Src.here : Src → Hd → Prop
  | .fix _, _ => True
  | .num n ds, A => A[n]? = some (.lst ds)
  | .mix _ ks, A => ∀ p ∈ ks, A[p.1]? = some (.lst p.2)
abbrev IF := Env → Hd → R Src

section
variable (K : PySem.W.Frag) (ct : String → Addr)
/-- J walks s from the state (io, H) on -/
def WalkR : Io → Hp → It → Src → Prop := fun io H J s => ∀ io2 H2 A2, Ext io H io2 H2 → HR K ct io2 H2 A2 → s.here A2 →
  (∀ i d, s.items[i]? = some d → J.go i H2 ∧ ∀ x H3, J.yld i H2 x H3 → Ext io2 H2 io2 H3 ∧ HR K ct io2 H3 A2 ∧ DR K ct io2 H3 x d) ∧ ∀ i, s.items.length ≤ i → J.stop i H2
def tI (W : WX) (f : IF) : TI := fun σ H Q => ∃ io A ro, Sta K ct ro A io σ H ∧ Post K ct (WalkR K ct) W σ io H (f ro A) Q
end
abbrev PID (X : Cx) (ct : String → Addr) (W : WX) (tg e : Expr) (f : IF) : Prop := PI X tg e (tI X.K ct W f)
theorem pi_mono {X : Cx} {tg e : Expr} {t t' : TI} (h : PI X tg e t) (m : ∀ σ H Q, t' σ H Q → t σ H Q) : PI X tg e t' := ⟨fun pins s σ H Q I q => h.run pins s σ H Q I (m _ _ _ q)⟩

/-! ### loops -/
/-- behind a turn: on, or out -/
def Out.loop (o : Out) (k : Env → Hd → Out) : Out := match o with
  | .go .nx ro A => k ro A
  | .go .ct ro A => k ro A
  | .go .bk ro A => .go .nx ro A
  | o => o
@[simp] theorem Out.loop_nx (ro : Env) (A : Hd) (k : Env → Hd → Out) : (Out.go .nx ro A).loop k = k ro A := rfl
@[simp] theorem Out.loop_ct (ro : Env) (A : Hd) (k : Env → Hd → Out) : (Out.go .ct ro A).loop k = k ro A := rfl
@[simp] theorem Out.loop_bk (ro : Env) (A : Hd) (k : Env → Hd → Out) : (Out.go .bk ro A).loop k = .go .nx ro A := rfl
@[simp] theorem Out.loop_ret (d : D) (ro : Env) (A : Hd) (k : Env → Hd → Out) : (Out.go (.ret d) ro A).loop k = .go (.ret d) ro A := rfl
@[simp] theorem Out.loop_err (c : Cl) (fs : List (Str × D)) (ro : Env) (A : Hd) (k : Env → Hd → Out) : (Out.err c fs ro A).loop k = .err c fs ro A := rfl
@[simp] theorem Out.loop_stk (k : Env → Hd → Out) : (Out.stk).loop k = .stk := rfl
def whileD (c : TF) (b : SF) : Nat → SF
  | 0 => fun _ _ => .stk
  | n + 1 => fun ro A => (c ro A).then ro fun k A1 => if k then (b ro A1).loop (whileD c b n) else .go .nx ro A1
open Classical in
noncomputable def forD (s : Src) (g : GF) (b : SF) : List D → SF
  | [] => fun ro A => if s.here A then .go .nx ro A else .stk
  | d :: ds => fun ro A => if s.here A then ((g d ro A).out.next b).loop (forD s g b ds) else .stk
noncomputable def sFor (i : IF) (g : GF) (b : SF) : SF := fun ro A => (i ro A).then ro fun s A1 => forD s g b s.items ro A1

section
variable {K : PySem.W.Frag} {ct : String → Addr} {W : WX} {σ : L2.St} {io io' : Io} {H H' : Hp} {A A' : Hd} {ro : Env} {Z Z' : Ends}
theorem SPost.loop {o : Out} {k : Env → Hd → Out} (h : SPost K ct W io H (o.loop k) Z) :
    SPost K ct W io H o { Z with nx := fun σ' H' => ∃ io1 A1 ro1, Ext io H io1 H' ∧ Sta K ct ro1 A1 io1 σ' H' ∧ SPost K ct W io1 H' (k ro1 A1) Z, ct := fun σ' H' => ∃ io1 A1 ro1, Ext io H io1 H' ∧ Sta K ct ro1 A1 io1 σ' H' ∧ SPost K ct W io1 H' (k ro1 A1) Z, bk := Z.nx } := by
  cases o with
  | go f ro A => cases f with
    | nx => exact fun s i h' e q => ⟨i, A, ro, e, q, SPost.ext e h⟩
    | bk => exact h
    | ct => exact fun s i h' e q => ⟨i, A, ro, e, q, SPost.ext e h⟩
    | ret d => exact h
  | err c fs ro A => exact h
  | stk => exact h
end
section
variable {X : Cx} {ct : String → Addr} {W : WX} {e a b : Expr} {pos : Pos} {fa fb : EF} {ft fu : TF} {fl : AF} {sts : List Stmt} {fs : SF}
theorem psd_while (n : Nat) {c : Expr} (hp : PassesOwn (model X.prog X.w) X.A X.env X.xe) (hc : PDt X ct W c ft) (hb : PSsD X ct W sts fs) : PSD X ct W (.While c sts [] pos) (whileD ft fs n) :=
  ps_mono (ps_while hp hc hb) fun Z σ H ⟨io, A, ro, s, p⟩ => by
    refine ⟨fun m σ H => ∃ io A ro, Sta X.K ct ro A io σ H ∧ SPost X.K ct W io H (whileD ft fs m ro A) Z, ⟨n, io, A, ro, s, p⟩, ?_⟩
    rintro m σ H ⟨io, A, ro, s, p⟩
    cases m with
    | zero => exact p.elim
    | succ m =>
      refine ⟨io, A, ro, s, (Post.then (rep := repB) s p).mono fun k H1 ⟨io1, A1, d, e1, s1, r, q⟩ => ?_⟩
      rw [show k = d from r]
      cases d with
      | false => exact q σ io1 H1 Ext.refl s1
      | true =>
        refine ⟨fun σ' H' => ∃ io1 A1 ro1, Sta X.K ct ro1 A1 io1 σ' H' ∧ SPost X.K ct W io1 H' (whileD ft fs m ro1 A1) Z, fun σ' H' h => ⟨m, Nat.lt_succ_self m, h⟩, io1, A1, ro, s1, ?_⟩
        refine q.loop.mono (fun σ H ⟨i, A, r, _, x, y⟩ => ⟨i, A, r, x, y⟩) (fun _ _ h => h) (fun _ _ h => h) (fun σ H ⟨i, A, r, _, x, y⟩ => ⟨i, A, r, x, y⟩)
theorem psd_for {tg iter : Expr} {fi : IF} {g : GF} (hp : PassesOwn (model X.prog X.w) X.A X.env X.xe) (hc : X.calm = true) (hi : PID X ct W tg iter fi) (hg : PGD X ct tg g) (hb : PSsD X ct W sts fs) (hs : ∀ x, foldedSetIterable iter X.env x = pure x := by intro _; rfl) :
    PSD X ct W (.For tg iter sts [] pos) (sFor fi g fs) :=
  ps_mono (ps_for hp hc hi hg hb hs) fun Z σ H ⟨io, A, ro, s, p⟩ => by
    refine ⟨io, A, ro, s, (Post.then (rep := WalkR X.K ct) s p).mono fun J H1 ⟨io1, A1, sr, e1, s1, wk, q⟩ => ?_⟩
    refine ⟨fun i m σ H => ∃ io2 A2 ro2, Ext io1 H1 io2 H ∧ Sta X.K ct ro2 A2 io2 σ H ∧ i + m = sr.items.length ∧ SPost X.K ct W io2 H (forD sr g fs (sr.items.drop i) ro2 A2) Z,
      ⟨sr.items.length, io1, A1, ro, Ext.refl, s1, Nat.zero_add _, q⟩, ?_⟩
    rintro i m σ H ⟨io2, A2, ro2, e2, s2, hm, q2⟩
    cases hd : sr.items.drop i with
    | nil =>
      rw [hd] at q2
      unfold forD at q2
      split at q2
      · rename_i hh
        have hl : sr.items.length ≤ i := by
          have := congrArg List.length hd
          rw [List.length_drop] at this
          simp at this
          omega
        exact .inl ⟨(wk io2 H A2 e2 s2.hr hh).2 i hl, q2 σ io2 H Ext.refl s2⟩
      · exact q2.elim
    | cons d ds =>
      rw [hd] at q2
      unfold forD at q2
      split at q2
      · rename_i hh
        have hx : sr.items[i]? = some d := by
          have := congrArg (fun l => l[0]?) hd
          simpa using this
        have hds : sr.items.drop (i + 1) = ds := by
          have := congrArg (List.drop 1) hd
          simpa [List.drop_drop, Nat.add_comm] using this
        obtain ⟨hgo, hy⟩ := (wk io2 H A2 e2 s2.hr hh).1 i d hx
        have hil : i < sr.items.length := (List.getElem?_eq_some_iff.mp hx).1
        refine .inr ⟨hgo, fun σ' H' => ∃ io3 A3 ro3, Ext io1 H1 io3 H' ∧ Sta X.K ct ro3 A3 io3 σ' H' ∧ SPost X.K ct W io3 H' (forD sr g fs ds ro3 A3) Z,
          fun σ' H' ⟨io3, A3, ro3, e3, s3, q3⟩ => ⟨m - 1, by omega, io3, A3, ro3, e3, s3, by omega, by rw [hds]; exact q3⟩, fun x H3 yy => ?_⟩
        obtain ⟨x1, x2, x3⟩ := hy x H3 yy
        refine ⟨io2, A2, ro2, d, s2.mono x1 x2, x3, ?_⟩
        have q2 := SPost.ext x1 q2
        cases hgd : g d ro2 A2 with
        | err c fs A3 => rw [hgd] at q2; exact q2
        | stk => rw [hgd] at q2; exact q2
        | ok ro3 A3 =>
          rw [hgd] at q2
          intro σ3 io3 H4 e3 s3
          refine ⟨io3, A3, ro3, s3, ?_⟩
          have q3 : SPost X.K ct W io3 H4 ((fs ro3 A3).loop (forD sr g fs ds)) Z := SPost.ext e3 q2
          have e4 := (e2.trans x1).trans e3
          exact q3.loop.mono (fun σ H ⟨i, A, r, x, y, z⟩ => ⟨i, A, r, e4.trans x, y, z⟩) (fun _ _ h => h) (fun _ _ h => h) (fun σ H ⟨i, A, r, x, y, z⟩ => ⟨i, A, r, e4.trans x, y, z⟩)
      · exact q2.elim
end
end DV

set_option Elab.async false
set_option linter.all false
set_option maxRecDepth 100000
/-! DvI: list comprehensions by data; what is walked: lists, tuples, texts, ranges. -/
namespace DV
open PySem PySem.Spec PyProof.Rows L2
section
variable {K : PySem.W.Frag} {ct : String → Addr} {W : WX} {σ : L2.St} {io io' : Io} {H H' : Hp} {A A' : Hd} {ro : Env}
theorem PTup.off {a p : Addr} {xs ys : List V} {o : HO} (e : H p = some (.lst ys)) (h : PTup K H a xs) : PTup K (upd H p o) a xs := by
  rcases h with ⟨u, h, d⟩ | h
  · exact .inl ⟨u, by rw [upd_ne (ne_of h e (by intro z; cases z))]; exact h, d⟩
  · exact .inr h
theorem SqT.off {a p : Addr} {xs ys : List V} {o : HO} (e : H p = some (.lst ys)) (h : SqT K H a xs) : SqT K (upd H p o) a xs := by
  rcases h with (h | ⟨u, h⟩) | h
  · exact .inl (.inl (by rw [upd_ne (ne_of h e (by intro z; cases z))]; exact h))
  · exact .inl (.inr ⟨u, by rw [upd_ne (ne_of h e (by intro z; cases z))]; exact h⟩)
  · exact .inr h
mutual
/-- a held list is filled: the data do not see it -/
theorem DR.step {p : Addr} {ys : List V} {o : HO} (hp : p ∈ io.hd) (e : H p = some (.lst ys)) : ∀ {v : V} {d : D}, DR K ct io H v d → DR K ct io (upd H p o) v d
  | _, _, .non => .non
  | _, _, .bl b => .bl b
  | _, _, .int i => .int i
  | _, _, .str x => .str x
  | _, _, .tup h hs => .tup (PTup.off e h) (DRs.step hp e hs)
  | _, _, .lst n h hs => .lst n (by rw [upd_ne (fun z => n (by rw [z]; exact .inr hp))]; exact h) (DRs.step hp e hs)
  | _, _, .scr h hs => .scr (h.elim (fun ⟨n, u, q⟩ => .inl ⟨n, u, by rw [upd_ne (fun z => n (by rw [z]; exact .inr hp))]; exact q⟩) .inr) (DRs.step hp e hs)
  | _, _, .dic n h k hs => .dic n (by rw [upd_ne (fun z => n (by rw [z]; exact .inr hp))]; exact h) k (DRs.step hp e hs)
  | _, _, .ref h => .ref h
  | _, _, .ty n => .ty n
  | _, _, .own n => .own n
theorem DRs.step {p : Addr} {ys : List V} {o : HO} (hp : p ∈ io.hd) (e : H p = some (.lst ys)) : ∀ {vs : List V} {ds : List D}, DRs K ct io H vs ds → DRs K ct io (upd H p o) vs ds
  | _, _, .nil => .nil
  | _, _, .cons h hs => .cons (DR.step hp e h) (DRs.step hp e hs)
end
mutual
/-- fewer objects are held, the same numbers -/
theorem DR.free (hn : io'.nm = io.nm) (hd : ∀ a ∈ io'.hd, a ∈ io.hd) : ∀ {v : V} {d : D}, DR K ct io H v d → DR K ct io' H v d
  | _, _, .non => .non
  | _, _, .bl b => .bl b
  | _, _, .int i => .int i
  | _, _, .str x => .str x
  | _, _, .tup h hs => .tup h (DRs.free hn hd hs)
  | _, _, .lst n h hs => .lst (fun z => n (z.elim (fun z => .inl (by rw [← hn]; exact z)) fun z => .inr (hd _ z))) h (DRs.free hn hd hs)
  | _, _, .scr h hs => .scr (h.elim (fun ⟨n, q⟩ => .inl ⟨fun z => n (z.elim (fun z => .inl (by rw [← hn]; exact z)) fun z => .inr (hd _ z)), q⟩) .inr) (DRs.free hn hd hs)
  | _, _, .dic n h k hs => .dic (fun z => n (z.elim (fun z => .inl (by rw [← hn]; exact z)) fun z => .inr (hd _ z))) h k (DRs.free hn hd hs)
  | _, _, .ref h => .ref (by rw [hn]; exact h)
  | _, _, .ty n => .ty n
  | _, _, .own n => .own n
theorem DRs.free (hn : io'.nm = io.nm) (hd : ∀ a ∈ io'.hd, a ∈ io.hd) : ∀ {vs : List V} {ds : List D}, DRs K ct io H vs ds → DRs K ct io' H vs ds
  | _, _, .nil => .nil
  | _, _, .cons h hs => .cons (DR.free hn hd h) (DRs.free hn hd hs)
end
theorem MR.step {p a : Addr} {ys : List V} {o : HO} {m : M} (hp : p ∈ io.hd) (e : H p = some (.lst ys)) (ne : a ≠ p) (h : MR K ct io H a m) : MR K ct io (upd H p o) a m := by
  cases m with
  | lst ds => obtain ⟨xs, q, r⟩ := h; exact ⟨xs, by rw [upd_ne ne]; exact q, r.step hp e⟩
  | dic es => obtain ⟨xs, q, k, r⟩ := h; exact ⟨xs, by rw [upd_ne ne]; exact q, k, r.step hp e⟩
  | tab es => obtain ⟨o', xs, q, k, r⟩ := h; exact ⟨o', xs, by rw [upd_ne ne]; exact q, k, r.step hp e⟩
  | ins c fs => obtain ⟨dx, gs, q, k, r⟩ := h; exact ⟨dx, gs, by rw [upd_ne ne]; exact q, k, r.step hp e⟩
  | exc c fs =>
    obtain ⟨d, q, z⟩ := h
    refine ⟨d, by rw [upd_ne ne]; exact q, z.imp id ?_⟩
    rintro ⟨pp, gs, h1, h2, h3, h4, h5⟩
    exact ⟨pp, gs, h1, h2, by rw [upd_ne (fun w => h2 (by rw [w]; exact .inr hp))]; exact h3, h4, h5.step hp e⟩
theorem MR.free {a : Addr} {m : M} (hn : io'.nm = io.nm) (hd : ∀ a ∈ io'.hd, a ∈ io.hd) (h : MR K ct io H a m) : MR K ct io' H a m := by
  cases m with
  | lst ds => obtain ⟨xs, q, r⟩ := h; exact ⟨xs, q, r.free hn hd⟩
  | dic es => obtain ⟨xs, q, k, r⟩ := h; exact ⟨xs, q, k, r.free hn hd⟩
  | tab es => obtain ⟨o', xs, q, k, r⟩ := h; exact ⟨o', xs, q, k, r.free hn hd⟩
  | ins c fs => obtain ⟨dx, gs, q, k, r⟩ := h; exact ⟨dx, gs, q, k, r.free hn hd⟩
  | exc c fs =>
    obtain ⟨d, q, z⟩ := h
    refine ⟨d, q, z.imp id ?_⟩
    rintro ⟨p, gs, h1, h2, h3, h4, h5⟩
    exact ⟨p, gs, h1, fun w => h2 (w.elim (fun w => .inl (by rw [← hn]; exact w)) fun w => .inr (hd _ w)), h3, h4, h5.free hn hd⟩
theorem HR.step {p : Addr} {ys zs : List V} (h : HR K ct io H A) (hp : p ∈ io.hd) (e : H p = some (.lst ys)) : HR K ct io (upd H p (.lst zs)) A := by
  refine ⟨h.nd, h.len, fun n a m e1 e2 => (h.at_ n a m e1 e2).step hp e fun z => (h.hid p hp).1 (by rw [← z]; exact List.mem_of_getElem? e1), fun a ha => ⟨(h.hid a ha).1, ?_⟩⟩
  by_cases hb : a = p
  · subst hb; exact ⟨zs, upd_same⟩
  · obtain ⟨xs, q⟩ := (h.hid a ha).2
    exact ⟨xs, by rw [upd_ne hb]; exact q⟩
theorem HR.free (h : HR K ct io H A) (hn : io'.nm = io.nm) (hd : ∀ a ∈ io'.hd, a ∈ io.hd) : HR K ct io' H A :=
  ⟨by rw [hn]; exact h.nd, by rw [hn]; exact h.len, fun n a m e1 e2 => (h.at_ n a m (by rw [← hn]; exact e1) e2).free hn hd, fun a ha => by rw [hn]; exact h.hid a (hd a ha)⟩
theorem Ext.hold {p : Addr} {xs : List V} (n : H p = none) : Ext io H (io.hold p) (upd H p (.lst xs)) := by
  refine ⟨⟨[], by simp [Io.hold]⟩, fun a h => List.mem_cons_of_mem _ h, fun a h => ?_, fun b h k => absurd h k, fun b x e k => ?_, fun b x e => ?_, fun b o u e => by rw [upd_ne (ne_of_none e n)]; exact e⟩
  · rcases List.mem_cons.mp h with h | h
    · rw [h]; exact .inr n
    · exact .inl h
  · rw [upd_ne (ne_of_none e n)]; exact e
  · exact ⟨x, by rw [upd_ne (ne_of_none e n)]; exact e⟩
theorem HR.hold {p : Addr} {xs : List V} (h : HR K ct io H A) (n : H p = none) : HR K ct (io.hold p) (upd H p (.lst xs)) A := by
  refine ⟨h.nd, h.len, fun k a m e1 e2 => (h.at_ k a m e1 e2).mono (Ext.hold n) h.noT fun o e => by rw [upd_ne (ne_of_none e n)]; exact e, fun a ha => ?_⟩
  rcases List.mem_cons.mp ha with ha | ha
  · subst ha
    exact ⟨fun z => h.ne n (.inl z), xs, upd_same⟩
  · obtain ⟨h1, xs, h2⟩ := h.hid a ha
    exact ⟨h1, xs, by rw [upd_ne (ne_of_none h2 n)]; exact h2⟩
/-- the held list is changed: seen from a state where it was not -/
theorem Ext.stepNew {p : Addr} {o : HO} (x : Ext io H io' H') (n : H p = none) (ht : ∃ u, H' p = some u) : Ext io H io' (upd H' p o) := by
  refine ⟨x.pre, x.hd1, x.hd2, x.fresh, fun b u e k => ?_, fun b u e => ?_, fun b o' u e => by rw [upd_ne (ne_of_none e n)]; exact x.frz b o' u e⟩
  · rw [upd_ne (ne_of_none e n)]; exact x.keep b u e k
  · obtain ⟨o', e'⟩ := x.there b u e
    exact ⟨o', by rw [upd_ne (ne_of_none e n)]; exact e'⟩
/-- .. no longer held -/
theorem Ext.free {io2 : Io} (x : Ext io H io' H') (hn : io2.nm = io'.nm) (h1 : ∀ a ∈ io.hd, a ∈ io2.hd) (h2 : ∀ a ∈ io2.hd, a ∈ io'.hd) : Ext io H io2 H' :=
  ⟨by rw [hn]; exact x.pre, h1, fun a ha => x.hd2 a (h2 a ha), fun b h k => x.fresh b (by rw [← hn]; exact h) k, x.keep, x.there, x.frz⟩
end

/-! ### a comprehension's target, its turn -/
inductive Pat where
  | one (i : Nat) | tup (is : List Nat)
def setAll (ro : Env) (is : List Nat) (ds : List D) : Env := (is.zip ds).foldl (fun ro p => ro.set p.1 (some p.2)) ro
def Pat.put (pt : Pat) (d : D) (ro : Env) : Option Env := match pt, d with
  | .one i, d => some (ro.set i (some d))
  | .tup is, .tup ds => if ds.length = is.length then some (setAll ro is ds) else none
  | _, _ => none
def wipeD (ro : Env) : List Nat → Env
  | [] => ro
  | v :: vs => (wipeD ro vs).set v none
/-- no error is let out -/
def R.calm {α : Type} (r : R α) : R α := match r with
  | .err _ _ _ => .stk
  | r => r
open Classical in
noncomputable def compD (s : Src) (pt : Pat) (vs : List Nat) (tt : TF) (te : EF) (ro : Env) : List D → List D → Hd → R (List D)
  | [], acc, A => if s.here A then .ok acc A else .stk
  | d :: ds, acc, A => if s.here A then (match pt.put d (wipeD ro vs) with
      | some ro1 => (tt ro1 A).calm.bind fun b A1 => if b then (te ro1 A1).calm.bind fun y A2 => if acc.length < sizeLine then compD s pt vs tt te ro ds (acc ++ [y]) A2 else .stk else compD s pt vs tt te ro ds acc A1
      | none => .stk) else .stk
noncomputable def eComp (i : IF) (pt : Pat) (vs : List Nat) (tt : TF) (te : EF) : EF := fun ro A => (i ro A).bind fun s A1 => (compD s pt vs tt te ro s.items [] A1).bind fun ds A2 => .ok (.lst ds) A2
noncomputable def eCompM (i : IF) (pt : Pat) (vs : List Nat) (tt : TF) (te : EF) : EF := fun ro A => (i ro A).bind fun s A1 => (compD s pt vs tt te ro s.items [] A1).bind fun ds A2 => .ok (.ref A2.length) (A2 ++ [.lst ds])
def ttYes : TF := fun _ A => .ok true A
def gNames : List Nat → TGs
  | [] => gNil
  | i :: is => gCons (gName i) (gNames is)
def Pat.g (K : PySem.W.Frag) : Pat → TG
  | .one i => gName i
  | .tup is => gTup K is.length (gNames is)
def Pat.slots : Pat → List Nat
  | .one i => [i]
  | .tup is => is
theorem wipe_set {σ : L2.St} {i : Nat} {v : Option V} : ∀ {vs : List Nat}, i ∈ vs → wipe (σ.set i v) vs = wipe σ vs
  | [], h => by cases h
  | j :: vs, h => by
    unfold wipe
    by_cases hij : i ∈ vs
    · rw [wipe_set hij]
    · have hj : i = j := (List.mem_cons.mp h).resolve_right hij
      subst hj
      have go : ∀ (vs : List Nat) (τ : L2.St), i ∉ vs → wipe (τ.set i v) vs = (wipe τ vs).set i v := by
        intro vs
        induction vs with
        | nil => intro τ _; rfl
        | cons k vs ih =>
          intro τ hn
          have h1 : i ≠ k := fun z => hn (by rw [z]; exact List.mem_cons_self)
          have h2 : i ∉ vs := fun z => hn (List.mem_cons_of_mem _ z)
          unfold wipe
          rw [ih τ h2, List.set_comm _ _ h1]
      rw [go vs σ hij]
      rw [List.set_set]
theorem wipe_wipe {σ : L2.St} (vs : List Nat) : wipe (wipe σ vs) vs = wipe σ vs := by
  have go : ∀ (us : List Nat) (τ : L2.St), (∀ i ∈ us, i ∈ vs) → wipe (wipe τ us) vs = wipe τ vs := by
    intro us
    induction us with
    | nil => intro τ _; rfl
    | cons u us ih =>
      intro τ h
      show wipe ((wipe τ us).set u none) vs = wipe τ vs
      rw [wipe_set (h u List.mem_cons_self), ih τ fun i hi => h i (List.mem_cons_of_mem _ hi)]
  exact go vs σ fun i hi => hi
section
variable {K : PySem.W.Frag} {ct : String → Addr} {W : WX} {σ : L2.St} {io io' : Io} {H H' : Hp} {A A' : Hd} {ro : Env}
theorem EnvR.wipe (h : EnvR K ct io H ro σ) : ∀ vs : List Nat, EnvR K ct io H (wipeD ro vs) (L2.wipe σ vs)
  | [] => h
  | v :: vs => by
    have ih := EnvR.wipe h vs
    refine ⟨by show ((wipeD ro vs).set v none).length = ((L2.wipe σ vs).set v none).length; rw [List.length_set, List.length_set, ih.len], fun i d e => ?_⟩
    have e : ((wipeD ro vs).set v none)[i]? = some (some d) := e
    by_cases hi : v = i
    · subst hi
      by_cases hl : v < (wipeD ro vs).length
      · rw [List.getElem?_set_self hl] at e; cases e
      · rw [List.getElem?_eq_none (by rw [List.length_set]; omega)] at e; cases e
    · rw [List.getElem?_set_ne hi] at e
      obtain ⟨w, e1, r⟩ := ih.at_ i d e
      exact ⟨w, by show ((L2.wipe σ vs).set v none)[i]? = _; rw [List.getElem?_set_ne hi]; exact e1, r⟩
/-- the target takes the item -/
theorem Pat.take {pt : Pat} {vs : List Nat} {x : V} {d : D} {ro1 : Env} {Q : L2.St → Hp → Prop} (hs : ∀ i ∈ pt.slots, i ∈ vs) (he : EnvR K ct io H (wipeD ro vs) (L2.wipe σ vs)) (r : DR K ct io H x d) (hp : pt.put d (wipeD ro vs) = some ro1)
    (hQ : ∀ σ2, EnvR K ct io H ro1 σ2 → L2.wipe σ2 vs = L2.wipe σ vs → Q σ2 H) : pt.g K x (L2.wipe σ vs) H Q := by
  cases pt with
  | one i =>
    cases hp
    refine hQ _ (he.set r) ?_
    rw [wipe_set (hs i List.mem_cons_self), wipe_wipe]
  | tup is =>
    unfold Pat.put at hp
    split at hp
    · rename_i h2
      cases h2
    · rename_i is' ds h1
      cases h1
      split at hp
      · rename_i hl
        cases hp
        cases r with
        | @tup a xs _ q rs =>
          refine ⟨a, xs, rfl, q.sq, by rw [rs.length]; exact hl, ?_⟩
          have go : ∀ (is : List Nat) (xs : List V) (ds : List D) (ro0 : Env) (σ0 : L2.St), DRs K ct io H xs ds → ds.length = is.length → (∀ i ∈ is, i ∈ vs) → EnvR K ct io H ro0 σ0 → L2.wipe σ0 vs = L2.wipe σ vs →
              (∀ σ2, EnvR K ct io H (setAll ro0 is ds) σ2 → L2.wipe σ2 vs = L2.wipe σ vs → Q σ2 H) → gNames is xs σ0 H Q := by
            intro is
            induction is with
            | nil =>
              intro xs ds ro0 σ0 rs hl _ h0 hw hQ
              cases rs with
              | nil => exact ⟨rfl, hQ σ0 h0 hw⟩
              | cons _ _ => cases hl
            | cons i is ih =>
              intro xs ds ro0 σ0 rs hl hi h0 hw hQ
              cases rs with
              | nil => cases hl
              | @cons v vs' d ds r rs =>
                refine ⟨v, vs', rfl, ?_⟩
                refine ih vs' ds _ _ rs (by simpa using hl) (fun j hj => hi j (List.mem_cons_of_mem _ hj)) (h0.set r) ?_ hQ
                rw [wipe_set (hi i List.mem_cons_self)]
                exact hw
          exact go is xs ds _ _ rs hl hs he (wipe_wipe vs) hQ
      · cases hp
    · cases hp
end
theorem Post.calm {K : PySem.W.Frag} {ct : String → Addr} {W W' : WX} {σ σ' : L2.St} {io ic : Io} {H Hc : Hp} {α β γ δ : Type} {rep : Io → Hp → β → α → Prop} {rep2 : Io → Hp → δ → γ → Prop} {r : R α} {k : α → Hd → R γ} {Q : δ → Hp → Prop} (h : Post K ct rep2 W σ io H (r.calm.bind k) Q) :
    Post K ct rep W' σ' ic Hc r (fun b H1 => ∃ io1 A1 a, Ext ic Hc io1 H1 ∧ HR K ct io1 H1 A1 ∧ rep io1 H1 b a ∧ Post K ct rep2 W σ io H (k a A1) Q) := by
  cases r with
  | ok a A => exact fun b io1 H1 e h1 r => ⟨io1, A, a, e, h1, r, h⟩
  | err c fs A => exact (show False from h).elim
  | stk => exact h
section
variable {X : Cx} {ct : String → Addr} {W : WX} {e a b : Expr} {pos : Pos} {fa fb : EF} {ft fu : TF} {fl : AF}
abbrev W0 : WX := fun _ _ _ _ => False
/-- the reading of a comprehension, from its function; fin says what is wanted of the list -/
theorem comp_D {K : PySem.W.Frag} {fi : IF} {pt : Pat} {vs : List Nat} {tt : TF} {te : EF} (hs : ∀ i ∈ pt.slots, i ∈ vs) {σ : L2.St} {H : Hp} {Q : VK} {io : Io} {A : Hd} {ro : Env} (st : Sta K ct ro A io σ H) {k : List D → Hd → R D}
    (p : Post K ct (DR K ct) W σ io H ((fi ro A).bind fun s A1 => (compD s pt vs tt te ro s.items [] A1).bind k) Q)
    (fin : ∀ (io2 io3 : Io) H2 A2 p ws ds, io3.nm = io2.nm → io3.hd = p :: io2.hd → HR K ct io3 H2 A2 → H2 p = some (.lst ws) → DRs K ct io3 H2 ws ds → HR K ct io2 H2 A2 → p ∉ io2 → Post K ct (DR K ct) W σ io2 H2 (k ds A2) Q → Q (.ref p) H2) :
    tLc (tI K ct W fi) (pt.g K) (tT K ct W0 tt) (tD K ct W0 te) vs σ H Q := by
  refine ⟨io, A, ro, st, (p.bind (rep := WalkR K ct)).mono ?_⟩
  rintro J H1 ⟨io1, A1, sr, e1, h1, wk, p1⟩ q hq
  have en1 : EnvR K ct io1 H1 ro σ := st.env.mono e1 st.hr.noT
  have x0 : Ext io1 H1 (io1.hold q) (upd H1 q (.lst [])) := Ext.hold hq
  have hqn : q ∉ io1 := h1.ne hq
  refine ⟨fun i m H => ∃ io2 A2 ws acc, io2.hd = q :: io1.hd ∧ Ext io1 H1 io2 H ∧ HR K ct io2 H A2 ∧ H q = some (.lst ws) ∧ DRs K ct io2 H ws acc ∧ i + m = sr.items.length ∧ Post K ct (DR K ct) W σ io1 H1 ((compD sr pt vs tt te ro (sr.items.drop i) acc A2).bind k) Q,
    ⟨sr.items.length, io1.hold q, A1, [], [], rfl, x0, h1.hold hq, upd_same, .nil, Nat.zero_add _, p1⟩, ?_⟩
  rintro i m H2 ⟨io2, A2, ws, acc, hhd, e2, h2, hw, hr, hm, p2⟩
  have hq2 : q ∈ io2.hd := by rw [hhd]; exact List.mem_cons_self
  cases hd : sr.items.drop i with
  | nil =>
    rw [hd] at p2
    unfold compD at p2
    split at p2
    · rename_i hh
      have hl : sr.items.length ≤ i := by
        have := congrArg List.length hd
        rw [List.length_drop] at this
        simp at this
        omega
      have sub : ∀ a ∈ io1.hd, a ∈ io2.hd := fun a ha => by rw [hhd]; exact List.mem_cons_of_mem _ ha
      refine .inl ⟨(wk io2 H2 A2 e2 h2 hh).2 i hl, ?_⟩
      refine fin ⟨io2.nm, io1.hd⟩ io2 H2 A2 q ws acc rfl hhd h2 hw hr (h2.free rfl sub) (fun z => ?_) (Post.ext (e2.free rfl (fun _ h => h) sub) p2)
      rcases z with z | z
      · exact (h2.hid q hq2).1 z
      · exact hqn (.inr z)
    · exact p2.elim
  | cons d ds =>
    rw [hd] at p2
    unfold compD at p2
    split at p2
    · rename_i hh
      have hx : sr.items[i]? = some d := by
        have := congrArg (fun l => l[0]?) hd
        simpa using this
      have hds : sr.items.drop (i + 1) = ds := by
        have := congrArg (List.drop 1) hd
        simpa [List.drop_drop, Nat.add_comm] using this
      obtain ⟨hgo, hy⟩ := (wk io2 H2 A2 e2 h2 hh).1 i d hx
      have hil : i < sr.items.length := (List.getElem?_eq_some_iff.mp hx).1
      refine .inr ⟨hgo, fun H' => ∃ io3 A3 ws acc, io3.hd = q :: io1.hd ∧ Ext io1 H1 io3 H' ∧ HR K ct io3 H' A3 ∧ H' q = some (.lst ws) ∧ DRs K ct io3 H' ws acc ∧ Post K ct (DR K ct) W σ io1 H1 ((compD sr pt vs tt te ro ds acc A3).bind k) Q,
        fun H' ⟨io3, A3, ws, acc, g1, g2, g3, g4, g5, g6⟩ => ⟨m - 1, by omega, io3, A3, ws, acc, g1, g2, g3, g4, g5, by omega, by rw [hds]; exact g6⟩, fun x H3 yy => ?_⟩
      obtain ⟨x1, x2, x3⟩ := hy x H3 yy
      have e3 := e2.trans x1
      have hw3 : H3 q = some (.lst ws) := x1.keep q _ hw (h2.hid q hq2).1
      have hr3 := hr.mono x1 h2.noT
      split at p2
      · rename_i ro1 hput
        refine Pat.take (K := K) hs ((en1.mono e3 h1.noT).wipe vs) x3 hput fun σ2 he hσ => ⟨hσ, ?_⟩
        rw [R.bind_assoc] at p2
        refine ⟨io2, A2, ro1, ⟨x2, he⟩, (Post.calm (rep := repB) p2).mono ?_⟩
        rintro b H4 ⟨io4, A4, b', e4, h4, rb, p4⟩
        rw [show b = b' from rb]
        have e14 := e3.trans e4
        cases b' with
        | false =>
          have s4 : ∀ a ∈ (q :: io1.hd), a ∈ io4.hd := fun a ha => e4.hd1 a (by rw [hhd]; exact ha)
          have f4 : Ext io1 H1 ⟨io4.nm, q :: io1.hd⟩ H4 := e14.free rfl (fun a ha => List.mem_cons_of_mem _ ha) s4
          exact ⟨⟨io4.nm, q :: io1.hd⟩, A4, ws, acc, rfl, f4, h4.free rfl s4, e4.keep q _ hw3 (h2.hid q hq2).1, DRs.free (io := io4) (io' := ⟨io4.nm, q :: io1.hd⟩) rfl s4 (hr3.mono e4 x2.noT), p4⟩
        | true =>
          have p4 : Post K ct (DR K ct) W σ io1 H1 (((te ro1 A4).calm.bind fun y A2 => if acc.length < sizeLine then compD sr pt vs tt te ro ds (acc ++ [y]) A2 else .stk).bind k) Q := p4
          rw [R.bind_assoc] at p4
          refine ⟨io4, A4, ro1, ⟨h4, he.mono e4 x2.noT⟩, (Post.calm (rep := DR K ct) p4).mono ?_⟩
          rintro y H5 ⟨io5, A5, dy, e5, h5, ry, p5⟩
          have e45 := e4.trans e5
          have hw5 : H5 q = some (.lst ws) := e45.keep q _ hw3 (h2.hid q hq2).1
          split at p5
          · rename_i hz
            refine ⟨ws, hw5, by rw [hr.length]; exact hz, ?_⟩
            have s5 : ∀ a ∈ (q :: io1.hd), a ∈ io5.hd := fun a ha => e45.hd1 a (by rw [hhd]; exact ha)
            have hq5 : q ∈ io5.hd := s5 q List.mem_cons_self
            have f5 : Ext io1 H1 ⟨io5.nm, q :: io1.hd⟩ (upd H5 q (.lst (ws ++ [y]))) := ((e3.trans e45).stepNew hq ⟨_, hw5⟩).free rfl (fun a ha => List.mem_cons_of_mem _ ha) s5
            refine ⟨⟨io5.nm, q :: io1.hd⟩, A5, ws ++ [y], acc ++ [dy], rfl, f5, (h5.step hq5 hw5).free rfl s5, upd_same, ?_, p5⟩
            exact DRs.free (io := io5) (io' := ⟨io5.nm, q :: io1.hd⟩) rfl s5 ((((hr3.mono e4 x2.noT).mono e5 h4.noT).append (.cons ry .nil)).step hq5 hw5)
          · exact p5.elim
      · exact p2.elim
    · exact p2.elim
theorem pd_comp {fi : IF} {pt : Pat} {tt : TF} {te : EF} {elt tg iter : Expr} {ifs : List Expr} {scope : Scope} {own : List (Str × Nat)} (hc : X.calm = true) (hN : X.N.Nodup) (hi : PID X ct W tg iter fi) (ok : BlkOk X.N X.env.scope scope own) (hs' : ∀ i ∈ pt.slots, i ∈ own.map (·.2))
    (hg : ∀ (s : Shared) (H : Hp) (C : Addr) (cl : List (Str × Addr)) (fp : List Addr), PG (X.blk s H scope (compEnvC scope cl C X.env) fp) tg (pt.g X.K)) (ht : ∀ (s : Shared) (H : Hp) (C : Addr) (cl : List (Str × Addr)) (fp : List Addr), PTs (X.blk s H scope (compEnvC scope cl C X.env) fp) ifs (tT X.K ct W0 tt))
    (he : ∀ (s : Shared) (H : Hp) (C : Addr) (cl : List (Str × Addr)) (fp : List Addr), PD (X.blk s H scope (compEnvC scope cl C X.env) fp) ct W0 elt te) (hs : ∀ x, foldedSetIterable iter X.env x = pure x := by intro _; rfl) :
    PD X ct W (.ListComp elt [⟨tg, iter, ifs, 0⟩] scope pos) (eComp fi pt (own.map (·.2)) tt te) :=
  pe_mono (pe_lc hc hN hi ok hg ht he hs) fun σ H Q ⟨io, A, ro, s, p⟩ =>
    comp_D hs' s p fun io2 io3 H2 A2 p ws ds g1 g2 g3 g4 g5 g6 g7 g8 => g8.here g6 (.lst g7 g4 (g5.free g1.symm fun a ha => by rw [g2]; exact List.mem_cons_of_mem _ ha))
theorem psd_setComp {fi : IF} {pt : Pat} {tt : TF} {te : EF} {i : Nat} {y : Str} {py spos : Pos} {elt tg iter : Expr} {ifs : List Expr} {scope : Scope} {own : List (Str × Nat)} (hc : X.calm = true) (hN : X.N.Nodup) (hy : X.N[i]? = some y) (hyl : X.env.scope.names.lookup y = some .local)
    (hsw : swapsWith (.ListComp elt [⟨tg, iter, ifs, 0⟩] scope pos) (some (.Name y py)) spos.line X.env = pure true) (hi : PID X ct W tg iter fi) (ok : BlkOk X.N X.env.scope scope own) (hs' : ∀ i ∈ pt.slots, i ∈ own.map (·.2))
    (hg : ∀ (s : Shared) (H : Hp) (C : Addr) (cl : List (Str × Addr)) (fp : List Addr), PG (X.blk s H scope (compEnvC scope cl C X.env) fp) tg (pt.g X.K)) (ht : ∀ (s : Shared) (H : Hp) (C : Addr) (cl : List (Str × Addr)) (fp : List Addr), PTs (X.blk s H scope (compEnvC scope cl C X.env) fp) ifs (tT X.K ct W0 tt))
    (he : ∀ (s : Shared) (H : Hp) (C : Addr) (cl : List (Str × Addr)) (fp : List Addr), PD (X.blk s H scope (compEnvC scope cl C X.env) fp) ct W0 elt te) (hs : ∀ x, foldedSetIterable iter X.env x = pure x := by intro _; rfl) :
    PSD X ct W (.Assign [.Name y py] (.ListComp elt [⟨tg, iter, ifs, 0⟩] scope pos) spos) (sAsg (eComp fi pt (own.map (·.2)) tt te) (gNm i)) :=
  ps_mono (ps_setLc hc hN hy hyl hsw hi ok hg ht he hs) fun Z σ H ⟨io, A, ro, s, p⟩ => by
    have p' : Post X.K ct (DR X.K ct) W σ io H (eComp fi pt (own.map (·.2)) tt te ro A) (fun x H1 => Z.nx (σ.set i (some x)) H1) :=
      (Post.then (rep := DR X.K ct) s p).mono fun v H1 ⟨io1, A1, d, e1, s1, r, q⟩ => q _ io1 H1 Ext.refl ⟨s1.hr, s1.env.set r⟩
    exact comp_D hs' s p' fun io2 io3 H2 A2 p ws ds g1 g2 g3 g4 g5 g6 g7 g8 => g8.here g6 (.lst g7 g4 (g5.free g1.symm fun a ha => by rw [g2]; exact List.mem_cons_of_mem _ ha))
theorem ptsd_nil : PTs X [] (tT X.K ct W ttYes) := ⟨fun pins s σ H Q I ⟨io, A, ro, st, p⟩ => pts_nil.run pins s σ H Q I (p.here st.hr rfl)⟩
theorem ptsd_one {c : Expr} (h : PDt X ct W c ft) : PTs X [c] (tT X.K ct W ft) := pts_one h
end
end DV

set_option Elab.async false
set_option linter.all false
set_option maxRecDepth 100000
/-! DvJ: what is walked; op=; methods of lists; defs by their functions on data. -/
namespace DV
open PySem PySem.Spec PyProof.Rows L2

/-! ### what is walked -/
def charsD (x : Str) : List D := x.cps.toList.map fun c => .str ⟨#[c]⟩
def srcD (d : D) (A : Hd) : Option Src := match d with
  | .tup ds => some (.fix ds)
  | .lst ds => some (.fix ds)
  | .scr ds => some (.fix ds)
  | .str x => some (.fix (charsD x))
  | .ref n => match A[n]? with
    | some (.lst ds) => some (.num n ds)
    | _ => none
  | _ => none
def iSeq (a : EF) : IF := fun ro A => (a ro A).bind fun d A1 => match srcD d A1 with
  | some s => .ok s A1
  | none => .stk
def rangeD (lo : Int) (n : Nat) : List D := (List.range n).map fun i => .int (lo + (i : Nat))
def iRange1 (a : AF) : IF := fun ro A => (a ro A).bind fun ds A1 => match ds with
  | [.int j] => if -(2 ^ 62) ≤ j ∧ j < 2 ^ 62 then .ok (.fix (rangeD 0 j.toNat)) A1 else .stk
  | _ => .stk
def iRange2 (a : AF) : IF := fun ro A => (a ro A).bind fun ds A1 => match ds with
  | [.int i, .int j] => if -(2 ^ 62) ≤ i ∧ i < 2 ^ 62 ∧ -(2 ^ 62) ≤ j ∧ j < 2 ^ 62 then .ok (.fix (rangeD i (j - i).toNat)) A1 else .stk
  | _ => .stk
def enumD (ds : List D) : List D := ds.zipIdx.map fun p => .tup [.int (p.2 : Nat), p.1]
section
variable {K : PySem.W.Frag} {ct : String → Addr} {W : WX} {σ : L2.St} {io io' : Io} {H H' : Hp} {A A' : Hd} {ro : Env}
theorem walkL {a : Addr} {s : Src} (hs : ∀ io2 H2 A2, Ext io H io2 H2 → HR K ct io2 H2 A2 → s.here A2 → ∃ xs, SqL K H2 a xs ∧ DRs K ct io2 H2 xs s.items) : WalkR K ct io H (Itl K a) s := by
  intro io2 H2 A2 e h hh
  obtain ⟨xs, q, rs⟩ := hs io2 H2 A2 e h hh
  refine ⟨fun i d hd => ?_, fun i hi => ⟨xs, q, by rw [rs.length]; exact hi⟩⟩
  obtain ⟨v, h1, h2⟩ := rs.get hd
  refine ⟨⟨xs, v, q, h1⟩, fun x H3 y => ?_⟩
  obtain ⟨rfl, y⟩ := y
  have e1 := y xs q
  rw [h1] at e1
  cases e1
  exact ⟨Ext.refl, h, h2⟩
theorem walkT {a : Addr} {s : Src} (hs : ∀ io2 H2 A2, Ext io H io2 H2 → HR K ct io2 H2 A2 → s.here A2 → ∃ xs, SqT K H2 a xs ∧ DRs K ct io2 H2 xs s.items) : WalkR K ct io H (Itt K a) s := by
  intro io2 H2 A2 e h hh
  obtain ⟨xs, q, rs⟩ := hs io2 H2 A2 e h hh
  refine ⟨fun i d hd => ?_, fun i hi => ⟨xs, q, by rw [rs.length]; exact hi⟩⟩
  obtain ⟨v, h1, h2⟩ := rs.get hd
  refine ⟨⟨xs, v, q, h1⟩, fun x H3 y => ?_⟩
  obtain ⟨rfl, y⟩ := y
  have e1 := y xs q
  rw [h1] at e1
  cases e1
  exact ⟨Ext.refl, h, h2⟩
theorem walkR {lo : Int} {n : Nat} : WalkR K ct io H (Itr lo n) (.fix (rangeD lo n)) := by
  intro io2 H2 A2 e h _
  refine ⟨fun i d hd => ?_, fun i hi => (show n ≤ i from (by simpa [Src.items, rangeD] using hi : n ≤ i))⟩
  have hi : i < n := by
    have := (List.getElem?_eq_some_iff.mp hd).1
    simpa [Src.items, rangeD] using this
  have ed : d = .int (lo + (i : Nat)) := by
    have : (rangeD lo n)[i]? = some d := hd
    unfold rangeD at this
    rw [List.getElem?_map, List.getElem?_range hi] at this
    exact (Option.some.inj this).symm
  refine ⟨hi, fun x H3 y => ?_⟩
  obtain ⟨rfl, rfl⟩ := y
  rw [ed]
  exact ⟨Ext.refl, h, .int _⟩
theorem walkS {x : Str} : WalkR K ct io H (Its x) (.fix (charsD x)) := by
  intro io2 H2 A2 e h _
  refine ⟨fun i d hd => ?_, fun i hi => (show x.cps.size ≤ i from (by simpa [Src.items, charsD] using hi : x.cps.size ≤ i))⟩
  have hd' : (charsD x)[i]? = some d := hd
  unfold charsD at hd'
  rw [List.getElem?_map] at hd'
  cases hc : x.cps.toList[i]? with
  | none => rw [hc] at hd'; cases hd'
  | some c =>
    rw [hc] at hd'
    cases hd'
    have hc' : x.cps[i]? = some c := by rw [← Array.getElem?_toList]; exact hc
    refine ⟨(Array.getElem?_eq_some_iff.mp hc').1, fun v H3 y => ?_⟩
    obtain ⟨rfl, c', h1, rfl⟩ := y
    rw [hc'] at h1
    cases h1
    exact ⟨Ext.refl, h, .str _⟩
/-- a list under its value: read at each later state -/
theorem list_later {v : V} {d : D} {s : Src} (hr : HR K ct io H A) (r : DR K ct io H v d) (e : srcD d A = some s) (hl : asR A d = some s.items) :
    ∃ a, v = .ref a ∧ (∃ xs, SqL K H a xs) ∧ ∀ io2 H2 A2, Ext io H io2 H2 → HR K ct io2 H2 A2 → s.here A2 → ∃ xs, SqL K H2 a xs ∧ DRs K ct io2 H2 xs s.items := by
  obtain ⟨a, xs, rfl, hs, rs⟩ := asR_ok hr r hl
  refine ⟨a, rfl, ⟨xs, hs⟩, fun io2 H2 A2 x h2 hh => ?_⟩
  cases d with
  | lst ds => cases e; obtain ⟨b, ys, e1, q, rs⟩ := asR_ok h2 (r.mono x hr.noT) (ds := ds) rfl; cases e1; exact ⟨ys, q, rs⟩
  | scr ds => cases e; obtain ⟨b, ys, e1, q, rs⟩ := asR_ok h2 (r.mono x hr.noT) (ds := ds) rfl; cases e1; exact ⟨ys, q, rs⟩
  | ref n =>
    unfold srcD at e
    dsimp only at e
    cases hm : A[n]? with
    | none => rw [hm] at e; cases e
    | some m =>
      rw [hm] at e
      cases m with
      | lst ds =>
        cases e
        have hh : A2[n]? = some (.lst ds) := hh
        obtain ⟨b, ys, e1, q, rs⟩ := asR_ok h2 (r.mono x hr.noT) (ds := ds) (by unfold asR asL; dsimp only; rw [hh])
        cases e1
        exact ⟨ys, q, rs⟩
      | dic es => cases e
      | ins c fs => cases e
      | exc c fs => cases e
      | tab es => cases e
  | _ => cases hl
end
section
variable {X : Cx} {ct : String → Addr} {W : WX} {e a b tg : Expr} {pos : Pos} {fa fb : EF} {ft fu : TF} {fl : AF}
theorem srcD_asR {d : D} {A : Hd} {s : Src} (e : srcD d A = some s) (h1 : ∀ ds, d ≠ .tup ds) (h2 : ∀ x, d ≠ .str x) : asR A d = some s.items := by
  cases d with
  | tup ds => exact absurd rfl (h1 ds)
  | str x => exact absurd rfl (h2 x)
  | lst ds => cases e; rfl
  | scr ds => cases e; rfl
  | ref n =>
    unfold srcD at e
    dsimp only at e
    cases hm : A[n]? with
    | none => rw [hm] at e; cases e
    | some m =>
      rw [hm] at e
      cases m with
      | lst ds => cases e; unfold asR asL; dsimp only; rw [hm]; rfl
      | dic es => cases e
      | ins c fs => cases e
      | exc c fs => cases e
      | tab es => cases e
  | _ => cases e
theorem pid_seq (ha : PD X ct W e fa) : PID X ct W tg e (iSeq fa) := by
  refine ⟨fun pins s σ H Rk I h => ?_⟩
  obtain ⟨io, A, ro, st, p⟩ := h
  unfold iSeq at p
  by_cases ht : ∃ ds A1, fa ro A = .ok (.tup ds) A1
  · obtain ⟨ds, A1, q⟩ := ht
    rw [q, R.bind_ok] at p
    refine (pi_tup ha).run pins s σ H Rk I ⟨io, A, ro, st, ?_⟩
    rw [q]
    intro v io1 H1 e1 h1 r
    cases r with
    | @tup a xs _ hs rs =>
      refine ⟨a, rfl, ⟨xs, hs.sq⟩, p _ io1 H1 e1 h1 (walkT fun io2 H2 A2 x h2 _ => ⟨xs, SqT.ext x h1.noT hs.sq, rs.mono x h1.noT⟩)⟩
  by_cases hx : ∃ x A1, fa ro A = .ok (.str x) A1
  · obtain ⟨x, A1, q⟩ := hx
    rw [q, R.bind_ok] at p
    refine (pi_str ha).run pins s σ H Rk I ⟨io, A, ro, st, ?_⟩
    rw [q]
    intro v io1 H1 e1 h1 r
    cases r with
    | str x => exact ⟨x, rfl, p _ io1 H1 e1 h1 walkS⟩
  refine (pi_list ha).run pins s σ H Rk I ⟨io, A, ro, st, ?_⟩
  cases q : fa ro A with
  | stk => rw [q] at p; exact p
  | err c fs A1 => rw [q] at p; exact p
  | ok d A1 =>
    rw [q, R.bind_ok] at p
    cases hs : srcD d A1 with
    | none => rw [hs] at p; exact p.elim
    | some sr =>
      rw [hs] at p
      intro v io1 H1 e1 h1 r
      obtain ⟨a, rfl, hx1, later⟩ := list_later h1 r hs (srcD_asR hs (fun ds z => ht ⟨ds, A1, by rw [q, z]⟩) fun x z => hx ⟨x, A1, by rw [q, z]⟩)
      exact ⟨a, rfl, hx1, p _ io1 H1 e1 h1 (walkL later)⟩
theorem pid_range1 {p : Pos} (hg : Gl X "range") (hm : X.mg "range" = none) (ha : PDa X ct W [a] fl) (hs : starEach [a] X.env = [(false, eval a X.env)] := by rfl) : PID X ct W tg (.Call (.Name "range" p) [a] [] pos) (iRange1 fl) :=
  pi_mono (pi_range1 hg hm ha hs) fun σ H Q ⟨io, A, ro, st, p⟩ => ⟨io, A, ro, st, (p.bind (rep := DRs X.K ct)).mono fun vs H1 ⟨io1, A1, ds, e1, h1, rs, p1⟩ => by
    split at p1
    · rename_i j
      split at p1
      · rename_i hb
        cases rs with
        | cons r rs => cases rs; cases r; exact ⟨j, rfl, hb.1, hb.2, p1 _ io1 H1 Ext.refl h1 walkR⟩
      · exact p1.elim
    · exact p1.elim⟩
theorem pid_range2 {p : Pos} (hg : Gl X "range") (hm : X.mg "range" = none) (ha : PDa X ct W [a, b] fl) (hs : starEach [a, b] X.env = [(false, eval a X.env), (false, eval b X.env)] := by rfl) (hs2 : starEach [b] X.env = [(false, eval b X.env)] := by rfl) :
    PID X ct W tg (.Call (.Name "range" p) [a, b] [] pos) (iRange2 fl) :=
  pi_mono (pi_range2 hg hm ha hs hs2) fun σ H Q ⟨io, A, ro, st, p⟩ => ⟨io, A, ro, st, (p.bind (rep := DRs X.K ct)).mono fun vs H1 ⟨io1, A1, ds, e1, h1, rs, p1⟩ => by
    split at p1
    · rename_i i j
      split at p1
      · rename_i hb
        cases rs with
        | cons r rs => cases rs with
          | cons r2 rs => cases rs; cases r; cases r2; exact ⟨i, j, rfl, hb, p1 _ io1 H1 Ext.refl h1 walkR⟩
      · exact p1.elim
    · exact p1.elim⟩

/-! ### name op= e -/
def sAug (i : Nat) (g : D → D → Hd → R D) (a : EF) : SF := fun ro A => match ro[i]? with
  | some (some x) => (a ro A).then ro fun y A1 => (g x y A1).then ro fun z A2 => .go .nx (ro.set i (some z)) A2
  | _ => .stk
theorem psd_aug {i : Nat} {x : Str} {op : Operator} {r : V → V → Hp → VK → Prop} {g : D → D → Hd → R D} {pos' : Pos} (hN : X.N.Nodup) (hi : X.N[i]? = some x) (hx : Loc X.env.scope x) (ha : PD X ct W e fa) (hop : PIp X op r) (o : OpD X.K ct r g)
    (hf : X.fn x = true ∨ X.env.scope.names.lookup x = some .local := by first | exact .inl rfl | exact .inr rfl | assumption) : PSD X ct W (.AugAssign (.Name x pos') op e pos) (sAug i g fa) :=
  ps_mono (ps_aug hN hi hx ha hop hf) fun Z σ H ⟨io, A, ro, s, p⟩ => by
    unfold sAug at p
    split at p
    · rename_i d hd
      obtain ⟨v, hv, rv⟩ := s.env.at_ i d hd
      refine ⟨v, hv, io, A, ro, s, (Post.then (rep := DR X.K ct) s p).mono fun y H1 ⟨io1, A1, dy, e1, s1, ry, q⟩ => ?_⟩
      exact o W σ io1 H1 A1 v y d dy _ s1.hr (rv.mono e1 s.hr.noT) ry ((Post.then (rep := DR X.K ct) s1 q).mono fun z H2 ⟨io2, A2, dz, e2, s2, rz, q2⟩ => q2 _ io2 H2 Ext.refl ⟨s2.hr, s2.env.set rz⟩)
    · exact p.elim
abbrev rIpI (g : Int → Int → Int) : V → V → Hp → VK → Prop := ipI g
def gAddI (d e : D) (A : Hd) : R D := match d, e with
  | .int i, .int j => .ok (.int (i + j)) A
  | _, _ => .stk
theorem gAddI_ok {K : PySem.W.Frag} : OpD K ct (ipI fun i j => i + j) gAddI := by
  intro W σ io H A x y d e Q h rx ry p
  unfold gAddI at p
  split at p
  · cases rx; cases ry
    exact ⟨_, _, rfl, rfl, p.here h (.int _)⟩
  · exact p.elim
theorem gSubI_ok {K : PySem.W.Frag} : OpD K ct (ipI fun i j => i - j) gSub := by
  intro W σ io H A x y d e Q h rx ry p
  unfold gSub at p
  split at p
  · cases rx; cases ry
    exact ⟨_, _, rfl, rfl, p.here h (.int _)⟩
  · exact p.elim

/-! ### o.m(..) of a list -/
def isL (A : Hd) (d : D) : Bool := (asR A d).isSome
def eMeth (chk : Hd → D → Bool) (g : D → List D → Hd → R D) (o : EF) (a : AF) : EF := fun ro A => (o ro A).bind fun x A1 => if chk A1 x then (a ro A1).bind fun ds A2 => g x ds A2 else .stk
def MeD (K : PySem.W.Frag) (ct : String → Addr) (r : V → List V → Hp → VK → Prop) (g : D → List D → Hd → R D) : Prop := ∀ (W : WX) σ io H A v x vs ds Q, HR K ct io H A → DR K ct io H v x → DRs K ct io H vs ds → Post K ct (DR K ct) W σ io H (g x ds A) Q → r v vs H Q
theorem meth_D {K : PySem.W.Frag} {T : String} {r : V → List V → Hp → VK → Prop} {g : D → List D → Hd → R D} {chk : Hd → D → Bool} {fo : EF} (o : MeD K ct r g) (hc : ∀ io H A v x, HR K ct io H A → DR K ct io H v x → chk A x = true → tyV K T v H) {σ : L2.St} {H : Hp} {Q : VK} (h : tD K ct W (eMeth chk g fo fl) σ H Q) :
    tBM K T r (tD K ct W fo) (tL K ct W fl) σ H Q := by
  obtain ⟨io, A, ro, s, p⟩ := h
  refine ⟨io, A, ro, s, (p.bind (rep := DR K ct)).mono ?_⟩
  rintro v H1 ⟨io1, A1, x, e1, h1, r1, p1⟩
  split at p1
  · rename_i hk
    refine ⟨hc _ _ _ _ _ h1 r1 hk, io1, A1, ro, s.mono e1 h1, (p1.bind (rep := DRs K ct)).mono ?_⟩
    rintro vs H2 ⟨io2, A2, ds, e2, h2, r2, p2⟩
    exact o W σ io2 H2 A2 v x vs ds Q h2 (r1.mono e2 h1.noT) r2 p2
  · exact p1.elim
theorem isL_ok {K : PySem.W.Frag} : ∀ io H A v x, HR K ct io H A → DR K ct io H v x → isL A x = true → tyV K "list" v H := by
  intro io H A v x h r e
  unfold isL at e
  obtain ⟨ds, hd⟩ := Option.isSome_iff_exists.mp e
  obtain ⟨a, xs, rfl, q, _⟩ := asR_ok h r hd
  exact .inl ⟨rfl, xs, q⟩
def gAppend (x : D) (ds : List D) (A : Hd) : R D := match numL A x, ds with
  | some (n, es), [d] => if es.length < sizeLine then .ok .non (A.set n (.lst (es ++ [d]))) else .stk
  | _, _ => .stk
theorem gAppend_ok {K : PySem.W.Frag} : MeD K ct rAppend gAppend := by
  intro W σ io H A v x vs ds Q h r rs p
  unfold gAppend at p
  split at p
  · rename_i n es d hn
    split at p
    · rename_i hz
      obtain ⟨a, xs, rfl, rfl, hio, hH, rx⟩ := numL_ok h r hn
      cases rs with
      | @cons y _ _ _ ry rs =>
        cases rs
        have x1 := h.extW (o := .lst (xs ++ [y])) hio (nfzL hH)
        exact ⟨a, xs, y, rfl, rfl, hH, by rw [rx.length]; exact hz, p _ io _ x1 (h.write hio (nfzL hH) ⟨_, upd_same, (rx.append (.cons ry .nil)).mono x1 h.noT⟩) .non⟩
    · exact p.elim
  · exact p.elim
def gPopAt (x : D) (ds : List D) (A : Hd) : R D := match numL A x, ds with
  | some (n, es), [.int i] => if 0 ≤ i ∧ i < 2 ^ 63 then (match es[i.toNat]? with
    | some y => .ok y (A.set n (.lst (es.eraseIdx i.toNat)))
    | none => .stk) else .stk
  | _, _ => .stk
theorem gPopAt_ok {K : PySem.W.Frag} : MeD K ct rPopAt gPopAt := by
  intro W σ io H A v x vs ds Q h r rs p
  unfold gPopAt at p
  split at p
  · rename_i n es i hn
    split at p
    · rename_i hz
      split at p
      · rename_i y hy
        obtain ⟨a, xs, rfl, rfl, hio, hH, rx⟩ := numL_ok h r hn
        cases rs with
        | cons ri rs =>
          cases rs
          cases ri
          obtain ⟨vy, hv, ry⟩ := rx.get hy
          have hlt : i.toNat < xs.length := (List.getElem?_eq_some_iff.mp hv).1
          have x1 := h.extW (o := .lst (xs.eraseIdx i.toNat)) hio (nfzL hH)
          refine ⟨a, xs, i, i.toNat, vy, rfl, rfl, hH, by omega, hz.2, seqIndex_of hz.1 (by omega), hv, ?_⟩
          exact p _ io _ x1 (h.write hio (nfzL hH) ⟨_, upd_same, (rx.eraseIdx _).mono x1 h.noT⟩) (ry.mono x1 h.noT)
      · exact p.elim
    · exact p.elim
  · exact p.elim
end
end DV

set_option Elab.async false
set_option linter.all false
set_option maxRecDepth 100000
/-! DvK: a def's promise by a function on data; its body; its calls. -/
namespace DV
open PySem PySem.Spec PyProof.Rows L2

abbrev FF := List D → Hd → R D
/-- the promise: n arguments, the function F -/
def spD (K : PySem.W.Frag) (ct : String → Addr) (n : Nat) (F : FF) : Sp := fun vs H Q E => ∃ io A ds, vs.length = n ∧ HR K ct io H A ∧ DRs K ct io H vs ds ∧ Post K ct (DR K ct) (fun cls dd _ H' => E cls dd H') [] io H (F ds A) Q

mutual
/-- every number within is below n -/
def D.lt (n : Nat) : D → Bool
  | .tup ds => D.lts n ds
  | .lst ds => D.lts n ds
  | .scr ds => D.lts n ds
  | .dic es => D.ltk n es
  | .ref k => decide (k < n)
  | _ => true
def D.lts (n : Nat) : List D → Bool
  | [] => true
  | d :: ds => D.lt n d && D.lts n ds
def D.ltk (n : Nat) : List (Key × D) → Bool
  | [] => true
  | (_, d) :: es => D.lt n d && D.ltk n es
end
theorem D.lts_all (n : Nat) : ∀ ds : List D, D.lts n ds = ds.all (D.lt n)
  | [] => by simp [D.lts]
  | d :: ds => by simp [D.lts, D.lts_all n ds]
theorem D.ltk_all (n : Nat) : ∀ es : List (Key × D), D.ltk n es = D.lts n (es.map (·.2))
  | [] => by simp [D.lts, D.ltk]
  | (k, d) :: es => by simp [D.lts, D.ltk, D.ltk_all n es]
def M.lt (n : Nat) : M → Bool
  | .lst ds => D.lts n ds
  | .dic es => D.ltk n es
  | .ins _ fs => D.lts n (fs.map (·.2))
  | .exc _ fs => D.lts n (fs.map (·.2))
  | .tab es => D.ltk n es

section
variable {K : PySem.W.Frag} {ct : String → Addr} {W : WX} {σ : L2.St} {io io' : Io} {H H' : Hp} {A A' : Hd} {ro : Env}
def Io.cut (io : Io) (n : Nat) : Io := ⟨io.nm.take n, io.hd⟩
theorem Io.cut_mem {io : Io} {n : Nat} {a : Addr} (h : a ∈ io.cut n) : a ∈ io := h.elim (fun z => .inl (List.mem_of_mem_take z)) .inr
mutual
theorem DR.lop {n : Nat} : ∀ {v : V} {d : D}, DR K ct io H v d → d.lt n = true → DR K ct (io.cut n) H v d
  | _, _, .non, _ => .non
  | _, _, .bl b, _ => .bl b
  | _, _, .int i, _ => .int i
  | _, _, .str x, _ => .str x
  | _, _, .tup h hs, e => .tup h (DRs.lop hs (by simpa [D.lt] using e))
  | _, _, .lst n h hs, e => .lst (fun z => n (Io.cut_mem z)) h (DRs.lop hs (by simpa [D.lt] using e))
  | _, _, .scr h hs, e => .scr (h.elim (fun ⟨n, q⟩ => .inl ⟨fun z => n (Io.cut_mem z), q⟩) .inr) (DRs.lop hs (by simpa [D.lt] using e))
  | _, _, .dic n h k hs, e => .dic (fun z => n (Io.cut_mem z)) h k (DRs.lop hs (by simpa [D.lt, D.ltk_all] using e))
  | _, _, .ref (n := j) h, e => .ref (by
      have h2 : j < n := by simpa [D.lt] using e
      show (io.nm.take n)[j]? = _
      rw [List.getElem?_take_of_lt h2]; exact h)
  | _, _, .ty n, _ => .ty n
  | _, _, .own n, _ => .own n
theorem DRs.lop {n : Nat} : ∀ {vs : List V} {ds : List D}, DRs K ct io H vs ds → D.lts n ds = true → DRs K ct (io.cut n) H vs ds
  | _, _, .nil, _ => .nil
  | _, _, .cons h hs, e => by
    rw [D.lts, Bool.and_eq_true] at e
    have e' := e
    exact .cons (DR.lop h e'.1) (DRs.lop hs e'.2)
end
theorem MR.lop {n : Nat} {a : Addr} {m : M} (h : MR K ct io H a m) (e : m.lt n = true) : MR K ct (io.cut n) H a m := by
  cases m with
  | lst ds => obtain ⟨xs, q, r⟩ := h; exact ⟨xs, q, r.lop e⟩
  | dic es => obtain ⟨xs, q, k, r⟩ := h; exact ⟨xs, q, k, r.lop (by simpa [M.lt, D.ltk_all] using e)⟩
  | tab es => obtain ⟨o, xs, q, k, r⟩ := h; exact ⟨o, xs, q, k, r.lop (by simpa [M.lt, D.ltk_all] using e)⟩
  | ins c fs => obtain ⟨dx, gs, q, k, r⟩ := h; exact ⟨dx, gs, q, k, r.lop e⟩
  | exc c fs =>
    obtain ⟨d, q, z⟩ := h
    refine ⟨d, q, z.imp id ?_⟩
    rintro ⟨p, gs, h1, h2, h3, h4, h5⟩
    exact ⟨p, gs, h1, fun w => h2 (Io.cut_mem w), h3, h4, h5.lop e⟩
mutual
theorem DR.lt_of : ∀ {v : V} {d : D}, DR K ct io H v d → d.lt io.nm.length = true
  | _, _, .non => by simp [D.lt]
  | _, _, .bl b => by simp [D.lt]
  | _, _, .int i => by simp [D.lt]
  | _, _, .str x => by simp [D.lt]
  | _, _, .tup h hs => by simpa [D.lt] using DRs.lt_of hs
  | _, _, .lst n h hs => by simpa [D.lt] using DRs.lt_of hs
  | _, _, .scr h hs => by simpa [D.lt] using DRs.lt_of hs
  | _, _, .dic n h k hs => by simpa [D.lt, D.ltk_all] using DRs.lt_of hs
  | _, _, .ref h => by simpa [D.lt] using (List.getElem?_eq_some_iff.mp h).1
  | _, _, .ty n => by simp [D.lt]
  | _, _, .own n => by simp [D.lt]
theorem DRs.lt_of : ∀ {vs : List V} {ds : List D}, DRs K ct io H vs ds → D.lts io.nm.length ds = true
  | _, _, .nil => by simp [D.lts]
  | _, _, .cons h hs => by simp [D.lts, DR.lt_of h, DRs.lt_of hs]
end
theorem MR.lt_of {a : Addr} {m : M} (h : MR K ct io H a m) : m.lt io.nm.length = true := by
  cases m with
  | lst ds => obtain ⟨xs, q, r⟩ := h; exact r.lt_of
  | dic es => obtain ⟨xs, q, k, r⟩ := h; simpa [M.lt, D.ltk_all] using r.lt_of
  | tab es => obtain ⟨o, xs, q, k, r⟩ := h; simpa [M.lt, D.ltk_all] using r.lt_of
  | ins c fs => obtain ⟨dx, gs, q, k, r⟩ := h; exact r.lt_of
  | exc c fs =>
    obtain ⟨d, q, z⟩ := h
    rcases z with rfl | ⟨p, gs, h1, h2, h3, h4, h5⟩
    · simp [M.lt, D.lts]
    · exact h5.lt_of
theorem D.lt_le {n m : Nat} (h : n ≤ m) : ∀ {d : D}, d.lt n = true → d.lt m = true := by
  intro d
  refine D.rec (motive_1 := fun d => d.lt n = true → d.lt m = true) (motive_2 := fun ds => D.lts n ds = true → D.lts m ds = true) (motive_3 := fun es => D.ltk n es = true → D.ltk m es = true) (motive_4 := fun p => p.2.lt n = true → p.2.lt m = true) ?_ ?_ ?_ ?_ ?_ ?_ ?_ ?_ ?_ ?_ ?_ ?_ ?_ ?_ ?_ d
  all_goals (try (intros; simp [D.lt]; done))
  · intro ds ih e; simp only [D.lt] at e ⊢; exact ih e
  · intro ds ih e; simp only [D.lt] at e ⊢; exact ih e
  · intro ds ih e; simp only [D.lt] at e ⊢; exact ih e
  · intro ds ih e; simp only [D.lt] at e ⊢; exact ih e
  · intro k e; simp only [D.lt, decide_eq_true_eq] at e ⊢; omega
  · intro _; simp [D.lts]
  · intro d ds ih1 ih2 e; simp only [D.lts, Bool.and_eq_true] at e ⊢; exact ⟨ih1 e.1, ih2 e.2⟩
  · intro _; simp [D.ltk]
  · intro p es ih1 ih2 e; obtain ⟨k, d⟩ := p; simp only [D.ltk, Bool.and_eq_true] at e ⊢; exact ⟨ih1 e.1, ih2 e.2⟩
  · intro k d ih e; exact ih e
theorem HR.lop {n : Nat} (h : HR K ct io H A) (hm : ∀ k m, k < n → A[k]? = some m → m.lt n = true) : HR K ct (io.cut n) H (A.take n) := by
  refine ⟨h.nd.sublist (List.take_sublist _ _), by show (io.nm.take n).length = _; rw [List.length_take, List.length_take, h.len], fun k a m e1 e2 => ?_, fun a ha => ⟨fun z => (h.hid a ha).1 (List.mem_of_mem_take z), (h.hid a ha).2⟩⟩
  have hk : k < n := by
    have := (List.getElem?_eq_some_iff.mp e2).1
    rw [List.length_take] at this
    omega
  rw [List.getElem?_take_of_lt hk] at e2
  have e1 : (io.nm.take n)[k]? = some a := e1
  rw [List.getElem?_take_of_lt hk] at e1
  exact (h.at_ k a m e1 e2).lop (hm k m hk e2)
theorem Ext.lop {n : Nat} (x : Ext io H io' H') (hn : io.nm.length ≤ n) : Ext io H (io'.cut n) H' := by
  obtain ⟨more, e⟩ := x.pre
  refine ⟨⟨more.take (n - io.nm.length), ?_⟩, x.hd1, x.hd2, fun b h k => x.fresh b (List.mem_of_mem_take h) k, x.keep, x.there, x.frz⟩
  show io'.nm.take n = _
  rw [e, List.take_append, List.take_of_length_le hn]

/-- the value that is handed back: a numbered list that is dropped stands by value -/
def frz (n : Nat) (A : Hd) (d : D) : Option D := if d.lt n = true then some d else match d with
  | .ref k => match A[k]? with
    | some (.lst ds) => if D.lts n ds = true then some (.lst ds) else none
    | some (.dic es) => if D.ltk n es = true then some (.dic es) else none
    | _ => none
  | _ => none
theorem frz_ok {n : Nat} {v : V} {d d' : D} (h : HR K ct io H A) (r : DR K ct io H v d) (e : frz n A d = some d') : DR K ct (io.cut n) H v d' := by
  unfold frz at e
  split at e
  · rename_i hl
    cases e
    exact r.lop hl
  · rename_i hl
    split at e
    · rename_i k
      cases r with
      | @ref a _ q =>
        have hk : ¬ k < n := by simpa [D.lt] using hl
        have na : a ∉ io.cut n := fun z => by
          rcases z with z | z
          · obtain ⟨j, hj, ej⟩ := List.getElem_of_mem (show a ∈ io.nm.take n from z)
            have hj' : j < n ∧ j < io.nm.length := by rw [List.length_take] at hj; omega
            rw [List.getElem_take] at ej
            obtain ⟨hk2, ek⟩ := List.getElem?_eq_some_iff.mp q
            have := (List.getElem_inj h.nd).mp (ej.trans ek.symm)
            omega
          · exact (h.hid a z).1 (List.mem_of_getElem? q)
        split at e
        · rename_i ds hm
          split at e
          · rename_i hc
            cases e
            obtain ⟨xs, q1, rs⟩ := h.get q hm
            exact .lst na q1 (rs.lop hc)
          · cases e
        · rename_i es hm
          split at e
          · rename_i hc
            cases e
            obtain ⟨xs, q1, k1, rs⟩ := h.get q hm
            exact .dic na q1 k1 (rs.lop (by rw [← D.ltk_all]; exact hc))
          · cases e
        · cases e
    · cases e

/-- how a body's end gives the function's result: all is kept, or the numbers from n on are dropped -/
def FinV (A : Hd) (d : D) (A' : Hd) (r : R D) : Prop :=
  r = .ok d A' ∨ ∃ n d', A.length ≤ n ∧ frz n A' d = some d' ∧ (∀ k m, k < n → A'[k]? = some m → A[k]? = some m ∨ m.lt n = true) ∧ r = .ok d' (A'.take n)
def FinOk (A : Hd) (o : Out) (r : R D) : Prop := match o with
  | .go (.ret d) _ A' => FinV A d A' r
  | .go .nx _ A' => FinV A .non A' r
  | .err c fs _ A' => r = .err c fs A' ∨ ∃ n, A.length ≤ n ∧ D.lts n (fs.map (·.2)) = true ∧ (∀ k m, k < n → A'[k]? = some m → A[k]? = some m ∨ m.lt n = true) ∧ r = .err c fs (A'.take n)
  | _ => False
theorem fin_cut {n : Nat} (h : HR K ct io H A) (x : Ext io H io' H') (h' : HR K ct io' H' A') (hn : A.length ≤ n) (hm : ∀ k m, k < n → A'[k]? = some m → A[k]? = some m ∨ m.lt n = true) : HR K ct (io'.cut n) H' (A'.take n) ∧ Ext io H (io'.cut n) H' := by
  refine ⟨h'.lop fun k m hk e => ?_, x.lop (by rw [h.len]; exact hn)⟩
  rcases hm k m hk e with q | q
  · have hl : k < io.nm.length := by rw [h.len]; exact (List.getElem?_eq_some_iff.mp q).1
    have mr := h.at_ k io.nm[k] m (List.getElem?_eq_getElem hl) q
    have := mr.lt_of
    cases m with
    | lst ds => simp only [M.lt] at this ⊢; rw [D.lts_all, List.all_eq_true] at this ⊢; exact fun d hd => D.lt_le (by rw [h.len]; exact hn) (this d hd)
    | dic es => simp only [M.lt] at this ⊢; rw [D.ltk_all, D.lts_all, List.all_eq_true] at this ⊢; exact fun d hd => D.lt_le (by rw [h.len]; exact hn) (this d hd)
    | tab es => simp only [M.lt] at this ⊢; rw [D.ltk_all, D.lts_all, List.all_eq_true] at this ⊢; exact fun d hd => D.lt_le (by rw [h.len]; exact hn) (this d hd)
    | ins c fs => simp only [M.lt] at this ⊢; rw [D.lts_all, List.all_eq_true] at this ⊢; exact fun d hd => D.lt_le (by rw [h.len]; exact hn) (this d hd)
    | exc c fs => simp only [M.lt] at this ⊢; rw [D.lts_all, List.all_eq_true] at this ⊢; exact fun d hd => D.lt_le (by rw [h.len]; exact hn) (this d hd)
  · exact q
theorem fin_ret {d : D} {r : R D} {v : V} {E : XK} {Q : VK} (h : HR K ct io H A) (x : Ext io H io' H') (h' : HR K ct io' H' A') (rv : DR K ct io' H' v d) (f : FinV A d A' r) (p : Post K ct (DR K ct) (fun cls dd _ H' => E cls dd H') [] io H r Q) : Q v H' := by
  rcases f with rfl | ⟨n, d', hn, hf, hm, rfl⟩
  · exact p v io' H' x h' rv
  · obtain ⟨g1, g2⟩ := fin_cut h x h' hn hm
    exact p v (io'.cut n) H' g2 g1 (frz_ok h' rv hf)
end

/-- the slots at the entry -/
def startD (N : Nat) (ds : List D) : Env := ds.map some ++ List.replicate (N - ds.length) none
theorem start_D {K : PySem.W.Frag} {ct : String → Addr} {io : Io} {H : Hp} {vs : List V} {ds : List D} {N : List Str} (r : DRs K ct io H vs ds) : EnvR K ct io H (startD N.length ds) (L2.start N vs) := by
  unfold startD L2.start
  refine ⟨by simp [r.length], fun i d e => ?_⟩
  by_cases hi : i < ds.length
  · rw [List.getElem?_append_left (by simpa using hi), List.getElem?_map] at e
    cases hd : ds[i]? with
    | none => rw [hd] at e; cases e
    | some d' =>
      rw [hd] at e
      have e' : d' = d := by simpa using e
      subst e'
      obtain ⟨v, hv, rv⟩ := r.get hd
      refine ⟨v, ?_, rv⟩
      rw [List.getElem?_append_left (by simpa [r.length] using hi), List.getElem?_map, hv]
      rfl
  · rw [List.getElem?_append_right (by simpa using hi), List.getElem?_replicate] at e
    split at e <;> cases e

section
variable {P : Program} {w : World} {K : PySem.W.Frag} {mg : Str → Option Value} {base : Heap} {ct : String → Addr}
/-- the context of a def's body -/
abbrev cxD (P : Program) (w : World) (K : PySem.W.Frag) (mg : Str → Option Value) (base : Heap) (N : List Str) (qual : Str) (st : Stmt) (f : Addr) (cdv : Value) (A : Around) (outer : List PySem.Env) (s : Shared) (H : Hp) (E : XK) : Cx :=
  cxOf (L2.CX P w) P w K mg base N qual (defScope st) f cdv A outer s H E
abbrev WD (E : XK) : WX := fun cls d _ H => E cls d H
/-- THE RULE for a def: its derivation fb, and that F is what the body gives -/
theorem okD {x qual : Str} {st : Stmt} {f : Addr} {fd : FuncData} {N ps : List Str} {k : Nat} {F : FF} {fb : SF} (Fn : Fun K x qual st f fd) (S : FnScope N ps (defScope st))
    (drv : ∀ (cdv : Value) (A : Around) (outer : List PySem.Env) (s : Shared) (H : Hp) (E : XK), A.guards = some [] → Room k (A.deeper (envOfC qual (defScope st) s.heap.objs.size f cdv)) → PSsD (cxD P w K mg base N qual st f cdv A outer s H E) ct (WD E) (defBody st) fb)
    (hF : ∀ ds A, ds.length = ps.length → F ds A ≠ .stk → FinOk A (fb (startD N.length ds) A) (F ds A)) : FnG P w K mg base (k + 1) f fd ps (spD K ct ps.length F) := by
  refine okG Fn S (fun vs H Q E ⟨_, _, _, h, _⟩ => h) fun cdv A0 outer s H vs Q E hg hr ⟨io, A, ds, hl, h, rs, p⟩ => ?_
  refine ⟨_, drv cdv A0 outer s H E hg hr, ?_⟩
  refine ⟨io, A, startD N.length ds, ⟨h, start_D rs⟩, ?_⟩
  have hns : F ds A ≠ .stk := fun z => by rw [z] at p; exact p
  have fo := hF ds A (by rw [← rs.length]; exact hl) hns
  cases ho : fb (startD N.length ds) A with
  | stk => rw [ho] at fo; exact fo.elim
  | go fl ro' A' =>
    rw [ho] at fo
    cases fl with
    | bk => exact fo.elim
    | ct => exact fo.elim
    | nx => exact fun σ' io' H' x s' => fin_ret h x s'.hr .non fo p
    | ret d => exact fun v io' H' x h' rv => fin_ret h x h' rv fo p
  | err c fs ro' A' =>
    rw [ho] at fo
    intro cls dd σ' io' H' x s' xr
    rcases fo with q | ⟨n, hn, hf, hm, q⟩
    · rw [q] at p
      exact p cls dd io' H' x s'.hr xr
    · rw [q] at p
      obtain ⟨g1, g2⟩ := fin_cut h x s'.hr hn hm
      refine p cls dd (io'.cut n) H' g2 g1 ⟨xr.cls, ?_⟩
      rcases xr.fds with z | ⟨pp, gs, h1, h2, h3, h4, h5⟩
      · exact .inl z
      · exact .inr ⟨pp, gs, h1, fun z => h2 (Io.cut_mem z), h3, h4, h5.lop hf⟩
end

/-- a def that may be called by the module's name x, with defaults dds -/
structure Cal (P : Program) (w : World) (K : PySem.W.Frag) (mg : Str → Option Value) (base : Heap) (ct : String → Addr) (k : Nat) (x : Str) (n : Nat) (dds : List D) (F : FF) : Prop where
  ex : ∃ f fd ps ds dvs, FnG P w K mg base k f fd ps (spD K ct n F) ∧ mg x = some (.ref f) ∧ PySem.W.keepIn K (.ref f) = true ∧ Binds K fd ps ds ∧ Vals dvs ds ∧ ∀ io H, DRs K ct io H dvs dds
section
variable {X : Cx} {ct : String → Addr} {W : WX} {k : Nat} {f : Addr} {fd : FuncData} {ps : List Str} {n : Nat} {F : FF} {ds : List Value} {dvs : List V} {dds : List D} {x : Str} {p pos : Pos} {e : Expr} {es : List Expr} {fl : AF}
theorem spD_call {n : Nat} {vs : List V} {ds : List D} {σ : L2.St} {io : Io} {H : Hp} {A : Hd} {Q : VK} (hl : vs.length = n) (h : HR X.K ct io H A) (r : DRs X.K ct io H vs ds) (q : Post X.K ct (DR X.K ct) W σ io H (F ds A) Q) : spD X.K ct n F vs H Q (WE W σ) := by
  refine ⟨io, A, ds, hl, h, r, ?_⟩
  cases hF : F ds A with
  | ok d A1 => rw [hF] at q; exact q
  | err c fs A1 => rw [hF] at q; exact q
  | stk => rw [hF] at q; exact q
/-- the arguments are as many -/
def Ar (n : Nat) (fl : AF) : Prop := ∀ ro A ds A', fl ro A = .ok ds A' → ds.length = n
theorem ar_nil : Ar 0 aNil := fun ro A ds A' h => by cases h; rfl
theorem ar_cons {n : Nat} {a : EF} {fl : AF} (h : Ar n fl) : Ar (n + 1) (aCons a fl) := fun ro A ds A' e => by
  unfold aCons at e
  cases ha : a ro A with
  | ok d A1 =>
    rw [ha, R.bind_ok] at e
    cases hl : fl ro A1 with
    | ok ds2 A2 =>
      rw [hl, R.bind_ok] at e
      cases e
      rw [List.length_cons, h _ _ _ _ hl]
    | err c fs A2 => rw [hl] at e; cases e
    | stk => rw [hl] at e; cases e
  | err c fs A1 => rw [ha] at e; cases e
  | stk => rw [ha] at e; cases e
/-- f(e, ..) -/
theorem pd_call {j m : Nat} (c : Cal X.prog X.w X.K X.mg X.base ct k x n dds F) (hgd : X.A.guards = some []) (hr : Room j X.A) (hk : k ≤ j) (hg : Gl X x) (tk : Takes X W) (ha : PDa X ct W (e :: es) fl) (hal : Ar m fl) (hn : m + dds.length = n)
    (hdb : (x == ("__debug__" : Str)) = false := by decide) (he : starEach (e :: es) X.env = (false, eval e X.env) :: starEach es X.env := by rfl) (hpl : (backTo pos (starEach es X.env)).any (·.1) = false := by rfl) :
    PD X ct W (.Call (.Name x p) (e :: es) [] pos) (eArgs (fun ds A => F (ds ++ dds) A) fl) := by
  obtain ⟨f, fd, ps, dsv, dvs, Fn, hm, hkp, hb, hd, hdd⟩ := c.ex
  refine pe_mono (pe_G Fn hgd (hr.mono hk) hg hm hkp hb hd tk ha hdb he hpl) fun σ H Q ⟨io, A, ro, s, q⟩ => ?_
  cases hf : fl ro A with
  | stk => unfold eArgs at q; rw [hf] at q; exact q.elim
  | err c fs A1 => refine ⟨io, A, ro, s, ?_⟩; unfold eArgs at q; rw [hf] at q ⊢; exact q
  | ok ds1 A1 =>
    refine ⟨io, A, ro, s, ?_⟩
    unfold eArgs at q
    rw [hf] at q ⊢
    intro vs io1 H1 e1 h1 r1
    have q : Post X.K ct (DR X.K ct) W σ io H (F (ds1 ++ dds) A1) Q := q
    refine spD_call ?_ h1 (r1.append (hdd io1 H1)) (Post.ext e1 q)
    rw [List.length_append, r1.length, hal ro A ds1 A1 hf, (hdd io1 H1).length]
    exact hn
theorem pd_call0 {j : Nat} (c : Cal X.prog X.w X.K X.mg X.base ct k x n dds F) (hgd : X.A.guards = some []) (hr : Room j X.A) (hk : k ≤ j) (hg : Gl X x) (tk : Takes X W) (hn : dds.length = n) (hdb : (x == ("__debug__" : Str)) = false := by decide) :
    PD X ct W (.Call (.Name x p) [] [] pos) (fun _ A => F dds A) := by
  obtain ⟨f, fd, ps, dsv, dvs, Fn, hm, hkp, hb, hd, hdd⟩ := c.ex
  exact pe_mono (pe_G0 Fn hgd (hr.mono hk) hg hm hkp hb hd tk hdb) fun σ H Q ⟨io, A, ro, s, q⟩ => spD_call (by rw [(hdd io H).length]; exact hn) s.hr (hdd io H) q
theorem Takes.of_takes {X : Cx} {E : XK} (h : Takes X (fun cls d _ H => E cls d H)) : Takes X (WD E) := h
end
end DV

set_option Elab.async false
set_option linter.all false
set_option maxRecDepth 100000
/-! DvL: a def's function from its body; attributes' rules; empty dicts. -/
namespace DV
open PySem PySem.Spec PyProof.Rows L2

def M.ltAll (n : Nat) (A : Hd) : Bool := A.all (M.lt n)
def cutR (A : Hd) (d : D) (A' : Hd) : R D := match frz A.length A' d with
  | some d' => if M.ltAll A.length (A'.take A.length) then .ok d' (A'.take A.length) else .ok d A'
  | none => .ok d A'
/-- the function of a def whose new lists are handed out by value -/
def finR (A : Hd) (o : Out) : R D := match o with
  | .go (.ret d) _ A' => cutR A d A'
  | .go .nx _ A' => cutR A .non A'
  | .err c fs _ A' => .err c fs A'
  | _ => .stk
/-- the function of a def whose new lists keep their numbers -/
def finK (o : Out) : R D := match o with
  | .go (.ret d) _ A' => .ok d A'
  | .go .nx _ A' => .ok .non A'
  | .err c fs _ A' => .err c fs A'
  | _ => .stk
theorem cutR_ok {A A' : Hd} {d : D} : FinV A d A' (cutR A d A') := by
  unfold cutR
  split
  · rename_i d' hd
    split
    · rename_i hl
      refine .inr ⟨A.length, d', Nat.le_refl _, hd, fun k m hk e => .inr ?_, rfl⟩
      unfold M.ltAll at hl
      rw [List.all_eq_true] at hl
      exact hl m (List.mem_of_getElem? (show (A'.take A.length)[k]? = some m by rw [List.getElem?_take_of_lt hk]; exact e))
    · exact .inl rfl
  · exact .inl rfl
theorem finR_ok {A : Hd} {o : Out} (h : finR A o ≠ .stk) : FinOk A o (finR A o) := by
  cases o with
  | stk => exact absurd rfl h
  | go fl ro A' =>
    cases fl with
    | nx => exact (cutR_ok : FinV A .non A' (cutR A .non A'))
    | ret d => exact (cutR_ok : FinV A d A' (cutR A d A'))
    | bk => exact absurd rfl h
    | ct => exact absurd rfl h
  | err c fs ro A' => exact .inl rfl
theorem finK_ok {A : Hd} {o : Out} (h : finK o ≠ .stk) : FinOk A o (finK o) := by
  cases o with
  | stk => exact absurd rfl h
  | go fl ro A' =>
    cases fl with
    | nx => exact .inl rfl
    | ret d => exact .inl rfl
    | bk => exact absurd rfl h
    | ct => exact absurd rfl h
  | err c fs ro A' => exact .inl rfl

section
variable {K : PySem.W.Frag} {ct : String → Addr} {io : Io} {H : Hp} {A : Hd}
/-! ### {} -/
def eDicN : EF := fun _ A => .ok (.dic []) A
def eDicM : EF := fun _ A => .ok (.ref A.length) (A ++ [.dic []])
end

section
variable {X : Cx} {ct : String → Addr} {W : WX} {o e : Expr} {fo : EF} {fl : AF} {pos apos cpos : Pos}
theorem pd_dicN : PD X ct W (.Dict [] [] pos) eDicN := pe_mono pe_dnewK fun σ H Q ⟨io, A, ro, s, p⟩ p' hp => p.new s.hr hp (.dic (s.hr.ne hp) upd_same rfl .nil)
theorem pd_dicM : PD X ct W (.Dict [] [] pos) eDicM := pe_mono pe_dnewK fun σ H Q ⟨io, A, ro, s, p⟩ p' hp => Post.num p s.hr hp ⟨_, upd_same, rfl, .nil⟩
/-! ### methods by data -/
theorem pd_meth {T name id : String} {r : V → List V → Hp → VK → Prop} {g : D → List D → Hd → R D} {chk : Hd → D → Bool} {es : List Expr} (pa : PlainAttrs T) (slot : Slot T name id) (hty : typeOf (.builtin id) = pure (.type "method_descriptor")) (hm : MtR X id r)
    (og : MeD X.K ct r g) (hc : ∀ io H A v x, HR X.K ct io H A → DR X.K ct io H v x → chk A x = true → tyV X.K T v H) (ho : PD X ct W o fo) (ha : PDa X ct W (e :: es) fl)
    (hbase : attributeBase o name X.env (eval o X.env) = eval o X.env := by rfl)
    (hfew : ((backTo cpos (starEach (e :: es) X.env)).all (fun x => !x.1) && (backToKw cpos (keywordEach [] X.env)).all (fun x => x.1.isSome) && decide ((e :: es).length + ([] : List Keyword).length + (if ([] : List Keyword).isEmpty then 0 else 1) < 30)) = true := by rfl)
    (hline : (apos.endLine == cpos.line) = true := by rfl) (hs : starEach (e :: es) X.env = (false, eval e X.env) :: starEach es X.env := by rfl) (hplain : (backTo cpos (starEach es X.env)).any (·.1) = false := by rfl) :
    PD X ct W (.Call (.Attribute o name apos) (e :: es) [] cpos) (eMeth chk g fo fl) :=
  pe_mono (pe_bm pa slot hty hm ho ha hbase hfew hline hs hplain) fun _ _ _ h => meth_D og hc h
end
end DV

set_option Elab.async false
set_option linter.all false
set_option maxRecDepth 100000
/-! DvM: len(set(xs)), xs a list or tuple of texts, of any number below 4000. -/
namespace DV
open PySem PySem.Spec PyProof.Rows L2

/-- the texts that are met, each once -/
def met1 (acc : List Str) (x : Str) : List Str := if acc.any (· == x) then acc else acc ++ [x]
def mets (xs : List Str) : List Str := xs.foldl met1 []
theorem mets_concat (xs : List Str) (x : Str) : mets (xs ++ [x]) = met1 (mets xs) x := by
  unfold mets
  rw [List.foldl_append]
  rfl
theorem mets_take {xs : List Str} {i : Nat} (h : i < xs.length) : mets (xs.take (i + 1)) = met1 (mets (xs.take i)) (xs.getD i Str.empty) := by
  rw [List.take_add_one, List.getElem?_eq_getElem h]
  have e : xs.getD i Str.empty = xs[i] := by simp [List.getD, List.getElem?_eq_getElem h]
  rw [e]
  exact mets_concat _ _
theorem met1_len (acc : List Str) (x : Str) : (met1 acc x).length = if acc.any (· == x) then acc.length else acc.length + 1 := by
  unfold met1
  split <;> simp
theorem met1_any (acc : List Str) (x k : Str) : (met1 acc x).any (· == k) = (acc.any (· == k) || decide (k = x)) := by
  unfold met1
  split
  · rename_i h
    by_cases e : k = x
    · subst e; simp [h]
    · simp [e]
  · by_cases e : k = x
    · subst e; simp
    · have hb : (x == k) = false := by simpa [beq_iff_eq] using (fun q : x = k => e q.symm)
      simp [e, hb]
theorem mets_le : ∀ xs : List Str, (mets xs).length ≤ xs.length := by
  intro xs
  have go : ∀ (ys acc : List Str), (ys.foldl met1 acc).length ≤ acc.length + ys.length := by
    intro ys
    induction ys with
    | nil => intro acc; simp
    | cons y ys ih =>
      intro acc
      have h1 := ih (met1 acc y)
      have h2 := met1_len acc y
      rw [List.foldl_cons, List.length_cons]
      split at h2 <;> omega
  simpa [mets] using go xs []

section
variable {P : Program} {w : World} {A : Around} {R : Result → Shared → Prop} {it : Addr} {fp wr : List Addr} {G : Array GenState → Array GenState → Prop} {n : Nat} {Pv : Nat → Value → Prop} {St : Nat → Shared → Prop}
/-- the loop of set(..) over texts -/
theorem fill_texts (W : WalksS P w A.in1 it fp wr G n Pv St) (a : Addr) (ha : a ∉ fp) (xs : List Str) (hsz : xs.length = n) (hb : n + 1 < scanBound) (hv : ∀ i v, Pv i v → ∃ t, v = .str (xs.getD i Str.empty) t) :
    ∀ (m i : Nat) (s : Shared), i + m = n → St i s → s.heap.SetOf (PySem.strKind P w) a (fun k => (mets (xs.take i)).any (· == k)) (mets (xs.take i)).length →
      (∀ s', Moved (a :: wr) G s s' → s'.heap.SetOf (PySem.strKind P w) a (fun k => (mets xs).any (· == k)) (mets xs).length → R (.ok (.ret .none)) s') →
      codeAny (model P w) A (.builtin "set.update.loop" ⟨[.ref a, .ref it], []⟩) R s := by
  have aw : a ∉ wr := fun h => ha (W.sub _ h)
  have up : ∀ b ∈ wr, b ∈ a :: wr := fun b hb => List.mem_cons_of_mem _ hb
  have keepS : ∀ {s s' : Shared} {S : Str → Bool} {j : Nat}, Moved wr G s s' → s.heap.SetOf (PySem.strKind P w) a S j → s'.heap.SetOf (PySem.strKind P w) a S j := fun hm ⟨o, es, ep, t, ho, rest⟩ => ⟨o, es, ep, t, hm.heap a _ aw ho, rest⟩
  intro m
  induction m with
  | zero =>
    intro i s hi st gS fin
    have ei : i = n := by omega
    refine codeAny_builtin PyProof.Rows.F.entry_set_update_loop ?_
    rw [Around.under_plainId PyProof.Rows.F.plain_set_update_loop _]
    show wpAny _ A.in1 (pyNext (.ref it) >>= _) _ _ s
    refine wpAny_bind (W.done s _ _ (ei ▸ st) fun s' hm => ?_)
    show wpAny _ A.in1 (ret Value.none) _ _ s'
    refine wpAny_pure (fin s' (hm.mono up) ?_)
    have q := keepS hm gS
    rw [List.take_of_length_le (by omega)] at q
    exact q
  | succ m ih =>
    intro i s hi st gS fin
    refine codeAny_builtin PyProof.Rows.F.entry_set_update_loop ?_
    rw [Around.under_plainId PyProof.Rows.F.plain_set_update_loop _]
    show wpAny _ A.in1 (pyNext (.ref it) >>= _) _ _ s
    refine wpAny_bind (W.item i s _ _ (by omega) st fun v s' pv st' hm => ?_)
    obtain ⟨t, rfl⟩ := hv i v pv
    have gS' := keepS hm gS
    show wpAny _ A.in1 (holding [Value.str (xs.getD i Str.empty) t] (setAdd a (.str (xs.getD i Str.empty) t)) >>= _) _ _ s'
    refine wpAny_bind (wpAny_holding ?_)
    unfold setAdd
    refine wpAny_holding (wpAny_bind ((PySem.strKind P w).pyHash (k := xs.getD i Str.empty) (strKind_is _ _ _ _) ?_))
    have le := mets_le (xs.take i)
    rw [List.length_take] at le
    refine wpAny_setAddHashed_of (knd := PySem.strKind P w) (s := { s' with toks := s'.toks + 1 }) (strKind_is _ _ _ _) rfl gS' (by omega) fun h' sb new => ?_
    have new' : h'.SetOf (PySem.strKind P w) a (fun k => (mets (xs.take (i + 1))).any (· == k)) (mets (xs.take (i + 1))).length :=
      SetOf_congr new (fun k => by rw [mets_take (by omega), met1_any]) (by rw [mets_take (by omega), met1_len])
    refine wpAny_pure ⟨plainId_quiet PyProof.Rows.F.plain_set_update_loop _, ih (i + 1) _ (by omega) (W.frame _ s' _ _ st' (Nat.le_succ _) fun b hb o e => ?_) new' fun s2 hm2 gS2 => ?_⟩
    · rw [sb.2 b (fun z : b = a => ha (z ▸ hb))]; exact e
    · refine fin s2 (Moved.trans W.gtrans ((hm.mono up).then_heap (Nat.le_succ _) fun b o hb e => ?_) hm2) gS2
      rw [sb.2 b (fun z : b = a => hb (by rw [z]; exact List.mem_cons_self))]; exact e
end
end DV

set_option Elab.async false
set_option linter.all false
set_option maxRecDepth 100000
namespace DV
open PySem PySem.Spec PyProof.Rows L2
section
variable {P : Program} {w : World} {A : Around} {E : Value → Shared → Prop} {s : Shared}
/-- a list or a tuple -/
def SeqObj (h : Heap) (l : Addr) (items : Array Value) (c : String) : Prop := (c = "list" ∧ h.IsList l items) ∨ (c = "tuple" ∧ h.IsTuple l items)
set_option maxHeartbeats 3200000 in
theorem make_texts {l : Addr} {items : Array Value} {xs : List Str} {c : String} {Q : Value → Shared → Prop} (nohand : A.handled = none) (sq : SeqObj s.heap l items c) (tx : PyProof.Rows.StrsAre items.toList xs) (few : xs.length + 1 < scanBound)
    (fin : ∀ (h' : Heap) (tk : Nat), h'.SetOf (PySem.strKind P w) s.heap.objs.size (fun k => (mets xs).any (· == k)) (mets xs).length → (∀ b o, b < s.heap.objs.size → s.heap.get? b = some o → h'.get? b = some o) → Q (.ref s.heap.objs.size) { s with heap := h', toks := tk }) :
    wpAny (model P w) A (call (.type "set") [.ref l]) Q E s := by
  have ⟨cc, tl, mro⟩ := PySem.F.called_set.mro
  have made := PySem.F.called_set.made
  have sub := PySem.F.called_set.sub
  refine wpAny_call (codeAny_of_tree ?_)
  show wpAny _ _ (callAny (.type "set") _) _ _ _
  refine wpAny_pure ⟨Code.quiet_builtin _ (by decide +kernel), codeAny_builtin PySem.F.entry_type_call ?_⟩
  rw [Around.under_plain (weight_type_call_type "set" [.ref l] []) rfl]
  have t1 := PySem.F.called_set.notType
  have t2 := PySem.F.called_set.canCreate
  have t3 := PySem.F.typeCall_set_1 (.ref l)
  repeat (any_goals (first | assumption | wp_step))
  refine codeAny_mono (code_set_new_1 (.ref l) (E := E) (Q₁ := fun v s1 => ∃ b : Bool, v = .ref s.heap.objs.size ∧ s1 = { s with heap := s.heap.push { cls := .type "set", dict := none, data := .set #[] 0 (.fresh 0 0 b) } }) fun b => ⟨b, rfl, rfl⟩) fun r s1 got => ?_
  cases r with
  | error e => exact got
  | ok fl =>
  obtain ⟨v, rfl⟩ : ∃ v, fl = .ret v := by
    cases fl with
    | ret v => exact ⟨v, rfl⟩
    | _ => exact got.elim
  obtain ⟨b, rfl, rfl⟩ := got
  have free : ({ cls := .type "set", dict := none, data := .set #[] 0 (.fresh 0 0 b) } : Obj).isFreed = false := rfl
  have atS : (s.heap.push { cls := .type "set", dict := none, data := .set #[] 0 (.fresh 0 0 b) }).get? s.heap.objs.size = some { cls := .type "set", dict := none, data := .set #[] 0 (.fresh 0 0 b) } := Heap.get?_push_size _ free
  have tyS : Shared.TypeIs { s with heap := s.heap.push { cls := .type "set", dict := none, data := .set #[] 0 (.fresh 0 0 b) } } (.ref s.heap.objs.size) "set" := ⟨_, atS, rfl⟩
  have look := PySem.F.called_set.init.lookup
  have bound := PySem.F.called_set.init.bind (.ref s.heap.objs.size)
  repeat (any_goals (first | assumption | wp_step))
  refine codeAny_mono (codeAny_call_builtin (R := wants (fun r s2 => r = .none ∧ ∃ h' tk, s2 = { s with heap := h', toks := tk } ∧ h'.SetOf (PySem.strKind P w) s.heap.objs.size (fun k => (mets xs).any (· == k)) (mets xs).length ∧ (∀ b o, b < s.heap.objs.size → s.heap.get? b = some o → h'.get? b = some o)) E)
    PySem.F.called_set.init.plain PySem.F.entry_set_init (check_set_init_1 tyS ?inn)) fun r s2 got => ?out
  case out =>
    cases r with
    | error e => exact got
    | ok fl =>
      cases fl with
      | ret r =>
        obtain ⟨rfl, h', tk, rfl, gS, gk⟩ := got
        repeat (any_goals (first | assumption | wp_step))
        exact fin _ _ gS gk
      | _ => exact got.elim
  case inn =>
    have hsz : xs.length = items.size := by rw [← StrsAre.len_eq tx, Array.length_toList]
    have val : ∀ (i : Nat) (v : Value), items[i]? = some v → ∃ t, v = .str (xs.getD i Str.empty) t := fun i v hv => SS.strs_at tx i v (by rw [Array.getElem?_toList]; exact hv)
    have nohand3 : A.in1.in1.in1.handled = none := by simp [nohand]
    have szI : (s.heap.push { cls := .type "set", dict := none, data := .set #[] 0 (.fresh 0 0 b) }).objs.size = s.heap.objs.size + 1 := Heap.size_push _ _
    rcases sq with ⟨rfl, hl⟩ | ⟨rfl, hl⟩
    all_goals
      obtain ⟨ol, hol, hcl, nl, hdl⟩ := hl
      obtain ⟨ocls, odict, odata, oslots⟩ := ol
      dsimp only at hcl hdl
      subst hcl
      subst hdl
      have below : l < s.heap.objs.size := Heap.lt_size hol
      have hol' := Heap.get?_push_of_some ({ cls := .type "set", dict := none, data := .set #[] 0 (.fresh 0 0 b) } : Obj) hol
    · have u1 := PySem.F.sub_list_set
      have u2 := PySem.F.sub_list_frozenset
      have u3 : (Value.type "list" == Value.type "dict") = false := by decide
      have seq : (s.heap.push { cls := .type "set", dict := none, data := .set #[] 0 (.fresh 0 0 b) }).IsList l items := ⟨_, hol', rfl, nl, rfl⟩
      unfold Builtin.«set.__init__» noKeywords Builtin.Frozenset.updateFrom
      generalize eI : pyIter = PI
      wp_walk
      subst eI
      refine wpAny_pyIter_list seq ?_
      refine wpAny_bind (wpAny_runValue ?_)
      have lneI : l ≠ (s.heap.push { cls := .type "set", dict := none, data := .set #[] 0 (.fresh 0 0 b) }).objs.size := Nat.ne_of_lt (by rw [szI]; exact Nat.lt_succ_of_lt below)
      have SnI : s.heap.objs.size ∉ [(s.heap.push { cls := .type "set", dict := none, data := .set #[] 0 (.fresh 0 0 b) }).objs.size, l] := by
        rw [szI]
        intro z
        rcases List.mem_cons.mp z with z | z
        · exact Nat.ne_of_lt (Nat.lt_succ_self _) z
        · exact Nat.ne_of_gt below (List.mem_singleton.mp z)
      refine fill_texts ((Walks.list nohand3 _ l lneI items).toS) s.heap.objs.size SnI xs hsz (by omega) val items.size 0 _ (by omega) ⟨⟨_, Heap.get?_push_size _ rfl, rfl, rfl⟩, (seq.push _)⟩ ?st ?fn
      case st =>
        exact SetOf_congr ((PyProof.Rows.setObjOf_fresh (knd := PySem.strKind P w) b).setOf (Heap.get?_push_of_some _ atS) (by unfold scanBound; omega)) (fun _ => rfl) rfl
      case fn =>
        intro s' hm gS
        obtain ⟨h', g', d', tk', os'⟩ := s'
        obtain rfl : g' = s.gens := hm.gens
        obtain rfl : d' = s.drawn := hm.drawn
        obtain rfl : os' = s.os := hm.os
        show wpAny _ _ _ _ _ _
        refine wpAny_pure ?_
        show wpAny _ _ (ret Value.none) _ _ _
        refine wpAny_pure ⟨rfl, h', tk', rfl, gS, fun p o hb e => hm.heap p o (fun z => ?_) (Heap.get?_push_of_some _ (Heap.get?_push_of_some _ e))⟩
        rcases List.mem_cons.mp z with z | z
        · exact Nat.ne_of_lt hb z
        · have z2 := List.mem_singleton.mp z
          rw [szI] at z2
          exact Nat.ne_of_lt (Nat.lt_succ_of_lt hb) z2
    · have u1 := PySem.F.sub_tuple_set
      have u2 := PySem.F.sub_tuple_frozenset
      have u3 : (Value.type "tuple" == Value.type "dict") = false := by decide
      have seq : (s.heap.push { cls := .type "set", dict := none, data := .set #[] 0 (.fresh 0 0 b) }).IsTuple l items := ⟨_, hol', rfl, nl, rfl⟩
      unfold Builtin.«set.__init__» noKeywords Builtin.Frozenset.updateFrom
      generalize eI : pyIter = PI
      wp_walk
      subst eI
      refine wpAny_pyIter_tuple seq ?_
      refine wpAny_bind (wpAny_runValue ?_)
      have lneI : l ≠ (s.heap.push { cls := .type "set", dict := none, data := .set #[] 0 (.fresh 0 0 b) }).objs.size := Nat.ne_of_lt (by rw [szI]; exact Nat.lt_succ_of_lt below)
      have SnI : s.heap.objs.size ∉ [(s.heap.push { cls := .type "set", dict := none, data := .set #[] 0 (.fresh 0 0 b) }).objs.size, l] := by
        rw [szI]
        intro z
        rcases List.mem_cons.mp z with z | z
        · exact Nat.ne_of_lt (Nat.lt_succ_self _) z
        · exact Nat.ne_of_gt below (List.mem_singleton.mp z)
      refine fill_texts ((Walks.tuple nohand3 _ l lneI items).toS) s.heap.objs.size SnI xs hsz (by omega) val items.size 0 _ (by omega) ⟨⟨_, Heap.get?_push_size _ rfl, rfl, rfl⟩, (seq.push _)⟩ ?st ?fn
      case st =>
        exact SetOf_congr ((PyProof.Rows.setObjOf_fresh (knd := PySem.strKind P w) b).setOf (Heap.get?_push_of_some _ atS) (by unfold scanBound; omega)) (fun _ => rfl) rfl
      case fn =>
        intro s' hm gS
        obtain ⟨h', g', d', tk', os'⟩ := s'
        obtain rfl : g' = s.gens := hm.gens
        obtain rfl : d' = s.drawn := hm.drawn
        obtain rfl : os' = s.os := hm.os
        show wpAny _ _ _ _ _ _
        refine wpAny_pure ?_
        show wpAny _ _ (ret Value.none) _ _ _
        refine wpAny_pure ⟨rfl, h', tk', rfl, gS, fun p o hb e => hm.heap p o (fun z => ?_) (Heap.get?_push_of_some _ (Heap.get?_push_of_some _ e))⟩
        rcases List.mem_cons.mp z with z | z
        · exact Nat.ne_of_lt hb z
        · have z2 := List.mem_singleton.mp z
          rw [szI] at z2
          exact Nat.ne_of_lt (Nat.lt_succ_of_lt hb) z2
end

section
variable {K : PySem.W.Frag} {ct : String → Addr} {io : Io} {H : Hp} {A : Hd}
def textsD : List D → Option (List Str)
  | [] => some []
  | .str x :: r => match textsD r with
    | some xs => some (x :: xs)
    | none => none
  | _ :: _ => none
theorem textsD_ok : ∀ {vs : List V} {ds : List D} {xs : List Str}, DRs K ct io H vs ds → textsD ds = some xs → vs = xs.map V.str
  | _, _, _, .nil, e => by cases e; rfl
  | _, _, _, .cons r rs, e => by
    cases r with
    | str x =>
      unfold textsD at e
      split at e
      · rename_i xs h1
        cases e
        rw [textsD_ok rs h1]
        rfl
      · cases e
    | _ => cases e
def gLenSet (d : D) (A : Hd) : R D := match asQ A d with
  | some es => match textsD es with
    | some xs => if xs.length < 4000 then .ok (.int (mets xs).length) A else .stk
    | none => .stk
  | none => .stk
def tLenTexts (K : PySem.W.Frag) (ta : TE) : TE := fun σ H Q => ta σ H fun x H1 => ∃ l, ∃ xs : List Str, x = .ref l ∧ (SqL K H1 l (xs.map V.str) ∨ SqT K H1 l (xs.map V.str)) ∧ xs.length < 4000 ∧ Q (.int (mets xs).length) H1
end
section
variable {X : Cx} {ct : String → Addr} {W : WX} {a : Expr} {fa : EF} {p p2 q pos : Pos}
theorem pe_lenTexts {ta : TE} (hc : X.calm = true) (hg : Gl X "len") (hm : X.mg "len" = none) (hg2 : Gl X "set") (hm2 : X.mg "set" = none) (ha : PE X a ta) (na : starEach [a] X.env = (false, eval a X.env) :: starEach [] X.env := by rfl) :
    PE X (.Call (.Name "len" p) [.Call (.Name "set" p2) [a] [] q] [] pos) (tLenTexts X.K ta) := by
  refine ⟨fun pins s σ H Q I h => ?_⟩
  refine Call_ (ld_blt I hg hm boot_len (PyProof.Rows.callWith_builtin1 (PyProof.Rows.args_cons ?_ rfl) rfl rfl))
  refine Call_ (ld_blt I hg2 hm2 boot_set ?_)
  refine PyProof.Rows.callWith_type1 (PyProof.Rows.args_cons (thn (ha.run pins s σ H _ I h) fun v s1 ⟨x, H1, I1, r1, q1⟩ => PyProof.Rows.args_nil ?_) na) na rfl
  obtain ⟨l, xs, rfl, sq, few, q1⟩ := q1
  cases r1
  have go : ∃ c items, SeqObj s1.heap l items c ∧ StrsAre items.toList xs := by
    rcases sq with sq | sq
    · obtain ⟨its, r, pl, hz⟩ := I1.list sq
      exact ⟨"list", its.toArray, .inl ⟨rfl, pl.isList⟩, by simpa using strsAre_of r⟩
    · obtain ⟨its, r, pl, hz⟩ := I1.tuple sq
      exact ⟨"tuple", its.toArray, .inr ⟨rfl, pl⟩, by simpa using strsAre_of r⟩
  obtain ⟨c, items, so, tx⟩ := go
  refine make_texts (I1.ok.hd hc) so tx (by unfold scanBound; omega) fun h' tk gS gk => ?_
  refine PyProof.Rows.args_nil ?_
  have le := mets_le xs
  obtain ⟨o, es, ep, t, ho, hex, hd, _, _, _, hf, hn⟩ := gS
  have I2 : Inv X pins σ H1 { s1 with heap := h', toks := tk } := I1.kept fun b o e => gk b o (Heap.lt_size e) e
  refine call_len_set ho hex hd hf (by rw [hn]; omega) ⟨.int (mets xs).length, H1, I2.tok _, ⟨_, by rw [hn]⟩, q1⟩
theorem pd_lenSet (hc : X.calm = true) (hg : Gl X "len") (hm : X.mg "len" = none) (hg2 : Gl X "set") (hm2 : X.mg "set" = none) (ha : PD X ct W a fa) (na : starEach [a] X.env = (false, eval a X.env) :: starEach [] X.env := by rfl) :
    PD X ct W (.Call (.Name "len" p) [.Call (.Name "set" p2) [a] [] q] [] pos) (eUn gLenSet fa) :=
  pe_mono (pe_lenTexts hc hg hm hg2 hm2 ha na) fun σ H Q ⟨io, A, ro, s, p⟩ => ⟨io, A, ro, s, (p.bind (rep := DR X.K ct)).mono fun v H1 ⟨io1, A1, d, e1, h1, r1, p1⟩ => by
    unfold gLenSet at p1
    split at p1
    · rename_i es he
      split at p1
      · rename_i xs hx
        split at p1
        · rename_i few
          obtain ⟨a, us, rfl, sq, rs⟩ := asQ_ok h1 r1 he
          have e := textsD_ok rs hx
          subst e
          exact ⟨a, xs, rfl, sq, few, p1.here h1 (.int _)⟩
        · exact p1.elim
      · exact p1.elim
    · exact p1.elim⟩
end
end DV

set_option Elab.async false
set_option linter.all false
set_option maxRecDepth 100000
/-! DvO: constants of the module; more rules. -/
namespace DV
open PySem PySem.Spec PyProof.Rows L2
section
variable {X : Cx} {ct : String → Addr} {W : WX} {x : Str} {pos : Pos}
theorem pd_gc {v : V} {d : D} (hg : Gl X x) (h : ∃ u, X.mg x = some u ∧ RelV v u) (r : ∀ io H, DR X.K ct io H v d) (hd : (x == ("__debug__" : Str)) = false := by decide) : PD X ct W (.Name x pos) (eC d) := by
  obtain ⟨u, h1, h2⟩ := h
  exact pd_c (pe_glob hg h1 h2 hd) r
end
end DV

set_option Elab.async false
set_option linter.all false
set_option maxRecDepth 100000
/-! DvP: plain laws of the functions on data. -/
namespace DV
open PySem PySem.Spec PyProof.Rows L2
theorem cut_same {A A' : Hd} {d : D} (h : A'.length = A.length) : cutR A d A' = .ok d A' := by
  have ht : A'.take A.length = A' := List.take_of_length_le (by omega)
  unfold cutR
  split
  · rename_i d' hd
    have e : d' = d := by
      unfold frz at hd
      split at hd
      · exact (Option.some.inj hd).symm
      · rename_i hl
        split at hd
        · rename_i k
          have : ¬ k < A.length := by simpa [D.lt] using hl
          rw [List.getElem?_eq_none (by omega)] at hd
          cases hd
        · cases hd
    rw [e, ht]
    split <;> rfl
  · rfl
@[simp] theorem cut_self {A : Hd} {d : D} : cutR A d A = .ok d A := cut_same rfl
@[simp] theorem cut_set {A : Hd} {d : D} {k : Nat} {m : M} : cutR A d (A.set k m) = .ok d (A.set k m) := cut_same (by simp)
@[simp] theorem calm_ok {α : Type} (a : α) (A : Hd) : (R.ok a A).calm = R.ok a A := rfl
@[simp] theorem here_fix (ds : List D) (A : Hd) : (Src.fix ds).here A := trivial
/-- loops that go through -/
theorem forD_run {s : Src} {g : GF} {b : SF} {I : Nat → Env → Hd → Prop} (hs : ∀ i ro A, I i ro A → s.here A) : ∀ (ds : List D) (i : Nat) (ro : Env) (A : Hd), I i ro A →
    (∀ j d ro A, ds[j]? = some d → I (i + j) ro A → ∃ ro' A', (g d ro A).out.next b = .go .nx ro' A' ∧ I (i + j + 1) ro' A') →
    ∃ ro' A', forD s g b ds ro A = .go .nx ro' A' ∧ I (i + ds.length) ro' A'
  | [], i, ro, A, h, _ => ⟨ro, A, by unfold forD; rw [if_pos (hs i ro A h)], h⟩
  | d :: ds, i, ro, A, h, st => by
    obtain ⟨ro1, A1, e1, h1⟩ := st 0 d ro A rfl h
    obtain ⟨ro2, A2, e2, h2⟩ := forD_run hs ds (i + 1) ro1 A1 h1 fun j d' ro A hd hI => by
      have := st (j + 1) d' ro A (by simpa using hd) (by rw [show i + (j + 1) = i + 1 + j by omega]; exact hI)
      rw [show i + (j + 1) + 1 = i + 1 + j + 1 by omega] at this
      exact this
    refine ⟨ro2, A2, ?_, by rw [List.length_cons, show i + (ds.length + 1) = i + 1 + ds.length by omega]; exact h2⟩
    unfold forD
    rw [if_pos (hs i ro A h), e1, Out.loop_nx, e2]
/-- a comprehension of a plain test and a plain item -/
theorem compD_pure {s : Src} {pt : Pat} {vs : List Nat} {tt : TF} {te : EF} {ro : Env} {A : Hd} {p : D → Bool} {f : D → D} (hs : s.here A) : ∀ (ds acc : List D), acc.length + ds.length ≤ sizeLine →
    (∀ d ∈ ds, ∃ ro1, pt.put d (wipeD ro vs) = some ro1 ∧ tt ro1 A = .ok (p d) A ∧ (p d = true → te ro1 A = .ok (f d) A)) →
    compD s pt vs tt te ro ds acc A = .ok (acc ++ (ds.filter p).map f) A
  | [], acc, _, _ => by unfold compD; rw [if_pos hs]; simp
  | d :: ds, acc, hl, h => by
    obtain ⟨ro1, e1, e2, e3⟩ := h d List.mem_cons_self
    rw [List.length_cons] at hl
    unfold compD
    rw [if_pos hs, e1]
    simp only [e2, calm_ok, R.bind_ok]
    cases hp : p d with
    | true =>
      rw [if_pos rfl, e3 hp, calm_ok, R.bind_ok, if_pos (by omega), compD_pure hs ds _ (by rw [List.length_append]; simp; omega) fun d hd => h d (List.mem_cons_of_mem _ hd)]
      simp [List.filter_cons, hp]
    | false =>
      rw [if_neg (by simp), compD_pure hs ds acc (by omega) fun d hd => h d (List.mem_cons_of_mem _ hd)]
      simp [List.filter_cons, hp]
/-- a comprehension whose items are drawn -/
theorem compD_run {s : Src} {pt : Pat} {vs : List Nat} {tt : TF} {te : EF} {ro : Env} {I : Nat → Hd → Prop} {G : D → Prop} (hs : ∀ i A, I i A → s.here A) : ∀ (ds acc : List D) (i : Nat) (A : Hd), acc.length + ds.length ≤ sizeLine → I i A → (∀ d ∈ acc, G d) →
    (∀ j d A, ds[j]? = some d → I (i + j) A → ∃ ro1, pt.put d (wipeD ro vs) = some ro1 ∧ ∃ b A1, tt ro1 A = .ok b A1 ∧ (b = false → I (i + j + 1) A1) ∧ (b = true → ∃ y A2, te ro1 A1 = .ok y A2 ∧ G y ∧ I (i + j + 1) A2)) →
    ∃ ys A', compD s pt vs tt te ro ds acc A = .ok ys A' ∧ I (i + ds.length) A' ∧ (∀ d ∈ ys, G d) ∧ ys.length ≤ acc.length + ds.length
  | [], acc, i, A, _, h, g, _ => ⟨acc, A, by unfold compD; rw [if_pos (hs i A h)], h, g, by simp⟩
  | d :: ds, acc, i, A, hl, h, g, st => by
    obtain ⟨ro1, e1, b, A1, e2, h1, h2⟩ := st 0 d A rfl h
    rw [List.length_cons] at hl
    have nx : ∀ j d A, ds[j]? = some d → I (i + 1 + j) A → ∃ ro1, pt.put d (wipeD ro vs) = some ro1 ∧ ∃ b A1, tt ro1 A = .ok b A1 ∧ (b = false → I (i + 1 + j + 1) A1) ∧ (b = true → ∃ y A2, te ro1 A1 = .ok y A2 ∧ G y ∧ I (i + 1 + j + 1) A2) := fun j d' A hd hI => by
      have := st (j + 1) d' A (by simpa using hd) (by rw [show i + (j + 1) = i + 1 + j by omega]; exact hI)
      rw [show i + (j + 1) + 1 = i + 1 + j + 1 by omega] at this
      exact this
    unfold compD
    rw [if_pos (hs i A h), e1]
    simp only [e2, calm_ok, R.bind_ok]
    cases b with
    | true =>
      obtain ⟨y, A2, e3, gy, h3⟩ := h2 rfl
      obtain ⟨ys, A', q1, q2, q3, q4⟩ := compD_run hs ds (acc ++ [y]) (i + 1) A2 (by rw [List.length_append]; simp; omega) h3 (fun d hd => (List.mem_append.mp hd).elim (g d) fun z => by rw [List.mem_singleton.mp z]; exact gy) nx
      refine ⟨ys, A', ?_, by rw [List.length_cons, show i + (ds.length + 1) = i + 1 + ds.length by omega]; exact q2, q3, by rw [List.length_append] at q4; simp at q4 ⊢; omega⟩
      rw [if_pos rfl, e3, calm_ok, R.bind_ok, if_pos (by omega), q1]
    | false =>
      obtain ⟨ys, A', q1, q2, q3, q4⟩ := compD_run hs ds acc (i + 1) A1 (by omega) (h1 rfl) g nx
      refine ⟨ys, A', ?_, by rw [List.length_cons, show i + (ds.length + 1) = i + 1 + ds.length by omega]; exact q2, q3, by simp at q4 ⊢; omega⟩
      rw [if_neg (by simp), q1]
/-- the source of draws stands under number k; at most T draws are done -/
def SRC (A : Hd) (k : Nat) (T : Int) : Prop := ∃ c t h : Int, A[k]? = some (.lst [.int c, .int t, .int h]) ∧ 0 ≤ t ∧ t ≤ T ∧ 0 ≤ h
theorem SRC.le {A : Hd} {k : Nat} {T T' : Int} (h : SRC A k T) (e : T ≤ T') : SRC A k T' := let ⟨c, t, q, h1, h2, h3, h4⟩ := h; ⟨c, t, q, h1, h2, Int.le_trans h3 e, h4⟩
theorem sub_num {A : Hd} {k : Nat} {ds : List D} {i : Int} {x : D} (h : A[k]? = some (.lst ds)) (e : L2.atI ds i = some x) : gSubD (.ref k) (.int i) A = .ok x A := by
  unfold gSubD asD
  simp only [h]
  unfold gIx asQ asR asL
  simp only [h, e]
theorem sub_lst {A : Hd} {ds : List D} {i : Int} {x : D} (e : L2.atI ds i = some x) : gSubD (.lst ds) (.int i) A = .ok x A := by
  unfold gSubD asD gIx asQ asR asL
  simp only [e]
theorem sub_tup {A : Hd} {ds : List D} {i : Int} {x : D} (e : L2.atI ds i = some x) : gSubD (.tup ds) (.int i) A = .ok x A := by
  unfold gSubD asD gIx asQ
  simp only [e]
theorem sub_scr {A : Hd} {ds : List D} {i : Int} {x : D} (e : L2.atI ds i = some x) : gSubD (.scr ds) (.int i) A = .ok x A := by
  unfold gSubD asD gIx asQ asR
  simp only [e]
theorem set_num {A : Hd} {k : Nat} {ds : List D} {i : Int} {j : Nat} {d : D} {ro : Env} (h : A[k]? = some (.lst ds)) (e : ixN ds.length i = some j) : setD (.ref k) (.int i) d ro A = .ok ro (A.set k (.lst (ds.set j d))) := by
  unfold setD numL
  simp only [h, e]
theorem atI_of {α : Type} {xs : List α} {i : Int} (h0 : 0 ≤ i) (h1 : i < xs.length) : ∃ x, L2.atI xs i = some x ∧ x ∈ xs := by
  have hi : i.toNat < xs.length := by omega
  refine ⟨xs[i.toNat], ?_, List.getElem_mem hi⟩
  unfold L2.atI ixN
  rw [if_pos h0, if_pos h1]
  exact List.getElem?_eq_getElem hi

/-! ### one step each -/
section
variable {a b c : EF} {fl : AF} {t u : TF} {p q : SF} {g : D → D → Hd → R D} {h : D → Hd → R D} {k : List D → Hd → R D} {ro ro' : Env} {A A0 A1 A2 : Hd} {d e : D} {ds : List D} {r : R D} {o : Out} {i : Nat}
theorem bin_ok (h1 : a ro A = .ok d A1) (h2 : b ro A1 = .ok e A2) (h3 : g d e A2 = r) : eBin g a b ro A = r := by unfold eBin; rw [h1, R.bind_ok, h2, R.bind_ok, h3]
theorem un_ok (h1 : a ro A = .ok d A1) (h3 : h d A1 = r) : eUn h a ro A = r := by unfold eUn; rw [h1, R.bind_ok, h3]
theorem acons_ok (h1 : a ro A = .ok d A1) (h2 : fl ro A1 = .ok ds A2) : aCons a fl ro A = .ok (d :: ds) A2 := by unfold aCons; rw [h1, R.bind_ok, h2, R.bind_ok]
theorem args_ok (h1 : fl ro A = .ok ds A1) (h2 : k ds A1 = r) : eArgs k fl ro A = r := by unfold eArgs; rw [h1, R.bind_ok, h2]
theorem args1_ok (h1 : a ro A = .ok d A1) (h2 : k [d] A1 = r) : eArgs k (aCons a aNil) ro A = r := args_ok (acons_ok h1 rfl) h2
theorem args2_ok (h1 : a ro A = .ok d A1) (h2 : b ro A1 = .ok e A2) (h3 : k [d, e] A2 = r) : eArgs k (aCons a (aCons b aNil)) ro A = r := args_ok (acons_ok h1 (acons_ok h2 rfl)) h3
theorem comp_ok {f : IF} {s : Src} {pt : Pat} {vs : List Nat} (h1 : f ro A = .ok s A1) (h2 : compD s pt vs t a ro s.items [] A1 = .ok ds A2) : eComp f pt vs t a ro A = .ok (.lst ds) A2 := by unfold eComp; rw [h1, R.bind_ok, h2, R.bind_ok]
theorem seq_ok {s : Src} (h1 : a ro A = .ok d A1) (h2 : srcD d A1 = some s) : iSeq a ro A = .ok s A1 := by unfold iSeq; rw [h1, R.bind_ok, h2]
theorem if_ok {z : Bool} (h1 : t ro A = .ok z A1) (h2 : (if z then a ro A1 else b ro A1) = r) : eIf t a b ro A = r := by unfold eIf; rw [h1, R.bind_ok, h2]
theorem and_ok {z : Bool} (h1 : a ro A = .ok (.bl z) A1) (h2 : (if z then b ro A1 else .ok (.bl z) A1) = r) : eAndD a b ro A = r := by
  unfold eAndD
  rw [h1, R.bind_ok]
  show (R.ok z A1).bind _ = r
  rw [R.bind_ok, ← h2]
theorem not_ok {z : Bool} (h1 : a ro A = .ok (.bl z) A1) : eNotD a ro A = .ok (.bl (!z)) A1 := by
  unfold eNotD
  rw [h1, R.bind_ok]
  show (R.ok z A1).bind _ = _
  rw [R.bind_ok]
theorem tnot_ok {z : Bool} (h1 : t ro A = .ok z A1) : tNotD t ro A = .ok (!z) A1 := by unfold tNotD; rw [h1, R.bind_ok]
theorem tru_ok {z : Bool} (h1 : a ro A = .ok d A1) (h2 : gTru d A1 = .ok z A1) : tOfE a ro A = .ok z A1 := by unfold tOfE; rw [h1, R.bind_ok, h2]
theorem trub_ok {z : Bool} (h1 : a ro A = .ok (.bl z) A1) : tOfE a ro A = .ok z A1 := tru_ok h1 rfl
theorem tor_ok {z w : Bool} {A3 : Hd} (h1 : t ro A = .ok z A1) (h2 : (if z then .ok true A1 else u ro A1) = .ok w A3) : tOrD t u ro A = .ok w A3 := by unfold tOrD; rw [h1, R.bind_ok, h2]
theorem tand_ok {z w : Bool} {A3 : Hd} (h1 : t ro A = .ok z A1) (h2 : (if z then u ro A1 else .ok false A1) = .ok w A3) : tAndD t u ro A = .ok w A3 := by unfold tAndD; rw [h1, R.bind_ok, h2]
theorem tcmp_ok {z : Bool} {A3 : Hd} (h1 : a ro A = .ok d A1) (h2 : b ro A1 = .ok e A2) (h3 : g d e A2 = .ok (.bl z) A3) : tCmpD g a b ro A = .ok z A3 := by unfold tCmpD; rw [bin_ok h1 h2 h3]; rfl
theorem sif_ok {z : Bool} (h1 : t ro A = .ok z A1) (h2 : (if z then p ro A1 else q ro A1) = o) : sIf t p q ro A = o := by unfold sIf; rw [h1, R.then_ok, h2]
theorem sseq_ok (h1 : p ro A = .go .nx ro' A1) (h2 : q ro' A1 = o) : sSeq p q ro A = o := by unfold sSeq; rw [h1, Out.next_nx, h2]
theorem sret_ok (h1 : a ro A = .ok d A1) : sRet a ro A = .go (.ret d) ro A1 := by unfold sRet; rw [h1, R.then_ok]
theorem sasg_ok (h1 : a ro A = .ok d A1) : sAsg a (gNm i) ro A = .go .nx (ro.set i (some d)) A1 := by unfold sAsg; rw [h1, R.then_ok]; rfl
theorem sfor_ok {f : IF} {s : Src} {gf : GF} (h1 : f ro A = .ok s A1) (h2 : forD s gf p s.items ro A1 = o) : sFor f gf p ro A = o := by unfold sFor; rw [h1, R.then_ok, h2]
theorem fin_ok (h1 : o = .go (.ret d) ro A1) (h2 : A1.length = A.length) : finR A o = .ok d A1 := by rw [h1]; exact cut_same h2
theorem rng_ok {n : Int} (h1 : a ro A = .ok (.int n) A1) (h0 : 0 ≤ n) (h2 : n < 2 ^ 62) : iRange1 (aCons a aNil) ro A = .ok (.fix (rangeD 0 n.toNat)) A1 := by
  unfold iRange1
  rw [acons_ok h1 (show aNil ro A1 = .ok [] A1 from rfl), R.bind_ok]
  show (if -(2 ^ 62) ≤ n ∧ n < 2 ^ 62 then R.ok (Src.fix (rangeD 0 n.toNat)) A1 else .stk) = _
  rw [if_pos ⟨by omega, h2⟩]
end
end DV

set_option Elab.async false
set_option linter.all false
set_option maxRecDepth 100000
set_option maxHeartbeats 1000000
/-! DvQ: zip(xs, ys, strict=True), each a list or a tuple, of one length. -/
namespace DV
open PySem PySem.Spec PyProof.Rows L2
/-- an iterator at place k of a list (false) or tuple (true) -/
def It1 (h : Heap) (tp : Bool) (i l : Addr) (k : Nat) : Prop := match tp with
  | false => h.IsListIter i l k
  | true => h.IsTupleIter i l k
def Sq1 (h : Heap) (tp : Bool) (l : Addr) (xs : Array Value) : Prop := match tp with
  | false => h.IsList l xs
  | true => h.IsTuple l xs
def SqIt (tp : Bool) (h : Heap) (i l : Addr) (k : Nat) (xs : Array Value) : Prop := It1 h tp i l k ∧ Sq1 h tp l xs
theorem It1.at {h h' : Heap} {tp : Bool} {i l : Addr} {k : Nat} (S : It1 h tp i l k) (ki : ∀ o, h.get? i = some o → h'.get? i = some o) : It1 h' tp i l k := by
  cases tp
  · exact Heap.IsListIter.at S ki
  · exact Heap.IsTupleIter.at S ki
theorem Sq1.at {h h' : Heap} {tp : Bool} {l : Addr} {xs : Array Value} (S : Sq1 h tp l xs) (ki : ∀ o, h.get? l = some o → h'.get? l = some o) : Sq1 h' tp l xs := by
  cases tp
  · exact Heap.IsList.at S ki
  · exact Heap.IsTuple.at S ki
theorem SqIt.at {tp : Bool} {h h' : Heap} {i l : Addr} {k : Nat} {xs : Array Value} (S : SqIt tp h i l k xs) (ki : ∀ o, h.get? i = some o → h'.get? i = some o) (kl : ∀ o, h.get? l = some o → h'.get? l = some o) : SqIt tp h' i l k xs := ⟨S.1.at ki, S.2.at kl⟩
theorem It1.obj {h : Heap} {tp : Bool} {i l : Addr} {k : Nat} (S : It1 h tp i l k) : ∃ o, h.get? i = some o ∧ ∀ v, o.data ≠ .cell v := by
  cases tp
  · obtain ⟨o, e, _, d⟩ := S; exact ⟨o, e, fun v z => by rw [d] at z; cases z⟩
  · obtain ⟨o, e, _, d⟩ := S; exact ⟨o, e, fun v z => by rw [d] at z; cases z⟩
section
variable {prog : Program} {w : World} {A : Around} {E : Value → Shared → Prop} {s : Shared}
theorem nextOrEnd_item {tp : Bool} {i l : Addr} {k : Nat} {xs : Array Value} {x : Value} {Q : Option Value → Shared → Prop} (S : SqIt tp s.heap i l k xs) (ne : l ≠ i) (hx : xs[k]? = some x)
    (fin : ∀ h', SqIt tp h' i l (k + 1) xs → Heap.SameBut i s.heap h' → Q (some x) { s with heap := h' }) : wpAny (model prog w) A (Builtin.SmallTypes.nextOrEnd (.ref i)) Q E s := by
  unfold Builtin.SmallTypes.nextOrEnd
  refine wpAny_bind (wpAny_attempt ?_)
  obtain ⟨a, b⟩ := S
  cases tp
  · exact wpAny_nextOf_list_item a b hx fun h' a' sb => wpAny_pure (fin h' ⟨a', b.at fun o e => (sb.2 l ne).trans e⟩ sb)
  · exact RZ.nextOf_tuple_item a b hx fun h' a' sb => wpAny_pure (fin h' ⟨a', b.at fun o e => (sb.2 l ne).trans e⟩ sb)
theorem nextOrEnd_end {tp : Bool} {i l : Addr} {k : Nat} {xs : Array Value} {Q : Option Value → Shared → Prop} (hh : A.handled = none) (S : SqIt tp s.heap i l k xs) (hx : xs[k]? = none)
    (fin : ∀ h', Heap.ExtBut i s.heap h' → Q none { s with heap := h' }) : wpAny (model prog w) A (Builtin.SmallTypes.nextOrEnd (.ref i)) Q E s := by
  unfold Builtin.SmallTypes.nextOrEnd
  refine wpAny_bind (wpAny_attempt ?_)
  obtain ⟨a, b⟩ := S
  cases tp
  · refine wpAny_nextOf_list_end hh a b hx fun h' e sb he => ?_
    obtain ⟨o, ho, hc⟩ := he
    exact wpAny_bind (wpAny_isInstance (T := "StopIteration") (b := true) ⟨o, ho, hc⟩ isSubtype_stop (wpAny_pure (fin h' sb)))
  · refine RZ.nextOf_tuple_end hh a b hx fun h' e sb he => ?_
    obtain ⟨o, ho, hc⟩ := he
    exact wpAny_bind (wpAny_isInstance (T := "StopIteration") (b := true) ⟨o, ho, hc⟩ isSubtype_stop (wpAny_pure (fin h' sb)))
/-- zip, strict -/
abbrev ZipS (h : Heap) (z TI TO : Addr) (f : Value) : Prop := h.get? z = some { cls := .type "zip", dict := none, data := .fields #[f, .bool false, .bool true, .ref TI, .ref TO], slots := #[] }
theorem zipS_item {tp tq : Bool} {z TI TO i1 i2 l1 l2 : Addr} {k : Nat} {xs ys : Array Value} {x y a b : Value} {Q : Value → Shared → Prop} (D : ZipApart z TI TO i1 i2 l1 l2) (hz : ZipS s.heap z TI TO .none) (hTI : IsPair s.heap TI (.ref i1) (.ref i2)) (hTO : IsPair s.heap TO a b)
    (h1 : SqIt tp s.heap i1 l1 k xs) (h2 : SqIt tq s.heap i2 l2 k ys) (hx : xs[k]? = some x) (hy : ys[k]? = some y)
    (fin : ∀ h', ZipS h' z TI TO (rawInt s.heap.objs.size) → IsPair h' TO x y → SqIt tp h' i1 l1 (k + 1) xs → SqIt tq h' i2 l2 (k + 1) ys → IsPair h' s.heap.objs.size x y → h'.objs.size = s.heap.objs.size + 1 →
      (∀ c o, c ≠ z → c ≠ TO → c ≠ i1 → c ≠ i2 → s.heap.get? c = some o → h'.get? c = some o) → Q (.ref s.heap.objs.size) { s with heap := h' }) :
    wpAny (model prog w) A (Builtin.«zip.__next__» ⟨[.ref z], []⟩) (fun r s' => ∃ v, r = .done (.ret v) ∧ Q v s') E s := by
  show wpAny _ _ (field (.ref z) 2 >>= _) _ _ _
  refine wpAny_bind (wpAny_field hz rfl (x := .bool true) rfl ?_)
  show wpAny _ _ (field (.ref z) 3 >>= _) _ _ _
  refine wpAny_bind (wpAny_field hz rfl (x := .ref TI) rfl ?_)
  refine wpAny_bind (wpAny_seqItems hTI rfl ?_)
  show wpAny _ _ (Builtin.SmallTypes.ownedTupleIsFree (.ref z) >>= _) _ _ _
  refine wpAny_bind ?_
  unfold Builtin.SmallTypes.ownedTupleIsFree
  refine wpAny_bind (wpAny_field hz rfl (x := .none) rfl (wpAny_pure ?_))
  simp only [if_true]
  refine wpAny_bind (wpAny_rule ?_)
  refine wpAny_bind (wpAny_field hz rfl (x := .ref TO) rfl ?_)
  refine wpAny_bind (wpAny_setField_rec hz (by simp) fun m1 z1 sb1 => ?_)
  replace z1 : ZipS m1 z TI TO .ellipsis := z1
  refine wpAny_bind ?_
  simp only [List.zipIdx_cons, List.zipIdx_nil, List.forIn_cons, List.forIn_nil]
  refine wpAny_bind (wpAny_bind (wpAny_onRaise ?_))
  show wpAny _ _ (Builtin.SmallTypes.nextOrEnd (.ref i1)) _ _ _
  refine nextOrEnd_item (h1.at (fun o e => (sb1.2 _ D.i1z).trans e) fun o e => (sb1.2 _ D.l1z).trans e) D.l1i1 hx fun m2 j1 sb2 => ?_
  have t2 : IsPair m2 TO a b := (sb2.2 _ D.TOi1).trans ((sb1.2 _ D.TOz).trans hTO)
  refine wpAny_bind (wpAny_seqItems t2 rfl ?_)
  refine wpAny_bind (wpAny_updateSeq_pair t2 fun m3 t3 sb3 => ?_)
  replace t3 : IsPair m3 TO x b := t3
  refine wpAny_bind (wpAny_letGo (wpAny_pure ?_))
  refine wpAny_bind (wpAny_bind (wpAny_onRaise ?_))
  show wpAny _ _ (Builtin.SmallTypes.nextOrEnd (.ref i2)) _ _ _
  have j2 : SqIt tq m3 i2 l2 k ys := h2.at (fun o e => (sb3.2 _ D.TOi2.symm).trans ((sb2.2 _ D.i12.symm).trans ((sb1.2 _ D.i2z).trans e))) fun o e => (sb3.2 _ D.l2TO).trans ((sb2.2 _ D.l2i1).trans ((sb1.2 _ D.l2z).trans e))
  refine nextOrEnd_item j2 D.l2i2 hy fun m4 j3 sb4 => ?_
  have t4 : IsPair m4 TO x b := (sb4.2 _ D.TOi2).trans t3
  refine wpAny_bind (wpAny_seqItems t4 rfl ?_)
  refine wpAny_bind (wpAny_updateSeq_pair t4 fun m5 t5 sb5 => ?_)
  replace t5 : IsPair m5 TO x y := t5
  refine wpAny_bind (wpAny_letGo (wpAny_pure (wpAny_pure ?_)))
  refine wpAny_bind (wpAny_seqItems t5 rfl ?_)
  refine wpAny_bind (wpAny_newTuple ?_)
  have sz : m5.objs.size = s.heap.objs.size := by rw [sb5.1, sb4.1, sb3.1, sb2.1, sb1.1]
  have keep : ∀ c o, c ≠ z → c ≠ TO → c ≠ i1 → c ≠ i2 → s.heap.get? c = some o → m5.get? c = some o := fun c o c1 c2 c3 c4 e =>
    (sb5.2 _ c2).trans ((sb4.2 _ c4).trans ((sb3.2 _ c2).trans ((sb2.2 _ c3).trans ((sb1.2 _ c1).trans e))))
  have z5 : ZipS m5 z TI TO .ellipsis := (sb5.2 _ D.TOz.symm).trans ((sb4.2 _ D.i2z.symm).trans ((sb3.2 _ D.TOz.symm).trans ((sb2.2 _ D.i1z.symm).trans z1)))
  have n1 : SqIt tp m5 i1 l1 (k + 1) xs := j1.at (fun o e => (sb5.2 _ D.TOi1.symm).trans ((sb4.2 _ D.i12).trans ((sb3.2 _ D.TOi1.symm).trans e))) fun o e => (sb5.2 _ D.l1TO).trans ((sb4.2 _ D.l1i2).trans ((sb3.2 _ D.l1TO).trans e))
  have n2 : SqIt tq m5 i2 l2 (k + 1) ys := j3.at (fun o e => (sb5.2 _ D.TOi2.symm).trans e) fun o e => (sb5.2 _ D.l2TO).trans e
  have zlt : z < m5.objs.size := Heap.lt_size z5
  show wpAny _ _ (Builtin.SmallTypes.ownedTupleHandOut (.ref z) (.ref m5.objs.size) >>= _) _ _ _
  refine wpAny_bind ?_
  unfold Builtin.SmallTypes.ownedTupleHandOut
  have z6 : ZipS (m5.push { cls := .type "tuple", data := .seq #[x, y] }) z TI TO .ellipsis := Heap.get?_push_of_some _ z5
  refine wpAny_bind (wpAny_setField_rec z6 (by simp) fun m7 z7 sb7 => ?_)
  replace z7 : ZipS m7 z TI TO (rawInt m5.objs.size) := z7
  refine wpAny_setField_rec z7 (by simp) fun m8 z8 sb8 => ?_
  replace z8 : ZipS m8 z TI TO (rawInt m5.objs.size) := z8
  have up : ∀ c o, c ≠ z → m5.get? c = some o → m8.get? c = some o := fun c o c1 e => (sb8.2 _ c1).trans ((sb7.2 _ c1).trans (Heap.get?_push_of_some _ e))
  have tp : IsPair m8 m5.objs.size x y := (sb8.2 _ (Nat.ne_of_gt zlt)).trans ((sb7.2 _ (Nat.ne_of_gt zlt)).trans (Heap.get?_push_size _ rfl))
  have sz8 : m8.objs.size = m5.objs.size + 1 := by rw [sb8.1, sb7.1, Heap.size_push]
  rw [sz] at z8 tp sz8
  refine wpAny_pure ⟨_, rfl, ?_⟩
  show Q (.ref m5.objs.size) _
  rw [sz]
  exact fin m8 z8 (up _ _ D.TOz t5) (n1.at (fun o e => up _ o D.i1z e) fun o e => up _ o D.l1z e) (n2.at (fun o e => up _ o D.i2z e) fun o e => up _ o D.l2z e) tp sz8 fun c o c1 c2 c3 c4 e => up c o c1 (keep c o c1 c2 c3 c4 e)
theorem zipS_end {tp tq : Bool} {z TI TO i1 i2 l1 l2 : Addr} {k : Nat} {xs ys : Array Value} {a b : Value} {Q : Fin → Shared → Prop} (hh : A.handled = none) (D : ZipApart z TI TO i1 i2 l1 l2) (hz : ZipS s.heap z TI TO .none) (hTI : IsPair s.heap TI (.ref i1) (.ref i2)) (hTO : IsPair s.heap TO a b)
    (h1 : SqIt tp s.heap i1 l1 k xs) (h2 : SqIt tq s.heap i2 l2 k ys) (hx : xs[k]? = none) (hy : ys[k]? = none)
    (fin : ∀ h' e, (∀ c o, c ≠ z → c ≠ TO → c ≠ i1 → c ≠ i2 → s.heap.get? c = some o → h'.get? c = some o) → (∃ o, h'.get? e = some o ∧ o.cls = .type "StopIteration") → E (.ref e) { s with heap := h' }) :
    wpAny (model prog w) A (Builtin.«zip.__next__» ⟨[.ref z], []⟩) Q E s := by
  show wpAny _ _ (field (.ref z) 2 >>= _) _ _ _
  refine wpAny_bind (wpAny_field hz rfl (x := .bool true) rfl ?_)
  show wpAny _ _ (field (.ref z) 3 >>= _) _ _ _
  refine wpAny_bind (wpAny_field hz rfl (x := .ref TI) rfl ?_)
  refine wpAny_bind (wpAny_seqItems hTI rfl ?_)
  show wpAny _ _ (Builtin.SmallTypes.ownedTupleIsFree (.ref z) >>= _) _ _ _
  refine wpAny_bind ?_
  unfold Builtin.SmallTypes.ownedTupleIsFree
  refine wpAny_bind (wpAny_field hz rfl (x := .none) rfl (wpAny_pure ?_))
  simp only [if_true]
  refine wpAny_bind (wpAny_rule ?_)
  refine wpAny_bind (wpAny_field hz rfl (x := .ref TO) rfl ?_)
  refine wpAny_bind (wpAny_setField_rec hz (by simp) fun m1 z1 sb1 => ?_)
  replace z1 : ZipS m1 z TI TO .ellipsis := z1
  refine wpAny_bind ?_
  simp only [List.zipIdx_cons, List.zipIdx_nil, List.forIn_cons, List.forIn_nil]
  refine wpAny_bind (wpAny_bind (wpAny_onRaise ?_))
  show wpAny _ _ (Builtin.SmallTypes.nextOrEnd (.ref i1)) _ _ _
  refine nextOrEnd_end hh (h1.at (fun o e => (sb1.2 _ D.i1z).trans e) fun o e => (sb1.2 _ D.l1z).trans e) hx fun m2 sb2 => ?_
  have z2 : ZipS m2 z TI TO .ellipsis := sb2 _ _ D.i1z.symm z1
  refine wpAny_bind (wpAny_setField_rec z2 (by simp) fun m3 z3 sb3 => ?_)
  refine wpAny_bind ?_
  let say1 : String := s!"zip() argument {(0 : Nat) + 1} is shorter than {(if (0 : Nat) == 1 then "argument 1" else s!"arguments 1-{(0 : Nat)}")}"
  let say2 : Nat → String := fun j => s!"zip() argument {j + 1} is longer than {(if j == 1 then "argument 1" else s!"arguments 1-{j}")}"
  show wpAny _ _ (do
      if (0 : Nat) > 0 then
        rule "zip.__next__.shorter"
        raiseError "ValueError" say1
      for (it, j) in ([Value.ref i1, .ref i2].drop 1).zipIdx 1 do
        if (← Builtin.SmallTypes.nextOrEnd it).isSome then
          rule "zip.__next__.longer"
          raiseError "ValueError" (say2 j)
      rule "zip.__next__.all-ended"
      (Builtin.SmallTypes.stopIteration : Sem PySem.Fin)) _ _ _
  rw [if_neg (by omega)]
  dsimp only
  refine wpAny_bind ?_
  simp only [List.drop_succ_cons, List.drop_zero, List.zipIdx_cons, List.zipIdx_nil, List.forIn_cons, List.forIn_nil]
  have kk : ∀ c o, c ≠ z → c ≠ i1 → s.heap.get? c = some o → m3.get? c = some o := fun c o c1 c2 e => (sb3.2 _ c1).trans (sb2 _ _ c2 ((sb1.2 _ c1).trans e))
  refine wpAny_bind (wpAny_bind ?_)
  refine nextOrEnd_end hh (h2.at (fun o e => kk _ _ D.i2z D.i12.symm e) fun o e => kk _ _ D.l2z D.l2i1 e) hy fun m4 sb4 => ?_
  simp only [Option.isSome_none, Bool.false_eq_true, if_false]
  refine wpAny_pure (wpAny_pure ?_)
  refine wpAny_bind (wpAny_rule ?_)
  unfold Builtin.SmallTypes.stopIteration
  show wpAny _ _ (newExc (.type "StopIteration") [] >>= _) _ _ _
  refine wpAny_bind ?_
  simp only [newExc, newTuple]
  refine wpAny_bind (wpAny_newObj_type ?_ (by size_fits))
  refine wpAny_bind (m := firstArgMember _ _) (wpAny_of_eq (a := Value.none) (by first | rfl | (simp only [firstArgMember]; rfl)) ?_)
  refine wpAny_newObj_type ?_ (by size_fits)
  simp only [raiseNew]
  refine wpAny_bind (wpAny_handled ?_)
  rw [hh]
  refine wpAny_bind (wpAny_pure (wpAny_throw ?_))
  exact fin _ _ (fun c o c1 c2 c3 c4 e => Heap.get?_push_of_some _ (Heap.get?_push_of_some _ (sb4 _ _ c4 (kk c o c1 c3 e)))) ⟨_, Heap.get?_push_size _ rfl, rfl⟩
theorem pyNext_zipS_item {tp tq : Bool} {z TI TO i1 i2 l1 l2 : Addr} {k : Nat} {xs ys : Array Value} {x y a b : Value} {Q : Option Value → Shared → Prop} (D : ZipApart z TI TO i1 i2 l1 l2) (hz : ZipS s.heap z TI TO .none) (hTI : IsPair s.heap TI (.ref i1) (.ref i2)) (hTO : IsPair s.heap TO a b)
    (h1 : SqIt tp s.heap i1 l1 k xs) (h2 : SqIt tq s.heap i2 l2 k ys) (hx : xs[k]? = some x) (hy : ys[k]? = some y)
    (fin : ∀ h', ZipS h' z TI TO (rawInt s.heap.objs.size) → IsPair h' TO x y → SqIt tp h' i1 l1 (k + 1) xs → SqIt tq h' i2 l2 (k + 1) ys → IsPair h' s.heap.objs.size x y → h'.objs.size = s.heap.objs.size + 1 →
      (∀ c o, c ≠ z → c ≠ TO → c ≠ i1 → c ≠ i2 → s.heap.get? c = some o → h'.get? c = some o) → Q (some (.ref s.heap.objs.size)) { s with heap := h' }) : wpAny (model prog w) A (pyNext (.ref z)) Q E s := by
  have ty : s.TypeIs (.ref z) "zip" := ⟨_, hz, rfl⟩
  unfold pyNext
  exact wpAny_bind (wpAny_attempt (wpAny_callSpecial?_slot (name := Str.ofString "__next__") ty F.slot_zip_next (wpAny_call_entry F.slot_zip_next ty F.entry_zip_next
    (zipS_item D hz hTI hTO h1 h2 hx hy fun h' a1 a2 a3 a4 a5 a6 a7 => wpAny_pure (fin h' a1 a2 a3 a4 a5 a6 a7)) (F.args_zip_next_1 _))))
theorem pyNext_zipS_end {tp tq : Bool} {z TI TO i1 i2 l1 l2 : Addr} {k : Nat} {xs ys : Array Value} {a b : Value} {Q : Option Value → Shared → Prop} (hh : A.handled = none) (D : ZipApart z TI TO i1 i2 l1 l2) (hz : ZipS s.heap z TI TO .none) (hTI : IsPair s.heap TI (.ref i1) (.ref i2)) (hTO : IsPair s.heap TO a b)
    (h1 : SqIt tp s.heap i1 l1 k xs) (h2 : SqIt tq s.heap i2 l2 k ys) (hx : xs[k]? = none) (hy : ys[k]? = none)
    (fin : ∀ h', (∀ c o, c ≠ z → c ≠ TO → c ≠ i1 → c ≠ i2 → s.heap.get? c = some o → h'.get? c = some o) → Q none { s with heap := h' }) : wpAny (model prog w) A (pyNext (.ref z)) Q E s := by
  have ty : s.TypeIs (.ref z) "zip" := ⟨_, hz, rfl⟩
  unfold pyNext
  refine wpAny_bind (wpAny_attempt (wpAny_callSpecial?_slot (name := Str.ofString "__next__") ty F.slot_zip_next (wpAny_call_entry F.slot_zip_next ty F.entry_zip_next (zipS_end hh D hz hTI hTO h1 h2 hx hy fun h' e hk he => ?_) (F.args_zip_next_1 _))))
  obtain ⟨o, ho, hc⟩ := he
  exact wpAny_bind (wpAny_isInstance (T := "StopIteration") (b := true) ⟨o, ho, hc⟩ isSubtype_stop (wpAny_pure (fin _ hk)))
theorem handOut_zipS {elts : List Expr} {x1} {pos : Pos} {z TI TO T : Addr} {Q : Unit → Shared → Prop} (hz : ZipS s.heap z TI TO (rawInt T)) (fin : ∀ h', ZipS h' z TI TO .none → Heap.SameBut z s.heap h' → Q () { s with heap := h' }) :
    wpAny (model prog w) A (letOwnedTupleGo (.Tuple elts x1 pos) (.ref z) (.ref T)) Q E s := by
  unfold letOwnedTupleGo
  refine wpAny_bind (wpAny_load hz ?_)
  show wpAny _ _ (if (["enumerate", "zip", "dict_itemiterator", "dict_reverseitemiterator", "odict_iterator", "itertools.zip_longest", "itertools.pairwise"].contains "zip" && (#[rawInt T, .bool false, .bool true, .ref TI, .ref TO] : Array Value)[0]? == some (rawInt T)) = true then _ else _) Q E s
  rw [if_pos (by simp)]
  refine wpAny_bind (wpAny_rule ?_)
  show wpAny _ _ (setField (.ref z) 0 .none) Q E s
  exact wpAny_setField_rec hz (by simp) fun h' hz' hs' => fin h' hz' hs'
theorem iter_zipS {z TI TO : Addr} {f : Value} {Q : Value → Shared → Prop} (hz : ZipS s.heap z TI TO f) (h : Q (.ref z) s) : wpAny (model prog w) A (pyIter (.ref z)) Q E s := by
  have ty : s.TypeIs (.ref z) "zip" := ⟨_, hz, rfl⟩
  refine wpAny_pyIter_slot ty F.slot_zip_iter (wpAny_call_entry F.slot_zip_iter ty F.entry_zip_iter ?_ (F.args_zip_iter_1 _))
  show wpAny _ _ (ret (.ref z)) _ _ s
  exact wpAny_pure ⟨_, rfl, "zip", _, ty, F.slot_zip_next.lookup, h⟩
end
end DV

set_option Elab.async false
set_option linter.all false
set_option maxRecDepth 100000
set_option maxHeartbeats 1000000
/-! DvR: the walk over zip(.., strict=True) and enumerate(tuple). -/
namespace DV
open PySem PySem.Spec PyProof.Rows L2
/-- a list (false) or tuple (true) that is read -/
def SqV (K : PySem.W.Frag) (H : Hp) (tp : Bool) (a : Addr) (xs : List V) : Prop := match tp with
  | false => SqL K H a xs
  | true => SqT K H a xs
section
variable {X : Cx} {pins : List (Addr × Obj)} {σ : L2.St} {H : Hp} {s : Shared}
theorem SqV.get {tp : Bool} {a : Addr} {xs : List V} (I : Inv X pins σ H s) (h : SqV X.K H tp a xs) : ∃ its : List Value, Vals xs its ∧ Sq1 s.heap tp a its.toArray := by
  cases tp
  · obtain ⟨its, r, p, _⟩ := I.list h; exact ⟨its, r, p.isList⟩
  · obtain ⟨its, r, p, _⟩ := I.tuple h; exact ⟨its, r, p⟩
theorem SqV.one {tp : Bool} {a : Addr} {xs ys : List V} (I : Inv X pins σ H s) (h : SqV X.K H tp a xs) (h2 : SqV X.K H tp a ys) : xs = ys := by
  cases tp
  · exact I.list_inj h h2
  · exact I.tuple_inj h h2
end
def ItS (K : PySem.W.Frag) (tp tq : Bool) (a b : Addr) : It :=
  ⟨fun i H => ∃ (xs ys : List V) (x y : V), SqV K H tp a xs ∧ SqV K H tq b ys ∧ xs[i]? = some x ∧ ys[i]? = some y,
    fun i H v H' => ∃ T x y, ∃ o : Obj, v = .ref T ∧ H T = none ∧ o.dict = none ∧ H' = upd H T (.frz o (.tup [x, y])) ∧ (∀ xs, SqV K H tp a xs → xs[i]? = some x) ∧ ∀ ys, SqV K H tq b ys → ys[i]? = some y,
    fun i H => ∃ xs ys : List V, SqV K H tp a xs ∧ SqV K H tq b ys ∧ xs.length ≤ i ∧ ys.length ≤ i⟩
theorem five_mem {c z TI TO i1 i2 : Addr} (h : c ∈ [z, TI, TO, i1, i2]) : c = z ∨ c = TI ∨ c = TO ∨ c = i1 ∨ c = i2 := by simpa using h
theorem five_not {c z TI TO i1 i2 : Addr} (h : c ∉ [z, TI, TO, i1, i2]) : c ≠ z ∧ c ≠ TO ∧ c ≠ i1 ∧ c ≠ i2 := by
  simp only [List.mem_cons, List.not_mem_nil, or_false, not_or] at h
  exact ⟨h.1, h.2.2.1, h.2.2.2.1, h.2.2.2.2⟩
theorem turn_zipS {P : Program} {w : World} {K : PySem.W.Frag} {elts : List Expr} {kk : Nat} {tpos : Pos} {tp tq : Bool} {a b z TI TO i1 i2 : Addr} (D : ZipApart z TI TO i1 i2 a b) :
    Turn P w K (.Tuple elts kk tpos) (ItS K tp tq a b) [z, TI, TO, i1, i2] z (fun i h => ZipS h z TI TO .none ∧ IsPair h TI (.ref i1) (.ref i2) ∧ (∃ x y, IsPair h TO x y) ∧ It1 h tp i1 a i ∧ It1 h tq i2 b i) where
  mem := List.mem_cons_self
  obj := fun i h ⟨hz, hTI, ⟨x, y, hTO⟩, h1, h2⟩ c hc => by
    rcases five_mem hc with q | q | q | q | q <;> rw [q]
    · exact ⟨_, hz, fun v q => nomatch q⟩
    · exact ⟨_, hTI, fun v q => nomatch q⟩
    · exact ⟨_, hTO, fun v q => nomatch q⟩
    · exact h1.obj
    · exact h2.obj
  keep := fun i h h' ⟨hz, hTI, ⟨x, y, hTO⟩, h1, h2⟩ k => ⟨k z (by simp) _ hz, k TI (by simp) _ hTI, ⟨x, y, k TO (by simp) _ hTO⟩, h1.at fun o q => k i1 (by simp) o q, h2.at fun o q => k i2 (by simp) o q⟩
  item := by
    intro X hP hw hK hc i pins s σ H E I hf st hg
    subst hP hw hK
    obtain ⟨hz, hTI, ⟨x0, y0, hTO⟩, h1, h2⟩ := st
    obtain ⟨xs, ys, x, y, qx, qy, hx, hy⟩ := hg
    obtain ⟨us, rv, s1⟩ := qx.get I
    obtain ⟨ws, rv2, s2⟩ := qy.get I
    obtain ⟨u, hu, ru⟩ := rv.get hx
    obtain ⟨u2, hu2, ru2⟩ := rv2.get hy
    have zl : z < s.heap.objs.size := Heap.lt_size hz
    refine pyNext_zipS_item D hz hTI hTO ⟨h1, s1⟩ ⟨h2, s2⟩ (x := u) (y := u2) (by simpa using hu) (by simpa using hu2) fun m z1 t1 j1 j2 tn _ hk => ?_
    refine ⟨_, rfl, handOut_zipS (s := { s with heap := m }) z1 fun m2 z2 sb => ?_⟩
    have kept : ∀ c o, c ∉ [z, TI, TO, i1, i2] → s.heap.get? c = some o → m2.get? c = some o := fun c o hb q =>
      have ⟨c1, c2, c3, c4⟩ := five_not hb
      (sb.2 c c1).trans (hk c o c1 c2 c3 c4 q)
    have tn2 : IsPair m2 s.heap.objs.size u u2 := (sb.2 _ (Nat.ne_of_gt zl)).trans tn
    have new : ObjOk X.prog X.w (upd H s.heap.objs.size (.frz { cls := .type "tuple", data := .seq #[u, u2] } (.tup [x, y]))) m2 s.heap.objs.size (.frz { cls := .type "tuple", data := .seq #[u, u2] } (.tup [x, y])) := ⟨tn2, by show 2 ≤ sizeLine; decide, [u, u2], .cons ru (.cons ru2 .nil), ⟨_, tn2, rfl, _, rfl⟩⟩
    have I1 : Inv X pins σ (upd H s.heap.objs.size (.frz { cls := .type "tuple", data := .seq #[u, u2] } (.tup [x, y]))) { s with heap := m2 } := I.turnedNew (t' := s.toks) (ch := [z, TI, TO, i1, i2]) (fun c o hb q => kept c o hb q) hf (Nat.le_refl _) new
    refine ⟨.ref s.heap.objs.size, _, I1, rfl, ⟨_, x, y, _, rfl, I.hok.fresh (Nat.le_refl _), rfl, rfl, fun l hl => by rw [hl.one I qx]; exact hx, fun l hl => by rw [hl.one I qy]; exact hy⟩,
      ⟨z2, (sb.2 _ D.TIz).trans (hk _ _ D.TIz D.TITO D.TIi1 D.TIi2 hTI), ⟨u, u2, (sb.2 _ D.TOz).trans t1⟩, j1.1.at fun o q => (sb.2 _ D.i1z).trans q, j2.1.at fun o q => (sb.2 _ D.i2z).trans q⟩, fun c hcm => ?_⟩
    have lt : c < s.heap.objs.size := by
      rcases five_mem hcm with q | q | q | q | q <;> rw [q]
      · exact zl
      · exact Heap.lt_size hTI
      · exact Heap.lt_size hTO
      · obtain ⟨_, e, _⟩ := h1.obj; exact Heap.lt_size e
      · obtain ⟨_, e, _⟩ := h2.obj; exact Heap.lt_size e
    rw [upd_ne (Nat.ne_of_lt lt)]
    exact (hf c hcm).1
  done := by
    intro X hP hw hK hc i pins s σ H E I hf st hg
    subst hP hw hK
    obtain ⟨hz, hTI, ⟨x0, y0, hTO⟩, h1, h2⟩ := st
    obtain ⟨xs, ys, qx, qy, ex, ey⟩ := hg
    obtain ⟨us, rv, s1⟩ := qx.get I
    obtain ⟨ws, rv2, s2⟩ := qy.get I
    have l1 := rv.length
    have l2 := rv2.length
    exact pyNext_zipS_end (I.ok.hd hc) D hz hTI hTO ⟨h1, s1⟩ ⟨h2, s2⟩ (by simp; omega) (by simp; omega) fun m hk => ⟨rfl, I.turnedL (t' := s.toks) (ch := [z, TI, TO, i1, i2]) (fun c o hb q =>
      have ⟨c1, c2, c3, c4⟩ := five_not hb
      hk c o c1 c2 c3 c4 q) hf⟩
  self := fun A i s Q E st h => iter_zipS st.1 h

/-! ### made -/
def itO (tp : Bool) (l : Addr) : Obj := match tp with
  | false => { cls := .type "list_iterator", data := .fields #[.ref l, .int 0 0] }
  | true => { cls := .type "tuple_iterator", data := .fields #[.ref l, .int 0 0] }
theorem begins (tp : Bool) (l : Addr) (xs : Array Value) : PySem.Begins (.ref l) (itO tp l) fun h => Sq1 h tp l xs := by
  cases tp
  · exact begins_list l xs
  · exact begins_tuple l xs
theorem itO_it {h : Heap} {tp : Bool} {i l : Addr} (e : h.get? i = some (itO tp l)) : It1 h tp i l 0 := by
  cases tp
  · exact ⟨_, e, rfl, rfl⟩
  · exact ⟨_, e, rfl, rfl⟩
abbrev zo1 (h : Heap) (o1 : Obj) : Heap := h.push o1
abbrev zo2 (h : Heap) (o1 o2 : Obj) : Heap := (zo1 h o1).push o2
abbrev zo3 (h : Heap) (o1 o2 : Obj) : Heap := (zo2 h o1 o2).push { cls := .type "tuple", data := .seq #[.ref h.objs.size, .ref (zo1 h o1).objs.size] }
abbrev zo4 (h : Heap) (o1 o2 : Obj) : Heap := (zo3 h o1 o2).push { cls := .type "tuple", data := .seq #[.none, .none] }
abbrev zo5 (h : Heap) (o1 o2 : Obj) : Heap := (zo4 h o1 o2).push { cls := .type "zip", data := .fields #[.none, .bool false, .bool true, .ref (zo2 h o1 o2).objs.size, .ref (zo3 h o1 o2).objs.size] }
theorem typeCall_zipS (a b c : Value) : checkTypeCall "zip" ⟨[a, b], [(Str.ofString "strict", c)]⟩ = pure () := by kernel_rfl
theorem newCall_zipS (a b c : Value) : checkBuiltinCall "zip.__new__" ⟨[.type "zip", a, b], [(Str.ofString "strict", c)]⟩ = pure () := by kernel_rfl
theorem args_initS (o a b c : Value) : argsOk "object.__init__" ⟨[o, a, b], [(Str.ofString "strict", c)]⟩ := by unfold argsOk; kernel_rfl
theorem meets_zipS {v1 v2 : Value} {o1 o2 : Obj} {H1 H2 : Heap → Prop} (B1 : PySem.Begins v1 o1 H1) (B2 : PySem.Begins v2 o2 H2) :
    Meets (Builtin.«zip.__new__» ⟨[.type "zip", v1, v2], [(Str.ofString "strict", .bool true)]⟩) (fun _ R s => H1 s.heap ∧ H2 s.heap ∧ R (.ok (.ret (.ref (zo4 s.heap o1 o2).objs.size))) { s with heap := zo5 s.heap o1 o2 }) :=
  .of_wp fun prog w A R s h => by
    obtain ⟨hp, g, d, tk, os⟩ := s
    obtain ⟨h1, h2, h⟩ := h
    have hsub := sub_zip
    have e1 : (Str.ofString "strict" == ("strict" : Str)) = true := by decide +kernel
    have e2 : (Str.ofString "strict" != ("strict" : Str)) = false := by decide +kernel
    have q1 : ∀ {A' : Around} {E : Value → Shared → Prop} {Q : Value → Shared → Prop}, Q (.ref hp.objs.size) ⟨hp.push o1, g, d, tk, os⟩ → wpAny (model prog w) A' (pyIter v1) Q E ⟨hp, g, d, tk, os⟩ :=
      fun q => B1.iter prog w _ _ ⟨hp, g, d, tk, os⟩ _ h1 q
    have q2 : ∀ {A' : Around} {E : Value → Shared → Prop} {Q : Value → Shared → Prop}, Q (.ref (hp.push o1).objs.size) ⟨(hp.push o1).push o2, g, d, tk, os⟩ → wpAny (model prog w) A' (pyIter v2) Q E ⟨hp.push o1, g, d, tk, os⟩ :=
      fun q => B2.iter prog w _ _ ⟨hp.push o1, g, d, tk, os⟩ _ (B2.keeps _ _ h2 fun b o e => Heap.get?_push_of_some _ e) q
    wp_walk using q1, q2
    exact ⟨_, rfl, h⟩
end DV

set_option Elab.async false
set_option linter.all false
set_option maxRecDepth 100000
set_option maxHeartbeats 1000000
/-! DvS: zip(xs, ys, strict=True) and enumerate(xs) as what is walked, by data; tuple.index; [::-1]. -/
namespace DV
open PySem PySem.Spec PyProof.Rows L2
section
variable {prog : Program} {w : World} {A : Around} {E : Value → Shared → Prop} {s : Shared}
theorem call_zipS {tp tq : Bool} {l1 l2 : Addr} {xs ys : Array Value} {Q : Value → Shared → Prop} (h1 : Sq1 s.heap tp l1 xs) (h2 : Sq1 s.heap tq l2 ys)
    (fin : ∀ h', ZipS h' (s.heap.objs.size + 4) (s.heap.objs.size + 2) (s.heap.objs.size + 3) .none → IsPair h' (s.heap.objs.size + 2) (.ref s.heap.objs.size) (.ref (s.heap.objs.size + 1)) → IsPair h' (s.heap.objs.size + 3) .none .none →
      It1 h' tp s.heap.objs.size l1 0 → It1 h' tq (s.heap.objs.size + 1) l2 0 → (∀ c o, s.heap.get? c = some o → h'.get? c = some o) → Q (.ref (s.heap.objs.size + 4)) { s with heap := h' }) :
    wpAny (model prog w) A (call (.type "zip") [.ref l1, .ref l2] [(Str.ofString "strict", .bool true)]) Q E s := by
  have B1 := begins tp l1 xs
  have B2 := begins tq l2 ys
  refine callType_newKw PySem.F.called_zip (by decide) (typeCall_zipS _ _ _) (newCall_zipS _ _ _) (fun obj => args_initS obj _ _ _) PySem.F.entry_zip_new (meets_zipS B1 B2) ⟨h1, h2, ?_⟩
  have z1 : (zo1 s.heap (itO tp l1)).objs.size = s.heap.objs.size + 1 := Heap.size_push ..
  have z2 : (zo2 s.heap (itO tp l1) (itO tq l2)).objs.size = s.heap.objs.size + 2 := by rw [Heap.size_push, z1]
  have z3 : (zo3 s.heap (itO tp l1) (itO tq l2)).objs.size = s.heap.objs.size + 3 := by rw [Heap.size_push, z2]
  have z4 : (zo4 s.heap (itO tp l1) (itO tq l2)).objs.size = s.heap.objs.size + 4 := by rw [Heap.size_push, z3]
  have g5 : (zo5 s.heap (itO tp l1) (itO tq l2)).get? (zo4 s.heap (itO tp l1) (itO tq l2)).objs.size = some _ := Heap.get?_push_size _ rfl
  have g4 : (zo5 s.heap (itO tp l1) (itO tq l2)).get? (zo3 s.heap (itO tp l1) (itO tq l2)).objs.size = some _ := Heap.get?_push_of_some _ (Heap.get?_push_size _ rfl)
  have g3 : (zo5 s.heap (itO tp l1) (itO tq l2)).get? (zo2 s.heap (itO tp l1) (itO tq l2)).objs.size = some _ := Heap.get?_push_of_some _ (Heap.get?_push_of_some _ (Heap.get?_push_size _ rfl))
  have g2 : (zo5 s.heap (itO tp l1) (itO tq l2)).get? (zo1 s.heap (itO tp l1)).objs.size = some _ := Heap.get?_push_of_some _ (Heap.get?_push_of_some _ (Heap.get?_push_of_some _ (Heap.get?_push_size _ B2.free)))
  have g1 : (zo5 s.heap (itO tp l1) (itO tq l2)).get? s.heap.objs.size = some _ := Heap.get?_push_of_some _ (Heap.get?_push_of_some _ (Heap.get?_push_of_some _ (Heap.get?_push_of_some _ (Heap.get?_push_size _ B1.free))))
  show _ ∧ _
  rw [z2, z3, z4] at g5
  rw [z1, z2] at g3
  rw [z3] at g4
  rw [z1] at g2
  rw [z4]
  exact ⟨⟨_, g5, rfl⟩, fin _ g5 g3 g4 (itO_it g1) (itO_it g2) fun c o x => Heap.get?_push_of_some _ (Heap.get?_push_of_some _ (Heap.get?_push_of_some _ (Heap.get?_push_of_some _ (Heap.get?_push_of_some _ x))))⟩
theorem callWith_tyKw {pos : Pos} {T : String} {env : PySem.Env} {e : Expr} {rest : List Expr} {kws : List Keyword} {Q : Value → Shared → Prop} {M : Model}
    (h : wpAny M A (spliced (backTo pos (starEach (e :: rest) env))) (fun vs s1 => wpAny M A (evalAll ((backToKw pos (keywordEach kws env)).map (·.2))) (fun ks s2 => wpAny M A (call (.type T) vs (((backToKw pos (keywordEach kws env)).filterMap (·.1)).zip ks)) Q E s2) E s1) E s)
    (he : backTo pos (starEach (e :: rest) env) = (false, eval e env) :: backTo pos (starEach rest env)) (hplain : (backTo pos (starEach (e :: rest) env)).any (·.1) = false)
    (hall : (backToKw pos (keywordEach kws env)).all (·.1.isSome) = true) (hkw : (backToKw pos (keywordEach kws env)).any (·.1.isNone) = false) :
    wpAny M A (callWith pos (.type T) [] (backTo pos (starEach (e :: rest) env)) (backToKw pos (keywordEach kws env))) Q E s := by
  have key : wpAny M A (evalArgs (.type T) true (backTo pos (starEach (e :: rest) env)) (backToKw pos (keywordEach kws env))) (fun a s1 => wpAny M A (call (.type T) ([] ++ a.pos) a.kw) Q E s1) E s := by
    rw [he] at h ⊢
    exact PyProof.Rows.evalArgs_kwB hall h
  unfold callWith
  refine wpAny_bind (wpAny_holding (wpAny_mono key (fun a s1 h1 => wpAny_bind (wpAny_standAt ?_)) fun _ _ x => x))
  simp only [hplain, hkw, Bool.or_false]
  refine wpAny_bind (wpAny_pure ?_)
  exact wpAny_bind (wpAny_mono h1 (fun r s2 hr => wpAny_bind (wpAny_holding (wpAny_point (wpAny_pure hr)))) fun _ _ x => x)
end
def iZipS0 (K : PySem.W.Frag) (ta : TA) : TI := fun σ H R => ta σ H fun vs H1 => ∃ (tp tq : Bool) (a b : Addr) (xs ys : List V), vs = [.ref a, .ref b] ∧ SqV K H1 tp a xs ∧ SqV K H1 tq b ys ∧ R (ItS K tp tq a b) H1
theorem pi_zipS {X : Cx} {e e2 : Expr} {ta : TA} {p pos tpos kp cp : Pos} {j : Nat} {elts : List Expr} {kk : Nat} (hg : Gl X "zip") (hm : X.mg "zip" = none) (ha : PA X [e, e2] ta)
    (hs : backTo pos (starEach [e, e2] X.env) = (false, eval e X.env) :: backTo pos (starEach [e2] X.env) := by rfl) (hpl : (backTo pos (starEach [e, e2] X.env)).any (·.1) = false := by rfl) :
    PI X (.Tuple elts kk tpos) (.Call (.Name "zip" p) [e, e2] [⟨some "strict", .Constant (.bool true) j cp, kp⟩] pos) (iZipS0 X.K ta) := by
  refine ⟨fun pins s σ H R I h => ?_⟩
  refine wpAny_Call_Name_kw (ld_blt I hg hm PyProof.Rows.boot_zip (callWith_tyKw (thn (ha.run pos pins s σ H _ I h) fun us s1 ⟨vs, H1, I1, r1, q1⟩ => ?_) hs hpl rfl rfl))
  refine PyProof.Rows.kws_cons (wpAny_Constant_bool (PyProof.Rows.kws_nil ?_))
  obtain ⟨tp, tq, a, b, xs, ys, ex, qx, qy, q⟩ := q1
  subst ex
  cases r1 with
  | cons r rr =>
    cases rr with
    | cons r' rr =>
      cases rr
      cases r
      cases r'
      obtain ⟨us, rv, s1'⟩ := qx.get I1
      obtain ⟨ws, rv2, s2'⟩ := qy.get I1
      show wpAny _ _ (call (.type "zip") [.ref a, .ref b] [(Str.ofString "strict", .bool true)]) _ _ _
      refine call_zipS s1' s2' fun h' hz hTI hTO h1 h2 hk => iter_zipS hz ?_
      have I2 : Inv X pins σ H1 { s1 with heap := h' } := I1.kept (t' := s1.toks) hk
      have la : a < s1.heap.objs.size := by cases tp <;> (obtain ⟨_, e, _⟩ := s1'; exact Heap.lt_size e)
      have lb : b < s1.heap.objs.size := by cases tq <;> (obtain ⟨_, e, _⟩ := s2'; exact Heap.lt_size e)
      refine ⟨s1.heap.objs.size + 4, [s1.heap.objs.size + 4, s1.heap.objs.size + 2, s1.heap.objs.size + 3, s1.heap.objs.size, s1.heap.objs.size + 1], _, _, H1, rfl, I2, turn_zipS (PySem.W.ktu_apart s1.heap.objs.size a b la lb), ⟨hz, hTI, ⟨_, _, hTO⟩, h1, h2⟩, fun c hc => ?_, q⟩
      have le : s1.heap.objs.size ≤ c := by
        rcases five_mem hc with z | z | z | z | z <;> rw [z]
        · exact Nat.le_add_right _ _
        · exact Nat.le_add_right _ _
        · exact Nat.le_add_right _ _
        · exact Nat.le_refl _
        · exact Nat.le_add_right _ _
      exact I1.fpOk le (I1.hok.fresh le)

/-! ### enumerate -/
theorem drawsS {prog : Program} {w : World} {A : Around} (hh : A.handled = none) (tp : Bool) (it l : Addr) (ne : l ≠ it) (xs : Array Value) : Draws prog w A it [it, l] xs.size (fun i v => xs[i]? = some v) (fun i h => SqIt tp h it l i xs) where
  live := fun _ _ st => let ⟨o, e, _⟩ := st.1.obj; ⟨o, e⟩
  frame := fun _ _ _ st hk => st.at (fun o e => hk it (by simp) o e) fun o e => hk l (by simp) o e
  item := fun i s Q E hi st hQ => by
    obtain ⟨a, b⟩ := st
    cases tp
    · exact wpAny_nextOf_list_item a b (x := xs[i]) (by simp [hi]) fun h' a' sb => hQ _ h' s.toks (by simp [hi]) ⟨a', b.at fun o e => (sb.2 l ne).trans e⟩ sb
    · exact RZ.nextOf_tuple_item a b (x := xs[i]) (by simp [hi]) fun h' a' sb => hQ _ h' s.toks (by simp [hi]) ⟨a', b.at fun o e => (sb.2 l ne).trans e⟩ sb
  done := fun s Q E st hE => by
    obtain ⟨a, b⟩ := st
    cases tp
    · exact wpAny_nextOf_list_end hh a b (by simp) hE
    · exact RZ.nextOf_tuple_end hh a b (by simp) hE
theorem drawsEnd {prog : Program} {w : World} {A : Around} (hh : A.handled = none) (tp : Bool) (it l : Addr) (xs : Array Value) (n : Nat) (hn : xs.size ≤ n) : Draws prog w A it [it, l] n (fun _ _ => True) (fun i h => i = n ∧ SqIt tp h it l n xs) where
  live := fun _ _ st => let ⟨o, e, _⟩ := st.2.1.obj; ⟨o, e⟩
  frame := fun _ _ _ st hk => ⟨st.1, st.2.at (fun o e => hk it (by simp) o e) fun o e => hk l (by simp) o e⟩
  item := fun i s Q E hi st _ => absurd st.1 (Nat.ne_of_lt hi)
  done := fun s Q E st hE => by
    obtain ⟨_, a, b⟩ := st
    cases tp
    · exact wpAny_nextOf_list_end hh a b (by simp; omega) hE
    · exact RZ.nextOf_tuple_end hh a b (by simp; omega) hE
def ItE (K : PySem.W.Frag) (tp : Bool) (a : Addr) : It :=
  ⟨fun i H => ∃ (xs : List V) (x : V), SqV K H tp a xs ∧ xs[i]? = some x, fun i H v H' => ∃ T x, ∃ o : Obj, v = .ref T ∧ H T = none ∧ o.dict = none ∧ H' = upd H T (.frz o (.tup [.int (i : Nat), x])) ∧ ∀ xs, SqV K H tp a xs → xs[i]? = some x, fun i H => ∃ xs : List V, SqV K H tp a xs ∧ xs.length ≤ i⟩
theorem two_mem {c e it : Addr} (h : c ∈ [e, it]) : c = e ∨ c = it := by simpa using h
theorem two_not {c e it : Addr} (h : c ∉ [e, it]) : c ≠ e ∧ c ≠ it := by simpa using h
theorem turn_enumS {P : Program} {w : World} {K : PySem.W.Frag} {elts : List Expr} {kk : Nat} {tpos : Pos} {tp : Bool} {a e it : Addr} (ne : e ≠ it) (na : a ≠ it) (nb : a ≠ e) :
    Turn P w K (.Tuple elts kk tpos) (ItE K tp a) [e, it] e (fun i h => (∃ old, IsEnum h e it ((i : Nat) : Int) old) ∧ It1 h tp it a i) where
  mem := List.mem_cons_self
  obj := fun i h ⟨⟨old, he⟩, h1⟩ c hc => by
    rcases two_mem hc with q | q <;> rw [q]
    · exact ⟨_, he, fun v q => nomatch q⟩
    · exact h1.obj
  keep := fun i h h' ⟨⟨old, he⟩, h1⟩ k => ⟨⟨old, k e (by simp) _ he⟩, h1.at fun o q => k it (by simp) o q⟩
  item := by
    intro X hP hw hK hc i pins s σ H E I hf st hg
    subst hP hw hK
    obtain ⟨⟨old, he⟩, h1⟩ := st
    obtain ⟨xs, x, qx, hx⟩ := hg
    obtain ⟨us, rv, s1⟩ := qx.get I
    have hl := rv.length
    have hi : i < us.length := by rw [← hl]; exact (List.getElem?_eq_some_iff.mp hx).1
    have el : e < s.heap.objs.size := Heap.lt_size he
    have nf : e ∉ [it, a] := by simp; exact ⟨ne, Ne.symm nb⟩
    refine wpAny_pyNext_enum_itemC (drawsS (by simp [I.ok.hd hc]) tp it a na us.toArray) he ⟨h1, s1⟩ (by simpa using hi) ne nf fun u m tk hu ho j1 ht _ hk => ?_
    obtain ⟨u', hu', ru⟩ := rv.get hx
    have eu : u = u' := by
      have : us[i]? = some u := by simpa using hu
      rw [hu'] at this
      exact (Option.some.inj this).symm
    subst eu
    refine ⟨_, rfl, wpAny_letOwnedTupleGo_enum (s := { s with heap := m, toks := tk + 1 }) ho fun m2 he2 sb => ?_⟩
    have tn : IsPair m2 s.heap.objs.size (.int i tk) u := (sb.2 _ (Nat.ne_of_gt el)).trans ht
    have new : ObjOk X.prog X.w (upd H s.heap.objs.size (.frz { cls := .type "tuple", data := .seq #[.int i tk, u] } (.tup [.int (i : Nat), x]))) m2 s.heap.objs.size (.frz { cls := .type "tuple", data := .seq #[.int i tk, u] } (.tup [.int (i : Nat), x])) := ⟨tn, by show 2 ≤ sizeLine; decide, [.int i tk, u], .cons ⟨_, rfl⟩ (.cons ru .nil), ⟨_, tn, rfl, _, rfl⟩⟩
    have I1 : Inv X pins σ (upd H s.heap.objs.size (.frz { cls := .type "tuple", data := .seq #[.int i tk, u] } (.tup [.int (i : Nat), x]))) { s with heap := m2, toks := tk + 1 } :=
      I.turnedNew (ch := [e, it]) (fun c o hb q => have ⟨c1, c2⟩ := two_not hb; (sb.2 c c1).trans (hk c o c1 c2 q)) hf (Nat.le_refl _) new
    refine ⟨.ref s.heap.objs.size, _, I1, rfl, ⟨_, x, _, rfl, I.hok.fresh (Nat.le_refl _), rfl, rfl, fun l hl => by rw [hl.one I qx]; exact hx⟩, ⟨⟨u, ?_⟩, j1.1.at fun o q => (sb.2 _ (Ne.symm ne)).trans q⟩, fun c hcm => ?_⟩
    · rw [show ((i + 1 : Nat) : Int) = (i : Int) + 1 by omega]
      exact he2
    · have lt : c < s.heap.objs.size := by
        rcases two_mem hcm with q | q <;> rw [q]
        · exact el
        · obtain ⟨_, e1, _⟩ := h1.obj; exact Heap.lt_size e1
      rw [upd_ne (Nat.ne_of_lt lt)]
      exact (hf c hcm).1
  done := by
    intro X hP hw hK hc i pins s σ H E I hf st hg
    subst hP hw hK
    obtain ⟨⟨old, he⟩, h1⟩ := st
    obtain ⟨xs, qx, ex⟩ := hg
    obtain ⟨us, rv, s1⟩ := qx.get I
    have hl := rv.length
    exact wpAny_pyNext_enum_endD (drawsEnd (by simp [I.ok.hd hc]) tp it a us.toArray i (by rw [List.size_toArray, ← hl]; exact ex)) he ⟨rfl, h1, s1⟩ fun m hk => ⟨rfl, I.turnedL (t' := s.toks) (ch := [e, it]) (fun c o hb q => have ⟨c1, c2⟩ := two_not hb; hk c o c2 q) hf⟩
  self := fun A i s Q E st h => let ⟨⟨_, he⟩, _⟩ := st; wpAny_pyIter_enum he h
/-! ### enumerate made -/
theorem meets_enumT (l : Addr) (items : Array Value) (n : Nat) (dct : Option Addr) (sl : Array (Option Value)) :
    Meets (Builtin.«enumerate.__new__» ⟨[.type "enumerate", .ref l], []⟩) (fun _ R s => s.heap.get? l = some { cls := .type "tuple", dict := dct, data := .seq items n, slots := sl } ∧
      R (.ok (.ret (.ref (s.heap.push (itO true l)).objs.size))) { s with heap := (s.heap.push (itO true l)).push { cls := .type "enumerate", data := .fields #[.none, .bool false, .ref s.heap.objs.size, rawInt 0, .none, .none] } }) :=
  .of_wp fun prog w A R s h => by
    obtain ⟨hp, g, d, tk, os⟩ := s
    obtain ⟨hl, h⟩ := h
    have hsub := sub_enumerate
    have hT : Heap.IsTuple (Shared.heap ⟨hp, g, d, tk, os⟩) l items := ⟨_, hl, rfl, n, rfl⟩
    wp_walk using AutoSeq1.wpAny_loadPart' hl
    refine wpAny_stack_any fun st => wpAny_pure ?_
    split
    · rename_i c _ _ _ _ _
      cases (c == Value.type "enumerate")
      · wp_walk using AutoSeq1.wpAny_loadPart' hl, wpAny_pyIter_tuple hT
        exact ⟨_, rfl, h⟩
      · wp_walk using AutoSeq1.wpAny_loadPart' hl, wpAny_pyIter_tuple hT
        exact ⟨_, rfl, h⟩
    · wp_walk using AutoSeq1.wpAny_loadPart' hl, wpAny_pyIter_tuple hT
      exact ⟨_, rfl, h⟩
section
variable {prog : Program} {w : World} {A : Around} {E : Value → Shared → Prop} {s : Shared}
theorem call_enumS {tp : Bool} {l : Addr} {xs : Array Value} {Q : Value → Shared → Prop} (h1 : Sq1 s.heap tp l xs)
    (fin : ∀ h', IsEnum h' (s.heap.objs.size + 1) s.heap.objs.size 0 .none → It1 h' tp s.heap.objs.size l 0 → (∀ b o, s.heap.get? b = some o → h'.get? b = some o) → Q (.ref (s.heap.objs.size + 1)) { s with heap := h' }) :
    wpAny (model prog w) A (call (.type "enumerate") [.ref l]) Q E s := by
  cases tp
  · exact call_enumerate_list h1 fun h' he hit _ hk => fin h' he hit hk
  · obtain ⟨⟨c, dct, dt, sl⟩, hl, hc, n, hd⟩ := h1
    dsimp only at hc hd
    subst hc hd
    refine callType_new F.called_enumerate (by decide) (F.typeCall_enumerate_1 _) (F.newCall_enumerate_1 _) (fun obj => F.args_object_init_2 obj _) F.entry_enumerate_new (meets_enumT l xs n dct sl) ⟨hl, ?_⟩
    have hz : (s.heap.push (itO true l)).objs.size = s.heap.objs.size + 1 := Heap.size_push ..
    show _ ∧ _
    rw [hz]
    have he : IsEnum ((s.heap.push (itO true l)).push { cls := .type "enumerate", data := .fields #[.none, .bool false, .ref s.heap.objs.size, rawInt 0, .none, .none] }) (s.heap.objs.size + 1) s.heap.objs.size 0 .none := by
      have := Heap.get?_push_size (s.heap.push (itO true l)) (o := { cls := .type "enumerate", data := .fields #[.none, .bool false, .ref s.heap.objs.size, rawInt 0, .none, .none] }) rfl
      rw [hz] at this
      exact this
    exact ⟨⟨_, he, rfl⟩, fin _ he (itO_it (Heap.get?_push_of_some _ (Heap.get?_push_size _ rfl))) fun b o x => Heap.get?_push_of_some _ (Heap.get?_push_of_some _ x)⟩
end
def iEnum0 (K : PySem.W.Frag) (ta : TA) : TI := fun σ H R => ta σ H fun vs H1 => ∃ (tp : Bool) (a : Addr) (xs : List V), vs = [.ref a] ∧ SqV K H1 tp a xs ∧ R (ItE K tp a) H1
theorem pi_enumS {X : Cx} {e : Expr} {ta : TA} {p pos tpos : Pos} {elts : List Expr} {kk : Nat} (hg : Gl X "enumerate") (hm : X.mg "enumerate" = none) (ha : PA X [e] ta) (hs : starEach [e] X.env = [(false, eval e X.env)] := by rfl) :
    PI X (.Tuple elts kk tpos) (.Call (.Name "enumerate" p) [e] [] pos) (iEnum0 X.K ta) := by
  refine ⟨fun pins s σ H R I h => ?_⟩
  refine Call_ (ld_blt I hg hm boot_enumerate (PyProof.Rows.callWith_type1 (thn (ha.run pos pins s σ H _ I h) fun us s1 ⟨vs, H1, I1, r1, q1⟩ => ?_) hs rfl))
  obtain ⟨tp, a, xs, ex, qx, q⟩ := q1
  subst ex
  cases r1 with
  | cons r rr =>
    cases rr
    cases r
    obtain ⟨us, rv, s1'⟩ := qx.get I1
    have la : a < s1.heap.objs.size := by cases tp <;> (obtain ⟨_, e, _⟩ := s1'; exact Heap.lt_size e)
    refine call_enumS s1' fun h' he hit hk => wpAny_pyIter_enum he ?_
    have I2 : Inv X pins σ H1 { s1 with heap := h' } := I1.kept (t' := s1.toks) hk
    refine ⟨s1.heap.objs.size + 1, [s1.heap.objs.size + 1, s1.heap.objs.size], _, _, H1, rfl, I2, turn_enumS (Nat.succ_ne_self _) (Nat.ne_of_lt la) (Nat.ne_of_lt (Nat.lt_succ_of_lt la)), ⟨⟨.none, he⟩, hit⟩, fun c hc => ?_, q⟩
    have le : s1.heap.objs.size ≤ c := by
      rcases two_mem hc with z | z <;> rw [z]
      · exact Nat.le_add_right _ _
      · exact Nat.le_refl _
    exact I1.fpOk le (I1.hok.fresh le)
end DV

set_option Elab.async false
set_option linter.all false
set_option maxRecDepth 100000
set_option maxHeartbeats 1000000
/-! DvT: enumerate and strict zip by data; tuple.index; what a text may leave open. -/
namespace DV
open PySem PySem.Spec PyProof.Rows L2
/-! ### what is not reached -/
section
variable {X : Cx} {ct : String → Addr} {W : WX} {e : Expr} {st : Stmt}
theorem pd_stk : PD X ct W e (fun _ _ => .stk) := ⟨fun pins s σ H Q I ⟨_, _, _, _, p⟩ => p.elim⟩
theorem psd_stk : PSD X ct W st (fun _ _ => .stk) := ⟨fun pins s σ H Q I ⟨_, _, _, _, p⟩ => p.elim⟩
end
/-! ### a list or tuple at later states -/
def keepD (A : Hd) : D → List (Nat × List D)
  | .ref n => match A[n]? with
    | some (.lst ds) => [(n, ds)]
    | _ => []
  | _ => []
section
variable {K : PySem.W.Frag} {ct : String → Addr} {io : Io} {H : Hp} {A : Hd}
theorem seq_later {v : V} {d : D} {ds : List D} (hr : HR K ct io H A) (r : DR K ct io H v d) (e : asQ A d = some ds) :
    ∃ tp a xs, v = .ref a ∧ SqV K H tp a xs ∧ ∀ io2 H2 A2, Ext io H io2 H2 → HR K ct io2 H2 A2 → (∀ p ∈ keepD A d, A2[p.1]? = some (.lst p.2)) → ∃ ys, SqV K H2 tp a ys ∧ DRs K ct io2 H2 ys ds := by
  by_cases ht : ∃ es, d = .tup es
  · obtain ⟨es, rfl⟩ := ht
    cases e
    cases r with
    | @tup a xs _ q rs => exact ⟨true, a, xs, rfl, q.sq, fun io2 H2 A2 x h2 _ => ⟨xs, SqT.ext x hr.noT q.sq, rs.mono x hr.noT⟩⟩
  · have e1 : asR A d = some ds := by
      cases d with
      | tup es => exact absurd ⟨es, rfl⟩ ht
      | _ => exact e
    obtain ⟨a, xs, rfl, q, rs⟩ := asR_ok hr r e1
    refine ⟨false, a, xs, rfl, q, fun io2 H2 A2 x h2 hk => ?_⟩
    have e2 : asR A2 d = some ds := by
      cases d with
      | ref n =>
        have e3 : asL A (.ref n) = some ds := e1
        unfold asL at e3
        dsimp only at e3
        cases hm : A[n]? with
        | none => rw [hm] at e3; cases e3
        | some m =>
          rw [hm] at e3
          cases m with
          | lst es =>
            cases e3
            have := hk (n, ds) (by unfold keepD; dsimp only; rw [hm]; exact List.mem_singleton.mpr rfl)
            show asL A2 (.ref n) = _
            unfold asL
            dsimp only at this ⊢
            rw [this]
          | dic es => cases e3
          | ins c fs => cases e3
          | exc c fs => cases e3
          | tab es => cases e3
      | _ => exact e1
    obtain ⟨b, ys, eb, q2, rs2⟩ := asR_ok h2 (r.mono x hr.noT) e2
    cases eb
    exact ⟨ys, q2, rs2⟩
end
def enD (i : Nat) : List D → List D
  | [] => []
  | d :: ds => .tup [.int (i : Nat), d] :: enD (i + 1) ds
theorem enD_get : ∀ (ds : List D) (i j : Nat), (enD i ds)[j]? = (ds[j]?).map fun d => .tup [.int ((i + j : Nat) : Int), d]
  | [], _, _ => rfl
  | d :: ds, i, 0 => rfl
  | d :: ds, i, j + 1 => by
    show (enD (i + 1) ds)[j]? = (ds[j]?).map _
    rw [enD_get ds (i + 1) j, show i + 1 + j = i + (j + 1) by omega]
theorem enD_len : ∀ (ds : List D) (i : Nat), (enD i ds).length = ds.length
  | [], _ => rfl
  | d :: ds, i => by
    show (enD (i + 1) ds).length + 1 = _
    rw [enD_len ds]
    rfl
def iEnumS (a : EF) : IF := fun ro A => (a ro A).bind fun d A1 => match asQ A1 d with
  | some ds => .ok (.mix (enD 0 ds) (keepD A1 d)) A1
  | none => .stk
def zpD (xs ys : List D) : List D := (xs.zip ys).map fun p => .tup [p.1, p.2]
def iZipS (a b : EF) : IF := fun ro A => (a ro A).bind fun d A1 => (b ro A1).bind fun e A2 => match asQ A2 d, asQ A2 e with
  | some xs, some ys => if xs.length = ys.length then .ok (.mix (zpD xs ys) (keepD A2 d ++ keepD A2 e)) A2 else .stk
  | _, _ => .stk
/-- a new pair -/
theorem pair_new {K : PySem.W.Frag} {ct : String → Addr} {io : Io} {H : Hp} {A : Hd} {T : Addr} {x y : V} {d e : D} {o : Obj} (h : HR K ct io H A) (n : H T = none) (ho : o.dict = none) (rx : DR K ct io H x d) (ry : DR K ct io H y e) :
    Ext io H io (upd H T (.frz o (.tup [x, y]))) ∧ HR K ct io (upd H T (.frz o (.tup [x, y]))) A ∧ DR K ct io (upd H T (.frz o (.tup [x, y]))) (.ref T) (.tup [d, e]) :=
  ⟨Ext.laid n, h.laid n, .newTup h n ho (.cons rx (.cons ry .nil))⟩

section
variable {K : PySem.W.Frag} {ct : String → Addr} {io : Io} {H : Hp} {A : Hd}
theorem walkE {tp : Bool} {a : Addr} {ds : List D} {ks : List (Nat × List D)} (hs : ∀ io2 H2 A2, Ext io H io2 H2 → HR K ct io2 H2 A2 → (∀ p ∈ ks, A2[p.1]? = some (.lst p.2)) → ∃ ys, SqV K H2 tp a ys ∧ DRs K ct io2 H2 ys ds) : WalkR K ct io H (ItE K tp a) (.mix (enD 0 ds) ks) := by
  intro io2 H2 A2 e h hh
  obtain ⟨xs, q, rs⟩ := hs io2 H2 A2 e h hh
  refine ⟨fun i d hd => ?_, fun i hi => ?_⟩
  · have hd' : (enD 0 ds)[i]? = some d := hd
    rw [enD_get, Nat.zero_add] at hd'
    cases hx : ds[i]? with
    | none => rw [hx] at hd'; cases hd'
    | some x =>
      rw [hx] at hd'
      cases hd'
      obtain ⟨v, h1, h2⟩ := rs.get hx
      refine ⟨⟨xs, v, q, h1⟩, fun z H3 y => ?_⟩
      obtain ⟨T, w, o, rfl, nT, ho, rfl, y⟩ := y
      have e1 := y xs q
      rw [h1] at e1
      cases e1
      exact pair_new h nT ho (.int _) h2
  · exact ⟨xs, q, by rw [rs.length]; simpa [Src.items, enD_len] using hi⟩
end
section
variable {K : PySem.W.Frag} {ct : String → Addr} {io : Io} {H : Hp} {A : Hd}
theorem walkZ {tp tq : Bool} {a b : Addr} {ds es : List D} {ks : List (Nat × List D)} (hl : ds.length = es.length) (hs : ∀ io2 H2 A2, Ext io H io2 H2 → HR K ct io2 H2 A2 → (∀ p ∈ ks, A2[p.1]? = some (.lst p.2)) → (∃ ys, SqV K H2 tp a ys ∧ DRs K ct io2 H2 ys ds) ∧ ∃ ys, SqV K H2 tq b ys ∧ DRs K ct io2 H2 ys es) :
    WalkR K ct io H (ItS K tp tq a b) (.mix (zpD ds es) ks) := by
  intro io2 H2 A2 e h hh
  obtain ⟨⟨xs, q, rs⟩, ys, q2, rs2⟩ := hs io2 H2 A2 e h hh
  have l1 := rs.length
  have l2 := rs2.length
  refine ⟨fun i d hd => ?_, fun i hi => ?_⟩
  · have hd' : (zpD ds es)[i]? = some d := hd
    unfold zpD at hd'
    rw [List.getElem?_map] at hd'
    cases hp : (ds.zip es)[i]? with
    | none => rw [hp] at hd'; cases hd'
    | some p =>
      rw [hp] at hd'
      cases hd'
      obtain ⟨g1, g2⟩ := List.getElem?_zip_eq_some.mp hp
      obtain ⟨v, h1, r1⟩ := rs.get g1
      obtain ⟨w, h2, r2⟩ := rs2.get g2
      refine ⟨⟨xs, ys, v, w, q, q2, h1, h2⟩, fun z H3 y => ?_⟩
      obtain ⟨T, v', w', o, rfl, nT, ho, rfl, y1, y2⟩ := y
      have e1 := y1 xs q
      have e2 := y2 ys q2
      rw [h1] at e1
      rw [h2] at e2
      cases e1
      cases e2
      exact pair_new h nT ho r1 r2
  · have hi' : (zpD ds es).length ≤ i := hi
    unfold zpD at hi'
    rw [List.length_map, List.length_zip] at hi'
    exact ⟨xs, ys, q, q2, by omega, by omega⟩
end
section
variable {X : Cx} {ct : String → Addr} {W : WX} {e a b o : Expr} {fa fb : EF} {elts : List Expr} {kk : Nat} {tpos p pos apos cpos : Pos}
theorem pid_enum (hg : Gl X "enumerate") (hm : X.mg "enumerate" = none) (ha : PD X ct W e fa) (hs : starEach [e] X.env = [(false, eval e X.env)] := by rfl) : PID X ct W (.Tuple elts kk tpos) (.Call (.Name "enumerate" p) [e] [] pos) (iEnumS fa) :=
  pi_mono (pi_enumS hg hm (pda_cons ha pda_nil hs) hs) fun σ H Q ⟨io, A, ro, st, q⟩ => by
    unfold iEnumS at q
    refine ⟨io, A, ro, st, ?_⟩
    unfold aCons
    cases hf : fa ro A with
    | stk => rw [hf] at q; exact q.elim
    | err c fs A1 => rw [hf] at q; exact q
    | ok d A1 =>
      rw [hf, R.bind_ok] at q
      rw [R.bind_ok]
      intro vs io1 H1 e1 h1 r1
      cases r1 with
      | cons r rs =>
      cases rs
      split at q
      · rename_i ds hds
        obtain ⟨tp, a, xs, rfl, qx, lat⟩ := seq_later h1 r hds
        exact ⟨tp, a, xs, rfl, qx, q _ io1 H1 e1 h1 (walkE lat)⟩
      · exact q.elim
theorem pid_zipS {j : Nat} {cp kp : Pos} (hg : Gl X "zip") (hm : X.mg "zip" = none) (ha : PD X ct W a fa) (hb : PD X ct W b fb)
    (h1 : starEach [a, b] X.env = (false, eval a X.env) :: starEach [b] X.env := by rfl) (h2 : starEach [b] X.env = (false, eval b X.env) :: starEach [] X.env := by rfl)
    (hs : backTo pos (starEach [a, b] X.env) = (false, eval a X.env) :: backTo pos (starEach [b] X.env) := by rfl) (hpl : (backTo pos (starEach [a, b] X.env)).any (·.1) = false := by rfl) :
    PID X ct W (.Tuple elts kk tpos) (.Call (.Name "zip" p) [a, b] [⟨some "strict", .Constant (.bool true) j cp, kp⟩] pos) (iZipS fa fb) :=
  pi_mono (pi_zipS hg hm (pda_cons ha (pda_cons hb pda_nil h2) h1) hs hpl) fun σ H Q ⟨io, A, ro, st, q⟩ => by
    unfold iZipS at q
    refine ⟨io, A, ro, st, ?_⟩
    unfold aCons
    cases hf : fa ro A with
    | stk => rw [hf] at q; exact q.elim
    | err c fs A1 => rw [hf] at q; exact q
    | ok d A1 =>
    rw [hf, R.bind_ok] at q
    rw [R.bind_ok]
    cases hg : fb ro A1 with
    | stk => rw [hg] at q; exact q.elim
    | err c fs A2 => rw [hg] at q; exact q
    | ok d2 A2 =>
    rw [hg, R.bind_ok] at q
    rw [R.bind_ok]
    intro vs io1 H1 e1 h1 r1
    cases r1 with
    | cons r rs =>
    cases rs with
    | cons r2 rs =>
    cases rs
    split at q
    · rename_i ds es hds hes
      split at q
      · rename_i hl
        obtain ⟨tp, a, xs, rfl, qx, lat⟩ := seq_later h1 r hds
        obtain ⟨tq, b, ys, rfl, qy, lat2⟩ := seq_later h1 r2 hes
        refine ⟨tp, tq, a, b, xs, ys, rfl, qx, qy, q _ io1 H1 e1 h1 (walkZ hl fun io2 H2 A2 x h2 hk => ⟨lat io2 H2 A2 x h2 fun p hp => hk p (List.mem_append_left _ hp), lat2 io2 H2 A2 x h2 fun p hp => hk p (List.mem_append_right _ hp)⟩)⟩
      · exact q.elim
    · exact q.elim

/-! ### t.index(x) -/
theorem ptup_is {pins : List (Addr × Obj)} {σ : L2.St} {H : Hp} {s : Shared} {a : Addr} {xs : List V} (I : Inv X pins σ H s) (h : PTup X.K H a xs) : s.TypeIs (.ref a) "tuple" ∧ ∀ b, Value.ref a = .ref b → ∃ ob, s.heap.get? b = some ob ∧ ob.dict = none := by
  rcases h with ⟨o, e, d⟩ | ⟨o, its, n, e, c, d, _⟩
  · obtain ⟨get, _, its, _, o', get', hc, _⟩ := I.hok a _ e
    rw [get] at get'
    cases get'
    exact ⟨⟨o, get, hc⟩, fun b z => by cases z; exact ⟨o, get, d⟩⟩
  · exact ⟨⟨o, I.kIn a o e, c⟩, fun b z => by cases z; exact ⟨o, I.kIn _ o e, d⟩⟩
def gIndex (d e : D) (A : Hd) : R D := match d, e with
  | .tup ds, .str z => match textsD ds with
    | some ys => match ys.findIdx? fun y => decide (y = z) with
      | some j => .ok (.int (j : Nat)) A
      | none => .stk
    | none => .stk
  | _, _ => .stk
def isTupD : D → Bool
  | .tup _ => true
  | _ => false
def eIdx (a b : EF) : EF := fun ro A => (a ro A).bind fun d A1 => if isTupD d then (b ro A1).bind fun e A2 => gIndex d e A2 else .stk
theorem textsD_at : ∀ {ds : List D} {ys : List Str}, textsD ds = some ys → ds = ys.map D.str
  | [], _, e => by cases e; rfl
  | .str x :: ds, ys, e => by
    unfold textsD at e
    split at e
    · rename_i xs h
      cases e
      rw [textsD_at h]
      rfl
    · cases e
  | .non :: _, _, e => by cases e
  | .bl _ :: _, _, e => by cases e
  | .int _ :: _, _, e => by cases e
  | .tup _ :: _, _, e => by cases e
  | .lst _ :: _, _, e => by cases e
  | .scr _ :: _, _, e => by cases e
  | .dic _ :: _, _, e => by cases e
  | .ref _ :: _, _, e => by cases e
  | .cls _ :: _, _, e => by cases e
theorem pd_indexT (ho : PD X ct W o fa) (ha : PD X ct W e fb)
    (hbase : attributeBase o "index" X.env (eval o X.env) = eval o X.env := by rfl)
    (hfew : ((backTo cpos (starEach [e] X.env)).all (fun x => !x.1) && (backToKw cpos (keywordEach [] X.env)).all (fun x => x.1.isSome) && decide ([e].length + ([] : List Keyword).length + (if ([] : List Keyword).isEmpty then 0 else 1) < 30)) = true := by rfl)
    (hline : (apos.endLine == cpos.line) = true := by rfl) (hs : starEach [e] X.env = (false, eval e X.env) :: starEach [] X.env := by rfl) (hplain : (backTo cpos (starEach [] X.env)).any (·.1) = false := by rfl) :
    PD X ct W (.Call (.Attribute o "index" apos) [e] [] cpos) (eIdx fa fb) := by
  refine ⟨fun pins s σ H Q I ⟨io, A, ro, st, p⟩ => ?_⟩
  refine wpAny_Call_method_late hbase hfew hline rfl (thn (ho.run pins s σ H (fun v H1 => ∃ io1 A1 ds, Sta X.K ct ro A1 io1 σ H1 ∧ DR X.K ct io1 H1 v (.tup ds) ∧ Post X.K ct (DR X.K ct) W σ io1 H1 ((fb ro A1).bind fun d2 A2 => gIndex (.tup ds) d2 A2) Q) I ?_) fun v s1 ⟨x, H1, I1, r1, io1, A1, ds, st1, rx, p1⟩ => ?_)
  · refine ⟨io, A, ro, st, (p.bind (rep := DR X.K ct)).mono fun v H1 ⟨io1, A1, d, e1, h1, r1, p1⟩ => ?_⟩
    split at p1
    · rename_i ht
      cases d with
      | tup ds => exact ⟨io1, A1, ds, st.mono e1 h1, r1, p1⟩
      | _ => cases ht
    · exact p1.elim
  · cases rx with
    | @tup a xs _ q rs =>
      cases r1
      obtain ⟨t1, t2⟩ := ptup_is I1 q
      refine ⟨"tuple", "tuple.index", PySem.F.plainAttrs_tuple, PySem.F.slot_tuple_index, PySem.F.type_tuple_index, t1, t2, ?_⟩
      have hA := (pda_cons ha pda_nil hs).run cpos pins s1 σ H1 (fun vs H2 => ∃ io2 A2 d2 v2, vs = [v2] ∧ Ext io1 H1 io2 H2 ∧ HR X.K ct io2 H2 A2 ∧ DR X.K ct io2 H2 v2 d2 ∧ Post X.K ct (DR X.K ct) W σ io2 H2 (gIndex (.tup ds) d2 A2) Q) I1 ⟨io1, A1, ro, st1, ?_⟩
      · rw [hs] at hA ⊢
        refine Calls.callWith_builtin (by show (false || (backTo cpos (starEach [] X.env)).any (·.1)) = false; rw [hplain] <;> rfl) (Calls.evalArgs_plain ?_)
        refine thn hA fun us s2 ⟨vs, H2, I2, r2, io2, A2, d2, v2, ev, x2, h2, rd, p2⟩ => ?_
        subst ev
        refine mt_tup_index pins s2 σ H2 (.ref a) [v2] (.ref a) us Q I2 rfl r2 ?_
        unfold gIndex at p2
        split at p2
        · rename_i ds' z ed
          cases ed
          split at p2
          · rename_i ys hy
            split at p2
            · rename_i j hj
              cases rd
              have rs2 := rs.mono x2 st1.hr.noT
              have ex := textsD_ok rs2 hy
              subst ex
              obtain ⟨hjl, hj1, hj2⟩ := List.findIdx?_eq_some_iff_getElem.mp hj
              refine ⟨a, ys, z, j, rfl, rfl, (PTup.ext x2 st1.hr.noT q).sq, ?_, fun m hm hz => ?_, p2.here h2 (.int _)⟩
              · rw [List.getElem?_eq_getElem hjl, of_decide_eq_true hj1]
              · have hml := (List.getElem?_eq_some_iff.mp hz)
                obtain ⟨hl, he⟩ := hml
                have := hj2 m hm
                rw [he] at this
                simp at this
            · exact p2.elim
          · exact p2.elim
        · exact p2.elim
      · unfold aCons
        cases hf : fb ro A1 with
        | stk => rw [hf] at p1; exact p1.elim
        | err c fs A2 => rw [hf] at p1; exact p1
        | ok d2 A2 =>
          rw [hf, R.bind_ok] at p1
          rw [R.bind_ok]
          intro vs io2 H2 e2 h2 r2
          cases r2 with
          | cons r rr =>
          cases rr
          exact ⟨io2, A2, d2, _, rfl, e2, h2, r, Post.ext e2 p1⟩
end
end DV

set_option Elab.async false
set_option linter.all false
set_option maxRecDepth 100000
set_option maxHeartbeats 1000000
/-! DvU: xs[::-1] of lists and tuples. -/
namespace DV
open PySem PySem.Spec PyProof.Rows L2
theorem fm_congr {α β : Type} {f g : α → Option β} : ∀ {l : List α}, (∀ a ∈ l, f a = g a) → l.filterMap f = l.filterMap g
  | [], _ => rfl
  | a :: l, h => by rw [List.filterMap_cons, List.filterMap_cons, h a List.mem_cons_self, fm_congr fun b hb => h b (List.mem_cons_of_mem _ hb)]
theorem rev_pick (xs : Array Value) : ((List.range xs.size).filterMap fun (k : Nat) => xs[((xs.size : Int) - 1 + (k : Int) * (-1)).toNat]?).toArray = xs.toList.reverse.toArray := by
  congr 1
  have e : ∀ l : List Value, (List.range l.length).filterMap (fun (k : Nat) => l[((l.length : Int) - 1 + (k : Int) * (-1)).toNat]?) = l.reverse := by
    intro l
    have h1 : (List.range l.length).filterMap (fun (k : Nat) => l[((l.length : Int) - 1 + (k : Int) * (-1)).toNat]?) = (List.range l.length).filterMap (fun k => l.reverse[k]?) := by
      refine fm_congr fun k hk => ?_
      have hk' := List.mem_range.mp hk
      rw [List.getElem?_reverse hk']
      congr 1
      omega
    rw [h1, ← List.length_reverse (as := l)]
    generalize l.reverse = m
    induction m with
    | nil => rfl
    | cons x m ih =>
      rw [List.length_cons, List.range_succ_eq_map, List.filterMap_cons]
      simp only [List.getElem?_cons_zero, List.filterMap_map]
      congr 1
  have := e xs.toList
  simpa using this
section
variable {prog : Program} {w : World} {A : Around} {E : Value → Shared → Prop} {s : Shared}
theorem tuple_rev {t sl : Addr} {items : Array Value} {vl vu vs : Value} {Q : Value → Shared → Prop} (ht : IsTup s.heap t items) (hs : s.heap.IsSliceOf sl vl vu vs) (pl : IsPart vl none) (pu : IsPart vu none) (ps : IsPart vs (some (-1)))
    (h : Q (.ref s.heap.objs.size) { s with heap := s.heap.push { cls := .type "tuple", data := .seq items.toList.reverse.toArray } }) (hsz : items.size ≤ sizeLine) : wpAny (model prog w) A (getItem (.ref t) (.ref sl)) Q E s := by
  obtain ⟨os, hos, hcs, hds⟩ := id hs
  have tyS : s.TypeIs (.ref sl) "slice" := ⟨os, hos, hcs⟩
  have fit : sizeOk (.seq items.toList.reverse.toArray) := by
    show items.toList.reverse.toArray.size ≤ sizeLine
    rw [List.size_toArray, List.length_reverse, Array.length_toList]
    exact hsz
  unfold getItem
  try with_reducible refine wpAny_holding ?_
  first | refine wpAny_bind (wpAny_pure ?_) | skip
  refine wpAny_bind (wpAny_sequenceKey ht.typeIs (by decide) ?_)
  refine wpAny_bind (wpAny_callSpecial?_slot (name := Str.ofString "__getitem__") ht.typeIs PyProof.Rows.slot_tuple_getitem (wpAny_call_entry PyProof.Rows.slot_tuple_getitem ht.typeIs entry_tuple_getitem ?_ (args_tuple_getitem _ _)))
  show wpAny _ _ (Builtin.Tuple.tupleItemsOf (.ref t) >>= _) _ _ s
  refine wpAny_bind (tupleItemsOf_ ht ?_)
  refine wpAny_bind (wpAny_typeOf tyS ?_)
  rw [if_pos (by decide)]
  refine wpAny_bind ?_
  unfold Builtin.Slice.sliceApplied Builtin.Slice.sliceFields
  refine wpAny_bind (wpAny_bind (wpAny_field hos hds (x := vl) rfl (wpAny_bind (wpAny_field hos hds (x := vu) rfl (wpAny_bind (wpAny_field hos hds (x := vs) rfl (wpAny_pure ?_)))))))
  refine wpAny_bind (HT.slicePart_ ps ?_)
  show wpAny _ _ (if ((-1 : Int) == 0) = true then _ else _) _ _ s
  rw [if_neg (by decide)]
  refine wpAny_bind (HT.slicePart_ pl (wpAny_bind (HT.slicePart_ pu (wpAny_bind (wpAny_pure ?_)))))
  show wpAny _ _ (match Builtin.Slice.sliceAdjust none none (-1) (items.size : Int) with | (lo, hi) => pure (lo, (-1 : Int), Builtin.Slice.slicePlaces lo hi (-1))) _ _ s
  have ea : Builtin.Slice.sliceAdjust none none (-1) (items.size : Int) = ((items.size : Int) - 1, -1) := by
    unfold Builtin.Slice.sliceAdjust
    simp
  have ep : Builtin.Slice.slicePlaces ((items.size : Int) - 1) (-1) (-1) = items.size := by
    unfold Builtin.Slice.slicePlaces
    simp
    omega
  rw [ea]
  show wpAny _ _ (pure ((items.size : Int) - 1, (-1 : Int), Builtin.Slice.slicePlaces ((items.size : Int) - 1) (-1) (-1))) _ _ s
  rw [ep]
  refine wpAny_pure ?_
  show wpAny _ _ (if (((items.size : Int) - 1 == 0) && ((-1 : Int) == 1) && (items.size == items.size)) = true then _ else _) _ _ s
  rw [if_neg (by simp), rev_pick]
  first
    | exact wpAny_bind (m := Builtin.Tuple.tupleExact _) (wpAny_newObj_type (wpAny_pure ⟨_, rfl, wpAny_pure h⟩) fit)
    | exact wpAny_bind (m := Builtin.Tuple.tupleExact _) (wpAny_newObj_type (wpAny_bind (wpAny_pure (wpAny_pure ⟨_, rfl, wpAny_pure h⟩))) fit)
    | exact wpAny_bind (wpAny_bind (m := Builtin.Tuple.tupleExact _) (wpAny_newObj_type (wpAny_pure (wpAny_pure ⟨_, rfl, wpAny_pure h⟩)) fit))
    | exact wpAny_bind (wpAny_bind (m := Builtin.Tuple.tupleExact _) (wpAny_newObj_type (wpAny_pure ⟨_, rfl, wpAny_pure h⟩) fit))
end
section
variable {X : Cx} {ct : String → Addr} {W : WX} {e : Expr} {fa : EF} {k : Nat} {p1 p2 p3 pos : Pos}
def tRevS (K : PySem.W.Frag) (te : TE) : TE := fun σ H Q => te σ H fun x H1 => ∃ a xs, x = .ref a ∧ ((SqL K H1 a xs ∧ ∀ p, H1 p = none → Q (.ref p) (upd H1 p (.lst xs.reverse))) ∨ (SqT K H1 a xs ∧ ∀ (p : Addr) (o : Obj), o.dict = none → H1 p = none → Q (.ref p) (upd H1 p (.frz o (.tup xs.reverse)))))
theorem pe_revS {te : TE} (he : PE X e te) : PE X (.Subscript e (.Slice none none (some (.UnaryOp .USub (.Constant (.int 1) k p1) p2)) p3) pos) (tRevS X.K te) := by
  refine ⟨fun pins s σ H Q I h => ?_⟩
  refine Subscript_ (thn (he.run pins s σ H _ I h) fun v s1 ⟨x, H1, I1, r1, q1⟩ => ?_)
  obtain ⟨a, xs, ex, q⟩ := q1
  subst ex
  cases r1
  have minus : PO X (some (.UnaryOp .USub (.Constant (.int 1) k p1) p2)) (tPart (tUn (rU fun i => .int (-i)) (tC (.int 1)))) := po_some (pe_un un_neg pe_int)
  refine wpAny_Slice (thn (po_none.run pins s1 σ H1 (fun o H2 => o = none ∧ H2 = H1) I1 ⟨rfl, rfl⟩) fun vl s2 ⟨l, H2, I2, pl, el, e2⟩ => ?_)
  subst el e2
  refine thn (po_none.run pins s2 σ H2 (fun o H3 => o = none ∧ H3 = H2) I2 ⟨rfl, rfl⟩) fun vu s3 ⟨u, H3, I3, pu, eu, e3⟩ => ?_
  subst eu e3
  refine thn (minus.run pins s3 σ H3 (fun o H4 => o = some (-1) ∧ H4 = H3) I3 ⟨1, rfl, -1, rfl, rfl, rfl⟩) fun vs s4 ⟨o, H4, I4, ps, eo, e4⟩ => ?_
  subst eo e4
  have I5 : Inv X pins σ H4 { s4 with heap := s4.heap.push { cls := .type "slice", data := .fields #[vl, vu, vs] } } := I4.kept (t' := s4.toks) fun b ob q => Heap.get?_push_of_some _ q
  show wpAny (model X.prog X.w) X.A (subscriptTail e (.Slice none none (some (.UnaryOp .USub (.Constant (.int 1) k p1) p2)) p3) (.ref a) (.ref s4.heap.objs.size)) (EP X pins σ Q) X.xe { s4 with heap := s4.heap.push { cls := .type "slice", data := .fields #[vl, vu, vs] } }
  rcases q with ⟨hx, q⟩ | ⟨hx, q⟩
  · obtain ⟨its, r, ht, hz⟩ := I5.list hx
    have hlen := r.length
    refine tail_any (ops := [.ref a, .ref s4.heap.objs.size]) ht.isList.typeIs (PySem.slot_list_getitem.lookup) ?_ (by with_unfolding_all rfl)
    refine wpAny_getItem_list_slice ht.isList (Heap.IsSliceOf.new _ vl vu vs) pl pu ps (by decide) ?_ (by rw [List.size_toArray]; omega)
    rw [PySem.W.krv_pick]
    refine ⟨.ref _, _, I5.laid (t' := s4.toks) (o := .lst xs.reverse) (fun b ob q => Heap.get?_push_of_some _ q) (Nat.le_refl _) ?_, rfl, q _ (I5.hok.fresh (Nat.le_refl _))⟩
    exact ⟨by rw [List.length_reverse]; exact hz, _, 0, r.reverse, Heap.get?_push_size _ rfl⟩
  · obtain ⟨its, r, ht, hz⟩ := I5.tuple hx
    have hlen := r.length
    refine tail_any (ops := [.ref a, .ref s4.heap.objs.size]) ht.typeIs (PyProof.Rows.slot_tuple_getitem.lookup) ?_ (by with_unfolding_all rfl)
    refine tuple_rev ht (Heap.IsSliceOf.new _ vl vu vs) pl pu ps ?_ (by rw [List.size_toArray]; omega)
    refine ⟨.ref _, _, I5.laid (t' := s4.toks) (o := .frz { cls := .type "tuple", data := .seq its.toArray.toList.reverse.toArray } (.tup xs.reverse)) (fun b ob q => Heap.get?_push_of_some _ q) (Nat.le_refl _) ?_, rfl, q _ _ rfl (I5.hok.fresh (Nat.le_refl _))⟩
    exact ⟨Heap.get?_push_size _ rfl, by rw [List.length_reverse]; exact hz, _, r.reverse, IsTup.new _ _⟩
def gRev (d : D) (A : Hd) : R D := match d with
  | .tup ds => .ok (.tup ds.reverse) A
  | d => match asR A d with
    | some ds => .ok (.lst ds.reverse) A
    | none => .stk
theorem pd_rev (ha : PD X ct W e fa) : PD X ct W (.Subscript e (.Slice none none (some (.UnaryOp .USub (.Constant (.int 1) k p1) p2)) p3) pos) (eUn gRev fa) :=
  pe_mono (pe_revS ha) fun σ H Q ⟨io, A, ro, st, p⟩ => ⟨io, A, ro, st, (p.bind (rep := DR X.K ct)).mono fun v H1 ⟨io1, A1, d, e1, h1, r1, p1⟩ => by
    unfold gRev at p1
    split at p1
    · cases r1 with
      | @tup a xs _ q rs => exact ⟨a, xs, rfl, .inr ⟨q.sq, fun p o ho hp => p1.new h1 hp (.newTup h1 hp ho rs.reverse)⟩⟩
    · split at p1
      · rename_i ds hd
        obtain ⟨a, xs, rfl, q, rs⟩ := asR_ok h1 r1 hd
        exact ⟨a, xs, rfl, .inl ⟨q, fun p hp => p1.new h1 hp (.newLst h1 hp rs.reverse)⟩⟩
      · exact p1.elim⟩
end
end DV

set_option Elab.async false
set_option linter.all false
set_option maxRecDepth 100000
/-! DvV: x in t, data of any depth; plain laws of == and in. -/
namespace DV
open PySem PySem.Spec PyProof.Rows L2
def inByData (p : PyData) (qs : List PyData) : Option Bool := if p.canLay0 = true ∧ PyData.canLayAll0 qs = true ∧ p.depth ≤ 60 then some (qs.any fun z => PyData.eqv z p) else none
def inW (d e : D) (A : Hd) : Option Bool := match inP d e A with
  | some b => some b
  | none => match toP (deR A d), toP (deR A e) with
    | some p, some (.list qs) => inByData p qs
    | some p, some (.tuple qs) => inByData p qs
    | _, _ => none
def gInW (d e : D) (A : Hd) : R D := match inW d e A with
  | some b => .ok (.bl b) A
  | none => .stk
def rInW (K : PySem.W.Frag) : R2 := fun x y H Q => rInX K false x y H Q ∨ ∃ p qs, Dp K H x p ∧ (Dp K H y (.list qs) ∨ Dp K H y (.tuple qs)) ∧ p.canLay0 = true ∧ PyData.canLayAll0 qs = true ∧ p.depth ≤ 60 ∧ Q (.bl (qs.any fun z => PyData.eqv z p)) H
theorem op_inData {X : Cx} (hu : X.A.units + 64 < cLine) : OpR X (compareOp .In) (fun x y H Q => ∃ p qs, Dp X.K H x p ∧ (Dp X.K H y (.list qs) ∨ Dp X.K H y (.tuple qs)) ∧ p.canLay0 = true ∧ PyData.canLayAll0 qs = true ∧ p.depth ≤ 60 ∧ Q (.bl (qs.any fun z => PyData.eqv z p)) H) := by
  intro pins s σ H x y v u Q I rx ry h
  obtain ⟨p, qs, hd, he, c1, c2, dp, q⟩ := h
  obtain ⟨as, r1⟩ := Dp.reads I p x v hd rx
  have room : X.A.units + 1 + min (PyData.depthAll qs) p.depth < cLine := by
    have : min (PyData.depthAll qs) p.depth ≤ p.depth := Nat.min_le_right _ _
    omega
  rcases he with he | he
  · obtain ⟨bs, r2⟩ := Dp.reads I (.list qs) y u he ry
    exact SeqAt.in_list_reads r2 r1 c2 c1 room ⟨.bl _, H, I, rfl, q⟩
  · obtain ⟨bs, r2⟩ := Dp.reads I (.tuple qs) y u he ry
    exact SeqAt.in_tuple_reads r2 r1 c2 c1 room ⟨.bl _, H, I, rfl, q⟩
theorem op_inW {X : Cx} (hu : X.A.units + 64 < cLine) : OpR X (compareOp .In) (rInW X.K) := op_inX.or (op_inData hu)
theorem gInW_ok {K : PySem.W.Frag} {ct : String → Addr} : OpD K ct (rInW K) gInW := by
  intro W σ io H A x y d e Q h rx ry p
  unfold gInW at p
  split at p
  · rename_i b hb
    unfold inW at hb
    split at hb
    · rename_i b' hb'
      cases hb
      exact .inl (inP_ok h rx ry hb' (p.here h (.bl _)))
    · split at hb
      · rename_i q qs h1 h2
        unfold inByData at hb
        split at hb
        · rename_i hc
          cases hb
          exact .inr ⟨q, qs, deR_ok h rx h1, .inl (deR_ok h ry h2), hc.1, hc.2.1, hc.2.2, p.here h (.bl _)⟩
        · cases hb
      · rename_i q qs h1 h2
        unfold inByData at hb
        split at hb
        · rename_i hc
          cases hb
          exact .inr ⟨q, qs, deR_ok h rx h1, .inr (deR_ok h ry h2), hc.1, hc.2.1, hc.2.2, p.here h (.bl _)⟩
        · cases hb
      · cases hb
  · exact p.elim

/-! ### plain laws -/
theorem sz1000 : 1000 ≤ sizeLine := by rw [sizeLine_eq]; omega
theorem boolsD_map {α : Type} (h : α → Bool) : ∀ l : List α, boolsD (l.map fun c => D.bl (h c)) = some (l.map h)
  | [] => rfl
  | c :: l => by
    rw [List.map_cons, List.map_cons]
    unfold boolsD
    rw [boolsD_map h l]
theorem textsD_map : ∀ xs : List Str, textsD (xs.map D.str) = some xs
  | [] => rfl
  | x :: xs => by
    rw [List.map_cons]
    unfold textsD
    rw [textsD_map xs]
/-- what == and repr can read -/
def layD (d : D) : Bool := match toP d with
  | some p => p.canLay0 && decide (p.depth ≤ 50)
  | none => false
theorem toPs_lay2 : ∀ {ds : List D}, (∀ d ∈ ds, layD d = true) → ∃ ps, toPs ds = some ps ∧ PyData.canLayAll0 ps = true ∧ PyData.depthAll ps ≤ 50 ∧ ps.length = ds.length
  | [], _ => ⟨[], rfl, rfl, Nat.zero_le _, rfl⟩
  | d :: ds, h => by
    obtain ⟨ps, h1, h2, h3, h4⟩ := toPs_lay2 (ds := ds) fun d hd => h d (List.mem_cons_of_mem _ hd)
    have hd := h d List.mem_cons_self
    unfold layD at hd
    split at hd
    · rename_i p hp
      rw [Bool.and_eq_true] at hd
      have h5 := of_decide_eq_true hd.2
      refine ⟨p :: ps, ?_, ?_, ?_, by rw [List.length_cons, List.length_cons, h4]⟩
      · unfold toPs
        rw [h1, hp]
      · unfold PyData.canLayAll0
        rw [h2, hd.1]
        rfl
      · unfold PyData.depthAll
        omega
    · cases hd
theorem eqvAll_nil {ps : List PyData} : PyData.eqvAll ps [] = ps.isEmpty := by cases ps <;> rfl
theorem deR_val {A : Hd} {d : D} (h : layD d = true) : deR A d = d := by
  cases d with
  | ref n => cases h
  | _ => rfl
theorem shaped_lst {ps : List PyData} (h2 : PyData.canLayAll0 ps = true) (h3 : PyData.depthAll ps ≤ 60) : SeqAt.shaped (.list ps) = true := by
  unfold SeqAt.shaped
  rw [Bool.and_eq_true]
  refine ⟨by unfold PyData.canLay0; exact h2, decide_eq_true ?_⟩
  unfold PyData.depth
  omega
theorem eqP_nil {ds : List D} {A : Hd} (h : ∀ d ∈ ds, layD d = true) : eqP A (.lst ds) (.lst []) = some ds.isEmpty := by
  obtain ⟨ps, q1, q2, q3, q4⟩ := toPs_lay2 h
  unfold eqP
  have e1 : toP (deR A (.lst ds)) = some (.list ps) := by
    show toP (.lst ds) = _
    unfold toP
    rw [q1]
  have e2 : toP (deR A (.lst [])) = some (.list []) := by
    show toP (.lst []) = _
    unfold toP
    rfl
  rw [e1, e2]
  show (if SeqAt.shaped (.list ps) = true ∧ SeqAt.shaped (.list []) = true then some (PyData.eqv (.list ps) (.list [])) else none) = _
  rw [if_pos ⟨shaped_lst q2 (by omega), shaped_lst rfl (by decide)⟩]
  show some (PyData.eqvAll ps []) = _
  rw [eqvAll_nil]
  cases ds with
  | nil => cases ps with
    | nil => rfl
    | cons _ _ => cases q4
  | cons _ _ => cases ps with
    | nil => cases q4
    | cons _ _ => rfl
theorem gEq_nil {ds : List D} {A : Hd} (h : ∀ d ∈ ds, layD d = true) : gEq (.lst ds) (.lst []) A = .ok (.bl ds.isEmpty) A := by
  unfold gEq
  simp only [eqP_nil h]
theorem gNe_nil {ds : List D} {A : Hd} (h : ∀ d ∈ ds, layD d = true) : gNe (.lst ds) (.lst []) A = .ok (.bl (!ds.isEmpty)) A := by
  unfold gNe
  simp only [eqP_nil h]
/-- a numbered list against [] -/
theorem eqP_num {k : Nat} {ds : List D} {A : Hd} (e : A[k]? = some (.lst ds)) (h : ∀ d ∈ ds, layD d = true) : eqP A (.ref k) (.lst []) = some ds.isEmpty := by
  have : deR A (.ref k) = .lst ds := by
    unfold deR
    dsimp only
    rw [e]
  have h2 := eqP_nil (A := A) h
  unfold eqP at h2 ⊢
  rw [this]
  exact h2
theorem gEq_num {k : Nat} {ds : List D} {A : Hd} (e : A[k]? = some (.lst ds)) (h : ∀ d ∈ ds, layD d = true) : gEq (.ref k) (.lst []) A = .ok (.bl ds.isEmpty) A := by
  unfold gEq
  simp only [eqP_num e h]
theorem gNe_num {k : Nat} {ds : List D} {A : Hd} (e : A[k]? = some (.lst ds)) (h : ∀ d ∈ ds, layD d = true) : gNe (.ref k) (.lst []) A = .ok (.bl (!ds.isEmpty)) A := by
  unfold gNe
  simp only [eqP_num e h]
theorem layD_int (i : Int) : layD (.int i) = true := by
  unfold layD toP
  rfl
theorem layD_str {x : Str} (h : PyData.canLay0 (.str x) = true) : layD (.str x) = true := by
  unfold layD toP
  show (PyData.canLay0 (.str x) && decide (PyData.depth (.str x) ≤ 50)) = true
  rw [h]
  rfl
/-- == of data -/
theorem gEq_lay {d e : D} {A : Hd} (h : layD d = true) (h2 : layD e = true) : ∃ b, gEq d e A = .ok (.bl b) A ∧ gNe d e A = .ok (.bl (!b)) A ∧ (∀ x y, d = .str x → e = .str y → b = decide (x = y)) ∧ (∀ i j : Int, d = .int i → e = .int j → b = decide (i = j)) := by
  have go : ∃ p q, toP d = some p ∧ toP e = some q ∧ SeqAt.shaped p = true ∧ SeqAt.shaped q = true := by
    unfold layD at h h2
    split at h
    · split at h2
      · rename_i p hp _ q hq
        rw [Bool.and_eq_true] at h h2
        have a1 := of_decide_eq_true h.2
        have a2 := of_decide_eq_true h2.2
        exact ⟨p, q, hp, hq, by unfold SeqAt.shaped; rw [h.1, decide_eq_true (by omega)]; rfl, by unfold SeqAt.shaped; rw [h2.1, decide_eq_true (by omega)]; rfl⟩
      · cases h2
    · cases h
  obtain ⟨p, q, e1, e2, s1, s2⟩ := go
  by_cases hs : ∃ x y, d = .str x ∧ e = .str y
  · obtain ⟨x, y, rfl, rfl⟩ := hs
    exact ⟨decide (x = y), rfl, rfl, fun a b h1 h2 => by cases h1; cases h2; rfl, fun a b h1 => by cases h1⟩
  · have e3 : eqP A d e = some (PyData.eqv p q) := by
      unfold eqP
      rw [deR_val h, deR_val h2, e1, e2]
      show (if SeqAt.shaped p = true ∧ SeqAt.shaped q = true then some (PyData.eqv p q) else none) = _
      rw [if_pos ⟨s1, s2⟩]
    refine ⟨PyData.eqv p q, ?_, ?_, fun x y h1 h2 => absurd ⟨x, y, h1, h2⟩ hs, fun i j h1 h2 => ?_⟩
    · unfold gEq
      split
      · rename_i x y
        exact absurd ⟨x, y, rfl, rfl⟩ hs
      · rw [e3]
    · unfold gNe
      split
      · rename_i x y
        exact absurd ⟨x, y, rfl, rfl⟩ hs
      · rw [e3]
    · subst h1 h2
      unfold toP at e1 e2
      cases e1
      cases e2
      show (i == j) = decide (i = j)
      rfl
theorem gEq_int (i j : Int) (A : Hd) : gEq (.int i) (.int j) A = .ok (.bl (decide (i = j))) A := by
  obtain ⟨b, h1, _, _, h4⟩ := gEq_lay (A := A) (layD_int i) (layD_int j)
  rw [h1, h4 i j rfl rfl]
theorem gNe_int (i j : Int) (A : Hd) : gNe (.int i) (.int j) A = .ok (.bl (!decide (i = j))) A := by
  obtain ⟨b, _, h1, _, h4⟩ := gEq_lay (A := A) (layD_int i) (layD_int j)
  rw [h1, h4 i j rfl rfl]
end DV

set_option Elab.async false
set_option linter.all false
set_option maxRecDepth 100000
/-! DvW: xs * n for a list that changes; d.get(k, x). -/
namespace DV
open PySem PySem.Spec PyProof.Rows L2
section
variable {K : PySem.W.Frag} {ct : String → Addr}
def gMulM (d e : D) (A : Hd) : R D := match asL A d, e with
  | some xs, .int k => if -(2 ^ 63) ≤ k ∧ k < 2 ^ 63 ∧ xs.length * k.toNat ≤ sizeLine then .ok (.ref A.length) (A ++ [.lst (List.replicate k.toNat xs).flatten]) else .stk
  | _, _ => .stk
theorem gMulM_ok : OpD K ct rMulX gMulM := by
  intro W σ io H A x y d e Q h rx ry p
  unfold gMulM at p
  split at p
  · rename_i xs k h1
    cases ry
    obtain ⟨a, us, rfl, q1, r1⟩ := asL_ok h rx h1
    split at p
    · rename_i hz
      exact .inr ⟨a, _, us, rfl, rfl, q1, hz.1, hz.2.1, by rw [r1.length]; exact hz.2.2, fun q hq => Post.num p h hq ⟨_, upd_same, (r1.flatrep _).mono (Ext.num hq) h.noT⟩⟩
    · exact p.elim
  · exact p.elim
end
/-! ### o.get(b, d) -/
def eGet2 (o b d : EF) : EF := fun ro A => (o ro A).bind fun x A1 => match asD A1 x with
  | some _ => (b ro A1).bind fun y A2 => (d ro A2).bind fun z A3 => match asD A3 x, keyD y with
    | some es, some k => .ok ((valD es k).getD z) A3
    | _, _ => .stk
  | none => .stk
section
variable {X : Cx} {ct : String → Addr} {W : WX} {o b d : Expr} {fo fb fd : EF} {apos cpos : Pos}
theorem pd_get2 (hu : X.A.units + 1 < cLine) (ho : PD X ct W o fo) (hb : PD X ct W b fb) (hd : PD X ct W d fd) (m : M2 X o "get" apos b d cpos := by exact ⟨rfl, rfl, rfl, rfl⟩) :
    PD X ct W (.Call (.Attribute o "get" apos) [b, d] [] cpos) (eGet2 fo fb fd) :=
  pe_mono (pe_dget2 hu ho hb hd m) fun σ H Q ⟨io, A, ro, s, p⟩ => ⟨io, A, ro, s, (p.bind (rep := DR X.K ct)).mono fun x H1 ⟨io1, A1, dx, e1, h1, r1, p1⟩ => by
    split at p1
    · rename_i es0 hes0
      obtain ⟨a, kvs0, rfl, ha, _, _⟩ := asD_ok h1 r1 hes0
      refine ⟨a, rfl, .inl ⟨kvs0, .inl ha⟩, io1, A1, ro, s.mono e1 h1, (p1.bind (rep := DR X.K ct)).mono fun y H2 ⟨io2, A2, dy, e2, h2, r2, p2⟩ => ⟨io2, A2, ro, (s.mono e1 h1).mono e2 h2, (p2.bind (rep := DR X.K ct)).mono fun z H3 ⟨io3, A3, dz, e3, h3, r3, p3⟩ => ?_⟩⟩
      split at p3
      · rename_i es k hes hk
        obtain ⟨a', kvs, ea, ha', hks, hrs⟩ := asD_ok h3 ((r1.mono e2 h1.noT).mono e3 h2.noT) hes
        cases ea
        have ey := keyD_ok (r2.mono e3 h2.noT) hk
        subst ey
        refine ⟨valV kvs k, DGet.k ha', ?_⟩
        have hv := valD_ok k hks hrs
        cases hx : valD es k with
        | none => rw [hx] at p3 hv; rw [hv]; exact p3.here h3 r3
        | some x => rw [hx] at p3 hv; obtain ⟨v', g1, g2⟩ := hv; rw [g1]; exact p3.here h3 g2
      · exact p3.elim
    · exact p1.elim⟩
end
end DV

set_option Elab.async false
set_option linter.all false
set_option maxRecDepth 100000
/-! DvX: o[i] op= e for lists and dicts that change. -/
namespace DV
open PySem PySem.Spec PyProof.Rows L2
abbrev rGetX (K : PySem.W.Frag) : V → V → Hp → VK → Prop := fun o i H Q => rIxL K o i H Q ∨ ∃ a v, o = .ref a ∧ DGet H a i (some v) ∧ Q v H
theorem get_X {X : Cx} (hu : X.A.units + 1 < cLine) : PGet X (rGetX X.K) := by
  intro pins s σ H o i ov iv Q I ro ri h
  rcases h with h | ⟨a, v, rfl, g, q⟩
  · obtain ⟨p, xs, i, z, rfl, rfl, hq, he, q⟩ := h
    cases ro
    obtain ⟨t, rfl⟩ := ri
    obtain ⟨its, r, pl, hz⟩ := I.list hq
    obtain ⟨j, h1, h2, h3, h4, h5⟩ := atI_get he
    obtain ⟨w, ew, rw'⟩ := r.get h2
    have hl := r.length
    have hn := line63
    have fin : EP X pins σ Q w s := ⟨z, H, I, rw', q⟩
    by_cases h0 : 0 ≤ i
    · have hj : i.toNat = j := by
        rw [seqIndex_of h0 h5] at h1
        exact Option.some.inj h1
      exact wpAny_getItem_list pl.isList h0 (by omega) (by rw [hj]; simpa using ew) fin
    · have hj : (i + (its.toArray.size : Int)).toNat = j := by
        rw [seqIndex_neg (by omega) h4] at h1
        rw [List.size_toArray, ← hl]
        exact Option.some.inj h1
      exact wpAny_getItem_list_neg pl.isList (by omega) (by rw [List.size_toArray] <;> omega) (by omega) (by rw [hj]; simpa using ew) fin
  · obtain rfl : ov = Value.ref a := ro
    exact d_getItem hu I g ri fun w' s' I' rw' => ⟨v, H, I', rw', q⟩
def gItem (x y : D) (A : Hd) : R D := match numL A x, y with
  | some (_, ds), .int k => match L2.atI ds k with
    | some v => .ok v A
    | none => .stk
  | some _, _ => .stk
  | none, y => match numD A x, keyD y with
    | some (_, es), some k => match valD es k with
      | some v => .ok v A
      | none => .stk
    | _, _ => .stk
section
variable {K : PySem.W.Frag} {ct : String → Addr} {W : WX} {σ : L2.St} {io : Io} {H : Hp} {A : Hd}
theorem gItem_ok {x y : V} {dx dy : D} {Q : VK} (h : HR K ct io H A) (rx : DR K ct io H x dx) (ry : DR K ct io H y dy) (p : Post K ct (DR K ct) W σ io H (gItem dx dy A) Q) : rGetX K x y H Q := by
  unfold gItem at p
  split at p
  · rename_i n ds k hn
    obtain ⟨a, xs, rfl, rfl, hio, hH, rs⟩ := numL_ok h rx hn
    cases ry
    split at p
    · rename_i d hd
      obtain ⟨v, e, r⟩ := rs.atI hd
      exact .inl ⟨a, xs, k, v, rfl, rfl, .inl (.inl hH), e, p.here h r⟩
    · exact p.elim
  · exact p.elim
  · split at p
    · rename_i n es k hn hk
      obtain ⟨a, kvs, rfl, rfl, hio, hH, ek, rs⟩ := numD_ok h rx hn
      have ey := keyD_ok ry hk
      subst ey
      have hv := valD_ok k ek rs
      cases hx : valD es k with
      | none => rw [hx] at p; exact p.elim
      | some d =>
        rw [hx] at p hv
        obtain ⟨v', g1, g2⟩ := hv
        exact .inr ⟨a, v', rfl, by rw [← g1]; exact DGet.k hH, p.here h g2⟩
    · exact p.elim
end
def sAugAt (g : D → D → Hd → R D) (o i e : EF) : SF := fun ro A => (o ro A).then ro fun x A1 => (i ro A1).then ro fun y A2 => (gItem x y A2).then ro fun v A3 => (e ro A3).then ro fun w A4 => (g v w A4).then ro fun z A5 =>
  match setD x y z ro A5 with
  | .ok ro1 A6 => .go .nx ro1 A6
  | _ => .stk
section
variable {X : Cx} {ct : String → Addr} {W : WX} {o i e : Expr} {fo fi fe : EF} {pos tpos : Pos} {op : Operator} {r : V → V → Hp → VK → Prop} {g : D → D → Hd → R D}
theorem psd_augAt (hu : X.A.units + 1 < cLine) (ho : PD X ct W o fo) (hi : PD X ct W i fi) (he : PD X ct W e fe) (hop : PIp X op r) (og : OpD X.K ct r g)
    (ha : ∀ ov iv new, augStore i ov iv new = (do holding [new, ov, iv] (setItem ov iv new); release [new, ov, iv] []; pure .next) := by intros; rfl) :
    PSD X ct W (.AugAssign (.Subscript o i tpos) op e pos) (sAugAt g fo fi fe) :=
  ps_mono (ps_augS ho hi (get_X hu) he hop (set_X hu) ha) fun Z σ H ⟨io, A, ro, s, p⟩ =>
    ⟨io, A, ro, s, (Post.then (rep := DR X.K ct) s p).mono fun x H1 ⟨io1, A1, dx, e1, s1, rx, p1⟩ =>
      ⟨io1, A1, ro, s1, (Post.then (rep := DR X.K ct) s1 p1).mono fun y H2 ⟨io2, A2, dy, e2, s2, ry, p2⟩ =>
        gItem_ok (W := W) (σ := σ) s2.hr (rx.mono e2 s1.hr.noT) ry ((Post.then (rep := DR X.K ct) s2 p2).mono fun v H3 ⟨io3, A3, dv, e3, s3, rv, p3⟩ =>
          ⟨io3, A3, ro, s3, (Post.then (rep := DR X.K ct) s3 p3).mono fun w H4 ⟨io4, A4, dw, e4, s4, rw', p4⟩ =>
            og W σ io4 H4 A4 v w dv dw _ s4.hr (rv.mono e4 s3.hr.noT) rw' ((Post.then (rep := DR X.K ct) s4 p4).mono fun z H5 ⟨io5, A5, dz, e5, s5, rz, p5⟩ => by
              refine setD_ok (ro := ro) s5 ((((rx.mono e2 s1.hr.noT).mono e3 s2.hr.noT).mono e4 s3.hr.noT).mono e5 s4.hr.noT) (((ry.mono e3 s2.hr.noT).mono e4 s3.hr.noT).mono e5 s4.hr.noT) rz ?_
              cases hs : setD dx dy dz ro A5 with
              | ok ro1 A6 =>
                rw [hs] at p5
                exact fun σ' io' H' ex st hσ => by have := p5 σ' io' H' ex st; rw [hσ] at this; exact this
              | err c fs A6 => rw [hs] at p5; exact p5.elim
              | stk => rw [hs] at p5; exact p5.elim)⟩)⟩⟩
end
end DV

set_option Elab.async false
set_option linter.all false
set_option maxRecDepth 100000
/-! DvY: def f(*names): the arguments become a new tuple. -/
namespace DV
open PySem PySem.Spec PyProof.Rows L2
/-- a def with a star parameter, called with plain arguments -/
structure FnS (P : Program) (w : World) (K : PySem.W.Frag) (mg : Str → Option Value) (base : Heap) (k : Nat) (f : Addr) (sp : Sp) : Prop where
  run : ∀ (A : Around) (outer : List PySem.Env) (s : Shared) (H : Hp) (us : List Value) (vs : List V) (Q : VK) (E : XK), A.guards = some [] → Room k A → Env0 P w K mg base A outer s H →
    Vals vs us → sp vs H Q E → codeAny (model P w) A (.call (.ref f) ⟨us, []⟩) (CR (L2.CX P w) outer P w H s Q E) s
section
variable {P : Program} {w : World} {K : PySem.W.Frag} {mg : Str → Option Value} {base : Heap} {ct : String → Addr}
theorem okS {x qual : Str} {st : Stmt} {f : Addr} {fd : FuncData} {N : List Str} {pv : Str} {k : Nat} {sp : Sp} (F : Fun K x qual st f fd) (S : FnScope N [pv] (defScope st)) (hb : ∀ us : List Value, bindArgs fd ⟨us, []⟩ = (newTuple us >>= fun t => pure [(pv, t)]))
    (body : ∀ (cdv : Value) (A : Around) (outer : List PySem.Env) (s : Shared) (H : Hp) (vs : List V) (Q : VK) (E : XK), A.guards = some [] → Room k (A.deeper (envOfC qual (defScope st) s.heap.objs.size f cdv)) → sp vs H Q E →
      ∃ t, PSs (cxOf (L2.CX P w) P w K mg base N qual (defScope st) f cdv A outer s H E) (defBody st) t ∧ t { nx := fun _ H' => Q .non H', rt := Q } (start N vs) H) :
    FnS P w K mg base (k + 1) f (fun vs H Q E => vs.length ≤ sizeLine ∧ ∀ p o, o.dict = none → H p = none → sp [V.ref p] (upd H p (.frz o (.tup vs))) Q E) := by
  obtain ⟨oc, od, kV, doc, pm, an, cdv, ct, osl, rfl, lk, hcd⟩ := F.ex
  refine ⟨fun A outer s H us vs Q E hgd hr e0 r ⟨hz, hq⟩ => ?_⟩
  have hn : H s.heap.objs.size = none := e0.hok.fresh (Nat.le_refl _)
  have hl2 : us.length ≤ sizeLine := by rw [← r.length]; exact hz
  refine StX.run_bnd lk hcd S hr e0 (G := fun xs H2 => ∃ p o, o.dict = none ∧ H p = none ∧ xs = [V.ref p] ∧ H2 = upd H p (.frz o (.tup vs))) (fun A' Ex Q' h => ?_) fun s2 H2 xs ⟨p, o, ho, hp, ex, eH⟩ hr' => ?_
  · rw [hb us]
    refine wpAny_bind (wpAny_newTuple (wpAny_pure ?_) hl2)
    have new : ObjOk P w (upd H s.heap.objs.size (.frz { cls := .type "tuple", data := .seq us.toArray } (.tup vs))) (s.heap.push ({ cls := .type "tuple", data := .seq us.toArray } : Obj)) s.heap.objs.size (.frz { cls := .type "tuple", data := .seq us.toArray } (.tup vs)) :=
      ⟨Heap.get?_push_size _ rfl, hz, us, r, IsTup.new _ _⟩
    have un := StX.un_laid (fs := frs outer) (s := s) (o := ({ cls := .type "tuple", data := .seq us.toArray } : Obj)) (u := .frz { cls := .type "tuple", data := .seq us.toArray } (.tup vs)) hn
    exact h _ _ [V.ref s.heap.objs.size] [Value.ref s.heap.objs.size] (StX.env0_laid e0 new) un rfl (fun e s' => StX.cxUp outer s H _ _ E e s' un (fun b o q => Heap.get?_push_of_some _ q) rfl) (.cons rfl .nil) rfl ⟨_, _, rfl, hn, rfl, rfl⟩
  · subst ex eH
    exact body cdv A outer s2 _ _ Q E hgd hr' (hq p o ho hp)
def starF (F : FF) : FF := fun ds A => if ds.length ≤ sizeLine then F [.tup ds] A else .stk
def spS (K : PySem.W.Frag) (ct : String → Addr) (F : FF) : Sp := fun vs H Q E => ∃ io A ds, HR K ct io H A ∧ DRs K ct io H vs ds ∧ Post K ct (DR K ct) (fun cls dd _ H' => E cls dd H') [] io H (starF F ds A) Q
theorem FnS.mono {j k : Nat} {f : Addr} {sp : Sp} (F : FnS P w K mg base j f sp) (h : j ≤ k) : FnS P w K mg base k f sp := ⟨fun A outer s H us vs Q E g r => F.run A outer s H us vs Q E g (r.mono h)⟩
theorem FnS.less {k : Nat} {f : Addr} {sp sp' : Sp} (F : FnS P w K mg base k f sp) (h : ∀ vs H Q E, sp' vs H Q E → sp vs H Q E) : FnS P w K mg base k f sp' := ⟨fun A outer s H us vs Q E g r e v q => F.run A outer s H us vs Q E g r e v (h _ _ _ _ q)⟩
theorem okDS {x qual : Str} {st : Stmt} {f : Addr} {fd : FuncData} {N : List Str} {pv : Str} {k : Nat} {F : FF} {fb : SF} (Fn : Fun K x qual st f fd) (S : FnScope N [pv] (defScope st)) (hb : ∀ us : List Value, bindArgs fd ⟨us, []⟩ = (newTuple us >>= fun t => pure [(pv, t)]))
    (drv : ∀ (cdv : Value) (A : Around) (outer : List PySem.Env) (s : Shared) (H : Hp) (E : XK), A.guards = some [] → Room k (A.deeper (envOfC qual (defScope st) s.heap.objs.size f cdv)) → PSsD (cxD P w K mg base N qual st f cdv A outer s H E) ct (WD E) (defBody st) fb)
    (hF : ∀ ds A, ds.length = 1 → F ds A ≠ .stk → FinOk A (fb (startD N.length ds) A) (F ds A)) : FnS P w K mg base (k + 1) f (spS K ct F) := by
  refine (okS (sp := spD K ct 1 F) Fn S hb fun cdv A0 outer s H vs Q E hg hr ⟨io, A, ds, hl, h, rs, p⟩ => ?_).less fun vs H Q E ⟨io, A, ds, h, rs, p⟩ => ?_
  · refine ⟨_, drv cdv A0 outer s H E hg hr, ?_⟩
    refine ⟨io, A, startD N.length ds, ⟨h, start_D rs⟩, ?_⟩
    have hns : F ds A ≠ .stk := fun z => by rw [z] at p; exact p
    have fo := hF ds A (by rw [← rs.length]; exact hl) hns
    cases ho : fb (startD N.length ds) A with
    | stk => rw [ho] at fo; exact fo.elim
    | go fl ro' A' =>
      rw [ho] at fo
      cases fl with
      | bk => exact fo.elim
      | ct => exact fo.elim
      | nx => exact fun σ' io' H' x s' => fin_ret h x s'.hr .non fo p
      | ret d => exact fun v io' H' x h' rv => fin_ret h x h' rv fo p
    | err c fs ro' A' =>
      rw [ho] at fo
      intro cls dd σ' io' H' x s' xr
      rcases fo with q | ⟨n, hn, hf, hm, q⟩
      · rw [q] at p
        exact p cls dd io' H' x s'.hr xr
      · rw [q] at p
        obtain ⟨g1, g2⟩ := fin_cut h x s'.hr hn hm
        refine p cls dd (io'.cut n) H' g2 g1 ⟨xr.cls, ?_⟩
        rcases xr.fds with z | ⟨pp, gs, h1, h2, h3, h4, h5⟩
        · exact .inl z
        · exact .inr ⟨pp, gs, h1, fun z => h2 (Io.cut_mem z), h3, h4, h5.lop hf⟩
  · unfold starF at p
    split at p
    · rename_i hz
      exact ⟨by rw [rs.length]; exact hz, fun q o ho hq => ⟨io, A, [.tup ds], rfl, h.laid hq, .cons (.tup (.inl ⟨o, upd_same, ho⟩) (rs.laid h hq)) .nil, Post.ext (Ext.laid hq) p⟩⟩
    · exact p.elim
/-- a def with a star parameter that may be called by the module's name x -/
structure CalS (P : Program) (w : World) (K : PySem.W.Frag) (mg : Str → Option Value) (base : Heap) (ct : String → Addr) (k : Nat) (x : Str) (F : FF) : Prop where
  ex : ∃ f, FnS P w K mg base k f (spS K ct F) ∧ mg x = some (.ref f) ∧ PySem.W.keepIn K (.ref f) = true
end
section
variable {X : Cx} {ct : String → Addr} {W : WX} {k : Nat} {f : Addr} {F : FF} {x : Str} {p pos : Pos} {e : Expr} {es : List Expr} {fl : AF} {sp : Sp} {t : TA}
theorem run_S {pins : List (Addr × Obj)} {σ : L2.St} {H : Hp} {s : Shared} {Q : VK} {us : List Value} {vs : List V} (F : FnS X.prog X.w X.K X.mg X.base k f sp) (hg : X.A.guards = some []) (hr : Room k X.A) (tk : Takes X W)
    (I : Inv X pins σ H s) (r : Vals vs us) (h : sp vs H Q (WE W σ)) : wpAny (model X.prog X.w) X.A (call (.ref f) us) (EP X pins σ Q) X.xe s := by
  refine wpAny_call (codeAny_mono (F.run X.A X.stack s H us vs Q (WE W σ) hg hr I.env0 r h) (fun r s' hq => ?_))
  match r, hq with
  | .error e, hq => exact passAt tk σ pins H s e s' I hq
  | .ok (.ret u), hq => exact I.after hq
  | .ok .next, hq => exact (False.elim hq)
  | .ok .brk, hq => exact (False.elim hq)
  | .ok .cont, hq => exact (False.elim hq)
theorem spS_call {vs : List V} {ds : List D} {σ : L2.St} {io : Io} {H : Hp} {A : Hd} {Q : VK} (h : HR X.K ct io H A) (r : DRs X.K ct io H vs ds) (q : Post X.K ct (DR X.K ct) W σ io H (starF F ds A) Q) : spS X.K ct F vs H Q (WE W σ) := by
  refine ⟨io, A, ds, h, r, ?_⟩
  cases hF : starF F ds A with
  | ok d A1 => rw [hF] at q; exact q
  | err c fs A1 => rw [hF] at q; exact q
  | stk => rw [hF] at q; exact q
theorem pd_callS {j : Nat} (c : CalS X.prog X.w X.K X.mg X.base ct k x F) (hgd : X.A.guards = some []) (hr : Room j X.A) (hk : k ≤ j) (hg : Gl X x) (tk : Takes X W) (ha : PDa X ct W (e :: es) fl)
    (hdb : (x == ("__debug__" : Str)) = false := by decide) (he : starEach (e :: es) X.env = (false, eval e X.env) :: starEach es X.env := by rfl) (hpl : (backTo pos (starEach es X.env)).any (·.1) = false := by rfl) :
    PD X ct W (.Call (.Name x p) (e :: es) [] pos) (eArgs (fun ds A => starF F ds A) fl) := by
  obtain ⟨f, Fn, hm, hkp⟩ := c.ex
  refine pe_mono (t := fun σ H Q => tL X.K ct W fl σ H fun vs H1 => spS X.K ct F vs H1 Q (WE W σ)) ⟨fun pins s σ H Q I h => wpAny_Call_Name_kw (ld_glob I hg hm ?_ hdb)⟩ fun σ H Q ⟨io, A, ro, s, q⟩ => ?_
  · exact PySem.W.callWith_K (h₀ := X.base) I.ok.mod.kin hkp (thn (ha.run pos pins s σ H _ I h) fun us s1 ⟨vs, H1, I1, r, q⟩ => ⟨I1.kIn, run_S Fn hgd (hr.mono hk) tk I1 r q⟩) he hpl
  · refine ⟨io, A, ro, s, ?_⟩
    cases hf : fl ro A with
    | stk => unfold eArgs at q; rw [hf] at q; exact q.elim
    | err c fs A1 => unfold eArgs at q; rw [hf] at q; exact q
    | ok ds1 A1 =>
      unfold eArgs at q
      rw [hf] at q
      intro vs io1 H1 e1 h1 r1
      exact spS_call h1 r1 (Post.ext e1 q)
theorem pd_callS0 {j : Nat} (c : CalS X.prog X.w X.K X.mg X.base ct k x F) (hgd : X.A.guards = some []) (hr : Room j X.A) (hk : k ≤ j) (hg : Gl X x) (tk : Takes X W) (hdb : (x == ("__debug__" : Str)) = false := by decide) :
    PD X ct W (.Call (.Name x p) [] [] pos) (fun _ A => starF F [] A) := by
  obtain ⟨f, Fn, hm, hkp⟩ := c.ex
  refine pe_mono (t := fun σ H Q => spS X.K ct F [] H Q (WE W σ)) ⟨fun pins s σ H Q I h => wpAny_Call_Name_kw (ld_glob I hg hm ?_ hdb)⟩ fun σ H Q ⟨io, A, ro, s, q⟩ => spS_call s.hr .nil q
  exact PySem.W.callWith_K0 I.kIn hkp (run_S (us := []) (vs := []) Fn hgd (hr.mono hk) tk I .nil h)
end
end DV

set_option Elab.async false
set_option linter.all false
set_option maxRecDepth 100000
set_option maxHeartbeats 4000000
/-! ExO: own exception classes over any built-in error whose facts the kit has: fields stored, instances made. -/
namespace DV
open PySem PySem.Spec PyProof.Rows L2
/-- own classes, then a tail -/
def refsT (tl : List Value) : List Value → Bool
  | .ref _ :: r => refsT tl r
  | l => l == tl
theorem refsT_cases {tl : List Value} : ∀ {l : List Value}, refsT tl l = true → (∃ c r, l = .ref c :: r ∧ refsT tl r = true) ∨ l = tl
  | [], e => .inr (beq_iff_eq.mp e)
  | a :: r, e => by
    cases a with
    | ref c => exact .inl ⟨c, r, rfl, e⟩
    | _ => exact .inr (beq_iff_eq.mp e)
/-- what is true of a tail and stays true when an own class stands before it -/
theorem refsT_ind {tl : List Value} {P : List Value → Prop} (h0 : P tl) (h1 : ∀ c r, P r → P (.ref c :: r)) : ∀ {l : List Value}, refsT tl l = true → P l
  | [], e => by
    rcases refsT_cases e with ⟨c, r, q, _⟩ | q
    · cases q
    · rw [q]; exact h0
  | a :: r, e => by
    rcases refsT_cases e with ⟨c, r', q, h⟩ | q
    · obtain ⟨rfl, rfl⟩ := List.cons.inj q
      exact h1 c r (refsT_ind h0 h1 h)
    · rw [q]; exact h0
/-- a built-in error as a base -/
structure BaseB (B newId initId : String) (tl : List Value) : Prop where
  base : ExcBaseFacts B newId initId tl
  pass : ∀ self : Value, refuseLoop self "__setattr__" tl = pure ()
  kx : PySem.W.KxsFacts B initId
  obj : tl.contains (.type "object") = true
  plain : initId ≠ ""
theorem base_VE : BaseB "ValueError" "ValueError.__new__" "ValueError.__init__" [.type "ValueError", .type "Exception", .type "BaseException", .type "object"] := ⟨PySem.F.excBase_ValueError, PySem.F.store_ValueError.passes, PySem.W.kxs_ValueError, by decide +kernel, by decide⟩
theorem base_AE : BaseB "ArithmeticError" "ArithmeticError.__new__" "ArithmeticError.__init__" [.type "ArithmeticError", .type "Exception", .type "BaseException", .type "object"] := ⟨PySem.F.excBase_ArithmeticError, PySem.F.store_ArithmeticError.passes, PySem.W.kxs_ArithmeticError, by decide +kernel, by decide⟩
theorem base_LE : BaseB "LookupError" "LookupError.__new__" "LookupError.__init__" [.type "LookupError", .type "Exception", .type "BaseException", .type "object"] := ⟨PySem.F.excBase_LookupError, PySem.F.store_LookupError.passes, PySem.W.kxs_LookupError, by decide +kernel, by decide⟩
theorem base_RE : BaseB "RuntimeError" "RuntimeError.__new__" "RuntimeError.__init__" [.type "RuntimeError", .type "Exception", .type "BaseException", .type "object"] := ⟨PySem.F.excBase_RuntimeError, PySem.F.store_RuntimeError.passes, PySem.W.kxs_RuntimeError, by decide +kernel, by decide⟩
section
variable {tl : List Value} {l : List Value}
theorem refsT_pass (hp : ∀ self : Value, refuseLoop self "__setattr__" tl = pure ()) (self : Value) (h : refsT tl l = true) : refuseLoop self "__setattr__" l = pure () :=
  refsT_ind (P := fun l => refuseLoop self "__setattr__" l = pure ()) (hp self) (fun c r q => by rw [refuseLoop_ref]; exact q) h
theorem refsT_has (X : String) (h : refsT tl l = true) : l.contains (.type X) = tl.contains (.type X) :=
  refsT_ind (P := fun l => l.contains (.type X) = tl.contains (.type X)) rfl (fun c r q => by rw [List.contains_cons, q]; rfl) h
theorem refsT_ne (h0 : tl.contains (.type "object") = true) (h : refsT tl l = true) : l.isEmpty = false := by
  have := (refsT_has "object" h).trans h0
  cases l with
  | nil => cases this
  | cons _ _ => rfl
end
/-! ### self.name = v at the machine -/
section
open Builtin Builtin.ObjectAttr PySem.W PySem.Calls
variable {prog : Program} {w : World} {A : Around} {R : Result → Shared → Prop} {hp : Heap} {g : Array GenState} {d : Drawn} {t : Nat} {os : OsState}
variable {K : W.Frag} {name : Str} {tk : Tok} {v : Value} {x C : Addr} {fv : Array Value} {cd : ClassData}
/-- what the store asks of the class -/
structure StoC (K : W.Frag) (C : Addr) (cd : ClassData) : Prop where
  at_ : W.clsIn K C = some cd
  pass : ∀ self : Value, refuseLoop self "__setattr__" cd.mro = pure ()
  ne : cd.mro.isEmpty = false
  obj : cd.mro.contains (.type "object") = true
  dict : cd.hasDict = true
theorem osa_first (X : K.In hp) (hx : hp.get? x = some { cls := .ref C, data := .fields fv }) (S : StoC K C cd) (ha : W.findIn K (.ref C) name = some none)
    (hq : ∀ h' tk' dx, (∀ b o, b ≠ x → hp.get? b = some o → h'.get? b = some o) → hp.objs.size ≤ dx → dx ≠ x → h'.get? x = some { cls := .ref C, dict := some dx, data := .fields fv } →
      h'.Ns1 dx (fun y => if y = name then some v else none) → R (.ok (.ret .none)) ⟨h', g, d, tk', os⟩) :
    codeAny (model prog w) A (.call (.builtin "object.__setattr__") ⟨[.ref x, .str name tk, v], []⟩) R ⟨hp, g, d, t, os⟩ := by
  have I : W.InstAt hp x { cls := .ref C, data := .fields fv } C none := ⟨hx, rfl, rfl, trivial⟩
  have SF := F.store_object
  have hxs : x ≠ hp.objs.size := Nat.ne_of_lt (Heap.lt_size hx)
  have sub : W.Looks (model prog w) hp (isInstance (.ref x) (.type "object")) true := I.type.andThen (W.looks_mroIn X (by unfold W.mroIn; rw [S.at_, Option.bind_some, if_neg (by rw [S.ne]; decide), S.obj]))
  refine codeAny_call_builtin SF.slot.plain SF.entry (@W.check_slot (model prog w) _ _ ⟨hp, g, d, t, os⟩ "object.__setattr__" "object" "__setattr__" (.ref x) [.str name tk, v] [] _ SF.kind SF.split sub (SF.args (.ref x) (.str name tk) v) ?_)
  have hmr : W.Looks (model prog w) hp (mroOf (.ref C)) cd.mro := (W.looks_clsIn X S.at_).andThen .now
  have L3 : W.Looks (model prog w) hp (storeTaker? none) none := .now
  have hcls : W.Looks (model prog w) hp (classData C) cd := W.looks_clsIn X S.at_
  have hps := S.pass
  have hh := S.dict
  rw [W.osa_eq, refuse_eq]
  refine wpAny_bind (wpAny_bind (I.type.at (wpAny_bind (hmr.at ?_))))
  rw [hps]
  refine wpAny_pure (wpAny_bind (I.type.at (wpAny_bind ((W.looks_findIn X ha).at (wpAny_bind (L3.at ?_))))))
  show wpAny _ _ (storeInOwnDict (.ref x) (.ref C) (.str name tk) name v false) _ _ _
  obtain ⟨nm, bs, mro, ns, qn, hd, sn, sb, ab, col, del⟩ := cd
  dsimp only at hh
  subst hh
  unfold storeInOwnDict ownDictForStores
  repeat (first | with_reducible refine PySem.HandSPX.store_in_new ?_ ?_ | with_reducible refine wpAny_loadPart_at hx ?_ | with_reducible refine hcls.at ?_ | wp_step)
  · exact ⟨_, #[], _, (Heap.get?_update_ne _ _ _ _ hxs.symm).trans (Heap.get?_push_at rfl rfl), rfl, fun e he => absurd he (by simp), fun _ => rfl⟩
  · intro h' tk' hn' hs
    have hx₁ : (hp.push { cls := .type "dict", data := .dict #[] }).get? x = some { cls := .ref C, data := .fields fv } := Heap.get?_push_of_some _ hx
    refine hq h' tk' hp.objs.size (fun b o hb ho => ?_) (Nat.le_refl _) hxs.symm ?_ hn'
    · exact (hs.2 b (Nat.ne_of_lt (Heap.lt_size ho))).trans ((Heap.get?_update_ne _ _ _ _ hb).trans (Heap.get?_push_of_some _ ho))
    · exact (hs.2 x hxs).trans (Heap.get?_update_self _ hx₁ rfl)
theorem osa_more {dx : Addr} {m0 : Str → Option Value} {nl : List Str}
    (X : K.In hp) (hx : hp.get? x = some { cls := .ref C, dict := some dx, data := .fields fv }) (hns : hp.Ns1 dx m0) (hw : Within m0 nl) (hz : nl.length ≤ 1000) (S : StoC K C cd)
    (ha : W.findIn K (.ref C) name = some none)
    (hq : ∀ h' tk', (∀ b o, b ≠ dx → hp.get? b = some o → h'.get? b = some o) → h'.Ns1 dx (fun y => if y = name then some v else m0 y) → R (.ok (.ret .none)) ⟨h', g, d, tk', os⟩) :
    codeAny (model prog w) A (.call (.builtin "object.__setattr__") ⟨[.ref x, .str name tk, v], []⟩) R ⟨hp, g, d, t, os⟩ := by
  obtain ⟨oD, esD, epD, hoD, hdD, _⟩ := hns.count hw
  have I : W.InstAt hp x { cls := .ref C, dict := some dx, data := .fields fv } C (some oD) := ⟨hx, rfl, rfl, hoD⟩
  have SF := F.store_object
  have sub : W.Looks (model prog w) hp (isInstance (.ref x) (.type "object")) true := I.type.andThen (W.looks_mroIn X (by unfold W.mroIn; rw [S.at_, Option.bind_some, if_neg (by rw [S.ne]; decide), S.obj]))
  refine codeAny_call_builtin SF.slot.plain SF.entry (@W.check_slot (model prog w) _ _ ⟨hp, g, d, t, os⟩ "object.__setattr__" "object" "__setattr__" (.ref x) [.str name tk, v] [] _ SF.kind SF.split sub (SF.args (.ref x) (.str name tk) v) ?_)
  have hmr : W.Looks (model prog w) hp (mroOf (.ref C)) cd.mro := (W.looks_clsIn X S.at_).andThen .now
  have L3 : W.Looks (model prog w) hp (storeTaker? none) none := .now
  have hcls : W.Looks (model prog w) hp (classData C) cd := W.looks_clsIn X S.at_
  have hps := S.pass
  have hh := S.dict
  rw [W.osa_eq, refuse_eq]
  refine wpAny_bind (wpAny_bind (I.type.at (wpAny_bind (hmr.at ?_))))
  rw [hps]
  refine wpAny_pure (wpAny_bind (I.type.at (wpAny_bind ((W.looks_findIn X ha).at (wpAny_bind (L3.at ?_))))))
  show wpAny _ _ (storeInOwnDict (.ref x) (.ref C) (.str name tk) name v false) _ _ _
  obtain ⟨nm, bs, mro, ns, qn, hd, sn, sb, ab, col, del⟩ := cd
  dsimp only at hh
  subst hh
  unfold storeInOwnDict ownDictForStores
  repeat (first | with_reducible refine PySem.OEX.store_in_old hns hw hz ?_ | with_reducible refine wpAny_loadPart_at hx ?_ | with_reducible refine hcls.at ?_ | wp_step)
  intro h' tk' hn' hs
  exact hq h' tk' (fun b o hb ho => (hs.2 b hb).trans ho) hn'
end
/-! ### by the abstract heap -/
/-- what the written part says of the class -/
structure OexG (K : PySem.W.Frag) (C : Addr) (newId : String) (tl : List Value) : Prop where
  cls : ∃ nm q N bs bm sn sub ab col dd k0 k1 k2 k3 k5, K.lookup C = some (excClassObj nm q C N bs bm true sn sub ab col dd k0 k1 k2 k3 k5 newId) ∧ refsT tl bm = true
  sa : PySem.W.findIn K (.ref C) "__setattr__" = some (some (.builtin "object.__setattr__"))
  exC : PySem.W.subIn K (.ref C) (.type "BaseException") = some true
  tyC : PySem.W.typeIn K (.ref C) = some (.type "type")
  kC : PySem.W.keepIn K (.ref C) = true
def OexB (K : PySem.W.Frag) (C : Addr) : Prop := ∃ B newId initId tl, BaseB B newId initId tl ∧ OexG K C newId tl
theorem OexG.sto {K : PySem.W.Frag} {C : Addr} {B newId initId : String} {tl : List Value} (T : OexG K C newId tl) (Bb : BaseB B newId initId tl) : ∃ cd, StoC K C cd := by
  obtain ⟨nm, q, N, bs, bm, sn, sub, ab, col, dd, k0, k1, k2, k3, k5, hC, hbm⟩ := T.cls
  have hm : refsT tl (.ref C :: bm) = true := hbm
  exact ⟨{ name := nm, bases := bs, mro := .ref C :: bm, ns := N, qualname := q, hasDict := true, slotNames := sn, subclasses := sub, abstract := ab, collection := col, hasDel := false },
    by unfold PySem.W.clsIn; rw [hC] <;> rfl, fun self => refsT_pass Bb.pass self hm, rfl, (refsT_has "object" hm).trans Bb.obj, rfl⟩
section
variable {X : Cx} {pins : List (Addr × Obj)} {σ : L2.St} {H : Hp} {s : Shared} {a C dx : Addr} {f : Str} {y : V} {u : Value} {fs : List (Str × V)} {Q : Unit → Shared → Prop} {E : Value → Shared → Prop} {A : Around}
theorem stoB_new (T : OexB X.K C) (I : Inv X pins σ H s) (e : H a = some (exo a C none)) (hno : PySem.W.findIn X.K (.ref C) f = some none) (ry : RelV y u)
    (h : ∀ dx s', H dx = none → dx ≠ a → Inv X pins σ (upd (upd H dx (exd dx [(f, y)])) a (exo a C (some dx))) s' → Q () s') : wpAny (model X.prog X.w) A (setAttr (.ref a) f u) Q E s := by
  obtain ⟨B, newId, initId, tl, Bb, T⟩ := T
  obtain ⟨cd, S⟩ := T.sto Bb
  obtain ⟨t1, ho⟩ := exo_at I.hok e
  obtain ⟨hp, g, d, t, os⟩ := s
  refine PySem.W.set_plain I.kIn (ox := { cls := .ref C, dict := none, data := .fields #[.ref t1, .none, .none, .none, .bool false, .none] }) (od := none) ⟨ho, rfl, rfl, trivial⟩ T.sa ?_
  refine osa_first I.kIn ho S hno fun h' tk' dx k dn dne hx hn => ?_
  have hnd : H dx = none := I.hok.fresh dn
  have nd : ∀ {b : Addr} {o : Obj}, hp.get? b = some o → b ≠ dx := fun {b o} q => Nat.ne_of_lt (Nat.lt_of_lt_of_le (Heap.lt_size q) dn)
  have na : ∀ {b : Addr}, H b = none → b ≠ a := fun {b} n z => by
    rw [z, e] at n
    cases n
  have off : ∀ {b : Addr} {o : HO}, H b = some o → o ≠ exo a C none → upd (upd H dx (exd dx [(f, y)])) a (exo a C (some dx)) b = some o := fun {b o} q ne => by
    have hb : b ≠ a := fun z => by
      rw [z, e] at q
      exact ne (Option.some.inj q).symm
    have hd : b ≠ dx := fun z => by
      rw [z, hnd] at q
      cases q
    rw [upd_ne hb, upd_ne hd]
    exact q
  have Un1 : Un X.fs [] H (upd (upd H dx (exd dx [(f, y)])) a (exo a C (some dx))) hp h' := {
    keep := fun b o q n _ _ => k b o (na n) q
    slot := fun b o q n _ _ => ⟨o.slots, k b o (na n) q⟩
    free := fun b o q n _ => by rw [upd_ne (na n), upd_ne (nd q)]; exact n
    there := fun b o q _ => by
      by_cases hb : b = a
      · exact ⟨_, by rw [hb]; exact hx⟩
      · exact ⟨o, k b o hb q⟩
    tups := fun b xs q => off q (Ne.symm exo_tup)
    frzs := fun b o v q => off q (Ne.symm exo_frz)
    tbls := fun b ps q => ⟨#[], by rw [off q (Ne.symm exo_tbl)]; simp⟩ }
  refine h dx _ hnd dne (I.un (t' := tk') Un1 fun b o q => ?_)
  by_cases hb : b = a
  · subst hb
    rw [upd_same] at q
    cases q
    exact exo_ok hx
  · rw [upd_ne hb] at q
    by_cases hd : b = dx
    · subst hd
      rw [upd_same] at q
      cases q
      exact exd_ok hn (relO_put (fs := []) ry fun g => True.intro)
    · rw [upd_ne hd] at q
      exact (I.hok b o q).stay (fun c v hc z => k c v (by
          rcases hc with hc | hc
          · rw [hc]
            exact hb
          · exact at_ne e hc exo_own) z)
        (fun c hc => off hc (Ne.symm exo_own)) (fun c xs hc => off hc (Ne.symm exo_tup))
theorem stoB_old (T : OexB X.K C) (I : Inv X pins σ H s) (e : H a = some (exo a C (some dx))) (ed : H dx = some (exd dx fs)) (hl : fs.length ≤ 900) (hno : PySem.W.findIn X.K (.ref C) f = some none) (ry : RelV y u)
    (h : ∀ s', Inv X pins σ (upd H dx (exd dx ((f, y) :: fs))) s' → Q () s') : wpAny (model X.prog X.w) A (setAttr (.ref a) f u) Q E s := by
  obtain ⟨B, newId, initId, tl, Bb, T⟩ := T
  obtain ⟨cd, S⟩ := T.sto Bb
  obtain ⟨t1, ho⟩ := exo_at I.hok e
  obtain ⟨mA, hns, rel⟩ := exd_at I.hok ed
  have hw := within_of rel
  obtain ⟨hp, g, d, t, os⟩ := s
  obtain ⟨oD, _, _, hoD, _, _⟩ := hns.count hw
  refine PySem.W.set_plain I.kIn (ox := { cls := .ref C, dict := some dx, data := .fields #[.ref t1, .none, .none, .none, .bool false, .none] }) (od := some oD) ⟨ho, rfl, rfl, hoD⟩ T.sa ?_
  refine osa_more I.kIn ho hns hw (by rw [List.length_map]; omega) S hno fun h' tk' k hn => ?_
  obtain ⟨o', _, _, e', _⟩ := id hn
  exact h _ (I.write (t' := tk') (x := dx) (e := dx) (o := exd dx ((f, y) :: fs)) (by rw [ed]; exact True.intro) (.inl rfl) k ⟨o', e'⟩ (exd_ok hn (relO_put ry rel)))
end
/-- self.f = e -/
def tStoB (K : PySem.W.Frag) (f : Str) (to te : TE) : TS := fun D σ H => te σ H fun y H1 => to σ H1 fun x H2 => ∃ a C : Addr, x = .ref a ∧ OexB K C ∧ PySem.W.findIn K (.ref C) f = some none ∧
  ((H2 a = some (exo a C none) ∧ ∀ dx, H2 dx = none → dx ≠ a → D.nx σ (upd (upd H2 dx (exd dx [(f, y)])) a (exo a C (some dx)))) ∨
    ∃ (dx : Addr) (fs : List (Str × V)), H2 a = some (exo a C (some dx)) ∧ H2 dx = some (exd dx fs) ∧ fs.length ≤ 900 ∧ D.nx σ (upd H2 dx (exd dx ((f, y) :: fs))))
section
variable {X : Cx} {o e : Expr} {es : List Expr} {to te : TE} {ta : TA} {f : Str} {p p' p1 p2 pos : Pos}
theorem ps_stoB (ho : PE X o to) (he : PE X e te) (hs : swapsWith e (some (.Attribute o f p')) pos.line X.env = pure false := by rfl) : PS X (.Assign [.Attribute o f p'] e pos) (tStoB X.K f to te) := by
  refine ⟨fun pins s σ H D I h => ?_⟩
  refine plainObj_wpAny_Assign_Attribute (thn (he.run pins s σ H _ I h) fun v s1 ⟨y, H1, I1, r1, q1⟩ => thn (ho.run pins s1 σ H1 _ I1 q1) fun u s2 ⟨x, H2, I2, r2, a, C, ex, T, hno, q⟩ => ?_) hs
  subst ex
  obtain rfl : u = Value.ref a := r2
  rcases q with ⟨ea, q⟩ | ⟨dx, fs, ea, ed, hl, q⟩
  · exact stoB_new T I2 ea hno r1 fun dx s' n ne J => ⟨σ, _, J, q dx n ne⟩
  · exact stoB_old T I2 ea ed hl hno r1 fun s' J => ⟨σ, _, J, q⟩
/-- C(e, ..): what is left when the arguments are there -/
theorem mkB_call {CX : CXT} {C fI : Addr} {k : Nat} {fd : FuncData} {ps : List Str} {sp : Sp} {ds us : List Value} {dvs vs : List V} {pins : List (Addr × Obj)} {σ : L2.St} {H1 : Hp} {hp : Heap} {g : Array GenState} {dr : Drawn} {tk : Nat} {os : OsState} {R : Value → Shared → Prop} {Q : V → Hp → Prop}
    (T : OexB X.K C) (iC : PySem.W.findIn X.K (.ref C) "__init__" = some (some (.ref fI))) (tI : PySem.W.typeIn X.K (.ref fI) = some (.type "function"))
    (F1 : FnOk X.prog X.w X.K X.mg X.base CX k fI fd ps sp) (hr : Room (k + 1) X.A) (hb : Binds X.K fd ps ds) (hd : Vals dvs ds) (I1 : Inv X pins σ H1 ⟨hp, g, dr, tk, os⟩) (r1 : Vals vs us) (hz : vs.length ≤ 1000)
    (hq : sp (.ref (hp.objs.size + 1) :: (vs ++ dvs)) (upd H1 (hp.objs.size + 1) (exo (hp.objs.size + 1) C none)) Q (fun _ _ _ => False))
    (hx : Passes CX X (fun _ _ _ => False))
    (done : ∀ (u : Value) (v : V) (H2 : Hp) (s' : Shared), RelV v u → Q v H2 → (∀ b o, hp.get? b = some o → ((hp.push (PySem.W.kdv_tup us)).push (PySem.HandSPX.excO C hp.objs.size)).get? b = some o) →
      s'.os = os → AllBare s'.gens → Un (frs X.stack) [] (upd H1 (hp.objs.size + 1) (exo (hp.objs.size + 1) C none)) H2 ((hp.push (PySem.W.kdv_tup us)).push (PySem.HandSPX.excO C hp.objs.size)) s'.heap → HOk X.prog X.w H2 s'.heap → u = .none → R (.ref (hp.objs.size + 1)) s')
    (vnon : ∀ v H2, Q v H2 → v = .non) :
    wpAny (model X.prog X.w) X.A (call (.ref C) us) R X.xe ⟨hp, g, dr, tk, os⟩ := by
  obtain ⟨B, newId, initId, tl, Bb, T⟩ := T
  obtain ⟨nm, q, N, bs, bm, sn, sub, ab, col, dd, k0, k1, k2, k3, k5, hC, hbm⟩ := T.cls
  have hsz : hp.objs.size ≤ hp.objs.size + 1 := Nat.le_succ _
  have kk : ∀ b o, hp.get? b = some o → ((hp.push (PySem.W.kdv_tup us)).push (PySem.HandSPX.excO C hp.objs.size)).get? b = some o := fun b o e => Heap.get?_push_of_some _ (Heap.get?_push_of_some _ e)
  have hget : ((hp.push (PySem.W.kdv_tup us)).push (PySem.HandSPX.excO C hp.objs.size)).get? (hp.objs.size + 1) = some (PySem.HandSPX.excO C hp.objs.size) := by heap_get
  have I2 : Inv X pins σ (upd H1 (hp.objs.size + 1) (exo (hp.objs.size + 1) C none)) ⟨(hp.push (PySem.W.kdv_tup us)).push (PySem.HandSPX.excO C hp.objs.size), g, dr, tk, os⟩ :=
    I1.laid (t' := tk) (a := hp.objs.size + 1) (o := exo (hp.objs.size + 1) C none) kk hsz (exo_ok hget)
  have r2 : Vals (V.ref (hp.objs.size + 1) :: (vs ++ dvs)) (Value.ref (hp.objs.size + 1) :: (us ++ ds)) := .cons rfl (r1.append hd)
  have hl : (Value.ref (hp.objs.size + 1) :: us ++ ds).length = ps.length := by
    have e := r2.length
    rw [F1.len _ _ _ _ hq] at e
    exact e.symm
  have hus : us.length ≤ sizeLine := by
    rw [← Paired.length r1, sizeLine_eq]
    omega
  refine wpAny_call (PySem.HandSPX.call_own Bb.base (fun Y => refsT_has Y hbm) (I1.kIn _ _ hC) (PySem.W.looks_findIn I1.kIn iC) (fun self => PySem.W.bind_fn I1.kIn self tI) hus
    (codeAny_mono (F1.run _ X.stack _ _ ⟨Value.ref (hp.objs.size + 1) :: us, []⟩ (Value.ref (hp.objs.size + 1) :: (us ++ ds)) _ _ (fun _ _ _ => False) (hr.make C us []) (I2.env0.make C us []) (hb _ (Value.ref (hp.objs.size + 1) :: us) I2.kIn hl) r2 hq) fun r s' hq' => ?_))
  cases r with
  | error er => exact hx pins σ _ _ er s' I2 hq'
  | ok fl =>
    cases fl with
    | ret u =>
      obtain ⟨v, H2, os2, bare2, un2, hok2, rv, qv⟩ := hq'
      have ev := vnon v H2 qv
      subst ev
      exact ⟨rv, done u .non H2 s' rv qv kk os2 bare2 un2 hok2 rv⟩
    | next => exact False.elim hq'
    | brk => exact False.elim hq'
    | cont => exact False.elim hq'
theorem pmkB {CX : CXT} {x : Str} {C fI : Addr} {k : Nat} {fd : FuncData} {ps : List Str} {sp : Sp} {ds : List Value} {dvs : List V} (T : OexB X.K C) (iC : PySem.W.findIn X.K (.ref C) "__init__" = some (some (.ref fI))) (tI : PySem.W.typeIn X.K (.ref fI) = some (.type "function"))
    (F1 : FnOk X.prog X.w X.K X.mg X.base CX k fI fd ps sp) (hr : Room (k + 1) X.A) (hb : Binds X.K fd ps ds) (hd : Vals dvs ds) (hx : Passes CX X (fun _ _ _ => False)) (hg : Gl X x) (hm : X.mg x = some (.ref C)) (ha : PA X (e :: es) ta)
    (hdb : (x == ("__debug__" : Str)) = false := by decide) (he : starEach (e :: es) X.env = (false, eval e X.env) :: starEach es X.env := by rfl) (hpl : (backTo pos (starEach es X.env)).any (·.1) = false := by rfl) :
    PMk X (.Call (.Name x p) (e :: es) [] pos) (tMkO C sp dvs ta) := by
  intro pins s σ H Q I h
  obtain ⟨B, newId, initId, tl, Bb, T0⟩ := id T
  refine wpAny_Call_Name_kw (ld_glob I hg hm ?_ hdb)
  refine PySem.W.callWith_K (h₀ := X.base) I.ok.mod.kin T0.kC (thn (ha.run pos pins s σ H _ I h) fun us s1 ⟨vs, H1, I1, r1, hz, q1⟩ => ⟨I1.kIn, ?_⟩) he hpl
  show wpAny _ _ (call (.ref C) us) _ _ _
  obtain ⟨hp, g, dr, tk, os⟩ := s1
  have hsz : hp.objs.size ≤ hp.objs.size + 1 := Nat.le_succ _
  refine mkB_call T iC tI F1 hr hb hd I1 r1 hz (q1 (hp.objs.size + 1) (I1.hok.fresh hsz)) hx (fun u v H2 s' rv qv kk os2 bare2 un2 hok2 eu => ?_) fun v H2 qv => qv.1
  obtain ⟨ev, d, fs, ea, ed, hd1, q2⟩ := qv
  obtain ⟨h2, g2, d2, t2, os'⟩ := s'
  exact mk_end (raises_own T0.exC T0.tyC) I1 hsz kk un2 hok2 os2 bare2 ea ed hd1 q2
end
end DV

set_option Elab.async false
set_option linter.all false
set_option maxRecDepth 100000
set_option maxHeartbeats 1000000
/-! ExA: an own exception's __init__ that says super().__init__(text). -/
namespace DV
open PySem PySem.Spec PyProof.Rows L2 NdefX

/-- what the written part says of the class C and of its __init__ at f -/
structure SupC (P : Program) (K : PySem.W.Frag) (B initId : String) (C f : Addr) (F : NF) (slf : Str) : Prop where
  fn : ∃ oc od doc pm ctv osl, K.lookup f = some ⟨oc, od, .func (F.fd doc pm ctv), osl⟩
  first : ∃ ar : Arg, (F.params.posonlyargs ++ F.params.args).head? = some ar ∧ ar.arg = slf
  code : ∃ ccl cdd vs ccs file tf, K.lookup F.c = some ⟨ccl, cdd, .fields vs, ccs⟩ ∧ vs[2]? = some (.str file tf) ∧ ((P.main.file : Str) == file) = true
  cell : ∃ cc, F.cl = [(("__class__" : Str), cc)] ∧ ∃ cl cld csl, K.lookup cc = some ⟨cl, cld, .cell (some (.ref C)), csl⟩
  sup : PySem.W.ks_superIn K C C "__init__" = some (some (.builtin initId))
  sub : PySem.W.subIn K (.ref C) (.type B) = some true
  mro : PySem.W.mroIn K C (.ref C) = some true
  opq : PySem.W.nsIn K cStatics "thirdparty.any" = some none
  top : (P.main.scope.names.lookup ("super" : Str)).isSome = false
  ks : F.scope.names.lookup ("super" : Str) = some NameKind.globalImplicit
  kc : F.scope.names.lookup ("__class__" : Str) = some NameKind.free
  ka : F.scope.names.lookup slf = some NameKind.local

/-- super().__init__(text), as a statement -/
def supSt (p0 p1 p2 p3 p4 cp : Pos) (txt : Str) (j : Nat) : Stmt := .Expr (.Call (.Attribute (.Call (.Name "super" p0) [] [] p1) "__init__" p2) [.Constant (.str txt) j cp] [] p3) p4
section
variable {X : Cx} {pins : List (Addr × Obj)} {σ : L2.St} {H : Hp} {s : Shared} {a C f L : Addr} {F : NF} {self : Str} {p0 p1 p2 p3 p4 cp : Pos} {txt : Str} {j : Nat} {B newId initId : String} {tl : List Value}
theorem sup_first (Bb : BaseB B newId initId tl) (S : SupC X.prog X.K B initId C f F self) (T : OexG X.K C newId tl) (hE : X.env = envF F f L) (hm : X.mg "super" = none) (I : Inv X pins σ H s) (hN : X.N[0]? = some self) (h0 : σ[0]? = some (some (.ref a))) (ea : H a = some (exo a C none)) {pl : Sem Bool}
    (he : eval (.Call (.Attribute (.Call (.Name "super" p0) [] [] p1) "__init__" p2) [.Constant (.str txt) j cp] [] p3) X.env = (do
      let ov ← attributeBase (.Call (.Name "super" p0) [] [] p1) "__init__" X.env (eval (.Call (.Name "super" p0) [] [] p1) X.env)
      standAt p2.atName
      let (f, first) ← holding [ov] (getMethod ov "__init__" pl)
      callWith p3 f first (backTo p3 (starEach [.Constant (.str txt) j cp] X.env)) [])) :
    PySem.wpAt (model X.prog X.w) X.A (.func F.body X.env) (exec (supSt p0 p1 p2 p3 p4 cp txt j) X.env) (fun fl s' => fl = .next ∧ Inv X pins σ H s') X.xe s := by
  obtain ⟨oc, od, doc, pm, ctv, osl, hf⟩ := S.fn
  obtain ⟨ar, hp, har⟩ := S.first
  obtain ⟨ccl, cdd, vs, ccs, file, tf, hcode, hvs, hfile⟩ := S.code
  obtain ⟨cc, hcl, cl', cld, csl, hcell⟩ := S.cell
  obtain ⟨nm, q, N, bs, bm, sn, sub, ab, col, dd, k0, k1, k2, k3, k5, hC, hbm⟩ := T.cls
  have hcls : PySem.W.clsIn X.K C = some { name := nm, bases := bs, mro := .ref C :: bm, ns := N, qualname := q, hasDict := true, slotNames := sn, subclasses := sub, abstract := ab, collection := col, hasDel := false } := by unfold PySem.W.clsIn; rw [hC] <;> rfl
  have ek : ∀ y, X.env.kindOf y = F.scope.names.lookup y := fun y => by rw [hE]; rfl
  have kK := I.kIn
  obtain ⟨mb, hb1, hb2⟩ := I.mod.blt
  obtain ⟨t1, ho⟩ := exo_at I.hok ea
  obtain ⟨m, hns, hl⟩ := id I.loc
  obtain ⟨u, ru, hlk⟩ := hl 0 self (.ref a) hN h0 (.inl (by rw [hE]; exact S.ka))
  obtain rfl : u = Value.ref a := ru
  have hself : m self = some (.ref a) := by
    rcases hlk with ⟨_, e⟩ | ⟨e, _⟩
    · exact e
    · rw [ek, S.ka] at e
      rcases e with e | e <;> cases e
  obtain ⟨hp', g, d, t, os⟩ := s
  refine PySem.ks_wpAt_Expr_any (PySem.ks_wpAt_MethodCall (pl := pl) ?_ he) I.quiet rfl
  refine PySem.ks_wpAt_super_base (f := f) (cc := F.c) (fd := F.fd doc pm ctv) (by rw [ek]; exact S.ks) (by rw [ek]; exact S.kc) (by decide) (by rw [hE]) (kK _ _ hf) rfl hp (by rw [hE]) (kK _ _ hcode) rfl hvs hfile S.top ?_
  refine PySem.W.ks_loadName_global I.ok.kind (by rw [ek]; exact S.ks) (Calls.loadGlobal_builtin (by rw [I.ok.glob]; exact I.mod.glob.keeps I.bk) hm (by rw [I.ok.blt]; exact hb1.keeps I.bk) ((hb2 _ (by decide)).trans (show bootBuiltins "super" = some (.type "super") by boot_by_name)) ⟨rfl, ?_⟩)
  refine wpAny_loadName_free I.ok.kind (by rw [ek]; exact S.kc) (by rw [hE]; show F.cl.lookup _ = some cc; rw [hcl]; rfl) ⟨_, kK _ _ hcell, rfl⟩ ?_
  rw [har]
  refine wpAny_loadName_local I.ok.kind (by rw [ek]; exact S.ka) hns hself ?_
  refine PySem.ks_wpAny_isType_cls (kK _ _ hC) rfl ⟨rfl, ?_⟩
  refine PySem.ks_wpAny_call_super (kK _ _ hC) rfl ho rfl (fun c e => by cases e) (PySem.W.looks_mroIn kK S.mro) (fun h' e k => ?_)
  have I2 : Inv X pins σ H ⟨h', g, d, t, os⟩ := I.kept (t' := t) k
  have hI : PySem.W.Looks (model X.prog X.w) h' (isInstance (.ref a) (.type B)) true := (PySem.W.InstAt.type (h := h') (ox := { cls := .ref C, dict := none, data := .fields #[.ref t1, .none, .none, .none, .bool false, .none] }) (od := none) ⟨k _ _ ho, rfl, rfl, trivial⟩).andThen (PySem.W.looks_subIn I2.kIn S.sub)
  have hne : a ≠ C := fun z => by
    have := kK _ _ hC
    rw [← z, ho] at this
    cases this
  have hsup : PySem.W.alongIn X.K "__init__" (((Value.ref C :: bm).dropWhile (· != .ref C)).drop 1) = some (some (.builtin initId)) := by
    have := S.sup
    unfold PySem.W.ks_superIn at this
    rw [hcls] at this
    exact this
  refine PySem.W.kxs_getMethod Bb.kx e (PySem.W.looks_opaque I2.kIn S.opq) (l₀ := .ref C :: bm) (fun A Q E s k q => wpAny_bind ((PySem.W.looks_clsIn I2.kIn hcls) A _ E s k (wpAny_pure q))) rfl I2.kIn hsup hI hne (by decide) ?_
  have I3 : Inv X pins σ H ⟨h'.push (PySem.W.kxs_mw initId a), g, d, t + 1, os⟩ := I2.kept (t' := t + 1) (fun b u q => Heap.get?_push_of_some _ q)
  have hu : (h'.push (PySem.W.kxs_mw initId a)).get? h'.objs.size = some (PySem.W.kxs_mw initId a) := Heap.get?_push_size _ rfl
  refine PySem.W.kxs_callWith (i := initId) (x := a) rfl ?_
  show wpAny _ _ (evalArgs (.ref h'.objs.size) true ((false, eval (.Constant (.str txt) j cp) X.env) :: []) []) _ _ _
  refine Calls.evalArgs_plain (Calls.spliced_cons (Calls.Constant_str (Calls.spliced_nil ⟨hu, ?_⟩)))
  show wpAny _ _ (call (.ref h'.objs.size) [_]) _ _ _
  have ho3 : (h'.push (PySem.W.kxs_mw initId a)).get? a = some ({ cls := .ref C, dict := none, data := .fields #[.ref t1, .none, .none, .none, .bool false, .none] } : Obj) := Heap.get?_push_of_some _ (k _ _ ho)
  refine wpAny_call (codeAny_of_tree ?_)
  show wpAny _ _ (callAny (.ref h'.objs.size) ⟨[_], []⟩) _ _ _
  simp only [callAny]
  refine wpAny_bind (wpAny_load hu ?_)
  simp only [PySem.W.kxs_mw, show (Value.type "method-wrapper" == Value.type "method" || Value.type "method-wrapper" == Value.type "builtin_function_or_method" || Value.type "method-wrapper" == Value.type "method-wrapper") = true by decide, if_true]
  refine PySem.W.KFB.if_so (by decide) ?_
  refine wpAny_bind (PySem.W.check_bound_init Bb.base.toExcCallFacts (I3.kIn _ _ hC) ho3 rfl ?_)
  refine wpAny_bind (wpAny_pure (wpAny_pure ?_))
  refine ⟨plainId_quiet Bb.base.init.plain _, codeAny_builtin Bb.base.initEntry ?_⟩
  refine PySem.W.exc_init_tree (cls := .ref C) (t0 := t1) (dv := none) (c2 := .none) (c3 := .none) (b4 := .bool false) ho3 (by show 1 ≤ sizeLine; have := sz1000; omega) (fun h4 k4 hx _ => ?_)
  have J := I3.write (h' := h4) (t' := t + 1 + 1) (x := a) (e := a) (o := exo a C none) (by rw [ea]; exact True.intro) (.inl rfl) k4 ⟨_, hx⟩ (exo_ok hx)
  have eu : upd H a (exo a C none) = H := by
    funext b
    by_cases hb : b = a
    · rw [hb, upd_same, ea]
    · rw [upd_ne hb]
  rw [eu] at J
  exact ⟨trivial, J⟩
end
/-- __init__ by its statements behind super().__init__ -/
theorem supOk {P : Program} {w : World} {K : PySem.W.Frag} {mg : Str → Option Value} {base : Heap} {N ps' : List Str} {C f : Addr} {F : NF} {slf : Str} {k : Nat} {oc : Value} {od : Option Addr} {doc pm ctv : Value} {osl : Array (Option Value)} {p0 p1 p2 p3 p4 cp : Pos} {txt : Str} {j : Nat} {rest : List Stmt} {tr : TS} {pl : PySem.Env → Sem Bool}
    {B newId initId : String} {tl : List Value} (Bb : BaseB B newId initId tl) (S : SupC P K B initId C f F slf) (T : OexG K C newId tl) (hfd : K.lookup f = some ⟨oc, od, .func (F.fd doc pm ctv), osl⟩) (NS : NScope N (slf :: ps') ["__class__"] F.scope) (hm : mg "super" = none) (hcd : PySem.W.codeIn K (.ref F.c) F.qual = true) (hbody : F.body = supSt p0 p1 p2 p3 p4 cp txt j :: rest)
    (he : ∀ env : PySem.Env, eval (.Call (.Attribute (.Call (.Name "super" p0) [] [] p1) "__init__" p2) [.Constant (.str txt) j cp] [] p3) env = (do
      let ov ← attributeBase (.Call (.Name "super" p0) [] [] p1) "__init__" env (eval (.Call (.Name "super" p0) [] [] p1) env)
      standAt p2.atName
      let (f, first) ← holding [ov] (getMethod ov "__init__" (pl env))
      callWith p3 f first (backTo p3 (starEach [.Constant (.str txt) j cp] env)) []))
    (hrest : ∀ (A : Around) (outer : List PySem.Env) (s : Shared) (H : Hp) (E : XK), PSs (ncx (L2.CX P w) P w K mg base N F f A outer s H E) rest tr) :
    FnOk P w K mg base (L2.CX P w) (k + 1) f (F.fd doc pm ctv) (slf :: ps') (fun vs H Q E => vs.length = (slf :: ps').length ∧ ∃ a ws, vs = .ref a :: ws ∧ H a = some (exo a C none) ∧ tr { nx := fun _ H' => Q .non H', rt := Q } (startF N vs [some (.ref C)]) H) := by
  refine ⟨fun vs H Q E h => h.1, fun A outer s H args us vs Q E hr e0 hb r hsp => ?_⟩
  obtain ⟨hl, a, ws, ev, ea, ht⟩ := hsp
  have KX : K.In s.heap := e0.mod.kin.keeps (fun b o e => (e0.bs b o e).1)
  have lim : s.heap.NoLimit := e0.mod.nolimit.keeps fun b o e => (e0.bs b o e).1
  refine codeAny_call_function hr.depth (KX _ _ hfd) rfl NS.co NS.gen rfl (PySem.W.codeRec_of KX hcd) (hb _ _ _ _ ?_)
  refine wpAny_newFunctionEnv NS.nocell (fun ⟨n, _⟩ hy => NS.par n (List.of_mem_zip hy).1) (fun h₁ hns hsb => ⟨lim.fresh _ hsb, ?_⟩) NS.kind
  show codeAny _ _ (.func F.body (envF F f s.heap.objs.size)) _ _
  refine ks_codeAny_funcAt ?_
  have kp : ∀ b o, s.heap.get? b = some o → h₁.get? b = some o := fun b o e => hsb.extBut b o (Nat.ne_of_lt (Heap.lt_size e)) (Heap.get?_push_of_some _ e)
  obtain ⟨cc, hcl, cl', cld, csl, hcell⟩ := S.cell
  have CA : CellsAt F.cl ["__class__"] [some (.ref C)] s.heap H := by
    have look : ∀ y c, F.cl.lookup y = some c → y = "__class__" ∧ c = cc := fun y c e => by
      rw [hcl] at e
      by_cases q : y = ("__class__" : Str)
      · subst q
        refine ⟨rfl, ?_⟩
        have : ([(("__class__" : Str), cc)] : List (Str × Addr)).lookup ("__class__" : Str) = some cc := rfl
        rw [this] at e
        exact (Option.some.inj e).symm
      · have : ([(("__class__" : Str), cc)] : List (Str × Addr)).lookup y = none := by
          have q2 : (y == ("__class__" : Str)) = false := by simpa using q
          simp [List.lookup, q2]
        rw [this] at e
        cases e
    refine ⟨rfl, fun y c e => ?_, fun x y c e1 e2 => ?_, fun i y hi => ?_⟩
    · obtain ⟨_, rfl⟩ := look y c e
      exact ⟨(e0.bs _ _ (e0.mod.kin _ _ hcell)).2, _, ⟨_, KX _ _ hcell, rfl⟩⟩
    · rw [(look x c e1).1, (look y c e2).1]
    · cases i with
      | zero =>
        cases hi
        refine ⟨cc, by rw [hcl]; rfl, fun v hv => ?_⟩
        cases hv
        exact ⟨.ref C, rfl, ⟨_, KX _ _ hcell, rfl⟩⟩
      | succ i => cases hi
  let X : Cx := ncx (L2.CX P w) P w K mg base N F f A outer s H E
  have I : Inv X [] (startF N vs [some (.ref C)]) H { s with heap := h₁, toks := s.toks + ((slf :: ps').zip us).length } := inv_startN NS hr.hd e0 hl r CA hns kp
  have hN : X.N[0]? = some slf := by
    have h1 := NS.pre
    have h2 : (N.take ((slf :: ps').length + [("__class__" : Str)].length))[0]? = some slf := by
      rw [h1]
      rfl
    rw [List.getElem?_take_of_lt (by simp)] at h2
    exact h2
  have h0 : (startF N vs [some (.ref C)])[0]? = some (some (.ref a)) := by
    rw [ev]
    rfl
  rw [show execs F.body (envF F f s.heap.objs.size) = execs (supSt p0 p1 p2 p3 p4 cp txt j :: rest) (envF F f s.heap.objs.size) by rw [hbody]]
  refine ks_wpAt_execs_cons (ks_wpAt_mono (sup_first (X := X) (C := C) (f := f) (L := s.heap.objs.size) Bb S T rfl hm I hN h0 ea (he _)) (fun fl s1 hJ => ?_) fun e s' h => h)
  obtain ⟨rfl, J⟩ := hJ
  refine PySem.wpAt_of_wpAny ?_
  refine wpAny_mono ((hrest A outer s H E).run [] _ _ H _ J ht) (fun fl s' hs => ?_) fun e s' hs => hs
  have fin : ∀ {σ' : L2.St} {H' : Hp} {v : V} {u : Value}, Inv X [] σ' H' s' → L2.RelV v u → Q v H' → CE outer P w H s Q u s' :=
    fun {σ' H' v u} J rv q => ⟨v, H', J.os, J.bare, J.base, J.hok, rv, q⟩
  cases fl with
  | ret u =>
    obtain ⟨v, σ', H', J, rv, q⟩ := hs
    exact fin J rv q
  | next =>
    obtain ⟨σ', H', J, q⟩ := hs
    exact fin (v := V.non) (u := Value.none) J rfl q
  | brk =>
    obtain ⟨_, _, _, q⟩ := hs
    exact False.elim q
  | cont =>
    obtain ⟨_, _, _, q⟩ := hs
    exact False.elim q
end DV

set_option Elab.async false
set_option linter.all false
set_option maxRecDepth 100000
set_option maxHeartbeats 1000000
/-! ExB: raise C(e, ..), C an own exception class whose __init__ says super().__init__(text) and keeps its arguments under names. -/
namespace DV
open PySem PySem.Spec PyProof.Rows L2 NdefX
/-- self.f = .., in turn, from the slot i on -/
def trF (K : PySem.W.Frag) : List Str → Nat → TS
  | [], _ => tNext
  | f :: r, i => tSeq (tStoB K f (tVar 0) (tVar i)) (trF K r (i + 1))
theorem upd_id {H : Hp} {a : Addr} {o : HO} (h : H a = some o) : upd H a o = H := by
  funext b
  by_cases hb : b = a
  · rw [hb, upd_same, h]
  · rw [upd_ne hb]
theorem upd_swap {H : Hp} {a b : Addr} {o u : HO} (h : a ≠ b) : upd (upd H a o) b u = upd (upd H b u) a o := by
  funext c
  by_cases h1 : c = b
  · subst h1
    rw [upd_same, upd_ne (Ne.symm h), upd_same]
  · by_cases h2 : c = a
    · subst h2
      rw [upd_ne h1, upd_same, upd_same]
    · rw [upd_ne h1, upd_ne h2, upd_ne h2, upd_ne h1]
section
variable {K : PySem.W.Frag} {C a dx : Addr} {σ : L2.St} {D : Ends}
theorem trF_old (T : OexB K C) (h0 : σ[0]? = some (some (.ref a))) (hne : dx ≠ a) : ∀ (ns : List Str) (i : Nat) (vs : List V) (H : Hp) (gs : List (Str × V)), H a = some (exo a C (some dx)) → H dx = some (exd dx gs) → (∀ f ∈ ns, PySem.W.findIn K (.ref C) f = some none) →
    vs.length = ns.length → (∀ j v, vs[j]? = some v → σ[i + j]? = some (some v)) → gs.length + ns.length ≤ 900 → D.nx σ (upd H dx (exd dx ((ns.zip vs).reverse ++ gs))) → trF K ns i D σ H
  | [], i, vs, H, gs, ha, hd, _, _, _, _, q => by
    rw [show (([] : List Str).zip vs).reverse ++ gs = gs from rfl, upd_id hd] at q
    exact q
  | f :: ns, i, [], H, gs, _, _, _, hl, _, _, _ => by cases hl
  | f :: ns, i, v :: vs, H, gs, ha, hd, hf, hl, hv, hz, q => by
    rw [List.length_cons] at hz
    refine ⟨v, hv 0 v rfl, .ref a, h0, a, C, rfl, T, hf f List.mem_cons_self, .inr ⟨dx, gs, ha, hd, by omega, ?_⟩⟩
    refine trF_old T h0 hne ns (i + 1) vs (upd H dx (exd dx ((f, v) :: gs))) ((f, v) :: gs) (by rw [upd_ne (Ne.symm hne)]; exact ha) upd_same (fun g hg => hf g (List.mem_cons_of_mem _ hg)) (by simpa using hl) (fun j w hw => ?_) (by rw [List.length_cons]; omega) ?_
    · have := hv (j + 1) w (by simpa using hw)
      rw [show i + (j + 1) = i + 1 + j by omega] at this
      exact this
    · rw [upd_upd]
      rw [List.zip_cons_cons, List.reverse_cons, List.append_assoc] at q
      exact q
theorem trF_new (T : OexB K C) (h0 : σ[0]? = some (some (.ref a))) {ns : List Str} {i : Nat} {vs : List V} {H : Hp} (hn : ns ≠ []) (ha : H a = some (exo a C none)) (hf : ∀ f ∈ ns, PySem.W.findIn K (.ref C) f = some none) (hl : vs.length = ns.length)
    (hv : ∀ j v, vs[j]? = some v → σ[i + j]? = some (some v)) (hz : ns.length ≤ 900) (q : ∀ dx, H dx = none → dx ≠ a → D.nx σ (upd (upd H dx (exd dx (ns.zip vs).reverse)) a (exo a C (some dx)))) : trF K ns i D σ H := by
  cases ns with
  | nil => exact absurd rfl hn
  | cons f ns =>
    cases vs with
    | nil => cases hl
    | cons v vs =>
      rw [List.length_cons] at hz
      refine ⟨v, hv 0 v rfl, .ref a, h0, a, C, rfl, T, hf f List.mem_cons_self, .inl ⟨ha, fun dx hd hne => ?_⟩⟩
      refine trF_old T h0 hne ns (i + 1) vs _ [(f, v)] upd_same (by rw [upd_ne hne]; exact upd_same) (fun g hg => hf g (List.mem_cons_of_mem _ hg)) (by simpa using hl) (fun j w hw => ?_) (by simp; omega) ?_
      · have := hv (j + 1) w (by simpa using hw)
        rw [show i + (j + 1) = i + 1 + j by omega] at this
        exact this
      · have := q dx hd hne
        rw [List.zip_cons_cons, List.reverse_cons] at this
        rw [upd_swap (Ne.symm hne), upd_upd]
        exact this
end
/-- the promise of such an __init__ -/
def supSp (K : PySem.W.Frag) (N : List Str) (C : Addr) (ns : List Str) : Sp := fun vs H Q E => vs.length = ns.length + 1 ∧ ∃ a ws, vs = .ref a :: ws ∧ H a = some (exo a C none) ∧ trF K ns 1 { nx := fun _ H' => Q .non H', rt := Q } (startF N vs [some (.ref C)]) H
/-- an exception class that may be raised by the module's name x -/
structure CalX (P : Program) (w : World) (K : PySem.W.Frag) (mg : Str → Option Value) (base : Heap) (ct : String → Addr) (x : Str) (c : String) (ns : List Str) : Prop where
  oex : OexB K (ct c)
  mg_ : mg x = some (.ref (ct c))
  nof : ∀ f ∈ ns, PySem.W.findIn K (.ref (ct c)) f = some none
  some_ : ns ≠ []
  few : ns.length ≤ 900
  ex : ∃ fI fd ps N, PySem.W.findIn K (.ref (ct c)) "__init__" = some (some (.ref fI)) ∧ PySem.W.typeIn K (.ref fI) = some (.type "function") ∧ Binds K fd ps [] ∧ FnOk P w K mg base (L2.CX P w) 1 fI fd ps (supSp K N (ct c) ns)
def sRaise (c : String) (ns : List Str) (fl : AF) : SF := fun ro A => (fl ro A).then ro fun ds A1 => if ds.length = ns.length then .err (.own c) (ns.zip ds).reverse ro A1 else .stk
theorem DRs.len {K : PySem.W.Frag} {ct : String → Addr} {io : Io} {H : Hp} {vs : List V} {ds : List D} (h : DRs K ct io H vs ds) : vs.length = ds.length := h.length
section
variable {X : Cx} {ct : String → Addr} {W : WX} {x : Str} {c : String} {ns : List Str} {p pos rpos : Pos} {e : Expr} {es : List Expr} {fl : AF}
theorem psd_raise (cx : CalX X.prog X.w X.K X.mg X.base ct x c ns) (hr : Room 2 X.A) (hc : X.calm = true) (tk : Takes X W) (hg : Gl X x) (ha : PDa X ct W (e :: es) fl)
    (hdb : (x == ("__debug__" : Str)) = false := by decide) (he : starEach (e :: es) X.env = (false, eval e X.env) :: starEach es X.env := by rfl) (hpl : (backTo pos (starEach es X.env)).any (·.1) = false := by rfl) :
    PSD X ct W (.Raise (some (.Call (.Name x p) (e :: es) [] pos)) none rpos) (sRaise c ns fl) := by
  obtain ⟨fI, fd, ps, N, h1, h2, hb, F1⟩ := cx.ex
  refine ps_mono (ps_raise hc tk (pmkB (dvs := []) cx.oex h1 h2 F1 hr hb .nil (passes_call tk fun _ _ _ _ z => z.elim) hg cx.mg_ ha hdb he hpl)) fun Z σ H ⟨io, A, ro, s, q⟩ => ?_
  refine ⟨io, A, ro, s, (Post.then (rep := DRs X.K ct) s q).mono fun vs H1 ⟨io1, A1, ds, e1, s1, rs, q1⟩ => ?_⟩
  split at q1
  · rename_i hl
    have hlv : vs.length = ns.length := rs.length.trans hl
    have hfew := cx.few
    refine ⟨by omega, fun a na => ⟨by rw [List.append_nil, List.length_cons, hlv], a, vs, by rw [List.append_nil], upd_same, ?_⟩⟩
    rw [List.append_nil]
    refine trF_new cx.oex (a := a) rfl cx.some_ upd_same cx.nof hlv (fun j v hv => ?_) cx.few fun d hd hne => ⟨rfl, d, (ns.zip vs).reverse, upd_same, by rw [upd_ne hne]; exact upd_same, by rw [upd_ne hne] at hd; exact hd, ?_⟩
    · unfold startF
      rw [List.getElem?_append_left (by rw [List.length_map, List.length_cons]; have := (List.getElem?_eq_some_iff.mp hv).1; omega), List.getElem?_map, show 1 + j = j + 1 by omega, List.getElem?_cons_succ, hv]
      rfl
    · have hd1 : H1 d = none := by rw [upd_ne hne] at hd; exact hd
      have eH : upd (del (upd (upd (upd H1 a (exo a (ct c) none)) d (exd d (ns.zip vs).reverse)) a (exo a (ct c) (some d))) a) d (.xd (ns.zip vs).reverse) = upd H1 d (.xd (ns.zip vs).reverse) := by
        funext b
        by_cases hbd : b = d
        · rw [hbd, upd_same, upd_same]
        · rw [upd_ne hbd, upd_ne hbd]
          by_cases hba : b = a
          · rw [hba, del_same, na]
          · rw [del_ne hba, upd_ne hba, upd_ne hbd, upd_ne hba]
      rw [eH]
      refine q1 (.ref (ct c)) (some d) σ io1 (upd H1 d (.xd (ns.zip vs).reverse)) (Ext.laid hd1) ⟨s1.hr.laid hd1, s1.env.mono (Ext.laid hd1) s1.hr.noT⟩ ⟨rfl, .inr ⟨d, (ns.zip vs).reverse, rfl, s1.hr.ne hd1, upd_same, ?_, ?_⟩⟩
      · rw [List.map_reverse, List.map_reverse, List.map_fst_zip (by omega), List.map_fst_zip (by omega)]
      · rw [List.map_reverse, List.map_reverse, List.map_snd_zip (by omega), List.map_snd_zip (by omega)]
        exact (rs.laid s1.hr hd1).reverse
  · exact q1.elim
end
end DV

set_option Elab.async false
set_option linter.all false
set_option maxRecDepth 100000
set_option maxHeartbeats 1000000
/-! ExC: try: .. except C as e: .., the caught exception kept as a numbered object. -/
namespace DV
open PySem PySem.Spec PyProof.Rows L2
theorem eo_ok {P : Program} {w : World} {H : Hp} {h : Heap} {a : Addr} {cls : Value} {d : Option Addr} {oe : Obj} {vs : Array Value} (e : h.get? a = some oe) (z : Zc cls d oe) (hd : oe.data = .fields vs) : ObjOk P w H h a (EO cls d a) :=
  ⟨⟨oe, vs, e, z, hd⟩, ⟨oe, e⟩, fun _ _ ⟨o, v, q, r⟩ k => ⟨o, v, k o q, r⟩⟩
theorem eo_own {cls d a x} : EO cls d a ≠ .own x := fun z => by
  have z' : HO.ext _ = HO.own x := z
  cases z'
section
variable {X : Cx} {pins : List (Addr × Obj)} {σ : L2.St} {H : Hp} {s sI : Shared} {a : Addr} {oe : Obj} {vs : Array Value} {cls : Value} {d : Option Addr} {B : Heap}
/-- what was caught is tracked -/
theorem Inv.caught (J : L2.Inv X pins σ H s) (JI : L2.Inv X pins σ H sI) (hex : X.ex = []) (nb : ∀ b o, sI.heap.get? b = some o → b ∉ frs X.stack → B.get? b = some o) (hB : B.get? a = none) (nfr : a ∉ frs X.stack) (nL : a ≠ X.env.locals) (nF : a ∉ X.fs)
    (he : s.heap.get? a = some oe) (hz : Zc cls d oe) (hd : oe.data = .fields vs) (na : H a = none) : L2.Inv X pins σ (upd H a (EO cls d a)) s := by
  have nI : sI.heap.get? a = none := by
    cases e : sI.heap.get? a with
    | none => rfl
    | some o =>
      have := nb a o e nfr
      rw [hB] at this
      cases this
  have n0 : X.s_0.heap.get? a = none := by
    cases e : X.s_0.heap.get? a with
    | none => rfl
    | some o =>
      obtain ⟨o', e'⟩ := JI.base.there a o e (by rw [hex]; exact fun z => nomatch z)
      rw [nI] at e'
      cases e'
  have ne0 : ∀ b o, X.s_0.heap.get? b = some o → b ≠ a := fun b o e z => by rw [z, n0] at e; cases e
  refine ⟨J.ok, J.os, J.bare, ⟨J.base.keep, J.base.slot, fun b o e n hx => ?_, J.base.there, fun b xs q => ?_, fun b o xs q => ?_, fun b ps q => ?_⟩, J.loc, J.cell, ?_, fun x c e => ?_, fun p hp => ?_, fun b u e => ?_, J.len⟩
  · rw [upd_ne (ne0 b o e)]
    exact J.base.free b o e n hx
  · have q' := J.base.tups b xs q
    rw [upd_ne (ne_of_none q' na)]
    exact q'
  · have q' := J.base.frzs b o xs q
    rw [upd_ne (ne_of_none q' na)]
    exact q'
  · obtain ⟨m, q'⟩ := J.base.tbls b ps q
    exact ⟨m, by rw [upd_ne (ne_of_none q' na)]; exact q'⟩
  · rw [upd_ne (Ne.symm nL)]
    exact J.free
  · have hc : c ≠ a := fun z => by
      obtain ⟨v, o, ho, hdc⟩ := J.cell x c e
      rw [z, he] at ho
      cases ho
      rw [hd] at hdc
      cases hdc
    rw [upd_ne hc]
    exact J.freeC x c e
  · obtain ⟨e1, e2, e3, e4, e5⟩ := J.pin p hp
    have hpa : p.1 ≠ a := fun z => by
      have := (JI.pin p hp).1
      rw [z, nI] at this
      cases this
    exact ⟨e1, by rw [upd_ne hpa]; exact e2, e3, e4, e5⟩
  · by_cases hb : b = a
    · subst hb
      rw [upd_same] at e
      cases e
      exact eo_ok he hz hd
    · rw [upd_ne hb] at e
      exact (J.hok b u e).stay (fun c v _ q => q) (fun c q => by rw [upd_ne (ne_of_none q na)]; exact q) fun c xs q => by rw [upd_ne (ne_of_none q na)]; exact q
theorem Inv.suite0 (J : L2.Inv X pins σ H s) : L2.Inv (X.suite a (X.pn ++ pins)) [] σ H s :=
  ⟨J.ok.suite _ _, J.os, J.bare, J.base, J.loc, J.cell, J.free, J.freeC, fun p hp => J.pin p (by rw [List.append_nil] at hp; exact hp), J.hok, J.len⟩
theorem Inv.unsuite0 {pn' : List (Addr × Obj)} (J : L2.Inv (X.suite a (X.pn ++ pins)) pn' σ H s) (ok : X.Ok) : L2.Inv X pins σ H s :=
  ⟨ok, J.os, J.bare, J.base, J.loc, J.cell, J.free, J.freeC, fun p hp => J.pin p (List.mem_append_left _ hp), J.hok, J.len⟩
end
/-- what the clause wishes of an exception of the body -/
def wKeep (K : PySem.W.Frag) (c : Value) (i : Nat) (ts : TS) (Wout : WX) (D : Ends) : WX := fun cls d σ H =>
  ∃ b, PySem.W.exmOne K cls c = some b ∧ (b = true → ∀ a, H a = none → ts { nx := fun σ' H' => D.nx (σ'.set i none) H', rt := D.rt, bk := fun σ' H' => D.bk (σ'.set i none) H', ct := fun σ' H' => D.ct (σ'.set i none) H' } (σ.set i (some (.ref a))) (upd H a (EO cls d a))) ∧
    (b = false → Wout cls d σ H)
section
variable {X : Cx} {x n : Str} {c : Value} {i : Nat} {body suite : List Stmt} {b₀ : Stmt} {np pos pos' : Pos} {tb : WX → TS} {ts : TS} {Wout : WX}
theorem ps_try_keep (hs : X.stack = X.env :: X.outer) (hf : X.env.frame = some X.env.locals) (hex : X.ex = []) (hN : X.N.Nodup) (hi : X.N[i]? = some n) (hln : X.env.kindOf n = some .local) (hc : Names X x c) (tk : Takes X Wout)
    (hb : ∀ (W : WX) (pn : List (Addr × Obj)) (xe : Value → Shared → Prop), Takes (X.tr pn xe) W → PassesOwn (model X.prog X.w) X.A X.env xe → PSs (X.tr pn xe) body (tb W))
    (hsu : ∀ (a : Addr) (pn : List (Addr × Obj)), PSs (X.suite a pn) (b₀ :: suite) ts) :
    PS X (.Try body [.ExceptHandler (some (.Name x np)) (some n) (b₀ :: suite) pos'] [] [] pos) (fun D σ H => tb (wKeep X.K c i ts Wout D) D σ H) := by
  refine ⟨fun pins s σ H D I h => ?_⟩
  have ok := I.ok
  have hfr : X.A.frames = some (X.env :: X.outer) := by rw [ok.frames, hs]
  have hloc : Loc X.env.scope n := .inl hln
  refine wpAny_Try_except ?_
  refine wpAny_mono ((hb (wKeep X.K c i ts Wout D) (X.pn ++ pins) (fun e s₁ => wpAny (model X.prog X.w) X.A (noteFrame e X.env) (fun _ s₂ => wpAny (model X.prog X.w) X.A (setFlight e none) (fun _ s₃ =>
    wpAny (model X.prog X.w) X.A (handleBy e X.env [.ExceptHandler (some (.Name x np)) (some n) (b₀ :: suite) pos']) (SP X pins D) X.xe s₃) X.xe s₂) X.xe s₁) (fun u s' xx => ?_) PassesOwn.looking).run [] s σ H D (I.toTry _) h) (fun f s1 hsp => ?_) (fun e s1 he => he)
  · obtain ⟨a, B, sI, pins', σ', H', cls, d, rfl, J', nb, up, sky, na, os, ag, b, hb1, hyes, hno⟩ := xx
    have J : L2.Inv X pins σ' H' sI := J'.ofTry ok
    have sky' : Sky B (X.env :: X.outer) a (Zc cls d) X.env.locals s'.heap := by rw [← hs]; exact sky
    show wpAny (model X.prog X.w) X.A (noteFrame (.ref a) X.env) _ _ _
    refine Sky.land Zc.steady hfr hf sky' fun h3 fl3 up3 => ?_
    have J3 : L2.Inv X pins σ' H' { s' with heap := h3 } := J.landed nb fl3.1 (up.trans up3) os ag
    obtain ⟨oe3, vs3, he3, hz3, hd3⟩ := fl3.there
    have nfr : a ∉ frs (X.env :: X.outer) := fun hm => by
      obtain ⟨_, o', e', hnf⟩ := fl3.2.2.1.mem hm
      rw [he3] at e'
      cases e'
      exact hnf _ hd3
    have nL : a ≠ X.env.locals := fun z => nfr (List.mem_filterMap.mpr ⟨X.env, List.mem_cons_self, by rw [hf, z]⟩)
    have nF : a ∉ X.fs := fun hm => by
      obtain ⟨e, he, q⟩ := List.mem_filterMap.mp hm
      exact nfr (List.mem_filterMap.mpr ⟨e, List.mem_cons_of_mem _ he, q⟩)
    have S3 := J3.suite he3 hd3 na nL nF
    refine wpAny_handleBy_cons (codeAny_handlers_test ?_) (by intro q; cases q)
    have LT : PySem.W.Looks (model X.prog X.w) h3 (typeOf (.ref a)) cls := fun A Q E s k q => wpAny_typeOf_ref (k _ _ he3) (by rw [hz3.1]; exact q)
    have LM := PySem.W.exm_one (M := model X.prog X.w) (J3.kIn) LT hb1
    have test : ∀ {Q : Value → Shared → Prop} {E : Value → Shared → Prop}, Q c { s' with heap := h3 } → wpAny (model X.prog X.w) (X.A.mark (some (.ref a))) (eval (.Name x np) X.env) Q E { s' with heap := h3 } := fun {Q E} q => by
      obtain ⟨hg, hdbg, hm | ⟨hm, hv, hnn⟩⟩ := hc
      · exact ld_glob (X := X.suite a ((a, oe3) :: (X.pn ++ pins))) S3 hg hm q hdbg
      · exact ld_blt (X := X.suite a ((a, oe3) :: (X.pn ++ pins))) S3 hg hm hv q hnn hdbg
    refine test (LM.here ?_)
    cases b with
    | true =>
      refine codeAny_handlers_suite_as ?_
      refine HandSPX.lands_againZ fl3 fun h4 fl4 up4 => ?_
      have J4 : L2.Inv X pins σ' H' { s' with heap := h4 } := J.landed nb fl4.1 ((up.trans up3).trans up4) os ag
      obtain ⟨oe4, vs4, he4, hz4, hd4⟩ := fl4.there
      have J5 : L2.Inv X pins σ' (upd H' a (EO cls d a)) { s' with heap := h4 } := Inv.caught J4 J hex nb fl4.2.1 (by rw [hs]; exact nfr) nL nF he4 hz4 hd4 na
      have S4 : L2.Inv (X.suite a (X.pn ++ pins)) [] σ' (upd H' a (EO cls d a)) { s' with heap := h4 } := Inv.suite0 J5
      refine store_ok (X := X.suite a (X.pn ++ pins)) (v := .ref a) S4 hN hi hloc rfl (fun s5 S5 => ?_) (.inr hln)
      refine wpAny_mono ((hsu a (X.pn ++ pins)).run [] s5 _ _ _ S5 (hyes rfl a na)) (fun f s6 hsp => ?_) (fun _ _ z => False.elim z)
      have end_ : ∀ {σ6 : L2.St} {H6 : Hp} {Q : Shared → Prop}, L2.Inv (X.suite a (X.pn ++ pins)) [] σ6 H6 s6 → (∀ s7, L2.Inv X pins (σ6.set i none) H6 s7 → Q s7) →
          wpAny (model X.prog X.w) X.A (do bindName X.env n .none; unbindBehindTheSuite X.env n pos') (fun _ s7 => Q s7) X.xe s6 := fun {σ6 H6 Q} S6 hq => gone_ok (Inv.unsuite0 S6 ok) hN hi hln hq
      cases f with
      | next =>
        obtain ⟨σ6, H6, S6, q6⟩ := hsp
        exact end_ S6 fun s7 J7 => ⟨_, _, J7, q6⟩
      | brk =>
        obtain ⟨σ6, H6, S6, q6⟩ := hsp
        exact end_ S6 fun s7 J7 => ⟨_, _, J7, q6⟩
      | cont =>
        obtain ⟨σ6, H6, S6, q6⟩ := hsp
        exact end_ S6 fun s7 J7 => ⟨_, _, J7, q6⟩
      | ret u =>
        obtain ⟨v6, σ6, H6, S6, r6, q6⟩ := hsp
        exact end_ S6 fun s7 J7 => ⟨_, _, _, J7, r6, q6⟩
    | false =>
      show wpAny _ X.A (handleBy (.ref a) X.env []) _ _ _
      refine wpAny_handleBy_nil ?_
      obtain ⟨k1, k2, k3, oe, vs, T, oT, ts', he, hz, hd, h1, hr⟩ := id fl3
      unfold PySem.passOn
      refine wpAny_bind (wpAny_field he hd h1 ?_)
      rw [if_neg (show ¬ ((Value.ref T == Value.none) = true) from by simp)]
      have fin : wpAny (model X.prog X.w) X.A (setFlight (.ref a) X.env.frame) (fun _ s4 => wpAny (model X.prog X.w) X.A (throw (.ref a) : Sem Flow) (SP X pins D) X.xe s4) X.xe { s' with heap := h3 } := by
        rw [hf]
        refine HandSPX.setFlight_upZ fl3 fun h4 hh4 up4 => wpAny_throw (tk _ _ ?_)
        exact ⟨a, B, sI, pins, σ', H', cls, d, rfl, J, nb, (up.trans up3).trans up4, .inr (.inr (by rw [hs]; exact hh4)), na, os, ag, hno rfl⟩
      first
        | exact wpAny_bind (wpAny_pure (wpAny_bind fin))
        | exact wpAny_bind fin
  · cases f with
    | next =>
      obtain ⟨σ', H', J', q⟩ := hsp
      exact wpAny_execs_nil ⟨σ', H', J'.ofTry ok, q⟩
    | brk =>
      obtain ⟨σ', H', J', q⟩ := hsp
      exact ⟨σ', H', J'.ofTry ok, q⟩
    | cont =>
      obtain ⟨σ', H', J', q⟩ := hsp
      exact ⟨σ', H', J'.ofTry ok, q⟩
    | ret u =>
      obtain ⟨v, σ', H', J', r, q⟩ := hsp
      exact ⟨v, σ', H', J'.ofTry ok, r, q⟩
end
end DV

set_option Elab.async false
set_option linter.all false
set_option maxRecDepth 100000
set_option maxHeartbeats 1000000
/-! ExD: try, err.f, isinstance(err, C) by data. -/
namespace DV
open PySem PySem.Spec PyProof.Rows L2
/-! ### try -/
def unsO (i : Nat) (o : Out) : Out := match o with
  | .go f ro A => .go f (ro.set i none) A
  | _ => .stk
def sTry (tb : SF) (mt : Cl → Option Bool) (i : Nat) (ts : SF) : SF := fun ro A => match tb ro A with
  | .err c fs ro1 A1 => match mt c with
    | some true => (match c with
      | .own n => unsO i (ts (ro1.set i (some (.ref A1.length))) (A1 ++ [.exc n fs]))
      | .bi _ => .stk)
    | some false => .err c fs ro1 A1
    | none => .stk
  | o => o
section
variable {K : PySem.W.Frag} {ct : String → Addr} {W W2 : WX} {σ : L2.St} {io io' : Io} {H H' : Hp} {A A' : Hd} {ro : Env} {Z : Ends} {i : Nat}
theorem EnvR.unset (h : EnvR K ct io H ro σ) : EnvR K ct io H (ro.set i none) (σ.set i none) := by
  refine ⟨by rw [List.length_set, List.length_set, h.len], fun j e hj => ?_⟩
  by_cases hij : i = j
  · subst hij
    by_cases hi : i < ro.length
    · rw [List.getElem?_set_self hi] at hj
      cases hj
    · rw [List.getElem?_eq_none (by rw [List.length_set]; omega)] at hj
      cases hj
  · rw [List.getElem?_set_ne hij] at hj
    obtain ⟨w, e1, q⟩ := h.at_ j e hj
    exact ⟨w, by rw [List.getElem?_set_ne hij]; exact e1, q⟩
theorem SPost.uns {o : Out} (h : SPost K ct W io H (unsO i o) Z) : SPost K ct W2 io H o { nx := fun σ' H' => Z.nx (σ'.set i none) H', rt := Z.rt, bk := fun σ' H' => Z.bk (σ'.set i none) H', ct := fun σ' H' => Z.ct (σ'.set i none) H' } := by
  cases o with
  | go f ro A => cases f with
    | nx => exact fun s j h' e q => h (s.set i none) j h' e ⟨q.hr, q.env.unset⟩
    | bk => exact fun s j h' e q => h (s.set i none) j h' e ⟨q.hr, q.env.unset⟩
    | ct => exact fun s j h' e q => h (s.set i none) j h' e ⟨q.hr, q.env.unset⟩
    | ret d => exact h
  | err c fs ro A => exact h.elim
  | stk => exact h.elim
theorem XR.mexc {n : String} {fs : List (Str × D)} {cls : Value} {dd : Option Addr} {a : Addr} (h : HR K ct io H A) (x : XR K ct io H (.own n) fs cls dd) (na : H a = none) : MR K ct (io.add a) (upd H a (EO cls dd a)) a (.exc n fs) := by
  have hc : cls = .ref (ct n) := x.cls
  subst hc
  refine ⟨dd, upd_same, x.fds.imp id ?_⟩
  rintro ⟨p, gs, h1, h2, h3, h4, h5⟩
  exact ⟨p, gs, h1, (Ext.num (o := EO (.ref (ct n)) dd a) na).notin h3 h2, by rw [upd_ne (ne_of_none h3 na)]; exact h3, h4, h5.mono (Ext.num na) h.noT⟩
end
section
variable {X : Cx} {ct : String → Addr} {W : WX} {x n : Str} {c : Value} {i : Nat} {body suite : List Stmt} {b₀ : Stmt} {np pos pos' : Pos} {fb fs : SF} {mt : Cl → Option Bool}
theorem psd_try (hs : X.stack = X.env :: X.outer) (hf : X.env.frame = some X.env.locals) (hex : X.ex = []) (hN : X.N.Nodup) (hi : X.N[i]? = some n) (hln : X.env.kindOf n = some .local) (hc : Names X x c) (tk : Takes X W)
    (hmt : ∀ k b, mt k = some b → PySem.W.exmOne X.K (ClV ct k) c = some b)
    (hb : ∀ (W' : WX) (pn : List (Addr × Obj)) (xe : Value → Shared → Prop), Takes (X.tr pn xe) W' → PassesOwn (model X.prog X.w) X.A X.env xe → PSsD (X.tr pn xe) ct W' body fb)
    (hsu : ∀ (a : Addr) (pn : List (Addr × Obj)), PSsD (X.suite a pn) ct (fun _ _ _ _ => False) (b₀ :: suite) fs) :
    PSD X ct W (.Try body [.ExceptHandler (some (.Name x np)) (some n) (b₀ :: suite) pos'] [] [] pos) (sTry fb mt i fs) := by
  refine ps_mono (ps_try_keep (tb := fun W' => tS X.K ct W' fb) (ts := tS X.K ct (fun _ _ _ _ => False) fs) hs hf hex hN hi hln hc tk hb hsu) fun Z σ H ⟨io, A, ro, s, p⟩ => ⟨io, A, ro, s, ?_⟩
  unfold sTry at p
  cases ho : fb ro A with
  | go f ro1 A1 =>
    rw [ho] at p
    cases f <;> exact p
  | stk =>
    rw [ho] at p
    exact p
  | err k gs ro1 A1 =>
    rw [ho] at p
    intro cls dd σ' io' H' e s' xr
    dsimp only at p
    cases hm : mt k with
    | none =>
      rw [hm] at p
      exact p.elim
    | some b =>
      rw [hm] at p
      have ex := hmt k b hm
      rw [← xr.cls] at ex
      refine ⟨b, ex, fun hb a na => ?_, fun hb => ?_⟩
      · subst hb
        cases k with
        | bi t => exact p.elim
        | own t =>
          have hr2 := s'.hr.num na (XR.mexc s'.hr xr na)
          refine ⟨io'.add a, A1 ++ [.exc t gs], ro1.set i (some (.ref A1.length)), ⟨hr2, EnvR.set (s'.env.mono (Ext.num na) s'.hr.noT) (.ref ?_)⟩, ?_⟩
          · show (io'.nm ++ [a])[A1.length]? = some a
            rw [← s'.hr.len]
            simp
          · have p' := p
            exact SPost.uns (SPost.ext (e.trans (Ext.num na)) p')
      · subst hb
        exact p cls dd σ' io' H' e s' xr
end
/-! ### err.f -/
def gXf (xs : List String) (f : Str) (d : D) (A : Hd) : R D := match d with
  | .ref n => (match A[n]? with
    | some (.exc c fs) => if c ∈ xs then (match fs.lookup f with
      | some v => .ok v A
      | none => .stk) else .stk
    | _ => .stk)
  | _ => .stk
theorem lookup_rel {K : PySem.W.Frag} {ct : String → Addr} {io : Io} {H : Hp} (f : Str) : ∀ {gs : List (Str × V)} {fs : List (Str × D)}, gs.map (·.1) = fs.map (·.1) → DRs K ct io H (gs.map (·.2)) (fs.map (·.2)) → ∀ {d : D}, fs.lookup f = some d → ∃ v, gs.lookup f = some v ∧ DR K ct io H v d
  | [], [], _, _, d, e => by cases e
  | [], _ :: _, h, _, _, _ => by cases h
  | _ :: _, [], h, _, _, _ => by cases h
  | (g, v) :: gs, (f', d') :: fs, h, r, d, e => by
    simp only [List.map_cons, List.cons.injEq] at h
    obtain ⟨h1, h2⟩ := h
    subst h1
    cases r with
    | cons r1 r2 =>
      by_cases q : f = g
      · subst q
        have e1 : d' = d := by simpa [List.lookup] using e
        subst e1
        exact ⟨v, by simp [List.lookup], r1⟩
      · have q2 : (f == g) = false := by simpa using q
        have e1 : fs.lookup f = some d := by simpa [List.lookup, q2] using e
        obtain ⟨w, h3, h4⟩ := lookup_rel f h2 r2 e1
        exact ⟨w, by simpa [List.lookup, q2] using h3, h4⟩
theorem eo_at {P : Program} {w : World} {H : Hp} {h : Heap} {a : Addr} {cls : Value} {d : Option Addr} (hok : HOk P w H h) (e : H a = some (EO cls d a)) : ∃ (oe : Obj) (vs : Array Value), h.get? a = some oe ∧ Zc cls d oe ∧ oe.data = .fields vs := by
  have x : ObjOk P w H h a (.ext fun h => ∃ (oe : Obj) (vs : Array Value), h.get? a = some oe ∧ Zc cls d oe ∧ oe.data = .fields vs) := hok a _ e
  exact x.1
section
variable {X : Cx} {ct : String → Addr} {W : WX} {e : Expr} {fa : EF} {f : Str} {pos : Pos} {xs : List String}
theorem pd_xf (hT : ∀ c ∈ xs, XfC X.K (ct c) ∧ PySem.W.findIn X.K (.ref (ct c)) f = some none) (he : PD X ct W e fa) (hb : attributeBase e f X.env (eval e X.env) = eval e X.env := by rfl) : PD X ct W (.Attribute e f pos) (eUn (gXf xs f) fa) := by
  refine ⟨fun pins s σ H Q I ⟨io, A, ro, st, p⟩ => ?_⟩
  refine attr_of hb (thn (he.run pins s σ H _ I ⟨io, A, ro, st, p.bind (rep := DR X.K ct)⟩) fun u s1 ⟨v, H1, I1, rv, io1, A1, d, e1, h1, r1, p1⟩ => ?_)
  unfold gXf at p1
  split at p1
  · rename_i n
    split at p1
    · rename_i c fs hm
      split at p1
      · rename_i hc
        split at p1
        · rename_i dv hl
          cases r1 with
          | @ref a _ q =>
            obtain rfl : u = Value.ref a := rv
            obtain ⟨dd, e2, z⟩ := h1.get q hm
            obtain ⟨T, hno⟩ := hT c hc
            rcases z with rfl | ⟨pp, gs, g1, g2, g3, g4, g5⟩
            · cases hl
            · subst g1
              obtain ⟨oe, vs, ho, hz, hd⟩ := eo_at I1.hok e2
              obtain ⟨w, l1, rw1⟩ := lookup_rel f g4 g5 hl
              have hx : ObjOk X.prog X.w H1 s1.heap pp (.xd gs) := I1.hok pp _ g3
              obtain ⟨mA, hns, hr⟩ := hx
              obtain ⟨od, ho2, hl2⟩ := lookIn_ns hns
              obtain ⟨u, hu, ru⟩ := RelO.some_of (v := w) (o := mA f) (by rw [← l1]; exact hr f)
              have J : PySem.W.InstAt s1.heap a oe (ct c) (some od) := ⟨ho, hz.1, by unfold PySem.W.notCls; rw [hd] <;> rfl, by rw [hz.2]; exact ho2⟩
              exact HandSPX.exc_get I1.kIn J T.ga T.gg T.exC (PySem.W.findObj_own T.hdC hno rfl (by rw [hl2, hu])) (handed_of ru) ⟨w, H1, I1.tok _, ru, p1.here h1 rw1⟩
        · exact p1.elim
      · exact p1.elim
    · exact p1.elim
  · exact p1.elim
end
/-! ### isinstance(err, C) -/
def gIsaX (xs : List String) (sb : String → Cl → Option Bool) (ds : List D) (A : Hd) : R D := match ds with
  | [.ref n, .cls k] => (match A[n]? with
    | some (.exc c (_ :: _)) => if c ∈ xs then (match sb c k with
      | some b => .ok (.bl b) A
      | none => .stk) else .stk
    | _ => gIsa ds A)
  | _ => gIsa ds A
/-- what the classes must say -/
structure IsT (K : PySem.W.Frag) (ct : String → Addr) (xs : List String) (sb : String → Cl → Option Bool) : Prop where
  cls : ∀ c ∈ xs, L2.ExcC K (ct c)
  sub : ∀ c k b, sb c k = some b → PySem.W.kitOne K (.ref (ct c)) (ClV ct k) = some b
def rIsX (K : PySem.W.Frag) : List V → Hp → VK → Prop := fun xs H Q => rIsi K xs H Q ∨ ∃ (a C : Addr) (dx : Addr) (fs : List (Str × V)) (c : V) (cv : Value) (b : Bool), xs = [.ref a, c] ∧ H a = some (EO (.ref C) (some dx) a) ∧ H dx = some (.xd fs) ∧ L2.ExcC K C ∧ (∀ u, RelV c u → u = cv) ∧ PySem.W.kitOne K (.ref C) cv = some b ∧ Q (.bl b) H
theorem call_isX {X : Cx} : CallR X (.builtin "isinstance") (rIsX X.K) := by
  intro pins s σ H xs us Q I r h
  rcases h with h | ⟨a, D, dx, fs, c, cv, b, rfl, ha, hdx, C, hcv, e, q⟩
  · exact call_isi pins s σ H xs us Q I r h
  · cases r with
    | cons rx rr =>
      cases rr with
      | cons rt rr =>
        cases rr
        cases rx
        have ec := hcv _ rt
        subst ec
        obtain ⟨oe, vs, ho, hz, hd⟩ := eo_at I.hok ha
        have hx : ObjOk X.prog X.w H s.heap dx (.xd fs) := I.hok dx _ hdx
        obtain ⟨mA, ⟨od, es, ep, ho2, _⟩, hr⟩ := hx
        have J : PySem.W.InstAt s.heap a oe D (some od) := ⟨ho, hz.1, by unfold PySem.W.notCls; rw [hd] <;> rfl, by rw [hz.2]; exact ho2⟩
        obtain ⟨cd, hcd, _⟩ := PySem.W.any_some C.hd
        exact PySem.W.kia_one (PySem.W.kitx_exc (by rw [hcd]; rfl) C.hg C.hk C.hs C.ha C.hn C.ht C.hm) I.kIn J e (fun z => nomatch z) fun tk => ⟨.bl b, H, I.kept (t' := tk) fun _ _ z => z, rfl, q⟩
theorem gIsaX_ok {K : PySem.W.Frag} {ct : String → Addr} {xs : List String} {sb : String → Cl → Option Bool} (T : IsT K ct xs sb) : CaD K ct (rIsX K) (gIsaX xs sb) := by
  intro W σ io H A vs ds Q h r p
  unfold gIsaX at p
  split at p
  · rename_i n k
    split at p
    · rename_i c f0 f1 hm
      split at p
      · rename_i hc
        split at p
        · rename_i b hb
          cases r with
          | cons r1 r2 =>
            cases r2 with
            | cons r2 r3 =>
              cases r3
              cases r1 with
              | @ref a _ q =>
                obtain ⟨dd, e2, z⟩ := h.get q hm
                rcases z with z | ⟨pp, gs, g1, g2, g3, g4, g5⟩
                · cases z
                · subst g1
                  refine .inr ⟨a, ct c, pp, gs, _, ClV ct k, b, rfl, e2, g3, T.cls c hc, ?_, T.sub c k b hb, p.here h (.bl _)⟩
                  cases r2 with
                  | ty t => exact fun u hu => hu
                  | own t => exact fun u hu => hu
        · exact p.elim
      · exact p.elim
    · exact .inl (gIsa_ok W σ io H A vs _ Q h r p)
  · exact .inl (gIsa_ok W σ io H A vs _ Q h r p)
end DV

set_option Elab.async false
set_option linter.all false
set_option maxRecDepth 100000
set_option maxHeartbeats 4000000
/-! ExE: lists that change from +, tuples times a number, repr of an empty dict, what the top says of an exception class. -/
namespace DV
open PySem PySem.Spec PyProof.Rows L2 NdefX
/-! ### a numbered list from + -/
def gAddM (d e : D) (A : Hd) : R D := match asL A d, asL A e with
  | some xs, some ys => if xs.length + ys.length ≤ sizeLine then .ok (.ref A.length) (A ++ [.lst (xs ++ ys)]) else .stk
  | _, _ => .stk
theorem gAddM_ok {K : PySem.W.Frag} {ct : String → Addr} : OpD K ct (rAddX K) gAddM := by
  intro W σ io H A x y d e Q h rx ry p
  unfold gAddM at p
  split at p
  · rename_i xs ys h1 h2
    obtain ⟨a, us, rfl, q1, r1⟩ := asL_ok h rx h1
    obtain ⟨b, vs, rfl, q2, r2⟩ := asL_ok h ry h2
    split at p
    · rename_i hz
      exact .inr (.inr ⟨a, b, us, vs, rfl, rfl, q1, q2, by rw [r1.length, r2.length]; exact hz, fun q hq => Post.num p h hq ⟨_, upd_same, (r1.append r2).mono (Ext.num hq) h.noT⟩⟩)
    · exact p.elim
  · exact p.elim
/-! ### a tuple times a number -/
def rRepF (K : PySem.W.Frag) : R2 := fun x y H Q => ∃ l k xs, x = .ref l ∧ y = .int k ∧ SqT K H l xs ∧ xs ≠ [] ∧ 2 ≤ k ∧ k ≤ 1000 ∧ xs.length ≤ 1000 ∧ ∀ (p : Addr) (o : Obj), o.dict = none → H p = none → Q (.ref p) (upd H p (.frz o (.tup (List.replicate k.toNat xs).flatten)))
theorem op_repF {X : Cx} : OpR X (binaryOp .Mult) (rRepF X.K) := by
  intro pins s σ H x y v u Q I rx ry h
  obtain ⟨l, k, xs, rfl, rfl, hT, hne, h1, h2, hz, q⟩ := h
  cases rx
  obtain ⟨t, rfl⟩ := ry
  obtain ⟨its, r, ⟨⟨cls, dd, data, sl⟩, ho, hc, n, hd⟩, hs⟩ := I.tuple hT
  simp only at hc hd
  subst hc hd
  have hle : its.length = xs.length := r.length.symm
  have hn : its ≠ [] := fun e => hne (by
    rw [e] at hle
    exact List.eq_nil_of_length_eq_zero hle.symm)
  have hi : its.toArray.isEmpty = false := by
    cases its with
    | nil => exact absurd rfl hn
    | cons a b => rfl
  have hsz0 : its.toArray.size = xs.length := by rw [List.size_toArray, hle]
  have hm : ((its.toArray.size : Nat) : Int) * k ≤ 1000000 := by
    rw [hsz0]
    have a1 : ((xs.length : Nat) : Int) * k ≤ 1000 * k := Int.mul_le_mul_of_nonneg_right (by omega) (by omega)
    omega
  have flen : (List.replicate k.toNat its).flatten.length ≤ sizeLine := by
    rw [PyProof.Rows.lm_len_rep_flat, hle, sizeLine_eq]
    have a1 : k.toNat * xs.length ≤ 1000 * 1000 := Nat.mul_le_mul (by omega) hz
    omega
  have c0 : (decide (k < -(2 ^ 63)) || decide (k ≥ 2 ^ 63)) = false := by
    rw [decide_eq_false (by omega), decide_eq_false (by omega)] <;> rfl
  have c1 : (its.toArray.isEmpty || k == 1) = false := by
    rw [hi, Bool.false_or]
    exact beq_eq_false_iff_ne.mpr (by omega)
  have c2 : (decide (k ≤ 0) || its.toArray.isEmpty) = false := by
    rw [hi, Bool.or_false]
    exact decide_eq_false (by omega)
  have c4 : Builtin.Tuple.tupleTooMany (((its.toArray.size : Nat) : Int) * k) = false := by
    unfold Builtin.Tuple.tupleTooMany
    rw [sizeLine_eq]
    exact decide_eq_false (by omega)
  refine wpAny_binaryOp_repeat_ref (T := "tuple") (U := "int") (by decide) ⟨_, ho, rfl⟩ (fun s' => typeIs_int s' k t) noFill_tuple_mul F.fills_int_mul F.slot_int_rmul repeat_tuple F.slot_int_index.lookup
    (call_meets F.slot_int_rmul (typeIs_int s k t) F.entry_int_rmul (F.args_int_rmul_2 _ _) (int_rmul_tuple k t l its.toArray n dd sl)
      ⟨ho, rfl, ⟨_, ho, rfl⟩, call_meets F.slot_tuple_mul ⟨_, ho, rfl⟩ F.entry_tuple_mul (F.args_tuple_mul_2 _ _) (tuple_mulW l its.toArray n dd sl k t c0 c1 c2 (by omega) c4 (by rw [size_rep, List.size_toArray]; exact flen)) ⟨ho, ?_⟩⟩)
  rw [size_rep]
  have get : (s.heap.push ({ cls := .type "tuple", data := .seq (List.replicate k.toNat its).flatten.toArray } : Obj)).get? s.heap.objs.size = some { cls := .type "tuple", data := .seq (List.replicate k.toNat its).flatten.toArray } := Heap.get?_push_size _ rfl
  refine ⟨.ref s.heap.objs.size, _, I.laid (t' := s.toks) (o := .frz { cls := .type "tuple", data := .seq (List.replicate k.toNat its).flatten.toArray } (.tup (List.replicate k.toNat xs).flatten)) (fun b ob q => Heap.get?_push_of_some _ q) (Nat.le_refl _) ⟨get, ?_, _, r.rep k.toNat, ⟨_, get, rfl, _, rfl⟩⟩, rfl, q _ _ rfl (I.hok.fresh (Nat.le_refl _))⟩
  rw [PyProof.Rows.lm_len_rep_flat, sizeLine_eq]
  have a1 : k.toNat * xs.length ≤ 1000 * 1000 := Nat.mul_le_mul (by omega) hz
  omega
def gMulT (d e : D) (A : Hd) : R D := match d, e with
  | .tup (x :: xs), .int k => if 2 ≤ k ∧ k ≤ 1000 ∧ (x :: xs).length ≤ 1000 then .ok (.tup (List.replicate k.toNat (x :: xs)).flatten) A else .stk
  | _, _ => .stk
theorem gMulT_ok {K : PySem.W.Frag} {ct : String → Addr} : OpD K ct (rRepF K) gMulT := by
  intro W σ io H A x y d e Q h rx ry p
  unfold gMulT at p
  split at p
  · rename_i z zs k
    cases rx with
    | @tup a xs _ q rs =>
      cases ry
      split at p
      · rename_i hz
        refine ⟨a, k, xs, rfl, rfl, q.sq, fun e => ?_, hz.1, hz.2.1, by rw [rs.length]; exact hz.2.2, fun pp o ho hp => p.new h hp (.newTup h hp ho (rs.flatrep _))⟩
        rw [e] at rs
        cases rs
      · exact p.elim
  · exact p.elim
/-! ### repr, of {} too -/
def rReprX (K : PySem.W.Frag) : List V → Hp → VK → Prop := fun xs H Q => rRepr K xs H Q ∨ ∃ a, xs = [.ref a] ∧ H a = some (.dK []) ∧ Q (.str "{}") H
theorem call_reprX {X : Cx} (hg : X.A.guards = some []) (hu : X.A.units + 64 < cLine) : CallR X (.builtin "repr") (rReprX X.K) := by
  intro pins s σ H xs us Q I r h
  rcases h with h | ⟨a, rfl, ha, q⟩
  · exact call_repr hg hu pins s σ H xs us Q I r h
  · obtain ⟨u, rfl, rx⟩ := vals1 r
    cases rx
    obtain ⟨hz, hS, vs, rv, o, es, ep, ho, hx, hd, _, hp, _⟩ := dk_of I.hok ha
    have ev : vs = [] := by cases rv; rfl
    subst ev
    have nilP : ∀ {l : List DictEntry}, Pairs (mixKind X.prog X.w) l [] → l = [] := fun h => by cases h; rfl
    have ee : es.toList = [] := nilP hp
    have rd : Reads s.heap (.ref a) (.dict []) (a :: [] ++ []) := .dict (n := ep) ho hx.1 hd (by rw [ee]; exact .nil) (by rw [ee]; exact .nil)
    have d2 : (PyData.dict []).depth ≤ 2 := by decide +kernel
    have l2 : (PyData.dict []).shown.length ≤ sizeLine := by
      have := sz1000
      have h2 : (PyData.dict []).shown.length = 2 := by decide +kernel
      omega
    refine repr_of_reads' rd rfl (fun _ hm => ?_) hg (by omega) (fun _ _ e => e) (fun h' u tk hk => ?_) l2
    · have : sysModules = a := by simpa using hm
      rw [← this] at hS
      simp at hS
    · exact ⟨.str "{}", H, I.kept (t' := tk) hk, ⟨_, rfl⟩, q⟩
def gReprX (ds : List D) (A : Hd) : R D := match ds with
  | [.dic []] => .ok (.str "{}") A
  | ds => gRepr ds A
theorem gReprX_ok {K : PySem.W.Frag} {ct : String → Addr} : CaD K ct (rReprX K) gReprX := by
  intro W σ io H A xs ds Q h r p
  unfold gReprX at p
  split at p
  · cases r with
    | cons r rs =>
      cases rs
      cases r with
      | @dic a kvs _ n q k rs =>
        have : kvs = [] := by cases kvs with
          | nil => rfl
          | cons _ _ => cases k
        subst this
        exact .inr ⟨a, rfl, q, p.here h (.str _)⟩
  · exact .inl (gRepr_ok W σ io H A xs ds Q h r p)
end DV

set_option Elab.async false
set_option linter.all false
set_option maxRecDepth 100000
set_option maxHeartbeats 1000000
/-! ExF: an exception class, from what the top has written. -/
namespace DV
open PySem PySem.Spec PyProof.Rows L2 NdefX
/-- the j-th statement of the class that is the top's i-th -/
def clsBody : Stmt → List Stmt
  | .ClassDef _ _ _ body _ _ _ _ _ _ _ => body
  | _ => []
abbrev initF (st : Stmt) (qual : Str) (cc co : Addr) : NF := ⟨"__init__", qual, defArgs st, defBody st, defScope st, [(("__class__" : Str), cc)], co⟩
/-- what the written part says of such a class -/
structure ClsW (P : Program) (K : PySem.W.Frag) (B newId initId : String) (tl : List Value) (C f cc co : Addr) (st : Stmt) (qual : Str) : Prop where
  lC : ∃ nm q N bs bm sn sub ab col dd k0 k1 k2 k3 k5, K.lookup C = some (excClassObj nm q C N bs bm true sn sub ab col dd k0 k1 k2 k3 k5 newId) ∧ refsT tl bm = true
  sC : PySem.W.findIn K (.ref C) "__setattr__" = some (some (.builtin "object.__setattr__"))
  eC : PySem.W.subIn K (.ref C) (.type "BaseException") = some true
  tC : PySem.W.typeIn K (.ref C) = some (.type "type")
  kC : PySem.W.keepIn K (.ref C) = true
  iC : PySem.W.findIn K (.ref C) "__init__" = some (some (.ref f))
  tI : PySem.W.typeIn K (.ref f) = some (.type "function")
  lF : ∃ oc od doc pm ctv osl, K.lookup f = some ⟨oc, od, .func ((initF st qual cc co).fd doc pm ctv), osl⟩
  cI : PySem.W.codeIn K (.ref co) qual = true
  lco : ∃ ccl cdd vs ccs file tf, K.lookup co = some ⟨ccl, cdd, .fields vs, ccs⟩ ∧ vs[2]? = some (.str file tf) ∧ ((P.main.file : Str) == file) = true
  lcc : ∃ cl cld csl, K.lookup cc = some ⟨cl, cld, .cell (some (.ref C)), csl⟩
  sup : PySem.W.ks_superIn K C C "__init__" = some (some (.builtin initId))
  sub : PySem.W.subIn K (.ref C) (.type B) = some true
  mro : PySem.W.mroIn K C (.ref C) = some true
  opq : PySem.W.nsIn K cStatics "thirdparty.any" = some none
  top : (P.main.scope.names.lookup ("super" : Str)).isSome = false
/-- what the text says of its __init__ -/
structure InitW (st : Stmt) (slf : Str) (ps' N ns : List Str) : Prop where
  scope : NScope N (slf :: ps') ["__class__"] (defScope st)
  ks : (defScope st).names.lookup ("super" : Str) = some NameKind.globalImplicit
  first : ∃ ar : Arg, ((defArgs st).posonlyargs ++ (defArgs st).args).head? = some ar ∧ ar.arg = slf
  bind : ∀ (qual : Str) (cc co : Addr) (doc pm ctv : Value) (us : List Value), us.length = (slf :: ps').length → bindArgs ((initF st qual cc co).fd doc pm ctv) ⟨us, []⟩ = pure ((slf :: ps').zip us)
  body : ∃ (p0 p1 p2 p3 p4 cp : Pos) (txt : Str) (j : Nat) (rest : List Stmt) (pl : PySem.Env → Sem Bool), defBody st = supSt p0 p1 p2 p3 p4 cp txt j :: rest ∧
    (∀ env : PySem.Env, eval (.Call (.Attribute (.Call (.Name "super" p0) [] [] p1) "__init__" p2) [.Constant (.str txt) j cp] [] p3) env = (do
      let ov ← attributeBase (.Call (.Name "super" p0) [] [] p1) "__init__" env (eval (.Call (.Name "super" p0) [] [] p1) env)
      standAt p2.atName
      let (f, first) ← holding [ov] (getMethod ov "__init__" (pl env))
      callWith p3 f first (backTo p3 (starEach [.Constant (.str txt) j cp] env)) [])) ∧
    ∀ (P : Program) (w : World) (K : PySem.W.Frag) (mg : Str → Option Value) (base : Heap) (qual : Str) (cc co f : Addr) (A : Around) (outer : List PySem.Env) (s : Shared) (H : Hp) (E : XK), PSs (ncx (L2.CX P w) P w K mg base N (initF st qual cc co) f A outer s H E) rest (trF K ns 1)
theorem calX_mk {P : Program} {w : World} {K : PySem.W.Frag} {mg : Str → Option Value} {base : Heap} {ct : String → Addr} {x : Str} {c : String} {ns : List Str} {C f cc co : Addr} {st : Stmt} {qual slf : Str} {ps' N : List Str} {B newId initId : String} {tl : List Value} (Bb : BaseB B newId initId tl)
    (hct : ct c = C) (hmg : mg x = some (.ref C)) (hs : mg "super" = none) (hn : ∀ g ∈ ns, PySem.W.findIn K (.ref C) g = some none) (h0 : ns ≠ []) (hf : ns.length ≤ 900) (hps : ps'.length = ns.length) (W : ClsW P K B newId initId tl C f cc co st qual) (T : InitW st slf ps' N ns) : CalX P w K mg base ct x c ns := by
  subst hct
  have O : OexG K (ct c) newId tl := ⟨W.lC, W.sC, W.eC, W.tC, W.kC⟩
  obtain ⟨oc, od, doc, pm, ctv, osl, lF⟩ := W.lF
  obtain ⟨p0, p1, p2, p3, p4, cp, txt, j, rest, pl, hb, he, hr⟩ := T.body
  have S : SupC P K B initId (ct c) f (initF st qual cc co) slf := ⟨⟨oc, od, doc, pm, ctv, osl, lF⟩, T.first, W.lco, ⟨cc, rfl, W.lcc⟩, W.sup, W.sub, W.mro, W.opq, W.top, T.ks, T.scope.frk _ (by simp), T.scope.par _ (by simp)⟩
  refine ⟨⟨B, newId, initId, tl, Bb, O⟩, hmg, hn, h0, hf, f, (initF st qual cc co).fd doc pm ctv, slf :: ps', N, W.iC, W.tI, .all (T.bind qual cc co doc pm ctv), ?_⟩
  have F1 := supOk (w := w) (base := base) (mg := mg) (k := 0) (pl := pl) Bb S O lF T.scope hs W.cI hb he (fun A outer s H E => hr P w K mg base qual cc co f A outer s H E)
  exact F1.imp fun vs H Q E h => ⟨by rw [h.1, List.length_cons, hps], h.2⟩
/-- what makes isinstance and err.f answer -/
structure ClsX (K : PySem.W.Frag) (C : Addr) : Prop where
  ga : PySem.W.findIn K (.ref C) "__getattribute__" = some (some (.builtin "BaseException.__getattribute__"))
  gg : PySem.W.findIn K (.ref C) "__getattr__" = some none
  eC : PySem.W.subIn K (.ref C) (.type "BaseException") = some true
  hd : PySem.W.hasDictIn K C = true
  ha : PySem.W.findIn K (.ref C) "__class__" = some (some (.builtin "object.__class__"))
  hn : PySem.W.specialIn K (.builtin "object.__class__") "__get__" = some (some (.builtin "getset_descriptor.__get__"))
  ht : PySem.W.takesIn K (.builtin "object.__class__") = some true
  hm : PySem.W.mroIn K C (.type "object") = some true
theorem ClsX.xf {K : PySem.W.Frag} {C : Addr} (h : ClsX K C) : XfC K C := ⟨h.ga, h.gg, h.eC, h.hd⟩
theorem ClsX.exc {K : PySem.W.Frag} {C : Addr} (h : ClsX K C) : L2.ExcC K C := ⟨h.ga, h.gg, h.eC, h.hd, h.ha, h.hn, h.ht, h.hm⟩
/-- a class that an except clause or isinstance names -/
theorem kit_own {K : PySem.W.Frag} {C : Addr} {t : Value} {b : Bool} (hd : PySem.W.hasDictIn K C = true) (ty : PySem.W.typeIn K (.ref C) = some (.type "type")) (h : PySem.W.subIn K t (.ref C) = some b) (hne : (t == .ref C) = true → b = true) : PySem.W.kitOne K t (.ref C) = some b := by
  obtain ⟨cd, hc, _⟩ := PySem.W.any_some hd
  unfold PySem.W.kitOne
  by_cases q : (t == Value.ref C) = true
  · rw [if_pos q, hne q]
  · rw [if_neg q]
    have e2 : ((PySem.W.clsIn K C).isSome && PySem.W.typeIn K (.ref C) == some (.type "type")) = true := by rw [hc, ty] <;> rfl
    show (if ((PySem.W.clsIn K C).isSome && PySem.W.typeIn K (.ref C) == some (.type "type")) = true then PySem.W.subIn K t (.ref C) else none) = some b
    rw [if_pos e2]
    exact h
end DV

set_option Elab.async false
set_option linter.all false
set_option maxRecDepth 100000
set_option maxHeartbeats 1000000
/-! ExP: C(e, ..) as a value, C an own exception class; isinstance(err, (C, D, ..)); a, b, .. = a list. -/
namespace DV
open PySem PySem.Spec PyProof.Rows L2 NdefX
/-- C(e, ..) as a value -/
def tNewB (C : Addr) (sp : Sp) (dvs : List V) (ta : TA) : TE := fun σ H Q => ta σ H fun vs H1 => vs.length ≤ 1000 ∧ ∀ a, H1 a = none → sp (.ref a :: (vs ++ dvs)) (upd H1 a (exo a C none))
  (fun v H2 => v = .non ∧ ∃ (d : Addr) (fs : List (Str × V)), H2 a = some (exo a C (some d)) ∧ H2 d = some (exd d fs) ∧ H1 d = none ∧ Q (.ref a) (upd (upd H2 a (EO (.ref C) (some d) a)) d (.xd fs))) (fun _ _ _ => False)
section
variable {X : Cx} {e : Expr} {es : List Expr} {ta : TA} {p pos : Pos}
theorem newB_end {pins : List (Addr × Obj)} {σ : L2.St} {H1 H2 : Hp} {hp hp2 h2 : Heap} {g1 g2 : Array GenState} {d1 d2 : Drawn} {t1 t2 : Nat} {os1 os2 : OsState} {a C d : Addr} {fs : List (Str × V)} (I1 : Inv X pins σ H1 ⟨hp, g1, d1, t1, os1⟩)
    (ha : hp.objs.size ≤ a) (k : ∀ b o, hp.get? b = some o → hp2.get? b = some o) (un : Un (frs X.stack) [] (upd H1 a (exo a C none)) H2 hp2 h2) (hok : HOk X.prog X.w H2 h2) (ho : os2 = os1) (hb : AllBare g2)
    (ea : H2 a = some (exo a C (some d))) (ed : H2 d = some (exd d fs)) (hd1 : H1 d = none) : Inv X pins σ (upd (upd H2 a (EO (.ref C) (some d) a)) d (.xd fs)) ⟨h2, g2, d2, t2, os2⟩ := by
  obtain ⟨t0, hoe⟩ := exo_at hok ea
  obtain ⟨mA, hns, rel⟩ := exd_at hok ed
  have hn : H1 a = none := I1.hok.fresh ha
  have hda : d ≠ a := fun z => by
    obtain ⟨o, es, ep, e1, e2, _⟩ := hns
    rw [z, hoe] at e1
    have z2 := Option.some.inj e1
    subst z2
    cases e2
  have nha : ∀ {b : Addr} {o : Obj}, hp.get? b = some o → b ≠ a := fun {b o} z => Nat.ne_of_lt (Nat.lt_of_lt_of_le (Heap.lt_size z) ha)
  have up : ∀ {b : Addr}, b ≠ a → H1 b = none → upd H1 a (exo a C none) b = none := fun {b} hb n => by rw [upd_ne hb]; exact n
  have nd : ∀ {b : Addr} {o : Obj}, hp.get? b = some o → H1 b = none → b ≠ d := fun {b o} z n e => by
    have y := un.free b o (k b o z) (up (nha z) n) (by simp)
    rw [e, ed] at y
    cases y
  have old : ∀ {b : Addr} {o : HO}, H1 b = some o → b ≠ a ∧ b ≠ d := fun {b o} z => ⟨ne_of_none z hn, ne_of_none z hd1⟩
  have U : Un (frs X.stack) [] H1 (upd (upd H2 a (EO (.ref C) (some d) a)) d (.xd fs)) hp h2 := {
    keep := fun b o z n hf hx => un.keep b o (k b o z) (up (nha z) n) hf hx
    slot := fun b o z n hf hx => un.slot b o (k b o z) (up (nha z) n) hf hx
    free := fun b o z n hx => by
      rw [upd_ne (nd z n), upd_ne (nha z)]
      exact un.free b o (k b o z) (up (nha z) n) hx
    there := fun b o z hx => un.there b o (k b o z) hx
    tups := fun b xs z => by
      rw [upd_ne (old z).2, upd_ne (old z).1]
      exact un.tups b xs (by rw [upd_ne (old z).1]; exact z)
    frzs := fun b o v z => by
      rw [upd_ne (old z).2, upd_ne (old z).1]
      exact un.frzs b o v (by rw [upd_ne (old z).1]; exact z)
    tbls := fun b ps z => by
      rw [upd_ne (old z).2, upd_ne (old z).1]
      exact un.tbls b ps (by rw [upd_ne (old z).1]; exact z) }
  have hok3 : HOk X.prog X.w (upd (upd H2 a (EO (.ref C) (some d) a)) d (.xd fs)) h2 := fun b o z => by
    by_cases hbd : b = d
    · subst hbd
      rw [upd_same] at z
      cases z
      exact ⟨mA, hns, rel⟩
    · rw [upd_ne hbd] at z
      by_cases hba : b = a
      · subst hba
        rw [upd_same] at z
        cases z
        exact eo_ok hoe ⟨rfl, rfl⟩ rfl
      · rw [upd_ne hba] at z
        exact (hok b o z).stay (fun c v _ q => q) (fun c hc => by rw [upd_ne (at_ne ed hc exd_own), upd_ne (at_ne ea hc exo_own)]; exact hc) (fun c xs hc => by rw [upd_ne (at_ne ed hc exd_tup), upd_ne (at_ne ea hc exo_tup)]; exact hc)
  exact I1.call' (ch := []) ho U hok3 hb (fun b z => absurd z (by simp))
theorem pe_newB {CX : CXT} {x : Str} {C fI : Addr} {k : Nat} {fd : FuncData} {ps : List Str} {sp : Sp} {ds : List Value} {dvs : List V} (T : OexB X.K C) (iC : PySem.W.findIn X.K (.ref C) "__init__" = some (some (.ref fI))) (tI : PySem.W.typeIn X.K (.ref fI) = some (.type "function"))
    (F1 : FnOk X.prog X.w X.K X.mg X.base CX k fI fd ps sp) (hr : Room (k + 1) X.A) (hb : Binds X.K fd ps ds) (hd : Vals dvs ds) (hx : Passes CX X (fun _ _ _ => False)) (hg : Gl X x) (hm : X.mg x = some (.ref C)) (ha : PA X (e :: es) ta)
    (hdb : (x == ("__debug__" : Str)) = false := by decide) (he : starEach (e :: es) X.env = (false, eval e X.env) :: starEach es X.env := by rfl) (hpl : (backTo pos (starEach es X.env)).any (·.1) = false := by rfl) :
    PE X (.Call (.Name x p) (e :: es) [] pos) (tNewB C sp dvs ta) := by
  refine ⟨fun pins s σ H Q I h => ?_⟩
  obtain ⟨B, newId, initId, tl, Bb, T0⟩ := id T
  refine wpAny_Call_Name_kw (ld_glob I hg hm ?_ hdb)
  refine PySem.W.callWith_K (h₀ := X.base) I.ok.mod.kin T0.kC (thn (ha.run pos pins s σ H _ I h) fun us s1 ⟨vs, H1, I1, r1, hz, q1⟩ => ⟨I1.kIn, ?_⟩) he hpl
  show wpAny _ _ (call (.ref C) us) _ _ _
  obtain ⟨hp, g, dr, tk, os⟩ := s1
  have hsz : hp.objs.size ≤ hp.objs.size + 1 := Nat.le_succ _
  refine mkB_call T iC tI F1 hr hb hd I1 r1 hz (q1 (hp.objs.size + 1) (I1.hok.fresh hsz)) hx (fun u v H2 s' rv qv kk os2 bare2 un2 hok2 eu => ?_) fun v H2 qv => qv.1
  obtain ⟨ev, d, fs, ea, ed, hd1, q2⟩ := qv
  obtain ⟨h2, g2, d2, t2, os'⟩ := s'
  exact ⟨.ref (hp.objs.size + 1), _, newB_end I1 hsz kk un2 hok2 os2 bare2 ea ed hd1, rfl, q2⟩
end
def gNew (c : String) (ns : List Str) (ds : List D) (A : Hd) : R D := if ds.length = ns.length then .ok (.ref A.length) (A ++ [.exc c (ns.zip ds).reverse]) else .stk
section
variable {X : Cx} {ct : String → Addr} {W : WX} {x : Str} {c : String} {ns : List Str} {p pos rpos : Pos} {e : Expr} {es : List Expr} {fl : AF}
theorem pd_new (cx : CalX X.prog X.w X.K X.mg X.base ct x c ns) (hr : Room 2 X.A) (hp : Passes (L2.CX X.prog X.w) X (fun _ _ _ => False)) (hg : Gl X x) (ha : PDa X ct W (e :: es) fl)
    (hdb : (x == ("__debug__" : Str)) = false := by decide) (he : starEach (e :: es) X.env = (false, eval e X.env) :: starEach es X.env := by rfl) (hpl : (backTo pos (starEach es X.env)).any (·.1) = false := by rfl) :
    PD X ct W (.Call (.Name x p) (e :: es) [] pos) (eArgs (gNew c ns) fl) := by
  obtain ⟨fI, fd, ps, N, h1, h2, hb, F1⟩ := cx.ex
  refine pe_mono (pe_newB (dvs := []) cx.oex h1 h2 F1 hr hb .nil hp hg cx.mg_ ha hdb he hpl) fun σ H Q ⟨io, A, ro, s, q⟩ => ?_
  refine ⟨io, A, ro, s, (Post.bind (rep := DRs X.K ct) q).mono fun vs H1 ⟨io1, A1, ds, e1, hr1, rs, q1⟩ => ?_⟩
  unfold gNew at q1
  split at q1
  · rename_i hl
    have hlv : vs.length = ns.length := rs.length.trans hl
    have hfew := cx.few
    refine ⟨by omega, fun a na => ⟨by rw [List.append_nil, List.length_cons, hlv], a, vs, by rw [List.append_nil], upd_same, ?_⟩⟩
    rw [List.append_nil]
    refine trF_new cx.oex (a := a) rfl cx.some_ upd_same cx.nof hlv (fun j v hv => ?_) cx.few fun d hd hne => ⟨rfl, d, (ns.zip vs).reverse, upd_same, by rw [upd_ne hne]; exact upd_same, by rw [upd_ne hne] at hd; exact hd, ?_⟩
    · unfold startF
      rw [List.getElem?_append_left (by rw [List.length_map, List.length_cons]; have := (List.getElem?_eq_some_iff.mp hv).1; omega), List.getElem?_map, show 1 + j = j + 1 by omega, List.getElem?_cons_succ, hv]
      rfl
    · have hd1 : H1 d = none := by rw [upd_ne hne] at hd; exact hd
      have eH : upd (upd (upd (upd (upd H1 a (exo a (ct c) none)) d (exd d (ns.zip vs).reverse)) a (exo a (ct c) (some d))) a (EO (.ref (ct c)) (some d) a)) d (.xd (ns.zip vs).reverse) = upd (upd H1 d (.xd (ns.zip vs).reverse)) a (EO (.ref (ct c)) (some d) a) := by
        funext b
        by_cases hbd : b = d
        · rw [hbd, upd_same, upd_ne hne, upd_same]
        · rw [upd_ne hbd]
          by_cases hba : b = a
          · rw [hba, upd_same, upd_same]
          · rw [upd_ne hba, upd_ne hba, upd_ne hbd, upd_ne hba, upd_ne hba, upd_ne hbd]
      rw [eH]
      have hr2 : HR X.K ct io1 (upd H1 d (.xd (ns.zip vs).reverse)) A1 := hr1.laid hd1
      have na2 : upd H1 d (.xd (ns.zip vs).reverse) a = none := by rw [upd_ne (Ne.symm hne)]; exact na
      have xr : XR X.K ct io1 (upd H1 d (.xd (ns.zip vs).reverse)) (.own c) (ns.zip ds).reverse (.ref (ct c)) (some d) := ⟨rfl, .inr ⟨d, (ns.zip vs).reverse, rfl, hr1.ne hd1, upd_same, by
        rw [List.map_reverse, List.map_reverse, List.map_fst_zip (by omega), List.map_fst_zip (by omega)], by
        rw [List.map_reverse, List.map_reverse, List.map_snd_zip (by omega), List.map_snd_zip (by omega)]
        exact (rs.laid hr1 hd1).reverse⟩⟩
      exact Post.num (Post.ext (Ext.laid hd1) q1) hr2 na2 (XR.mexc hr2 xr na2)
  · exact q1.elim
end
/-! ### isinstance(err, (C, D, ..)) -/
def clsD : List D → Option (List Cl)
  | [] => some []
  | .cls k :: r => (clsD r).map (k :: ·)
  | _ :: _ => none
def anyB (sb : String → Cl → Option Bool) (c : String) : List Cl → Option Bool
  | [] => some false
  | k :: r => match sb c k with
    | some true => some true
    | some false => anyB sb c r
    | none => none
def gIsaY (xs : List String) (sb : String → Cl → Option Bool) (ds : List D) (A : Hd) : R D := match ds with
  | [.ref n, .tup cs] => (match A[n]?, clsD cs with
    | some (.exc c (_ :: _)), some ks => if c ∈ xs then (match anyB sb c ks with
      | some b => .ok (.bl b) A
      | none => .stk) else .stk
    | _, _ => .stk)
  | ds => gIsaX xs sb ds A
theorem clsD_rel {K : PySem.W.Frag} {ct : String → Addr} {io : Io} {H : Hp} : ∀ {vs : List V} {ds : List D} {ks : List Cl}, DRs K ct io H vs ds → clsD ds = some ks → ∀ us, Vals vs us → us = ks.map (ClV ct)
  | [], [], ks, .nil, e, us, r => by
    cases e
    cases r
    rfl
  | v :: vs, d :: ds, ks, .cons h hs, e, us, r => by
    cases d with
    | cls k =>
      unfold clsD at e
      cases hr : clsD ds with
      | none => rw [hr] at e; cases e
      | some ks' =>
        rw [hr] at e
        cases e
        cases r with
        | cons r0 rr =>
          rw [clsD_rel hs hr _ rr]
          cases h with
          | ty t => rw [show _ = ClV ct (.bi t) from r0]; rfl
          | own t => rw [show _ = ClV ct (.own t) from r0]; rfl
    | _ => cases e
theorem IsT.any {K : PySem.W.Frag} {ct : String → Addr} {xs : List String} {sb : String → Cl → Option Bool} (T : IsT K ct xs sb) {c : String} : ∀ {ks : List Cl} {b : Bool}, anyB sb c ks = some b → PySem.W.kitAny K (.ref (ct c)) (ks.map (ClV ct)) = some b
  | [], b, e => e
  | k :: ks, b, e => by
    unfold anyB at e
    rw [List.map_cons]
    unfold PySem.W.kitAny
    split at e
    · rename_i h
      rw [T.sub c k true h]
      exact e
    · rename_i h
      rw [T.sub c k false h]
      exact T.any e
    · cases e
def rIsY (K : PySem.W.Frag) : List V → Hp → VK → Prop := fun xs H Q => rIsX K xs H Q ∨ ∃ (a C : Addr) (dx : Addr) (fs : List (Str × V)) (tp : Addr) (cs : List V) (us : List Value) (b : Bool), xs = [.ref a, .ref tp] ∧ H a = some (EO (.ref C) (some dx) a) ∧ H dx = some (.xd fs) ∧ L2.ExcC K C ∧ SqT K H tp cs ∧ (∀ ws, Vals cs ws → ws = us) ∧ PySem.W.kitAny K (.ref C) us = some b ∧ Q (.bl b) H
theorem call_isY {X : Cx} : CallR X (.builtin "isinstance") (rIsY X.K) := by
  intro pins s σ H xs us Q I r h
  rcases h with h | ⟨a, D, dx, fs, tp, cs, ws, b, rfl, ha, hdx, C, ht, hcs, e, q⟩
  · exact call_isX pins s σ H xs us Q I r h
  · obtain ⟨u1, u2, rfl, r1, r2⟩ := vals2 r
    cases (show u1 = Value.ref a from r1)
    cases (show u2 = Value.ref tp from r2)
    obtain ⟨oe, vs, ho, hz, hd⟩ := eo_at I.hok ha
    have hx : ObjOk X.prog X.w H s.heap dx (.xd fs) := I.hok dx _ hdx
    obtain ⟨mA, ⟨od, es, ep, ho2, _⟩, hr⟩ := hx
    have J : PySem.W.InstAt s.heap a oe D (some od) := ⟨ho, hz.1, by unfold PySem.W.notCls; rw [hd] <;> rfl, by rw [hz.2]; exact ho2⟩
    obtain ⟨cd, hcd, _⟩ := PySem.W.any_some C.hd
    obtain ⟨its, r3, p3, _⟩ := I.tuple ht
    have e3 := hcs _ r3
    subst e3
    obtain ⟨o, h1, h2, n, h3⟩ := p3
    obtain ⟨oc, od2, dt, sl⟩ := o
    simp only at h2 h3
    subst h2 h3
    exact PySem.W.kia_tup (PySem.W.kitx_exc (by rw [hcd]; rfl) C.hg C.hk C.hs C.ha C.hn C.ht C.hm) I.kIn J h1 e (fun z => nomatch z) fun tk => ⟨.bl b, H, I.kept (t' := tk) fun _ _ z => z, rfl, q⟩
theorem gIsaY_ok {K : PySem.W.Frag} {ct : String → Addr} {xs : List String} {sb : String → Cl → Option Bool} (T : IsT K ct xs sb) : CaD K ct (rIsY K) (gIsaY xs sb) := by
  intro W σ io H A vs ds Q h r p
  unfold gIsaY at p
  split at p
  · rename_i n cs
    split at p
    · rename_i c f0 f1 ks hm hk
      split at p
      · rename_i hc
        split at p
        · rename_i b hb
          cases r with
          | cons r1 r2 =>
            cases r2 with
            | cons r2 r3 =>
              cases r3
              cases r1 with
              | @ref a _ q =>
                obtain ⟨dd, e2, z⟩ := h.get q hm
                rcases z with z | ⟨pp, gs, g1, g2, g3, g4, g5⟩
                · cases z
                · subst g1
                  cases r2 with
                  | tup t rs => exact .inr ⟨a, ct c, pp, gs, _, _, ks.map (ClV ct), b, rfl, e2, g3, T.cls c hc, t.sq, fun ws hw => clsD_rel rs hk ws hw, T.any hb, p.here h (.bl _)⟩
        · exact p.elim
      · exact p.elim
    · exact p.elim
  · exact .inl (gIsaX_ok T W σ io H A vs _ Q h r p)
/-! ### a, b, .. = a list (or a tuple) -/
def gSeqT (K : PySem.W.Frag) (n : Nat) (t : TGs) : TG := fun v σ H Q => ∃ a xs, v = .ref a ∧ (SqL K H a xs ∨ SqT K H a xs) ∧ xs.length = n ∧ t xs σ H Q
theorem pg_seqT {X : Cx} {es : List Expr} {k : Nat} {t : TGs} {n : Nat} {pos : Pos} (hc : X.calm = true) (h : PGs X es t)
    (hn : (assignEach es X.env).length = n := by rfl) (hst : (assignEach es X.env).findIdx? (·.1) = none := by rfl) : PG X (.Tuple es k pos) (gSeqT X.K n t) := by
  refine ⟨fun pins s σ H v u Q I r hw => ?_⟩
  obtain ⟨a, xs, e1, hq, hl, hw⟩ := hw
  subst e1
  cases r
  rcases hq with hq | hq
  · obtain ⟨its, rv, ⟨o, m, ho, hcl, hd, hs⟩, hz⟩ := I.list hq
    have hL : s.heap.IsList a its.toArray := ⟨o, ho, hcl, m, hs⟩
    rw [assign_Tuple]
    refine wpAny_bind (wpAny_standAt ?_)
    unfold unpack
    rw [show (assignEach es X.env).length = its.toArray.size by simp [hn, ← hl, rv.length], hst]
    refine wpAny_bind (wpAny_holding (PySem.W.kun_itemsOf (I.ok.hd hc) hL fun h' hx => ?_))
    have I1 : Inv X pins σ H { s with heap := h' } := I.kept (t' := s.toks) fun b o e => hx b o (Nat.ne_of_lt (Heap.lt_size e)) e
    exact h.run pins _ σ H xs _ Q I1 (by simpa using rv) hw
  · exact (pg_tup hc h hn hst).run pins s σ H (.ref a) (.ref a) Q I rfl ⟨a, xs, rfl, hq, hl, hw⟩
def gTpq (gs : List GF) : GF := fun d ro A => match asQ A d with
  | some ds => if ds.length = gs.length then gTs gs ds ro A else .stk
  | none => .stk
theorem pgd_seq {X : Cx} {ct : String → Addr} {es : List Expr} {k : Nat} {gl : List GF} {pos : Pos} (hc : X.calm = true) (h : PGsD X ct es gl) (hn : (assignEach es X.env).length = gl.length := by rfl) (hst : (assignEach es X.env).findIdx? (·.1) = none := by rfl) : PGD X ct (.Tuple es k pos) (gTpq gl) :=
  pg_mono (pg_seqT hc h hn hst) fun v σ H Q ⟨io, A, ro, d, s, r, p⟩ => by
    unfold gTpq at p
    split at p
    · rename_i ds hq
      split at p
      · rename_i hl
        obtain ⟨a, xs, ev, hs, rs⟩ := asQ_ok s.hr r hq
        exact ⟨a, xs, ev, hs, by rw [rs.length]; exact hl, io, A, ro, ds, s, rs, p⟩
      · exact p.elim
    · exact p.elim
end DV

set_option Elab.async false
set_option linter.all false
set_option maxRecDepth 100000
set_option maxHeartbeats 1000000
/-! ExQ: repr of a list of empty dicts. -/
namespace DV
open PySem PySem.Spec PyProof.Rows L2
section
variable {X : Cx} {pins : List (Addr × Obj)} {σ : L2.St} {H : Hp} {s : Shared}
theorem reads_nil (I : Inv X pins σ H s) {a : Addr} (ha : H a = some (.dK [])) : a ≠ sysModules ∧ Reads s.heap (.ref a) (.dict []) [a] := by
  obtain ⟨hz, hS, vs, rv, o, es, ep, ho, hx, hd, _, hp, _⟩ := dk_of I.hok ha
  have ev : vs = [] := by cases rv; rfl
  subst ev
  have nilP : ∀ {l : List DictEntry}, Pairs (mixKind X.prog X.w) l [] → l = [] := fun h => by cases h; rfl
  have ee : es.toList = [] := nilP hp
  have rd : Reads s.heap (.ref a) (.dict []) (a :: [] ++ []) := .dict (n := ep) ho hx.1 hd (by rw [ee]; exact .nil) (by rw [ee]; exact .nil)
  exact ⟨fun z => by rw [z] at hS; simp at hS, rd⟩
theorem reads_nils (I : Inv X pins σ H s) : ∀ {ys : List V} {its : List Value}, (∀ y ∈ ys, ∃ b, y = V.ref b ∧ H b = some (.dK [])) → Vals ys its → ∃ as, ReadsAll s.heap its (ys.map fun _ => PyData.dict []) as ∧ sysModules ∉ as
  | [], _, _, r => by
    cases r
    exact ⟨[], .nil, by simp⟩
  | y :: ys, _, h, r => by
    cases r with
    | cons r1 r2 =>
      obtain ⟨b, rfl, hb⟩ := h y List.mem_cons_self
      obtain ⟨as, q1, q2⟩ := reads_nils I (fun z hz => h z (List.mem_cons_of_mem _ hz)) r2
      obtain ⟨n1, n2⟩ := reads_nil I hb
      cases r1
      refine ⟨[b] ++ as, .cons n2 q1, fun hm => ?_⟩
      rcases List.mem_append.mp hm with hm | hm
      · exact n1 (List.mem_singleton.mp hm).symm
      · exact q2 hm
end
theorem nils_depth : ∀ ys : List V, PyData.depthAll (ys.map fun _ => PyData.dict []) ≤ 1
  | [] => by decide +kernel
  | y :: ys => by
    rw [List.map_cons]
    unfold PyData.depthAll
    have := nils_depth ys
    have e : (PyData.dict []).depth ≤ 1 := by decide +kernel
    omega
theorem nils_show : ∀ ys : List V, PyData.showableAll (ys.map fun _ => PyData.dict []) = true
  | [] => rfl
  | y :: ys => by
    rw [List.map_cons]
    unfold PyData.showableAll
    rw [nils_show ys]
    rfl
/-- what repr shows of n empty dicts in a list -/
def nilsT (n : Nat) : Str := (PyData.list ((List.replicate n ()).map fun _ => PyData.dict [])).shown
def rReprN (K : PySem.W.Frag) : List V → Hp → VK → Prop := fun xs H Q => rReprX K xs H Q ∨ ∃ (a : Addr) (ys : List V), xs = [.ref a] ∧ SqL K H a ys ∧ (∀ y ∈ ys, ∃ b, y = V.ref b ∧ H b = some (.dK [])) ∧ (nilsT ys.length).length ≤ sizeLine ∧ Q (.str (nilsT ys.length)) H
theorem nils_eq (ys : List V) : (List.replicate ys.length ()).map (fun _ => PyData.dict []) = ys.map fun _ => PyData.dict [] := by
  induction ys with
  | nil => rfl
  | cons y ys ih => rw [List.length_cons, List.replicate_succ, List.map_cons, List.map_cons, ih]
theorem call_reprN {X : Cx} (hg : X.A.guards = some []) (hu : X.A.units + 64 < cLine) : CallR X (.builtin "repr") (rReprN X.K) := by
  intro pins s σ H xs us Q I r h
  rcases h with h | ⟨a, ys, rfl, ha, hn, hz, q⟩
  · exact call_reprX hg hu pins s σ H xs us Q I r h
  · obtain ⟨u, rfl, rx⟩ := vals1 r
    cases rx
    have ez : nilsT ys.length = listText (PyData.shownAll (ys.map fun _ => PyData.dict [])) := by
      unfold nilsT
      rw [nils_eq]
      simp only [PyData.shown]
    obtain ⟨its, rv, ⟨o, n, ho, hc, _, hd⟩, _⟩ := I.list ha
    obtain ⟨as, h4, hno⟩ := reads_nils I hn rv
    rw [ez] at hz
    obtain ⟨bs, hb, hk⟩ := ReprAllK.of_readsAll (prog := X.prog) (w := X.w) h4 (nils_show ys) (fun _ => hno) (fun t ht => Nat.le_trans (listText_mem_le ht) hz)
    have hdp := nils_depth ys
    have hna : a ∉ bs := not_mem_of_deeper (.list ho hc hd h4) (by simp only [PyData.depth]; omega) hb
    have fin : ∀ (h' : Heap) (u : Tok) (tk : Nat), (∀ b o, s.heap.get? b = some o → h'.get? b = some o) → ∃ (x : Str) (t : Tok), Value.str (listText (PyData.shownAll (ys.map fun _ => PyData.dict []))) u = .str x t ∧ EP X pins σ Q (Value.str (listText (PyData.shownAll (ys.map fun _ => PyData.dict []))) u) { s with heap := h', toks := tk } := fun h' u tk hk =>
      ⟨_, _, rfl, .str (nilsT ys.length), H, I.kept (t' := tk) hk, ⟨u, by rw [ez]⟩, q⟩
    have ty : s.TypeIs (.ref a) "list" := ⟨o, ho, hc⟩
    refine call_repr_slot (A := X.A) (by omega) ty F.slot_list_repr.toG ?_
    have hu2 : X.A.in1.units + 64 ≤ cLine + 1 := by
      show X.A.units + 1 + 64 ≤ cLine + 1
      omega
    cases its with
    | nil =>
      cases rv
      exact call_list_repr_empty ty ho hd (fin s.heap _ _ fun _ _ e => e)
    | cons x l =>
      exact call_list_reprK ho hc hd hna (by simpa using hk.length_eq) (fun i y e => hk.item i y (by simpa using e)) hg (fun b _ => Clear.nil b) (by omega) (fun _ _ e => e) fin hz
def allNil : List D → Bool
  | [] => true
  | .dic [] :: r => allNil r
  | _ :: _ => false
theorem allNil_rel {K : PySem.W.Frag} {ct : String → Addr} {io : Io} {H : Hp} : ∀ {vs : List V} {ds : List D}, DRs K ct io H vs ds → allNil ds = true → ∀ y ∈ vs, ∃ b, y = V.ref b ∧ H b = some (.dK [])
  | [], [], .nil, _ => fun y hy => by cases hy
  | v :: vs, d :: ds, .cons h hs, e => fun y hy => by
    cases d with
    | dic es =>
      cases es with
      | nil =>
        rcases List.mem_cons.mp hy with rfl | hy
        · cases h with
          | @dic a kvs _ n q k rs =>
            have : kvs = [] := by cases kvs with
              | nil => rfl
              | cons _ _ => cases k
            subst this
            exact ⟨a, rfl, q⟩
        · exact allNil_rel hs e y hy
      | cons _ _ => cases e
    | _ => cases e
def gReprN (ds : List D) (A : Hd) : R D := match ds with
  | [d] => (match asL A d with
    | some es => if allNil es = true ∧ es ≠ [] then (if (nilsT es.length).length ≤ sizeLine then .ok (.str (nilsT es.length)) A else .stk) else gReprX [d] A
    | none => gReprX [d] A)
  | ds => gReprX ds A
theorem gReprN_ok {K : PySem.W.Frag} {ct : String → Addr} : CaD K ct (rReprN K) gReprN := by
  intro W σ io H A xs ds Q h r p
  unfold gReprN at p
  split at p
  · rename_i d
    split at p
    · rename_i es hl
      split at p
      · rename_i hn
        split at p
        · rename_i hz
          cases r with
          | cons r rs =>
            cases rs
            obtain ⟨a, ys, rfl, q, rs⟩ := asL_ok h r hl
            refine .inr ⟨a, ys, rfl, .inl (.inl q), allNil_rel rs hn.1, by rw [rs.length]; exact hz, ?_⟩
            rw [rs.length]
            exact p.here h (.str _)
        · exact p.elim
      · exact .inl (gReprX_ok W σ io H A xs _ Q h r p)
    · exact .inl (gReprX_ok W σ io H A xs _ Q h r p)
  · exact .inl (gReprX_ok W σ io H A xs _ Q h r p)
end DV

set_option Elab.async false
set_option linter.all false
set_option maxRecDepth 100000
set_option maxHeartbeats 1000000
/-! ExR: isinstance and except by the classes' orders. -/
namespace DV
open PySem PySem.Spec PyProof.Rows L2
/-- what isinstance(an exception of c, k) answers -/
def sbM (anc : String → List Cl) (xs own bi : List String) (c : String) : Cl → Option Bool
  | .own y => if c ∈ xs ∧ y ∈ own then some (decide (Cl.own y ∈ anc c)) else none
  | .bi t => if c ∈ xs ∧ t ∈ bi then some (decide (Cl.bi t ∈ anc c)) else none
/-- what `except D` answers to an exception of k -/
def mtM (anc : String → List Cl) (xs : List String) (D : String) : Cl → Option Bool
  | .own c => if c ∈ xs then some (decide (Cl.own D ∈ anc c)) else none
  | .bi _ => none
/-- the classes' orders, as the written part has them -/
structure Ords (K : PySem.W.Frag) (ct : String → Addr) (anc : String → List Cl) (xs own bi : List String) : Prop where
  inj : (own.map ct).Nodup
  sub : ∀ c ∈ xs, c ∈ own
  mro : ∀ c ∈ xs, ∀ v, PySem.W.mroIn K (ct c) v = some (((anc c).map (ClV ct)).contains v)
  self : ∀ c ∈ xs, Cl.own c ∈ anc c
  anco : ∀ c ∈ xs, ∀ y, Cl.own y ∈ anc c → y ∈ own
  exc : ∀ c ∈ xs, L2.ExcC K (ct c)
  dic : ∀ y ∈ own, PySem.W.hasDictIn K (ct y) = true
  ty : ∀ y ∈ own, PySem.W.typeIn K (.ref (ct y)) = some (.type "type")
  bas : ∀ y ∈ own, PySem.W.subIn K (.ref (ct y)) (.type "BaseException") = some true
  kmt : ∀ t ∈ bi, PySem.W.kitMeta t = true
section
variable {K : PySem.W.Frag} {ct : String → Addr} {anc : String → List Cl} {xs own bi : List String}
theorem nodup_inj : ∀ {own : List String}, (own.map ct).Nodup → ∀ {y z : String}, y ∈ own → z ∈ own → ct y = ct z → y = z
  | [], _, y, z, hy, _, _ => by cases hy
  | a :: own, h, y, z, hy, hz, e => by
    rw [List.map_cons, List.nodup_cons] at h
    rcases List.mem_cons.mp hy with h1 | h1
    · rcases List.mem_cons.mp hz with h2 | h2
      · rw [h1, h2]
      · exact absurd (List.mem_map.mpr ⟨z, h2, by rw [← e, h1]⟩) h.1
    · rcases List.mem_cons.mp hz with h2 | h2
      · exact absurd (List.mem_map.mpr ⟨y, h1, by rw [e, h2]⟩) h.1
      · exact nodup_inj h.2 h1 h2 e
theorem has_own (h : (own.map ct).Nodup) {y : String} (hy : y ∈ own) : ∀ an : List Cl, (∀ z, Cl.own z ∈ an → z ∈ own) → (an.map (ClV ct)).contains (Value.ref (ct y)) = decide (Cl.own y ∈ an)
  | [], _ => rfl
  | k :: an, hk => by
    rw [List.map_cons, List.contains_cons, has_own h hy an fun z hz => hk z (List.mem_cons_of_mem _ hz)]
    cases k with
    | own z =>
      by_cases e : y = z
      · subst e
        have e1 : (Value.ref (ct y) == ClV ct (.own y)) = true := beq_self_eq_true _
        rw [e1, Bool.true_or]
        exact (decide_eq_true List.mem_cons_self).symm
      · have e1 : (Value.ref (ct y) == ClV ct (.own z)) = false := by
          refine beq_eq_false_iff_ne.mpr fun q => e ?_
          have q' : Value.ref (ct y) = Value.ref (ct z) := q
          exact nodup_inj h hy (hk z List.mem_cons_self) (Value.ref.inj q')
        rw [e1, Bool.false_or]
        refine decide_eq_decide.mpr ⟨fun q => List.mem_cons_of_mem _ q, fun q => ?_⟩
        rcases List.mem_cons.mp q with q | q
        · cases q; exact absurd rfl e
        · exact q
    | bi t =>
      have e1 : (Value.ref (ct y) == ClV ct (.bi t)) = false := rfl
      rw [e1, Bool.false_or]
      refine decide_eq_decide.mpr ⟨fun q => List.mem_cons_of_mem _ q, fun q => ?_⟩
      rcases List.mem_cons.mp q with q | q
      · cases q
      · exact q
theorem has_bi {t : String} : ∀ an : List Cl, (an.map (ClV ct)).contains (Value.type t) = decide (Cl.bi t ∈ an)
  | [] => rfl
  | k :: an => by
    rw [List.map_cons, List.contains_cons, has_bi an]
    cases k with
    | own z =>
      have e1 : (Value.type t == ClV ct (.own z)) = false := rfl
      rw [e1, Bool.false_or]
      refine decide_eq_decide.mpr ⟨fun q => List.mem_cons_of_mem _ q, fun q => ?_⟩
      rcases List.mem_cons.mp q with q | q
      · cases q
      · exact q
    | bi u =>
      by_cases e : t = u
      · subst e
        have e1 : (Value.type t == ClV ct (.bi t)) = true := beq_self_eq_true _
        rw [e1, Bool.true_or]
        exact (decide_eq_true List.mem_cons_self).symm
      · have e1 : (Value.type t == ClV ct (.bi u)) = false := by
          refine beq_eq_false_iff_ne.mpr fun q => e ?_
          have q' : Value.type t = Value.type u := q
          exact Value.type.inj q'
        rw [e1, Bool.false_or]
        refine decide_eq_decide.mpr ⟨fun q => List.mem_cons_of_mem _ q, fun q => ?_⟩
        rcases List.mem_cons.mp q with q | q
        · cases q; exact absurd rfl e
        · exact q
theorem Ords.subOwn (O : Ords K ct anc xs own bi) {c y : String} (hc : c ∈ xs) (hy : y ∈ own) : PySem.W.subIn K (.ref (ct c)) (.ref (ct y)) = some (decide (Cl.own y ∈ anc c)) :=
  (O.mro c hc (.ref (ct y))).trans (congrArg some (has_own O.inj hy _ (O.anco c hc)))
theorem Ords.subBi (O : Ords K ct anc xs own bi) {c t : String} (hc : c ∈ xs) : PySem.W.subIn K (.ref (ct c)) (.type t) = some (decide (Cl.bi t ∈ anc c)) :=
  (O.mro c hc (.type t)).trans (congrArg some (has_bi _))
theorem Ords.isT (O : Ords K ct anc xs own bi) : IsT K ct xs (sbM anc xs own bi) := by
  refine ⟨O.exc, fun c k b h => ?_⟩
  cases k with
  | own y =>
    unfold sbM at h
    dsimp only at h
    split at h
    · rename_i hh
      cases h
      refine kit_own (O.dic y hh.2) (O.ty y hh.2) (O.subOwn hh.1 hh.2) fun q => ?_
      have q' : Value.ref (ct c) = Value.ref (ct y) := beq_iff_eq.mp q
      have : c = y := nodup_inj O.inj (O.sub c hh.1) hh.2 (Value.ref.inj q')
      subst this
      exact decide_eq_true (O.self c hh.1)
    · cases h
  | bi t =>
    unfold sbM at h
    dsimp only at h
    split at h
    · rename_i hh
      cases h
      have e1 : (Value.ref (ct c) == Value.type t) = false := rfl
      show PySem.W.kitOne K (.ref (ct c)) (.type t) = _
      unfold PySem.W.kitOne
      rw [if_neg (by rw [e1]; simp)]
      show (if PySem.W.kitMeta t = true then PySem.W.subIn K (.ref (ct c)) (.type t) else none) = _
      rw [if_pos (O.kmt t hh.2)]
      exact O.subBi hh.1
    · cases h
theorem Ords.mt (O : Ords K ct anc xs own bi) {D : String} (hD : D ∈ own) : ∀ k b, mtM anc xs D k = some b → PySem.W.exmOne K (ClV ct k) (.ref (ct D)) = some b := by
  intro k b h
  cases k with
  | own c =>
    unfold mtM at h
    dsimp only at h
    split at h
    · rename_i hc
      cases h
      exact PySem.W.exm_ref (O.bas D hD) (O.dic D hD) (O.ty D hD) (O.subOwn hc hD)
    · cases h
  | bi t => cases h
theorem mro_of {C : Addr} {nm q : Str} {N : Addr} {bs bm : List Value} {sn : List Str} {sub : List Value} {ab : Bool} {col : Option Bool} {dd : Option Addr} {k0 k1 k2 k3 k5 : Option Value} {newId : String} (h : K.lookup C = some (excClassObj nm q C N bs bm true sn sub ab col dd k0 k1 k2 k3 k5 newId)) (v : Value) : PySem.W.mroIn K C v = some ((.ref C :: bm).contains v) := by
  have hcls : PySem.W.clsIn K C = some { name := nm, bases := bs, mro := .ref C :: bm, ns := N, qualname := q, hasDict := true, slotNames := sn, subclasses := sub, abstract := ab, collection := col, hasDel := false } := by unfold PySem.W.clsIn; rw [h] <;> rfl
  unfold PySem.W.mroIn
  rw [hcls]
  rfl
end
/-- the table of orders is in order -/
def AncOk (anc : String → List Cl) (xs own bi : List String) : Prop := (xs.all fun c => decide (c ∈ own) && decide (Cl.own c ∈ anc c) && (anc c).all fun k => match k with | .own y => decide (y ∈ own) | .bi _ => true) = true ∧ (bi.all fun t => PySem.W.kitMeta t) = true
instance {anc : String → List Cl} {xs own bi : List String} : Decidable (AncOk anc xs own bi) := by unfold AncOk; infer_instance
section
variable {anc : String → List Cl} {xs own bi : List String}
theorem AncOk.at_ (h : AncOk anc xs own bi) {c : String} (hc : c ∈ xs) : (c ∈ own ∧ Cl.own c ∈ anc c) ∧ ((anc c).all fun k => match k with | .own y => decide (y ∈ own) | .bi _ => true) = true := by
  have := List.all_eq_true.mp h.1 c hc
  rw [Bool.and_eq_true, Bool.and_eq_true] at this
  exact ⟨⟨of_decide_eq_true this.1.1, of_decide_eq_true this.1.2⟩, this.2⟩
theorem AncOk.sub (h : AncOk anc xs own bi) : ∀ c ∈ xs, c ∈ own := fun c hc => (h.at_ hc).1.1
theorem AncOk.self (h : AncOk anc xs own bi) : ∀ c ∈ xs, Cl.own c ∈ anc c := fun c hc => (h.at_ hc).1.2
theorem AncOk.anco (h : AncOk anc xs own bi) : ∀ c ∈ xs, ∀ y, Cl.own y ∈ anc c → y ∈ own := fun c hc y hy => of_decide_eq_true (List.all_eq_true.mp (h.at_ hc).2 (.own y) hy)
theorem AncOk.kmt (h : AncOk anc xs own bi) : ∀ t ∈ bi, PySem.W.kitMeta t = true := fun t ht => List.all_eq_true.mp h.2 t ht
end
end DV

set_option Elab.async false
set_option linter.all false
set_option maxRecDepth 100000
set_option maxHeartbeats 1000000
/-! ExT: numbered dicts read, asked, filled and walked; while one is walked it stands locked (M.tab). -/
namespace DV
open PySem PySem.Spec PyProof.Rows L2
/-- the entries of a numbered dict, locked or not -/
def tabAt (A : Hd) (n : Nat) : Option (List (Key × D)) := match A[n]? with
  | some (.dic es) => some es
  | some (.tab es) => some es
  | _ => none
section
variable {K : PySem.W.Frag} {ct : String → Addr} {io io' : Io} {H H' : Hp} {A : Hd}
theorem tabAt_ok {v : V} {n : Nat} {es : List (Key × D)} (h : HR K ct io H A) (r : DR K ct io H v (.ref n)) (e : tabAt A n = some es) : ∃ a kvs, v = .ref a ∧ Rd H a (.dK kvs) ∧ kvs.map (·.1) = es.map (·.1) ∧ DRs K ct io H (kvs.map (·.2)) (es.map (·.2)) := by
  cases r with
  | ref q =>
    obtain ⟨m, hm⟩ := h.has q
    have mr := h.get q hm
    unfold tabAt at e
    rw [hm] at e
    cases m with
    | dic es => cases e; obtain ⟨xs, q1, k, rs⟩ := mr; exact ⟨_, xs, rfl, .inl q1, k, rs⟩
    | tab es => cases e; obtain ⟨o, xs, q1, k, rs⟩ := mr; exact ⟨_, xs, rfl, .inr ⟨o, q1⟩, k, rs⟩
    | _ => cases e
end
/-- t[k], t a dict under a number -/
def gSubT (d e : D) (A : Hd) : R D := match d with
  | .ref n => (match tabAt A n, keyD e with
    | some es, some k => (match valD es k with
      | some x => .ok x A
      | none => .stk)
    | _, _ => .stk)
  | _ => .stk
def gInT (z : Bool) (e d : D) (A : Hd) : R D := match d with
  | .ref n => (match tabAt A n, keyD e with
    | some es, some k => .ok (.bl ((valD es k).isSome == z)) A
    | _, _ => .stk)
  | _ => .stk
section
variable {X : Cx} {ct : String → Addr} {W : WX} {e a b : Expr} {pos : Pos} {fa fb fc : EF}
theorem pd_subT (hu : X.A.units + 1 < cLine) (ha : PD X ct W a fa) (hb : PD X ct W b fb) (hn : NoSl b) : PD X ct W (.Subscript a b pos) (eBin gSubT fa fb) := by
  refine pe_mono (pe_dget (pos := pos) hu ha hb hn) fun σ H Q ⟨io, A, ro, s, p⟩ => ⟨io, A, ro, s, (p.bind (rep := DR X.K ct)).mono fun v H1 ⟨io1, A1, d, e1, h1, r1, p1⟩ => ⟨io1, A1, ro, s.mono e1 h1, (p1.bind (rep := DR X.K ct)).mono fun w H2 ⟨io2, A2, dk, e2, h2, r2, p2⟩ => ?_⟩⟩
  unfold gSubT at p2
  split at p2
  · rename_i n
    split at p2
    · rename_i es k ht hk
      split at p2
      · rename_i x hx
        obtain ⟨a, kvs, rfl, q, kk, rs⟩ := tabAt_ok h2 (r1.mono e2 h1.noT) ht
        have ew := keyD_ok r2 hk
        subst ew
        have hv := valD_ok k kk rs
        rw [hx] at hv
        obtain ⟨y, hy, ry⟩ := hv
        exact ⟨a, y, rfl, .inl ⟨kvs, k, q, rfl, hy.symm⟩, p2.here h2 ry⟩
      · exact p2.elim
    · exact p2.elim
  · exact p2.elim
theorem inT_fin {z : Bool} {σ : L2.St} {io1 io2 : Io} {H1 H2 : Hp} {A1 A2 : Hd} {v w : V} {dk d : D} {Q : VK} (e2 : Ext io1 H1 io2 H2) (h1 : HR X.K ct io1 H1 A1) (r1 : DR X.K ct io1 H1 v dk) (h2 : HR X.K ct io2 H2 A2) (r2 : DR X.K ct io2 H2 w d) (p : Post X.K ct (DR X.K ct) W σ io2 H2 (gInT z dk d A2) Q) :
    ∃ a o, w = .ref a ∧ DGet H2 a v o ∧ Q (.bl (o.isSome == z)) H2 := by
  unfold gInT at p
  split at p
  · rename_i n
    split at p
    · rename_i es k ht hk
      obtain ⟨a, kvs, rfl, q, kk, rs⟩ := tabAt_ok h2 r2 ht
      have ew := keyD_ok (r1.mono e2 h1.noT) hk
      subst ew
      have hv := valD_ok k kk rs
      refine ⟨a, valV kvs k, rfl, .inl ⟨kvs, k, q, rfl, rfl⟩, ?_⟩
      have es' : (valV kvs k).isSome = (valD es k).isSome := by
        cases hx : valD es k with
        | none => rw [hx] at hv; rw [show valV kvs k = none from hv]; rfl
        | some x => rw [hx] at hv; obtain ⟨y, hy, _⟩ := hv; rw [hy]; rfl
      rw [es']
      exact p.here h2 (.bl _)
    · exact p.elim
  · exact p.elim
theorem pd_inT (hu : X.A.units + 1 < cLine) (ha : PD X ct W a fa) (hb : PD X ct W b fb) (hm : behindInMarks .In b = false := by first | exact nobehind _ (by decide) (by decide) | rfl) : PD X ct W (.Compare a [.In] [b] pos) (eBin (gInT true) fa fb) := by
  refine pe_mono (pe_cmp (pos := pos) (pc_din hu ha hb) hm) fun σ H Q ⟨io, A, ro, s, p⟩ => ⟨io, A, ro, s, (p.bind (rep := DR X.K ct)).mono fun v H1 ⟨io1, A1, d, e1, h1, r1, p1⟩ => ⟨io1, A1, ro, s.mono e1 h1, (p1.bind (rep := DR X.K ct)).mono fun w H2 ⟨io2, A2, dk, e2, h2, r2, p2⟩ => ?_⟩⟩
  obtain ⟨a, o, ew, g, q⟩ := inT_fin e2 h1 r1 h2 r2 p2
  exact ⟨a, o, ew, g, by rw [show o.isSome = (o.isSome == true) by cases o <;> rfl]; exact q⟩
theorem pd_notInT (hu : X.A.units + 1 < cLine) (ha : PD X ct W a fa) (hb : PD X ct W b fb) (hm : behindInMarks .NotIn b = false := by first | exact nobehind _ (by decide) (by decide) | rfl) : PD X ct W (.Compare a [.NotIn] [b] pos) (eBin (gInT false) fa fb) := by
  refine pe_mono (pe_cmp (pos := pos) (pc_dnotin hu ha hb) hm) fun σ H Q ⟨io, A, ro, s, p⟩ => ⟨io, A, ro, s, (p.bind (rep := DR X.K ct)).mono fun v H1 ⟨io1, A1, d, e1, h1, r1, p1⟩ => ⟨io1, A1, ro, s.mono e1 h1, (p1.bind (rep := DR X.K ct)).mono fun w H2 ⟨io2, A2, dk, e2, h2, r2, p2⟩ => ?_⟩⟩
  obtain ⟨a, o, ew, g, q⟩ := inT_fin e2 h1 r1 h2 r2 p2
  exact ⟨a, o, ew, g, by rw [show (!o.isSome) = (o.isSome == false) by cases o <;> rfl]; exact q⟩
/-! ### d.setdefault(k, v) -/
def gSetd (d e v : D) (A : Hd) : R D := match numD A d, keyD e with
  | some (n, es), some k => if es.length < sizeLine then (match valD es k with
    | some x => .ok x A
    | none => .ok v (A.set n (.dic (putD es k v)))) else .stk
  | _, _ => .stk
def isDn (A : Hd) (d : D) : Bool := (numD A d).isSome
def eSetd (fa fb fc : EF) : EF := fun ro A => (fa ro A).bind fun d A1 => if isDn A1 d then (fb ro A1).bind fun e A2 => (fc ro A2).bind fun v A3 => gSetd d e v A3 else .stk
theorem pd_setd {o f : Expr} {apos cpos : Pos} (ho : PD X ct W o fa) (he : PD X ct W e fb) (hf : PD X ct W f fc) (m : M2 X o "setdefault" apos e f cpos) : PD X ct W (.Call (.Attribute o "setdefault" apos) [e, f] [] cpos) (eSetd fa fb fc) := by
  refine pe_mono (pe_dsetd ho he hf m) fun σ H Q ⟨io, A, ro, s, p⟩ => ⟨io, A, ro, s, (p.bind (rep := DR X.K ct)).mono fun v H1 ⟨io1, A1, d, e1, h1, r1, p1⟩ => ?_⟩
  split at p1
  · rename_i hd
    unfold isDn at hd
    obtain ⟨⟨n, es⟩, hn⟩ := Option.isSome_iff_exists.mp hd
    obtain ⟨a, kvs, rfl, rfl, hio, hH, ek, rs⟩ := numD_ok h1 r1 hn
    refine ⟨a, rfl, .inl ⟨kvs, .inl hH⟩, io1, A1, ro, s.mono e1 h1, (p1.bind (rep := DR X.K ct)).mono fun w H2 ⟨io2, A2, dk, e2, h2, r2, p2⟩ => ⟨io2, A2, ro, (s.mono e1 h1).mono e2 h2, (p2.bind (rep := DR X.K ct)).mono fun z H3 ⟨io3, A3, dv, e3, h3, r3, p3⟩ => ?_⟩⟩
    unfold gSetd at p3
    split at p3
    · rename_i n' es' k hn' hk
      have rr := (r1.mono e2 h1.noT).mono e3 h2.noT
      obtain ⟨a', kvs', ea, en, hio', hH', ek', rs'⟩ := numD_ok h3 rr hn'
      cases ea
      split at p3
      · rename_i hz
        have ew := keyD_ok (r2.mono e3 h2.noT) hk
        subst ew
        have hl : kvs'.length = es'.length := by simpa using congrArg List.length ek'
        have hv := valD_ok k ek' rs'
        refine ⟨kvs', k, hH', rfl, by rw [hl]; exact hz, fun y hy => ?_, fun hy => ?_⟩
        · cases hx : valD es' k with
          | none => rw [hx] at hv; rw [show valV kvs' k = none from hv] at hy; cases hy
          | some x =>
            rw [hx] at hv p3
            obtain ⟨y', hy', ry⟩ := hv
            rw [hy] at hy'
            cases hy'
            exact p3.here h3 ry
        · cases hx : valD es' k with
          | some x => rw [hx] at hv; obtain ⟨y', hy', _⟩ := hv; rw [hy] at hy'; cases hy'
          | none =>
            rw [hx] at p3
            have x1 := h3.extW (o := .dK (putK kvs' k z)) hio' (nfzD hH')
            exact p3 _ io3 _ x1 (h3.write hio' (nfzD hH') ⟨_, upd_same, put_keys k z dv ek', (put_vals r3 ek' rs').mono x1 h3.noT⟩) (r3.mono x1 h3.noT)
      · exact p3.elim
    · exact p3.elim
  · exact p1.elim
end
end DV

set_option Elab.async false
set_option linter.all false
set_option maxRecDepth 100000
set_option maxHeartbeats 1000000
/-! ExU: for k in d, for k, v in d.items(), d locked meanwhile. -/
namespace DV
open PySem PySem.Spec PyProof.Rows L2
/-! ### d.items(), each pair a new tuple -/
def ItiF (d : Addr) (o : Obj) (kvs : List (Key × V)) : It :=
  ⟨fun i H => H d = some (.frz o (.dK kvs)) ∧ i < kvs.length, fun i H x H' => ∃ T k v, ∃ oT : Obj, kvs[i]? = some (k, v) ∧ x = .ref T ∧ H T = none ∧ oT.dict = none ∧ H' = upd H T (.frz oT (.tup [kV k, v])), fun i H => H d = some (.frz o (.dK kvs)) ∧ kvs.length ≤ i⟩
theorem turn_itemsF {P : Program} {w : World} {K : PySem.W.Frag} {d : Addr} {o : Obj} {es : Array DictEntry} {ep : Nat} {kvs : List (Key × V)} {elts : List Expr} {kk : Nat} {tpos : Pos} (it : Addr) (hod : o.data = .dict es ep) :
    Turn P w K (.Tuple elts kk tpos) (ItiF d o kvs) [it] it (fun i h => ∃ ok ov, IsItemIter h it d i kvs.length ep ok ov) where
  mem := by simp
  obj := (turn_items (K := K) (P := P) (w := w) (d := d) (o := o) (kvs := kvs) (elts := elts) (kk := kk) (tpos := tpos) it hod).obj
  keep := (turn_items (K := K) (P := P) (w := w) (d := d) (o := o) (kvs := kvs) (elts := elts) (kk := kk) (tpos := tpos) it hod).keep
  item := by
    intro X hP hw hK hc i pins s σ H E I hf st hg
    subst hP hw hK
    obtain ⟨hd, hi⟩ := hg
    obtain ⟨hs, hgd, hx, es', ep', vs, hdt, hsz, kv, hm⟩ := I.frzK hd
    obtain ⟨rfl, rfl⟩ := dict_ep hod hdt
    obtain ⟨⟨k, v⟩, hkv⟩ : ∃ p, kvs[i]? = some p := ⟨kvs[i], List.getElem?_eq_getElem hi⟩
    obtain ⟨u, hu, ru⟩ := kv_get kv hkv
    have hl : kvs.length = vs.length := Paired.length kv
    obtain ⟨ok, ov, he⟩ := st
    rw [hl] at he
    have hlt : it < s.heap.objs.size := Heap.lt_size he
    refine wpAny_pyNext_items_item he hm hu fun key h' hkey ho hT hz hk => ?_
    refine ⟨_, rfl, wpAny_letOwnedTupleGo_items (s := { s with heap := h' }) ho fun h'' he' sb => ?_⟩
    have hT2 : h''.get? s.heap.objs.size = some { cls := .type "tuple", data := .seq #[key, u] } := (sb.2 _ (Nat.ne_of_gt hlt)).trans hT
    let oT : Obj := { cls := .type "tuple", data := .seq #[key, u] }
    have new : ObjOk X.prog X.w (upd H s.heap.objs.size (.frz oT (.tup [kV k, v]))) h'' s.heap.objs.size (.frz oT (.tup [kV k, v])) :=
      ⟨hT2, by show 2 ≤ sizeLine; decide, [key, u], .cons (relV_key (show keyIs k key = true from hkey)) (.cons ru .nil), ⟨_, hT2, rfl, _, rfl⟩⟩
    have I1 : Inv X pins σ (upd H s.heap.objs.size (.frz oT (.tup [kV k, v]))) { s with heap := h'' } :=
      I.turnedNew (t' := s.toks) (ch := [it]) (fun b ob hb e => (sb.2 b (by simpa using hb)).trans (hk b ob (by simpa using hb) e)) hf (Nat.le_refl _) new
    refine ⟨.ref s.heap.objs.size, _, I1, rfl, ⟨_, k, v, oT, hkv, rfl, I.hok.fresh (Nat.le_refl _), rfl, rfl⟩, ⟨key, u, ?_⟩, fun b hb => ?_⟩
    · rw [hl]; exact he'
    · have e : b = it := by simpa using hb
      rw [e, upd_ne (Nat.ne_of_lt hlt)]
      exact (hf it (by simp)).1
  done := by
    intro X hP hw hK hc i pins s σ H E I hf st hg
    exact (turn_items (K := K) (P := P) (w := w) (d := d) (o := o) (kvs := kvs) (elts := elts) (kk := kk) (tpos := tpos) it hod).done X hP hw hK hc i pins s σ H E I hf st hg
  self := (turn_items (K := K) (P := P) (w := w) (d := d) (o := o) (kvs := kvs) (elts := elts) (kk := kk) (tpos := tpos) it hod).self
def iItemsF (td : TE) : TI := fun σ H R => td σ H fun x H1 => ∃ d o kvs, x = .ref d ∧ H1 d = some (.frz o (.dK kvs)) ∧ R (ItiF d o kvs) H1
theorem pi_itemsF {X : Cx} {e : Expr} {td : TE} {apos cpos : Pos} {elts : List Expr} {kk : Nat} {tpos : Pos} (he : PE X e td) (hbase : attributeBase e "items" X.env (eval e X.env) = eval e X.env := by rfl) (hline : (apos.endLine == cpos.line) = true := by rfl) :
    PI X (.Tuple elts kk tpos) (.Call (.Attribute e "items" apos) [] [] cpos) (iItemsF td) := by
  refine ⟨fun pins s σ H R I h => ?_⟩
  refine wpAny_Call_method (T := "dict") (id := "dict.items") hbase rfl hline F.plainAttrs_dict F.slot_dict_items F.type_dict_items (thn (he.run pins s σ H _ I h) fun u s1 ⟨x, H1, I1, rx, d, o, kvs, ex, hd, q⟩ => ?_)
  subst ex
  obtain rfl : u = Value.ref d := rx
  obtain ⟨hs, hgd, hx, es, ep, vs, hdt, hsz, kv, hm⟩ := I1.frzK hd
  have hl : kvs.length = vs.length := Paired.length kv
  refine ⟨hm.dictOf.typeIs, hm.dictOf.mapOf.noDict, ?_⟩
  have I2 : Inv X pins σ H1 { s1 with heap := s1.heap.push { cls := .type "dict_items", data := .fields #[.ref d] } } := I1.kept (t' := s1.toks) fun b ob q => Heap.get?_push_of_some _ q
  have fin : wpAny (model X.prog X.w) X.A (pyIter (.ref s1.heap.objs.size)) (PIE X pins σ (.Tuple elts kk tpos) R) X.xe { s1 with heap := s1.heap.push { cls := .type "dict_items", data := .fields #[.ref d] } } := by
    refine wpAny_pyIter_items (d := d) (knd := mixKind X.prog X.w) ⟨_, Heap.get?_push_size _ rfl, rfl, rfl⟩ (hm.push _) (pi_one (tk := s1.toks) I2 _ (turn_itemsF _ hdt) ⟨.none, .none, ?_⟩ q)
    rw [hl]
    exact Heap.get?_push_size _ rfl
  show wpAny _ _ (callWith cpos (.builtin "dict.items") [.ref d] [] []) _ X.xe s1
  exact method_meetsIn F.slot_dict_items F.entry_dict_items rfl (PySem.evalArgs_none ⟨rfl, hm.dictOf.typeIs, F.args_dict_items_1 _, _, meets_dict_items (mixKind X.prog X.w) d hs, ⟨vs, hm.dictOf⟩, fin⟩)
/-! ### what is walked, by data -/
def kD : Key → D
  | .inl i => .int i
  | .inr x => .str x
theorem kD_ok {K : PySem.W.Frag} {ct : String → Addr} {io : Io} {H : Hp} (k : Key) : DR K ct io H (kV k) (kD k) := by
  cases k with
  | inl i => exact .int i
  | inr x => exact .str x
def keysD (es : List (Key × D)) : List D := es.map fun p => kD p.1
def itemsD (es : List (Key × D)) : List D := es.map fun p => .tup [kD p.1, p.2]
section
variable {K : PySem.W.Frag} {ct : String → Addr} {io : Io} {H : Hp} {A : Hd} {a : Addr} {o : Obj} {kvs : List (Key × V)} {es : List (Key × D)}
theorem key_at (ek : kvs.map (·.1) = es.map (·.1)) {i : Nat} {k : Key} {d : D} (h : es[i]? = some (k, d)) : ∃ v, kvs[i]? = some (k, v) := by
  have h1 : (es.map (·.1))[i]? = some k := by rw [List.getElem?_map, h]; rfl
  rw [← ek, List.getElem?_map] at h1
  cases hk : kvs[i]? with
  | none => rw [hk] at h1; cases h1
  | some p =>
    rw [hk] at h1
    obtain ⟨k', v⟩ := p
    cases h1
    exact ⟨v, rfl⟩
theorem keys_len (ek : kvs.map (·.1) = es.map (·.1)) : kvs.length = es.length := by simpa using congrArg List.length ek
theorem walkK (hH : H a = some (.frz o (.dK kvs))) (ek : kvs.map (·.1) = es.map (·.1)) : WalkR K ct io H (Itk a o kvs) (.fix (keysD es)) := by
  intro io2 H2 A2 e h _
  have q := e.frz a o _ hH
  refine ⟨fun i d hd => ?_, fun i hi => ⟨q, ?_⟩⟩
  · have hd' : (keysD es)[i]? = some d := hd
    unfold keysD at hd'
    rw [List.getElem?_map] at hd'
    cases hp : es[i]? with
    | none => rw [hp] at hd'; cases hd'
    | some p =>
      rw [hp] at hd'
      cases hd'
      obtain ⟨v, hv⟩ := key_at ek hp
      refine ⟨⟨q, (List.getElem?_eq_some_iff.mp hv).1⟩, fun x H3 y => ?_⟩
      obtain ⟨rfl, k, w, hk, rfl⟩ := y
      rw [hv] at hk
      cases hk
      exact ⟨Ext.refl, h, kD_ok _⟩
  · have : (keysD es).length ≤ i := hi
    unfold keysD at this
    rw [List.length_map] at this
    rw [keys_len ek]; exact this
theorem walkI (hr : HR K ct io H A) (hH : H a = some (.frz o (.dK kvs))) (ek : kvs.map (·.1) = es.map (·.1)) (rs : DRs K ct io H (kvs.map (·.2)) (es.map (·.2))) : WalkR K ct io H (ItiF a o kvs) (.fix (itemsD es)) := by
  intro io2 H2 A2 e h _
  have q := e.frz a o _ hH
  have rs2 := rs.mono e hr.noT
  refine ⟨fun i d hd => ?_, fun i hi => ⟨q, ?_⟩⟩
  · have hd' : (itemsD es)[i]? = some d := hd
    unfold itemsD at hd'
    rw [List.getElem?_map] at hd'
    cases hp : es[i]? with
    | none => rw [hp] at hd'; cases hd'
    | some p =>
      rw [hp] at hd'
      cases hd'
      obtain ⟨v, hv⟩ := key_at ek hp
      refine ⟨⟨q, (List.getElem?_eq_some_iff.mp hv).1⟩, fun x H3 y => ?_⟩
      obtain ⟨T, k, w, oT, hk, rfl, nT, ho, rfl⟩ := y
      rw [hv] at hk
      cases hk
      have h1 : (es.map (·.2))[i]? = some p.2 := by rw [List.getElem?_map, hp]; rfl
      obtain ⟨w', hw, rw'⟩ := rs2.get h1
      rw [List.getElem?_map, hv] at hw
      cases hw
      exact pair_new h nT ho (kD_ok _) rw'
  · have : (itemsD es).length ≤ i := hi
    unfold itemsD at this
    rw [List.length_map] at this
    rw [keys_len ek]; exact this
end
/-- for k in t: t stands locked -/
def iKeysT (fe : EF) : IF := fun ro A => (fe ro A).bind fun d A1 => match d with
  | .ref n => (match A1[n]? with
    | some (.tab es) => .ok (.fix (keysD es)) A1
    | _ => .stk)
  | _ => .stk
def iItemsT (fe : EF) : IF := fun ro A => (fe ro A).bind fun d A1 => match d with
  | .ref n => (match A1[n]? with
    | some (.tab es) => .ok (.fix (itemsD es)) A1
    | _ => .stk)
  | _ => .stk
section
variable {X : Cx} {ct : String → Addr} {W : WX} {e tg : Expr} {fe : EF} {apos cpos : Pos}
theorem pid_keysT (he : PD X ct W e fe) : PID X ct W tg e (iKeysT fe) :=
  pi_mono (pi_keys he) fun σ H Q ⟨io, A, ro, s, p⟩ => ⟨io, A, ro, s, (p.bind (rep := DR X.K ct)).mono fun v H1 ⟨io1, A1, d, e1, h1, r1, p1⟩ => by
    split at p1
    · rename_i n
      split at p1
      · rename_i es hm
        cases r1 with
        | @ref a _ q =>
          obtain ⟨o, kvs, hH, ek, rs⟩ := h1.get q hm
          exact ⟨a, o, rfl, .inl ⟨kvs, hH, p1 _ io1 H1 Ext.refl h1 (walkK hH ek)⟩⟩
      · exact p1.elim
    · exact p1.elim⟩
theorem pid_itemsT {elts : List Expr} {kk : Nat} {tpos : Pos} (he : PD X ct W e fe) (hbase : attributeBase e "items" X.env (eval e X.env) = eval e X.env := by rfl) (hline : (apos.endLine == cpos.line) = true := by rfl) : PID X ct W (.Tuple elts kk tpos) (.Call (.Attribute e "items" apos) [] [] cpos) (iItemsT fe) :=
  pi_mono (pi_itemsF he hbase hline) fun σ H Q ⟨io, A, ro, s, p⟩ => ⟨io, A, ro, s, (p.bind (rep := DR X.K ct)).mono fun v H1 ⟨io1, A1, d, e1, h1, r1, p1⟩ => by
    split at p1
    · rename_i n
      split at p1
      · rename_i es hm
        cases r1 with
        | @ref a _ q =>
          obtain ⟨o, kvs, hH, ek, rs⟩ := h1.get q hm
          exact ⟨a, o, kvs, rfl, hH, p1 _ io1 H1 Ext.refl h1 (walkI h1 hH ek rs)⟩
      · exact p1.elim
    · exact p1.elim⟩
end
/-! ### the lock -/
section
variable {K : PySem.W.Frag} {ct : String → Addr} {W : WX} {σ : L2.St} {io io' : Io} {H H' : Hp} {A A' : Hd} {ro : DV.Env} {a : Addr} {od : Obj} {kvs kvs' : List (Key × V)}
theorem ne_of_frz {b : Addr} {x : HO} (e : H a = some (.frz od (.dK kvs))) (q : H b = some x) (n : x ≠ .frz od (.dK kvs)) : b ≠ a := fun z => by
  rw [z, e] at q
  exact n (Option.some.inj q).symm
mutual
/-- the dict at a is let go: the data do not see it -/
theorem DR.unl (ha : a ∈ io.nm) (e : H a = some (.frz od (.dK kvs))) : ∀ {v : V} {d : D}, DR K ct io H v d → DR K ct io (upd H a (.dK kvs')) v d
  | _, _, .non => .non
  | _, _, .bl b => .bl b
  | _, _, .int i => .int i
  | _, _, .str x => .str x
  | _, _, .tup h hs => .tup (h.elim (fun ⟨o, q, z⟩ => .inl ⟨o, by rw [upd_ne (ne_of_frz e q (fun w => by cases w))]; exact q, z⟩) .inr) (DRs.unl ha e hs)
  | _, _, .lst n h hs => .lst n (by rw [upd_ne (fun z => n (by rw [z]; exact .inl ha))]; exact h) (DRs.unl ha e hs)
  | _, _, .scr h hs => .scr (h.elim (fun ⟨n, u, q⟩ => .inl ⟨n, u, by rw [upd_ne (fun z => n (by rw [z]; exact .inl ha))]; exact q⟩) .inr) (DRs.unl ha e hs)
  | _, _, .dic n h k hs => .dic n (by rw [upd_ne (fun z => n (by rw [z]; exact .inl ha))]; exact h) k (DRs.unl ha e hs)
  | _, _, .ref h => .ref h
  | _, _, .ty n => .ty n
  | _, _, .own n => .own n
theorem DRs.unl (ha : a ∈ io.nm) (e : H a = some (.frz od (.dK kvs))) : ∀ {vs : List V} {ds : List D}, DRs K ct io H vs ds → DRs K ct io (upd H a (.dK kvs')) vs ds
  | _, _, .nil => .nil
  | _, _, .cons h hs => .cons (DR.unl ha e h) (DRs.unl ha e hs)
end
theorem MR.unl (ha : a ∈ io.nm) (e : H a = some (.frz od (.dK kvs))) {b : Addr} {m : M} (ne : b ≠ a) (h : MR K ct io H b m) : MR K ct io (upd H a (.dK kvs')) b m := by
  cases m with
  | lst ds => obtain ⟨xs, q, r⟩ := h; exact ⟨xs, by rw [upd_ne ne]; exact q, r.unl ha e⟩
  | dic es => obtain ⟨xs, q, k, r⟩ := h; exact ⟨xs, by rw [upd_ne ne]; exact q, k, r.unl ha e⟩
  | tab es => obtain ⟨o', xs, q, k, r⟩ := h; exact ⟨o', xs, by rw [upd_ne ne]; exact q, k, r.unl ha e⟩
  | ins c fs => obtain ⟨dx, gs, q, k, r⟩ := h; exact ⟨dx, gs, by rw [upd_ne ne]; exact q, k, r.unl ha e⟩
  | exc c fs =>
    obtain ⟨d, q, z⟩ := h
    refine ⟨d, by rw [upd_ne ne]; exact q, z.imp id ?_⟩
    rintro ⟨pp, gs, h1, h2, h3, h4, h5⟩
    exact ⟨pp, gs, h1, h2, by rw [upd_ne (fun w => h2 (by rw [w]; exact .inl ha))]; exact h3, h4, h5.unl ha e⟩
theorem HR.unl {n : Nat} {es : List (Key × D)} (h : HR K ct io H A) (hn : io.nm[n]? = some a) (e : H a = some (.frz od (.dK kvs))) (ek : kvs.map (·.1) = es.map (·.1)) (rs : DRs K ct io H (kvs.map (·.2)) (es.map (·.2))) : HR K ct io (upd H a (.dK kvs)) (A.set n (.dic es)) := by
  have ha := List.mem_of_getElem? hn
  refine ⟨h.nd, by rw [List.length_set]; exact h.len, fun k b m e1 e2 => ?_, fun b hb => ?_⟩
  · by_cases hk : n = k
    · subst hk
      have hl : n < A.length := by rw [← h.len]; exact (List.getElem?_eq_some_iff.mp hn).1
      rw [List.getElem?_set_self hl] at e2
      rw [hn] at e1
      cases e1; cases e2
      exact ⟨kvs, upd_same, ek, rs.unl ha e⟩
    · rw [List.getElem?_set_ne hk] at e2
      refine (h.at_ k b m e1 e2).unl ha e fun z => ?_
      subst z
      obtain ⟨h1, q1⟩ := List.getElem?_eq_some_iff.mp hn
      obtain ⟨h2, q2⟩ := List.getElem?_eq_some_iff.mp e1
      exact hk ((List.getElem_inj h.nd).mp (q1.trans q2.symm))
  · obtain ⟨h1, xs, h2⟩ := h.hid b hb
    exact ⟨h1, xs, by rw [upd_ne (fun z : b = a => h1 (z ▸ ha))]; exact h2⟩
theorem EnvR.unl (h : EnvR K ct io H ro σ) (ha : a ∈ io.nm) (e : H a = some (.frz od (.dK kvs))) : EnvR K ct io (upd H a (.dK kvs')) ro σ :=
  ⟨h.len, fun i d hd => let ⟨v, e1, r⟩ := h.at_ i d hd; ⟨v, e1, r.unl ha e⟩⟩
/-- seen from before the lock -/
theorem Ext.unl (x : Ext io (upd H a (.frz od (.dK kvs))) io' H') (ha : a ∈ io.nm) (hH : H a = some (.dK kvs)) : Ext io H io' (upd H' a (.dK kvs')) := by
  have back : ∀ b, b ≠ a → upd H a (.frz od (.dK kvs)) b = H b := fun b hb => upd_ne hb
  refine ⟨x.pre, x.hd1, fun b hb => ?_, fun b h k => ?_, fun b o q k => ?_, fun b o q => ?_, fun b o u q => ?_⟩
  · rcases x.hd2 b hb with z | z
    · exact .inl z
    · by_cases hba : b = a
      · rw [hba, upd_same] at z; cases z
      · rw [back b hba] at z; exact .inr z
  · have z := x.fresh b h k
    by_cases hba : b = a
    · exact absurd (hba ▸ ha) k
    · rw [back b hba] at z; exact z
  · have hba : b ≠ a := fun z => k (z ▸ ha)
    rw [upd_ne hba]
    exact x.keep b o (by rw [back b hba]; exact q) k
  · by_cases hba : b = a
    · exact ⟨.dK kvs', by rw [hba, upd_same]⟩
    · obtain ⟨o', q'⟩ := x.there b o (by rw [back b hba]; exact q)
      exact ⟨o', by rw [upd_ne hba]; exact q'⟩
  · have hba : b ≠ a := fun z => by rw [z, hH] at q; cases q
    rw [upd_ne hba]
    exact x.frz b o u (by rw [back b hba]; exact q)
end
/-- the dict under n is let go -/
def unlD (n : Nat) (es : List (Key × D)) (o : Out) : Out := match o with
  | .go f ro A => .go f ro (A.set n (.dic es))
  | _ => .stk
/-- the dict that fe gives is locked meanwhile -/
def lockD (fe : EF) (f : SF) : SF := fun ro A => match fe ro A with
  | .ok (.ref n) _ => (match A[n]? with
    | some (.dic es) => unlD n es (f ro (A.set n (.tab es)))
    | _ => f ro A)
  | _ => f ro A
theorem psd_lock {X : Cx} {ct : String → Addr} {W : WX} {st : Stmt} {fe : EF} {f : SF} (h : PSD X ct W st f) : PSD X ct W st (lockD fe f) := by
  refine ⟨fun pins s σ H Z I hw => ?_⟩
  obtain ⟨io, A, ro, s1, p⟩ := hw
  have plain : SPost X.K ct W io H (f ro A) Z → wpAny (model X.prog X.w) X.A (exec st X.env) (SP X pins Z) X.xe s := fun p => h.run pins s σ H Z I ⟨io, A, ro, s1, p⟩
  unfold lockD at p
  split at p
  · rename_i n A0 hfe
    split at p
    · rename_i es hm
      obtain ⟨a, hn⟩ : ∃ a, io.nm[n]? = some a := ⟨_, List.getElem?_eq_getElem (by rw [s1.hr.len]; exact (List.getElem?_eq_some_iff.mp hm).1)⟩
      obtain ⟨kvs, hH, ek, rs⟩ := s1.hr.get hn hm
      have ha := List.mem_of_getElem? hn
      refine (ps_lock h).run pins s σ H Z I ⟨a, .dK kvs, hH, trivial, fun od => ?_⟩
      have x1 := s1.hr.extW (o := .frz od (.dK kvs)) hn (nfzD hH)
      refine ⟨io, A.set n (.tab es), ro, s1.write hn (nfzD hH) ⟨od, kvs, upd_same, ek, rs.mono x1 s1.hr.noT⟩, ?_⟩
      have hrl : HR X.K ct io (upd H a (.frz od (.dK kvs))) (A.set n (.tab es)) := s1.hr.write hn (nfzD hH) ⟨od, kvs, upd_same, ek, rs.mono x1 s1.hr.noT⟩
      have rsl := rs.mono x1 s1.hr.noT
      have hl : upd H a (.frz od (.dK kvs)) a = some (.frz od (.dK kvs)) := upd_same
      generalize f ro (A.set n (.tab es)) = o at p
      cases o with
      | stk => exact p.elim
      | err c fs ro1 A1 => exact p.elim
      | go fl ro1 A1 =>
        cases fl with
        | nx =>
          intro σ' io' H' e s'
          have q := e.frz a _ _ hl
          exact ⟨q, p σ' io' _ (e.unl ha hH) ⟨s'.hr.unl (e.mem hn) q ek (rsl.mono e hrl.noT), s'.env.unl (List.mem_of_getElem? (e.mem hn)) q⟩⟩
        | bk =>
          intro σ' io' H' e s'
          have q := e.frz a _ _ hl
          exact ⟨q, p σ' io' _ (e.unl ha hH) ⟨s'.hr.unl (e.mem hn) q ek (rsl.mono e hrl.noT), s'.env.unl (List.mem_of_getElem? (e.mem hn)) q⟩⟩
        | ct =>
          intro σ' io' H' e s'
          have q := e.frz a _ _ hl
          exact ⟨q, p σ' io' _ (e.unl ha hH) ⟨s'.hr.unl (e.mem hn) q ek (rsl.mono e hrl.noT), s'.env.unl (List.mem_of_getElem? (e.mem hn)) q⟩⟩
        | ret d =>
          intro v io' H' e h' r'
          have q := e.frz a _ _ hl
          exact ⟨q, p v io' _ (e.unl ha hH) (h'.unl (e.mem hn) q ek (rsl.mono e hrl.noT)) (r'.unl (List.mem_of_getElem? (e.mem hn)) q)⟩
    · exact plain p
  · exact plain p
end DV

set_option Elab.async false
set_option linter.all false
set_option maxRecDepth 100000
set_option maxHeartbeats 1000000
/-! ExV: a set of texts whose table can be walked; sorted(set(texts)). -/
namespace DV
open PySem PySem.Spec PyProof.Rows L2
def tkOf (e : Int × Value) : Str := match e.2 with | .str k _ => k | _ => Str.empty
def GoodT (P : Program) (w : World) (e : Int × Value) : Prop := ∃ k tk, e.2 = Value.str k tk ∧ e.1 = (PySem.strKind P w).hash k
/-- the set of texts at a: S its members, n their number -/
def SetT (P : Program) (w : World) (h : Heap) (a : Addr) (S : Str → Bool) (n : Nat) : Prop :=
  ∃ o es ep t, h.get? a = some o ∧ o.ExactSet ∧ o.data = .set es ep t ∧ (∀ e ∈ es.toList, GoodT P w e) ∧ (es.toList.map tkOf).Nodup ∧ (∀ k, S k = true ↔ k ∈ es.toList.map tkOf) ∧
    es.size < scanBound ∧ t.fits es.size = true ∧ es.size = n ∧ Ris t.place.toList ∧ (w.params.followText "set-order" = true ∨ t.led = true)
section
variable {P : Program} {w : World} {h h' : Heap} {a : Addr} {S : Str → Bool} {n : Nat}
theorem SetT.at (R : SetT P w h a S n) (k : ∀ o, h.get? a = some o → h'.get? a = some o) : SetT P w h' a S n := by
  obtain ⟨o, es, ep, t, ho, r⟩ := R
  exact ⟨o, es, ep, t, k o ho, r⟩
theorem SetT.congr {S' : Str → Bool} {n' : Nat} (R : SetT P w h a S n) (e : ∀ k, S' k = S k) (en : n' = n) : SetT P w h a S' n' := by
  have q : S' = S := funext e
  rw [q, en]; exact R
theorem goodT_elems {l : List (Int × Value)} (g : ∀ e ∈ l, GoodT P w e) : ElemsOf (PySem.strKind P w) l := fun e he => by
  obtain ⟨k, tk, h1, h2⟩ := g e he
  exact ⟨⟨k, by rw [h1]; exact PySem.strKind_is P w k tk, h2⟩, by rw [h1] <;> rfl⟩
theorem goodT_is {e : Int × Value} (g : GoodT P w e) (k : Str) : (PySem.strKind P w).is k e.2 = true ↔ tkOf e = k := by
  obtain ⟨k0, tk, h1, _⟩ := g
  unfold tkOf
  rw [h1]
  show ((Value.str k0 tk).isStrOf k = true) ↔ k0 = k
  simp [Value.isStrOf]
theorem goodT_mem {l : List (Int × Value)} (g : ∀ e ∈ l, GoodT P w e) (k : Str) : k ∈ l.map tkOf ↔ ∃ e ∈ l, (PySem.strKind P w).is k e.2 = true := by
  rw [List.mem_map]
  constructor
  · rintro ⟨e, he, q⟩
    exact ⟨e, he, (goodT_is (g e he) k).2 q⟩
  · rintro ⟨e, he, q⟩
    exact ⟨e, he, (goodT_is (g e he) k).1 q⟩
theorem SetT.setOf (R : SetT P w h a S n) : h.SetOf (PySem.strKind P w) a S n := by
  obtain ⟨o, es, ep, t, ho, hx, hd, g, nd, hm, hb, hf, hn, _⟩ := R
  exact ⟨o, es, ep, t, ho, hx, hd, goodT_elems g, fun k => (hm k).trans (goodT_mem g k), hb, hf, hn⟩
end

section
variable {P : Program} {w : World} {A : Around} {E : Value → Shared → Prop} {s : Shared} {a : Addr} {S : Str → Bool} {n : Nat}

/-! ### add -/
theorem setT_add_tail {g : Bool → Sem Unit} (hg : ∀ (b : Bool) (s₁ : Shared) (Q' : Unit → Shared → Prop), Q' () s₁ → wpAny (model P w) A (g b) Q' E s₁)
    {o : Obj} {es : Array (Int × Value)} {ep : Nat} {t : SetTable} (ho : s.heap.get? a = some o) (hex : o.ExactSet) (hd : o.data = .set es ep t)
    {es1 : Array (Int × Value)} {t2 : SetTable} {S' : Str → Bool} (g1 : ∀ e ∈ es1.toList, GoodT P w e) (nd1 : (es1.toList.map tkOf).Nodup) (m1 : ∀ k, S' k = true ↔ k ∈ es1.toList.map tkOf)
    (hb1 : es1.size < scanBound) (hf2 : t2.fits es1.size = true) (hr : Ris t2.place.toList) (hl : w.params.followText "set-order" = true ∨ t2.led = true) {wasDummy : Bool} {R : Option Bool → Shared → Prop}
    (hR : ∀ h', Heap.SameBut a s.heap h' → SetT P w h' a S' es1.size → R (some true) { s with heap := h' }) :
    wpAny (model P w) A (do
        storeSet a es1 t2
        if (!wasDummy && t2.tooFull) = true then do
            g (relayAll t2 es1 (SetTable.grown es1.size)).2.2
            storeSet a (relayAll t2 es1 (SetTable.grown es1.size)).1 (relayAll t2 es1 (SetTable.grown es1.size)).2.1
            pure (some true)
          else pure (some true)) R E s := by
  refine wpAny_bind (wpAny_storeSet_of ho hd ?_ (fits_of_scanBound hb1))
  have ho1 := store_at (es' := es1) (t' := t2) ho hd
  have sb1 := Heap.SameBut.update s.heap a (Obj.putSet es1 t2)
  split
  · have pm := relayAll_perm t2 es1 (SetTable.grown es1.size)
    have hf3 := relayAll_fits t2 es1 (SetTable.grown es1.size)
    have hr3 := relayAll_ris t2 es1 (SetTable.grown es1.size)
    have hl3 := relayAll_led t2 es1 (SetTable.grown es1.size)
    generalize relayAll t2 es1 (SetTable.grown es1.size) = Z at pm hf3 hr3 hl3 ⊢
    obtain ⟨es2, t3, gave⟩ := Z
    dsimp only at pm hf3 hr3 hl3 ⊢
    have hsz : es2.size = es1.size := by rw [← Array.length_toList, pm.length_eq, Array.length_toList]
    have hb2 : es2.size < scanBound := by rw [hsz]; exact hb1
    refine wpAny_bind (hg _ _ _ ?_)
    refine wpAny_bind (wpAny_storeSet_of ho1 rfl ?_ (fits_of_scanBound hb2))
    have ho2 := store_at (es' := es2) (t' := t3) ho1 rfl
    refine wpAny_pure (hR _ (sb1.trans (Heap.SameBut.update _ a _)) ?_)
    exact ⟨_, es2, _, t3, ho2, hex, rfl, fun e he => g1 e (pm.mem_iff.mp he), (pm.map tkOf).nodup_iff.mpr nd1, fun k => (m1 k).trans (pm.map tkOf).mem_iff.symm, hb2, hf3, hsz, hr3,
      hl.imp id fun z => by rw [hl3]; exact z⟩
  · exact wpAny_pure (hR _ sb1 ⟨_, es1, _, t2, ho1, hex, rfl, g1, nd1, m1, hb1, hf2, rfl, hr, hl⟩)

theorem setT_add_hashed {k : Str} {tk : Tok} {Q : Bool → Shared → Prop} (R : SetT P w s.heap a S n) (room : n + 1 < scanBound)
    (hQ : ∀ h', Heap.SameBut a s.heap h' → SetT P w h' a (fun j => S j || decide (j = k)) (if S k = true then n else n + 1) → Q (!S k) { s with heap := h' }) :
    wpAny (model P w) A (setAddHashed a (.str k tk) ((PySem.strKind P w).hash k)) Q E s := by
  obtain ⟨o, es, ep, t, ho, hex, hd, g, nd, hm, hb, hf, hn, hr, hl⟩ := R
  have hkey : (PySem.strKind P w).is k (.str k tk) = true := PySem.strKind_is P w k tk
  have hsc : (Value.str k tk).scannable = true := rfl
  have hel : ElemsOf (PySem.strKind P w) es.toList := goodT_elems g
  unfold setAddHashed setAddHashedIn
  refine wpAny_holding (wpAny_bind (wpAny_setState_of ho hd hf ?_))
  dsimp only
  rw [byScan_of hsc hb hel]
  simp only [↓reduceIte]
  unfold setAddByScan
  refine wpAny_bind ?_
  refine wpAny_bind (wpAny_rule ?_)
  refine wpAny_bind (wpAny_setScan_of hkey ho hd hf hel ?_)
  cases hfi : List.findIdx? (fun e => (PySem.strKind P w).is k e.2) es.toList with
  | some j =>
    dsimp only
    obtain ⟨hj, pj, _⟩ := List.findIdx?_eq_some_iff_getElem.mp hfi
    have hSk : S k = true := (hm k).2 ((goodT_mem (P := P) (w := w) g k).2 ⟨es.toList[j], List.getElem_mem hj, pj⟩)
    refine wpAny_pure (wpAny_pure ?_)
    have q := hQ s.heap (Heap.SameBut.refl a s.heap) ⟨o, es, ep, t, ho, hex, hd, g, nd, fun i => by
      rw [Bool.or_eq_true, decide_eq_true_eq, ← hm i]
      exact ⟨fun z => z.elim id (fun e => e ▸ hSk), .inl⟩, hb, hf, by rw [if_pos hSk]; exact hn, hr, hl⟩
    rw [hSk] at q
    exact q
  | none =>
    dsimp only
    have hnk : k ∉ es.toList.map tkOf := fun z => by
      obtain ⟨e, he, q⟩ := (goodT_mem (P := P) (w := w) g k).1 z
      have c := List.findIdx?_eq_none_iff.mp hfi e he
      rw [q] at c
      cases c
    have hSk : S k = false := by
      cases q : S k with
      | false => rfl
      | true => exact absurd ((hm k).1 q) hnk
    have hgw : ∀ (b : Bool) {s₁ : Shared} {Q' : Unit → Shared → Prop}, Q' () s₁ → wpAny (model P w) A (match b with | true => rule "set.scan.the-table-gave-way" | false => pure ()) Q' E s₁ :=
      fun b s₁ Q' q => by cases b <;> first | exact wpAny_pure q | exact wpAny_rule q
    have pm := layNew_perm t es ((PySem.strKind P w).hash k) (.str k tk)
    have hf1 := layNew_fits t es ((PySem.strKind P w).hash k) (.str k tk)
    have hr1 := layNew_ris t es ((PySem.strKind P w).hash k) (.str k tk) hr
    have hl1 := layNew_led t es ((PySem.strKind P w).hash k) (.str k tk)
    generalize layNew t es ((PySem.strKind P w).hash k) (.str k tk) = Z at pm hf1 hr1 hl1 ⊢
    obtain ⟨es1, t1, wasDummy, gave⟩ := Z
    dsimp only at pm hf1 hr1 hl1 ⊢
    rw [Array.toList_push] at pm
    have pc : es1.toList.Perm (((PySem.strKind P w).hash k, Value.str k tk) :: es.toList) := pm.trans (List.perm_append_singleton _ _)
    have pk : (es1.toList.map tkOf).Perm (k :: es.toList.map tkOf) := pc.map tkOf
    have g1 : ∀ e ∈ es1.toList, GoodT P w e := fun e he => by
      rcases List.mem_cons.mp (pc.mem_iff.mp he) with z | z
      · rw [z]; exact ⟨k, tk, rfl, rfl⟩
      · exact g e z
    have nd1 : (es1.toList.map tkOf).Nodup := pk.nodup_iff.mpr (List.nodup_cons.mpr ⟨hnk, nd⟩)
    have m1 : ∀ i, (S i || decide (i = k)) = true ↔ i ∈ es1.toList.map tkOf := fun i => by
      rw [Bool.or_eq_true, decide_eq_true_eq, hm i, pk.mem_iff, List.mem_cons]
      exact Or.comm
    have hsz : es1.size = n + 1 := by rw [← Array.length_toList, pc.length_eq, List.length_cons, Array.length_toList, hn]
    have hb1 : es1.size < scanBound := by rw [hsz]; exact room
    have hled : w.params.followText "set-order" = true ∨ t1.led = true := hl.imp id fun z => by rw [hl1]; exact z
    have fin : ∀ h', Heap.SameBut a s.heap h' → SetT P w h' a (fun j => S j || decide (j = k)) es1.size → Q true { s with heap := h' } := fun h' sb r => by
      have q := hQ h' sb
      rw [hSk] at q
      rw [hsz] at r
      exact q r
    refine wpAny_bind (hgw _ ?_)
    split
    · refine wpAny_bind ?_
      rw [hashByValue_scannable 8 hsc]
      refine wpAny_pure ?_
      refine setT_add_tail ?_ ho hex hd g1 nd1 m1 hb1 ?_ ?_ ?_ ?_
      · intro b s₁ Q' q; cases b <;> first | exact wpAny_pure q | exact wpAny_rule q
      · first | (split <;> first | exact hf1 | exact SetTable.fits_plain_off hf1) | exact hf1
      · first | (split <;> exact hr1) | exact hr1
      · first | (split <;> exact hled) | exact hled
      · intro h' sb r; dsimp only; exact wpAny_pure (fin h' sb r)
    · refine wpAny_bind (wpAny_pure ?_)
      simp only [↓reduceIte]
      refine setT_add_tail ?_ ho hex hd g1 nd1 m1 hb1 hf1 hr1 hled ?_
      · intro b s₁ Q' q; cases b <;> first | exact wpAny_pure q | exact wpAny_rule q
      · intro h' sb r; dsimp only; exact wpAny_pure (fin h' sb r)

end
end DV

set_option Elab.async false
set_option linter.all false
set_option maxRecDepth 100000
set_option maxHeartbeats 1000000
/-! ExW: set(texts) with a table that can be walked, sorted(set(texts)). -/
namespace DV
open PySem PySem.Spec PyProof.Rows L2
section
variable {P : Program} {w : World} {A : Around} {R : Result → Shared → Prop} {it : Addr} {fp wr : List Addr} {G : Array GenState → Array GenState → Prop} {n : Nat} {Pv : Nat → Value → Prop} {St : Nat → Shared → Prop}
/-- the loop of set(..) over texts -/
theorem fill_textsT (W : WalksS P w A.in1 it fp wr G n Pv St) (a : Addr) (ha : a ∉ fp) (xs : List Str) (hsz : xs.length = n) (hb : n + 1 < scanBound) (hv : ∀ i v, Pv i v → ∃ t, v = .str (xs.getD i Str.empty) t) :
    ∀ (m i : Nat) (s : Shared), i + m = n → St i s → SetT P w s.heap a (fun k => (mets (xs.take i)).any (· == k)) (mets (xs.take i)).length →
      (∀ s', Moved (a :: wr) G s s' → SetT P w s'.heap a (fun k => (mets xs).any (· == k)) (mets xs).length → R (.ok (.ret .none)) s') →
      codeAny (model P w) A (.builtin "set.update.loop" ⟨[.ref a, .ref it], []⟩) R s := by
  have aw : a ∉ wr := fun h => ha (W.sub _ h)
  have up : ∀ b ∈ wr, b ∈ a :: wr := fun b hb => List.mem_cons_of_mem _ hb
  have keepS : ∀ {s s' : Shared} {S : Str → Bool} {j : Nat}, Moved wr G s s' → SetT P w s.heap a S j → SetT P w s'.heap a S j := fun hm ⟨o, es, ep, t, ho, rest⟩ => ⟨o, es, ep, t, hm.heap a _ aw ho, rest⟩
  intro m
  induction m with
  | zero =>
    intro i s hi st gS fin
    have ei : i = n := by omega
    refine codeAny_builtin PyProof.Rows.F.entry_set_update_loop ?_
    rw [Around.under_plainId PyProof.Rows.F.plain_set_update_loop _]
    show wpAny _ A.in1 (pyNext (.ref it) >>= _) _ _ s
    refine wpAny_bind (W.done s _ _ (ei ▸ st) fun s' hm => ?_)
    show wpAny _ A.in1 (ret Value.none) _ _ s'
    refine wpAny_pure (fin s' (hm.mono up) ?_)
    have q := keepS hm gS
    rw [List.take_of_length_le (by omega)] at q
    exact q
  | succ m ih =>
    intro i s hi st gS fin
    refine codeAny_builtin PyProof.Rows.F.entry_set_update_loop ?_
    rw [Around.under_plainId PyProof.Rows.F.plain_set_update_loop _]
    show wpAny _ A.in1 (pyNext (.ref it) >>= _) _ _ s
    refine wpAny_bind (W.item i s _ _ (by omega) st fun v s' pv st' hm => ?_)
    obtain ⟨t, rfl⟩ := hv i v pv
    have gS' := keepS hm gS
    show wpAny _ A.in1 (holding [Value.str (xs.getD i Str.empty) t] (setAdd a (.str (xs.getD i Str.empty) t)) >>= _) _ _ s'
    refine wpAny_bind (wpAny_holding ?_)
    unfold setAdd
    refine wpAny_holding (wpAny_bind ((PySem.strKind P w).pyHash (k := xs.getD i Str.empty) (strKind_is _ _ _ _) ?_))
    have le := mets_le (xs.take i)
    rw [List.length_take] at le
    refine setT_add_hashed (s := { s' with toks := s'.toks + 1 }) gS' (by omega) fun h' sb new => ?_
    have new' : SetT P w h' a (fun k => (mets (xs.take (i + 1))).any (· == k)) (mets (xs.take (i + 1))).length :=
      SetT.congr new (fun k => by rw [mets_take (by omega), met1_any]) (by rw [mets_take (by omega), met1_len])
    refine wpAny_pure ⟨plainId_quiet PyProof.Rows.F.plain_set_update_loop _, ih (i + 1) _ (by omega) (W.frame _ s' _ _ st' (Nat.le_succ _) fun b hb o e => ?_) new' fun s2 hm2 gS2 => ?_⟩
    · rw [sb.2 b (fun z : b = a => ha (z ▸ hb))]; exact e
    · refine fin s2 (Moved.trans W.gtrans ((hm.mono up).then_heap (Nat.le_succ _) fun b o hb e => ?_) hm2) gS2
      rw [sb.2 b (fun z : b = a => hb (by rw [z]; exact List.mem_cons_self))]; exact e
end

section
variable {P : Program} {w : World} {A : Around} {E : Value → Shared → Prop} {s : Shared}
theorem setT_fresh {h : Heap} {a : Addr} (ho : h.get? a = some { cls := .type "set", dict := none, data := .set #[] 0 (.fresh 0 0 (!w.params.followText "set-order")) }) : SetT P w h a (fun _ => false) 0 :=
  ⟨_, #[], 0, _, ho, ⟨rfl, rfl, rfl⟩, rfl, (fun e he => by simp at he), (by simp), (fun k => by simp), (by decide), (by rfl), rfl, List.Pairwise.nil, by
    show _ ∨ (!w.params.followText "set-order") = true
    cases w.params.followText "set-order"
    · exact .inr rfl
    · exact .inl rfl⟩
theorem code_set_ledT (x : Value) {Q₁ : Value → Shared → Prop}
    (h : Q₁ (.ref s.heap.objs.size) { s with heap := s.heap.push { cls := .type "set", dict := none, data := .set #[] 0 (.fresh 0 0 (!w.params.followText "set-order")) } }) :
    codeAny (model P w) A (.call (.builtin "set.__new__") ⟨[.type "set", x], []⟩) (wants Q₁ E) s := by
  refine codeAny_of_tree ?_
  show wpAny _ A.in1 (do checkBuiltinCall "set.__new__" ⟨[.type "set", x], []⟩; again (.builtin "set.__new__" ⟨[.type "set", x], []⟩)) _ _ s
  refine wpAny_bind (wpAny_of_eq (F.newCall_set_1 x) (wpAny_pure ⟨plainId_quiet F.plain_set_new _, codeAny_builtin F.entry_set_new ?_⟩))
  rw [Around.under_plainId F.plain_set_new _]
  unfold Builtin.«set.__new__» Builtin.Frozenset.newClass
  have hsub := sub_set_self
  obtain ⟨hp, g, d, tk, os⟩ := s
  dsimp only
  wp_walk
  refine wpAny_askSetting (wpAny_pure ?_)
  dsimp only
  simp only [newObj]
  refine wpAny_bind (wpAny_alloc (wpAny_pure ?_))
  exact wpAny_pure h
set_option maxHeartbeats 3200000 in
theorem make_textsT {l : Addr} {items : Array Value} {xs : List Str} {c : String} {Q : Value → Shared → Prop} (nohand : A.handled = none) (sq : SeqObj s.heap l items c) (tx : PyProof.Rows.StrsAre items.toList xs) (few : xs.length + 1 < scanBound)
    (fin : ∀ (h' : Heap) (tk : Nat), SetT P w h' s.heap.objs.size (fun k => (mets xs).any (· == k)) (mets xs).length → (∀ b o, b < s.heap.objs.size → s.heap.get? b = some o → h'.get? b = some o) → Q (.ref s.heap.objs.size) { s with heap := h', toks := tk }) :
    wpAny (model P w) A (call (.type "set") [.ref l]) Q E s := by
  have ⟨cc, tl, mro⟩ := PySem.F.called_set.mro
  have made := PySem.F.called_set.made
  have sub := PySem.F.called_set.sub
  refine wpAny_call (codeAny_of_tree ?_)
  show wpAny _ _ (callAny (.type "set") _) _ _ _
  refine wpAny_pure ⟨Code.quiet_builtin _ (by decide +kernel), codeAny_builtin PySem.F.entry_type_call ?_⟩
  rw [Around.under_plain (weight_type_call_type "set" [.ref l] []) rfl]
  have t1 := PySem.F.called_set.notType
  have t2 := PySem.F.called_set.canCreate
  have t3 := PySem.F.typeCall_set_1 (.ref l)
  repeat (any_goals (first | assumption | wp_step))
  refine codeAny_mono (code_set_ledT (.ref l) (E := E) (Q₁ := fun v s1 => v = .ref s.heap.objs.size ∧ s1 = { s with heap := s.heap.push { cls := .type "set", dict := none, data := .set #[] 0 (.fresh 0 0 (!w.params.followText "set-order")) } }) ⟨rfl, rfl⟩) fun r s1 got => ?_
  cases r with
  | error e => exact got
  | ok fl =>
  obtain ⟨v, rfl⟩ : ∃ v, fl = .ret v := by
    cases fl with
    | ret v => exact ⟨v, rfl⟩
    | _ => exact got.elim
  obtain ⟨rfl, rfl⟩ := got
  have free : ({ cls := .type "set", dict := none, data := .set #[] 0 (.fresh 0 0 (!w.params.followText "set-order")) } : Obj).isFreed = false := rfl
  have atS : (s.heap.push { cls := .type "set", dict := none, data := .set #[] 0 (.fresh 0 0 (!w.params.followText "set-order")) }).get? s.heap.objs.size = some { cls := .type "set", dict := none, data := .set #[] 0 (.fresh 0 0 (!w.params.followText "set-order")) } := Heap.get?_push_size _ free
  have tyS : Shared.TypeIs { s with heap := s.heap.push { cls := .type "set", dict := none, data := .set #[] 0 (.fresh 0 0 (!w.params.followText "set-order")) } } (.ref s.heap.objs.size) "set" := ⟨_, atS, rfl⟩
  have look := PySem.F.called_set.init.lookup
  have bound := PySem.F.called_set.init.bind (.ref s.heap.objs.size)
  repeat (any_goals (first | assumption | wp_step))
  refine codeAny_mono (codeAny_call_builtin (R := wants (fun r s2 => r = .none ∧ ∃ h' tk, s2 = { s with heap := h', toks := tk } ∧ SetT P w h' s.heap.objs.size (fun k => (mets xs).any (· == k)) (mets xs).length ∧ (∀ b o, b < s.heap.objs.size → s.heap.get? b = some o → h'.get? b = some o)) E)
    PySem.F.called_set.init.plain PySem.F.entry_set_init (check_set_init_1 tyS ?inn)) fun r s2 got => ?out
  case out =>
    cases r with
    | error e => exact got
    | ok fl =>
      cases fl with
      | ret r =>
        obtain ⟨rfl, h', tk, rfl, gS, gk⟩ := got
        repeat (any_goals (first | assumption | wp_step))
        exact fin _ _ gS gk
      | _ => exact got.elim
  case inn =>
    have hsz : xs.length = items.size := by rw [← StrsAre.len_eq tx, Array.length_toList]
    have val : ∀ (i : Nat) (v : Value), items[i]? = some v → ∃ t, v = .str (xs.getD i Str.empty) t := fun i v hv => SS.strs_at tx i v (by rw [Array.getElem?_toList]; exact hv)
    have nohand3 : A.in1.in1.in1.handled = none := by simp [nohand]
    have szI : (s.heap.push { cls := .type "set", dict := none, data := .set #[] 0 (.fresh 0 0 (!w.params.followText "set-order")) }).objs.size = s.heap.objs.size + 1 := Heap.size_push _ _
    rcases sq with ⟨rfl, hl⟩ | ⟨rfl, hl⟩
    all_goals
      obtain ⟨ol, hol, hcl, nl, hdl⟩ := hl
      obtain ⟨ocls, odict, odata, oslots⟩ := ol
      dsimp only at hcl hdl
      subst hcl
      subst hdl
      have below : l < s.heap.objs.size := Heap.lt_size hol
      have hol' := Heap.get?_push_of_some ({ cls := .type "set", dict := none, data := .set #[] 0 (.fresh 0 0 (!w.params.followText "set-order")) } : Obj) hol
    · have u1 := PySem.F.sub_list_set
      have u2 := PySem.F.sub_list_frozenset
      have u3 : (Value.type "list" == Value.type "dict") = false := by decide
      have seq : (s.heap.push { cls := .type "set", dict := none, data := .set #[] 0 (.fresh 0 0 (!w.params.followText "set-order")) }).IsList l items := ⟨_, hol', rfl, nl, rfl⟩
      unfold Builtin.«set.__init__» noKeywords Builtin.Frozenset.updateFrom
      generalize eI : pyIter = PI
      wp_walk
      subst eI
      refine wpAny_pyIter_list seq ?_
      refine wpAny_bind (wpAny_runValue ?_)
      have lneI : l ≠ (s.heap.push { cls := .type "set", dict := none, data := .set #[] 0 (.fresh 0 0 (!w.params.followText "set-order")) }).objs.size := Nat.ne_of_lt (by rw [szI]; exact Nat.lt_succ_of_lt below)
      have SnI : s.heap.objs.size ∉ [(s.heap.push { cls := .type "set", dict := none, data := .set #[] 0 (.fresh 0 0 (!w.params.followText "set-order")) }).objs.size, l] := by
        rw [szI]
        intro z
        rcases List.mem_cons.mp z with z | z
        · exact Nat.ne_of_lt (Nat.lt_succ_self _) z
        · exact Nat.ne_of_gt below (List.mem_singleton.mp z)
      refine fill_textsT ((Walks.list nohand3 _ l lneI items).toS) s.heap.objs.size SnI xs hsz (by omega) val items.size 0 _ (by omega) ⟨⟨_, Heap.get?_push_size _ rfl, rfl, rfl⟩, (seq.push _)⟩ ?st ?fn
      case st =>
        exact SetT.congr (setT_fresh (Heap.get?_push_of_some _ atS)) (fun _ => rfl) rfl
      case fn =>
        intro s' hm gS
        obtain ⟨h', g', d', tk', os'⟩ := s'
        obtain rfl : g' = s.gens := hm.gens
        obtain rfl : d' = s.drawn := hm.drawn
        obtain rfl : os' = s.os := hm.os
        show wpAny _ _ _ _ _ _
        refine wpAny_pure ?_
        show wpAny _ _ (ret Value.none) _ _ _
        refine wpAny_pure ⟨rfl, h', tk', rfl, gS, fun p o hb e => hm.heap p o (fun z => ?_) (Heap.get?_push_of_some _ (Heap.get?_push_of_some _ e))⟩
        rcases List.mem_cons.mp z with z | z
        · exact Nat.ne_of_lt hb z
        · have z2 := List.mem_singleton.mp z
          rw [szI] at z2
          exact Nat.ne_of_lt (Nat.lt_succ_of_lt hb) z2
    · have u1 := PySem.F.sub_tuple_set
      have u2 := PySem.F.sub_tuple_frozenset
      have u3 : (Value.type "tuple" == Value.type "dict") = false := by decide
      have seq : (s.heap.push { cls := .type "set", dict := none, data := .set #[] 0 (.fresh 0 0 (!w.params.followText "set-order")) }).IsTuple l items := ⟨_, hol', rfl, nl, rfl⟩
      unfold Builtin.«set.__init__» noKeywords Builtin.Frozenset.updateFrom
      generalize eI : pyIter = PI
      wp_walk
      subst eI
      refine wpAny_pyIter_tuple seq ?_
      refine wpAny_bind (wpAny_runValue ?_)
      have lneI : l ≠ (s.heap.push { cls := .type "set", dict := none, data := .set #[] 0 (.fresh 0 0 (!w.params.followText "set-order")) }).objs.size := Nat.ne_of_lt (by rw [szI]; exact Nat.lt_succ_of_lt below)
      have SnI : s.heap.objs.size ∉ [(s.heap.push { cls := .type "set", dict := none, data := .set #[] 0 (.fresh 0 0 (!w.params.followText "set-order")) }).objs.size, l] := by
        rw [szI]
        intro z
        rcases List.mem_cons.mp z with z | z
        · exact Nat.ne_of_lt (Nat.lt_succ_self _) z
        · exact Nat.ne_of_gt below (List.mem_singleton.mp z)
      refine fill_textsT ((Walks.tuple nohand3 _ l lneI items).toS) s.heap.objs.size SnI xs hsz (by omega) val items.size 0 _ (by omega) ⟨⟨_, Heap.get?_push_size _ rfl, rfl, rfl⟩, (seq.push _)⟩ ?st ?fn
      case st =>
        exact SetT.congr (setT_fresh (Heap.get?_push_of_some _ atS)) (fun _ => rfl) rfl
      case fn =>
        intro s' hm gS
        obtain ⟨h', g', d', tk', os'⟩ := s'
        obtain rfl : g' = s.gens := hm.gens
        obtain rfl : d' = s.drawn := hm.drawn
        obtain rfl : os' = s.os := hm.os
        show wpAny _ _ _ _ _ _
        refine wpAny_pure ?_
        show wpAny _ _ (ret Value.none) _ _ _
        refine wpAny_pure ⟨rfl, h', tk', rfl, gS, fun p o hb e => hm.heap p o (fun z => ?_) (Heap.get?_push_of_some _ (Heap.get?_push_of_some _ e))⟩
        rcases List.mem_cons.mp z with z | z
        · exact Nat.ne_of_lt hb z
        · have z2 := List.mem_singleton.mp z
          rw [szI] at z2
          exact Nat.ne_of_lt (Nat.lt_succ_of_lt hb) z2
end


/-- sorted(set of texts) -/
theorem texts_of : ∀ (l : List Value), (∀ v ∈ l, ∃ k tk, v = Value.str k tk) → StrsAre l (l.map PyProof.Rows.strOf)
  | [], _ => .nil
  | v :: l, h => by
    obtain ⟨k, tk, rfl⟩ := h v List.mem_cons_self
    exact .cons k tk (texts_of l fun u hu => h u (List.mem_cons_of_mem _ hu))
end DV

set_option Elab.async false
set_option linter.all false
set_option maxRecDepth 100000
set_option maxHeartbeats 1000000
/-! ExX: sorted(set(texts)). -/
namespace DV
open PySem PySem.Spec PyProof.Rows L2
def leT (a b : Str) : Bool := !ltCps b.cps.toList a.cps.toList
/-- the texts that are met, each once, in order -/
def sortT (xs : List Str) : List Str := (mets xs).mergeSort leT
theorem leT_iff (a b : Str) : leT a b = true ↔ a.cps.toList ≤ b.cps.toList := by
  unfold leT
  rw [ltCps_eq]
  simp
theorem leT_total (a b : Str) : (leT a b || leT b a) = true := by
  rw [Bool.or_eq_true, leT_iff, leT_iff]
  exact List.le_total _ _
theorem leT_trans (a b c : Str) (h1 : leT a b = true) (h2 : leT b c = true) : leT a c = true := by
  rw [leT_iff] at *
  exact List.le_trans h1 h2
theorem leT_anti (a b : Str) (h1 : leT a b = true) (h2 : leT b a = true) : a = b := by
  rw [leT_iff] at *
  have e := List.le_antisymm h1 h2
  cases a; cases b
  simp only [Str.mk.injEq]
  exact Array.toList_inj.mp e
theorem sortT_of {xs ys : List Str} (p : ys.Perm (mets xs)) (h : ys.Pairwise (fun a b => leT a b = true)) : ys = sortT xs :=
  List.Perm.eq_of_pairwise (le := fun a b => leT a b = true) (fun a b _ _ h1 h2 => leT_anti a b h1 h2) h (List.pairwise_mergeSort leT_trans leT_total _) (p.trans (List.mergeSort_perm _ _).symm)
theorem pairwise_of_sortedS : ∀ (l : List Str), sortedS l = true → l.Pairwise (fun a b => leT a b = true) := by
  intro l
  induction l with
  | nil => intro _; exact .nil
  | cons a l ih =>
    intro h
    cases l with
    | nil => exact List.pairwise_singleton _ _
    | cons b l =>
      have h' : leT a b = true ∧ sortedS (b :: l) = true := by
        have h0 : (!ltCps b.cps.toList a.cps.toList && sortedS (b :: l)) = true := h
        exact (Bool.and_eq_true _ _).mp h0
      have ih' := ih h'.2
      refine List.pairwise_cons.mpr ⟨fun c hc => ?_, ih'⟩
      rcases List.mem_cons.mp hc with rfl | hc
      · exact h'.1
      · exact leT_trans _ _ _ h'.1 ((List.pairwise_cons.mp ih').1 c hc)
theorem mem_mets : ∀ (xs acc : List Str) (y : Str), y ∈ xs.foldl met1 acc ↔ y ∈ acc ∨ y ∈ xs := by
  intro xs
  induction xs with
  | nil => intro acc y; simp
  | cons x xs ih =>
    intro acc y
    rw [List.foldl_cons, ih]
    unfold met1
    split
    · rename_i h
      have hx : x ∈ acc := by
        obtain ⟨z, hz, e⟩ := List.any_eq_true.mp h
        have : z = x := by simpa using e
        exact this ▸ hz
      constructor
      · rintro (h | h)
        · exact .inl h
        · exact .inr (List.mem_cons_of_mem _ h)
      · rintro (h | h)
        · exact .inl h
        · rcases List.mem_cons.mp h with rfl | h
          · exact .inl hx
          · exact .inr h
    · rw [List.mem_append, List.mem_singleton, List.mem_cons]
      constructor
      · rintro ((h | h) | h)
        · exact .inl h
        · exact .inr (.inl h)
        · exact .inr (.inr h)
      · rintro (h | h | h)
        · exact .inl (.inl h)
        · exact .inl (.inr h)
        · exact .inr h
theorem nodup_mets : ∀ (xs acc : List Str), acc.Nodup → (xs.foldl met1 acc).Nodup := by
  intro xs
  induction xs with
  | nil => intro acc h; exact h
  | cons x xs ih =>
    intro acc h
    rw [List.foldl_cons]
    refine ih _ ?_
    unfold met1
    split
    · exact h
    · rename_i hx
      refine List.nodup_append.mpr ⟨h, by simp, fun a ha b hb e => hx ?_⟩
      rw [List.mem_singleton] at hb
      exact List.any_eq_true.mpr ⟨a, ha, by simp [e, hb]⟩
theorem mem_sortT {xs : List Str} {y : Str} : y ∈ sortT xs ↔ y ∈ xs := by
  unfold sortT
  rw [List.mem_mergeSort]
  simpa [mets] using mem_mets xs [] y
theorem nodup_sortT (xs : List Str) : (sortT xs).Nodup := (List.mergeSort_perm _ _).nodup_iff.mpr (nodup_mets xs [] List.nodup_nil)
section
variable {P : Program} {w : World} {A : Around} {E : Value → Shared → Prop} {s : Shared}
theorem sorted_setT {a : Addr} {S : Str → Bool} {n : Nat} {Q : Value → Shared → Prop} (R : SetT P w s.heap a S n) (hh : A.handled = none) (h64 : n < 64)
    (hQ : ∀ s' p (out : Array Value) (c : Nat) (ns : List Str), (∀ b o, s.heap.get? b = some o → s'.heap.get? b = some o) → s'.gens = s.gens → s'.os = s.os → s.heap.objs.size ≤ p →
      s'.heap.get? p = some (seqObj "list" out c) → StrsAre out.toList ns → sortedS ns = true → (∀ k, k ∈ ns ↔ S k = true) → ns.Nodup → ns.length = n → Q (.ref p) s') :
    wpAny (model P w) A (call (.builtin "sorted") [.ref a]) Q E s := by
  obtain ⟨o, es, ep, t, ho, hex, hd, g, nd, hm, hb, hf, hn, hr, hl⟩ := R
  refine Calls.call_function_entry kind_sorted plain_sorted entry_sorted (args_sorted1 _) ?_
  unfold Builtin.«sorted»
  refine wpAny_bind (m := checkCount "sorted" 1 1 _) (wpAny_pure ?_)
  refine wpAny_bind (collect_set (A := A.in1) hh ⟨o, ho, hex.1, hd⟩ hf hb hr hl fun s1 vs k1 hz g1 o1 pm => ?_)
  have hvl : vs.length = n := by rw [pm.length_eq, List.length_map, Array.length_toList]; exact hn
  have hI : StrsAre vs (vs.map PyProof.Rows.strOf) := texts_of vs fun v hv => by
    obtain ⟨e, he, q⟩ := List.mem_map.mp (pm.mem_iff.mp hv)
    obtain ⟨k, tk, h1, _⟩ := g e he
    exact ⟨k, tk, by rw [← q]; exact h1⟩
  have pk : (vs.map PyProof.Rows.strOf).Perm (es.toList.map tkOf) := by
    have q := pm.map PyProof.Rows.strOf
    rw [List.map_map] at q
    refine q.trans (List.Perm.of_eq (List.map_congr_left fun e he => ?_))
    obtain ⟨k, tk, h1, _⟩ := g e he
    show PyProof.Rows.strOf e.2 = tkOf e
    unfold tkOf
    rw [h1]
    rfl
  refine wpAny_bind (wpAny_newList ?_ (by rw [hvl, sizeLine_eq]; omega))
  have hoL : (s1.heap.push (seqObj "list" vs.toArray 0)).get? s1.heap.objs.size = some (seqObj "list" vs.toArray 0) := Heap.get?_push_size _ rfl
  refine wpAny_bind (wpAny_holding (wpAny_call_entry slot_list_sort ⟨_, hoL, rfl⟩ entry_list_sort (list_sort_treeK PyProof.Rows.strKind_oneLt hoL hI.keysOf (fun v₁ v₂ rest e => keyKind_strs (by rw [← e]; exact hI)) (by rw [hvl]; exact h64) fun st' hp hs => ⟨_, rfl, ?_⟩) (args_list_sort _)))
  obtain ⟨ns', a1, a2, a3⟩ := sorted_out_str hI hp hs
  obtain ⟨c, hc⟩ := sortedHeap_at (vs := vs) (out := (arrOf st').map (·.2)) hoL
  have pn : ns'.Perm (es.toList.map tkOf) := a2.trans pk
  refine wpAny_pure ⟨_, rfl, hQ _ s1.heap.objs.size _ c ns' (fun b u e => ?_) g1 o1 hz hc a1 a3 (fun k => by rw [pn.mem_iff, ← hm k]) (pn.nodup_iff.mpr nd) ?_⟩
  · have q := k1 b u e
    have hlt := Heap.lt_size q
    show (sortedHeap (s1.heap.push (seqObj "list" vs.toArray 0)) s1.heap.objs.size vs _).get? b = some u
    rw [sortedHeap_old (Nat.ne_of_lt hlt) (by rw [size_push']; exact Nat.lt_succ_of_lt hlt)]
    exact Heap.get?_push_of_some _ q
  · rw [pn.length_eq, List.length_map, Array.length_toList]; exact hn
end
section
variable {K : PySem.W.Frag} {ct : String → Addr} {io : Io} {H : Hp} {A : Hd}
theorem drs_texts : ∀ xs : List Str, DRs K ct io H (xs.map V.str) (xs.map D.str)
  | [] => .nil
  | x :: xs => .cons (.str x) (drs_texts xs)
def gSortSet (d : D) (A : Hd) : R D := match asQ A d with
  | some es => match textsD es with
    | some xs => if xs.length < 4000 ∧ (mets xs).length < 64 then .ok (.lst ((sortT xs).map D.str)) A else .stk
    | none => .stk
  | none => .stk
def tSortSet (K : PySem.W.Frag) (ta : TE) : TE := fun σ H Q => ta σ H fun x H1 => ∃ l, ∃ xs : List Str, x = .ref l ∧ (SqL K H1 l (xs.map V.str) ∨ SqT K H1 l (xs.map V.str)) ∧ (xs.length < 4000 ∧ (mets xs).length < 64) ∧ ∀ p, H1 p = none → Q (.ref p) (upd H1 p (.lst ((sortT xs).map V.str)))
end
section
variable {X : Cx} {ct : String → Addr} {W : WX} {a : Expr} {fa : EF} {p p2 q pos : Pos}
theorem pe_sortSet {ta : TE} (hc : X.calm = true) (hg : Gl X "sorted") (hm : X.mg "sorted" = none) (hg2 : Gl X "set") (hm2 : X.mg "set" = none) (ha : PE X a ta) (na : starEach [a] X.env = (false, eval a X.env) :: starEach [] X.env := by rfl) :
    PE X (.Call (.Name "sorted" p) [.Call (.Name "set" p2) [a] [] q] [] pos) (tSortSet X.K ta) := by
  refine ⟨fun pins s σ H Q I h => ?_⟩
  refine Call_ (ld_blt I hg hm boot_sorted (PyProof.Rows.callWith_builtin1 (PyProof.Rows.args_cons ?_ rfl) rfl rfl))
  refine Call_ (ld_blt I hg2 hm2 boot_set ?_)
  refine PyProof.Rows.callWith_type1 (PyProof.Rows.args_cons (thn (ha.run pins s σ H _ I h) fun v s1 ⟨x, H1, I1, r1, q1⟩ => PyProof.Rows.args_nil ?_) na) na rfl
  obtain ⟨l, xs, rfl, sq, ⟨few, few2⟩, q1⟩ := q1
  cases r1
  have go : ∃ c items, SeqObj s1.heap l items c ∧ StrsAre items.toList xs := by
    rcases sq with sq | sq
    · obtain ⟨its, r, pl, hz⟩ := I1.list sq
      exact ⟨"list", its.toArray, .inl ⟨rfl, pl.isList⟩, by simpa using strsAre_of r⟩
    · obtain ⟨its, r, pl, hz⟩ := I1.tuple sq
      exact ⟨"tuple", its.toArray, .inr ⟨rfl, pl⟩, by simpa using strsAre_of r⟩
  obtain ⟨c, items, so, tx⟩ := go
  refine make_textsT (I1.ok.hd hc) so tx (by unfold scanBound; omega) fun h' tk gS gk => ?_
  refine PyProof.Rows.args_nil ?_
  have le := mets_le xs
  refine sorted_setT gS (I1.ok.hd hc) (by omega) fun s' p out c2 ns k g o hp hg3 hi hs hmm hnd hl => ?_
  have ens : ns = sortT xs := by
    refine sortT_of ?_ (pairwise_of_sortedS _ hs)
    refine (List.perm_ext_iff_of_nodup hnd (nodup_mets xs [] List.nodup_nil)).mpr fun k => ?_
    rw [hmm k, List.any_eq_true]
    constructor
    · rintro ⟨z, hz, e⟩
      have : z = k := by simpa using e
      exact this ▸ hz
    · intro hz
      exact ⟨k, hz, by simp⟩
  subst ens
  have k2 : ∀ b ob, s1.heap.get? b = some ob → s'.heap.get? b = some ob := fun b ob e => k b ob (gk b ob (Heap.lt_size e) e)
  have hp2 : s1.heap.objs.size ≤ p := ?_
  have hlen : ((sortT xs).map V.str).length ≤ sizeLine := by rw [List.length_map, hl, sizeLine_eq]; omega
  have hn : H1 p = none := I1.hok.fresh hp2
  have J : Inv X pins σ (upd H1 p (.lst ((sortT xs).map V.str))) { s1 with heap := s'.heap, gens := s'.gens, drawn := s'.drawn, toks := s'.toks } :=
    I1.call (ch := []) (Un.laid k2 hp2 hn) (I1.hok.laid k2 hp2 ⟨hlen, out.toList, c2, vals_of_strs hi, hg3⟩) (by rw [g]; exact I1.bare) (fun _ z => nomatch z)
  have e : s' = { s1 with heap := s'.heap, gens := s'.gens, drawn := s'.drawn, toks := s'.toks } := by
    cases s'
    cases s1
    cases o
    rfl
  · rw [e]
    exact ⟨.ref p, _, J, rfl, q1 p hn⟩
  · refine Nat.le_trans ?_ hp
    obtain ⟨oo, _, _, _, hoo, _⟩ := gS
    exact Nat.le_of_lt (Heap.lt_size hoo)
theorem pd_sortSet (hc : X.calm = true) (hg : Gl X "sorted") (hm : X.mg "sorted" = none) (hg2 : Gl X "set") (hm2 : X.mg "set" = none) (ha : PD X ct W a fa) (na : starEach [a] X.env = (false, eval a X.env) :: starEach [] X.env := by rfl) :
    PD X ct W (.Call (.Name "sorted" p) [.Call (.Name "set" p2) [a] [] q] [] pos) (eUn gSortSet fa) :=
  pe_mono (pe_sortSet hc hg hm hg2 hm2 ha na) fun σ H Q ⟨io, A, ro, s, p⟩ => ⟨io, A, ro, s, (p.bind (rep := DR X.K ct)).mono fun v H1 ⟨io1, A1, d, e1, h1, r1, p1⟩ => by
    unfold gSortSet at p1
    split at p1
    · rename_i es he
      split at p1
      · rename_i xs hx
        split at p1
        · rename_i few
          obtain ⟨a, us, rfl, sq, rs⟩ := asQ_ok h1 r1 he
          have e := textsD_ok rs hx
          subst e
          refine ⟨a, xs, rfl, sq, few, fun p hn => ?_⟩
          exact p1.new h1 hn (.newLst h1 hn (drs_texts _))
        · exact p1.elim
      · exact p1.elim
    · exact p1.elim⟩
end
section
variable {X : Cx} {ct : String → Addr} {W : WX} {a b : Expr} {fa fb : EF} {pos : Pos}
theorem pdt_inT (hu : X.A.units + 1 < cLine) (ha : PD X ct W a fa) (hb : PD X ct W b fb) (hm : behindInMarks .In b = false := by first | exact nobehind _ (by decide) (by decide) | rfl) : PDt X ct W (.Compare a [.In] [b] pos) (tCmpD (gInT true) fa fb) := by
  refine pt_of_pe (f := eBin (gInT true) fa fb) (pt_cmp (pos := pos) (pc_din hu ha hb) hm) fun σ H Q ⟨io, A, ro, s, p⟩ => ⟨io, A, ro, s, (p.bind (rep := DR X.K ct)).mono fun v H1 ⟨io1, A1, d, e1, h1, r1, p1⟩ => ⟨io1, A1, ro, s.mono e1 h1, (p1.bind (rep := DR X.K ct)).mono fun w H2 ⟨io2, A2, dk, e2, h2, r2, p2⟩ => ?_⟩⟩
  obtain ⟨a, o, ew, g, q⟩ := inT_fin e2 h1 r1 h2 r2 p2
  exact ⟨a, o, ew, g, by rw [show o.isSome = (o.isSome == true) by cases o <;> rfl]; exact q⟩
theorem pdt_notInT (hu : X.A.units + 1 < cLine) (ha : PD X ct W a fa) (hb : PD X ct W b fb) (hm : behindInMarks .NotIn b = false := by first | exact nobehind _ (by decide) (by decide) | rfl) : PDt X ct W (.Compare a [.NotIn] [b] pos) (tCmpD (gInT false) fa fb) := by
  refine pt_of_pe (f := eBin (gInT false) fa fb) (pt_cmp (pos := pos) (pc_dnotin hu ha hb) hm) fun σ H Q ⟨io, A, ro, s, p⟩ => ⟨io, A, ro, s, (p.bind (rep := DR X.K ct)).mono fun v H1 ⟨io1, A1, d, e1, h1, r1, p1⟩ => ⟨io1, A1, ro, s.mono e1 h1, (p1.bind (rep := DR X.K ct)).mono fun w H2 ⟨io2, A2, dk, e2, h2, r2, p2⟩ => ?_⟩⟩
  obtain ⟨a, o, ew, g, q⟩ := inT_fin e2 h1 r1 h2 r2 p2
  exact ⟨a, o, ew, g, by rw [show (!o.isSome) = (o.isSome == false) by cases o <;> rfl]; exact q⟩
end
end DV

set_option Elab.async false
set_option linter.all false
set_option maxRecDepth 100000
set_option maxHeartbeats 1000000
/-! InA: instances of own classes by data: fields read and stored, constants, methods, made. -/
namespace DV
open PySem PySem.Spec PyProof.Rows L2
/-! ### o.f -/
/-- a field of an instance; fs: the classes that it may be of -/
def gFldI (cs : List String) (f : Str) (d : D) (A : Hd) : R D := match d with
  | .ref n => (match A[n]? with
    | some (.ins c fs) => if c ∈ cs then (match fs.lookup f with
      | some v => .ok v A
      | none => .stk) else .stk
    | _ => .stk)
  | _ => .stk
/-- a constant of the class, read off an instance -/
def gConI (tab : String → Option D) (f : Str) (d : D) (A : Hd) : R D := match d with
  | .ref n => (match A[n]? with
    | some (.ins c fs) => (match fs.lookup f, tab c with
      | none, some v => .ok v A
      | _, _ => .stk)
    | _ => .stk)
  | _ => .stk
theorem lookup_none {f : Str} {K : PySem.W.Frag} {ct : String → Addr} {io : Io} {H : Hp} : ∀ {gs : List (Str × V)} {fs : List (Str × D)}, gs.map (·.1) = fs.map (·.1) → fs.lookup f = none → gs.lookup f = none
  | [], [], _, _ => rfl
  | [], _ :: _, h, _ => by cases h
  | _ :: _, [], h, _ => by cases h
  | (g, v) :: gs, (f', d) :: fs, h, e => by
    simp only [List.map_cons, List.cons.injEq] at h
    obtain ⟨h1, h2⟩ := h
    subst h1
    by_cases q : f = g
    · subst q
      simp [List.lookup] at e
    · have q2 : (f == g) = false := by simpa using q
      simp only [List.lookup, q2] at e ⊢
      exact lookup_none (K := K) (ct := ct) (io := io) (H := H) h2 e
structure ConD (K : PySem.W.Frag) (ct : String → Addr) (c : String) (f : Str) (d : D) : Prop where
  cls : Cls K (ct c)
  con : ∃ v u, Con K (ct c) f v u ∧ ∀ io H, DR K ct io H v d
section
variable {X : Cx} {ct : String → Addr} {W : WX} {e o : Expr} {fa fo : EF} {f : Str} {pos pos' : Pos} {cs : List String}
theorem pd_fldI (hT : ∀ c ∈ cs, Cls X.K (ct c) ∧ NoAttr X.K (ct c) f) (he : PD X ct W e fa) (hb : attributeBase e f X.env (eval e X.env) = eval e X.env := by rfl) : PD X ct W (.Attribute e f pos) (eUn (gFldI cs f) fa) :=
  pe_mono (pe_fld he hb) fun σ H Q ⟨io, A, ro, s, p⟩ => ⟨io, A, ro, s, (p.bind (rep := DR X.K ct)).mono fun v H1 ⟨io1, A1, d, e1, h1, r1, p1⟩ => by
    unfold gFldI at p1
    split at p1
    · rename_i n
      split at p1
      · rename_i c fs hm
        split at p1
        · rename_i hc
          split at p1
          · rename_i dv hl
            cases r1 with
            | @ref a _ q =>
              obtain ⟨dx, gs, e2, ek, rs⟩ := h1.get q hm
              obtain ⟨w, l1, rw1⟩ := lookup_rel f ek rs hl
              exact ⟨a, ct c, dx, gs, w, rfl, e2, (hT c hc).1, (hT c hc).2, l1, p1.here h1 rw1⟩
          · exact p1.elim
        · exact p1.elim
      · exact p1.elim
    · exact p1.elim⟩
theorem pd_conI {tab : String → Option D} (hT : ∀ c d, tab c = some d → ConD X.K ct c f d) (he : PD X ct W e fa) (hb : attributeBase e f X.env (eval e X.env) = eval e X.env := by rfl) : PD X ct W (.Attribute e f pos) (eUn (gConI tab f) fa) :=
  pe_mono (pe_con he hb) fun σ H Q ⟨io, A, ro, s, p⟩ => ⟨io, A, ro, s, (p.bind (rep := DR X.K ct)).mono fun v H1 ⟨io1, A1, d, e1, h1, r1, p1⟩ => by
    unfold gConI at p1
    split at p1
    · rename_i n
      split at p1
      · rename_i c fs hm
        split at p1
        · rename_i dv hl ht
          cases r1 with
          | @ref a _ q =>
            obtain ⟨dx, gs, e2, ek, rs⟩ := h1.get q hm
            obtain ⟨cl, w, u, co, rw1⟩ := hT c dv ht
            exact ⟨a, ct c, dx, gs, w, u, rfl, e2, cl, co, lookup_none (K := X.K) (ct := ct) (io := io1) (H := H1) ek hl, p1.here h1 (rw1 io1 H1)⟩
        · exact p1.elim
      · exact p1.elim
    · exact p1.elim⟩
end
/-! ### o.f = v -/
def putFD (f : Str) (y : D) : List (Str × D) → List (Str × D)
  | [] => [(f, y)]
  | (g, v) :: r => if g = f then (g, y) :: r else (g, v) :: putFD f y r
theorem putF_keys (f : Str) (v : V) (d : D) : ∀ {gs : List (Str × V)} {fs : List (Str × D)}, gs.map (·.1) = fs.map (·.1) → (putF f v gs).map (·.1) = (putFD f d fs).map (·.1)
  | [], [], _ => rfl
  | [], _ :: _, h => by cases h
  | _ :: _, [], h => by cases h
  | (g, x) :: gs, (g', y) :: fs, h => by
    simp only [List.map_cons, List.cons.injEq] at h
    obtain ⟨h1, h2⟩ := h
    subst h1
    by_cases q : g = f
    · simp only [putF, putFD, if_pos q, List.map_cons, h2]
    · simp only [putF, putFD, if_neg q, List.map_cons, putF_keys f v d h2]
theorem putF_vals {K : PySem.W.Frag} {ct : String → Addr} {io : Io} {H : Hp} {f : Str} {v : V} {d : D} (r : DR K ct io H v d) : ∀ {gs : List (Str × V)} {fs : List (Str × D)}, gs.map (·.1) = fs.map (·.1) → DRs K ct io H (gs.map (·.2)) (fs.map (·.2)) → DRs K ct io H ((putF f v gs).map (·.2)) ((putFD f d fs).map (·.2))
  | [], [], _, _ => .cons r .nil
  | [], _ :: _, h, _ => by cases h
  | _ :: _, [], h, _ => by cases h
  | (g, x) :: gs, (g', y) :: fs, h, rs => by
    simp only [List.map_cons, List.cons.injEq] at h
    obtain ⟨h1, h2⟩ := h
    subst h1
    rw [List.map_cons, List.map_cons] at rs
    cases rs with
    | cons r1 rr =>
      by_cases q : g = f
      · simp only [putF, putFD, if_pos q, List.map_cons]; exact .cons r rr
      · simp only [putF, putFD, if_neg q, List.map_cons]; exact .cons r1 (putF_vals r h2 rr)
def sFldI (cs : List String) (f : Str) (fo fv : EF) : SF := fun ro A => (fv ro A).then ro fun y A1 => (fo ro A1).then ro fun d A2 => match d with
  | .ref n => (match A2[n]? with
    | some (.ins c fs) => if c ∈ cs ∧ fs.length < 1000 then .go .nx ro (A2.set n (.ins c (putFD f y fs))) else .stk
    | _ => .stk)
  | _ => .stk
section
variable {X : Cx} {ct : String → Addr} {W : WX} {e o : Expr} {fa fo : EF} {f : Str} {pos pos' : Pos} {cs : List String}
theorem psd_fldI (hT : ∀ c ∈ cs, Cls X.K (ct c) ∧ NoAttr X.K (ct c) f) (ho : PD X ct W o fo) (he : PD X ct W e fa) (hs : swapsWith e (some (.Attribute o f pos')) pos.line X.env = pure false := by rfl) : PSD X ct W (.Assign [.Attribute o f pos'] e pos) (sFldI cs f fo fa) :=
  ps_mono (ps_fld ho he hs) fun Z σ H ⟨io, A, ro, s, p⟩ => ⟨io, A, ro, s, (Post.then (rep := DR X.K ct) s p).mono fun y H1 ⟨io1, A1, dy, e1, s1, ry, q1⟩ => ⟨io1, A1, ro, s1, (Post.then (rep := DR X.K ct) s1 q1).mono fun x H2 ⟨io2, A2, d, e2, s2, rx, q2⟩ => by
    split at q2
    · rename_i n
      split at q2
      · rename_i c fs hm
        split at q2
        · rename_i hc
          cases rx with
          | @ref a _ q =>
            obtain ⟨dx, gs, eH, ek, rs⟩ := s2.hr.get q hm
            have hl : gs.length = fs.length := by simpa using congrArg List.length ek
            have hz := nfz (u0 := HO.ins (ct c) dx gs) eH fun _ _ z => by cases z
            have x1 := s2.hr.extW (o := .ins (ct c) dx (putF f y gs)) q hz
            refine ⟨a, ct c, dx, gs, rfl, eH, (hT c hc.1).1, (hT c hc.1).2, by rw [hl]; exact hc.2, ?_⟩
            exact q2 σ io2 _ x1 (s2.write q hz ⟨dx, putF f y gs, upd_same, putF_keys f y dy ek, putF_vals ((ry.mono e2 s1.hr.noT).mono x1 s2.hr.noT) ek (rs.mono x1 s2.hr.noT)⟩)
        · exact q2.elim
      · exact q2.elim
    · exact q2.elim⟩⟩
end
/-! ### o.m(e, ..) -/
structure MetC (P : Program) (w : World) (K : PySem.W.Frag) (mg : Str → Option Value) (base : Heap) (ct : String → Addr) (k : Nat) (c : String) (m : Str) (n : Nat) (F : FF) : Prop where
  cls : Cls K (ct c)
  ex : ∃ f fd ps, FnG P w K mg base k f fd ps (spD K ct n F) ∧ Meth K (ct c) m f ∧ Binds K fd ps []
def eMethI (tab : String → Option FF) (m : Str) (fo : EF) (fl : AF) : EF := fun ro A => (fo ro A).bind fun d A1 => match d with
  | .ref n => (match A1[n]? with
    | some (.ins c fs) => (match fs.lookup m, tab c with
      | none, some F => (fl ro A1).bind fun ds A2 => F (.ref n :: ds) A2
      | _, _ => .stk)
    | _ => .stk)
  | _ => .stk
section
variable {X : Cx} {ct : String → Addr} {W : WX} {e o : Expr} {es : List Expr} {fo : EF} {fl : AF} {m : Str} {p pos apos : Pos} {k j n : Nat} {tab : String → Option FF}
theorem pd_methI {pl : Sem Bool} {n1 : Nat} (hT : ∀ c F, tab c = some F → MetC X.prog X.w X.K X.mg X.base ct k c m n F) (hgd : X.A.guards = some []) (hr : Room j X.A) (hk : k ≤ j) (tk : Takes X W) (ho : PD X ct W o fo) (ha : PDa X ct W (e :: es) fl) (hal : Ar n1 fl) (hn : n1 + 1 = n)
    (hst : starEach (e :: es) X.env = (false, eval e X.env) :: starEach es X.env := by rfl) (hpl : (backTo pos (starEach es X.env)).any (·.1) = false := by rfl)
    (ht : eval (.Call (.Attribute o m apos) (e :: es) [] pos) X.env = (do
      let ov ← eval o X.env
      standAt apos.atName
      let (f, first) ← holding [ov] (getMethod ov m pl)
      callWith pos f first (backTo pos (starEach (e :: es) X.env)) (backToKw pos (keywordEach [] X.env))) := by rfl) :
    PD X ct W (.Call (.Attribute o m apos) (e :: es) [] pos) (eMethI tab m fo fl) := by
  refine ⟨fun pins s σ H Q I ⟨io, A, ro, st, p⟩ => ?_⟩
  refine PySem.W.methodCall_KW (pl := pl) (thn (ho.run pins s σ H _ I ⟨io, A, ro, st, p.bind (rep := DR X.K ct)⟩) fun u s1 ⟨x, H1, I1, rx, io1, A1, d, e1, h1, r1, p1⟩ => ?_) ht
  split at p1
  · rename_i n0
    split at p1
    · rename_i c fs hm
      split at p1
      · rename_i F hl hF
        cases r1 with
        | @ref a _ q =>
          obtain rfl : u = Value.ref a := rx
          obtain ⟨dx, gs, eH, ek, rs⟩ := h1.get q hm
          obtain ⟨cl, f, fd, ps, Fn, Mt, hb⟩ := hT c F hF
          refine getmeth_ok I1 eH cl Mt (lookup_none (K := X.K) (ct := ct) (io := io1) (H := H1) ek hl) ?_
          cases hf : fl ro A1 with
          | stk => rw [hf] at p1; exact p1.elim
          | err c' fs' A2 =>
            have pr : Post X.K ct (DRs X.K ct) W σ io1 H1 (fl ro A1) (fun _ _ => False) := by
              rw [hf] at p1 ⊢
              exact fun cls dd io' H' ee hh xx => p1 cls dd io' H' ee hh xx
            exact PySem.W.callWith_K (first := [.ref a]) (h₀ := X.base) I.ok.mod.kin Mt.kp (thn (ha.run pos pins s1 σ H1 _ I1 ⟨io1, A1, ro, st.mono e1 h1, pr⟩) fun us s2 ⟨vs, H2, I2, r, z⟩ => z.elim) hst hpl
          | ok ds A2 =>
            have hds := hal ro A1 ds A2 hf
            have pr : Post X.K ct (DRs X.K ct) W σ io1 H1 (fl ro A1) (fun vs H2 => ∃ io2, Ext io1 H1 io2 H2 ∧ HR X.K ct io2 H2 A2 ∧ DRs X.K ct io2 H2 vs ds) := by
              rw [hf]
              exact fun vs io2 H2 e h r => ⟨io2, e, h, r⟩
            rw [hf] at p1
            have p2 : Post X.K ct (DR X.K ct) W σ io1 H1 (F (.ref n0 :: ds) A2) Q := p1
            refine PySem.W.callWith_K (first := [.ref a]) (h₀ := X.base) I.ok.mod.kin Mt.kp (thn (ha.run pos pins s1 σ H1 _ I1 ⟨io1, A1, ro, st.mono e1 h1, pr⟩) fun us s2 ⟨vs, H2, I2, r, io2, e2, h2, rs2⟩ => ⟨I2.kIn, ?_⟩) hst hpl
            refine run_G (us := .ref a :: us) (vs := .ref a :: vs) (dvs := []) (ds := []) Fn hgd (hr.mono hk) hb .nil tk I2 (.cons rfl r) ?_
            rw [List.append_nil]
            exact spD_call (by rw [List.length_cons, rs2.length, hds]; exact hn) h2 (.cons (.ref (e2.mem q)) rs2) (Post.ext e2 p2)
      · exact p1.elim
    · exact p1.elim
  · exact p1.elim
theorem pd_methI0 {pl : Sem Bool} (hT : ∀ c F, tab c = some F → MetC X.prog X.w X.K X.mg X.base ct k c m 1 F) (hgd : X.A.guards = some []) (hr : Room j X.A) (hk : k ≤ j) (tk : Takes X W) (ho : PD X ct W o fo)
    (ht : eval (.Call (.Attribute o m apos) [] [] pos) X.env = (do
      let ov ← eval o X.env
      standAt apos.atName
      let (f, first) ← holding [ov] (getMethod ov m pl)
      callWith pos f first (backTo pos (starEach [] X.env)) (backToKw pos (keywordEach [] X.env))) := by rfl) :
    PD X ct W (.Call (.Attribute o m apos) [] [] pos) (eMethI tab m fo aNil) := by
  refine ⟨fun pins s σ H Q I ⟨io, A, ro, st, p⟩ => ?_⟩
  refine PySem.W.methodCall_KW (pl := pl) (thn (ho.run pins s σ H _ I ⟨io, A, ro, st, p.bind (rep := DR X.K ct)⟩) fun u s1 ⟨x, H1, I1, rx, io1, A1, d, e1, h1, r1, p1⟩ => ?_) ht
  split at p1
  · rename_i n0
    split at p1
    · rename_i c fs hm
      split at p1
      · rename_i F hl hF
        cases r1 with
        | @ref a _ q =>
          obtain rfl : u = Value.ref a := rx
          obtain ⟨dx, gs, eH, ek, rs⟩ := h1.get q hm
          obtain ⟨cl, f, fd, ps, Fn, Mt, hb⟩ := hT c F hF
          refine getmeth_ok I1 eH cl Mt (lookup_none (K := X.K) (ct := ct) (io := io1) (H := H1) ek hl) ?_
          have p2 : Post X.K ct (DR X.K ct) W σ io1 H1 (F [.ref n0] A1) Q := p1
          refine PySem.W.callWith_K0 (first := [.ref a]) I1.kIn Mt.kp (run_G (us := [.ref a]) (vs := [.ref a]) (dvs := []) (ds := []) Fn hgd (hr.mono hk) hb .nil tk I1 (.cons rfl .nil) ?_)
          rw [List.append_nil]
          exact spD_call rfl h1 (.cons (.ref q) .nil) p2
      · exact p1.elim
    · exact p1.elim
  · exact p1.elim
end
/-! ### C(e, ..) -/
structure MkI (P : Program) (w : World) (K : PySem.W.Frag) (mg : Str → Option Value) (base : Heap) (ct : String → Addr) (k : Nat) (x : Str) (c : String) (n : Nat) (F : FF) : Prop where
  mg_ : mg x = some (.ref (ct c))
  ex : ∃ f fd ps, Mk K (ct c) f ∧ FnG P w K mg base k f fd ps (spD K ct n F) ∧ Binds K fd ps []
def mkR (n : Nat) (r : R D) : R D := match r with
  | .ok .non A => .ok (.ref n) A
  | .err c fs A => .err c fs A
  | _ => .stk
def gMkI (c : String) (F : FF) (ds : List D) (A : Hd) : R D := mkR A.length (F (.ref A.length :: ds) (A ++ [.ins c []]))
section
variable {X : Cx} {ct : String → Addr} {W : WX} {e : Expr} {es : List Expr} {fl : AF} {x : Str} {c : String} {p pos : Pos} {k j n n1 : Nat} {F : FF}
theorem pd_newI (hM : MkI X.prog X.w X.K X.mg X.base ct k x c n F) (hgd : X.A.guards = some []) (hr : Room j X.A) (hk : k + 1 ≤ j) (hg : Gl X x) (tk : Takes X W) (ha : PDa X ct W (e :: es) fl) (hal : Ar n1 fl) (hn : n1 + 1 = n)
    (hdb : (x == ("__debug__" : Str)) = false := by decide) (he : starEach (e :: es) X.env = (false, eval e X.env) :: starEach es X.env := by rfl) (hpl : (backTo pos (starEach es X.env)).any (·.1) = false := by rfl) :
    PD X ct W (.Call (.Name x p) (e :: es) [] pos) (eArgs (gMkI c F) fl) := by
  obtain ⟨f, fd, ps, M, Fn, hb⟩ := hM.ex
  refine ⟨fun pins s σ H Q I ⟨io, A, ro, st, q⟩ => ?_⟩
  refine wpAny_Call_Name_kw (ld_glob I hg hM.mg_ ?_ hdb)
  unfold eArgs at q
  cases hf : fl ro A with
  | stk => rw [hf] at q; exact q.elim
  | err c' fs' A2 =>
    have pr : Post X.K ct (DRs X.K ct) W σ io H (fl ro A) (fun _ _ => False) := by
      rw [hf] at q ⊢
      exact fun cls dd io' H' ee hh xx => q cls dd io' H' ee hh xx
    exact PySem.W.callWith_K (h₀ := X.base) I.ok.mod.kin M.kp (thn (ha.run pos pins s σ H _ I ⟨io, A, ro, st, pr⟩) fun us s2 ⟨vs, H2, I2, r, z⟩ => z.elim) he hpl
  | ok ds A1 =>
    have hds := hal ro A ds A1 hf
    have pr : Post X.K ct (DRs X.K ct) W σ io H (fl ro A) (fun vs H2 => ∃ io2, Ext io H io2 H2 ∧ HR X.K ct io2 H2 A1 ∧ DRs X.K ct io2 H2 vs ds) := by
      rw [hf]
      exact fun vs io2 H2 e h r => ⟨io2, e, h, r⟩
    rw [hf] at q
    have p2 : Post X.K ct (DR X.K ct) W σ io H (gMkI c F ds A1) Q := q
    refine PySem.W.callWith_K (h₀ := X.base) I.ok.mod.kin M.kp (thn (ha.run pos pins s σ H _ I ⟨io, A, ro, st, pr⟩) fun us s1 ⟨vs, H1, I1, r, io1, e1, h1, rs⟩ => ⟨I1.kIn, ?_⟩) he hpl
    have p3 := Post.ext e1 p2
    have I2 := Inv.made (C := ct c) I1
    let xa : Addr := s1.heap.objs.size + 1
    let da : Addr := s1.heap.objs.size
    have hx0 : H1 xa = none := I1.hok.fresh (Nat.le_succ _)
    have hd0 : H1 da = none := I1.hok.fresh (Nat.le_refl _)
    have hne : da ≠ xa := Nat.ne_of_lt (Nat.lt_succ_self _)
    have hx1 : upd H1 da (.own xa) xa = none := by rw [upd_ne (Ne.symm hne)]; exact hx0
    have hl1 : HR X.K ct io1 (upd H1 da (.own xa)) A1 := h1.laid hd0
    have ex1 : Ext io1 H1 io1 (upd H1 da (.own xa)) := Ext.laid hd0
    have ex2 : Ext io1 (upd H1 da (.own xa)) (io1.add xa) (upd (upd H1 da (.own xa)) xa (.ins (ct c) da [])) := Ext.num hx1
    have h2 : HR X.K ct (io1.add xa) (upd (upd H1 da (.own xa)) xa (.ins (ct c) da [])) (A1 ++ [.ins c []]) := hl1.num hx1 ⟨da, [], upd_same, rfl, .nil⟩
    have hxm : (io1.add xa).nm[A1.length]? = some xa := by
      show (io1.nm ++ [xa])[A1.length]? = some xa
      rw [← h1.len]
      simp
    have rs2 : DRs X.K ct (io1.add xa) (upd (upd H1 da (.own xa)) xa (.ins (ct c) da [])) (.ref xa :: vs) (.ref A1.length :: ds) := .cons (.ref hxm) ((rs.mono ex1 h1.noT).mono ex2 hl1.noT)
    have sp : spD X.K ct n F (.ref xa :: (vs ++ [])) (upd (upd H1 da (.own xa)) xa (.ins (ct c) da [])) (fun v H2 => v = .non ∧ Q (.ref xa) H2) (WE W σ) := by
      rw [List.append_nil]
      refine spD_call (W := W) (σ := σ) (by rw [List.length_cons, rs.length, hds]; exact hn) h2 rs2 ?_
      have p4 := Post.ext (ex1.trans ex2) p3
      unfold gMkI mkR at p4
      cases hF : F (.ref A1.length :: ds) (A1 ++ [.ins c []]) with
      | stk => rw [hF] at p4; exact p4.elim
      | err c2 fs2 A2 => rw [hF] at p4; exact p4
      | ok d A2 =>
        rw [hF] at p4
        cases d with
        | non => exact fun v io3 H3 e3 h3 r3 => by cases r3; exact ⟨rfl, p4 _ io3 H3 e3 h3 (.ref (e3.mem hxm))⟩
        | _ => exact p4.elim
    have r2 : Vals (V.ref xa :: (vs ++ [])) (Value.ref xa :: (us ++ [])) := .cons rfl (r.append .nil)
    have hl : (Value.ref xa :: us ++ []).length = ps.length := by
      have e := r2.length
      rw [Fn.len _ _ _ _ sp] at e
      exact e.symm
    refine wpAny_call (make_map (f := f) I1.kIn M.makes M.init (beq_iff_eq.mp M.fn) (codeAny_mono (Fn.run _ X.stack _ _ ⟨Value.ref xa :: us, []⟩ (Value.ref xa :: (us ++ [])) _ _ (WE W σ) (by exact hgd) ((hr.mono hk).make (ct c) us [])
      (I2.env0.make (ct c) us []) (by simpa using hb _ (Value.ref xa :: us) I2.kIn hl) r2 sp) fun r s' hq' => ?_))
    cases r with
    | error er => exact passAt tk σ pins _ _ er s' I2 hq'
    | ok fl2 =>
      cases fl2 with
      | ret u =>
        obtain ⟨v, H', I3, rv, ev, q3⟩ := I2.after hq'
        subst ev
        exact ⟨rv, ⟨V.ref xa, H', I3, rfl, q3⟩⟩
      | next => exact False.elim hq'
      | brk => exact False.elim hq'
      | cont => exact False.elim hq'
end
end DV

set_option Elab.async false
set_option linter.all false
set_option maxRecDepth 100000
set_option maxHeartbeats 1000000
/-! InB: super() in the methods of instances. -/
namespace DV
open PySem PySem.Spec PyProof.Rows L2 NdefX
/-- what the written part says of a method at f, of the class at Dc, that says super() -/
structure SupI (P : Program) (K : PySem.W.Frag) (Dc f : Addr) (F : NF) (slf : Str) : Prop where
  fn : ∃ oc od doc pm ctv osl, K.lookup f = some ⟨oc, od, .func (F.fd doc pm ctv), osl⟩
  first : ∃ ar : Arg, (F.params.posonlyargs ++ F.params.args).head? = some ar ∧ ar.arg = slf
  code : ∃ ccl cdd vs ccs file tf, K.lookup F.c = some ⟨ccl, cdd, .fields vs, ccs⟩ ∧ vs[2]? = some (.str file tf) ∧ ((P.main.file : Str) == file) = true
  cell : ∃ cc, F.cl = [(("__class__" : Str), cc)] ∧ ∃ cl cld csl, K.lookup cc = some ⟨cl, cld, .cell (some (.ref Dc)), csl⟩
  cls : ∃ oc od cd sl, K.lookup Dc = some ⟨oc, od, .cls cd, sl⟩
  opq : PySem.W.nsIn K cStatics "thirdparty.any" = some none
  top : (P.main.scope.names.lookup ("super" : Str)).isSome = false
  ks : F.scope.names.lookup ("super" : Str) = some NameKind.globalImplicit
  kc : F.scope.names.lookup ("__class__" : Str) = some NameKind.free
  ka : F.scope.names.lookup slf = some NameKind.local
/-- what super() finds under m, for an instance of the class c -/
structure SupT (P : Program) (w : World) (K : PySem.W.Frag) (mg : Str → Option Value) (base : Heap) (ct : String → Addr) (k : Nat) (Dc : Addr) (m : Str) (c : String) (n : Nat) (F2 : FF) : Prop where
  sub : PySem.W.subIn K (.ref (ct c)) (.ref Dc) = some true
  ex : ∃ f fd ps, FnG P w K mg base k f fd ps (spD K ct n F2) ∧ PySem.W.ks_superIn K (ct c) Dc m = some (some (.ref f)) ∧ PySem.W.typeIn K (.ref f) = some (.type "function") ∧ PySem.W.fnIn K f = true ∧ Binds K fd ps []
def eSup (tab : String → Option FF) (fl : AF) : EF := fun ro A => match ro[0]? with
  | some (some (D.ref n)) => (match A[n]? with
    | some (M.ins c _) => (match tab c with
      | some F2 => (fl ro A).bind fun ds A1 => F2 (.ref n :: ds) A1
      | none => .stk)
    | _ => .stk)
  | _ => .stk
section
variable {X : Cx} {pins : List (Addr × Obj)} {σ : L2.St} {H : Hp} {s : Shared} {a Dc C f f2 L dx : Addr} {F : NF} {slf m : Str} {p0 p1 p2 p3 : Pos} {gs : List (Str × V)} {es : List Expr}
/-- super().m is read -/
theorem sup_meth {Q : Value → Shared → Prop} (S : SupI X.prog X.K Dc f F slf) (hE : X.env = envF F f L) (hm : X.mg "super" = none) (I : Inv X pins σ H s) (hN : X.N[0]? = some slf) (h0 : σ[0]? = some (some (.ref a))) (ea : H a = some (.ins C dx gs))
    (hsub : PySem.W.subIn X.K (.ref C) (.ref Dc) = some true) (hsup : PySem.W.ks_superIn X.K C Dc m = some (some (.ref f2))) (hty : PySem.W.typeIn X.K (.ref f2) = some (.type "function")) (hcn : (m == ("__class__" : Str)) = false) {pl : Sem Bool}
    (he : eval (.Call (.Attribute (.Call (.Name "super" p0) [] [] p1) m p2) es [] p3) X.env = (do
      let ov ← attributeBase (.Call (.Name "super" p0) [] [] p1) m X.env (eval (.Call (.Name "super" p0) [] [] p1) X.env)
      standAt p2.atName
      let (f, first) ← holding [ov] (getMethod ov m pl)
      callWith p3 f first (backTo p3 (starEach es X.env)) []))
    (hQ : ∀ (q : Addr) (h' : Heap) (t' : Nat), X.base.get? q = none → Inv X ((q, PySem.W.methodObj (.ref f2) (.ref a)) :: pins) σ H { s with heap := h', toks := t' } → wpAny (model X.prog X.w) X.A (callWith p3 (.ref q) [] (backTo p3 (starEach es X.env)) []) Q X.xe { s with heap := h', toks := t' }) :
    PySem.wpAt (model X.prog X.w) X.A (.func F.body X.env) (eval (.Call (.Attribute (.Call (.Name "super" p0) [] [] p1) m p2) es [] p3) X.env) Q X.xe s := by
  obtain ⟨oc, od, doc, pm, ctv, osl, hf⟩ := S.fn
  obtain ⟨ar, hp, har⟩ := S.first
  obtain ⟨ccl, cdd, vs, ccs, file, tf, hcode, hvs, hfile⟩ := S.code
  obtain ⟨cc, hcl, cl', cld, csl, hcell⟩ := S.cell
  obtain ⟨oD, dD, cD, sD, hD⟩ := S.cls
  have ek : ∀ y, X.env.kindOf y = F.scope.names.lookup y := fun y => by rw [hE]; rfl
  have kK := I.kIn
  obtain ⟨mb, hb1, hb2⟩ := I.mod.blt
  obtain ⟨mA, O, _, _, _, _⟩ := ins_get I.hok ea
  have ho := O.obj
  obtain ⟨m0, hns, hl⟩ := id I.loc
  obtain ⟨u, ru, hlk⟩ := hl 0 slf (.ref a) hN h0 (.inl (by rw [hE]; exact S.ka))
  obtain rfl : u = Value.ref a := ru
  have hself : m0 slf = some (.ref a) := by
    rcases hlk with ⟨_, e⟩ | ⟨e, _⟩
    · exact e
    · rw [ek, S.ka] at e
      rcases e with e | e <;> cases e
  obtain ⟨hp', g, d, t, os⟩ := s
  refine PySem.ks_wpAt_MethodCall (pl := pl) ?_ he
  refine PySem.ks_wpAt_super_base (f := f) (cc := F.c) (fd := F.fd doc pm ctv) (by rw [ek]; exact S.ks) (by rw [ek]; exact S.kc) hcn (by rw [hE]) (kK _ _ hf) rfl hp (by rw [hE]) (kK _ _ hcode) rfl hvs hfile S.top ?_
  refine PySem.W.ks_loadName_global I.ok.kind (by rw [ek]; exact S.ks) (Calls.loadGlobal_builtin (by rw [I.ok.glob]; exact I.mod.glob.keeps I.bk) hm (by rw [I.ok.blt]; exact hb1.keeps I.bk) ((hb2 _ (by decide)).trans (show bootBuiltins "super" = some (.type "super") by boot_by_name)) ⟨rfl, ?_⟩)
  refine wpAny_loadName_free I.ok.kind (by rw [ek]; exact S.kc) (by rw [hE]; show F.cl.lookup _ = some cc; rw [hcl]; rfl) ⟨_, kK _ _ hcell, rfl⟩ ?_
  rw [har]
  refine wpAny_loadName_local I.ok.kind (by rw [ek]; exact S.ka) hns hself ?_
  refine PySem.ks_wpAny_isType_cls (kK _ _ hD) rfl ⟨rfl, ?_⟩
  refine PySem.ks_wpAny_call_super (kK _ _ hD) rfl ho rfl (fun c e => by cases e) (PySem.W.looks_subIn kK hsub) (fun h' e k => ?_)
  have I2 : Inv X pins σ H ⟨h', g, d, t, os⟩ := I.kept (t' := t) k
  cases hc : PySem.W.clsIn X.K C with
  | none =>
    unfold PySem.W.ks_superIn at hsup
    rw [hc] at hsup
    cases hsup
  | some cd =>
    unfold PySem.W.ks_superIn at hsup
    rw [hc] at hsup
    have hne : a ≠ C := fun z => by
      unfold PySem.W.clsIn at hc
      split at hc
      · rename_i q
        have := kK _ _ q
        rw [← z, ho] at this
        cases this
      · cases hc
    obtain ⟨of, hof, hofc⟩ : ∃ of, h'.get? f2 = some of ∧ of.cls = .type "function" := by
      have ht' : (X.K.lookup f2).map (·.cls) = some (.type "function") := hty
      cases z : X.K.lookup f2 with
      | none => rw [z] at ht'; cases ht'
      | some of => rw [z] at ht'; exact ⟨of, I2.kIn _ _ z, Option.some.inj ht'⟩
    refine PySem.ks_wpAny_getMethod_super e (PySem.W.looks_opaque I2.kIn S.opq) (l₀ := cd.mro) (fun A Q E s k q => wpAny_bind ((PySem.W.looks_clsIn I2.kIn hc) A _ E s k (wpAny_pure q))) rfl I2.kIn hsup hof hofc hne hcn ?_
    have I3 : Inv X pins σ H ⟨h'.push { cls := .type "method", data := .fields #[.ref f2, .ref a] }, g, d, t + 1, os⟩ := I2.kept (t' := t + 1) (fun b u q => Heap.get?_push_of_some _ q)
    refine hQ h'.objs.size _ _ ?_ (I3.pins_of fun p hp => ?_)
    · cases z : X.base.get? h'.objs.size with
      | none => rfl
      | some o => exact absurd (Heap.lt_size (I2.bk _ _ z)) (Nat.lt_irrefl _)
    rcases List.mem_cons.mp hp with rfl | hp
    · refine ⟨Heap.get?_push_at rfl rfl, I2.hok.fresh (Nat.le_refl _), Nat.ne_of_gt I2.lt, I2.nofs (Nat.le_refl _), fun v z => by cases z⟩
    · exact I3.pin p (List.mem_append_right _ hp)
/-- a bound method that is pinned is called -/
theorem bound_call {W : WX} {k n : Nat} {fd : FuncData} {ps : List Str} {ct : String → Addr} {F2 : FF} {q : Addr} {us : List Value} {vs : List V} {Q : VK} (Fn : FnG X.prog X.w X.K X.mg X.base k f2 fd ps (spD X.K ct n F2)) (hg : X.A.guards = some []) (hr : Room k X.A) (hb : Binds X.K fd ps []) (tk : Takes X W)
    (I : Inv X ((q, PySem.W.methodObj (.ref f2) (.ref a)) :: pins) σ H s) (r : Vals vs us) (h : spD X.K ct n F2 (.ref a :: vs) H Q (WE W σ)) : wpAny (model X.prog X.w) X.A (call (.ref q) us) (EP X pins σ Q) X.xe s := by
  have hq := (I.pin (q, PySem.W.methodObj (.ref f2) (.ref a)) (List.mem_append_right _ List.mem_cons_self)).1
  have I1 : Inv X pins σ H s := I.pins_of fun p hp => I.pin p (List.mem_append_right _ (List.mem_cons_of_mem _ hp))
  have r2 : Vals (V.ref a :: vs) (Value.ref a :: us) := .cons rfl r
  have hl : (Value.ref a :: us).length = ps.length := Eq.trans r2.length.symm (Fn.len _ _ _ _ h)
  refine wpAny_call (PySem.ks_codeAny_call_bound hq (codeAny_mono (Fn.run X.A X.stack s H ⟨Value.ref a :: us, []⟩ (Value.ref a :: us) (V.ref a :: vs) Q (WE W σ) hg hr I1.env0 (by simpa using hb s (Value.ref a :: us) I1.kIn (by simpa using hl)) r2 h) (fun r s' hq => ?_)))
  match r, hq with
  | .error e, hq => exact passAt tk σ pins H s e s' I1 hq
  | .ok (.ret u), hq => exact I1.after hq
  | .ok .next, hq => exact (False.elim hq)
  | .ok .brk, hq => exact (False.elim hq)
  | .ok .cont, hq => exact (False.elim hq)
end
section
variable {X : Cx} {ct : String → Addr} {W : WX} {pins : List (Addr × Obj)} {σ : L2.St} {H : Hp} {s : Shared} {Dc f L : Addr} {F : NF} {slf m : Str} {p0 p1 p2 p3 : Pos} {tab : String → Option FF} {k j n : Nat} {pl : Sem Bool} {Q : VK}
/-- super().m() -/
theorem sup_eval0 (S : SupI X.prog X.K Dc f F slf) (hE : X.env = envF F f L) (hm : X.mg "super" = none) (hgd : X.A.guards = some []) (hr : Room j X.A) (hk : k ≤ j) (tk : Takes X W) (hT : ∀ c F2, tab c = some F2 → SupT X.prog X.w X.K X.mg X.base ct k Dc m c 1 F2) (hN : X.N[0]? = some slf) (hcn : (m == ("__class__" : Str)) = false)
    (he : eval (.Call (.Attribute (.Call (.Name "super" p0) [] [] p1) m p2) [] [] p3) X.env = (do
      let ov ← attributeBase (.Call (.Name "super" p0) [] [] p1) m X.env (eval (.Call (.Name "super" p0) [] [] p1) X.env)
      standAt p2.atName
      let (f, first) ← holding [ov] (getMethod ov m pl)
      callWith p3 f first (backTo p3 (starEach [] X.env)) []))
    (I : Inv X pins σ H s) (h : tD X.K ct W (eSup tab aNil) σ H Q) :
    PySem.wpAt (model X.prog X.w) X.A (.func F.body X.env) (eval (.Call (.Attribute (.Call (.Name "super" p0) [] [] p1) m p2) [] [] p3) X.env) (EP X pins σ Q) X.xe s := by
  obtain ⟨io, A, ro, st, p⟩ := h
  unfold eSup at p
  split at p
  · rename_i n0 e0
    split at p
    · rename_i c fs hA
      split at p
      · rename_i F2 hF
        obtain ⟨v, h0, rv⟩ := st.env.at_ 0 _ e0
        cases rv with
        | @ref a _ q0 =>
          obtain ⟨dx, gs, eH, ek, rs⟩ := st.hr.get q0 hA
          obtain ⟨hsub, f2, fd, ps, Fn, hs, hty, hfn, hb⟩ := hT c F2 hF
          refine sup_meth S hE hm I hN h0 eH hsub hs hty hcn he fun q h' t' nb I1 => ?_
          have hq := (I1.pin (q, PySem.W.methodObj (.ref f2) (.ref a)) (List.mem_append_right _ List.mem_cons_self)).1
          refine PySem.W.callWith_M0 (K := X.K) (g := f2) (self := .ref a) (first := []) ⟨hq, I1.kIn⟩ hfn ?_
          have p2 : Post X.K ct (DR X.K ct) W σ io H (F2 [.ref n0] A) Q := p
          exact bound_call Fn hgd (hr.mono hk) hb tk I1 (us := []) (vs := []) .nil (spD_call rfl st.hr (.cons (.ref q0) .nil) p2)
      · exact p.elim
    · exact p.elim
  · exact p.elim
/-- super().m(e, ..) -/
theorem sup_eval {e : Expr} {es : List Expr} {fl : AF} {n1 : Nat} (S : SupI X.prog X.K Dc f F slf) (hE : X.env = envF F f L) (hm : X.mg "super" = none) (hgd : X.A.guards = some []) (hr : Room j X.A) (hk : k ≤ j) (tk : Takes X W) (hT : ∀ c F2, tab c = some F2 → SupT X.prog X.w X.K X.mg X.base ct k Dc m c n F2) (hN : X.N[0]? = some slf) (hcn : (m == ("__class__" : Str)) = false)
    (ha : PDa X ct W (e :: es) fl) (hal : Ar n1 fl) (hn : n1 + 1 = n)
    (he : eval (.Call (.Attribute (.Call (.Name "super" p0) [] [] p1) m p2) (e :: es) [] p3) X.env = (do
      let ov ← attributeBase (.Call (.Name "super" p0) [] [] p1) m X.env (eval (.Call (.Name "super" p0) [] [] p1) X.env)
      standAt p2.atName
      let (f, first) ← holding [ov] (getMethod ov m pl)
      callWith p3 f first (backTo p3 (starEach (e :: es) X.env)) []))
    (hst : starEach (e :: es) X.env = (false, eval e X.env) :: starEach es X.env) (hpl : (backTo p3 (starEach es X.env)).any (·.1) = false)
    (I : Inv X pins σ H s) (h : tD X.K ct W (eSup tab fl) σ H Q) :
    PySem.wpAt (model X.prog X.w) X.A (.func F.body X.env) (eval (.Call (.Attribute (.Call (.Name "super" p0) [] [] p1) m p2) (e :: es) [] p3) X.env) (EP X pins σ Q) X.xe s := by
  obtain ⟨io, A, ro, st, p⟩ := h
  unfold eSup at p
  split at p
  · rename_i n0 e0
    split at p
    · rename_i c fs hA
      split at p
      · rename_i F2 hF
        obtain ⟨v, h0, rv⟩ := st.env.at_ 0 _ e0
        cases rv with
        | @ref a _ q0 =>
          obtain ⟨dx, gs, eH, ek, rs⟩ := st.hr.get q0 hA
          obtain ⟨hsub, f2, fd, ps, Fn, hs, hty, hfn, hb⟩ := hT c F2 hF
          refine sup_meth S hE hm I hN h0 eH hsub hs hty hcn he fun q h' t' nb I1 => ?_
          have hq := (I1.pin (q, PySem.W.methodObj (.ref f2) (.ref a)) (List.mem_append_right _ List.mem_cons_self))
          have N1 : PyProof.Rows.News X.base X.env.locals h' [(q, PySem.W.methodObj (.ref f2) (.ref a))] := fun p hp => by
            rw [List.mem_singleton] at hp
            subst hp
            exact ⟨hq.1, hq.2.2.1, nb⟩
          cases hf : fl ro A with
          | stk => rw [hf] at p; exact p.elim
          | err c' fs' A2 =>
            have pr : Post X.K ct (DRs X.K ct) W σ io H (fl ro A) (fun _ _ => False) := by
              rw [hf] at p ⊢
              exact fun cls dd io' H' ee hh xx => p cls dd io' H' ee hh xx
            exact PySem.W.callWith_M (K := X.K) (g := f2) (self := .ref a) (first := []) (h₀ := X.base) (news := [(q, PySem.W.methodObj (.ref f2) (.ref a))]) I.ok.mod.kin N1 List.mem_cons_self hfn (thn (ha.run p3 _ _ σ H _ I1 ⟨io, A, ro, st, pr⟩) fun us s2 ⟨vs, H2, I2, r, z⟩ => z.elim) hst hpl
          | ok ds A2 =>
            have hds := hal ro A ds A2 hf
            have pr : Post X.K ct (DRs X.K ct) W σ io H (fl ro A) (fun vs H2 => ∃ io2, Ext io H io2 H2 ∧ HR X.K ct io2 H2 A2 ∧ DRs X.K ct io2 H2 vs ds) := by
              rw [hf]
              exact fun vs io2 H2 e h r => ⟨io2, e, h, r⟩
            rw [hf] at p
            have p2 : Post X.K ct (DR X.K ct) W σ io H (F2 (.ref n0 :: ds) A2) Q := p
            refine PySem.W.callWith_M (K := X.K) (g := f2) (self := .ref a) (first := []) (h₀ := X.base) (news := [(q, PySem.W.methodObj (.ref f2) (.ref a))]) I.ok.mod.kin N1 List.mem_cons_self hfn (thn (ha.run p3 _ _ σ H _ I1 ⟨io, A, ro, st, pr⟩) fun us s2 ⟨vs, H2, I2, r, io2, e2, h2, rs2⟩ => ⟨⟨(I2.pin _ (List.mem_append_right _ List.mem_cons_self)).1, I2.kIn⟩, ?_⟩) hst hpl
            exact bound_call Fn hgd (hr.mono hk) hb tk I2 r (spD_call (by rw [List.length_cons, rs2.length, hds]; exact hn) h2 (.cons (.ref (e2.mem q0)) rs2) (Post.ext e2 p2))
      · exact p.elim
    · exact p.elim
  · exact p.elim
end
end DV

set_option Elab.async false
set_option linter.all false
set_option maxRecDepth 100000
set_option maxHeartbeats 1000000
/-! InC: a method that says super() in its first statement. -/
namespace DV
open PySem PySem.Spec PyProof.Rows L2 NdefX
/-- the slots at the entry: the parameters, then the class -/
def startS (N : Nat) (Dc : String) (ds : List D) : DV.Env := ds.map some ++ (some (.cls (.own Dc)) :: List.replicate (N - ds.length - 1) none)
theorem start_S {K : PySem.W.Frag} {ct : String → Addr} {io : Io} {H : Hp} {vs : List V} {ds : List D} {N : List Str} {Dc : String} (r : DRs K ct io H vs ds) : EnvR K ct io H (startS N.length Dc ds) (startF N vs [some (.ref (ct Dc))]) := by
  unfold startS startF
  have e0 : [some (V.ref (ct Dc))] ++ List.replicate (N.length - vs.length - [some (V.ref (ct Dc))].length) none = some (V.ref (ct Dc)) :: List.replicate (N.length - ds.length - 1) none := by rw [r.length]; rfl
  rw [e0]
  refine ⟨by simp [r.length], fun i d e => ?_⟩
  by_cases hi : i < ds.length
  · rw [List.getElem?_append_left (by simpa using hi), List.getElem?_map] at e
    cases hd : ds[i]? with
    | none => rw [hd] at e; cases e
    | some d' =>
      rw [hd] at e
      have e' : d' = d := by simpa using e
      subst e'
      obtain ⟨v, hv, rv⟩ := r.get hd
      refine ⟨v, ?_, rv⟩
      rw [List.getElem?_append_left (by simpa [r.length] using hi), List.getElem?_map, hv]
      rfl
  · rw [List.getElem?_append_right (by simpa using hi), List.length_map] at e
    rw [List.getElem?_append_right (by simpa [r.length] using hi), List.length_map, r.length]
    cases hj : i - ds.length with
    | zero =>
      rw [hj] at e
      have e' : D.cls (.own Dc) = d := by simpa using e
      subst e'
      exact ⟨_, rfl, .own Dc⟩
    | succ j =>
      rw [hj, List.getElem?_cons_succ, List.getElem?_replicate] at e
      split at e <;> cases e
section
variable {P : Program} {w : World} {K : PySem.W.Frag} {mg : Str → Option Value} {base : Heap} {ct : String → Addr}
/-- a reading of a body whose first statement stands where the def's own code is at work -/
def AtW (X : Cx) (F : NF) (body : List Stmt) (t : TS) : Prop := ∀ (s : Shared) (σ : L2.St) (H : Hp) (Z : Ends), Inv X [] σ H s → t Z σ H → PySem.wpAt (model X.prog X.w) X.A (.func F.body X.env) (execs body X.env) (SP X [] Z) X.xe s
theorem okGS {f : Addr} {F : NF} {Dc : Addr} {N ps : List Str} {k : Nat} {sp : Sp} {oc : Value} {od : Option Addr} {doc pm ctv : Value} {osl : Array (Option Value)} (hfd : K.lookup f = some ⟨oc, od, .func (F.fd doc pm ctv), osl⟩)
    (cell : ∃ cc, F.cl = [(("__class__" : Str), cc)] ∧ ∃ cl cld csl, K.lookup cc = some ⟨cl, cld, .cell (some (.ref Dc)), csl⟩) (NS : NScope N ps ["__class__"] F.scope) (hcd : PySem.W.codeIn K (.ref F.c) F.qual = true) (len : ∀ vs H Q E, sp vs H Q E → vs.length = ps.length)
    (body : ∀ (A : Around) (outer : List PySem.Env) (s : Shared) (H : Hp) (vs : List V) (Q : VK) (E : XK), A.guards = some [] → Room k (A.deeper (envF F f s.heap.objs.size)) → sp vs H Q E →
      ∃ t, AtW (ncx (L2.CX P w) P w K mg base N F f A outer s H E) F F.body t ∧ t { nx := fun _ H' => Q .non H', rt := Q } (startF N vs [some (.ref Dc)]) H) : FnG P w K mg base (k + 1) f (F.fd doc pm ctv) ps sp := by
  refine ⟨len, fun A outer s H args us vs Q E hgd hr e0 hb r hsp => ?_⟩
  have hl := len _ _ _ _ hsp
  have KX : K.In s.heap := e0.mod.kin.keeps (fun b o e => (e0.bs b o e).1)
  have lim : s.heap.NoLimit := e0.mod.nolimit.keeps (fun b o e => (e0.bs b o e).1)
  refine codeAny_call_function hr.depth (KX _ _ hfd) rfl NS.co NS.gen rfl (PySem.W.codeRec_of KX hcd) (hb _ _ _ _ ?_)
  refine wpAny_newFunctionEnv NS.nocell (fun ⟨n, _⟩ hy => NS.par n (List.of_mem_zip hy).1) (fun h₁ hns hsb => ⟨lim.fresh _ hsb, ?_⟩) NS.kind
  show codeAny _ _ (.func F.body (envF F f s.heap.objs.size)) _ _
  refine ks_codeAny_funcAt ?_
  have kp : ∀ b o, s.heap.get? b = some o → h₁.get? b = some o := fun b o e => hsb.extBut b o (Nat.ne_of_lt (Heap.lt_size e)) (Heap.get?_push_of_some _ e)
  obtain ⟨cc, hcl, cl', cld, csl, hcell⟩ := cell
  have CA : CellsAt F.cl ["__class__"] [some (.ref Dc)] s.heap H := by
    have look : ∀ y c, F.cl.lookup y = some c → y = "__class__" ∧ c = cc := fun y c e => by
      rw [hcl] at e
      by_cases q : y = ("__class__" : Str)
      · subst q
        refine ⟨rfl, ?_⟩
        have : ([(("__class__" : Str), cc)] : List (Str × Addr)).lookup ("__class__" : Str) = some cc := rfl
        rw [this] at e
        exact (Option.some.inj e).symm
      · have : ([(("__class__" : Str), cc)] : List (Str × Addr)).lookup y = none := by
          have q2 : (y == ("__class__" : Str)) = false := by simpa using q
          simp [List.lookup, q2]
        rw [this] at e
        cases e
    refine ⟨rfl, fun y c e => ?_, fun x y c e1 e2 => ?_, fun i y hi => ?_⟩
    · obtain ⟨_, rfl⟩ := look y c e
      exact ⟨(e0.bs _ _ (e0.mod.kin _ _ hcell)).2, _, ⟨_, KX _ _ hcell, rfl⟩⟩
    · rw [(look x c e1).1, (look y c e2).1]
    · cases i with
      | zero =>
        cases hi
        refine ⟨cc, by rw [hcl]; rfl, fun v hv => ?_⟩
        cases hv
        exact ⟨.ref Dc, rfl, ⟨_, KX _ _ hcell, rfl⟩⟩
      | succ i => cases hi
  let X : Cx := ncx (L2.CX P w) P w K mg base N F f A outer s H E
  have I : Inv X [] (startF N vs [some (.ref Dc)]) H { s with heap := h₁, toks := s.toks + (ps.zip us).length } := inv_startN NS hr.hd e0 hl r CA hns kp
  obtain ⟨t, ht, hq⟩ := body A outer s H vs Q E hgd (hr.deeper _) hsp
  refine ks_wpAt_mono (ht _ _ _ _ I hq) (fun fl s' hs => ?_) fun e s' h => h
  have fin : ∀ {σ' : L2.St} {H' : Hp} {v : V} {u : Value}, Inv X [] σ' H' s' → L2.RelV v u → Q v H' → CE outer P w H s Q u s' :=
    fun {σ' H' v u} J rv q => ⟨v, H', J.os, J.bare, J.base, J.hok, rv, q⟩
  cases fl with
  | ret u =>
    obtain ⟨v, σ', H', J, rv, q⟩ := hs
    exact fin J rv q
  | next =>
    obtain ⟨σ', H', J, q⟩ := hs
    exact fin (v := V.non) (u := Value.none) J rfl q
  | brk =>
    obtain ⟨_, _, _, q⟩ := hs
    exact False.elim q
  | cont =>
    obtain ⟨_, _, _, q⟩ := hs
    exact False.elim q
/-- THE RULE for such a method -/
theorem okSup {f : Addr} {F : NF} {Dc : String} {N ps : List Str} {k : Nat} {FF0 : FF} {fb : SF} {oc : Value} {od : Option Addr} {doc pm ctv : Value} {osl : Array (Option Value)} (hfd : K.lookup f = some ⟨oc, od, .func (F.fd doc pm ctv), osl⟩)
    (cell : ∃ cc, F.cl = [(("__class__" : Str), cc)] ∧ ∃ cl cld csl, K.lookup cc = some ⟨cl, cld, .cell (some (.ref (ct Dc))), csl⟩) (NS : NScope N ps ["__class__"] F.scope) (hcd : PySem.W.codeIn K (.ref F.c) F.qual = true)
    (drv : ∀ (A : Around) (outer : List PySem.Env) (s : Shared) (H : Hp) (E : XK), A.guards = some [] → Room k (A.deeper (envF F f s.heap.objs.size)) → AtW (ncx (L2.CX P w) P w K mg base N F f A outer s H E) F F.body (tS K ct (WD E) fb))
    (hF : ∀ ds A, ds.length = ps.length → FF0 ds A ≠ .stk → FinOk A (fb (startS N.length Dc ds) A) (FF0 ds A)) : FnG P w K mg base (k + 1) f (F.fd doc pm ctv) ps (spD K ct ps.length FF0) := by
  refine okGS hfd cell NS hcd (fun vs H Q E ⟨_, _, _, h, _⟩ => h) fun A0 outer s H vs Q E hg hr ⟨io, A, ds, hl, h, rs, p⟩ => ?_
  refine ⟨_, drv A0 outer s H E hg hr, ?_⟩
  refine ⟨io, A, startS N.length Dc ds, ⟨h, start_S rs⟩, ?_⟩
  have hns : FF0 ds A ≠ .stk := fun z => by rw [z] at p; exact p
  have fo := hF ds A (by rw [← rs.length]; exact hl) hns
  cases ho : fb (startS N.length Dc ds) A with
  | stk => rw [ho] at fo; exact fo.elim
  | go fl ro' A' =>
    rw [ho] at fo
    cases fl with
    | bk => exact fo.elim
    | ct => exact fo.elim
    | nx => exact fun σ' io' H' x s' => fin_ret h x s'.hr .non fo p
    | ret d => exact fun v io' H' x h' rv => fin_ret h x h' rv fo p
  | err c fs ro' A' =>
    rw [ho] at fo
    intro cls dd σ' io' H' x s' xr
    rcases fo with q | ⟨n, hn, hf, hm, q⟩
    · rw [q] at p
      exact p cls dd io' H' x s'.hr xr
    · rw [q] at p
      obtain ⟨g1, g2⟩ := fin_cut h x s'.hr hn hm
      refine p cls dd (io'.cut n) H' g2 g1 ⟨xr.cls, ?_⟩
      rcases xr.fds with z | ⟨pp, gs, h1, h2, h3, h4, h5⟩
      · exact .inl z
      · exact .inr ⟨pp, gs, h1, fun z => h2 (Io.cut_mem z), h3, h4, h5.lop hf⟩
end
/-! ### the first statement -/
section
variable {X : Cx} {ct : String → Addr} {W : WX} {F : NF} {e b : Expr} {fe fb : EF} {pos p2 : Pos} {rest : List Stmt} {fr : SF}
/-- an expression that is read where the def's own code is at work -/
def EvW (X : Cx) (F : NF) (e : Expr) (t : TE) : Prop := ∀ (s : Shared) (σ : L2.St) (H : Hp) (Q : VK), Inv X [] σ H s → t σ H Q → PySem.wpAt (model X.prog X.w) X.A (.func F.body X.env) (eval e X.env) (EP X [] σ Q) X.xe s
/-- super().m(..), then the rest -/
theorem at_expr (h : EvW X F e (tD X.K ct W fe)) (hi : interactive X.env = false) (hr : PSsD X ct W rest fr) (hs : swapsWith e none pos.line X.env = pure false := by rfl) : AtW X F (.Expr e pos :: rest) (tS X.K ct W (sSeq (sEx fe) fr)) := by
  intro s σ H Z I ⟨io, A, ro, st, p⟩
  have q : tD X.K ct W fe σ H (fun _ H' => tS X.K ct W fr Z σ H') := ⟨io, A, ro, st, (Post.then (rep := DR X.K ct) st p.next).mono fun v H1 ⟨io1, A1, d, e1, s1, r, q⟩ => q σ io1 H1 Ext.refl s1⟩
  refine PySem.ks_wpAt_execs_cons (PySem.ks_wpAt_Expr_any (ks_wpAt_mono (h s σ H _ I q) (fun v s1 hv => ?_) fun e s' h => h) hi hs)
  obtain ⟨x, H1, I1, r1, q1⟩ := hv
  exact PySem.wpAt_of_wpAny (hr.run [] s1 σ H1 Z I1 q1)
/-- return super().m(..) + e -/
theorem at_retOp {op : Operator} {r : R2} {g : D → D → Hd → R D} (ho : OpR X (binaryOp op) r) (o : OpD X.K ct r g) (h : EvW X F e (tD X.K ct W fe)) (hb : PD X ct W b fb) : AtW X F [.Return (some (.BinOp e op b p2)) pos] (tS X.K ct W (sRet (eBin g fe fb))) := by
  intro s σ H Z I ⟨io, A, ro, st, p⟩
  have q : tOp r (tD X.K ct W fe) (tD X.K ct W fb) σ H Z.rt := tOp_D o ⟨io, A, ro, st, (Post.then (rep := DR X.K ct) st p).mono fun v H1 ⟨io1, A1, d, e1, s1, r, q⟩ => q v io1 H1 Ext.refl s1.hr r⟩
  refine PySem.ks_wpAt_execs_cons (ks_wpAt_mono (PySem.ks_wpAt_Return_some (PySem.ks_wpAt_BinOp (ks_wpAt_mono (h s σ H _ I q) (fun v s1 hv => ?_) fun e s' h => h))) (fun fl s1 hJ => hJ) fun e s' h => h)
  obtain ⟨x, H1, I1, r1, q1⟩ := hv
  refine thn (hb.run [] s1 σ H1 _ I1 q1) fun u s2 ⟨y, H2, I2, r2, q2⟩ => ?_
  refine thn (ho [] s2 σ H2 x y v u _ I2 r1 r2 q2) fun z s3 ⟨c, H3, I3, r3, q3⟩ => ?_
  exact ⟨c, σ, H3, I3, r3, q3⟩
end
end DV

set_option Elab.async false
set_option linter.all false
set_option maxRecDepth 100000
set_option maxHeartbeats 1000000
/-! InD: a name that a class lacks; + of two instances of own classes. -/
namespace DV
open PySem PySem.Spec PyProof.Rows L2
section
variable {α : Type} {M : Model} {A : Around} {E : Value → Shared → Prop} {s : Shared}
theorem raise_attr {msg : Str} {Q : α → Shared → Prop} (hh : A.handled = none) (hm : msg.length ≤ sizeLine)
    (h : ∀ h' tk e, (∀ b o, s.heap.get? b = some o → h'.get? b = some o) → (∃ ob, h'.get? e = some ob ∧ ob.cls = .type "AttributeError") → E (.ref e) { s with heap := h', toks := tk }) :
    wpAny M A (raiseErrorStr "AttributeError" msg : Sem α) Q E s := by
  unfold raiseErrorStr
  refine wpAny_bind (wpAny_mkStr (wpAny_bind ?_) hm); unfold newExc newTuple
  refine wpAny_bind (wpAny_newObj_type ?_); refine wpAny_bind (m := firstArgMember _ _) (wpAny_of_eq (a := Value.none) (by simp only [firstArgMember, attrError_no_first]; rfl) ?_)
  rw [ownMembersOf_AttributeError]; refine wpAny_newObj_type ?_
  unfold raiseNew; refine wpAny_bind (wpAny_handled ?_); rw [hh]
  first
    | exact wpAny_throw (h _ _ _ (fun b o hb => Heap.get?_push_of_some _ (Heap.get?_push_of_some _ hb)) ⟨_, Heap.get?_push_size _ rfl, rfl⟩)
    | exact wpAny_bind (wpAny_pure (wpAny_throw (h _ _ _ (fun b o hb => Heap.get?_push_of_some _ (Heap.get?_push_of_some _ hb)) ⟨_, Heap.get?_push_size _ rfl, rfl⟩)))
end
/-- what is said when the class has no such attribute -/
def missText (n name : Str) : Str := (s!"type object '{n.toString}' has no attribute '" : Str) ++ name ++ "'"
/-- the class's name is short -/
def shortNm (K : PySem.W.Frag) (C : Addr) (name : Str) : Bool := (PySem.W.clsIn K C).any fun cd => decide (cd.name.cps.foldl (fun k c => k + (Str.utf8Of c).length) 0 ≤ 100) && decide ((missText cd.name name).length ≤ 1000)
section
variable {prog : Program} {w : World} {A : Around} {E : Value → Shared → Prop} {s : Shared} {K : PySem.W.Frag} {C : Addr} {name : Str}
theorem tga_miss {tk : Tok} {Q : Fin → Shared → Prop} (hh : A.handled = none) (X : K.In s.heap) (ho : PySem.W.Looks (model prog w) s.heap (opaqueClassAbove (.ref C)) none) (ht : PySem.W.Looks (model prog w) s.heap (typeOf (.ref C)) (.type "type"))
    (e1 : PySem.W.findIn K (.type "type") name = some none) (e2 : PySem.W.findIn K (.ref C) name = some none) (hn : shortNm K C name = true)
    (h : ∀ h' tk e, (∀ b o, s.heap.get? b = some o → h'.get? b = some o) → (∃ ob, h'.get? e = some ob ∧ ob.cls = .type "AttributeError") → E (.ref e) { s with heap := h', toks := tk }) :
    wpAny (model prog w) A (Builtin.«type.__getattribute__» ⟨[.ref C, .str name tk], []⟩) Q E s := by
  obtain ⟨cd, hc, hs⟩ := PySem.W.any_some hn
  rw [Bool.and_eq_true] at hs
  have n1 := of_decide_eq_true hs.1
  have n2 := of_decide_eq_true hs.2
  have z := sz1000
  obtain ⟨hp, g, d, t, os⟩ := s
  dsimp only at X ho ht
  have L1 := PySem.W.looks_findIn (M := model prog w) X e1
  have L2 := PySem.W.looks_findIn (M := model prog w) X e2
  unfold Builtin.«type.__getattribute__»
  refine wpAny_bind (wpAny_pure (wpAny_bind (ho.at (wpAny_bind (ht.at (wpAny_bind (L1.at (wpAny_bind (wpAny_pure ?_)))))))))
  refine wpAny_bind (L2.at ?_)
  refine wpAny_bind (wpAny_rule (wpAny_bind ?_))
  unfold typeNameCut
  refine wpAny_bind ((PySem.W.looks_clsIn X hc).at ?_)
  rw [if_pos n1]
  exact wpAny_pure (raise_attr hh (by show (missText cd.name name).length ≤ sizeLine; omega) h)
theorem sub_err : isSubtype (.type "AttributeError") (.type "AttributeError") = pure true := sub_AttributeError
theorem type_getattr : hookBehind (.type "type") none = pure none := by
  show typeLookup (.type "type") "__getattr__" = pure none
  rw [typeLookup_type, builtinLookup_eq_fast]
  kernel_rfl
/-- getattr(C, name, nothing) -/
theorem attr_miss {tk : Tok} {Q : Option Value → Shared → Prop} (hh : A.handled = none) (X : K.In s.heap) (hr : PySem.W.readsIn K C (.type "type") = true)
    (e1 : PySem.W.findIn K (.type "type") name = some none) (e2 : PySem.W.findIn K (.ref C) name = some none) (hn : shortNm K C name = true)
    (h : ∀ h' tk, (∀ b o, s.heap.get? b = some o → h'.get? b = some o) → Q none { s with heap := h', toks := tk }) :
    wpAny (model prog w) A (getAttrBy? (.ref C) (.str name tk)) Q E s := by
  simp only [PySem.W.readsIn, Bool.and_eq_true, beq_iff_eq] at hr
  obtain ⟨⟨⟨⟨ro, rt⟩, rg⟩, _⟩, rs⟩ := hr
  have ho := PySem.W.looks_opaque (M := model prog w) (C := C) X ro
  have ht := PySem.W.looks_typeIn (M := model prog w) X rt
  have hg := PySem.W.looks_findIn (M := model prog w) X rg
  have fin : ∀ (h' : Heap) (tk : Nat) (e : Addr), (∀ b o, s.heap.get? b = some o → h'.get? b = some o) → (∃ ob, h'.get? e = some ob ∧ ob.cls = .type "AttributeError") → ∀ (Q2 : Bool → Shared → Prop) (A : Around) (E : Value → Shared → Prop), Q2 true { s with heap := h', toks := tk } → wpAny (model prog w) A (isInstance (.ref e) (.type "AttributeError")) Q2 E { s with heap := h', toks := tk } := fun h' tk e _ ⟨ob, e1, e2⟩ Q2 A E q =>
    wpAny_isInstance (T := "AttributeError") (b := true) ⟨ob, e1, e2⟩ sub_err q
  unfold getAttrBy?
  refine wpAny_bind (wpAny_attempt ?_)
  unfold getAttrBy
  refine wpAny_holding (wpAny_bind (ht _ _ _ _ (fun _ _ e => e) (wpAny_bind (hg _ _ _ _ (fun _ _ e => e) ?_))))
  show wpAny _ _ (getAttrByItsOwn _ _ _ _ _ _) _ _ _
  unfold getAttrByItsOwn
  refine wpAny_bind (wpAny_of_eq (a := none) rfl (wpAny_bind (wpAny_attempt (wpAny_holding ?_))))
  unfold callGetattribute
  rw [show (false && onTheHeap (Value.builtin "type.__getattribute__")) = false from rfl, if_neg (by decide)]
  unfold boundAndCalled
  rw [PySem.W.KF.slot_tga.bind]
  refine wpAny_bind (wpAny_pure ?_)
  show wpAny _ _ (call (.builtin "type.__getattribute__") [.ref C, .str name tk]) _ _ _
  refine wpAny_call (PySem.codeAny_call_builtin PySem.W.KF.slot_tga.plain PySem.W.KF.entry_tga ?_)
  refine @PySem.W.check_slot (model prog w) _ _ s "type.__getattribute__" "type" "__getattribute__" (.ref C) [.str name tk] [] _ (by decide +kernel) (by decide +kernel) (ht.andThen (PySem.W.looks_subIn X rs)) (PySem.W.KF.args_tga _ _) ?_
  refine tga_miss (by simpa using hh) X ho ht e1 e2 hn fun h' tk' e k ob => ?_
  show wpAny _ _ (getattributeRaised _ _ _ _ _ _ _) _ _ _
  unfold getattributeRaised
  refine wpAny_bind (fin h' tk' e k ob _ _ _ ?_)
  rw [if_pos rfl]
  refine wpAny_bind (wpAny_of_eq (a := none) type_getattr ?_)
  unfold hookOrError attributeErrorLeaves
  rw [show (!false) = true from rfl]
  first
    | (rw [if_pos rfl]; refine wpAny_throw ?_)
    | (simp only [if_true]; refine wpAny_throw ?_)
    | (refine wpAny_throw ?_)
  show wpAny _ _ (isInstance _ _ >>= _) _ _ _
  refine wpAny_bind (fin h' tk' e k ob _ _ _ ?_)
  rw [if_pos rfl]
  exact wpAny_pure (h h' tk' k)
end
end DV

set_option Elab.async false
set_option linter.all false
set_option maxRecDepth 100000
set_option maxHeartbeats 1000000
/-! InE: + of two instances of own classes. -/
namespace DV
open PySem PySem.Spec PyProof.Rows L2
section
variable {prog : Program} {w : World} {A : Around} {E : Value → Shared → Prop} {s : Shared} {K : PySem.W.Frag} {C C' x L f g' : Addr} {h₀ : Heap} {m : Str → Option Value} {ox : Obj} {od : Option Obj} {nm : String}
theorem inst_keeps {h h' : Heap} (I : PySem.W.InstAt h x ox C od) (k : ∀ b o, h.get? b = some o → h'.get? b = some o) : PySem.W.InstAt h' x ox C od := by
  obtain ⟨a, b, c, d⟩ := I
  refine ⟨k _ _ a, b, c, ?_⟩
  revert d
  cases ox.dict <;> cases od <;> first | exact fun d => d | exact fun d => k _ _ d
/-- no reflected method -/
theorem refl_no {Q : Bool → Shared → Prop} (hh : A.handled = none) (X : K.In s.heap) (h1 : PySem.W.findIn K (.ref C) (PySem.dunder nm) = some (some (.ref f))) (h2 : PySem.W.findIn K (.ref C) (dunderR nm) = some none)
    (h1' : PySem.W.findIn K (.ref C') (PySem.dunder nm) = some (some (.ref g'))) (h2' : PySem.W.findIn K (.ref C') (dunderR nm) = some none) (hr : PySem.W.readsIn K C' (.type "type") = true)
    (e1 : PySem.W.findIn K (.type "type") (dunderR nm) = some none) (hn : shortNm K C' (dunderR nm) = true) (hz : (dunderR nm).length ≤ 100)
    (h : ∀ h' tk, (∀ b o, s.heap.get? b = some o → h'.get? b = some o) → Q false { s with heap := h', toks := tk }) : wpAny (model prog w) A (reflectedDiffers (.ref C) (.ref C') nm) Q E s := by
  have z := sz1000
  obtain ⟨hp, g, d, tt, os⟩ := s
  have L6 : PySem.W.Looks (model prog w) hp (numberSlotInPython (.ref C) nm) true := PySem.W.ksp_inPy X h1 h2 (.inl rfl)
  have L7 : PySem.W.Looks (model prog w) hp (numberSlotInPython (.ref C') nm) true := PySem.W.ksp_inPy X h1' h2' (.inl rfl)
  unfold reflectedDiffers
  refine wpAny_bind (L6.at ?_)
  rw [show (!true) = false from rfl, if_neg (by decide)]
  refine wpAny_bind (L7.at ?_)
  rw [show (!true) = false from rfl, if_neg (by decide)]
  refine wpAny_bind (wpAny_mkStr ?_ (by omega))
  exact wpAny_bind (attr_miss hh X hr e1 h2' hn fun h' tk k => wpAny_pure (h h' tk k))
theorem binop_two {op : Operator} {Q : Value → Shared → Prop} {bb : Bool} {y : Addr} {oy : Obj} {oe : Option Obj} (hh : A.handled = none) (X : K.In s.heap) (I : PySem.W.InstAt s.heap x ox C od) (J : PySem.W.InstAt s.heap y oy C' oe) (hne : C ≠ C') (hc : PySem.W.selfFirst K C = true) (hc' : PySem.W.selfFirst K C' = true)
    (h1 : PySem.W.findIn K (.ref C) (PySem.dunder op.info.2) = some (some (.ref f))) (hf : PySem.W.isFn K (.ref f) = true) (h2 : PySem.W.findIn K (.ref C) (dunderR op.info.2) = some none)
    (h1' : PySem.W.findIn K (.ref C') (PySem.dunder op.info.2) = some (some (.ref g'))) (h2' : PySem.W.findIn K (.ref C') (dunderR op.info.2) = some none) (hr : PySem.W.readsIn K C' (.type "type") = true)
    (e1 : PySem.W.findIn K (.type "type") (dunderR op.info.2) = some none) (hn : shortNm K C' (dunderR op.info.2) = true) (hz : (dunderR op.info.2).length ≤ 100) (hsub : PySem.W.subIn K (.ref C') (.ref C) = some bb)
    (h : ∀ h' tk, (∀ b o, s.heap.get? b = some o → h'.get? b = some o) → wpAny (model prog w) A (call (.ref f) [.ref x, .ref y]) (PySem.W.CmpBack Q) E { s with heap := h', toks := tk }) : wpAny (model prog w) A (binaryOp op (.ref x) (.ref y)) Q E s := by
  obtain ⟨cd, rest, hcd, hm⟩ := PySem.W.ksp_first hc
  obtain ⟨cd', rest', hcd', hm'⟩ := PySem.W.ksp_first hc'
  rcases hi : op.info with ⟨sym, nm⟩
  rw [hi] at h1 h2 h1' h2' e1 hn hz
  dsimp only at h1 h2 h1' h2' e1 hn hz
  have tail : ∀ (hp : Heap) (tk : Nat), (∀ b o, s.heap.get? b = some o → hp.get? b = some o) → wpAny (model prog w) A (tryMethod (.ref x) (PySem.dunder nm) (.ref y)) (fun r s' => ∃ v, r = some v ∧ Q v s') E { s with heap := hp, toks := tk } := fun hp tk k =>
    PySem.W.ksp_try (X.keeps k) (inst_keeps I k) h1 hf (h hp tk k)
  obtain ⟨hp, g, d, tt, os⟩ := s
  dsimp only at X I J tail
  have hv : (Value.ref C == Value.ref C') = false := Bool.eq_false_iff.mpr fun q => hne (Value.ref.inj (beq_iff_eq.mp q))
  have L1 : PySem.W.Looks (model prog w) hp (typeOf (.ref x)) (.ref C) := I.type
  have L2 : PySem.W.Looks (model prog w) hp (typeOf (.ref y)) (.ref C') := J.type
  have L3 : PySem.W.Looks (model prog w) hp (fillsNumberSlot (.ref C) nm) true := PySem.W.fills_K X hcd hm h1
  have L4 : PySem.W.Looks (model prog w) hp (fillsNumberSlot (.ref C') nm) true := PySem.W.fills_K X hcd' hm' h1'
  have L5 : PySem.W.Looks (model prog w) hp (isSubtype (.ref C') (.ref C)) bb := PySem.W.looks_subIn X hsub
  simp only [binaryOp, hi]
  refine wpAny_holding (wpAny_bind ?_)
  unfold binaryOp1
  refine wpAny_bind (L1.at (wpAny_bind (L2.at (wpAny_bind (L3.at ?_)))))
  simp only [hv, Bool.false_eq_true, if_false]
  refine wpAny_bind (L4.at ?_)
  simp only [Bool.and_self, if_true]
  refine wpAny_bind (L5.at ?_)
  cases bb with
  | false =>
    have L6 : PySem.W.Looks (model prog w) hp (numberSlotInPython (.ref C) nm) true := PySem.W.ksp_inPy X h1 h2 (.inl rfl)
    have L7 : PySem.W.Looks (model prog w) hp (numberSlotInPython (.ref C') nm) true := PySem.W.ksp_inPy X h1' h2' (.inl rfl)
    simp only [Bool.false_eq_true, if_false]
    rw [if_pos (by decide)]
    refine wpAny_bind (L6.at ?_)
    simp only [if_true]
    refine wpAny_bind (L7.at ?_)
    simp only [Bool.not_true, Bool.false_eq_true, if_false]
    refine wpAny_bind (wpAny_mono (tail hp tt fun _ _ e => e) (fun r s' hr' => ?_) fun _ _ e => e)
    obtain ⟨v, rfl, hq⟩ := hr'
    exact wpAny_pure (wpAny_pure hq)
  | true =>
    simp only [if_true]
    refine wpAny_bind (refl_no (s := ⟨hp, g, d, tt, os⟩) hh X h1 h2 h1' h2' hr e1 hn hz fun h' tk k => ?_)
    have L6 : PySem.W.Looks (model prog w) h' (numberSlotInPython (.ref C) nm) true := PySem.W.ksp_inPy (X.keeps k) h1 h2 (.inl rfl)
    have L7 : PySem.W.Looks (model prog w) h' (numberSlotInPython (.ref C') nm) true := PySem.W.ksp_inPy (X.keeps k) h1' h2' (.inl rfl)
    simp only [Bool.false_eq_true, if_false]
    rw [if_pos (by decide)]
    refine wpAny_bind (L6.at ?_)
    simp only [if_true]
    refine wpAny_bind (L7.at ?_)
    simp only [Bool.not_true, Bool.false_eq_true, if_false]
    refine wpAny_bind (wpAny_mono (tail h' tk k) (fun r s' hr' => ?_) fun _ _ e => e)
    obtain ⟨v, rfl, hq⟩ := hr'
    exact wpAny_pure (wpAny_pure hq)
end
end DV

set_option Elab.async false
set_option linter.all false
set_option maxRecDepth 100000
set_option maxHeartbeats 1000000
/-! InF: +, ==, != and len of instances of own classes, by data. -/
namespace DV
open PySem PySem.Spec PyProof.Rows L2
section
variable {prog : Program} {w : World} {A : Around} {E : Value → Shared → Prop} {s : Shared} {K : PySem.W.Frag} {C x y f : Addr} {ox oy : Obj} {od oe : Option Obj}
/-- x != y by object.__ne__ and the class's own __eq__ -/
theorem ne_own {Q : Value → Shared → Prop} (hu : A.units + 1 < cLine) (X : K.In s.heap) (I : PySem.W.InstAt s.heap x ox C od) (J : PySem.W.InstAt s.heap y oy C oe) (hne : PySem.W.findIn K (.ref C) "__ne__" = some (some (.builtin "object.__ne__")))
    (heq : PySem.W.findIn K (.ref C) "__eq__" = some (some (.ref f))) (hf : PySem.W.isFn K (.ref f) = true) (hob : PySem.W.subIn K (.ref C) (.type "object") = some true)
    (h : wpAny (model prog w) A.in1 (call (.ref f) [.ref x, .ref y]) (fun v s' => ∃ b, v = .bool b ∧ Q (.bool (!b)) s') E s) : wpAny (model prog w) A (compareOp .NotEq (.ref x) (.ref y)) Q E s := by
  have body : wpAny (model prog w) A.in1 (Builtin.«object.__ne__» ⟨[.ref x, .ref y], []⟩) (fun fin s' => match fin with | .done (.ret v) => ∃ b, v = .bool b ∧ Q v s' | _ => False) E s := by
    unfold Builtin.«object.__ne__»
    refine wpAny_bind (m := slotArgs "__ne__" 1 _) (wpAny_pure ?_)
    refine wpAny_bind (wpAny_cRoomFor hu ?_)
    refine wpAny_bind (m := callSpecialIfBound? (.ref x) (Str.ofString "__eq__") [.ref y]) (PySem.W.ifBound_K X I heq hf (wpAny_mono h (fun v s' hv => ?_) fun _ _ e => e))
    obtain ⟨b, rfl, hq⟩ := hv
    exact wpAny_bind (wpAny_truthy_bool (wpAny_pure ⟨_, rfl, hq⟩))
  have one : wpAny (model prog w) A (tryCompare (.ref x) "__ne__" (.ref y)) (fun r s' => ∃ v, r = some v ∧ Q v s') E s := by
    unfold tryCompare
    refine wpAny_bind ?_
    simp only [callSpecialIfBound?, bindSpecialIfBound?]
    refine wpAny_holding (wpAny_bind (wpAny_bind (wpAny_bind (I.type.here ((PySem.W.looks_findIn X hne).here ?_)))))
    have fin : wpAny (model prog w) A (call (.builtin "object.__ne__") ([.ref x] ++ [.ref y]) >>= fun v => pure (some v)) (fun r s' => wpAny (model prog w) A (match r with | some .notImplemented | none => pure none | some v => pure (some v) : Sem (Option Value)) (fun r s' => ∃ v, r = some v ∧ Q v s') E s') E s := by
      refine wpAny_bind (wpAny_call (PySem.codeAny_call_builtin F.cmp_object.ne.plain F.cmpEntry_ne ?_))
      refine @PySem.W.check_slot (model prog w) _ _ s "object.__ne__" "object" "__ne__" (.ref x) [.ref y] [] _ F.cmpKind_ne F.cmpSplit_ne (I.type.andThen (PySem.W.looks_subIn X hob)) (F.cmpArgs_ne _ _) ?_
      refine wpAny_mono body (fun fin s' z => ?_) fun _ _ e => e
      rcases fin with (_ | _ | _ | _) | _ <;> first | exact z.elim | skip
      obtain ⟨b, rfl, hq⟩ := z
      exact wpAny_pure (wpAny_pure ⟨_, rfl, hq⟩)
    refine wpAny_bind (wpAny_askSetting (wpAny_ite ?_))
    split
    · rw [F.cmp_object.ne.bind]
      exact wpAny_bind (wpAny_pure (wpAny_pure (by exact fin)))
    · rw [F.cmp_object.ne.bind]
      exact wpAny_tryCatch (wpAny_bind (wpAny_pure (wpAny_pure (by exact fin))))
  unfold compareOp
  show wpAny _ _ (richCompare .NotEq _ _) _ _ _
  unfold richCompare
  simp only [oneThing_ref]
  refine wpAny_holding (wpAny_bind (wpAny_cRoomFor (Nat.lt_of_succ_lt hu) ?_))
  rw [cmpInfo_NotEq]
  dsimp only
  refine wpAny_bind (I.type.here (wpAny_bind (J.type.here ?_)))
  rw [show (Value.ref C != Value.ref C) = false from by simp]
  simp only [Bool.false_eq_true, if_false]
  refine wpAny_bind (wpAny_pure ?_)
  simp only [Bool.false_eq_true, if_false]
  refine wpAny_bind (wpAny_mono one (fun r s' z => ?_) fun _ _ e => e)
  obtain ⟨v, rfl, hq⟩ := z
  exact wpAny_pure hq
end
end DV

set_option Elab.async false
set_option linter.all false
set_option maxRecDepth 100000
set_option maxHeartbeats 1000000
/-! InG: +, ==, !=, len, isinstance of instances of own classes, by data. -/
namespace DV
open PySem PySem.Spec PyProof.Rows L2
/-- a special method of the class c: the def at f, and what it computes -/
def OpM (P : Program) (w : World) (K : PySem.W.Frag) (mg : Str → Option Value) (base : Heap) (ct : String → Addr) (k : Nat) (nm : Str) (n : Nat) (c : String) (F : FF) : Prop :=
  ∃ f fd ps, FnG P w K mg base k f fd ps (spD K ct n F) ∧ PySem.W.findIn K (.ref (ct c)) nm = some (some (.ref f)) ∧ PySem.W.isFn K (.ref f) = true ∧ Binds K fd ps []
def insC (A : Hd) (d : D) : Option String := match d with
  | .ref n => (match A[n]? with
    | some (.ins c _) => some c
    | _ => none)
  | _ => none
def gOwn2 (tab : String → Option FF) (d e : D) (A : Hd) : R D := match insC A d, insC A e with
  | some c, some c' => (match tab c, tab c' with
    | some F, some _ => F [d, e] A
    | _, _ => .stk)
  | _, _ => .stk
def gEqO (tab : String → Option FF) (d e : D) (A : Hd) : R D := match insC A d, insC A e with
  | some c, some c' => if c = c' then (match tab c with
    | some F => F [d, e] A
    | none => .stk) else .stk
  | _, _ => .stk
def gNotB (d : D) (A : Hd) : R D := match d with
  | .bl b => .ok (.bl (!b)) A
  | _ => .stk
def gNeO (tab : String → Option FF) (d e : D) (A : Hd) : R D := (gEqO tab d e A).bind gNotB
def gLenB (d : D) (A : Hd) : R D := match d with
  | .int i => if 0 ≤ i ∧ i < 2 ^ 63 then .ok (.int i) A else .stk
  | _ => .stk
def gLenO (tab : String → Option FF) (d : D) (A : Hd) : R D := match insC A d with
  | some c => (match tab c with
    | some F => (F [d] A).bind gLenB
    | none => .stk)
  | none => .stk
theorem insC_ok {K : PySem.W.Frag} {ct : String → Addr} {io : Io} {H : Hp} {A : Hd} {v : V} {d : D} {c : String} (h : HR K ct io H A) (r : DR K ct io H v d) (e : insC A d = some c) : ∃ a dx gs, v = .ref a ∧ H a = some (.ins (ct c) dx gs) := by
  unfold insC at e
  split at e
  · split at e
    · rename_i n c' fs hm
      cases e
      cases r with
      | @ref a _ q =>
        obtain ⟨dx, gs, eH, _, _⟩ := h.get q hm
        exact ⟨a, dx, gs, rfl, eH⟩
    · cases e
  · cases e
section
variable {X : Cx} {ct : String → Addr} {W : WX} {pins : List (Addr × Obj)} {σ : L2.St} {H : Hp} {s : Shared} {k n : Nat} {f : Addr} {fd : FuncData} {ps : List Str} {F : FF} {us : List Value} {vs : List V} {Q : VK}
/-- the def at f is called by the machine itself -/
theorem own_call {A : Around} (hg : A.guards = some []) (hr : Room k A) (e0 : Env0 X.prog X.w X.K X.mg X.base A X.stack s H) (Fn : FnG X.prog X.w X.K X.mg X.base k f fd ps (spD X.K ct n F)) (hb : Binds X.K fd ps []) (tk : Takes X W) (I : Inv X pins σ H s) (r : Vals vs us) (h : spD X.K ct n F vs H Q (WE W σ)) :
    wpAny (model X.prog X.w) A (call (.ref f) us) (EP X pins σ Q) X.xe s := by
  have hl : us.length = ps.length := Eq.trans r.length.symm (Fn.len _ _ _ _ h)
  refine wpAny_call (codeAny_mono (Fn.run A X.stack s H ⟨us, []⟩ us vs Q (WE W σ) hg hr e0 (by simpa using hb s us I.kIn (by simpa using hl)) r h) (fun r s' hq => ?_))
  match r, hq with
  | .error e, hq => exact passAt tk σ pins H s e s' I hq
  | .ok (.ret u), hq => exact I.after hq
  | .ok .next, hq => exact (False.elim hq)
  | .ok .brk, hq => exact (False.elim hq)
  | .ok .cont, hq => exact (False.elim hq)
end
/-- what + asks of the classes -/
structure AddT (P : Program) (w : World) (K : PySem.W.Frag) (mg : Str → Option Value) (base : Heap) (ct : String → Addr) (k : Nat) (tab : String → Option FF) : Prop where
  op : ∀ c F, tab c = some F → OpM P w K mg base ct k "__add__" 2 c F
  sf : ∀ c F, tab c = some F → PySem.W.selfFirst K (ct c) = true
  nr : ∀ c F, tab c = some F → PySem.W.findIn K (.ref (ct c)) "__radd__" = some none
  rd : ∀ c F, tab c = some F → PySem.W.readsIn K (ct c) (.type "type") = true
  sn : ∀ c F, tab c = some F → shortNm K (ct c) "__radd__" = true
  sub : ∀ c F c' F', tab c = some F → tab c' = some F' → ∃ bb, PySem.W.subIn K (.ref (ct c')) (.ref (ct c)) = some bb
  ty : PySem.W.findIn K (.type "type") "__radd__" = some none
theorem dun_add : PySem.dunder (Operator.Add).info.2 = ("__add__" : Str) := by decide +kernel
theorem dun_radd : dunderR (Operator.Add).info.2 = ("__radd__" : Str) := by decide +kernel
section
variable {X : Cx} {ct : String → Addr} {W : WX} {a b : Expr} {fa fb : EF} {pos : Pos} {k j : Nat} {tab : String → Option FF}
theorem inst_of {pins : List (Addr × Obj)} {σ : L2.St} {H : Hp} {s : Shared} {x C dx : Addr} {gs : List (Str × V)} (I : Inv X pins σ H s) (e : H x = some (.ins C dx gs)) : ∃ ox od, PySem.W.InstAt s.heap x ox C od := by
  obtain ⟨mA, O, _⟩ := ins_get I.hok e
  obtain ⟨od, J, _⟩ := O.look
  exact ⟨_, _, J⟩
theorem pd_addO (T : AddT X.prog X.w X.K X.mg X.base ct k tab) (hc : X.calm = true) (hgd : X.A.guards = some []) (hr : Room j X.A) (hk : k ≤ j) (tk : Takes X W) (ha : PD X ct W a fa) (hb : PD X ct W b fb) : PD X ct W (.BinOp a .Add b pos) (eBin (gOwn2 tab) fa fb) := by
  refine ⟨fun pins s σ H Q I ⟨io, A, ro, st, p⟩ => ?_⟩
  refine wpAny_BinOp (thn (ha.run pins s σ H _ I ⟨io, A, ro, st, p.bind (rep := DR X.K ct)⟩) fun v s1 ⟨x, H1, I1, rx, io1, A1, d, e1, h1, r1, p1⟩ => ?_)
  refine thn (hb.run pins s1 σ H1 _ I1 ⟨io1, A1, ro, st.mono e1 h1, p1.bind (rep := DR X.K ct)⟩) fun u s2 ⟨y, H2, I2, ry, io2, A2, e, e2, h2, r2, p2⟩ => ?_
  unfold gOwn2 at p2
  split at p2
  · rename_i c c' hc1 hc2
    split at p2
    · rename_i F F' hF hF'
      obtain ⟨ax, dx, gs, rfl, ea⟩ := insC_ok h2 (r1.mono e2 h1.noT) hc1
      obtain ⟨ay, dy, gs', rfl, eb⟩ := insC_ok h2 r2 hc2
      obtain rfl : v = Value.ref ax := rx
      obtain rfl : u = Value.ref ay := ry
      obtain ⟨ox, od, J⟩ := inst_of I2 ea
      obtain ⟨oy, oe, J'⟩ := inst_of I2 eb
      obtain ⟨f, fd, ps, Fn, hs, hf, hbd⟩ := T.op c F hF
      obtain ⟨g, fd', ps', _, hs', _, _⟩ := T.op c' F' hF'
      have call : ∀ h' t', (∀ b o, s2.heap.get? b = some o → h'.get? b = some o) → wpAny (model X.prog X.w) X.A (call (.ref f) [.ref ax, .ref ay]) (PySem.W.CmpBack (EP X pins σ Q)) X.xe { s2 with heap := h', toks := t' } := fun h' t' kp => by
        have I3 : Inv X pins σ H2 { s2 with heap := h', toks := t' } := I2.kept (t' := t') kp
        refine wpAny_mono (own_call (vs := [.ref ax, .ref ay]) hgd (hr.mono hk) I3.env0 Fn hbd tk I3 (.cons rfl (.cons rfl .nil)) (spD_call rfl h2 (.cons (r1.mono e2 h1.noT) (.cons r2 .nil)) p2)) (fun w' s' z => ?_) fun _ _ e => e
        obtain ⟨z', H', I', rz, qz⟩ := z
        exact SlX.cmpback rz ⟨z', H', I', rz, qz⟩
      have hs2 : PySem.W.findIn X.K (.ref (ct c)) (PySem.dunder (Operator.Add).info.2) = some (some (.ref f)) := by rw [dun_add]; exact hs
      by_cases hcc : ct c = ct c'
      · obtain ⟨m, hF⟩ := I2.fr
        have J2 : PySem.W.InstAt s2.heap ay oy (ct c) oe := by rw [hcc]; exact J'
        exact PySem.W.binop_K hF I.ok.mod.kin J J2.type (T.sf _ _ ‹_›) hs2 hf (call s2.heap s2.toks fun _ _ e => e)
      · obtain ⟨bb, hsub⟩ := T.sub c F c' F' hF hF'
        exact binop_two (op := .Add) (I2.ok.hd hc) I2.kIn J J' hcc (T.sf _ _ hF) (T.sf _ _ hF') hs2 hf (by rw [dun_radd]; exact T.nr _ _ hF) (by rw [dun_add]; exact hs') (by rw [dun_radd]; exact T.nr _ _ hF') (T.rd _ _ hF') (by rw [dun_radd]; exact T.ty) (by rw [dun_radd]; exact T.sn _ _ hF') (by rw [dun_radd]; decide) hsub call
    · exact p2.elim
  · exact p2.elim
/-- what == and != ask of the classes -/
structure EqT (P : Program) (w : World) (K : PySem.W.Frag) (mg : Str → Option Value) (base : Heap) (ct : String → Addr) (k : Nat) (tab : String → Option FF) : Prop where
  op : ∀ c F, tab c = some F → OpM P w K mg base ct k "__eq__" 2 c F
  ne : ∀ c F, tab c = some F → PySem.W.findIn K (.ref (ct c)) "__ne__" = some (some (.builtin "object.__ne__"))
  ob : ∀ c F, tab c = some F → PySem.W.subIn K (.ref (ct c)) (.type "object") = some true
theorem eq_run (T : EqT X.prog X.w X.K X.mg X.base ct k tab) (hgd : X.A.guards = some []) (hr : Room j X.A) (hk : k ≤ j) (tk : Takes X W) {pins : List (Addr × Obj)} {s : Shared} {σ : L2.St} {H : Hp} {io : Io} {A : Hd} {x y : V} {v u : Value} {d e : D} {Q : VK}
    (I : Inv X pins σ H s) (rx : RelV x v) (ry : RelV y u) (h : HR X.K ct io H A) (r1 : DR X.K ct io H x d) (r2 : DR X.K ct io H y e) (p : Post X.K ct (DR X.K ct) W σ io H (gEqO tab d e A) Q) : wpAny (model X.prog X.w) X.A (compareOp .Eq v u) (EP X pins σ Q) X.xe s := by
  unfold gEqO at p
  split at p
  · rename_i c c' hc1 hc2
    split at p
    · rename_i hcc
      subst hcc
      split at p
      · rename_i F hF
        obtain ⟨ax, dx, gs, rfl, ea⟩ := insC_ok h r1 hc1
        obtain ⟨ay, dy, gs', rfl, eb⟩ := insC_ok h r2 hc2
        obtain rfl : v = Value.ref ax := rx
        obtain rfl : u = Value.ref ay := ry
        obtain ⟨ox, od, J⟩ := inst_of I ea
        obtain ⟨oy, oe, J'⟩ := inst_of I eb
        obtain ⟨f, fd, ps, Fn, hs, hf, hbd⟩ := T.op c F hF
        obtain ⟨m, hFr⟩ := I.fr
        rw [show compareOp CmpOp.Eq (Value.ref ax) (Value.ref ay) = richCompare CmpOp.Eq (Value.ref ax) (Value.ref ay) from rfl]
        refine PySem.W.cmp_K (op := .Eq) (tb := .ref (ct c)) hr.units0 hFr I.ok.mod.kin J J'.type (by simp [PySem.W.notFirst]) hs hf ?_
        refine wpAny_mono (own_call (vs := [.ref ax, .ref ay]) hgd (hr.mono hk) I.env0 Fn hbd tk I (.cons rfl (.cons rfl .nil)) (spD_call rfl h (.cons r1 (.cons r2 .nil)) p)) (fun w' s' z => ?_) fun _ _ e => e
        obtain ⟨z', H', I', rz, qz⟩ := z
        exact SlX.cmpback rz ⟨z', H', I', rz, qz⟩
      · exact p.elim
    · exact p.elim
  · exact p.elim
theorem ne_run (T : EqT X.prog X.w X.K X.mg X.base ct k tab) (hgd : X.A.guards = some []) (hr : Room j X.A) (hk : k + 1 ≤ j) (tk : Takes X W) {pins : List (Addr × Obj)} {s : Shared} {σ : L2.St} {H : Hp} {io : Io} {A : Hd} {x y : V} {v u : Value} {d e : D} {Q : VK}
    (I : Inv X pins σ H s) (rx : RelV x v) (ry : RelV y u) (h : HR X.K ct io H A) (r1 : DR X.K ct io H x d) (r2 : DR X.K ct io H y e) (p : Post X.K ct (DR X.K ct) W σ io H (gNeO tab d e A) Q) : wpAny (model X.prog X.w) X.A (compareOp .NotEq v u) (EP X pins σ Q) X.xe s := by
  have p0 := p.bind (rep := DR X.K ct)
  unfold gEqO at p0
  split at p0
  · rename_i c c' hc1 hc2
    split at p0
    · rename_i hcc
      subst hcc
      split at p0
      · rename_i F hF
        obtain ⟨ax, dx, gs, rfl, ea⟩ := insC_ok h r1 hc1
        obtain ⟨ay, dy, gs', rfl, eb⟩ := insC_ok h r2 hc2
        obtain rfl : v = Value.ref ax := rx
        obtain rfl : u = Value.ref ay := ry
        obtain ⟨ox, od, J⟩ := inst_of I ea
        obtain ⟨oy, oe, J'⟩ := inst_of I eb
        obtain ⟨f, fd, ps, Fn, hs, hf, hbd⟩ := T.op c F hF
        have hr1 : Room (k + 1) X.A := hr.mono hk
        refine ne_own (by have := hr1.units0; have := hr1.in1.units0; exact this) I.kIn J J' (T.ne c F hF) hs hf (T.ob c F hF) ?_
        refine wpAny_mono (own_call (vs := [.ref ax, .ref ay]) hgd hr1.in1 I.env0.in1 Fn hbd tk I (.cons rfl (.cons rfl .nil)) (spD_call rfl h (.cons r1 (.cons r2 .nil)) p0)) (fun w' s' z => ?_) fun _ _ e => e
        obtain ⟨z', H', I', rz, io1, A1, d1, e1, h1, rd, qz⟩ := z
        unfold gNotB at qz
        split at qz
        · rename_i b0
          cases rd
          cases (show w' = Value.bool b0 from rz)
          exact ⟨b0, rfl, V.bl (!b0), H', I', rfl, qz.here h1 (.bl _)⟩
        · exact qz.elim
      · exact p0.elim
    · exact p0.elim
  · exact p0.elim
theorem pd_eqO (T : EqT X.prog X.w X.K X.mg X.base ct k tab) (hgd : X.A.guards = some []) (hr : Room j X.A) (hk : k ≤ j) (tk : Takes X W) (ha : PD X ct W a fa) (hb : PD X ct W b fb) : PD X ct W (.Compare a [.Eq] [b] pos) (eBin (gEqO tab) fa fb) := by
  refine ⟨fun pins s σ H Q I ⟨io, A, ro, st, p⟩ => ?_⟩
  refine wpAny_Compare1 (thn (ha.run pins s σ H _ I ⟨io, A, ro, st, p.bind (rep := DR X.K ct)⟩) fun v s1 ⟨x, H1, I1, rx, io1, A1, d, e1, h1, r1, p1⟩ => ?_) (nomark _)
  refine thn (hb.run pins s1 σ H1 _ I1 ⟨io1, A1, ro, st.mono e1 h1, p1.bind (rep := DR X.K ct)⟩) fun u s2 ⟨y, H2, I2, ry, io2, A2, e, e2, h2, r2, p2⟩ => ?_
  exact eq_run T hgd hr hk tk I2 rx ry h2 (r1.mono e2 h1.noT) r2 p2
theorem pd_neO (T : EqT X.prog X.w X.K X.mg X.base ct k tab) (hgd : X.A.guards = some []) (hr : Room j X.A) (hk : k + 1 ≤ j) (tk : Takes X W) (ha : PD X ct W a fa) (hb : PD X ct W b fb) : PD X ct W (.Compare a [.NotEq] [b] pos) (eBin (gNeO tab) fa fb) := by
  refine ⟨fun pins s σ H Q I ⟨io, A, ro, st, p⟩ => ?_⟩
  refine wpAny_Compare1 (thn (ha.run pins s σ H _ I ⟨io, A, ro, st, p.bind (rep := DR X.K ct)⟩) fun v s1 ⟨x, H1, I1, rx, io1, A1, d, e1, h1, r1, p1⟩ => ?_) (nomark _)
  refine thn (hb.run pins s1 σ H1 _ I1 ⟨io1, A1, ro, st.mono e1 h1, p1.bind (rep := DR X.K ct)⟩) fun u s2 ⟨y, H2, I2, ry, io2, A2, e, e2, h2, r2, p2⟩ => ?_
  exact ne_run T hgd hr hk tk I2 rx ry h2 (r1.mono e2 h1.noT) r2 p2
/-- a comparison of an own kind as a test -/
theorem pdt_own {op : CmpOp} {g : D → D → Hd → R D} (hp : PD X ct W (.Compare a [op] [b] pos) (eBin g fa fb)) (hrun : ∀ (pins : List (Addr × Obj)) (s : Shared) (σ : L2.St) (H : Hp) (io : Io) (A : Hd) (x y : V) (v u : Value) (d e : D) (Q : VK), Inv X pins σ H s → RelV x v → RelV y u → HR X.K ct io H A → DR X.K ct io H x d → DR X.K ct io H y e → Post X.K ct (DR X.K ct) W σ io H (g d e A) Q → wpAny (model X.prog X.w) X.A (compareOp op v u) (EP X pins σ Q) X.xe s)
    (ha : PD X ct W a fa) (hb : PD X ct W b fb) (hm : behindInMarks op b = false) : PDt X ct W (.Compare a [op] [b] pos) (tCmpD g fa fb) := by
  refine ⟨fun pins s σ H Q I ⟨io, A, ro, st, p⟩ => ?_⟩
  have p : Post X.K ct repB W σ io H ((eBin g fa fb ro A).bind gBool) Q := p
  have p0 := p.bind (rep := DR X.K ct)
  refine wpAny_isTrue_Compare1 (thn (ha.run pins s σ H _ I ⟨io, A, ro, st, p0.bind (rep := DR X.K ct)⟩) fun v s1 ⟨x, H1, I1, rx, io1, A1, d, e1, h1, r1, p1⟩ => ?_) hm
  refine thn (hb.run pins s1 σ H1 _ I1 ⟨io1, A1, ro, st.mono e1 h1, p1.bind (rep := DR X.K ct)⟩) fun u s2 ⟨y, H2, I2, ry, io2, A2, e, e2, h2, r2, p2⟩ => ?_
  refine thn (hrun pins s2 σ H2 io2 A2 x y v u d e _ I2 rx ry h2 (r1.mono e2 h1.noT) r2 p2) fun c s3 ⟨z, H3, I3, rz, io3, A3, dz, e3, h3, r3, q3⟩ => ?_
  unfold gBool at q3
  split at q3
  · rename_i b0
    cases r3
    cases (show c = Value.bool b0 from rz)
    exact wpAny_truthy_bool ⟨H3, I3, q3 b0 io3 H3 Ext.refl h3 rfl⟩
  · exact q3.elim
theorem pdt_eqO (T : EqT X.prog X.w X.K X.mg X.base ct k tab) (hgd : X.A.guards = some []) (hr : Room j X.A) (hk : k ≤ j) (tk : Takes X W) (ha : PD X ct W a fa) (hb : PD X ct W b fb) : PDt X ct W (.Compare a [.Eq] [b] pos) (tCmpD (gEqO tab) fa fb) :=
  pdt_own (pd_eqO T hgd hr hk tk ha hb) (fun pins s σ H io A x y v u d e Q I rx ry h r1 r2 p => eq_run T hgd hr hk tk I rx ry h r1 r2 p) ha hb (nomark _)
theorem pdt_neO (T : EqT X.prog X.w X.K X.mg X.base ct k tab) (hgd : X.A.guards = some []) (hr : Room j X.A) (hk : k + 1 ≤ j) (tk : Takes X W) (ha : PD X ct W a fa) (hb : PD X ct W b fb) : PDt X ct W (.Compare a [.NotEq] [b] pos) (tCmpD (gNeO tab) fa fb) :=
  pdt_own (pd_neO T hgd hr hk tk ha hb) (fun pins s σ H io A x y v u d e Q I rx ry h r1 r2 p => ne_run T hgd hr hk tk I rx ry h r1 r2 p) ha hb (nomark _)
/-- len(o) -/
theorem pd_lenO {x : Str} {p1 : Pos} (T : ∀ c F, tab c = some F → OpM X.prog X.w X.K X.mg X.base ct k "__len__" 1 c F) (hgd : X.A.guards = some []) (hr : Room j X.A) (hk : k + 1 ≤ j) (tk : Takes X W) (hg : Gl X x) (hm : X.mg x = none) (hv : bootBuiltins x = some (.builtin "len")) (ha : PD X ct W a fa)
    (hn : x ≠ "__name__" := by decide) (hdb : (x == ("__debug__" : Str)) = false := by decide) (he : starEach [a] X.env = (false, eval a X.env) :: starEach [] X.env := by rfl) : PD X ct W (.Call (.Name x p1) [a] [] pos) (eUn (gLenO tab) fa) := by
  refine ⟨fun pins s σ H Q I ⟨io, A, ro, st, p⟩ => ?_⟩
  refine wpAny_Call_Name_kw (ld_blt I hg hm hv ?_ hn hdb)
  refine PyProof.Rows.callWith_builtin1 (PyProof.Rows.args_cons (thn (ha.run pins s σ H _ I ⟨io, A, ro, st, p.bind (rep := DR X.K ct)⟩) fun v s1 ⟨y, H1, I1, rx, io1, A1, d, e1, h1, r1, p1⟩ => PyProof.Rows.args_nil ?_) he) he (by rfl)
  unfold gLenO at p1
  split at p1
  · rename_i c hc1
    split at p1
    · rename_i F hF
      obtain ⟨ax, dx, gs, rfl, ea⟩ := insC_ok h1 r1 hc1
      obtain rfl : v = Value.ref ax := rx
      obtain ⟨ox, od, J⟩ := inst_of I1 ea
      obtain ⟨f, fd, ps, Fn, hs, hf, hbd⟩ := T c F hF
      obtain ⟨m, hFr⟩ := I1.fr
      have hr1 : Room (k + 1) X.A := hr.mono hk
      refine PySem.W.len_K hFr I.ok.mod.kin J hs hf ?_
      refine wpAny_mono (own_call (vs := [.ref ax]) hgd hr1.in1 I1.env0.in1 Fn hbd tk I1 (.cons rfl .nil) (spD_call rfl h1 (.cons r1 .nil) (p1.bind (rep := DR X.K ct)))) (fun w' s' z => ?_) fun _ _ e => e
      obtain ⟨z', H', I', rz, io2, A2, d2, e2, h2, rd, qz⟩ := z
      unfold gLenB at qz
      split at qz
      · rename_i i
        split at qz
        · rename_i hi
          cases rd
          obtain ⟨t, et⟩ := (show ∃ t, w' = Value.int i t from rz)
          subst et
          exact ⟨hi, .int i, H', I'.tok _, ⟨_, rfl⟩, qz.here h2 (.int i)⟩
        · exact qz.elim
      · exact qz.elim
    · exact p1.elim
  · exact p1.elim
end
end DV

set_option Elab.async false
set_option linter.all false
set_option maxRecDepth 100000
set_option maxHeartbeats 1000000
/-! InH: isinstance of instances of own classes. -/
namespace DV
open PySem PySem.Spec PyProof.Rows L2
/-- a method that says super(), from its statement -/
abbrev methF (name qual : Str) (st : Stmt) (cc co : Addr) : NdefX.NF := ⟨name, qual, defArgs st, defBody st, defScope st, [(("__class__" : Str), cc)], co⟩
/-- the class's name is short, told of the class's own data -/
def shortC (cd : ClassData) (name : Str) : Bool := decide (cd.name.cps.foldl (fun k c => k + (Str.utf8Of c).length) 0 ≤ 100) && decide ((missText cd.name name).length ≤ 1000)
theorem shortNm_of {K : PySem.W.Frag} {C : Addr} {o : Value} {d : Option Addr} {cd : ClassData} {sl : Array (Option Value)} {name : Str} (h : K.lookup C = some ⟨o, d, .cls cd, sl⟩) (h2 : shortC cd name = true) : shortNm K C name = true := by
  unfold shortNm PySem.W.clsIn
  rw [h]
  exact h2
def tyC (A : Hd) (d : D) : Option Cl := match insC A d with
  | some c => some (.own c)
  | none => (tyD A d).map Cl.bi
def gIsaI (tb : Cl → Cl → Option Bool) (ds : List D) (A : Hd) : R D := match ds with
  | [d, .cls k] => (match tyC A d with
    | some t => (match tb t k with
      | some b => .ok (.bl b) A
      | none => .stk)
    | none => .stk)
  | _ => .stk
/-- what isinstance asks of the class of an instance -/
structure InsOk (K : PySem.W.Frag) (C : Addr) : Prop where
  cls : Cls K C
  ha : PySem.W.findIn K (.ref C) "__class__" = some (some (.builtin "object.__class__"))
  hn : PySem.W.specialIn K (.builtin "object.__class__") "__get__" = some (some (.builtin "getset_descriptor.__get__"))
  ht : PySem.W.takesIn K (.builtin "object.__class__") = some true
  hm : PySem.W.mroIn K C (.type "object") = some true
structure IsI (K : PySem.W.Frag) (ct : String → Addr) (tb : Cl → Cl → Option Bool) : Prop where
  ins : ∀ c k b, tb (.own c) k = some b → InsOk K (ct c)
  kit : ∀ t k b, tb t k = some b → PySem.W.kitOne K (ClV ct t) (ClV ct k) = some b
theorem gIsaI_ok {K : PySem.W.Frag} {ct : String → Addr} {tb : Cl → Cl → Option Bool} (T : IsI K ct tb) : CaD K ct (rIsi K) (gIsaI tb) := by
  intro W σ io H A xs ds Q h r p
  unfold gIsaI at p
  split at p
  · rename_i d k
    cases r with
    | cons r1 rs =>
    cases rs with
    | cons r2 rs =>
    cases rs
    split at p
    · rename_i t ht
      split at p
      · rename_i b hb
        have cv : ∀ {v2 : V}, DR K ct io H v2 (.cls k) → ClsV v2 (ClV ct k) := fun {v2} r2 => by
          cases r2 with
          | ty n => exact .ty n
          | own n => exact .own _
        refine ⟨_, _, ClV ct t, _, b, rfl, cv r2, ?_, T.kit t k b hb, p.here h (.bl _)⟩
        unfold tyC at ht
        split at ht
        · rename_i c hc
          cases ht
          obtain ⟨a, dx, gs, rfl, ea⟩ := insC_ok h r1 hc
          have o := T.ins c k b hb
          exact .base (.ins ea o.cls o.ha o.hn o.ht o.hm)
        · obtain ⟨n, hn, rfl⟩ := Option.map_eq_some_iff.mp ht
          exact tyD_ok h r1 hn
      · exact p.elim
    · exact p.elim
  · exact p.elim
end DV

set_option Elab.async false
set_option linter.all false
set_option maxRecDepth 100000
namespace K23
open PySem PySem.Spec PyProof.Rows L2 DV
def topS (i : Nat) : Stmt := PySem.Challenge.pw_nextbehind_k23_chains_added.main.body.getD i (.Pass ⟨0, 0, 0, 0⟩)
def cs_steps : List String := ["Chain", "Through", "Ring"]
def cs_name : List String := ["Through"]
def con_KIND : String → Option D := fun c => if c = "Chain" then some (.str "chain") else if c = "Through" then some (.str "through") else if c = "Ring" then some (.str "ring") else none
def ancI : String → List String
  | "Chain" => ["Chain", "Reason"]
  | "Through" => ["Through", "Chain", "Reason"]
  | "Ring" => ["Ring", "Chain", "Reason"]
  | _ => []
def tbI : Cl → Cl → Option Bool
  | .own c, .own d => if c ∈ (["Chain", "Through", "Ring"] : List String) ∧ d ∈ (["Reason", "Chain", "Through", "Ring"] : List String) then some (decide (d ∈ ancI c)) else none
  | _, _ => none
def ancT : String → List Cl
  | "BadSteps" => [.own "BadSteps", .own "WorldError", .bi "ValueError", .bi "Exception", .bi "BaseException", .bi "object"]
  | _ => []
def xsT : List String := ["BadSteps"]
def ownT : List String := ["WorldError", "BadSteps"]
def biT : List String := ["ValueError"]
def sbT : String → Cl → Option Bool := sbM ancT xsT ownT biT
theorem ancOk : AncOk ancT xsT ownT biT := by unfold AncOk; decide +kernel
def mt_WorldError : Cl → Option Bool := mtM ancT xsT "WorldError"
def mt_BadSteps : Cl → Option Bool := mtM ancT xsT "BadSteps"
def xs_reason : List String := ["BadSteps"]
abbrev s_init_BadSteps : Stmt := (clsBody (topS 3)).getD 0 (.Pass ⟨0, 0, 0, 0⟩)
theorem w_BadSteps : InitW s_init_BadSteps "self" ["reason"] ["self", "reason", "__class__"] ["reason"] := ⟨NdefX.nscope_by (by decide +kernel), rfl, ⟨_, rfl, rfl⟩, fun qual cc co doc pm ctv us hl => match us, hl with | [_, _], _ => rfl,
  ⟨_, _, _, _, _, _, _, _, _, _, by rfl, fun env => by rfl, fun P w K mg base qual cc co f A outer s H E => (pss_cons (ps_stoB (pe_var (i := 0) rfl (by first | exact Or.inl rfl | exact Or.inr (Or.inl rfl))) (pe_var (i := 1) rfl (by first | exact Or.inl rfl | exact Or.inr (Or.inl rfl)))) pss_nil)⟩⟩
section
variable {P : Program} {w : World} {K : PySem.W.Frag} {mg : Str → Option Value} {base : Heap} {ct : String → Addr}

abbrev s__law_source : Stmt := topS 10
theorem sc__law_source : FnScope ["_law_script", "_law_k", "_law_cell"] ["_law_script", "_law_k"] (defScope s__law_source) := ⟨rfl, rfl, rfl, by decide +kernel, rfl, by decide +kernel, by decide +kernel⟩
noncomputable def b__law_source : SF := (sSeq (sAsg (eIf (tCmpD gNe (eVar 0) (eArgs gLstD aNil)) (eBin gSubD (eVar 0) (eBin gMod (eVar 1) (eArgs gLen (aCons (eVar 0) aNil)))) (eC (.int 1))) (gNm 2))
  (sRet (eArgs gLstM (aCons (eVar 2) (aCons (eBin gMul (eC (.int 3)) (eVar 1)) (aCons (eIf (tCmpD gGe (eVar 2) (eBin gPow (eC (.int 10)) (eC (.int 18)))) (eBin gDiv (eVar 2) (eBin gPow (eC (.int 10)) (eC (.int 18)))) (eC (.int 0))) aNil))))))
theorem d__law_source (m_len : mg "len" = none) (f : Addr) :
    ∀ (cdv : Value) (A : Around) (outer : List PySem.Env) (s : Shared) (H : Hp) (E : XK), A.guards = some [] → Room 0 (A.deeper (envOfC "_law_source" (defScope s__law_source) s.heap.objs.size f cdv)) → PSsD (cxD P w K mg base ["_law_script", "_law_k", "_law_cell"] "_law_source" s__law_source f cdv A outer s H E) ct (WD E) (defBody s__law_source) b__law_source := by
  intro cdv A outer s H E hg hr
  have tk : Takes (cxD P w K mg base ["_law_script", "_law_k", "_law_cell"] "_law_source" s__law_source f cdv A outer s H E) (WD E) := takes_of rfl rfl rfl rfl
  have hp : PassesOwn (model (cxD P w K mg base ["_law_script", "_law_k", "_law_cell"] "_law_source" s__law_source f cdv A outer s H E).prog (cxD P w K mg base ["_law_script", "_law_k", "_law_cell"] "_law_source" s__law_source f cdv A outer s H E).w) (cxD P w K mg base ["_law_script", "_law_k", "_law_cell"] "_law_source" s__law_source f cdv A outer s H E).A (cxD P w K mg base ["_law_script", "_law_k", "_law_cell"] "_law_source" s__law_source f cdv A outer s H E).env (cxD P w K mg base ["_law_script", "_law_k", "_law_cell"] "_law_source" s__law_source f cdv A outer s H E).xe := passes_of rfl
  exact (pssd_cons (psd_set (i := 2) sc__law_source.nd rfl (Or.inl rfl) (pd_if (pdt_cmp (op_neX hr.units) gNe_ok (pd_var 0) (pd_lst pda_nil) (nomark _)) (pd_sub (hu_of hr) (pd_var 0) (pd_op op_mod gMod_ok (pd_var 1) (pd_callB call_lenX gLen_ok (by rfl) m_len PySem.boot_len (pda_cons (pd_var 0) pda_nil))) (fun _ _ => rfl) (fun _ _ => rfl)) pd_int))
  (pssd_one (psd_ret (pd_lstM (pda_cons (pd_var 2) (pda_cons (pd_op op_mulX gMul_ok pd_int (pd_var 1)) (pda_cons (pd_if (pdt_cmp op_geX gLtL_ok (pd_var 2) (pd_op op_pow gPow_ok pd_int pd_int) (nomark _)) (pd_op op_fdivW gDiv_ok (pd_var 2) (pd_op op_pow gPow_ok pd_int pd_int)) pd_int) pda_nil)))))))
noncomputable def F__law_source : FF := fun ds A => finK (b__law_source (startD 3 ds) A)
theorem o__law_source (m_len : mg "len" = none) {f : Addr} {fd : FuncData} (Fn : Fun K "_law_source" "_law_source" s__law_source f fd) : FnG P w K mg base 1 f fd ["_law_script", "_law_k"] (spD K ct 2 F__law_source) := okD Fn sc__law_source (d__law_source m_len f) fun ds A _ h => finK_ok h

abbrev s__law_next : Stmt := topS 11
theorem sc__law_next : FnScope ["_law_source_here", "_law_many", "_law_found", "_law_primes", "_law_prime"] ["_law_source_here", "_law_many"] (defScope s__law_next) := ⟨rfl, rfl, rfl, by decide +kernel, rfl, by decide +kernel, by decide +kernel⟩
noncomputable def b__law_next : SF := (sSeq (sIf (tCmpD gGt (eBin gSubD (eVar 0) (eC (.int 2))) (eC (.int 0)))
  (sSeq (sAsg (eBin gMod (eBin gSubD (eVar 0) (eC (.int 2))) (eVar 1)) (gNm 2))
  (sSeq (sAsg (eBin gDiv (eBin gSubD (eVar 0) (eC (.int 2))) (eVar 1)) (gAt (eVar 0) (eC (.int 2))))
  (sRet (eVar 2))))
  sNx)
  (sSeq (sAsg (eBin gAdd (eBin gSubD (eVar 0) (eC (.int 1))) (eC (.int 1))) (gAt (eVar 0) (eC (.int 1))))
  (sSeq (sAsg (eArgs gLstD (aCons (eC (.int 2147483647)) (aCons (eC (.int 2147483629)) (aCons (eC (.int 2147483587)) (aCons (eC (.int 2147483579)) (aCons (eC (.int 2147483563)) (aCons (eC (.int 2147483549)) (aCons (eC (.int 2147483543)) (aCons (eC (.int 2147483497)) aNil))))))))) (gNm 3))
  (sSeq (sAsg (eBin gSubD (eBin gAdd (eVar 3) (eArgs gLstD (aCons (eC (.int 2147483489)) (aCons (eC (.int 2147483477)) (aCons (eC (.int 2147483423)) aNil))))) (eBin gMod (eBin gSubD (eVar 0) (eC (.int 1))) (eC (.int 11)))) (gNm 4))
  (sRet (eBin gMod (eBin gDiv (eBin gMod (eBin gPow (eBin gAdd (eBin gAdd (eBin gMod (eBin gSubD (eVar 0) (eC (.int 0))) (eVar 4)) (eBin gMul (eC (.int 7919)) (eBin gSubD (eVar 0) (eC (.int 1))))) (eC (.int 1))) (eC (.int 5))) (eVar 4)) (eC (.int 13))) (eVar 1)))))))
theorem d__law_next  (f : Addr) :
    ∀ (cdv : Value) (A : Around) (outer : List PySem.Env) (s : Shared) (H : Hp) (E : XK), A.guards = some [] → Room 0 (A.deeper (envOfC "_law_next" (defScope s__law_next) s.heap.objs.size f cdv)) → PSsD (cxD P w K mg base ["_law_source_here", "_law_many", "_law_found", "_law_primes", "_law_prime"] "_law_next" s__law_next f cdv A outer s H E) ct (WD E) (defBody s__law_next) b__law_next := by
  intro cdv A outer s H E hg hr
  have tk : Takes (cxD P w K mg base ["_law_source_here", "_law_many", "_law_found", "_law_primes", "_law_prime"] "_law_next" s__law_next f cdv A outer s H E) (WD E) := takes_of rfl rfl rfl rfl
  have hp : PassesOwn (model (cxD P w K mg base ["_law_source_here", "_law_many", "_law_found", "_law_primes", "_law_prime"] "_law_next" s__law_next f cdv A outer s H E).prog (cxD P w K mg base ["_law_source_here", "_law_many", "_law_found", "_law_primes", "_law_prime"] "_law_next" s__law_next f cdv A outer s H E).w) (cxD P w K mg base ["_law_source_here", "_law_many", "_law_found", "_law_primes", "_law_prime"] "_law_next" s__law_next f cdv A outer s H E).A (cxD P w K mg base ["_law_source_here", "_law_many", "_law_found", "_law_primes", "_law_prime"] "_law_next" s__law_next f cdv A outer s H E).env (cxD P w K mg base ["_law_source_here", "_law_many", "_law_found", "_law_primes", "_law_prime"] "_law_next" s__law_next f cdv A outer s H E).xe := passes_of rfl
  exact (pssd_cons (psd_if (pdt_cmp op_gtX gLtL_ok (pd_sub (hu_of hr) (pd_var 0) pd_int (fun _ _ => rfl) (fun _ _ => rfl)) pd_int (nomark _))
  (pssd_cons (psd_set (i := 2) sc__law_next.nd rfl (Or.inl rfl) (pd_op op_mod gMod_ok (pd_sub (hu_of hr) (pd_var 0) pd_int (fun _ _ => rfl) (fun _ _ => rfl)) (pd_var 1)))
  (pssd_cons (psd_asg (pd_op op_fdivW gDiv_ok (pd_sub (hu_of hr) (pd_var 0) pd_int (fun _ _ => rfl) (fun _ _ => rfl)) (pd_var 1)) (pgd_at (pd_var 0) pd_int (hu_of hr)))
  (pssd_one (psd_ret (pd_var 2)))))
  pssd_nil)
  (pssd_cons (psd_asg (pd_op op_addX gAdd_ok (pd_sub (hu_of hr) (pd_var 0) pd_int (fun _ _ => rfl) (fun _ _ => rfl)) pd_int) (pgd_at (pd_var 0) pd_int (hu_of hr)))
  (pssd_cons (psd_set (i := 3) sc__law_next.nd rfl (Or.inl rfl) (pd_lst (pda_cons pd_int (pda_cons pd_int (pda_cons pd_int (pda_cons pd_int (pda_cons pd_int (pda_cons pd_int (pda_cons pd_int (pda_cons pd_int pda_nil))))))))))
  (pssd_cons (psd_set (i := 4) sc__law_next.nd rfl (Or.inl rfl) (pd_sub (hu_of hr) (pd_op op_addX gAdd_ok (pd_var 3) (pd_lst (pda_cons pd_int (pda_cons pd_int (pda_cons pd_int pda_nil))))) (pd_op op_mod gMod_ok (pd_sub (hu_of hr) (pd_var 0) pd_int (fun _ _ => rfl) (fun _ _ => rfl)) pd_int) (fun _ _ => rfl) (fun _ _ => rfl)))
  (pssd_one (psd_ret (pd_op op_mod gMod_ok (pd_op op_fdivW gDiv_ok (pd_op op_mod gMod_ok (pd_op op_pow gPow_ok (pd_op op_addX gAdd_ok (pd_op op_addX gAdd_ok (pd_op op_mod gMod_ok (pd_sub (hu_of hr) (pd_var 0) pd_int (fun _ _ => rfl) (fun _ _ => rfl)) (pd_var 4)) (pd_op op_mulX gMul_ok pd_int (pd_sub (hu_of hr) (pd_var 0) pd_int (fun _ _ => rfl) (fun _ _ => rfl)))) pd_int) pd_int) (pd_var 4)) pd_int) (pd_var 1))))))))
noncomputable def F__law_next : FF := fun ds A => finR A (b__law_next (startD 5 ds) A)
theorem o__law_next  {f : Addr} {fd : FuncData} (Fn : Fun K "_law_next" "_law_next" s__law_next f fd) : FnG P w K mg base 1 f fd ["_law_source_here", "_law_many"] (spD K ct 2 F__law_next) := okD Fn sc__law_next (d__law_next  f) fun ds A _ h => finR_ok h

abbrev s__law_pick : Stmt := topS 12
theorem sc__law_pick : FnScope ["_law_source_here", "_law_items"] ["_law_source_here", "_law_items"] (defScope s__law_pick) := ⟨rfl, rfl, rfl, by decide +kernel, rfl, by decide +kernel, by decide +kernel⟩
noncomputable def b__law_pick : SF := (sRet (eBin gSubD (eVar 1) (eArgs (fun ds A => F__law_next (ds ++ []) A) (aCons (eVar 0) (aCons (eArgs gLen (aCons (eVar 1) aNil)) aNil)))))
theorem d__law_pick (c__law_next : Cal P w K mg base ct 1 "_law_next" 2 [] F__law_next) (m_len : mg "len" = none) (f : Addr) :
    ∀ (cdv : Value) (A : Around) (outer : List PySem.Env) (s : Shared) (H : Hp) (E : XK), A.guards = some [] → Room 1 (A.deeper (envOfC "_law_pick" (defScope s__law_pick) s.heap.objs.size f cdv)) → PSsD (cxD P w K mg base ["_law_source_here", "_law_items"] "_law_pick" s__law_pick f cdv A outer s H E) ct (WD E) (defBody s__law_pick) b__law_pick := by
  intro cdv A outer s H E hg hr
  have tk : Takes (cxD P w K mg base ["_law_source_here", "_law_items"] "_law_pick" s__law_pick f cdv A outer s H E) (WD E) := takes_of rfl rfl rfl rfl
  have hp : PassesOwn (model (cxD P w K mg base ["_law_source_here", "_law_items"] "_law_pick" s__law_pick f cdv A outer s H E).prog (cxD P w K mg base ["_law_source_here", "_law_items"] "_law_pick" s__law_pick f cdv A outer s H E).w) (cxD P w K mg base ["_law_source_here", "_law_items"] "_law_pick" s__law_pick f cdv A outer s H E).A (cxD P w K mg base ["_law_source_here", "_law_items"] "_law_pick" s__law_pick f cdv A outer s H E).env (cxD P w K mg base ["_law_source_here", "_law_items"] "_law_pick" s__law_pick f cdv A outer s H E).xe := passes_of rfl
  exact (pssd_one (psd_ret (pd_sub (hu_of hr) (pd_var 1) (pd_call c__law_next hg hr (by decide) (by rfl) tk (pda_cons (pd_var 0) (pda_cons (pd_callB call_lenX gLen_ok (by rfl) m_len PySem.boot_len (pda_cons (pd_var 1) pda_nil)) pda_nil)) (ar_cons (ar_cons ar_nil)) rfl) (fun _ _ => rfl) (fun _ _ => rfl))))
noncomputable def F__law_pick : FF := fun ds A => finR A (b__law_pick (startD 2 ds) A)
theorem o__law_pick (c__law_next : Cal P w K mg base ct 1 "_law_next" 2 [] F__law_next) (m_len : mg "len" = none) {f : Addr} {fd : FuncData} (Fn : Fun K "_law_pick" "_law_pick" s__law_pick f fd) : FnG P w K mg base 2 f fd ["_law_source_here", "_law_items"] (spD K ct 2 F__law_pick) := okD Fn sc__law_pick (d__law_pick c__law_next m_len f) fun ds A _ h => finR_ok h

abbrev s__law_row_of_steps : Stmt := topS 13
theorem sc__law_row_of_steps : FnScope ["_law_source_here", "_law_first", "_law_many", "_law_found", "_law_turn", "_law_later"] ["_law_source_here", "_law_first", "_law_many"] (defScope s__law_row_of_steps) := ⟨rfl, rfl, rfl, by decide +kernel, rfl, by decide +kernel, by decide +kernel⟩
noncomputable def b__law_row_of_steps : SF := (sSeq (sAsg (eArgs gLstM aNil) (gNm 3))
  (sSeq (sFor (iRange1 (aCons (eVar 2) aNil)) (gNm 4)
  (sSeq (sAsg (eArgs (fun ds A => F__law_pick (ds ++ []) A) (aCons (eVar 0) (aCons (eArgs gLstD (aCons (eC (.str "a")) (aCons (eC (.str "b")) (aCons (eC (.str "c")) (aCons (eC (.str "d")) aNil))))) aNil))) (gNm 5))
  (sSeq (sEx (eMeth isL gAppend (eVar 3) (aCons (eArgs gTupD (aCons (eVar 1) (aCons (eVar 5) (aCons (eArgs (fun ds A => F__law_pick (ds ++ []) A) (aCons (eVar 0) (aCons (eArgs gLstD (aCons (eC (.str "x")) (aCons (eC (.str "y")) aNil))) aNil))) aNil)))) aNil)))
  (sAsg (eVar 5) (gNm 1)))))
  (sRet (eArgs gTuple (aCons (eVar 3) aNil)))))
theorem d__law_row_of_steps (c__law_pick : Cal P w K mg base ct 2 "_law_pick" 2 [] F__law_pick) (m_range : mg "range" = none) (m_tuple : mg "tuple" = none) (f : Addr) :
    ∀ (cdv : Value) (A : Around) (outer : List PySem.Env) (s : Shared) (H : Hp) (E : XK), A.guards = some [] → Room 2 (A.deeper (envOfC "_law_row_of_steps" (defScope s__law_row_of_steps) s.heap.objs.size f cdv)) → PSsD (cxD P w K mg base ["_law_source_here", "_law_first", "_law_many", "_law_found", "_law_turn", "_law_later"] "_law_row_of_steps" s__law_row_of_steps f cdv A outer s H E) ct (WD E) (defBody s__law_row_of_steps) b__law_row_of_steps := by
  intro cdv A outer s H E hg hr
  have tk : Takes (cxD P w K mg base ["_law_source_here", "_law_first", "_law_many", "_law_found", "_law_turn", "_law_later"] "_law_row_of_steps" s__law_row_of_steps f cdv A outer s H E) (WD E) := takes_of rfl rfl rfl rfl
  have hp : PassesOwn (model (cxD P w K mg base ["_law_source_here", "_law_first", "_law_many", "_law_found", "_law_turn", "_law_later"] "_law_row_of_steps" s__law_row_of_steps f cdv A outer s H E).prog (cxD P w K mg base ["_law_source_here", "_law_first", "_law_many", "_law_found", "_law_turn", "_law_later"] "_law_row_of_steps" s__law_row_of_steps f cdv A outer s H E).w) (cxD P w K mg base ["_law_source_here", "_law_first", "_law_many", "_law_found", "_law_turn", "_law_later"] "_law_row_of_steps" s__law_row_of_steps f cdv A outer s H E).A (cxD P w K mg base ["_law_source_here", "_law_first", "_law_many", "_law_found", "_law_turn", "_law_later"] "_law_row_of_steps" s__law_row_of_steps f cdv A outer s H E).env (cxD P w K mg base ["_law_source_here", "_law_first", "_law_many", "_law_found", "_law_turn", "_law_later"] "_law_row_of_steps" s__law_row_of_steps f cdv A outer s H E).xe := passes_of rfl
  exact (pssd_cons (psd_set (i := 3) sc__law_row_of_steps.nd rfl (Or.inl rfl) (pd_lstM pda_nil))
  (pssd_cons (psd_for hp rfl (pid_range1 (by rfl) m_range (pda_cons (pd_var 2) pda_nil)) (pgd_name (i := 4) sc__law_row_of_steps.nd rfl (Or.inl rfl))
  (pssd_cons (psd_set (i := 5) sc__law_row_of_steps.nd rfl (Or.inl rfl) (pd_call c__law_pick hg hr (by decide) (by rfl) tk (pda_cons (pd_var 0) (pda_cons (pd_lst (pda_cons pd_str (pda_cons pd_str (pda_cons pd_str (pda_cons pd_str pda_nil))))) pda_nil)) (ar_cons (ar_cons ar_nil)) rfl))
  (pssd_cons (psd_expr (pd_meth PySem.F.plainAttrs_list PySem.F.slot_list_append PySem.F.type_list_append mt_append gAppend_ok isL_ok (pd_var 3) (pda_cons (pd_tup (pda_cons (pd_var 1) (pda_cons (pd_var 5) (pda_cons (pd_call c__law_pick hg hr (by decide) (by rfl) tk (pda_cons (pd_var 0) (pda_cons (pd_lst (pda_cons pd_str (pda_cons pd_str pda_nil))) pda_nil)) (ar_cons (ar_cons ar_nil)) rfl) pda_nil)))) pda_nil)))
  (pssd_one (psd_set (i := 1) sc__law_row_of_steps.nd rfl (Or.inl rfl) (pd_var 5))))))
  (pssd_one (psd_ret (pd_callTy call_tupleF gTuple_ok (by rfl) m_tuple (by decide +kernel) (pda_cons (pd_var 3) pda_nil))))))
noncomputable def F__law_row_of_steps : FF := fun ds A => finR A (b__law_row_of_steps (startD 6 ds) A)
theorem o__law_row_of_steps (c__law_pick : Cal P w K mg base ct 2 "_law_pick" 2 [] F__law_pick) (m_range : mg "range" = none) (m_tuple : mg "tuple" = none) {f : Addr} {fd : FuncData} (Fn : Fun K "_law_row_of_steps" "_law_row_of_steps" s__law_row_of_steps f fd) : FnG P w K mg base 3 f fd ["_law_source_here", "_law_first", "_law_many"] (spD K ct 3 F__law_row_of_steps) := okD Fn sc__law_row_of_steps (d__law_row_of_steps c__law_pick m_range m_tuple f) fun ds A _ h => finR_ok h

abbrev s_Chain___init__ : Stmt := (clsBody (topS 6)).getD 1 (.Pass ⟨0, 0, 0, 0⟩)
theorem sc_Chain___init__ : FnScope ["self", "steps"] ["self", "steps"] (defScope s_Chain___init__) := ⟨rfl, rfl, rfl, by decide +kernel, rfl, by decide +kernel, by decide +kernel⟩
noncomputable def b_Chain___init__ : SF := (sFldI cs_steps "steps" (eVar 0) (eVar 1))
theorem d_Chain___init__ (v_steps : ∀ c ∈ cs_steps, Cls K (ct c) ∧ NoAttr K (ct c) "steps") (f : Addr) :
    ∀ (cdv : Value) (A : Around) (outer : List PySem.Env) (s : Shared) (H : Hp) (E : XK), A.guards = some [] → Room 0 (A.deeper (envOfC "Chain.__init__" (defScope s_Chain___init__) s.heap.objs.size f cdv)) → PSsD (cxD P w K mg base ["self", "steps"] "Chain.__init__" s_Chain___init__ f cdv A outer s H E) ct (WD E) (defBody s_Chain___init__) b_Chain___init__ := by
  intro cdv A outer s H E hg hr
  have tk : Takes (cxD P w K mg base ["self", "steps"] "Chain.__init__" s_Chain___init__ f cdv A outer s H E) (WD E) := takes_of rfl rfl rfl rfl
  have hp : PassesOwn (model (cxD P w K mg base ["self", "steps"] "Chain.__init__" s_Chain___init__ f cdv A outer s H E).prog (cxD P w K mg base ["self", "steps"] "Chain.__init__" s_Chain___init__ f cdv A outer s H E).w) (cxD P w K mg base ["self", "steps"] "Chain.__init__" s_Chain___init__ f cdv A outer s H E).A (cxD P w K mg base ["self", "steps"] "Chain.__init__" s_Chain___init__ f cdv A outer s H E).env (cxD P w K mg base ["self", "steps"] "Chain.__init__" s_Chain___init__ f cdv A outer s H E).xe := passes_of rfl
  exact (pssd_one (psd_fldI v_steps (pd_var 0) (pd_var 1)))
noncomputable def F_Chain___init__ : FF := fun ds A => finR A (b_Chain___init__ (startD 2 ds) A)
theorem o_Chain___init__ (v_steps : ∀ c ∈ cs_steps, Cls K (ct c) ∧ NoAttr K (ct c) "steps") {f : Addr} {fd : FuncData} (Fn : Fun K "__init__" "Chain.__init__" s_Chain___init__ f fd) : FnG P w K mg base 1 f fd ["self", "steps"] (spD K ct 2 F_Chain___init__) := okD Fn sc_Chain___init__ (d_Chain___init__ v_steps f) fun ds A _ h => finR_ok h

noncomputable def sup_Ring_init : String → Option FF := fun c => if c = "Ring" then some F_Chain___init__ else none
abbrev s_Ring___init__ : Stmt := (clsBody (topS 8)).getD 1 (.Pass ⟨0, 0, 0, 0⟩)
theorem sc_Ring___init__ : NdefX.NScope ["self", "steps", "__class__"] ["self", "steps"] ["__class__"] (defScope s_Ring___init__) := NdefX.nscope_by (by decide +kernel)
noncomputable def b_Ring___init__ : SF := (sSeq (sEx (eSup sup_Ring_init (aCons (eVar 1) aNil)))
  sNx)
theorem d_Ring___init__ (u___init__ : ∀ c F2, sup_Ring_init c = some F2 → SupT P w K mg base ct 1 (ct "Ring") "__init__" c 2 F2) (z_super : mg "super" = none) {f cc co : Addr} (S : SupI P K (ct "Ring") f (methF "__init__" "Ring.__init__" s_Ring___init__ cc co) "self") :
    ∀ (A : Around) (outer : List PySem.Env) (s : Shared) (H : Hp) (E : XK), A.guards = some [] → Room 1 (A.deeper (NdefX.envF (methF "__init__" "Ring.__init__" s_Ring___init__ cc co) f s.heap.objs.size)) → AtW (NdefX.ncx (L2.CX P w) P w K mg base ["self", "steps", "__class__"] (methF "__init__" "Ring.__init__" s_Ring___init__ cc co) f A outer s H E) (methF "__init__" "Ring.__init__" s_Ring___init__ cc co) (defBody s_Ring___init__) (tS K ct (WD E) b_Ring___init__) := by
  intro A outer s H E hg hr
  have tk : Takes (NdefX.ncx (L2.CX P w) P w K mg base ["self", "steps", "__class__"] (methF "__init__" "Ring.__init__" s_Ring___init__ cc co) f A outer s H E) (WD E) := takes_of rfl rfl rfl rfl
  have hp : PassesOwn (model (NdefX.ncx (L2.CX P w) P w K mg base ["self", "steps", "__class__"] (methF "__init__" "Ring.__init__" s_Ring___init__ cc co) f A outer s H E).prog (NdefX.ncx (L2.CX P w) P w K mg base ["self", "steps", "__class__"] (methF "__init__" "Ring.__init__" s_Ring___init__ cc co) f A outer s H E).w) (NdefX.ncx (L2.CX P w) P w K mg base ["self", "steps", "__class__"] (methF "__init__" "Ring.__init__" s_Ring___init__ cc co) f A outer s H E).A (NdefX.ncx (L2.CX P w) P w K mg base ["self", "steps", "__class__"] (methF "__init__" "Ring.__init__" s_Ring___init__ cc co) f A outer s H E).env (NdefX.ncx (L2.CX P w) P w K mg base ["self", "steps", "__class__"] (methF "__init__" "Ring.__init__" s_Ring___init__ cc co) f A outer s H E).xe := passes_of rfl
  exact (at_expr (fun s σ H Q I h => sup_eval S rfl z_super hg hr (by decide) tk u___init__ rfl (by decide) (pda_cons (pd_var 1) pda_nil) (ar_cons ar_nil) rfl rfl (by rfl) (by rfl) I h) rfl pssd_nil)
noncomputable def F_Ring___init__ : FF := fun ds A => finR A (b_Ring___init__ (startS 3 "Ring" ds) A)
theorem o_Ring___init__ (u___init__ : ∀ c F2, sup_Ring_init c = some F2 → SupT P w K mg base ct 1 (ct "Ring") "__init__" c 2 F2) (z_super : mg "super" = none) {f cc co : Addr} {oc : Value} {od : Option Addr} {doc pm ctv : Value} {osl : Array (Option Value)} (hfd : K.lookup f = some ⟨oc, od, .func ((methF "__init__" "Ring.__init__" s_Ring___init__ cc co).fd doc pm ctv), osl⟩) (hcd : PySem.W.codeIn K (.ref co) "Ring.__init__" = true) (S : SupI P K (ct "Ring") f (methF "__init__" "Ring.__init__" s_Ring___init__ cc co) "self") : FnG P w K mg base 2 f ((methF "__init__" "Ring.__init__" s_Ring___init__ cc co).fd doc pm ctv) ["self", "steps"] (spD K ct 2 F_Ring___init__) := okSup hfd S.cell sc_Ring___init__ hcd (d_Ring___init__ u___init__ z_super S) fun ds A _ h => finR_ok h

noncomputable def sup_Through_init : String → Option FF := fun c => if c = "Through" then some F_Chain___init__ else none
abbrev s_Through___init__ : Stmt := (clsBody (topS 7)).getD 1 (.Pass ⟨0, 0, 0, 0⟩)
theorem sc_Through___init__ : NdefX.NScope ["self", "steps", "name", "__class__"] ["self", "steps", "name"] ["__class__"] (defScope s_Through___init__) := NdefX.nscope_by (by decide +kernel)
noncomputable def b_Through___init__ : SF := (sSeq (sEx (eSup sup_Through_init (aCons (eVar 1) aNil)))
  (sFldI cs_name "name" (eVar 0) (eVar 2)))
theorem d_Through___init__ (v_name : ∀ c ∈ cs_name, Cls K (ct c) ∧ NoAttr K (ct c) "name") (u___init__ : ∀ c F2, sup_Through_init c = some F2 → SupT P w K mg base ct 1 (ct "Through") "__init__" c 2 F2) (z_super : mg "super" = none) {f cc co : Addr} (S : SupI P K (ct "Through") f (methF "__init__" "Through.__init__" s_Through___init__ cc co) "self") :
    ∀ (A : Around) (outer : List PySem.Env) (s : Shared) (H : Hp) (E : XK), A.guards = some [] → Room 1 (A.deeper (NdefX.envF (methF "__init__" "Through.__init__" s_Through___init__ cc co) f s.heap.objs.size)) → AtW (NdefX.ncx (L2.CX P w) P w K mg base ["self", "steps", "name", "__class__"] (methF "__init__" "Through.__init__" s_Through___init__ cc co) f A outer s H E) (methF "__init__" "Through.__init__" s_Through___init__ cc co) (defBody s_Through___init__) (tS K ct (WD E) b_Through___init__) := by
  intro A outer s H E hg hr
  have tk : Takes (NdefX.ncx (L2.CX P w) P w K mg base ["self", "steps", "name", "__class__"] (methF "__init__" "Through.__init__" s_Through___init__ cc co) f A outer s H E) (WD E) := takes_of rfl rfl rfl rfl
  have hp : PassesOwn (model (NdefX.ncx (L2.CX P w) P w K mg base ["self", "steps", "name", "__class__"] (methF "__init__" "Through.__init__" s_Through___init__ cc co) f A outer s H E).prog (NdefX.ncx (L2.CX P w) P w K mg base ["self", "steps", "name", "__class__"] (methF "__init__" "Through.__init__" s_Through___init__ cc co) f A outer s H E).w) (NdefX.ncx (L2.CX P w) P w K mg base ["self", "steps", "name", "__class__"] (methF "__init__" "Through.__init__" s_Through___init__ cc co) f A outer s H E).A (NdefX.ncx (L2.CX P w) P w K mg base ["self", "steps", "name", "__class__"] (methF "__init__" "Through.__init__" s_Through___init__ cc co) f A outer s H E).env (NdefX.ncx (L2.CX P w) P w K mg base ["self", "steps", "name", "__class__"] (methF "__init__" "Through.__init__" s_Through___init__ cc co) f A outer s H E).xe := passes_of rfl
  exact (at_expr (fun s σ H Q I h => sup_eval S rfl z_super hg hr (by decide) tk u___init__ rfl (by decide) (pda_cons (pd_var 1) pda_nil) (ar_cons ar_nil) rfl rfl (by rfl) (by rfl) I h) rfl (pssd_one (psd_fldI v_name (pd_var 0) (pd_var 2))))
noncomputable def F_Through___init__ : FF := fun ds A => finR A (b_Through___init__ (startS 4 "Through" ds) A)
theorem o_Through___init__ (v_name : ∀ c ∈ cs_name, Cls K (ct c) ∧ NoAttr K (ct c) "name") (u___init__ : ∀ c F2, sup_Through_init c = some F2 → SupT P w K mg base ct 1 (ct "Through") "__init__" c 2 F2) (z_super : mg "super" = none) {f cc co : Addr} {oc : Value} {od : Option Addr} {doc pm ctv : Value} {osl : Array (Option Value)} (hfd : K.lookup f = some ⟨oc, od, .func ((methF "__init__" "Through.__init__" s_Through___init__ cc co).fd doc pm ctv), osl⟩) (hcd : PySem.W.codeIn K (.ref co) "Through.__init__" = true) (S : SupI P K (ct "Through") f (methF "__init__" "Through.__init__" s_Through___init__ cc co) "self") : FnG P w K mg base 2 f ((methF "__init__" "Through.__init__" s_Through___init__ cc co).fd doc pm ctv) ["self", "steps", "name"] (spD K ct 3 F_Through___init__) := okSup hfd S.cell sc_Through___init__ hcd (d_Through___init__ v_name u___init__ z_super S) fun ds A _ h => finR_ok h

abbrev s__law_reason : Stmt := topS 14
theorem sc__law_reason : FnScope ["_law_source_here", "_law_steps", "_law_way"] ["_law_source_here", "_law_steps"] (defScope s__law_reason) := ⟨rfl, rfl, rfl, by decide +kernel, rfl, by decide +kernel, by decide +kernel⟩
noncomputable def b__law_reason : SF := (sSeq (sAsg (eArgs (fun ds A => F__law_next (ds ++ []) A) (aCons (eVar 0) (aCons (eC (.int 3)) aNil))) (gNm 2))
  (sRet (eIf (tCmpD gEq (eVar 2) (eC (.int 0))) (eArgs (gMkI "Chain" F_Chain___init__) (aCons (eVar 1) aNil)) (eIf (tCmpD gEq (eVar 2) (eC (.int 1))) (eArgs (gMkI "Ring" F_Ring___init__) (aCons (eVar 1) aNil)) (eArgs (gMkI "Through" F_Through___init__) (aCons (eVar 1) (aCons (eC (.str "b")) aNil)))))))
theorem d__law_reason (c__law_next : Cal P w K mg base ct 1 "_law_next" 2 [] F__law_next) (n_Chain : MkI P w K mg base ct 1 "Chain" "Chain" 2 F_Chain___init__) (n_Ring : MkI P w K mg base ct 2 "Ring" "Ring" 2 F_Ring___init__) (n_Through : MkI P w K mg base ct 2 "Through" "Through" 3 F_Through___init__) (f : Addr) :
    ∀ (cdv : Value) (A : Around) (outer : List PySem.Env) (s : Shared) (H : Hp) (E : XK), A.guards = some [] → Room 3 (A.deeper (envOfC "_law_reason" (defScope s__law_reason) s.heap.objs.size f cdv)) → PSsD (cxD P w K mg base ["_law_source_here", "_law_steps", "_law_way"] "_law_reason" s__law_reason f cdv A outer s H E) ct (WD E) (defBody s__law_reason) b__law_reason := by
  intro cdv A outer s H E hg hr
  have tk : Takes (cxD P w K mg base ["_law_source_here", "_law_steps", "_law_way"] "_law_reason" s__law_reason f cdv A outer s H E) (WD E) := takes_of rfl rfl rfl rfl
  have hp : PassesOwn (model (cxD P w K mg base ["_law_source_here", "_law_steps", "_law_way"] "_law_reason" s__law_reason f cdv A outer s H E).prog (cxD P w K mg base ["_law_source_here", "_law_steps", "_law_way"] "_law_reason" s__law_reason f cdv A outer s H E).w) (cxD P w K mg base ["_law_source_here", "_law_steps", "_law_way"] "_law_reason" s__law_reason f cdv A outer s H E).A (cxD P w K mg base ["_law_source_here", "_law_steps", "_law_way"] "_law_reason" s__law_reason f cdv A outer s H E).env (cxD P w K mg base ["_law_source_here", "_law_steps", "_law_way"] "_law_reason" s__law_reason f cdv A outer s H E).xe := passes_of rfl
  exact (pssd_cons (psd_set (i := 2) sc__law_reason.nd rfl (Or.inl rfl) (pd_call c__law_next hg hr (by decide) (by rfl) tk (pda_cons (pd_var 0) (pda_cons pd_int pda_nil)) (ar_cons (ar_cons ar_nil)) rfl))
  (pssd_one (psd_ret (pd_if (pdt_cmp (op_eqX hr.units) gEq_ok (pd_var 2) pd_int (nomark _)) (pd_newI n_Chain hg hr (by decide) (by rfl) tk (pda_cons (pd_var 1) pda_nil) (ar_cons ar_nil) rfl) (pd_if (pdt_cmp (op_eqX hr.units) gEq_ok (pd_var 2) pd_int (nomark _)) (pd_newI n_Ring hg hr (by decide) (by rfl) tk (pda_cons (pd_var 1) pda_nil) (ar_cons ar_nil) rfl) (pd_newI n_Through hg hr (by decide) (by rfl) tk (pda_cons (pd_var 1) (pda_cons pd_str pda_nil)) (ar_cons (ar_cons ar_nil)) rfl))))))
noncomputable def F__law_reason : FF := fun ds A => finR A (b__law_reason (startD 3 ds) A)
theorem o__law_reason (c__law_next : Cal P w K mg base ct 1 "_law_next" 2 [] F__law_next) (n_Chain : MkI P w K mg base ct 1 "Chain" "Chain" 2 F_Chain___init__) (n_Ring : MkI P w K mg base ct 2 "Ring" "Ring" 2 F_Ring___init__) (n_Through : MkI P w K mg base ct 2 "Through" "Through" 3 F_Through___init__) {f : Addr} {fd : FuncData} (Fn : Fun K "_law_reason" "_law_reason" s__law_reason f fd) : FnG P w K mg base 4 f fd ["_law_source_here", "_law_steps"] (spD K ct 2 F__law_reason) := okD Fn sc__law_reason (d__law_reason c__law_next n_Chain n_Ring n_Through f) fun ds A _ h => finR_ok h

abbrev s_Chain___add__ : Stmt := (clsBody (topS 6)).getD 4 (.Pass ⟨0, 0, 0, 0⟩)
theorem sc_Chain___add__ : FnScope ["self", "other"] ["self", "other"] (defScope s_Chain___add__) := ⟨rfl, rfl, rfl, by decide +kernel, rfl, by decide +kernel, by decide +kernel⟩
noncomputable def b_Chain___add__ : SF := (sSeq (sIf (tOrD (tNotD (tOfE (eArgs (gIsaI tbI) (aCons (eVar 1) (aCons (eC (.cls (.own "Chain"))) aNil))))) (tOrD (tCmpD gEq (eUn (gFldI cs_steps "steps") (eVar 0)) (eArgs gTupD aNil)) (tCmpD gEq (eUn (gFldI cs_steps "steps") (eVar 1)) (eArgs gTupD aNil))))
  (sRaise "BadSteps" ["reason"] (aCons (eC (.str "both must be reasons with steps")) aNil))
  sNx)
  (sSeq (sIf (tCmpD gNe (eBin gSubD (eBin gSubD (eUn (gFldI cs_steps "steps") (eVar 0)) (eUn gNeg (eC (.int 1)))) (eC (.int 1))) (eBin gSubD (eBin gSubD (eUn (gFldI cs_steps "steps") (eVar 1)) (eC (.int 0))) (eC (.int 0))))
  (sRaise "BadSteps" ["reason"] (aCons (eC (.str "the second chain does not begin where the first one ends")) aNil))
  sNx)
  (sRet (eArgs (gMkI "Chain" F_Chain___init__) (aCons (eBin gAdd (eUn (gFldI cs_steps "steps") (eVar 0)) (eUn (gFldI cs_steps "steps") (eVar 1))) aNil)))))
theorem d_Chain___add__ (m_isinstance : mg "isinstance" = none) (x_BadSteps : CalX P w K mg base ct "BadSteps" "BadSteps" ["reason"]) (k_Chain : mg "Chain" = some (.ref (ct "Chain"))) (i_I : IsI K ct tbI) (v_steps : ∀ c ∈ cs_steps, Cls K (ct c) ∧ NoAttr K (ct c) "steps") (n_Chain : MkI P w K mg base ct 1 "Chain" "Chain" 2 F_Chain___init__) (f : Addr) :
    ∀ (cdv : Value) (A : Around) (outer : List PySem.Env) (s : Shared) (H : Hp) (E : XK), A.guards = some [] → Room 2 (A.deeper (envOfC "Chain.__add__" (defScope s_Chain___add__) s.heap.objs.size f cdv)) → PSsD (cxD P w K mg base ["self", "other"] "Chain.__add__" s_Chain___add__ f cdv A outer s H E) ct (WD E) (defBody s_Chain___add__) b_Chain___add__ := by
  intro cdv A outer s H E hg hr
  have tk : Takes (cxD P w K mg base ["self", "other"] "Chain.__add__" s_Chain___add__ f cdv A outer s H E) (WD E) := takes_of rfl rfl rfl rfl
  have hp : PassesOwn (model (cxD P w K mg base ["self", "other"] "Chain.__add__" s_Chain___add__ f cdv A outer s H E).prog (cxD P w K mg base ["self", "other"] "Chain.__add__" s_Chain___add__ f cdv A outer s H E).w) (cxD P w K mg base ["self", "other"] "Chain.__add__" s_Chain___add__ f cdv A outer s H E).A (cxD P w K mg base ["self", "other"] "Chain.__add__" s_Chain___add__ f cdv A outer s H E).env (cxD P w K mg base ["self", "other"] "Chain.__add__" s_Chain___add__ f cdv A outer s H E).xe := passes_of rfl
  exact (pssd_cons (psd_if (pdw_t (pdw_or (pdt_not (pdt_truth (pd_callB call_isi (gIsaI_ok i_I) (by rfl) m_isinstance (by decide +kernel) (pda_cons (pd_var 1) (pda_cons (pd_c (pe_glob (v := .ref (ct "Chain")) (by rfl) k_Chain rfl) (fun _ _ => .own _)) pda_nil))))) (pdw_or (pdt_cmp (op_eqX hr.units) gEq_ok (pd_fldI v_steps (pd_var 0)) (pd_tup pda_nil) (nomark _)) (pdw_or1 (pdt_cmp (op_eqX hr.units) gEq_ok (pd_fldI v_steps (pd_var 1)) (pd_tup pda_nil) (nomark _))))))
  (pssd_one (psd_raise x_BadSteps (hr.mono (by decide)) rfl tk (by rfl) (pda_cons pd_str pda_nil)))
  pssd_nil)
  (pssd_cons (psd_if (pdt_cmp (op_neX hr.units) gNe_ok (pd_sub (hu_of hr) (pd_sub (hu_of hr) (pd_fldI v_steps (pd_var 0)) (pd_un un_neg gNeg_ok pd_int) (fun _ _ => rfl) (fun _ _ => rfl)) pd_int (fun _ _ => rfl) (fun _ _ => rfl)) (pd_sub (hu_of hr) (pd_sub (hu_of hr) (pd_fldI v_steps (pd_var 1)) pd_int (fun _ _ => rfl) (fun _ _ => rfl)) pd_int (fun _ _ => rfl) (fun _ _ => rfl)) (nomark _))
  (pssd_one (psd_raise x_BadSteps (hr.mono (by decide)) rfl tk (by rfl) (pda_cons pd_str pda_nil)))
  pssd_nil)
  (pssd_one (psd_ret (pd_newI n_Chain hg hr (by decide) (by rfl) tk (pda_cons (pd_op op_addX gAdd_ok (pd_fldI v_steps (pd_var 0)) (pd_fldI v_steps (pd_var 1))) pda_nil) (ar_cons ar_nil) rfl)))))
noncomputable def F_Chain___add__ : FF := fun ds A => finR A (b_Chain___add__ (startD 2 ds) A)
theorem o_Chain___add__ (m_isinstance : mg "isinstance" = none) (x_BadSteps : CalX P w K mg base ct "BadSteps" "BadSteps" ["reason"]) (k_Chain : mg "Chain" = some (.ref (ct "Chain"))) (i_I : IsI K ct tbI) (v_steps : ∀ c ∈ cs_steps, Cls K (ct c) ∧ NoAttr K (ct c) "steps") (n_Chain : MkI P w K mg base ct 1 "Chain" "Chain" 2 F_Chain___init__) {f : Addr} {fd : FuncData} (Fn : Fun K "__add__" "Chain.__add__" s_Chain___add__ f fd) : FnG P w K mg base 3 f fd ["self", "other"] (spD K ct 2 F_Chain___add__) := okD Fn sc_Chain___add__ (d_Chain___add__ m_isinstance x_BadSteps k_Chain i_I v_steps n_Chain f) fun ds A _ h => finR_ok h

abbrev s_Chain_fields : Stmt := (clsBody (topS 6)).getD 2 (.Pass ⟨0, 0, 0, 0⟩)
theorem sc_Chain_fields : FnScope ["self"] ["self"] (defScope s_Chain_fields) := ⟨rfl, rfl, rfl, by decide +kernel, rfl, by decide +kernel, by decide +kernel⟩
noncomputable def b_Chain_fields : SF := (sRet (eArgs gTupD (aCons (eUn (gFldI cs_steps "steps") (eVar 0)) aNil)))
theorem d_Chain_fields (v_steps : ∀ c ∈ cs_steps, Cls K (ct c) ∧ NoAttr K (ct c) "steps") (f : Addr) :
    ∀ (cdv : Value) (A : Around) (outer : List PySem.Env) (s : Shared) (H : Hp) (E : XK), A.guards = some [] → Room 0 (A.deeper (envOfC "Chain.fields" (defScope s_Chain_fields) s.heap.objs.size f cdv)) → PSsD (cxD P w K mg base ["self"] "Chain.fields" s_Chain_fields f cdv A outer s H E) ct (WD E) (defBody s_Chain_fields) b_Chain_fields := by
  intro cdv A outer s H E hg hr
  have tk : Takes (cxD P w K mg base ["self"] "Chain.fields" s_Chain_fields f cdv A outer s H E) (WD E) := takes_of rfl rfl rfl rfl
  have hp : PassesOwn (model (cxD P w K mg base ["self"] "Chain.fields" s_Chain_fields f cdv A outer s H E).prog (cxD P w K mg base ["self"] "Chain.fields" s_Chain_fields f cdv A outer s H E).w) (cxD P w K mg base ["self"] "Chain.fields" s_Chain_fields f cdv A outer s H E).A (cxD P w K mg base ["self"] "Chain.fields" s_Chain_fields f cdv A outer s H E).env (cxD P w K mg base ["self"] "Chain.fields" s_Chain_fields f cdv A outer s H E).xe := passes_of rfl
  exact (pssd_one (psd_ret (pd_tup (pda_cons (pd_fldI v_steps (pd_var 0)) pda_nil))))
noncomputable def F_Chain_fields : FF := fun ds A => finR A (b_Chain_fields (startD 1 ds) A)
theorem o_Chain_fields (v_steps : ∀ c ∈ cs_steps, Cls K (ct c) ∧ NoAttr K (ct c) "steps") {f : Addr} {fd : FuncData} (Fn : Fun K "fields" "Chain.fields" s_Chain_fields f fd) : FnG P w K mg base 1 f fd ["self"] (spD K ct 1 F_Chain_fields) := okD Fn sc_Chain_fields (d_Chain_fields v_steps f) fun ds A _ h => finR_ok h

noncomputable def sup_Through_fields : String → Option FF := fun c => if c = "Through" then some F_Chain_fields else none
abbrev s_Through_fields : Stmt := (clsBody (topS 7)).getD 2 (.Pass ⟨0, 0, 0, 0⟩)
theorem sc_Through_fields : NdefX.NScope ["self", "__class__"] ["self"] ["__class__"] (defScope s_Through_fields) := NdefX.nscope_by (by decide +kernel)
noncomputable def b_Through_fields : SF := (sRet (eBin gAdd (eSup sup_Through_fields aNil) (eArgs gTupD (aCons (eUn (gFldI cs_name "name") (eVar 0)) aNil))))
theorem d_Through_fields (v_name : ∀ c ∈ cs_name, Cls K (ct c) ∧ NoAttr K (ct c) "name") (u_fields : ∀ c F2, sup_Through_fields c = some F2 → SupT P w K mg base ct 1 (ct "Through") "fields" c 1 F2) (z_super : mg "super" = none) {f cc co : Addr} (S : SupI P K (ct "Through") f (methF "fields" "Through.fields" s_Through_fields cc co) "self") :
    ∀ (A : Around) (outer : List PySem.Env) (s : Shared) (H : Hp) (E : XK), A.guards = some [] → Room 1 (A.deeper (NdefX.envF (methF "fields" "Through.fields" s_Through_fields cc co) f s.heap.objs.size)) → AtW (NdefX.ncx (L2.CX P w) P w K mg base ["self", "__class__"] (methF "fields" "Through.fields" s_Through_fields cc co) f A outer s H E) (methF "fields" "Through.fields" s_Through_fields cc co) (defBody s_Through_fields) (tS K ct (WD E) b_Through_fields) := by
  intro A outer s H E hg hr
  have tk : Takes (NdefX.ncx (L2.CX P w) P w K mg base ["self", "__class__"] (methF "fields" "Through.fields" s_Through_fields cc co) f A outer s H E) (WD E) := takes_of rfl rfl rfl rfl
  have hp : PassesOwn (model (NdefX.ncx (L2.CX P w) P w K mg base ["self", "__class__"] (methF "fields" "Through.fields" s_Through_fields cc co) f A outer s H E).prog (NdefX.ncx (L2.CX P w) P w K mg base ["self", "__class__"] (methF "fields" "Through.fields" s_Through_fields cc co) f A outer s H E).w) (NdefX.ncx (L2.CX P w) P w K mg base ["self", "__class__"] (methF "fields" "Through.fields" s_Through_fields cc co) f A outer s H E).A (NdefX.ncx (L2.CX P w) P w K mg base ["self", "__class__"] (methF "fields" "Through.fields" s_Through_fields cc co) f A outer s H E).env (NdefX.ncx (L2.CX P w) P w K mg base ["self", "__class__"] (methF "fields" "Through.fields" s_Through_fields cc co) f A outer s H E).xe := passes_of rfl
  exact (at_retOp op_addX gAdd_ok (fun s σ H Q I h => sup_eval0 S rfl z_super hg hr (by decide) tk u_fields rfl (by decide) rfl I h) (pd_tup (pda_cons (pd_fldI v_name (pd_var 0)) pda_nil)))
noncomputable def F_Through_fields : FF := fun ds A => finR A (b_Through_fields (startS 2 "Through" ds) A)
theorem o_Through_fields (v_name : ∀ c ∈ cs_name, Cls K (ct c) ∧ NoAttr K (ct c) "name") (u_fields : ∀ c F2, sup_Through_fields c = some F2 → SupT P w K mg base ct 1 (ct "Through") "fields" c 1 F2) (z_super : mg "super" = none) {f cc co : Addr} {oc : Value} {od : Option Addr} {doc pm ctv : Value} {osl : Array (Option Value)} (hfd : K.lookup f = some ⟨oc, od, .func ((methF "fields" "Through.fields" s_Through_fields cc co).fd doc pm ctv), osl⟩) (hcd : PySem.W.codeIn K (.ref co) "Through.fields" = true) (S : SupI P K (ct "Through") f (methF "fields" "Through.fields" s_Through_fields cc co) "self") : FnG P w K mg base 2 f ((methF "fields" "Through.fields" s_Through_fields cc co).fd doc pm ctv) ["self"] (spD K ct 1 F_Through_fields) := okSup hfd S.cell sc_Through_fields hcd (d_Through_fields v_name u_fields z_super S) fun ds A _ h => finR_ok h

noncomputable def tab_fields : String → Option FF := fun c => if c = "Chain" then some F_Chain_fields else if c = "Through" then some F_Through_fields else if c = "Ring" then some F_Chain_fields else none
abbrev s_Reason___eq__ : Stmt := (clsBody (topS 5)).getD 2 (.Pass ⟨0, 0, 0, 0⟩)
theorem sc_Reason___eq__ : FnScope ["self", "other"] ["self", "other"] (defScope s_Reason___eq__) := ⟨rfl, rfl, rfl, by decide +kernel, rfl, by decide +kernel, by decide +kernel⟩
noncomputable def b_Reason___eq__ : SF := (sRet (eAndD (eArgs (gIsaI tbI) (aCons (eVar 1) (aCons (eC (.cls (.own "Reason"))) aNil))) (eAndD (eBin gEq (eUn (gConI con_KIND "KIND") (eVar 0)) (eUn (gConI con_KIND "KIND") (eVar 1))) (eBin gEq (eMethI tab_fields "fields" (eVar 0) aNil) (eMethI tab_fields "fields" (eVar 1) aNil)))))
theorem d_Reason___eq__ (m_isinstance : mg "isinstance" = none) (k_Reason : mg "Reason" = some (.ref (ct "Reason"))) (i_I : IsI K ct tbI) (w_KIND : ∀ c d, con_KIND c = some d → ConD K ct c "KIND" d) (t_fields : ∀ c F, tab_fields c = some F → MetC P w K mg base ct 2 c "fields" 1 F) (f : Addr) :
    ∀ (cdv : Value) (A : Around) (outer : List PySem.Env) (s : Shared) (H : Hp) (E : XK), A.guards = some [] → Room 2 (A.deeper (envOfC "Reason.__eq__" (defScope s_Reason___eq__) s.heap.objs.size f cdv)) → PSsD (cxD P w K mg base ["self", "other"] "Reason.__eq__" s_Reason___eq__ f cdv A outer s H E) ct (WD E) (defBody s_Reason___eq__) b_Reason___eq__ := by
  intro cdv A outer s H E hg hr
  have tk : Takes (cxD P w K mg base ["self", "other"] "Reason.__eq__" s_Reason___eq__ f cdv A outer s H E) (WD E) := takes_of rfl rfl rfl rfl
  have hp : PassesOwn (model (cxD P w K mg base ["self", "other"] "Reason.__eq__" s_Reason___eq__ f cdv A outer s H E).prog (cxD P w K mg base ["self", "other"] "Reason.__eq__" s_Reason___eq__ f cdv A outer s H E).w) (cxD P w K mg base ["self", "other"] "Reason.__eq__" s_Reason___eq__ f cdv A outer s H E).A (cxD P w K mg base ["self", "other"] "Reason.__eq__" s_Reason___eq__ f cdv A outer s H E).env (cxD P w K mg base ["self", "other"] "Reason.__eq__" s_Reason___eq__ f cdv A outer s H E).xe := passes_of rfl
  exact (pssd_one (psd_ret (pd_and (pd_callB call_isi (gIsaI_ok i_I) (by rfl) m_isinstance (by decide +kernel) (pda_cons (pd_var 1) (pda_cons (pd_c (pe_glob (v := .ref (ct "Reason")) (by rfl) k_Reason rfl) (fun _ _ => .own _)) pda_nil))) (pd_and (pd_cmp (op_eqX hr.units) gEq_ok (pd_conI w_KIND (pd_var 0)) (pd_conI w_KIND (pd_var 1)) (nomark _)) (pd_one (pd_cmp (op_eqX hr.units) gEq_ok (pd_methI0 t_fields hg hr (by decide) tk (pd_var 0)) (pd_methI0 t_fields hg hr (by decide) tk (pd_var 1)) (nomark _)))))))
noncomputable def F_Reason___eq__ : FF := fun ds A => finR A (b_Reason___eq__ (startD 2 ds) A)
theorem o_Reason___eq__ (m_isinstance : mg "isinstance" = none) (k_Reason : mg "Reason" = some (.ref (ct "Reason"))) (i_I : IsI K ct tbI) (w_KIND : ∀ c d, con_KIND c = some d → ConD K ct c "KIND" d) (t_fields : ∀ c F, tab_fields c = some F → MetC P w K mg base ct 2 c "fields" 1 F) {f : Addr} {fd : FuncData} (Fn : Fun K "__eq__" "Reason.__eq__" s_Reason___eq__ f fd) : FnG P w K mg base 3 f fd ["self", "other"] (spD K ct 2 F_Reason___eq__) := okD Fn sc_Reason___eq__ (d_Reason___eq__ m_isinstance k_Reason i_I w_KIND t_fields f) fun ds A _ h => finR_ok h

abbrev s_Chain___len__ : Stmt := (clsBody (topS 6)).getD 5 (.Pass ⟨0, 0, 0, 0⟩)
theorem sc_Chain___len__ : FnScope ["self"] ["self"] (defScope s_Chain___len__) := ⟨rfl, rfl, rfl, by decide +kernel, rfl, by decide +kernel, by decide +kernel⟩
noncomputable def b_Chain___len__ : SF := (sRet (eArgs gLen (aCons (eUn (gFldI cs_steps "steps") (eVar 0)) aNil)))
theorem d_Chain___len__ (m_len : mg "len" = none) (v_steps : ∀ c ∈ cs_steps, Cls K (ct c) ∧ NoAttr K (ct c) "steps") (f : Addr) :
    ∀ (cdv : Value) (A : Around) (outer : List PySem.Env) (s : Shared) (H : Hp) (E : XK), A.guards = some [] → Room 0 (A.deeper (envOfC "Chain.__len__" (defScope s_Chain___len__) s.heap.objs.size f cdv)) → PSsD (cxD P w K mg base ["self"] "Chain.__len__" s_Chain___len__ f cdv A outer s H E) ct (WD E) (defBody s_Chain___len__) b_Chain___len__ := by
  intro cdv A outer s H E hg hr
  have tk : Takes (cxD P w K mg base ["self"] "Chain.__len__" s_Chain___len__ f cdv A outer s H E) (WD E) := takes_of rfl rfl rfl rfl
  have hp : PassesOwn (model (cxD P w K mg base ["self"] "Chain.__len__" s_Chain___len__ f cdv A outer s H E).prog (cxD P w K mg base ["self"] "Chain.__len__" s_Chain___len__ f cdv A outer s H E).w) (cxD P w K mg base ["self"] "Chain.__len__" s_Chain___len__ f cdv A outer s H E).A (cxD P w K mg base ["self"] "Chain.__len__" s_Chain___len__ f cdv A outer s H E).env (cxD P w K mg base ["self"] "Chain.__len__" s_Chain___len__ f cdv A outer s H E).xe := passes_of rfl
  exact (pssd_one (psd_ret (pd_callB call_lenX gLen_ok (by rfl) m_len PySem.boot_len (pda_cons (pd_fldI v_steps (pd_var 0)) pda_nil))))
noncomputable def F_Chain___len__ : FF := fun ds A => finR A (b_Chain___len__ (startD 1 ds) A)
theorem o_Chain___len__ (m_len : mg "len" = none) (v_steps : ∀ c ∈ cs_steps, Cls K (ct c) ∧ NoAttr K (ct c) "steps") {f : Addr} {fd : FuncData} (Fn : Fun K "__len__" "Chain.__len__" s_Chain___len__ f fd) : FnG P w K mg base 1 f fd ["self"] (spD K ct 1 F_Chain___len__) := okD Fn sc_Chain___len__ (d_Chain___len__ m_len v_steps f) fun ds A _ h => finR_ok h

noncomputable def tab___add__ : String → Option FF := fun c => if c = "Chain" then some F_Chain___add__ else if c = "Through" then some F_Chain___add__ else if c = "Ring" then some F_Chain___add__ else none
noncomputable def tab___eq__ : String → Option FF := fun c => if c = "Chain" then some F_Reason___eq__ else if c = "Through" then some F_Reason___eq__ else if c = "Ring" then some F_Reason___eq__ else none
noncomputable def tab___len__ : String → Option FF := fun c => if c = "Chain" then some F_Chain___len__ else if c = "Through" then some F_Chain___len__ else if c = "Ring" then some F_Chain___len__ else none
abbrev s__law_sum : Stmt := topS 15
theorem sc__law_sum : FnScope ["_law_one", "_law_other", "_law_error", "_law_found", "e"] ["_law_one", "_law_other"] (defScope s__law_sum) := ⟨rfl, rfl, rfl, by decide +kernel, rfl, by decide +kernel, by decide +kernel⟩
noncomputable def b__law_sum : SF := (sSeq (sAsg (eArgs gTupD (aCons (eC .non) (aCons (eC .non) aNil))) (gTpl [(gNm 2), (gNm 3)]))
  (sSeq (sTry (sAsg (eBin (gOwn2 tab___add__) (eVar 0) (eVar 1)) (gNm 3)) mt_WorldError 4
  (sAsg (eVar 4) (gNm 2)))
  (sSeq (sIf (tCmpD gNotN (eVar 2) (eC .non))
  (sRet (eIf (tAndD (tOfE (eArgs (gIsaX xsT sbT) (aCons (eVar 2) (aCons (eC (.cls (.own "BadSteps"))) aNil)))) (tOfE (eArgs (gIsaX xsT sbT) (aCons (eVar 2) (aCons (eC (.cls (.bi "ValueError"))) aNil))))) (eC (.str "steps")) (eC (.str "other"))))
  sNx)
  (sRet (eIf (tCmpD (gEqO tab___eq__) (eVar 3) (eArgs (gMkI "Chain" F_Chain___init__) (aCons (eUn (gFldI cs_steps "steps") (eVar 3)) aNil))) (eArgs gTupD (aCons (eUn (gFldI cs_steps "steps") (eVar 3)) (aCons (eUn (gLenO tab___len__) (eVar 3)) aNil))) (eC (.str "class")))))))
theorem d__law_sum (m_isinstance : mg "isinstance" = none) (m_ValueError : mg "ValueError" = none) (m_len : mg "len" = none) (k_WorldError : mg "WorldError" = some (.ref (ct "WorldError"))) (k_BadSteps : mg "BadSteps" = some (.ref (ct "BadSteps"))) (t_WorldError : ∀ k b, mt_WorldError k = some b → PySem.W.exmOne K (ClV ct k) (.ref (ct "WorldError")) = some b) (i_T : IsT K ct xsT sbT) (v_steps : ∀ c ∈ cs_steps, Cls K (ct c) ∧ NoAttr K (ct c) "steps") (n_Chain : MkI P w K mg base ct 1 "Chain" "Chain" 2 F_Chain___init__) (a___add__ : AddT P w K mg base ct 3 tab___add__) (q___eq__ : EqT P w K mg base ct 3 tab___eq__) (l___len__ : ∀ c F, tab___len__ c = some F → OpM P w K mg base ct 1 "__len__" 1 c F) (f : Addr) :
    ∀ (cdv : Value) (A : Around) (outer : List PySem.Env) (s : Shared) (H : Hp) (E : XK), A.guards = some [] → Room 4 (A.deeper (envOfC "_law_sum" (defScope s__law_sum) s.heap.objs.size f cdv)) → PSsD (cxD P w K mg base ["_law_one", "_law_other", "_law_error", "_law_found", "e"] "_law_sum" s__law_sum f cdv A outer s H E) ct (WD E) (defBody s__law_sum) b__law_sum := by
  intro cdv A outer s H E hg hr
  have tk : Takes (cxD P w K mg base ["_law_one", "_law_other", "_law_error", "_law_found", "e"] "_law_sum" s__law_sum f cdv A outer s H E) (WD E) := takes_of rfl rfl rfl rfl
  have hp : PassesOwn (model (cxD P w K mg base ["_law_one", "_law_other", "_law_error", "_law_found", "e"] "_law_sum" s__law_sum f cdv A outer s H E).prog (cxD P w K mg base ["_law_one", "_law_other", "_law_error", "_law_found", "e"] "_law_sum" s__law_sum f cdv A outer s H E).w) (cxD P w K mg base ["_law_one", "_law_other", "_law_error", "_law_found", "e"] "_law_sum" s__law_sum f cdv A outer s H E).A (cxD P w K mg base ["_law_one", "_law_other", "_law_error", "_law_found", "e"] "_law_sum" s__law_sum f cdv A outer s H E).env (cxD P w K mg base ["_law_one", "_law_other", "_law_error", "_law_found", "e"] "_law_sum" s__law_sum f cdv A outer s H E).xe := passes_of rfl
  exact (pssd_cons (psd_asg (pd_tup (pda_cons pd_non (pda_cons pd_non pda_nil))) (pgd_tup rfl (pgsd_cons (pgd_name (i := 2) sc__law_sum.nd rfl (Or.inl rfl)) (pgsd_cons (pgd_name (i := 3) sc__law_sum.nd rfl (Or.inl rfl)) pgsd_nil))))
  (pssd_cons (psd_try (i := 4) rfl rfl rfl sc__law_sum.nd rfl rfl ⟨by rfl, by decide, Or.inl k_WorldError⟩ tk t_WorldError (fun W2 pn xe tk hp => (pssd_one (psd_set (i := 3) sc__law_sum.nd rfl (Or.inl rfl) (pd_addO a___add__ rfl hg hr (by decide) tk (pd_var 0) (pd_var 1))))) (fun a pn => (pssd_one (psd_set (i := 2) sc__law_sum.nd rfl (Or.inl rfl) (pd_var 4)))))
  (pssd_cons (psd_if (pdt_cmp op_notN gNotN_ok (pd_var 2) pd_non (nomark _))
  (pssd_one (psd_ret (pd_if (pdw_t (pdw_and (pdt_truth (pd_callB call_isX (gIsaX_ok i_T) (by rfl) m_isinstance (by decide +kernel) (pda_cons (pd_var 2) (pda_cons (pd_c (pe_glob (v := .ref (ct "BadSteps")) (by rfl) k_BadSteps rfl) (fun _ _ => .own _)) pda_nil)))) (pdw_and1 (pdt_truth (pd_callB call_isX (gIsaX_ok i_T) (by rfl) m_isinstance (by decide +kernel) (pda_cons (pd_var 2) (pda_cons (pd_c (pe_bltn (v := .ty "ValueError") (u := .type "ValueError") (by rfl) m_ValueError (by decide +kernel) rfl) (fun _ _ => .ty _)) pda_nil))))))) pd_str pd_str)))
  pssd_nil)
  (pssd_one (psd_ret (pd_if (pdt_eqO q___eq__ hg hr (by decide) tk (pd_var 3) (pd_newI n_Chain hg hr (by decide) (by rfl) tk (pda_cons (pd_fldI v_steps (pd_var 3)) pda_nil) (ar_cons ar_nil) rfl)) (pd_tup (pda_cons (pd_fldI v_steps (pd_var 3)) (pda_cons (pd_lenO l___len__ hg hr (by decide) tk (by rfl) m_len PySem.boot_len (pd_var 3)) pda_nil))) pd_str))))))
noncomputable def F__law_sum : FF := fun ds A => finR A (b__law_sum (startD 5 ds) A)
theorem o__law_sum (m_isinstance : mg "isinstance" = none) (m_ValueError : mg "ValueError" = none) (m_len : mg "len" = none) (k_WorldError : mg "WorldError" = some (.ref (ct "WorldError"))) (k_BadSteps : mg "BadSteps" = some (.ref (ct "BadSteps"))) (t_WorldError : ∀ k b, mt_WorldError k = some b → PySem.W.exmOne K (ClV ct k) (.ref (ct "WorldError")) = some b) (i_T : IsT K ct xsT sbT) (v_steps : ∀ c ∈ cs_steps, Cls K (ct c) ∧ NoAttr K (ct c) "steps") (n_Chain : MkI P w K mg base ct 1 "Chain" "Chain" 2 F_Chain___init__) (a___add__ : AddT P w K mg base ct 3 tab___add__) (q___eq__ : EqT P w K mg base ct 3 tab___eq__) (l___len__ : ∀ c F, tab___len__ c = some F → OpM P w K mg base ct 1 "__len__" 1 c F) {f : Addr} {fd : FuncData} (Fn : Fun K "_law_sum" "_law_sum" s__law_sum f fd) : FnG P w K mg base 5 f fd ["_law_one", "_law_other"] (spD K ct 2 F__law_sum) := okD Fn sc__law_sum (d__law_sum m_isinstance m_ValueError m_len k_WorldError k_BadSteps t_WorldError i_T v_steps n_Chain a___add__ q___eq__ l___len__ f) fun ds A _ h => finR_ok h

abbrev s_law : Stmt := topS 16
theorem sc_law : FnScope ["_law_script", "_law_source_here", "_law_one", "_law_start", "_law_other", "_law_left", "_law_right", "_law_is_good", "_law_due", "_law_third", "_law_k"] ["_law_script"] (defScope s_law) := ⟨rfl, rfl, rfl, by decide +kernel, rfl, by decide +kernel, by decide +kernel⟩
noncomputable def b_law : SF := (sSeq (sFor (iSeq (eComp (iRange1 (aCons (eArgs gMax2 (aCons (eC (.int 1)) (aCons (eArgs gMin2 (aCons (eC (.int 3)) (aCons (eArgs gLen (aCons (eVar 0) aNil)) aNil))) aNil))) aNil)) (.one 10) [10] ttYes (eArgs (fun ds A => F__law_source (ds ++ []) A) (aCons (eVar 0) (aCons (eVar 10) aNil))))) (gNm 1)
  (sSeq (sAsg (eArgs (fun ds A => F__law_row_of_steps (ds ++ []) A) (aCons (eVar 1) (aCons (eC (.str "a")) (aCons (eArgs (fun ds A => F__law_next (ds ++ []) A) (aCons (eVar 1) (aCons (eC (.int 4)) aNil))) aNil)))) (gNm 2))
  (sSeq (sAsg (eArgs (fun ds A => F__law_pick (ds ++ []) A) (aCons (eVar 1) (aCons (eArgs gLstD (aCons (eC (.str "a")) (aCons (eC (.str "b")) (aCons (eIf (tCmpD gNe (eVar 2) (eArgs gTupD aNil)) (eBin gSubD (eBin gSubD (eVar 2) (eUn gNeg (eC (.int 1)))) (eC (.int 1))) (eC (.str "c"))) aNil)))) aNil))) (gNm 3))
  (sSeq (sAsg (eArgs (fun ds A => F__law_row_of_steps (ds ++ []) A) (aCons (eVar 1) (aCons (eVar 3) (aCons (eArgs (fun ds A => F__law_next (ds ++ []) A) (aCons (eVar 1) (aCons (eC (.int 4)) aNil))) aNil)))) (gNm 4))
  (sSeq (sPar (aCons (eArgs (fun ds A => F__law_reason (ds ++ []) A) (aCons (eVar 1) (aCons (eVar 2) aNil))) (aCons (eArgs (fun ds A => F__law_reason (ds ++ []) A) (aCons (eVar 1) (aCons (eVar 4) aNil))) aNil)) [5, 6])
  (sSeq (sAsg (eAndD (eBin gNe (eVar 2) (eArgs gTupD aNil)) (eAndD (eBin gNe (eVar 4) (eArgs gTupD aNil)) (eBin gEq (eBin gSubD (eBin gSubD (eVar 2) (eUn gNeg (eC (.int 1)))) (eC (.int 1))) (eBin gSubD (eBin gSubD (eVar 4) (eC (.int 0))) (eC (.int 0)))))) (gNm 7))
  (sSeq (sAsg (eIf (tOfE (eVar 7)) (eArgs gTupD (aCons (eBin gAdd (eVar 2) (eVar 4)) (aCons (eBin gAdd (eArgs gLen (aCons (eVar 2) aNil)) (eArgs gLen (aCons (eVar 4) aNil))) aNil))) (eC (.str "steps"))) (gNm 8))
  (sSeq (sIf (tOrD (tCmpD gNe (eArgs (fun ds A => F__law_sum (ds ++ []) A) (aCons (eVar 5) (aCons (eVar 6) aNil))) (eVar 8)) (tCmpD gNe (eArgs gLstD (aCons (eUn (gLenO tab___len__) (eVar 5)) (aCons (eUn (gLenO tab___len__) (eVar 6)) aNil))) (eArgs gLstD (aCons (eArgs gLen (aCons (eVar 2) aNil)) (aCons (eArgs gLen (aCons (eVar 4) aNil)) aNil)))))
  (sRet (eC (.bl false)))
  sNx)
  (sSeq (sAsg (eArgs (gMkI "Chain" F_Chain___init__) (aCons (eIf (tCmpD gNe (eVar 4) (eArgs gTupD aNil)) (eArgs (fun ds A => F__law_row_of_steps (ds ++ []) A) (aCons (eVar 1) (aCons (eBin gSubD (eBin gSubD (eVar 4) (eUn gNeg (eC (.int 1)))) (eC (.int 1))) (aCons (eC (.int 2)) aNil)))) (eArgs gTupD aNil)) aNil)) (gNm 9))
  (sSeq (sIf (tAndD (tOfE (eVar 7)) (tCmpD (gNeO tab___eq__) (eBin (gOwn2 tab___add__) (eBin (gOwn2 tab___add__) (eVar 5) (eVar 6)) (eVar 9)) (eBin (gOwn2 tab___add__) (eVar 5) (eBin (gOwn2 tab___add__) (eVar 6) (eVar 9)))))
  (sRet (eC (.bl false)))
  sNx)
  (sIf (tOrD (tCmpD gNe (eUn (gFldI cs_steps "steps") (eVar 5)) (eVar 2)) (tCmpD gNe (eUn (gFldI cs_steps "steps") (eVar 6)) (eVar 4)))
  (sRet (eC (.bl false)))
  sNx)))))))))))
  (sRet (eC (.bl true))))
theorem d_law (c__law_row_of_steps : Cal P w K mg base ct 3 "_law_row_of_steps" 3 [] F__law_row_of_steps) (c__law_next : Cal P w K mg base ct 1 "_law_next" 2 [] F__law_next) (c__law_pick : Cal P w K mg base ct 2 "_law_pick" 2 [] F__law_pick) (c__law_reason : Cal P w K mg base ct 4 "_law_reason" 2 [] F__law_reason) (c__law_sum : Cal P w K mg base ct 5 "_law_sum" 2 [] F__law_sum) (c__law_source : Cal P w K mg base ct 1 "_law_source" 2 [] F__law_source) (m_len : mg "len" = none) (m_range : mg "range" = none) (m_max : mg "max" = none) (m_min : mg "min" = none) (v_steps : ∀ c ∈ cs_steps, Cls K (ct c) ∧ NoAttr K (ct c) "steps") (n_Chain : MkI P w K mg base ct 1 "Chain" "Chain" 2 F_Chain___init__) (l___len__ : ∀ c F, tab___len__ c = some F → OpM P w K mg base ct 1 "__len__" 1 c F) (q___eq__ : EqT P w K mg base ct 3 tab___eq__) (a___add__ : AddT P w K mg base ct 3 tab___add__) (f : Addr) :
    ∀ (cdv : Value) (A : Around) (outer : List PySem.Env) (s : Shared) (H : Hp) (E : XK), A.guards = some [] → Room 5 (A.deeper (envOfC "law" (defScope s_law) s.heap.objs.size f cdv)) → PSsD (cxD P w K mg base ["_law_script", "_law_source_here", "_law_one", "_law_start", "_law_other", "_law_left", "_law_right", "_law_is_good", "_law_due", "_law_third", "_law_k"] "law" s_law f cdv A outer s H E) ct (WD E) (defBody s_law) b_law := by
  intro cdv A outer s H E hg hr
  have tk : Takes (cxD P w K mg base ["_law_script", "_law_source_here", "_law_one", "_law_start", "_law_other", "_law_left", "_law_right", "_law_is_good", "_law_due", "_law_third", "_law_k"] "law" s_law f cdv A outer s H E) (WD E) := takes_of rfl rfl rfl rfl
  have hp : PassesOwn (model (cxD P w K mg base ["_law_script", "_law_source_here", "_law_one", "_law_start", "_law_other", "_law_left", "_law_right", "_law_is_good", "_law_due", "_law_third", "_law_k"] "law" s_law f cdv A outer s H E).prog (cxD P w K mg base ["_law_script", "_law_source_here", "_law_one", "_law_start", "_law_other", "_law_left", "_law_right", "_law_is_good", "_law_due", "_law_third", "_law_k"] "law" s_law f cdv A outer s H E).w) (cxD P w K mg base ["_law_script", "_law_source_here", "_law_one", "_law_start", "_law_other", "_law_left", "_law_right", "_law_is_good", "_law_due", "_law_third", "_law_k"] "law" s_law f cdv A outer s H E).A (cxD P w K mg base ["_law_script", "_law_source_here", "_law_one", "_law_start", "_law_other", "_law_left", "_law_right", "_law_is_good", "_law_due", "_law_third", "_law_k"] "law" s_law f cdv A outer s H E).env (cxD P w K mg base ["_law_script", "_law_source_here", "_law_one", "_law_start", "_law_other", "_law_left", "_law_right", "_law_is_good", "_law_due", "_law_third", "_law_k"] "law" s_law f cdv A outer s H E).xe := passes_of rfl
  exact (pssd_cons (psd_for hp rfl (pid_seq (pd_comp (own := [("_law_k", 10)]) rfl sc_law.nd (pid_range1 (by rfl) m_range (pda_cons (pd_callB (call_max2 rfl) gMax2_ok (by rfl) m_max (by decide +kernel) (pda_cons pd_int (pda_cons (pd_callB (call_min2 rfl) gMin2_ok (by rfl) m_min (by decide +kernel) (pda_cons pd_int (pda_cons (pd_callB call_lenX gLen_ok (by rfl) m_len PySem.boot_len (pda_cons (pd_var 0) pda_nil)) pda_nil))) pda_nil))) pda_nil)) (blkOk_by (N := ["_law_script", "_law_source_here", "_law_one", "_law_start", "_law_other", "_law_left", "_law_right", "_law_is_good", "_law_due", "_law_third", "_law_k"]) (sc := (defScope s_law)) (by decide +kernel)) (by decide) (fun _ _ _ _ _ => pg_name (i := 10) sc_law.nd rfl (Or.inl rfl)) (fun _ _ _ _ _ => ptsd_nil) (fun _ _ _ _ _ => (pd_call c__law_source hg hr (by decide) (by rfl) takes0 (pda_cons (pd_var 0) (pda_cons (pd_var 10) pda_nil)) (ar_cons (ar_cons ar_nil)) rfl)))) (pgd_name (i := 1) sc_law.nd rfl (Or.inl rfl))
  (pssd_cons (psd_set (i := 2) sc_law.nd rfl (Or.inl rfl) (pd_call c__law_row_of_steps hg hr (by decide) (by rfl) tk (pda_cons (pd_var 1) (pda_cons pd_str (pda_cons (pd_call c__law_next hg hr (by decide) (by rfl) tk (pda_cons (pd_var 1) (pda_cons pd_int pda_nil)) (ar_cons (ar_cons ar_nil)) rfl) pda_nil))) (ar_cons (ar_cons (ar_cons ar_nil))) rfl))
  (pssd_cons (psd_set (i := 3) sc_law.nd rfl (Or.inl rfl) (pd_call c__law_pick hg hr (by decide) (by rfl) tk (pda_cons (pd_var 1) (pda_cons (pd_lst (pda_cons pd_str (pda_cons pd_str (pda_cons (pd_if (pdt_cmp (op_neX hr.units) gNe_ok (pd_var 2) (pd_tup pda_nil) (nomark _)) (pd_sub (hu_of hr) (pd_sub (hu_of hr) (pd_var 2) (pd_un un_neg gNeg_ok pd_int) (fun _ _ => rfl) (fun _ _ => rfl)) pd_int (fun _ _ => rfl) (fun _ _ => rfl)) pd_str) pda_nil)))) pda_nil)) (ar_cons (ar_cons ar_nil)) rfl))
  (pssd_cons (psd_set (i := 4) sc_law.nd rfl (Or.inl rfl) (pd_call c__law_row_of_steps hg hr (by decide) (by rfl) tk (pda_cons (pd_var 1) (pda_cons (pd_var 3) (pda_cons (pd_call c__law_next hg hr (by decide) (by rfl) tk (pda_cons (pd_var 1) (pda_cons pd_int pda_nil)) (ar_cons (ar_cons ar_nil)) rfl) pda_nil))) (ar_cons (ar_cons (ar_cons ar_nil))) rfl))
  (pssd_cons (psd_par (i := 5) (j := 6) rfl sc_law.nd rfl rfl (by decide) rfl rfl (pda_cons (pd_call c__law_reason hg hr (by decide) (by rfl) tk (pda_cons (pd_var 1) (pda_cons (pd_var 2) pda_nil)) (ar_cons (ar_cons ar_nil)) rfl) (pda_cons (pd_call c__law_reason hg hr (by decide) (by rfl) tk (pda_cons (pd_var 1) (pda_cons (pd_var 4) pda_nil)) (ar_cons (ar_cons ar_nil)) rfl) pda_nil)) rfl)
  (pssd_cons (psd_set (i := 7) sc_law.nd rfl (Or.inl rfl) (pd_and (pd_cmp (op_neX hr.units) gNe_ok (pd_var 2) (pd_tup pda_nil) (nomark _)) (pd_and (pd_cmp (op_neX hr.units) gNe_ok (pd_var 4) (pd_tup pda_nil) (nomark _)) (pd_one (pd_cmp (op_eqX hr.units) gEq_ok (pd_sub (hu_of hr) (pd_sub (hu_of hr) (pd_var 2) (pd_un un_neg gNeg_ok pd_int) (fun _ _ => rfl) (fun _ _ => rfl)) pd_int (fun _ _ => rfl) (fun _ _ => rfl)) (pd_sub (hu_of hr) (pd_sub (hu_of hr) (pd_var 4) pd_int (fun _ _ => rfl) (fun _ _ => rfl)) pd_int (fun _ _ => rfl) (fun _ _ => rfl)) (nomark _))))))
  (pssd_cons (psd_set (i := 8) sc_law.nd rfl (Or.inl rfl) (pd_if (pdt_truth (pd_var 7)) (pd_tup (pda_cons (pd_op op_addX gAdd_ok (pd_var 2) (pd_var 4)) (pda_cons (pd_op op_addX gAdd_ok (pd_callB call_lenX gLen_ok (by rfl) m_len PySem.boot_len (pda_cons (pd_var 2) pda_nil)) (pd_callB call_lenX gLen_ok (by rfl) m_len PySem.boot_len (pda_cons (pd_var 4) pda_nil))) pda_nil))) pd_str))
  (pssd_cons (psd_if (pdw_t (pdw_or (pdt_cmp (op_neX hr.units) gNe_ok (pd_call c__law_sum hg hr (by decide) (by rfl) tk (pda_cons (pd_var 5) (pda_cons (pd_var 6) pda_nil)) (ar_cons (ar_cons ar_nil)) rfl) (pd_var 8) (nomark _)) (pdw_or1 (pdt_cmp (op_neX hr.units) gNe_ok (pd_lst (pda_cons (pd_lenO l___len__ hg hr (by decide) tk (by rfl) m_len PySem.boot_len (pd_var 5)) (pda_cons (pd_lenO l___len__ hg hr (by decide) tk (by rfl) m_len PySem.boot_len (pd_var 6)) pda_nil))) (pd_lst (pda_cons (pd_callB call_lenX gLen_ok (by rfl) m_len PySem.boot_len (pda_cons (pd_var 2) pda_nil)) (pda_cons (pd_callB call_lenX gLen_ok (by rfl) m_len PySem.boot_len (pda_cons (pd_var 4) pda_nil)) pda_nil))) (nomark _)))))
  (pssd_one (psd_ret pd_bl))
  pssd_nil)
  (pssd_cons (psd_set (i := 9) sc_law.nd rfl (Or.inl rfl) (pd_newI n_Chain hg hr (by decide) (by rfl) tk (pda_cons (pd_if (pdt_cmp (op_neX hr.units) gNe_ok (pd_var 4) (pd_tup pda_nil) (nomark _)) (pd_call c__law_row_of_steps hg hr (by decide) (by rfl) tk (pda_cons (pd_var 1) (pda_cons (pd_sub (hu_of hr) (pd_sub (hu_of hr) (pd_var 4) (pd_un un_neg gNeg_ok pd_int) (fun _ _ => rfl) (fun _ _ => rfl)) pd_int (fun _ _ => rfl) (fun _ _ => rfl)) (pda_cons pd_int pda_nil))) (ar_cons (ar_cons (ar_cons ar_nil))) rfl) (pd_tup pda_nil)) pda_nil) (ar_cons ar_nil) rfl))
  (pssd_cons (psd_if (pdw_t (pdw_and (pdt_truth (pd_var 7)) (pdw_and1 (pdt_neO q___eq__ hg hr (by decide) tk (pd_addO a___add__ rfl hg hr (by decide) tk (pd_addO a___add__ rfl hg hr (by decide) tk (pd_var 5) (pd_var 6)) (pd_var 9)) (pd_addO a___add__ rfl hg hr (by decide) tk (pd_var 5) (pd_addO a___add__ rfl hg hr (by decide) tk (pd_var 6) (pd_var 9)))))))
  (pssd_one (psd_ret pd_bl))
  pssd_nil)
  (pssd_one (psd_if (pdw_t (pdw_or (pdt_cmp (op_neX hr.units) gNe_ok (pd_fldI v_steps (pd_var 5)) (pd_var 2) (nomark _)) (pdw_or1 (pdt_cmp (op_neX hr.units) gNe_ok (pd_fldI v_steps (pd_var 6)) (pd_var 4) (nomark _)))))
  (pssd_one (psd_ret pd_bl))
  pssd_nil))))))))))))
  (pssd_one (psd_ret pd_bl)))
noncomputable def F_law : FF := fun ds A => finR A (b_law (startD 11 ds) A)
theorem o_law (c__law_row_of_steps : Cal P w K mg base ct 3 "_law_row_of_steps" 3 [] F__law_row_of_steps) (c__law_next : Cal P w K mg base ct 1 "_law_next" 2 [] F__law_next) (c__law_pick : Cal P w K mg base ct 2 "_law_pick" 2 [] F__law_pick) (c__law_reason : Cal P w K mg base ct 4 "_law_reason" 2 [] F__law_reason) (c__law_sum : Cal P w K mg base ct 5 "_law_sum" 2 [] F__law_sum) (c__law_source : Cal P w K mg base ct 1 "_law_source" 2 [] F__law_source) (m_len : mg "len" = none) (m_range : mg "range" = none) (m_max : mg "max" = none) (m_min : mg "min" = none) (v_steps : ∀ c ∈ cs_steps, Cls K (ct c) ∧ NoAttr K (ct c) "steps") (n_Chain : MkI P w K mg base ct 1 "Chain" "Chain" 2 F_Chain___init__) (l___len__ : ∀ c F, tab___len__ c = some F → OpM P w K mg base ct 1 "__len__" 1 c F) (q___eq__ : EqT P w K mg base ct 3 tab___eq__) (a___add__ : AddT P w K mg base ct 3 tab___add__) {f : Addr} {fd : FuncData} (Fn : Fun K "law" "law" s_law f fd) : FnG P w K mg base 6 f fd ["_law_script"] (spD K ct 1 F_law) := okD Fn sc_law (d_law c__law_row_of_steps c__law_next c__law_pick c__law_reason c__law_sum c__law_source m_len m_range m_max m_min v_steps n_Chain l___len__ q___eq__ a___add__ f) fun ds A _ h => finR_ok h

abbrev s_Reason_fields : Stmt := (clsBody (topS 5)).getD 1 (.Pass ⟨0, 0, 0, 0⟩)
theorem sc_Reason_fields : FnScope ["self"] ["self"] (defScope s_Reason_fields) := ⟨rfl, rfl, rfl, by decide +kernel, rfl, by decide +kernel, by decide +kernel⟩
noncomputable def b_Reason_fields : SF := (sRet (eArgs gTupD aNil))
theorem d_Reason_fields  (f : Addr) :
    ∀ (cdv : Value) (A : Around) (outer : List PySem.Env) (s : Shared) (H : Hp) (E : XK), A.guards = some [] → Room 0 (A.deeper (envOfC "Reason.fields" (defScope s_Reason_fields) s.heap.objs.size f cdv)) → PSsD (cxD P w K mg base ["self"] "Reason.fields" s_Reason_fields f cdv A outer s H E) ct (WD E) (defBody s_Reason_fields) b_Reason_fields := by
  intro cdv A outer s H E hg hr
  have tk : Takes (cxD P w K mg base ["self"] "Reason.fields" s_Reason_fields f cdv A outer s H E) (WD E) := takes_of rfl rfl rfl rfl
  have hp : PassesOwn (model (cxD P w K mg base ["self"] "Reason.fields" s_Reason_fields f cdv A outer s H E).prog (cxD P w K mg base ["self"] "Reason.fields" s_Reason_fields f cdv A outer s H E).w) (cxD P w K mg base ["self"] "Reason.fields" s_Reason_fields f cdv A outer s H E).A (cxD P w K mg base ["self"] "Reason.fields" s_Reason_fields f cdv A outer s H E).env (cxD P w K mg base ["self"] "Reason.fields" s_Reason_fields f cdv A outer s H E).xe := passes_of rfl
  exact (pssd_one (psd_ret (pd_tup pda_nil)))
noncomputable def F_Reason_fields : FF := fun ds A => finR A (b_Reason_fields (startD 1 ds) A)
theorem o_Reason_fields  {f : Addr} {fd : FuncData} (Fn : Fun K "fields" "Reason.fields" s_Reason_fields f fd) : FnG P w K mg base 1 f fd ["self"] (spD K ct 1 F_Reason_fields) := okD Fn sc_Reason_fields (d_Reason_fields  f) fun ds A _ h => finR_ok h

end
end K23

set_option Elab.async false
set_option linter.all false
set_option maxRecDepth 100000
namespace K23
open PySem PySem.Spec PyProof.Rows L2 DV
theorem prime_at {j : Int} (h0 : 0 ≤ j) (h1 : j < 11) : ∃ p : Int, L2.atI [D.int 2147483647, .int 2147483629, .int 2147483587, .int 2147483579, .int 2147483563, .int 2147483549, .int 2147483543, .int 2147483497, .int 2147483489, .int 2147483477, .int 2147483423] j = some (.int p) ∧ 2147483000 < p ∧ p < 2 ^ 32 := by
  obtain ⟨x, hx, hm⟩ := atI_of (xs := [D.int 2147483647, .int 2147483629, .int 2147483587, .int 2147483579, .int 2147483563, .int 2147483549, .int 2147483543, .int 2147483497, .int 2147483489, .int 2147483477, .int 2147483423]) h0 (by simpa using h1)
  rw [hx]
  simp only [List.mem_cons, List.not_mem_nil, or_false] at hm
  rcases hm with e | e | e | e | e | e | e | e | e | e | e <;> rw [e] <;> exact ⟨_, rfl, by omega, by omega⟩
theorem next_ok {A : Hd} {k : Nat} {T m : Int} (S : SRC A k T) (hT : T ≤ 2 ^ 40) (hm : 0 < m) (hm2 : m < 2 ^ 60) : ∃ r l, F__law_next [.ref k, .int m] A = .ok (.int r) (A.set k l) ∧ 0 ≤ r ∧ r < m ∧ SRC (A.set k l) k (T + 1) := by
  obtain ⟨c, t, h, hA, ht0, ht1, hh⟩ := S
  have hk : k < A.length := (List.getElem?_eq_some_iff.mp hA).1
  have s0 : ∀ a b : Int, L2.atI [D.int c, .int a, .int b] 0 = some (.int c) := fun _ _ => rfl
  have s1 : ∀ a b : Int, L2.atI [D.int c, .int a, .int b] 1 = some (.int a) := fun _ _ => rfl
  have s2 : ∀ a b : Int, L2.atI [D.int c, .int a, .int b] 2 = some (.int b) := fun _ _ => rfl
  have big : m.natAbs.log2 < 9000 := by
    have : m.natAbs.log2 < 60 := by
      by_cases h0 : m.natAbs = 0
      · omega
      · exact (Nat.log2_lt h0).mpr (by omega)
    omega
  have mp : ∀ x : Int, 0 ≤ x % m ∧ x % m < m := fun x => ⟨Int.emod_nonneg _ (by omega), Int.emod_lt_of_pos _ hm⟩
  by_cases hp : 0 < h
  · refine ⟨h % m, .lst [.int c, .int t, .int (h / m)], ?_, (mp h).1, (mp h).2, c, t, h / m, by rw [List.getElem?_set_self hk], ht0, by omega, Int.ediv_nonneg hh (by omega)⟩
    unfold F__law_next b__law_next
    have w1 : ∀ d ro, setD (.ref k) (.int 2) d ro A = .ok ro (A.set k (.lst [.int c, .int t, d])) := fun d ro => set_num hA (i := 2) (j := 2) rfl
    simp [startD, sSeq, sIf, sAsg, sRet, sNx, tCmpD, eBin, eVar, eC, gNm, gAt, R.out, sub_num hA (s2 t h), gLtL, gBool, hp, gMod, gDiv, hm, CDivW, big, w1, finR]
  · have h1 : (A.set k (.lst [.int c, .int (t + 1), .int h]))[k]? = some (.lst [.int c, .int (t + 1), .int h]) := by rw [List.getElem?_set_self hk]
    generalize hA1 : A.set k (.lst [.int c, .int (t + 1), .int h]) = A1 at h1
    have w1 : ∀ ro, setD (.ref k) (.int 1) (.int (t + 1)) ro A = .ok ro A1 := fun ro => by rw [← hA1]; exact set_num hA (i := 1) (j := 1) rfl
    obtain ⟨p, hp1, hp2, hp3⟩ := prime_at (j := (t + 1) % 11) (Int.emod_nonneg _ (by omega)) (Int.emod_lt_of_pos _ (by omega))
    have p0 : 0 < p := by omega
    have cp := Int.emod_nonneg c (show p ≠ 0 by omega)
    have cq := Int.emod_lt_of_pos c p0
    have hpow : CPow (c % p + 7919 * (t + 1) + 1) 5 := ⟨by omega, by omega, by omega⟩
    have hmul : CMul 7919 (t + 1) := .inl ⟨by omega, by omega⟩
    have l13 : CDivW ((c % p + 7919 * (t + 1) + 1) ^ 5 % p) 13 := ⟨by omega, by decide⟩
    have sz : 11 ≤ sizeLine := by rw [sizeLine_eq]; omega
    have sz8 : 8 ≤ sizeLine := by omega
    have sz3 : 3 ≤ sizeLine := by omega
    refine ⟨_, .lst [.int c, .int (t + 1), .int h], ?_, (mp ((c % p + 7919 * (t + 1) + 1) ^ 5 % p / 13)).1, (mp _).2, c, t + 1, h, by rw [List.getElem?_set_self hk], by omega, by omega, hh⟩
    rw [hA1]
    have cs : ∀ i : Int, cutR A (.int i) A1 = .ok (.int i) A1 := fun i => cut_same (by rw [← hA1]; simp)
    unfold F__law_next b__law_next
    simp [startD, sSeq, sIf, sAsg, sRet, sNx, tCmpD, eBin, eVar, eC, gNm, gAt, R.out, sub_num hA (s2 t h), sub_num hA (s1 t h), gLtL, gBool, hp, gMod, gDiv, gAdd, gMul, gPow, hm, w1, finR, sub_num h1 (s1 _ _), sub_num h1 (s0 _ _), eArgs, aCons, aNil, gLstD, asL, sz, sz8, sz3, sub_lst hp1, p0, hpow, hmul, l13, cs]
end K23

set_option Elab.async false
set_option linter.all false
set_option maxRecDepth 100000
namespace K23
open PySem PySem.Spec PyProof.Rows L2 DV
/-! ### data that == can read -/
def LayK (k : Nat) (d : D) : Prop := ∃ p, toP d = some p ∧ p.canLay0 = true ∧ p.depth ≤ k
theorem LayK.le {j k : Nat} {d : D} (h : LayK j d) (e : j ≤ k) : LayK k d := let ⟨p, a, b, c⟩ := h; ⟨p, a, b, Nat.le_trans c e⟩
theorem lay_int {k : Nat} (i : Int) : LayK k (.int i) := ⟨.int i, rfl, rfl, Nat.zero_le _⟩
theorem lay_str {k : Nat} {x : Str} (h : PyData.canLay0 (.str x) = true) : LayK k (.str x) := ⟨.str x, rfl, h, Nat.zero_le _⟩
theorem lay_all {k : Nat} : ∀ {ds : List D}, (∀ d ∈ ds, LayK k d) → ∃ ps, toPs ds = some ps ∧ PyData.canLayAll0 ps = true ∧ PyData.depthAll ps ≤ k
  | [], _ => ⟨[], rfl, rfl, Nat.zero_le _⟩
  | d :: ds, h => by
    obtain ⟨ps, h1, h2, h3⟩ := lay_all (ds := ds) fun d hd => h d (List.mem_cons_of_mem _ hd)
    obtain ⟨p, g1, g2, g3⟩ := h d List.mem_cons_self
    refine ⟨p :: ps, by unfold toPs; rw [g1, h1], by unfold PyData.canLayAll0; rw [g2, h2]; rfl, ?_⟩
    unfold PyData.depthAll
    exact Nat.max_le.mpr ⟨g3, h3⟩
theorem lay_tup {k : Nat} {ds : List D} (h : ∀ d ∈ ds, LayK k d) : LayK (k + 1) (.tup ds) := by
  obtain ⟨ps, h1, h2, h3⟩ := lay_all h
  refine ⟨.tuple ps, by unfold toP; rw [h1], by unfold PyData.canLay0; exact h2, ?_⟩
  unfold PyData.depth
  omega
theorem lay_lst {k : Nat} {ds : List D} (h : ∀ d ∈ ds, LayK k d) : LayK (k + 1) (.lst ds) := by
  obtain ⟨ps, h1, h2, h3⟩ := lay_all h
  refine ⟨.list ps, by unfold toP; rw [h1], by unfold PyData.canLay0; exact h2, ?_⟩
  unfold PyData.depth
  omega
theorem eqP_refl {d : D} {A : Hd} (h : LayK 50 d) : eqP A d d = some true := by
  obtain ⟨p, h1, h2, h3⟩ := h
  have hd : deR A d = d := deR_ne fun n e => by
    subst e
    cases h1
  unfold eqP
  rw [hd, h1]
  have s : SeqAt.shaped p = true := by
    unfold SeqAt.shaped
    rw [h2, decide_eq_true (by omega)]
    rfl
  show (if SeqAt.shaped p = true ∧ SeqAt.shaped p = true then some (PyData.eqv p p) else none) = _
  rw [if_pos ⟨s, s⟩, PySem.SeqAt.eqv_refl p h2]
theorem gEq_refl {d : D} {A : Hd} (h : LayK 50 d) : gEq d d A = .ok (.bl true) A := by
  have e := eqP_refl (A := A) h
  cases d with
  | str x => show R.ok (D.bl (decide (x = x))) A = _; simp
  | _ => unfold gEq; simp only [e]
theorem gNe_refl {d : D} {A : Hd} (h : LayK 50 d) : gNe d d A = .ok (.bl false) A := by
  have e := eqP_refl (A := A) h
  cases d with
  | str x => show R.ok (D.bl (!decide (x = x))) A = _; simp
  | _ => unfold gNe; simp only [e]; rfl
theorem gEq_strs (x y : Str) (A : Hd) : gEq (.str x) (.str y) A = .ok (.bl (decide (x = y))) A := rfl
theorem gNe_strs (x y : Str) (A : Hd) : gNe (.str x) (.str y) A = .ok (.bl (!decide (x = y))) A := rfl
theorem eqP_tnil {ds : List D} {A : Hd} (h : ∀ d ∈ ds, LayK 40 d) : eqP A (.tup ds) (.tup []) = some ds.isEmpty := by
  obtain ⟨ps, h1, h2, h3⟩ := lay_all h
  have e1 : toP (deR A (.tup ds)) = some (.tuple ps) := by
    show toP (.tup ds) = _
    unfold toP
    rw [h1]
  have s1 : SeqAt.shaped (.tuple ps) = true := by
    unfold SeqAt.shaped
    rw [Bool.and_eq_true]
    refine ⟨by unfold PyData.canLay0; exact h2, decide_eq_true ?_⟩
    unfold PyData.depth
    omega
  have s2 : SeqAt.shaped (.tuple []) = true := by decide +kernel
  unfold eqP
  rw [e1, show toP (deR A (.tup [])) = some (.tuple []) from rfl]
  show (if SeqAt.shaped (.tuple ps) = true ∧ SeqAt.shaped (.tuple []) = true then some (PyData.eqv (.tuple ps) (.tuple [])) else none) = _
  rw [if_pos ⟨s1, s2⟩]
  cases ds with
  | nil => cases h1; rfl
  | cons d ds =>
    unfold toPs at h1
    split at h1
    · cases h1; rfl
    · cases h1
theorem gEq_tnil {ds : List D} {A : Hd} (h : ∀ d ∈ ds, LayK 40 d) : gEq (.tup ds) (.tup []) A = .ok (.bl ds.isEmpty) A := by
  unfold gEq
  simp only [eqP_tnil h]
theorem gNe_tnil {ds : List D} {A : Hd} (h : ∀ d ∈ ds, LayK 40 d) : gNe (.tup ds) (.tup []) A = .ok (.bl (!ds.isEmpty)) A := by
  unfold gNe
  simp only [eqP_tnil h]
/-! ### steps -/
abbrev Trip := Str × Str × Str
def tripD (t : Trip) : D := .tup [.str t.1, .str t.2.1, .str t.2.2]
def stepsD (st : List Trip) : D := .tup (st.map tripD)
def laidS (x : Str) : Bool := PyData.canLay0 (.str x)
def OkT (t : Trip) : Prop := laidS t.1 = true ∧ laidS t.2.1 = true ∧ laidS t.2.2 = true
def OkSt (st : List Trip) : Prop := ∀ t ∈ st, OkT t
theorem lay_trip {t : Trip} (h : OkT t) : LayK 1 (tripD t) := lay_tup fun d hd => by
  simp only [List.mem_cons, List.not_mem_nil, or_false] at hd
  rcases hd with rfl | rfl | rfl
  · exact lay_str h.1
  · exact lay_str h.2.1
  · exact lay_str h.2.2
theorem lay_trips {st : List Trip} (h : OkSt st) : ∀ d ∈ st.map tripD, LayK 1 d := fun d hd => by
  obtain ⟨t, ht, rfl⟩ := List.mem_map.mp hd
  exact lay_trip (h t ht)
theorem lay_steps {st : List Trip} (h : OkSt st) : LayK 2 (stepsD st) := lay_tup (lay_trips h)
theorem lts_trips (n : Nat) : ∀ st : List Trip, D.lts n (st.map tripD) = true
  | [] => by simp [D.lts]
  | t :: st => by
    rw [List.map_cons]
    unfold D.lts
    rw [lts_trips n st]
    simp [tripD, D.lt, D.lts]
theorem lt_steps (n : Nat) (st : List Trip) : (stepsD st).lt n = true := by
  unfold stepsD D.lt
  exact lts_trips n st
end K23

set_option Elab.async false
set_option linter.all false
set_option maxRecDepth 100000
namespace K23
open PySem PySem.Spec PyProof.Rows L2 DV
/-! ### draws -/
/-- all but the object at k is kept -/
structure Upd (k : Nat) (A B : Hd) : Prop where
  len : B.length = A.length
  at_ : ∀ j, j ≠ k → B[j]? = A[j]?
theorem Upd.refl (k : Nat) (A : Hd) : Upd k A A := ⟨rfl, fun _ _ => rfl⟩
theorem Upd.trans {k : Nat} {A B C : Hd} (h : Upd k A B) (h2 : Upd k B C) : Upd k A C := ⟨h2.len.trans h.len, fun j hj => (h2.at_ j hj).trans (h.at_ j hj)⟩
/-- the source at k has done at most T; nothing in the heap holds a number -/
structure SS (k : Nat) (T : Int) (A : Hd) : Prop where
  src : SRC A k T
  low : ∀ m ∈ A, ∀ z, M.lt z m = true
theorem SS.le {k : Nat} {A : Hd} {T T' : Int} (h : SS k T A) (e : T ≤ T') : SS k T' A := ⟨h.src.le e, h.low⟩
theorem SS.lt {k : Nat} {A : Hd} {T : Int} (h : SS k T A) : k < A.length := by
  obtain ⟨c, t, q, e, _⟩ := h.src
  exact (List.getElem?_eq_some_iff.mp e).1
theorem SS.app {k : Nat} {A X : Hd} {T : Int} (h : SS k T A) (hx : ∀ m ∈ X, ∀ z, M.lt z m = true) : SS k T (A ++ X) := by
  obtain ⟨c, t, q, e, h1, h2, h3⟩ := h.src
  exact ⟨⟨c, t, q, by rw [List.getElem?_append_left h.lt]; exact e, h1, h2, h3⟩, fun m hm z => (List.mem_append.mp hm).elim (fun w => h.low m w z) fun w => hx m w z⟩
theorem nextU {k : Nat} {A X : Hd} {T m : Int} (S : SS k T A) (hT : T ≤ 2 ^ 40) (hm : 0 < m) (hm2 : m < 2 ^ 60) : ∃ r B, F__law_next [.ref k, .int m] (A ++ X) = .ok (.int r) (B ++ X) ∧ 0 ≤ r ∧ r < m ∧ SS k (T + 1) B ∧ Upd k A B := by
  have hk := S.lt
  obtain ⟨c, t, q, e0, h1, h2, h3⟩ := S.src
  obtain ⟨r, l, e, r0, r1, c', t', q', g0, g1, g2, g3⟩ := next_ok (A := A ++ X) ⟨c, t, q, by rw [List.getElem?_append_left hk]; exact e0, h1, h2, h3⟩ hT hm hm2
  have es : (A ++ X).set k l = A.set k l ++ X := List.set_append_left _ _ hk
  rw [es] at e g0
  have g0' : (A.set k l)[k]? = some (.lst [.int c', .int t', .int q']) := by rw [List.getElem?_append_left (by rw [List.length_set]; exact hk)] at g0; exact g0
  refine ⟨r, A.set k l, e, r0, r1, ⟨⟨c', t', q', g0', g1, g2, g3⟩, fun m hm z => ?_⟩, by rw [List.length_set], fun j hj => by rw [List.getElem?_set_ne (Ne.symm hj)]⟩
  rcases List.mem_or_eq_of_mem_set hm with w | rfl
  · exact S.low m w z
  · rw [List.getElem?_set_self hk] at g0'
    cases g0'
    simp [M.lt, D.lts, D.lt]
theorem pickU {k : Nat} {A X : Hd} {T : Int} {ds : List D} (S : SS k T A) (hT : T ≤ 2 ^ 40) (h0 : ds ≠ []) (hl : ds.length ≤ 1000) : ∃ x B, F__law_pick [.ref k, .lst ds] (A ++ X) = .ok x (B ++ X) ∧ x ∈ ds ∧ SS k (T + 1) B ∧ Upd k A B := by
  have h1 : 0 < ds.length := List.length_pos_iff.mpr h0
  obtain ⟨r, B, e, r0, r1, S', U⟩ := nextU (X := X) (m := ds.length) S hT (by omega) (by omega)
  obtain ⟨x, hx, hm⟩ := atI_of (xs := ds) r0 r1
  refine ⟨x, B, ?_, hm, S', U⟩
  show finR (A ++ X) (b__law_pick [some (.ref k), some (.lst ds)] (A ++ X)) = _
  unfold b__law_pick
  exact fin_ok (ro := [some (.ref k), some (.lst ds)]) (sret_ok (bin_ok (e := .int r) (A1 := A ++ X) rfl (args2_ok (A1 := A ++ X) (A2 := A ++ X) rfl (args1_ok rfl rfl) e) (sub_lst hx))) (by rw [List.length_append, List.length_append, U.len])
theorem lstL {ro : DV.Env} {A A1 : Hd} {fl : AF} {ds : List D} (h : fl ro A = .ok ds A1) (hl : ds.length ≤ 900) : eArgs gLstD fl ro A = .ok (.lst ds) A1 := args_ok h (by have := sizeLine_eq; unfold gLstD; exact if_pos (by omega))
theorem tupL {ro : DV.Env} {A A1 : Hd} {fl : AF} {ds : List D} (h : fl ro A = .ok ds A1) (hl : ds.length ≤ 900) : eArgs gTupD fl ro A = .ok (.tup ds) A1 := args_ok h (by have := sizeLine_eq; unfold gTupD; exact if_pos (by omega))
theorem step_okL {i : Nat} {d : D} {ro0 ro : DV.Env} {A : Hd} {b : SF} {o : Out} (h : b ro A = o) (e : ro0.set i (some d) = ro := by rfl) : (gNm i d ro0 A).out.next b = o := by subst e; exact h
theorem cut_tail {n : Nat} {A1 X : Hd} (hl : A1.length = n) (hf : ∀ m ∈ A1, M.lt n m = true) : (A1 ++ X).take n = A1 ∧ M.ltAll n ((A1 ++ X).take n) = true := by
  have e : (A1 ++ X).take n = A1 := by rw [← hl]; simp
  rw [e]
  exact ⟨rfl, List.all_eq_true.mpr hf⟩
theorem cut_val {A A1 X : Hd} {d : D} (hl : A1.length = A.length) (hf : ∀ m ∈ A1, M.lt A.length m = true) (hd : d.lt A.length = true) : cutR A d (A1 ++ X) = .ok d A1 := by
  obtain ⟨e1, e2⟩ := cut_tail (X := X) hl hf
  unfold cutR frz
  rw [if_pos hd]
  show (if M.ltAll A.length ((A1 ++ X).take A.length) = true then R.ok d ((A1 ++ X).take A.length) else .ok d (A1 ++ X)) = _
  rw [if_pos e2, e1]
theorem cut_new {A B : Hd} {n : Nat} {c : String} {fs : List (Str × D)} (hn : A.length ≤ n) (h : B[n]? = some (.ins c fs)) : cutR A (.ref n) B = .ok (.ref n) B := by
  unfold cutR frz
  have e : (D.ref n).lt A.length = false := by
    unfold D.lt
    exact decide_eq_false (by omega)
  rw [e, if_neg (by simp)]
  dsimp only
  rw [h]
/-! ### a row of steps -/
noncomputable def rowB : SF := (sSeq (sAsg (eArgs (fun ds A => F__law_pick (ds ++ []) A) (aCons (eVar 0) (aCons (eArgs gLstD (aCons (eC (.str "a")) (aCons (eC (.str "b")) (aCons (eC (.str "c")) (aCons (eC (.str "d")) aNil))))) aNil))) (gNm 5))
  (sSeq (sEx (eMeth isL gAppend (eVar 3) (aCons (eArgs gTupD (aCons (eVar 1) (aCons (eVar 5) (aCons (eArgs (fun ds A => F__law_pick (ds ++ []) A) (aCons (eVar 0) (aCons (eArgs gLstD (aCons (eC (.str "x")) (aCons (eC (.str "y")) aNil))) aNil))) aNil)))) aNil)))
  (sAsg (eVar 5) (gNm 1))))
theorem laid4 : ∀ x ∈ (["a", "b", "c", "d"] : List Str), laidS x = true := by decide +kernel
theorem laid2 : ∀ x ∈ (["x", "y"] : List Str), laidS x = true := by decide +kernel
abbrev renv (k : Nat) (a : Str) (m n : Nat) (t4 t5 : Option D) : DV.Env := [some (.ref k), some (.str a), some (.int (m : Nat)), some (.ref n), t4, t5]
theorem row_turn {k m : Nat} {A : Hd} {T : Int} {st : List Trip} {a : Str} {t4 t5 : Option D} (S : SS k T A) (hT : T ≤ 2 ^ 39) (ha : laidS a = true) (hst : st.length ≤ 100) :
    ∃ b z B, rowB (renv k a m A.length t4 t5) (A ++ [.lst (st.map tripD)]) = .go .nx (renv k b m A.length t4 (some (.str b))) (B ++ [.lst ((st ++ [(a, b, z)]).map tripD)]) ∧ laidS b = true ∧ laidS z = true ∧ SS k (T + 2) B ∧ Upd k A B := by
  have zz := sizeLine_eq
  let X : Hd := [.lst (st.map tripD)]
  let ro : DV.Env := renv k a m A.length t4 t5
  obtain ⟨b', B1, e1, m1, S1, U1⟩ := pickU (X := X) (ds := [.str "a", .str "b", .str "c", .str "d"]) S (by omega) (by simp) (by simp)
  obtain ⟨b, rfl, hb⟩ : ∃ b, b' = D.str b ∧ laidS b = true := by
    simp only [List.mem_cons, List.not_mem_nil, or_false] at m1
    rcases m1 with rfl | rfl | rfl | rfl
    all_goals exact ⟨_, rfl, laid4 _ (by simp)⟩
  obtain ⟨z', B2, e2, m2, S2, U2⟩ := pickU (X := X) (ds := [.str "x", .str "y"]) S1 (by omega) (by simp) (by simp)
  obtain ⟨z, rfl, hz⟩ : ∃ z, z' = D.str z ∧ laidS z = true := by
    simp only [List.mem_cons, List.not_mem_nil, or_false] at m2
    rcases m2 with rfl | rfl
    all_goals exact ⟨_, rfl, laid2 _ (by simp)⟩
  have l4 : ∀ (ro : DV.Env) (A : Hd), eArgs gLstD (aCons (eC (.str "a")) (aCons (eC (.str "b")) (aCons (eC (.str "c")) (aCons (eC (.str "d")) aNil)))) ro A = .ok (.lst [.str "a", .str "b", .str "c", .str "d"]) A := fun ro A => lstL (ds := [.str "a", .str "b", .str "c", .str "d"]) rfl (by simp)
  have l2 : ∀ (ro : DV.Env) (A : Hd), eArgs gLstD (aCons (eC (.str "x")) (aCons (eC (.str "y")) aNil)) ro A = .ok (.lst [.str "x", .str "y"]) A := fun ro A => lstL (ds := [.str "x", .str "y"]) rfl (by simp)
  have p1 : eArgs (fun ds A => F__law_pick (ds ++ []) A) (aCons (eVar 0) (aCons (eArgs gLstD (aCons (eC (.str "a")) (aCons (eC (.str "b")) (aCons (eC (.str "c")) (aCons (eC (.str "d")) aNil))))) aNil)) ro (A ++ X) = .ok (.str b) (B1 ++ X) := args2_ok (d := .ref k) (A1 := A ++ X) rfl (l4 _ _) e1
  let ro1 : DV.Env := renv k a m A.length t4 (some (.str b))
  have s1 : sAsg (eArgs (fun ds A => F__law_pick (ds ++ []) A) (aCons (eVar 0) (aCons (eArgs gLstD (aCons (eC (.str "a")) (aCons (eC (.str "b")) (aCons (eC (.str "c")) (aCons (eC (.str "d")) aNil))))) aNil))) (gNm 5) ro (A ++ X) = .go .nx ro1 (B1 ++ X) := (sasg_ok p1).trans rfl
  have p2 : eArgs (fun ds A => F__law_pick (ds ++ []) A) (aCons (eVar 0) (aCons (eArgs gLstD (aCons (eC (.str "x")) (aCons (eC (.str "y")) aNil))) aNil)) ro1 (B1 ++ X) = .ok (.str z) (B2 ++ X) := args2_ok (d := .ref k) (A1 := B1 ++ X) rfl (l2 _ _) e2
  have tp : eArgs gTupD (aCons (eVar 1) (aCons (eVar 5) (aCons (eArgs (fun ds A => F__law_pick (ds ++ []) A) (aCons (eVar 0) (aCons (eArgs gLstD (aCons (eC (.str "x")) (aCons (eC (.str "y")) aNil))) aNil))) aNil))) ro1 (B1 ++ X) = .ok (tripD (a, b, z)) (B2 ++ X) :=
    tupL (ds := [.str a, .str b, .str z]) (acons_ok (d := .str a) (A1 := B1 ++ X) rfl (acons_ok (d := .str b) (A1 := B1 ++ X) rfl (acons_ok p2 (show aNil _ _ = .ok [] _ from rfl)))) (by simp)
  have len2 : B2.length = A.length := by rw [U2.len, U1.len]
  have at2 : (B2 ++ X)[A.length]? = some (.lst (st.map tripD)) := by rw [← len2, List.getElem?_append_right (Nat.le_refl _), Nat.sub_self]; rfl
  have s2 : sEx (eMeth isL gAppend (eVar 3) (aCons (eArgs gTupD (aCons (eVar 1) (aCons (eVar 5) (aCons (eArgs (fun ds A => F__law_pick (ds ++ []) A) (aCons (eVar 0) (aCons (eArgs gLstD (aCons (eC (.str "x")) (aCons (eC (.str "y")) aNil))) aNil))) aNil)))) aNil)) ro1 (B1 ++ X) = .go .nx ro1 (B2 ++ [.lst ((st ++ [(a, b, z)]).map tripD)]) := by
    have at1 : (B1 ++ X)[A.length]? = some (.lst (st.map tripD)) := by rw [← U1.len, List.getElem?_append_right (Nat.le_refl _), Nat.sub_self]; rfl
    have il : isL (B1 ++ X) (.ref A.length) = true := by
      unfold isL asR asL
      simp only [at1]
      rfl
    unfold sEx eMeth
    rw [show eVar 3 ro1 (B1 ++ X) = .ok (.ref A.length) (B1 ++ X) from rfl, R.bind_ok, if_pos il, acons_ok tp (show aNil ro1 _ = .ok [] _ from rfl), R.bind_ok]
    unfold gAppend numL
    simp only [at2]
    rw [if_pos (by rw [List.length_map]; omega)]
    have es : (B2 ++ X).set A.length (.lst (st.map tripD ++ [tripD (a, b, z)])) = B2 ++ [.lst ((st ++ [(a, b, z)]).map tripD)] := by
      rw [← len2, List.set_append_right _ _ (Nat.le_refl _), Nat.sub_self, List.map_append]
      rfl
    rw [es]
    rfl
  have s3 : sAsg (eVar 5) (gNm 1) ro1 (B2 ++ [.lst ((st ++ [(a, b, z)]).map tripD)]) = .go .nx (renv k b m A.length t4 (some (.str b))) (B2 ++ [.lst ((st ++ [(a, b, z)]).map tripD)]) := (sasg_ok (d := .str b) rfl).trans rfl
  exact ⟨b, z, B2, sseq_ok s1 (sseq_ok s2 s3), hb, hz, S2.le (by omega), U1.trans U2⟩
theorem rowU {k m : Nat} {A : Hd} {T : Int} {a : Str} (S : SS k T A) (hT : T + 100 ≤ 2 ^ 39) (ha : laidS a = true) (hm : m ≤ 10) :
    ∃ st B, F__law_row_of_steps [.ref k, .str a, .int (m : Nat)] A = .ok (stepsD st) B ∧ st.length = m ∧ OkSt st ∧ (∀ t, st.head? = some t → t.1 = a) ∧ SS k (T + 20) B ∧ Upd k A B := by
  have zz := sizeLine_eq
  let ro0 : DV.Env := [some (.ref k), some (.str a), some (.int (m : Nat)), none, none, none]
  have s1 : sAsg (eArgs gLstM aNil) (gNm 3) ro0 A = .go .nx (renv k a m A.length none none) (A ++ [.lst []]) := (sasg_ok (d := .ref A.length) (A1 := A ++ [.lst []]) (args_ok (ds := []) (A1 := A) rfl (by
    unfold gLstM
    rw [if_pos (by show 0 ≤ sizeLine; omega)]))).trans rfl
  obtain ⟨ro', A', e, st, b, t4, t5, B, rfl, rfl, h1, h2, h3, h4, h5, h6⟩ := forD_run (s := .fix (rangeD 0 m)) (g := gNm 4) (b := rowB)
    (I := fun i ro A' => ∃ (st : List Trip) (b : Str) (t4 t5 : Option D) (B : Hd), ro = renv k b m A.length t4 t5 ∧ A' = B ++ [.lst (st.map tripD)] ∧ st.length = i ∧ OkSt st ∧ (∀ t, st.head? = some t → t.1 = a) ∧ (st = [] → b = a) ∧ (SS k (T + 2 * (i : Nat)) B ∧ laidS b = true) ∧ Upd k A B)
    (fun _ _ A _ => here_fix _ A) (rangeD 0 m) 0 _ (A ++ [.lst []]) ⟨[], a, none, none, A, rfl, rfl, rfl, fun t ht => (by cases ht), fun t ht => (by cases ht), fun _ => rfl, ⟨S.le (by omega), ha⟩, Upd.refl k A⟩ (by
      rintro i d ro A1 hd ⟨st, b, t4, t5, B, rfl, rfl, h1, h2, h3, h4, ⟨h5, h5'⟩, h6⟩
      have hi : i < m := by
        have := (List.getElem?_eq_some_iff.mp hd).1
        simpa [rangeD] using this
      obtain ⟨b2, z, B2, f, hb, hz, S2, U2⟩ := row_turn (m := m) (t4 := some d) (t5 := t5) (st := st) h5 (by omega) h5' (by omega)
      rw [h6.len] at f
      refine ⟨_, _, step_okL f, st ++ [(b, b2, z)], b2, some d, some (.str b2), B2, rfl, rfl, by rw [List.length_append, h1]; simp, fun t ht => ?_, fun t ht => ?_, fun e => ?_, ⟨S2.le (by omega), hb⟩, h6.trans U2⟩
      · rcases List.mem_append.mp ht with ht | ht
        · exact h2 t ht
        · rw [List.mem_singleton] at ht
          subst ht
          exact ⟨h5', hb, hz⟩
      · cases st with
        | nil =>
          cases ht
          exact h4 rfl
        | cons u st => exact h3 t ht
      · exact absurd e (by simp))
  have rl : (rangeD 0 m).length = m := by simp [rangeD]
  rw [rl, Nat.zero_add] at h1 h5
  have s2 : sFor (iRange1 (aCons (eVar 2) aNil)) (gNm 4) rowB (renv k a m A.length none none) (A ++ [.lst []]) = .go .nx (renv k b m A.length t4 t5) (B ++ [.lst (st.map tripD)]) :=
    sfor_ok (by
      have rg := rng_ok (a := eVar 2) (ro := renv k a m A.length none none) (A := A ++ [.lst []]) (n := (m : Nat)) (A1 := A ++ [.lst []]) rfl (by omega) (by omega)
      rw [Int.toNat_natCast] at rg
      exact rg) e
  have at3 : (B ++ [M.lst (st.map tripD)])[A.length]? = some (.lst (st.map tripD)) := by rw [← h6.len, List.getElem?_append_right (Nat.le_refl _), Nat.sub_self]; rfl
  have s3 : eArgs gTuple (aCons (eVar 3) aNil) (renv k b m A.length t4 t5) (B ++ [.lst (st.map tripD)]) = .ok (stepsD st) (B ++ [.lst (st.map tripD)]) := by
    refine args1_ok (d := .ref A.length) (A1 := B ++ [.lst (st.map tripD)]) rfl ?_
    unfold gTuple asR asL
    simp only [at3]
    rfl
  refine ⟨st, B, ?_, h1, h2, h3, h5.1.le (by omega), h6⟩
  show finR A (b__law_row_of_steps ro0 A) = _
  have body : b__law_row_of_steps ro0 A = .go (.ret (stepsD st)) (renv k b m A.length t4 t5) (B ++ [.lst (st.map tripD)]) := sseq_ok s1 (sseq_ok s2 (sret_ok s3))
  rw [body]
  exact cut_val h6.len (fun m hm => h5.1.low m hm _) (lt_steps _ _)
end K23

set_option Elab.async false
set_option linter.all false
set_option maxRecDepth 100000
namespace K23
open PySem PySem.Spec PyProof.Rows L2 DV
/-! ### instances -/
def clsL : List String := ["Chain", "Ring", "Through"]
def IsCh (A : Hd) (n : Nat) (st : List Trip) : Prop := ∃ c fs, c ∈ clsL ∧ A[n]? = some (.ins c fs) ∧ fs.lookup ("steps" : Str) = some (stepsD st)
theorem cls_of {c : String} (h : c ∈ clsL) : c = "Chain" ∨ c = "Ring" ∨ c = "Through" := by
  unfold clsL at h
  simpa using h
theorem cls_cs {c : String} (h : c ∈ clsL) : c ∈ cs_steps := by
  unfold clsL at h
  simp only [List.mem_cons, List.not_mem_nil, or_false] at h
  rcases h with rfl | rfl | rfl <;> simp [cs_steps]
theorem fld_ok {A : Hd} {n i : Nat} {st : List Trip} {ro : DV.Env} (h : IsCh A n st) (hi : ro[i]? = some (some (.ref n))) : eUn (gFldI cs_steps "steps") (eVar i) ro A = .ok (stepsD st) A := by
  obtain ⟨c, fs, hc, hA, hl⟩ := h
  refine un_ok (d := .ref n) (A1 := A) (by unfold eVar; rw [hi]) ?_
  unfold gFldI
  simp only [hA]
  rw [if_pos (cls_cs hc)]
  simp only [hl]
theorem init_ok {A : Hd} {n : Nat} {d : D} {c : String} (hc : c ∈ clsL) (hA : A[n]? = some (.ins c [])) : F_Chain___init__ [.ref n, d] A = .ok .non (A.set n (.ins c [("steps", d)])) := by
  show finR A (sFldI cs_steps "steps" (eVar 0) (eVar 1) [some (.ref n), some d] A) = _
  have e : sFldI cs_steps "steps" (eVar 0) (eVar 1) [some (.ref n), some d] A = .go .nx [some (.ref n), some d] (A.set n (.ins c [("steps", d)])) := by
    unfold sFldI
    rw [show eVar 1 [some (D.ref n), some d] A = .ok d A from rfl, R.then_ok, show eVar 0 [some (D.ref n), some d] A = .ok (.ref n) A from rfl, R.then_ok]
    simp only [hA]
    rw [if_pos ⟨cls_cs hc, by simp⟩]
    rfl
  rw [e]
  unfold finR
  exact cut_set
theorem set_new {A : Hd} {m m' : M} : (A ++ [m]).set A.length m' = A ++ [m'] := by rw [List.set_append_right _ _ (Nat.le_refl _), Nat.sub_self]; rfl
theorem at_new {A : Hd} {m : M} : (A ++ [m])[A.length]? = some m := by rw [List.getElem?_append_right (Nat.le_refl _), Nat.sub_self]; rfl
theorem mkChain {A : Hd} {d : D} : gMkI "Chain" F_Chain___init__ [d] A = .ok (.ref A.length) (A ++ [.ins "Chain" [("steps", d)]]) := by
  unfold gMkI mkR
  have h := init_ok (A := A ++ [.ins "Chain" []]) (n := A.length) (d := d) (c := "Chain") (by simp [clsL]) at_new
  rw [set_new] at h
  rw [h]
theorem ring_init {A : Hd} {n : Nat} {d : D} (hA : A[n]? = some (.ins "Ring" [])) : F_Ring___init__ [.ref n, d] A = .ok .non (A.set n (.ins "Ring" [("steps", d)])) := by
  let ro : DV.Env := [some (.ref n), some d, some (.cls (.own "Ring"))]
  have e : eSup sup_Ring_init (aCons (eVar 1) aNil) ro A = .ok .non (A.set n (.ins "Ring" [("steps", d)])) := by
    unfold eSup
    simp only [show ro[0]? = some (some (D.ref n)) from rfl, hA, show sup_Ring_init "Ring" = some F_Chain___init__ from rfl]
    rw [acons_ok (show eVar 1 ro A = .ok d A from rfl) (show aNil ro A = .ok [] A from rfl), R.bind_ok]
    exact init_ok (by simp [clsL]) hA
  have b : b_Ring___init__ ro A = .go .nx ro (A.set n (.ins "Ring" [("steps", d)])) := by
    unfold b_Ring___init__
    refine sseq_ok (ro' := ro) (A1 := A.set n (.ins "Ring" [("steps", d)])) ?_ rfl
    unfold sEx
    rw [e]
    rfl
  show finR A (b_Ring___init__ ro A) = _
  rw [b]
  unfold finR
  exact cut_set
theorem mkRing {A : Hd} {d : D} : gMkI "Ring" F_Ring___init__ [d] A = .ok (.ref A.length) (A ++ [.ins "Ring" [("steps", d)]]) := by
  unfold gMkI mkR
  have h := ring_init (A := A ++ [.ins "Ring" []]) (n := A.length) (d := d) at_new
  rw [set_new] at h
  rw [h]
theorem through_init {A : Hd} {n : Nat} {d e0 : D} (hA : A[n]? = some (.ins "Through" [])) : F_Through___init__ [.ref n, d, e0] A = .ok .non (A.set n (.ins "Through" [("steps", d), ("name", e0)])) := by
  have hn : n < A.length := (List.getElem?_eq_some_iff.mp hA).1
  let ro : DV.Env := [some (.ref n), some d, some e0, some (.cls (.own "Through"))]
  let A1 : Hd := A.set n (.ins "Through" [("steps", d)])
  have e : eSup sup_Through_init (aCons (eVar 1) aNil) ro A = .ok .non A1 := by
    unfold eSup
    simp only [show ro[0]? = some (some (D.ref n)) from rfl, hA, show sup_Through_init "Through" = some F_Chain___init__ from rfl]
    rw [acons_ok (show eVar 1 ro A = .ok d A from rfl) (show aNil ro A = .ok [] A from rfl), R.bind_ok]
    exact init_ok (by simp [clsL]) hA
  have s1 : sEx (eSup sup_Through_init (aCons (eVar 1) aNil)) ro A = .go .nx ro A1 := by
    unfold sEx
    rw [e]
    rfl
  have h1 : A1[n]? = some (.ins "Through" [("steps", d)]) := List.getElem?_set_self hn
  have s2 : sFldI cs_name "name" (eVar 0) (eVar 2) ro A1 = .go .nx ro (A1.set n (.ins "Through" [("steps", d), ("name", e0)])) := by
    unfold sFldI
    rw [show eVar 2 ro A1 = .ok e0 A1 from rfl, R.then_ok, show eVar 0 ro A1 = .ok (.ref n) A1 from rfl, R.then_ok]
    simp only [h1]
    rw [if_pos ⟨by simp [cs_name], by simp⟩]
    rfl
  have b : b_Through___init__ ro A = .go .nx ro (A.set n (.ins "Through" [("steps", d), ("name", e0)])) := by
    refine (sseq_ok s1 s2).trans ?_
    show Out.go _ _ ((A.set n _).set n _) = _
    rw [List.set_set]
  show finR A (b_Through___init__ ro A) = _
  rw [b]
  unfold finR
  exact cut_set
theorem mkThrough {A : Hd} {d e0 : D} : gMkI "Through" F_Through___init__ [d, e0] A = .ok (.ref A.length) (A ++ [.ins "Through" [("steps", d), ("name", e0)]]) := by
  unfold gMkI mkR
  have h := through_init (A := A ++ [.ins "Through" []]) (n := A.length) (d := d) (e0 := e0) at_new
  rw [set_new] at h
  rw [h]
theorem low_ins {c : String} {st : List Trip} (z : Nat) : M.lt z (.ins c [("steps", stepsD st)]) = true := by simp [M.lt, D.lts, lt_steps]
theorem reasonU {k : Nat} {A : Hd} {T : Int} {st : List Trip} (S : SS k T A) (hT : T ≤ 2 ^ 39) : ∃ m B, F__law_reason [.ref k, stepsD st] A = .ok (.ref A.length) (B ++ [m]) ∧ (∀ X, IsCh (B ++ [m] ++ X) A.length st) ∧ (∀ z, M.lt z m = true) ∧ SS k (T + 1) B ∧ Upd k A B := by
  obtain ⟨r, B, e, r0, r1, S', U⟩ := nextU (X := []) (m := 3) S (by omega) (by omega) (by omega)
  rw [List.append_nil, List.append_nil] at e
  let ro0 : DV.Env := [some (.ref k), some (stepsD st), none]
  let ro : DV.Env := [some (.ref k), some (stepsD st), some (.int r)]
  have e1 : eArgs (fun ds A => F__law_next (ds ++ []) A) (aCons (eVar 0) (aCons (eC (.int 3)) aNil)) ro0 A = .ok (.int r) B := args2_ok (d := .ref k) (e := .int 3) (A1 := A) (A2 := A) rfl rfl e
  have s1 : sAsg (eArgs (fun ds A => F__law_next (ds ++ []) A) (aCons (eVar 0) (aCons (eC (.int 3)) aNil))) (gNm 2) ro0 A = .go .nx ro B := (sasg_ok e1).trans rfl
  have t0 : tCmpD gEq (eVar 2) (eC (.int 0)) ro B = .ok (decide (r = 0)) B := tcmp_ok (d := .int r) (e := .int 0) (A1 := B) (A2 := B) rfl rfl (gEq_int _ _ _)
  have t1 : tCmpD gEq (eVar 2) (eC (.int 1)) ro B = .ok (decide (r = 1)) B := tcmp_ok (d := .int r) (e := .int 1) (A1 := B) (A2 := B) rfl rfl (gEq_int _ _ _)
  have fin : ∀ (c : String) (fs : List (Str × D)) (w : EF), c ∈ clsL → fs.lookup ("steps" : Str) = some (stepsD st) → (∀ z, M.lt z (.ins c fs) = true) → w ro B = .ok (.ref B.length) (B ++ [.ins c fs]) → b__law_reason ro0 A = sRet w ro B → ∃ m B, F__law_reason [.ref k, stepsD st] A = .ok (.ref A.length) (B ++ [m]) ∧ (∀ X, IsCh (B ++ [m] ++ X) A.length st) ∧ (∀ z, M.lt z m = true) ∧ SS k (T + 1) B ∧ Upd k A B := fun c fs w hc hl hz hw hb => by
    refine ⟨.ins c fs, B, ?_, fun X => ⟨c, fs, hc, ?_, hl⟩, hz, S', U⟩
    · show finR A (b__law_reason ro0 A) = _
      rw [hb, sret_ok hw, U.len]
      unfold finR
      exact cut_new (Nat.le_refl _) (by rw [← U.len]; exact at_new)
    · rw [List.getElem?_append_left (by rw [List.length_append, U.len]; simp), ← U.len]
      exact at_new
  have body : ∀ (w : EF), (eIf (tCmpD gEq (eVar 2) (eC (.int 0))) (eArgs (gMkI "Chain" F_Chain___init__) (aCons (eVar 1) aNil)) (eIf (tCmpD gEq (eVar 2) (eC (.int 1))) (eArgs (gMkI "Ring" F_Ring___init__) (aCons (eVar 1) aNil)) (eArgs (gMkI "Through" F_Through___init__) (aCons (eVar 1) (aCons (eC (.str "b")) aNil))))) ro B = w ro B → b__law_reason ro0 A = sRet w ro B := fun w hw => by
    refine (sseq_ok s1 rfl).trans ?_
    unfold sRet
    rw [hw]
  by_cases q0 : r = 0
  · rw [decide_eq_true q0] at t0
    exact fin "Chain" [("steps", stepsD st)] (eArgs (gMkI "Chain" F_Chain___init__) (aCons (eVar 1) aNil)) (by simp [clsL]) rfl low_ins (args1_ok (d := stepsD st) (A1 := B) rfl mkChain) (body _ (if_ok t0 rfl))
  · rw [decide_eq_false q0] at t0
    by_cases q1 : r = 1
    · rw [decide_eq_true q1] at t1
      exact fin "Ring" [("steps", stepsD st)] (eArgs (gMkI "Ring" F_Ring___init__) (aCons (eVar 1) aNil)) (by simp [clsL]) rfl low_ins (args1_ok (d := stepsD st) (A1 := B) rfl mkRing) (body _ (if_ok t0 (if_ok t1 rfl)))
    · rw [decide_eq_false q1] at t1
      exact fin "Through" [("steps", stepsD st), ("name", .str "b")] (eArgs (gMkI "Through" F_Through___init__) (aCons (eVar 1) (aCons (eC (.str "b")) aNil))) (by simp [clsL]) rfl (fun z => by simp [M.lt, D.lts, lt_steps, D.lt]) (args2_ok (d := stepsD st) (e := .str "b") (A1 := B) (A2 := B) rfl rfl mkThrough) (body _ (if_ok t0 (if_ok t1 rfl)))
end K23

set_option Elab.async false
set_option linter.all false
set_option maxRecDepth 100000
namespace K23
open PySem PySem.Spec PyProof.Rows L2 DV
theorem insC_ch {A : Hd} {n : Nat} {c : String} {fs : List (Str × D)} (h : A[n]? = some (.ins c fs)) : insC A (.ref n) = some c := by
  unfold insC
  simp only [h]
/-! ### equality of chains -/
abbrev chain (st : List Trip) : M := .ins "Chain" [("steps", stepsD st)]
theorem chain_is {A : Hd} {n : Nat} {st : List Trip} (h : A[n]? = some (chain st)) : IsCh A n st := ⟨"Chain", _, by simp [clsL], h, rfl⟩
theorem isa_ok {A : Hd} {n : Nat} {k : String} {c : String} {fs : List (Str × D)} {b : Bool} (h : A[n]? = some (.ins c fs)) (ht : tbI (.own c) (.own k) = some b) : gIsaI tbI [.ref n, .cls (.own k)] A = .ok (.bl b) A := by
  unfold gIsaI tyC
  simp only [insC_ch h, ht]
theorem kind_ok {A : Hd} {n i : Nat} {st : List Trip} {ro : DV.Env} (h : A[n]? = some (chain st)) (hi : ro[i]? = some (some (.ref n))) : eUn (gConI con_KIND "KIND") (eVar i) ro A = .ok (.str "chain") A := by
  refine un_ok (d := .ref n) (A1 := A) (by unfold eVar; rw [hi]) ?_
  unfold gConI
  simp only [h, show con_KIND "Chain" = some (.str "chain") from rfl, show ([(("steps" : Str), stepsD st)] : List (Str × D)).lookup ("KIND" : Str) = none from rfl]
theorem fields_ok {A : Hd} {n i : Nat} {st : List Trip} {ro : DV.Env} (h : A[n]? = some (chain st)) (hi : ro[i]? = some (some (.ref n))) : eMethI tab_fields "fields" (eVar i) aNil ro A = .ok (.tup [stepsD st]) A := by
  have z := sizeLine_eq
  have f : F_Chain_fields [.ref n] A = .ok (.tup [stepsD st]) A := by
    have e : eArgs gTupD (aCons (eUn (gFldI cs_steps "steps") (eVar 0)) aNil) [some (.ref n)] A = .ok (.tup [stepsD st]) A := tupL (ds := [stepsD st]) (acons_ok (fld_ok (chain_is h) rfl) (show aNil _ _ = .ok [] _ from rfl)) (by simp)
    show finR A (sRet _ [some (.ref n)] A) = _
    rw [sret_ok e]
    unfold finR
    exact cut_self
  unfold eMethI
  rw [show eVar i ro A = .ok (.ref n) A by unfold eVar; rw [hi], R.bind_ok]
  simp only [h, show tab_fields "Chain" = some F_Chain_fields from rfl, show ([(("steps" : Str), stepsD st)] : List (Str × D)).lookup ("fields" : Str) = none from rfl]
  show (R.ok ([] : List D) A).bind _ = _
  rw [R.bind_ok]
  exact f
theorem eq_ok {A : Hd} {n m : Nat} {st : List Trip} (h : A[n]? = some (chain st)) (h2 : A[m]? = some (chain st)) (ok : OkSt st) : F_Reason___eq__ [.ref n, .ref m] A = .ok (.bl true) A := by
  let ro : DV.Env := [some (.ref n), some (.ref m)]
  have e1 : eArgs (gIsaI tbI) (aCons (eVar 1) (aCons (eC (.cls (.own "Reason"))) aNil)) ro A = .ok (.bl true) A := args2_ok (d := .ref m) (e := .cls (.own "Reason")) (A1 := A) (A2 := A) rfl rfl (isa_ok h2 rfl)
  have e2 : eBin gEq (eUn (gConI con_KIND "KIND") (eVar 0)) (eUn (gConI con_KIND "KIND") (eVar 1)) ro A = .ok (.bl true) A := bin_ok (A1 := A) (A2 := A) (kind_ok h rfl) (kind_ok h2 rfl) (by rw [gEq_strs]; simp)
  have e3 : eBin gEq (eMethI tab_fields "fields" (eVar 0) aNil) (eMethI tab_fields "fields" (eVar 1) aNil) ro A = .ok (.bl true) A := bin_ok (A1 := A) (A2 := A) (fields_ok h rfl) (fields_ok h2 rfl) (gEq_refl ((lay_tup (k := 2) fun d hd => by rw [List.mem_singleton] at hd; subst hd; exact lay_steps ok).le (by omega)))
  have b : b_Reason___eq__ ro A = .go (.ret (.bl true)) ro A := sret_ok (and_ok (z := true) (A1 := A) e1 ((if_pos rfl).trans (and_ok (z := true) (A1 := A) e2 ((if_pos rfl).trans e3))))
  show finR A (b_Reason___eq__ ro A) = _
  rw [b]
  unfold finR
  exact cut_self
theorem eqO_ok {A : Hd} {n m : Nat} {st : List Trip} (h : A[n]? = some (chain st)) (h2 : A[m]? = some (chain st)) (ok : OkSt st) : gEqO tab___eq__ (.ref n) (.ref m) A = .ok (.bl true) A := by
  unfold gEqO
  simp only [insC_ch h, insC_ch h2, if_true, show tab___eq__ "Chain" = some F_Reason___eq__ from rfl]
  exact eq_ok h h2 ok
theorem neO_ok {A : Hd} {n m : Nat} {st : List Trip} (h : A[n]? = some (chain st)) (h2 : A[m]? = some (chain st)) (ok : OkSt st) : gNeO tab___eq__ (.ref n) (.ref m) A = .ok (.bl false) A := by
  unfold gNeO
  rw [eqO_ok h h2 ok]
  rfl
/-! ### len -/
theorem nine : (900 : Int) < 2 ^ 63 := by decide +kernel
theorem lenB_ok {i : Int} {A : Hd} (h : 0 ≤ i) (h2 : i < 2 ^ 63) : gLenB (.int i) A = .ok (.int i) A := by
  unfold gLenB
  dsimp only
  generalize (2 : Int) ^ 63 = b at h2 ⊢
  rw [if_pos ⟨h, h2⟩]
theorem lenO_eq {tab : String → Option FF} {d : D} {A : Hd} {c : String} {F : FF} (h : insC A d = some c) (h2 : tab c = some F) : gLenO tab d A = (F [d] A).bind gLenB := by
  unfold gLenO
  rw [h]
  dsimp only
  rw [h2]
theorem lenO_ok {A : Hd} {n : Nat} {st : List Trip} (h : IsCh A n st) (hl : st.length ≤ 900) : gLenO tab___len__ (.ref n) A = .ok (.int (st.length : Nat)) A := by
  have f : F_Chain___len__ [.ref n] A = .ok (.int (st.length : Nat)) A := by
    have e : eArgs gLen (aCons (eUn (gFldI cs_steps "steps") (eVar 0)) aNil) [some (.ref n)] A = .ok (.int (st.length : Nat)) A := args1_ok (A1 := A) (fld_ok h rfl) (by
      show R.ok (D.int ((st.map tripD).length : Nat)) A = _
      rw [List.length_map])
    show finR A (sRet _ [some (.ref n)] A) = _
    rw [sret_ok e]
    unfold finR
    exact cut_self
  obtain ⟨c, fs, hc, hA, _⟩ := h
  have ht : tab___len__ c = some F_Chain___len__ := by rcases cls_of hc with rfl | rfl | rfl <;> rfl
  rw [lenO_eq (insC_ch hA) ht, f, R.bind_ok]
  exact lenB_ok (Int.natCast_nonneg _) (Int.lt_of_le_of_lt (show ((st.length : Nat) : Int) ≤ 900 by omega) nine)
/-! ### + -/
def good (one other : List Trip) : Bool := match one.getLast?, other.head? with
  | some t, some u => decide (t.2.1 = u.1)
  | _, _ => false
theorem at_last {one : List Trip} {t : Trip} (h : one.getLast? = some t) : L2.atI (one.map tripD) (-1) = some (tripD t) := by
  have hl : one.length ≠ 0 := fun z => by
    rw [List.length_eq_zero_iff] at z
    subst z
    cases h
  unfold L2.atI ixN
  rw [if_neg (by omega), if_pos (by rw [List.length_map]; omega)]
  show (one.map tripD)[((-1 : Int) + (one.map tripD).length).toNat]? = _
  rw [List.length_map, show ((-1 : Int) + (one.length : Nat)).toNat = one.length - 1 by omega, List.getElem?_map, ← List.getLast?_eq_getElem?, h]
  rfl
theorem at_head {other : List Trip} {u : Trip} (h : other.head? = some u) : L2.atI (other.map tripD) 0 = some (tripD u) := by
  cases other with
  | nil => cases h
  | cons a r =>
    cases h
    unfold L2.atI ixN
    rw [if_pos (by omega), if_pos (by simp)]
    rfl
theorem last_ok {A : Hd} {ro : DV.Env} {fe : EF} {one : List Trip} {t : Trip} (hf : fe ro A = .ok (stepsD one) A) (h : one.getLast? = some t) : eBin gSubD (eBin gSubD fe (eUn gNeg (eC (.int 1)))) (eC (.int 1)) ro A = .ok (.str t.2.1) A :=
  bin_ok (d := tripD t) (e := .int 1) (A1 := A) (A2 := A) (bin_ok (d := stepsD one) (e := .int (-1)) (A1 := A) (A2 := A) hf rfl (sub_tup (at_last h))) rfl (sub_tup rfl)
theorem head_ok {A : Hd} {ro : DV.Env} {fe : EF} {other : List Trip} {u : Trip} (hf : fe ro A = .ok (stepsD other) A) (h : other.head? = some u) : eBin gSubD (eBin gSubD fe (eC (.int 0))) (eC (.int 0)) ro A = .ok (.str u.1) A :=
  bin_ok (d := tripD u) (e := .int 0) (A1 := A) (A2 := A) (bin_ok (d := stepsD other) (e := .int 0) (A1 := A) (A2 := A) hf rfl (sub_tup (at_head h))) rfl (sub_tup rfl)
theorem tor_f {t u : TF} {A A1 A3 : Hd} {ro : DV.Env} {w : Bool} (h1 : t ro A = .ok false A1) (h2 : u ro A1 = .ok w A3) : tOrD t u ro A = .ok w A3 := tor_ok h1 h2
theorem nil_ok {A : Hd} {ro : DV.Env} {fe : EF} {one : List Trip} (hf : fe ro A = .ok (stepsD one) A) (h : OkSt one) : tCmpD gEq fe (eArgs gTupD aNil) ro A = .ok one.isEmpty A := by
  have z := sizeLine_eq
  refine tcmp_ok (d := stepsD one) (e := .tup []) (A1 := A) (A2 := A) hf (args_ok (ds := []) (A1 := A) rfl (by unfold gTupD; rw [if_pos (by show 0 ≤ sizeLine; omega)])) ?_
  rw [show stepsD one = .tup (one.map tripD) from rfl, gEq_tnil fun d hd => (lay_trips h d hd).le (by omega)]
  cases one <;> rfl
section
variable {A : Hd} {p q : Nat} {one other : List Trip}
noncomputable def aT1 : TF := (tOrD (tNotD (tOfE (eArgs (gIsaI tbI) (aCons (eVar 1) (aCons (eC (.cls (.own "Chain"))) aNil))))) (tOrD (tCmpD gEq (eUn (gFldI cs_steps "steps") (eVar 0)) (eArgs gTupD aNil)) (tCmpD gEq (eUn (gFldI cs_steps "steps") (eVar 1)) (eArgs gTupD aNil))))
noncomputable def aT2 : TF := (tCmpD gNe (eBin gSubD (eBin gSubD (eUn (gFldI cs_steps "steps") (eVar 0)) (eUn gNeg (eC (.int 1)))) (eC (.int 1))) (eBin gSubD (eBin gSubD (eUn (gFldI cs_steps "steps") (eVar 1)) (eC (.int 0))) (eC (.int 0))))
theorem t1_ok (h1 : IsCh A p one) (h2 : IsCh A q other) (o1 : OkSt one) (o2 : OkSt other) : aT1 [some (.ref p), some (.ref q)] A = .ok (one.isEmpty || other.isEmpty) A := by
  have i : tNotD (tOfE (eArgs (gIsaI tbI) (aCons (eVar 1) (aCons (eC (.cls (.own "Chain"))) aNil)))) [some (.ref p), some (.ref q)] A = .ok false A := by
    obtain ⟨c, fs, hc, hA, _⟩ := h2
    refine tnot_ok (z := true) (trub_ok (args2_ok (d := .ref q) (e := .cls (.own "Chain")) (A1 := A) (A2 := A) rfl rfl (isa_ok hA ?_)))
    rcases cls_of hc with rfl | rfl | rfl <;> rfl
  refine tor_f i ?_
  have a := nil_ok (ro := [some (.ref p), some (.ref q)]) (fld_ok (i := 0) h1 rfl) o1
  have b := nil_ok (ro := [some (.ref p), some (.ref q)]) (fld_ok (i := 1) h2 rfl) o2
  refine tor_ok a ?_
  cases one.isEmpty with
  | true => rfl
  | false => exact b
theorem add_no (h1 : IsCh A p one) (h2 : IsCh A q other) (o1 : OkSt one) (o2 : OkSt other) (hg : good one other = false) : ∃ x : Str, F_Chain___add__ [.ref p, .ref q] A = .err (.own "BadSteps") [("reason", .str x)] A := by
  let ro : DV.Env := [some (.ref p), some (.ref q)]
  have t1 := t1_ok h1 h2 o1 o2
  have fin : ∀ x : Str, b_Chain___add__ ro A = .err (.own "BadSteps") [("reason", .str x)] ro A → F_Chain___add__ [.ref p, .ref q] A = .err (.own "BadSteps") [("reason", .str x)] A := fun x e => by
    show finR A (b_Chain___add__ ro A) = _
    rw [e]
    rfl
  have err : ∀ {p q : SF} {ro ro' : DV.Env} {A A1 : Hd} {c : Cl} {fs : List (Str × D)}, p ro A = .err c fs ro' A1 → sSeq p q ro A = .err c fs ro' A1 := fun h => by unfold sSeq; rw [h, Out.next_err]
  by_cases e : (one.isEmpty || other.isEmpty) = true
  · rw [e] at t1
    exact ⟨_, fin "both must be reasons with steps" (err (sif_ok (z := true) (A1 := A) t1 rfl))⟩
  · have e : (one.isEmpty || other.isEmpty) = false := by simpa using e
    rw [e] at t1
    rw [Bool.or_eq_false_iff] at e
    obtain ⟨t, ht⟩ : ∃ t, one.getLast? = some t := by
      cases q : one.getLast? with
      | none => rw [List.getLast?_eq_none_iff] at q; rw [q] at e; cases e.1
      | some t => exact ⟨t, rfl⟩
    obtain ⟨u, hu⟩ : ∃ u, other.head? = some u := by
      cases other with
      | nil => cases e.2
      | cons u r => exact ⟨u, rfl⟩
    have ng : t.2.1 ≠ u.1 := fun z => by
      unfold good at hg
      rw [ht, hu] at hg
      simp [z] at hg
    have t2 : aT2 ro A = .ok true A := tcmp_ok (A1 := A) (A2 := A) (last_ok (fld_ok (i := 0) h1 rfl) ht) (head_ok (fld_ok (i := 1) h2 rfl) hu) (by rw [gNe_strs, decide_eq_false ng]; rfl)
    exact ⟨_, fin "the second chain does not begin where the first one ends" (sseq_ok (ro' := ro) (A1 := A) (sif_ok (z := false) (A1 := A) t1 rfl) (err (sif_ok (z := true) (A1 := A) t2 rfl)))⟩
theorem add_ok (h1 : IsCh A p one) (h2 : IsCh A q other) (o1 : OkSt one) (o2 : OkSt other) (l1 : one.length ≤ 100) (l2 : other.length ≤ 100) (hg : good one other = true) : F_Chain___add__ [.ref p, .ref q] A = .ok (.ref A.length) (A ++ [chain (one ++ other)]) := by
  have z := sizeLine_eq
  let ro : DV.Env := [some (.ref p), some (.ref q)]
  have t1 := t1_ok h1 h2 o1 o2
  obtain ⟨t, ht, u, hu, e⟩ : ∃ t, one.getLast? = some t ∧ ∃ u, other.head? = some u ∧ t.2.1 = u.1 := by
    unfold good at hg
    split at hg
    · rename_i t u ht hu
      exact ⟨t, ht, u, hu, of_decide_eq_true hg⟩
    · cases hg
  have ne1 : one.isEmpty = false := by cases one with | nil => cases ht | cons a r => rfl
  have ne2 : other.isEmpty = false := by cases other with | nil => cases hu | cons a r => rfl
  rw [ne1, ne2, Bool.or_false] at t1
  have t2 : aT2 ro A = .ok false A := tcmp_ok (A1 := A) (A2 := A) (last_ok (fld_ok (i := 0) h1 rfl) ht) (head_ok (fld_ok (i := 1) h2 rfl) hu) (by rw [gNe_strs, decide_eq_true e]; rfl)
  have ad : eBin gAdd (eUn (gFldI cs_steps "steps") (eVar 0)) (eUn (gFldI cs_steps "steps") (eVar 1)) ro A = .ok (stepsD (one ++ other)) A := bin_ok (A1 := A) (A2 := A) (fld_ok (i := 0) h1 rfl) (fld_ok (i := 1) h2 rfl) (by
    unfold stepsD gAdd
    dsimp only
    rw [if_pos (by rw [List.length_map, List.length_map]; omega), List.map_append])
  have mk : eArgs (gMkI "Chain" F_Chain___init__) (aCons (eBin gAdd (eUn (gFldI cs_steps "steps") (eVar 0)) (eUn (gFldI cs_steps "steps") (eVar 1))) aNil) ro A = .ok (.ref A.length) (A ++ [chain (one ++ other)]) := args1_ok (A1 := A) ad mkChain
  have b : b_Chain___add__ ro A = .go (.ret (.ref A.length)) ro (A ++ [chain (one ++ other)]) := sseq_ok (ro' := ro) (A1 := A) (sif_ok (z := false) (A1 := A) t1 rfl) (sseq_ok (ro' := ro) (A1 := A) (sif_ok (z := false) (A1 := A) t2 rfl) (sret_ok mk))
  show finR A (b_Chain___add__ ro A) = _
  rw [b]
  unfold finR
  exact cut_new (Nat.le_refl _) at_new
theorem own_add (h1 : IsCh A p one) (h2 : IsCh A q other) : gOwn2 tab___add__ (.ref p) (.ref q) A = F_Chain___add__ [.ref p, .ref q] A := by
  obtain ⟨c, fs, hc, hA, _⟩ := h1
  obtain ⟨c2, fs2, hc2, hA2, _⟩ := h2
  unfold gOwn2
  have t1 : tab___add__ c = some F_Chain___add__ := by rcases cls_of hc with rfl | rfl | rfl <;> rfl
  have t2 : tab___add__ c2 = some F_Chain___add__ := by rcases cls_of hc2 with rfl | rfl | rfl <;> rfl
  simp only [insC_ch hA, insC_ch hA2, t1, t2]
end
end K23

set_option Elab.async false
set_option linter.all false
set_option maxRecDepth 100000
namespace K23
open PySem PySem.Spec PyProof.Rows L2 DV
/-! ### the law's sum -/
section
variable {A : Hd} {p q : Nat} {one other : List Trip}
noncomputable def uTry : SF := (sTry (sAsg (eBin (gOwn2 tab___add__) (eVar 0) (eVar 1)) (gNm 3)) mt_WorldError 4
  (sAsg (eVar 4) (gNm 2)))
noncomputable def uErr : SF := (sRet (eIf (tAndD (tOfE (eArgs (gIsaX xsT sbT) (aCons (eVar 2) (aCons (eC (.cls (.own "BadSteps"))) aNil)))) (tOfE (eArgs (gIsaX xsT sbT) (aCons (eVar 2) (aCons (eC (.cls (.bi "ValueError"))) aNil))))) (eC (.str "steps")) (eC (.str "other"))))
abbrev uenv (p q : Nat) (t2 t3 : D) : DV.Env := [some (.ref p), some (.ref q), some t2, some t3, none]
theorem u_init : sAsg (eArgs gTupD (aCons (eC .non) (aCons (eC .non) aNil))) (gTpl [(gNm 2), (gNm 3)]) [some (.ref p), some (.ref q), none, none, none] A = .go .nx (uenv p q .non .non) A := by
  unfold sAsg
  rw [tupL (ro := [some (.ref p), some (.ref q), none, none, none]) (A := A) (A1 := A) (ds := [.non, .non]) rfl (by simp)]
  rfl
theorem sum_no (low : ∀ m ∈ A, ∀ z, M.lt z m = true) (h1 : IsCh A p one) (h2 : IsCh A q other) (o1 : OkSt one) (o2 : OkSt other) (hg : good one other = false) : F__law_sum [.ref p, .ref q] A = .ok (.str "steps") A := by
  obtain ⟨x, ad⟩ := add_no h1 h2 o1 o2 hg
  let ro := uenv p q .non .non
  have e : eBin (gOwn2 tab___add__) (eVar 0) (eVar 1) ro A = .err (.own "BadSteps") [("reason", .str x)] A := by
    unfold eBin
    rw [show eVar 0 ro A = .ok (.ref p) A from rfl, R.bind_ok, show eVar 1 ro A = .ok (.ref q) A from rfl, R.bind_ok, own_add h1 h2]
    exact ad
  let A1 : Hd := A ++ [M.exc "BadSteps" [("reason", .str x)]]
  let ro1 := uenv p q (.ref A.length) .non
  have s2 : uTry ro A = .go .nx ro1 A1 := by
    unfold uTry sTry sAsg
    rw [e]
    rfl
  have g : A1[A.length]? = some (.exc "BadSteps" [("reason", .str x)]) := at_new
  have i1 : tOfE (eArgs (gIsaX xsT sbT) (aCons (eVar 2) (aCons (eC (.cls (.own "BadSteps"))) aNil))) ro1 A1 = .ok true A1 := trub_ok (args2_ok (d := .ref A.length) (e := .cls (.own "BadSteps")) (A1 := A1) (A2 := A1) rfl rfl (by
    unfold gIsaX
    simp only [g]
    rfl))
  have i2 : tOfE (eArgs (gIsaX xsT sbT) (aCons (eVar 2) (aCons (eC (.cls (.bi "ValueError"))) aNil))) ro1 A1 = .ok true A1 := trub_ok (args2_ok (d := .ref A.length) (e := .cls (.bi "ValueError")) (A1 := A1) (A2 := A1) rfl rfl (by
    unfold gIsaX
    simp only [g]
    rfl))
  have s3 : sIf (tCmpD gNotN (eVar 2) (eC .non)) uErr sNx ro1 A1 = .go (.ret (.str "steps")) ro1 A1 := sif_ok (z := true) (A1 := A1) (tcmp_ok (d := .ref A.length) (e := .non) (A1 := A1) (A2 := A1) rfl rfl rfl) (sret_ok (if_ok (z := true) (A1 := A1) (tand_ok (z := true) (A1 := A1) i1 i2) rfl))
  have b : b__law_sum [some (.ref p), some (.ref q), none, none, none] A = .go (.ret (.str "steps")) ro1 A1 := by
    refine sseq_ok u_init (sseq_ok s2 ?_)
    unfold sSeq
    show (sIf (tCmpD gNotN (eVar 2) (eC .non)) uErr sNx ro1 A1).next _ = _
    rw [s3]
    rfl
  show finR A (b__law_sum [some (.ref p), some (.ref q), none, none, none] A) = _
  rw [b]
  exact cut_val (A := A) (A1 := A) (d := .str "steps") (X := [M.exc "BadSteps" [("reason", .str x)]]) rfl (fun m hm => low m hm _) (by unfold D.lt; rfl)
theorem ok_app {a b : List Trip} (h : OkSt a) (h2 : OkSt b) : OkSt (a ++ b) := fun t ht => (List.mem_append.mp ht).elim (h t) (h2 t)
theorem sum_ok (low : ∀ m ∈ A, ∀ z, M.lt z m = true) (h1 : IsCh A p one) (h2 : IsCh A q other) (o1 : OkSt one) (o2 : OkSt other) (l1 : one.length ≤ 100) (l2 : other.length ≤ 100) (hg : good one other = true) : F__law_sum [.ref p, .ref q] A = .ok (.tup [stepsD (one ++ other), .int ((one ++ other).length : Nat)]) A := by
  have ad := add_ok h1 h2 o1 o2 l1 l2 hg
  let st := one ++ other
  have ost : OkSt st := ok_app o1 o2
  have lst : st.length ≤ 200 := by show (one ++ other).length ≤ 200; rw [List.length_append]; omega
  let A1 : Hd := A ++ [chain st]
  let A2 : Hd := A1 ++ [chain st]
  let ro := uenv p q .non .non
  let ro1 := uenv p q .non (.ref A.length)
  have e : eBin (gOwn2 tab___add__) (eVar 0) (eVar 1) ro A = .ok (.ref A.length) A1 := bin_ok (d := .ref p) (e := .ref q) (A1 := A) (A2 := A) rfl rfl (by rw [own_add h1 h2]; exact ad)
  have s2 : uTry ro A = .go .nx ro1 A1 := by
    unfold uTry sTry
    rw [sasg_ok e]
    rfl
  have g1 : A1[A.length]? = some (chain st) := at_new
  have s3 : sIf (tCmpD gNotN (eVar 2) (eC .non)) uErr sNx ro1 A1 = .go .nx ro1 A1 := sif_ok (z := false) (A1 := A1) (tcmp_ok (d := .non) (e := .non) (A1 := A1) (A2 := A1) rfl rfl rfl) rfl
  have mk : eArgs (gMkI "Chain" F_Chain___init__) (aCons (eUn (gFldI cs_steps "steps") (eVar 3)) aNil) ro1 A1 = .ok (.ref A1.length) A2 := args1_ok (A1 := A1) (fld_ok (chain_is g1) rfl) mkChain
  have g2 : A2[A.length]? = some (chain st) := by
    show (A1 ++ [chain st])[A.length]? = _
    rw [List.getElem?_append_left (by show A.length < (A ++ [chain st]).length; rw [List.length_append]; exact Nat.lt_succ_self _)]
    exact g1
  have g3 : A2[A1.length]? = some (chain st) := at_new
  have t : tCmpD (gEqO tab___eq__) (eVar 3) (eArgs (gMkI "Chain" F_Chain___init__) (aCons (eUn (gFldI cs_steps "steps") (eVar 3)) aNil)) ro1 A1 = .ok true A2 := tcmp_ok (d := .ref A.length) (e := .ref A1.length) (A1 := A1) (A2 := A2) rfl mk (eqO_ok g2 g3 ost)
  have tp : eArgs gTupD (aCons (eUn (gFldI cs_steps "steps") (eVar 3)) (aCons (eUn (gLenO tab___len__) (eVar 3)) aNil)) ro1 A2 = .ok (.tup [stepsD st, .int (st.length : Nat)]) A2 :=
    tupL (ds := [stepsD st, .int (st.length : Nat)]) (acons_ok (fld_ok (chain_is g2) rfl) (acons_ok (un_ok (d := .ref A.length) (A1 := A2) rfl (lenO_ok (chain_is g2) (by omega))) (show aNil _ _ = .ok [] _ from rfl))) (by simp)
  have b : b__law_sum [some (.ref p), some (.ref q), none, none, none] A = .go (.ret (.tup [stepsD st, .int (st.length : Nat)])) ro1 A2 := sseq_ok u_init (sseq_ok s2 (sseq_ok s3 (sret_ok (if_ok (z := true) (A1 := A2) t ((if_pos rfl).trans tp)))))
  show finR A (b__law_sum [some (.ref p), some (.ref q), none, none, none] A) = _
  rw [b, show A2 = A ++ ([chain st] ++ [chain st]) from List.append_assoc _ _ _]
  exact cut_val (A := A) (A1 := A) rfl (fun m hm => low m hm _) (by simp [D.lt, D.lts, lt_steps])
end
end K23

set_option Elab.async false
set_option linter.all false
set_option maxRecDepth 100000
namespace K23
open PySem PySem.Spec PyProof.Rows L2 DV
/-! ### a turn of the law -/
structure AllS (n : Nat) (T : Int) (A : Hd) : Prop where
  src : ∀ j, j < n → SRC A j T
  low : ∀ m ∈ A, ∀ z, M.lt z m = true
theorem AllS.ss {n k : Nat} {T : Int} {A : Hd} (h : AllS n T A) (hk : k < n) : SS k T A := ⟨h.src k hk, h.low⟩
theorem AllS.le {n : Nat} {T T' : Int} {A : Hd} (h : AllS n T A) (e : T ≤ T') : AllS n T' A := ⟨fun j hj => (h.src j hj).le e, h.low⟩
theorem AllS.step {n k : Nat} {T T' : Int} {A B : Hd} (h : AllS n T A) (e : T ≤ T') (S : SS k T' B) (U : Upd k A B) : AllS n T' B := by
  refine ⟨fun j hj => ?_, S.low⟩
  by_cases q : j = k
  · subst q; exact S.src
  · obtain ⟨c, t, w, g, h1, h2, h3⟩ := h.src j hj
    exact ⟨c, t, w, by rw [U.at_ j q]; exact g, h1, Int.le_trans h2 e, h3⟩
theorem AllS.app {n : Nat} {T : Int} {A X : Hd} (h : AllS n T A) (hx : ∀ m ∈ X, ∀ z, M.lt z m = true) : AllS n T (A ++ X) :=
  ⟨fun j hj => ((⟨h.src j hj, h.low⟩ : SS j T A).app hx).src, fun m hm z => (List.mem_append.mp hm).elim (fun w => h.low m w z) fun w => hx m w z⟩
theorem low_one {c : String} {st : List Trip} : ∀ m ∈ [M.ins c [("steps", stepsD st)]], ∀ z, M.lt z m = true := fun m hm z => by
  rw [List.mem_singleton] at hm
  subst hm
  exact low_ins z
theorem is_app {A X : Hd} {n : Nat} {st : List Trip} (h : IsCh A n st) : IsCh (A ++ X) n st := by
  obtain ⟨c, fs, hc, hA, hl⟩ := h
  exact ⟨c, fs, hc, by rw [List.getElem?_append_left (List.getElem?_eq_some_iff.mp hA).1]; exact hA, hl⟩
theorem is_upd {A B : Hd} {n k : Nat} {st : List Trip} (h : IsCh A n st) (U : Upd k A B) (ne : n ≠ k) : IsCh B n st := by
  obtain ⟨c, fs, hc, hA, hl⟩ := h
  exact ⟨c, fs, hc, by rw [U.at_ n ne]; exact hA, hl⟩
noncomputable def eNext (c : Int) : EF := (eArgs (fun ds A => F__law_next (ds ++ []) A) (aCons (eVar 1) (aCons (eC (.int c)) aNil)))
noncomputable def eLast (i : Nat) : EF := (eBin gSubD (eBin gSubD (eVar i) (eUn gNeg (eC (.int 1)))) (eC (.int 1)))
noncomputable def eRow (a m : EF) : EF := (eArgs (fun ds A => F__law_row_of_steps (ds ++ []) A) (aCons (eVar 1) (aCons a (aCons m aNil))))
noncomputable def ePick : EF := (eArgs (fun ds A => F__law_pick (ds ++ []) A) (aCons (eVar 1) (aCons (eArgs gLstD (aCons (eC (.str "a")) (aCons (eC (.str "b")) (aCons (eIf (tCmpD gNe (eVar 2) (eArgs gTupD aNil)) (eLast 2) (eC (.str "c"))) aNil)))) aNil)))
noncomputable def eReason (i : Nat) : EF := (eArgs (fun ds A => F__law_reason (ds ++ []) A) (aCons (eVar 1) (aCons (eVar i) aNil)))
noncomputable def eGood : EF := (eAndD (eBin gNe (eVar 2) (eArgs gTupD aNil)) (eAndD (eBin gNe (eVar 4) (eArgs gTupD aNil)) (eBin gEq (eLast 2) (eBin gSubD (eBin gSubD (eVar 4) (eC (.int 0))) (eC (.int 0))))))
noncomputable def eDue : EF := (eIf (tOfE (eVar 7)) (eArgs gTupD (aCons (eBin gAdd (eVar 2) (eVar 4)) (aCons (eBin gAdd (eArgs gLen (aCons (eVar 2) aNil)) (eArgs gLen (aCons (eVar 4) aNil))) aNil))) (eC (.str "steps")))
noncomputable def tOne : TF := (tOrD (tCmpD gNe (eArgs (fun ds A => F__law_sum (ds ++ []) A) (aCons (eVar 5) (aCons (eVar 6) aNil))) (eVar 8)) (tCmpD gNe (eArgs gLstD (aCons (eUn (gLenO tab___len__) (eVar 5)) (aCons (eUn (gLenO tab___len__) (eVar 6)) aNil))) (eArgs gLstD (aCons (eArgs gLen (aCons (eVar 2) aNil)) (aCons (eArgs gLen (aCons (eVar 4) aNil)) aNil)))))
noncomputable def eThird : EF := (eArgs (gMkI "Chain" F_Chain___init__) (aCons (eIf (tCmpD gNe (eVar 4) (eArgs gTupD aNil)) (eRow (eLast 4) (eC (.int 2))) (eArgs gTupD aNil)) aNil))
noncomputable def tTwo : TF := (tAndD (tOfE (eVar 7)) (tCmpD (gNeO tab___eq__) (eBin (gOwn2 tab___add__) (eBin (gOwn2 tab___add__) (eVar 5) (eVar 6)) (eVar 9)) (eBin (gOwn2 tab___add__) (eVar 5) (eBin (gOwn2 tab___add__) (eVar 6) (eVar 9)))))
noncomputable def tThree : TF := (tOrD (tCmpD gNe (eUn (gFldI cs_steps "steps") (eVar 5)) (eVar 2)) (tCmpD gNe (eUn (gFldI cs_steps "steps") (eVar 6)) (eVar 4)))
noncomputable def bEnd : SF := (sSeq (sIf tOne (sRet (eC (.bl false))) sNx) (sSeq (sAsg eThird (gNm 9)) (sSeq (sIf tTwo (sRet (eC (.bl false))) sNx) (sIf tThree (sRet (eC (.bl false))) sNx))))
noncomputable def bMid : SF := (sSeq (sPar (aCons (eReason 2) (aCons (eReason 4) aNil)) [5, 6]) (sSeq (sAsg eGood (gNm 7)) (sSeq (sAsg eDue (gNm 8)) bEnd)))
noncomputable def bTurn : SF := (sSeq (sAsg (eRow (eC (.str "a")) (eNext 4)) (gNm 2)) (sSeq (sAsg ePick (gNm 3)) (sSeq (sAsg (eRow (eVar 3) (eNext 4)) (gNm 4)) bMid)))
theorem law_parts : b_law = sSeq (sFor (iSeq (eComp (iRange1 (aCons (eArgs gMax2 (aCons (eC (.int 1)) (aCons (eArgs gMin2 (aCons (eC (.int 3)) (aCons (eArgs gLen (aCons (eVar 0) aNil)) aNil))) aNil))) aNil)) (.one 10) [10] ttYes (eArgs (fun ds A => F__law_source (ds ++ []) A) (aCons (eVar 0) (aCons (eVar 10) aNil))))) (gNm 1) bTurn) (sRet (eC (.bl true))) := rfl
section
variable {n k : Nat} {A : Hd} {T : Int} {ro : DV.Env}
theorem next_e (S : AllS n T A) (hk : k < n) (hT : T ≤ 2 ^ 30) (h1 : ro[1]? = some (some (.ref k))) : ∃ (m : Nat) (B : Hd), eNext 4 ro A = .ok (.int (m : Nat)) B ∧ m < 4 ∧ AllS n (T + 1) B ∧ Upd k A B := by
  obtain ⟨r, B, e, r0, r1, S', U⟩ := nextU (X := []) (m := 4) (S.ss hk) (by omega) (by omega) (by omega)
  rw [List.append_nil, List.append_nil] at e
  obtain ⟨m, rfl⟩ : ∃ m : Nat, r = (m : Nat) := ⟨r.toNat, by omega⟩
  exact ⟨m, B, args2_ok (d := .ref k) (e := .int 4) (A1 := A) (A2 := A) (by unfold eVar; rw [h1]) rfl e, by omega, S.step (by omega) S' U, U⟩
theorem row_e {a m : EF} {x : Str} {c : Nat} {B : Hd} (S : AllS n T B) (hk : k < n) (hT : T ≤ 2 ^ 30) (h1 : ro[1]? = some (some (.ref k))) (ha : a ro A = .ok (.str x) A) (hm : m ro A = .ok (.int (c : Nat)) B) (hx : laidS x = true) (hc : c ≤ 10) :
    ∃ st C, eRow a m ro A = .ok (stepsD st) C ∧ st.length = c ∧ OkSt st ∧ (∀ t, st.head? = some t → t.1 = x) ∧ AllS n (T + 20) C ∧ Upd k B C := by
  obtain ⟨st, C, e, g1, g2, g3, S', U⟩ := rowU (m := c) (a := x) (S.ss hk) (by omega) hx hc
  exact ⟨st, C, args_ok (acons_ok (d := .ref k) (A1 := A) (by unfold eVar; rw [h1]) (acons_ok ha (acons_ok hm (show aNil _ _ = .ok [] _ from rfl)))) e, g1, g2, g3, S.step (by omega) S' U, U⟩
theorem nne_ok {i : Nat} {one : List Trip} (hi : ro[i]? = some (some (stepsD one))) (h : OkSt one) : tCmpD gNe (eVar i) (eArgs gTupD aNil) ro A = .ok (!one.isEmpty) A ∧ eBin gNe (eVar i) (eArgs gTupD aNil) ro A = .ok (.bl (!one.isEmpty)) A := by
  have z := sizeLine_eq
  have e1 : eVar i ro A = .ok (stepsD one) A := by unfold eVar; rw [hi]
  have e2 : eArgs gTupD aNil ro A = .ok (.tup []) A := args_ok (ds := []) (A1 := A) rfl (by unfold gTupD; rw [if_pos (by show 0 ≤ sizeLine; omega)])
  have e3 : gNe (stepsD one) (.tup []) A = .ok (.bl (!one.isEmpty)) A := by
    rw [show stepsD one = .tup (one.map tripD) from rfl, gNe_tnil fun d hd => (lay_trips h d hd).le (by omega)]
    cases one <;> rfl
  exact ⟨tcmp_ok (A1 := A) (A2 := A) e1 e2 e3, bin_ok (A1 := A) (A2 := A) e1 e2 e3⟩
theorem elast_ok {i : Nat} {one : List Trip} {t : Trip} (hi : ro[i]? = some (some (stepsD one))) (h : one.getLast? = some t) : eLast i ro A = .ok (.str t.2.1) A := last_ok (by unfold eVar; rw [hi]) h
theorem get_last {one : List Trip} (h : one.isEmpty = false) : ∃ t, one.getLast? = some t ∧ t ∈ one := by
  cases q : one.getLast? with
  | none => rw [List.getLast?_eq_none_iff] at q; rw [q] at h; cases h
  | some t => exact ⟨t, rfl, List.mem_of_getLast? q⟩
theorem get_head {one : List Trip} (h : one.isEmpty = false) : ∃ t, one.head? = some t := by
  cases one with
  | nil => cases h
  | cons t r => exact ⟨t, rfl⟩
theorem pick_e {one : List Trip} (S : AllS n T A) (hk : k < n) (hT : T ≤ 2 ^ 30) (h1 : ro[1]? = some (some (.ref k))) (h2 : ro[2]? = some (some (stepsD one))) (o1 : OkSt one) : ∃ (x : Str) (B : Hd), ePick ro A = .ok (.str x) B ∧ laidS x = true ∧ AllS n (T + 1) B ∧ Upd k A B := by
  have la : laidS "a" = true ∧ laidS "b" = true ∧ laidS "c" = true := by decide +kernel
  obtain ⟨y, hy, ly⟩ : ∃ y : Str, eIf (tCmpD gNe (eVar 2) (eArgs gTupD aNil)) (eLast 2) (eC (.str "c")) ro A = .ok (.str y) A ∧ laidS y = true := by
    have t := (nne_ok (A := A) h2 o1).1
    cases q : one.isEmpty with
    | true =>
      rw [q] at t
      exact ⟨"c", if_ok (z := false) t rfl, la.2.2⟩
    | false =>
      rw [q] at t
      obtain ⟨u, hu, um⟩ := get_last q
      exact ⟨u.2.1, if_ok (z := true) t ((if_pos rfl).trans (elast_ok h2 hu)), (o1 u um).2.1⟩
  have l : eArgs gLstD (aCons (eC (.str "a")) (aCons (eC (.str "b")) (aCons (eIf (tCmpD gNe (eVar 2) (eArgs gTupD aNil)) (eLast 2) (eC (.str "c"))) aNil))) ro A = .ok (.lst [.str "a", .str "b", .str y]) A :=
    lstL (ds := [.str "a", .str "b", .str y]) (acons_ok (d := .str "a") (A1 := A) rfl (acons_ok (d := .str "b") (A1 := A) rfl (acons_ok hy (show aNil _ _ = .ok [] _ from rfl)))) (by simp)
  obtain ⟨x', B, e, m, S', U⟩ := pickU (X := []) (ds := [.str "a", .str "b", .str y]) (S.ss hk) (by omega) (by simp) (by simp)
  rw [List.append_nil, List.append_nil] at e
  obtain ⟨x, rfl, hx⟩ : ∃ x, x' = D.str x ∧ laidS x = true := by
    simp only [List.mem_cons, List.not_mem_nil, or_false] at m
    rcases m with rfl | rfl | rfl
    · exact ⟨_, rfl, la.1⟩
    · exact ⟨_, rfl, la.2.1⟩
    · exact ⟨_, rfl, ly⟩
  exact ⟨x, B, args2_ok (d := .ref k) (e := .lst [.str "a", .str "b", .str y]) (A1 := A) (A2 := A) (by unfold eVar; rw [h1]) l e, hx, S.step (by omega) S' U, U⟩
theorem reason_e {i : Nat} {st : List Trip} (S : AllS n T A) (hk : k < n) (hT : T ≤ 2 ^ 30) (h1 : ro[1]? = some (some (.ref k))) (hi : ro[i]? = some (some (stepsD st))) : ∃ m B, eReason i ro A = .ok (.ref A.length) (B ++ [m]) ∧ (∀ X, IsCh (B ++ [m] ++ X) A.length st) ∧ AllS n (T + 1) (B ++ [m]) ∧ Upd k A B := by
  obtain ⟨m, B, e, g1, g2, S', U⟩ := reasonU (st := st) (S.ss hk) (by omega)
  exact ⟨m, B, args2_ok (d := .ref k) (e := stepsD st) (A1 := A) (A2 := A) (by unfold eVar; rw [h1]) (by unfold eVar; rw [hi]) e, g1, (S.step (by omega) S' U).app fun m' hm z => by rw [List.mem_singleton] at hm; subst hm; exact g2 z, U⟩
end
end K23

set_option Elab.async false
set_option linter.all false
set_option maxRecDepth 100000
namespace K23
open PySem PySem.Spec PyProof.Rows L2 DV
section
variable {n k : Nat} {A : Hd} {T : Int} {ro : DV.Env} {one other : List Trip} {p q : Nat}
theorem good_e (h2 : ro[2]? = some (some (stepsD one))) (h4 : ro[4]? = some (some (stepsD other))) (o1 : OkSt one) (o2 : OkSt other) : eGood ro A = .ok (.bl (good one other)) A := by
  have n1 := (nne_ok (A := A) h2 o1).2
  have n2 := (nne_ok (A := A) h4 o2).2
  cases e1 : one.isEmpty with
  | true =>
    rw [e1] at n1
    have : good one other = false := by
      rw [List.isEmpty_iff] at e1
      subst e1
      rfl
    rw [this]
    exact and_ok (z := false) n1 rfl
  | false =>
    rw [e1] at n1
    obtain ⟨t, ht, _⟩ := get_last e1
    refine and_ok (z := true) n1 ((if_pos rfl).trans ?_)
    cases e2 : other.isEmpty with
    | true =>
      rw [e2] at n2
      have : good one other = false := by
        rw [List.isEmpty_iff] at e2
        subst e2
        unfold good
        cases one.getLast? <;> rfl
      rw [this]
      exact and_ok (z := false) n2 rfl
    | false =>
      rw [e2] at n2
      obtain ⟨u, hu⟩ := get_head e2
      refine and_ok (z := true) n2 ((if_pos rfl).trans ?_)
      have : good one other = decide (t.2.1 = u.1) := by unfold good; rw [ht, hu]
      rw [this]
      exact bin_ok (A1 := A) (A2 := A) (elast_ok h2 ht) (head_ok (by unfold eVar; rw [h4]) hu) (gEq_strs _ _ _)
def dueD (one other : List Trip) : D := if good one other then .tup [stepsD (one ++ other), .int ((one ++ other).length : Nat)] else .str "steps"
theorem due_lay (o1 : OkSt one) (o2 : OkSt other) : LayK 50 (dueD one other) := by
  unfold dueD
  split
  · refine (lay_tup (k := 2) fun d hd => ?_).le (by omega)
    simp only [List.mem_cons, List.not_mem_nil, or_false] at hd
    rcases hd with rfl | rfl
    · exact lay_steps (ok_app o1 o2)
    · exact lay_int _
  · exact lay_str (by decide +kernel)
theorem due_e (h2 : ro[2]? = some (some (stepsD one))) (h4 : ro[4]? = some (some (stepsD other))) (h7 : ro[7]? = some (some (.bl (good one other)))) (l1 : one.length ≤ 100) (l2 : other.length ≤ 100) : eDue ro A = .ok (dueD one other) A := by
  have z := sizeLine_eq
  have v2 : eVar 2 ro A = .ok (stepsD one) A := by unfold eVar; rw [h2]
  have v4 : eVar 4 ro A = .ok (stepsD other) A := by unfold eVar; rw [h4]
  have v7 : tOfE (eVar 7) ro A = .ok (good one other) A := trub_ok (by unfold eVar; rw [h7])
  have len : ∀ {i : Nat} {st : List Trip}, eVar i ro A = .ok (stepsD st) A → eArgs gLen (aCons (eVar i) aNil) ro A = .ok (.int (st.length : Nat)) A := fun {i st} h => args1_ok (A1 := A) h (by
    show R.ok (D.int ((st.map tripD).length : Nat)) A = _
    rw [List.length_map])
  refine if_ok v7 ?_
  unfold dueD
  cases good one other with
  | false => rfl
  | true =>
    rw [if_pos rfl, if_pos rfl]
    have ad : eBin gAdd (eVar 2) (eVar 4) ro A = .ok (stepsD (one ++ other)) A := bin_ok (A1 := A) (A2 := A) v2 v4 (by
      unfold stepsD gAdd
      dsimp only
      rw [if_pos (by rw [List.length_map, List.length_map]; omega), List.map_append])
    have al : eBin gAdd (eArgs gLen (aCons (eVar 2) aNil)) (eArgs gLen (aCons (eVar 4) aNil)) ro A = .ok (.int ((one ++ other).length : Nat)) A := bin_ok (A1 := A) (A2 := A) (len v2) (len v4) (by
      show R.ok (D.int ((one.length : Int) + (other.length : Nat))) A = _
      rw [List.length_append]
      rfl)
    exact tupL (ds := [stepsD (one ++ other), .int ((one ++ other).length : Nat)]) (acons_ok ad (acons_ok al (show aNil _ _ = .ok [] _ from rfl))) (by simp)
theorem one_e (low : ∀ m ∈ A, ∀ z, M.lt z m = true) (h2 : ro[2]? = some (some (stepsD one))) (h4 : ro[4]? = some (some (stepsD other))) (h5 : ro[5]? = some (some (.ref p))) (h6 : ro[6]? = some (some (.ref q))) (h8 : ro[8]? = some (some (dueD one other)))
    (c1 : IsCh A p one) (c2 : IsCh A q other) (o1 : OkSt one) (o2 : OkSt other) (l1 : one.length ≤ 100) (l2 : other.length ≤ 100) : tOne ro A = .ok false A := by
  have v2 : eVar 2 ro A = .ok (stepsD one) A := by unfold eVar; rw [h2]
  have v4 : eVar 4 ro A = .ok (stepsD other) A := by unfold eVar; rw [h4]
  have v5 : eVar 5 ro A = .ok (.ref p) A := by unfold eVar; rw [h5]
  have v6 : eVar 6 ro A = .ok (.ref q) A := by unfold eVar; rw [h6]
  have v8 : eVar 8 ro A = .ok (dueD one other) A := by unfold eVar; rw [h8]
  have sm : F__law_sum [.ref p, .ref q] A = .ok (dueD one other) A := by
    unfold dueD
    cases hg : good one other with
    | false => exact sum_no low c1 c2 o1 o2 hg
    | true => exact sum_ok low c1 c2 o1 o2 l1 l2 hg
  have se : eArgs (fun ds A => F__law_sum (ds ++ []) A) (aCons (eVar 5) (aCons (eVar 6) aNil)) ro A = .ok (dueD one other) A := args2_ok (d := .ref p) (e := .ref q) (A1 := A) (A2 := A) v5 v6 sm
  have len : ∀ {i : Nat} {st : List Trip}, eVar i ro A = .ok (stepsD st) A → eArgs gLen (aCons (eVar i) aNil) ro A = .ok (.int (st.length : Nat)) A := fun {i st} h => args1_ok (A1 := A) h (by
    show R.ok (D.int ((st.map tripD).length : Nat)) A = _
    rw [List.length_map])
  have la : eArgs gLstD (aCons (eUn (gLenO tab___len__) (eVar 5)) (aCons (eUn (gLenO tab___len__) (eVar 6)) aNil)) ro A = .ok (.lst [.int (one.length : Nat), .int (other.length : Nat)]) A :=
    lstL (ds := [.int (one.length : Nat), .int (other.length : Nat)]) (acons_ok (un_ok v5 (lenO_ok c1 (by omega))) (acons_ok (un_ok v6 (lenO_ok c2 (by omega))) (show aNil _ _ = .ok [] _ from rfl))) (by simp)
  have lb : eArgs gLstD (aCons (eArgs gLen (aCons (eVar 2) aNil)) (aCons (eArgs gLen (aCons (eVar 4) aNil)) aNil)) ro A = .ok (.lst [.int (one.length : Nat), .int (other.length : Nat)]) A :=
    lstL (ds := [.int (one.length : Nat), .int (other.length : Nat)]) (acons_ok (len v2) (acons_ok (len v4) (show aNil _ _ = .ok [] _ from rfl))) (by simp)
  have lay : LayK 50 (.lst [.int (one.length : Nat), .int (other.length : Nat)]) := (lay_lst (k := 2) fun d hd => by
    simp only [List.mem_cons, List.not_mem_nil, or_false] at hd
    rcases hd with rfl | rfl <;> exact lay_int _).le (by omega)
  exact tor_f (A1 := A) (tcmp_ok (A1 := A) (A2 := A) se v8 (gNe_refl (due_lay o1 o2))) (tcmp_ok (A1 := A) (A2 := A) la lb (gNe_refl lay))
theorem third_e (S : AllS n T A) (hk : k < n) (hT : T ≤ 2 ^ 30) (h1 : ro[1]? = some (some (.ref k))) (h4 : ro[4]? = some (some (stepsD other))) (o2 : OkSt other) :
    ∃ st C, eThird ro A = .ok (.ref C.length) (C ++ [chain st]) ∧ OkSt st ∧ st.length ≤ 2 ∧ (other.isEmpty = false → good other st = true) ∧ AllS n (T + 20) C ∧ Upd k A C := by
  have z := sizeLine_eq
  have t := (nne_ok (A := A) h4 o2).1
  obtain ⟨st, C, e, g1, g2, g3, g4, g5⟩ : ∃ st C, eIf (tCmpD gNe (eVar 4) (eArgs gTupD aNil)) (eRow (eLast 4) (eC (.int 2))) (eArgs gTupD aNil) ro A = .ok (stepsD st) C ∧ OkSt st ∧ st.length ≤ 2 ∧ (other.isEmpty = false → good other st = true) ∧ AllS n (T + 20) C ∧ Upd k A C := by
    cases q : other.isEmpty with
    | true =>
      rw [q] at t
      refine ⟨[], A, if_ok (z := false) t ?_, fun t ht => (by cases ht), by simp, fun h => (by cases h), S.le (by omega), Upd.refl k A⟩
      exact args_ok (ds := []) (A1 := A) rfl (by unfold gTupD; rw [if_pos (by show 0 ≤ sizeLine; omega)]; rfl)
    | false =>
      rw [q] at t
      obtain ⟨u, hu, um⟩ := get_last q
      obtain ⟨st, C, e, c1, c2, c3, c4, c5⟩ := row_e (ro := ro) (A := A) (B := A) (a := eLast 4) (m := eC (.int 2)) (x := u.2.1) (c := 2) S hk hT h1 (elast_ok h4 hu) rfl (o2 u um).2.1 (by omega)
      refine ⟨st, C, if_ok (z := true) t ((if_pos rfl).trans e), c2, by omega, fun _ => ?_, c4, c5⟩
      obtain ⟨v, hv⟩ : ∃ v, st.head? = some v := by
        cases st with
        | nil => cases c1
        | cons v r => exact ⟨v, rfl⟩
      unfold good
      rw [hu, hv]
      exact decide_eq_true (c3 v hv).symm
  exact ⟨st, C, args1_ok (A1 := C) e mkChain, g1, g2, g3, g4, g5⟩
theorem good_l {a b c : List Trip} (h : good b c = true) : good (a ++ b) c = true := by
  unfold good at *
  cases hb : b.getLast? with
  | none => rw [hb] at h; cases h
  | some t =>
    rw [hb] at h
    have : (a ++ b).getLast? = some t := by rw [List.getLast?_append, hb]; rfl
    rw [this]
    exact h
theorem good_r {a b c : List Trip} (h : good a b = true) : good a (b ++ c) = true := by
  unfold good at *
  cases b with
  | nil => cases ha : a.getLast? <;> rw [ha] at h <;> cases h
  | cons u r => exact h
theorem good_ne {a b : List Trip} (h : good a b = true) : b.isEmpty = false := by
  cases b with
  | nil =>
    unfold good at h
    cases ha : a.getLast? <;> rw [ha] at h <;> cases h
  | cons u r => rfl
theorem low_ch {st : List Trip} : ∀ m ∈ [chain st], ∀ z, M.lt z m = true := low_one
theorem two_e {w : Nat} {st : List Trip} (S : AllS n T A) (h5 : ro[5]? = some (some (.ref p))) (h6 : ro[6]? = some (some (.ref q))) (h7 : ro[7]? = some (some (.bl (good one other)))) (h9 : ro[9]? = some (some (.ref w)))
    (c1 : IsCh A p one) (c2 : IsCh A q other) (c3 : IsCh A w st) (o1 : OkSt one) (o2 : OkSt other) (o3 : OkSt st) (l1 : one.length ≤ 40) (l2 : other.length ≤ 40) (l3 : st.length ≤ 40) (hg : other.isEmpty = false → good other st = true) :
    ∃ X, tTwo ro A = .ok false (A ++ X) ∧ AllS n T (A ++ X) := by
  have v7 : tOfE (eVar 7) ro A = .ok (good one other) A := trub_ok (by unfold eVar; rw [h7])
  cases g : good one other with
  | false =>
    rw [g] at v7
    exact ⟨[], by rw [List.append_nil]; exact tand_ok v7 rfl, by rw [List.append_nil]; exact S⟩
  | true =>
    rw [g] at v7
    have g2 := hg (good_ne g)
    let A1 : Hd := A ++ [chain (one ++ other)]
    let A2 : Hd := A1 ++ [chain ((one ++ other) ++ st)]
    let A3 : Hd := A2 ++ [chain (other ++ st)]
    let A4 : Hd := A3 ++ [chain (one ++ (other ++ st))]
    have v : ∀ {i j : Nat} (B : Hd), ro[i]? = some (some (D.ref j)) → eVar i ro B = .ok (.ref j) B := fun B h => by unfold eVar; rw [h]
    have b1 : eBin (gOwn2 tab___add__) (eVar 5) (eVar 6) ro A = .ok (.ref A.length) A1 := bin_ok (A1 := A) (A2 := A) (v A h5) (v A h6) ((own_add c1 c2).trans (add_ok c1 c2 o1 o2 (by omega) (by omega) g))
    have k1 : IsCh A1 A.length (one ++ other) := chain_is at_new
    have k1w : IsCh A1 w st := is_app c3
    have b2 : eBin (gOwn2 tab___add__) (eBin (gOwn2 tab___add__) (eVar 5) (eVar 6)) (eVar 9) ro A = .ok (.ref A1.length) A2 := bin_ok (A1 := A1) (A2 := A1) b1 (v A1 h9) ((own_add k1 k1w).trans (add_ok k1 k1w (ok_app o1 o2) o3 (by rw [List.length_append]; omega) (by omega) (good_l g2)))
    have k2q : IsCh A2 q other := is_app (is_app c2)
    have k2w : IsCh A2 w st := is_app k1w
    have b3 : eBin (gOwn2 tab___add__) (eVar 6) (eVar 9) ro A2 = .ok (.ref A2.length) A3 := bin_ok (A1 := A2) (A2 := A2) (v A2 h6) (v A2 h9) ((own_add k2q k2w).trans (add_ok k2q k2w o2 o3 (by omega) (by omega) g2))
    have k3p : IsCh A3 p one := is_app (is_app (is_app c1))
    have k3 : IsCh A3 A2.length (other ++ st) := chain_is at_new
    have b4 : eBin (gOwn2 tab___add__) (eVar 5) (eBin (gOwn2 tab___add__) (eVar 6) (eVar 9)) ro A2 = .ok (.ref A3.length) A4 := bin_ok (A1 := A2) (A2 := A3) (v A2 h5) b3 ((own_add k3p k3).trans (add_ok k3p k3 o1 (ok_app o2 o3) (by omega) (by rw [List.length_append]; omega) (good_r g)))
    have e1 : A4[A1.length]? = some (chain ((one ++ other) ++ st)) := by
      have q1 : A2[A1.length]? = some (chain ((one ++ other) ++ st)) := at_new
      have l1 : A1.length < A2.length := (List.getElem?_eq_some_iff.mp q1).1
      show (A3 ++ _)[A1.length]? = _
      have l2 : A1.length < A3.length := by
        have h : A3.length = A2.length + 1 := List.length_append
        omega
      rw [List.getElem?_append_left l2]
      show (A2 ++ _)[A1.length]? = _
      rw [List.getElem?_append_left l1]
      exact q1
    have e2 : A4[A3.length]? = some (chain ((one ++ other) ++ st)) := by
      have q2 : A4[A3.length]? = some (chain (one ++ (other ++ st))) := at_new
      rw [List.append_assoc]
      exact q2
    refine ⟨[chain (one ++ other)] ++ [chain ((one ++ other) ++ st)] ++ [chain (other ++ st)] ++ [chain (one ++ (other ++ st))], ?_, ?_⟩
    · rw [← List.append_assoc, ← List.append_assoc, ← List.append_assoc]
      exact tand_ok v7 ((if_pos rfl).trans (tcmp_ok (A1 := A2) (A2 := A4) b2 b4 (neO_ok e1 e2 (ok_app (ok_app o1 o2) o3))))
    · rw [← List.append_assoc, ← List.append_assoc, ← List.append_assoc]
      exact (((S.app low_ch).app low_ch).app low_ch).app low_ch
theorem three_e (h2 : ro[2]? = some (some (stepsD one))) (h4 : ro[4]? = some (some (stepsD other))) (h5 : ro[5]? = some (some (.ref p))) (h6 : ro[6]? = some (some (.ref q))) (c1 : IsCh A p one) (c2 : IsCh A q other) (o1 : OkSt one) (o2 : OkSt other) : tThree ro A = .ok false A :=
  tor_f (A1 := A) (tcmp_ok (A1 := A) (A2 := A) (fld_ok c1 h5) (by unfold eVar; rw [h2]) (gNe_refl ((lay_steps o1).le (by omega)))) (tcmp_ok (A1 := A) (A2 := A) (fld_ok c2 h6) (by unfold eVar; rw [h4]) (gNe_refl ((lay_steps o2).le (by omega))))
end
end K23

set_option Elab.async false
set_option linter.all false
set_option maxRecDepth 100000
namespace K23
open PySem PySem.Spec PyProof.Rows L2 DV
theorem turn_ok {n k : Nat} {A : Hd} {T : Int} {s t2 t3 t4 t5 t6 t7 t8 t9 : Option D} (S : AllS n T A) (hk : k < n) (hT : T ≤ 2 ^ 29) :
    ∃ (u2 u3 u4 u5 u6 u7 u8 u9 : Option D) (B : Hd), bTurn [s, some (.ref k), t2, t3, t4, t5, t6, t7, t8, t9, none] A = .go .nx [s, some (.ref k), u2, u3, u4, u5, u6, u7, u8, u9, none] B ∧ AllS n (T + 100) B := by
  let ro0 : DV.Env := [s, some (.ref k), t2, t3, t4, t5, t6, t7, t8, t9, none]
  obtain ⟨m1, B1, e1, hm1, S1, U1⟩ := next_e (ro := ro0) S hk (by omega) rfl
  obtain ⟨one, B2, e2, l1, o1, _, S2, U2⟩ := row_e (ro := ro0) (A := A) (B := B1) (a := eC (.str "a")) (m := eNext 4) (x := "a") (c := m1) S1 hk (by omega) rfl rfl e1 (by decide +kernel) (by omega)
  let ro1 : DV.Env := [s, some (.ref k), some (stepsD one), t3, t4, t5, t6, t7, t8, t9, none]
  have s1 : sAsg (eRow (eC (.str "a")) (eNext 4)) (gNm 2) ro0 A = .go .nx ro1 B2 := (sasg_ok e2).trans rfl
  obtain ⟨x, B3, e3, lx, S3, U3⟩ := pick_e (ro := ro1) S2 hk (by omega) rfl rfl o1
  let ro2 : DV.Env := [s, some (.ref k), some (stepsD one), some (.str x), t4, t5, t6, t7, t8, t9, none]
  have s2 : sAsg ePick (gNm 3) ro1 B2 = .go .nx ro2 B3 := (sasg_ok e3).trans rfl
  obtain ⟨m2, B4, e4, hm2, S4, U4⟩ := next_e (ro := ro2) S3 hk (by omega) rfl
  obtain ⟨other, B5, e5, l2, o2, _, S5, U5⟩ := row_e (ro := ro2) (A := B3) (B := B4) (a := eVar 3) (m := eNext 4) (x := x) (c := m2) S4 hk (by omega) rfl rfl e4 lx (by omega)
  let ro3 : DV.Env := [s, some (.ref k), some (stepsD one), some (.str x), some (stepsD other), t5, t6, t7, t8, t9, none]
  have s3 : sAsg (eRow (eVar 3) (eNext 4)) (gNm 4) ro2 B3 = .go .nx ro3 B5 := (sasg_ok e5).trans rfl
  obtain ⟨m, C1, e6, is1, S6, U6⟩ := reason_e (ro := ro3) (i := 2) S5 hk (by omega) rfl rfl
  obtain ⟨m', C2, e7, is2, S7, U7⟩ := reason_e (ro := ro3) (A := C1 ++ [m]) (i := 4) S6 hk (by omega) rfl rfl
  have kp : k < B5.length := (S5.ss hk).lt
  have np : B5.length ≠ k := Nat.ne_of_gt kp
  have kq : k < (C1 ++ [m]).length := (S6.ss hk).lt
  have nq : (C1 ++ [m]).length ≠ k := Nat.ne_of_gt kq
  let p := B5.length
  let q := (C1 ++ [m]).length
  let D1 : Hd := C2 ++ [m']
  have c1 : IsCh D1 p one := by
    have h := is1 []
    rw [List.append_nil] at h
    exact is_app (is_upd h U7 np)
  have c2 : IsCh D1 q other := by
    have h := is2 []
    rw [List.append_nil] at h
    exact h
  let ro5 : DV.Env := [s, some (.ref k), some (stepsD one), some (.str x), some (stepsD other), some (.ref p), some (.ref q), t7, t8, t9, none]
  have s4 : sPar (aCons (eReason 2) (aCons (eReason 4) aNil)) [5, 6] ro3 B5 = .go .nx ro5 D1 := by
    unfold sPar
    rw [acons_ok e6 (acons_ok e7 (show aNil ro3 D1 = .ok [] D1 from rfl)), R.then_ok]
    rfl
  let ro7 : DV.Env := [s, some (.ref k), some (stepsD one), some (.str x), some (stepsD other), some (.ref p), some (.ref q), some (.bl (good one other)), t8, t9, none]
  have s5 : sAsg eGood (gNm 7) ro5 D1 = .go .nx ro7 D1 := (sasg_ok (good_e (ro := ro5) (one := one) (other := other) rfl rfl o1 o2)).trans rfl
  let ro8 : DV.Env := [s, some (.ref k), some (stepsD one), some (.str x), some (stepsD other), some (.ref p), some (.ref q), some (.bl (good one other)), some (dueD one other), t9, none]
  have s6 : sAsg eDue (gNm 8) ro7 D1 = .go .nx ro8 D1 := (sasg_ok (due_e (ro := ro7) (one := one) (other := other) rfl rfl rfl (by omega) (by omega))).trans rfl
  have w1 : sIf tOne (sRet (eC (.bl false))) sNx ro8 D1 = .go .nx ro8 D1 := sif_ok (z := false) (A1 := D1) (one_e (p := p) (q := q) S7.low rfl rfl rfl rfl rfl c1 c2 o1 o2 (by omega) (by omega)) rfl
  obtain ⟨st, C3, e9, o3, l3, hg, S9, U9⟩ := third_e (ro := ro8) (other := other) S7 hk (by omega) rfl rfl o2
  let F1 : Hd := C3 ++ [chain st]
  let ro9 : DV.Env := [s, some (.ref k), some (stepsD one), some (.str x), some (stepsD other), some (.ref p), some (.ref q), some (.bl (good one other)), some (dueD one other), some (.ref C3.length), none]
  have w2 : sAsg eThird (gNm 9) ro8 D1 = .go .nx ro9 F1 := (sasg_ok e9).trans rfl
  have d1 : IsCh F1 p one := is_app (is_upd c1 U9 np)
  have d2 : IsCh F1 q other := is_app (is_upd c2 U9 nq)
  have d3 : IsCh F1 C3.length st := chain_is at_new
  obtain ⟨X, e10, S10⟩ := two_e (ro := ro9) (p := p) (q := q) (w := C3.length) (S9.app low_ch) rfl rfl rfl rfl d1 d2 d3 o1 o2 o3 (by omega) (by omega) (by omega) hg
  have w3 : sIf tTwo (sRet (eC (.bl false))) sNx ro9 F1 = .go .nx ro9 (F1 ++ X) := sif_ok (z := false) e10 rfl
  have w4 : sIf tThree (sRet (eC (.bl false))) sNx ro9 (F1 ++ X) = .go .nx ro9 (F1 ++ X) := sif_ok (z := false) (A1 := F1 ++ X) (three_e (p := p) (q := q) rfl rfl rfl rfl (is_app d1) (is_app d2) o1 o2) rfl
  exact ⟨_, _, _, _, _, _, _, _, F1 ++ X, sseq_ok s1 (sseq_ok s2 (sseq_ok s3 (sseq_ok s4 (sseq_ok s5 (sseq_ok s6 (sseq_ok w1 (sseq_ok w2 (sseq_ok w3 w4)))))))), S10.le (by omega)⟩
/-! ### the sources, and the law -/
theorem toPs_ints : ∀ ns : List Int, toPs (ns.map D.int) = some (ns.map PyData.int) ∧ PyData.canLayAll0 (ns.map PyData.int) = true ∧ PyData.depthAll (ns.map PyData.int) = 0
  | [] => ⟨rfl, rfl, rfl⟩
  | n :: ns => by
    obtain ⟨h1, h2, h3⟩ := toPs_ints ns
    refine ⟨?_, ?_, ?_⟩
    · rw [List.map_cons]; unfold toPs; rw [h1]; rfl
    · rw [List.map_cons]; unfold PyData.canLayAll0; rw [h2]; rfl
    · rw [List.map_cons]; unfold PyData.depthAll; rw [h3]; rfl
theorem gNe_scr {ns : List Int} {A : Hd} : gNe (.scr (ns.map D.int)) (.lst []) A = .ok (.bl (!ns.isEmpty)) A := by
  obtain ⟨h1, h2, h3⟩ := toPs_ints ns
  have e : eqP A (.scr (ns.map D.int)) (.lst []) = some ns.isEmpty := by
    unfold eqP
    have e1 : toP (deR A (.scr (ns.map D.int))) = some (.list (ns.map PyData.int)) := by
      show toP (.scr _) = _
      unfold toP
      rw [h1]
    have e2 : toP (deR A (.lst [])) = some (.list []) := by
      show toP (.lst []) = _
      unfold toP
      rfl
    rw [e1, e2]
    have s1 : SeqAt.shaped (.list (ns.map PyData.int)) = true := by
      unfold SeqAt.shaped
      rw [Bool.and_eq_true]
      refine ⟨by unfold PyData.canLay0; exact h2, decide_eq_true ?_⟩
      unfold PyData.depth
      omega
    have s2 : SeqAt.shaped (.list []) = true := by decide +kernel
    show (if SeqAt.shaped (.list (ns.map PyData.int)) = true ∧ SeqAt.shaped (.list []) = true then some (PyData.eqv (.list (ns.map PyData.int)) (.list [])) else none) = _
    rw [if_pos ⟨s1, s2⟩]
    cases ns <;> rfl
  unfold gNe
  simp only [e]
theorem sourceU {ns : List Int} {kk n : Nat} {A : Hd} (hl : ns.length ≤ 63) (hk : kk ≤ 10) (S : AllS n 30 A) (hn : A.length = n) : ∃ m, F__law_source [.scr (ns.map D.int), .int kk] A = .ok (.ref n) (A ++ [m]) ∧ AllS (n + 1) 30 (A ++ [m]) := by
  have pw : CPow 10 18 := ⟨by omega, by omega, by decide⟩
  have z3 : 3 ≤ sizeLine := by rw [sizeLine_eq]; omega
  have mul : CMul 3 (kk : Int) := .inl ⟨by omega, by omega⟩
  have cell : ∃ c : Int, eIf (tCmpD gNe (eVar 0) (eArgs gLstD aNil)) (eBin gSubD (eVar 0) (eBin gMod (eVar 1) (eArgs gLen (aCons (eVar 0) aNil)))) (eC (.int 1)) [some (.scr (ns.map D.int)), some (.int kk), none] A = .ok (.int c) A := by
    by_cases hn : ns = []
    · subst hn
      exact ⟨1, if_ok (z := false) (A1 := A) (tcmp_ok (d := .scr (([] : List Int).map D.int)) (e := .lst []) (A1 := A) (A2 := A) rfl (args_ok (ds := []) (A1 := A) rfl rfl) (gNe_scr (ns := []))) rfl⟩
    · have hpos : 0 < ns.length := List.length_pos_iff.mpr hn
      have ml : (ns.map D.int).length = ns.length := List.length_map ..
      obtain ⟨x, hx, mx⟩ := atI_of (xs := ns.map D.int) (i := (kk : Int) % (ns.length : Int)) (Int.emod_nonneg _ (by omega)) (by rw [ml]; exact Int.emod_lt_of_pos _ (by omega))
      obtain ⟨c, _, rfl⟩ := List.mem_map.mp mx
      refine ⟨c, if_ok (z := true) (A1 := A) (tcmp_ok (d := .scr (ns.map D.int)) (e := .lst []) (A1 := A) (A2 := A) rfl (args_ok (ds := []) (A1 := A) rfl rfl) ((gNe_scr (ns := ns)).trans ?_)) ?_⟩
      · cases ns with
        | nil => exact absurd rfl hn
        | cons _ _ => rfl
      · rw [if_pos rfl]
        refine bin_ok (d := .scr (ns.map D.int)) (e := .int ((kk : Int) % (ns.length : Int))) (A1 := A) (A2 := A) rfl (bin_ok (d := .int kk) (e := .int ns.length) (A1 := A) (A2 := A) rfl (args1_ok (d := .scr (ns.map D.int)) (A1 := A) rfl (by
          show R.ok (D.int ((ns.map D.int).length : Nat)) A = _
          rw [ml])) ?_) (sub_scr hx)
        show (if (0 : Int) < (ns.length : Int) then R.ok (D.int ((kk : Int) % (ns.length : Int))) A else .stk) = _
        rw [if_pos (by omega)]
  obtain ⟨c, hc⟩ := cell
  let m0 : M := .lst [.int c, .int (3 * kk), .int (if 10 ^ 18 ≤ c then c / 10 ^ 18 else 0)]
  have h3 : eIf (tCmpD gGe (eVar 2) (eBin gPow (eC (.int 10)) (eC (.int 18)))) (eBin gDiv (eVar 2) (eBin gPow (eC (.int 10)) (eC (.int 18)))) (eC (.int 0)) [some (.scr (ns.map D.int)), some (.int kk), some (.int c)] A = .ok (.int (if 10 ^ 18 ≤ c then c / 10 ^ 18 else 0)) A := by
    have hp : eBin gPow (eC (.int 10)) (eC (.int 18)) [some (.scr (ns.map D.int)), some (.int kk), some (.int c)] A = .ok (.int (10 ^ 18)) A := bin_ok (A1 := A) (A2 := A) rfl rfl (by unfold gPow; simp [pw])
    refine if_ok (z := decide ((10 : Int) ^ 18 ≤ c)) (A1 := A) (tcmp_ok (d := .int c) (A1 := A) (A2 := A) rfl hp rfl) ?_
    by_cases q : (10 : Int) ^ 18 ≤ c
    · rw [if_pos (decide_eq_true q), if_pos q]
      refine bin_ok (d := .int c) (A1 := A) (A2 := A) rfl hp ?_
      have cd : CDivW c (10 ^ 18) := ⟨by omega, by decide +kernel⟩
      unfold gDiv
      simp only [cd, if_true]
    · rw [if_neg (by simpa using q), if_neg q]
      rfl
  have hm : eBin gMul (eC (.int 3)) (eVar 1) [some (.scr (ns.map D.int)), some (.int kk), some (.int c)] A = .ok (.int (3 * kk)) A := bin_ok (d := .int 3) (e := .int kk) (A1 := A) (A2 := A) rfl rfl (by unfold gMul; simp [mul])
  have hr : eArgs gLstM (aCons (eVar 2) (aCons (eBin gMul (eC (.int 3)) (eVar 1)) (aCons (eIf (tCmpD gGe (eVar 2) (eBin gPow (eC (.int 10)) (eC (.int 18)))) (eBin gDiv (eVar 2) (eBin gPow (eC (.int 10)) (eC (.int 18)))) (eC (.int 0))) aNil))) [some (.scr (ns.map D.int)), some (.int kk), some (.int c)] A = .ok (.ref A.length) (A ++ [m0]) := args_ok (acons_ok (a := eVar 2) (d := .int c) (A1 := A) rfl (acons_ok hm (acons_ok h3 (show aNil _ _ = .ok [] A from rfl)))) (by
    unfold gLstM
    rw [if_pos (by exact z3)])
  have lm : ∀ m ∈ [m0], ∀ z, M.lt z m = true := fun m hm z => by
    rw [List.mem_singleton] at hm
    subst hm
    simp [m0, M.lt, D.lts, D.lt]
  refine ⟨m0, ?_, fun j hj => ?_, (S.app lm).low⟩
  · show finK (b__law_source [some (.scr (ns.map D.int)), some (.int kk), none] A) = _
    unfold b__law_source
    have all := sseq_ok (p := sAsg (eIf (tCmpD gNe (eVar 0) (eArgs gLstD aNil)) (eBin gSubD (eVar 0) (eBin gMod (eVar 1) (eArgs gLen (aCons (eVar 0) aNil)))) (eC (.int 1))) (gNm 2)) (ro := [some (.scr (ns.map D.int)), some (.int kk), none]) (A := A) (sasg_ok hc) (sret_ok hr)
    rw [all, hn]
    rfl
  · by_cases q : j < n
    · exact (S.app lm).src j q
    · have : j = n := by omega
      subst this
      refine ⟨c, 3 * kk, _, by rw [← hn]; exact at_new, by omega, by omega, ?_⟩
      split
      · exact Int.ediv_nonneg (by omega) (by omega)
      · omega
theorem law_ok {ns : List Int} (hl : ns.length ≤ 63) : ∃ A', F_law [.scr (ns.map D.int)] [] = .ok (.bl true) A' := by
  have z := sizeLine_eq
  let mm : Int := if (ns.length : Int) < 3 then ns.length else 3
  let nn : Int := if mm > 1 then mm else 1
  have n1 : 1 ≤ nn := by show 1 ≤ (if mm > 1 then mm else 1); split <;> omega
  have n4 : nn ≤ 3 := by
    have : mm ≤ 3 := by show (if (ns.length : Int) < 3 then (ns.length : Int) else 3) ≤ 3; split <;> omega
    show (if mm > 1 then mm else 1) ≤ 3
    split <;> omega
  let ro0 : DV.Env := [some (.scr (ns.map D.int)), none, none, none, none, none, none, none, none, none, none]
  have rg : iRange1 (aCons (eArgs gMax2 (aCons (eC (.int 1)) (aCons (eArgs gMin2 (aCons (eC (.int 3)) (aCons (eArgs gLen (aCons (eVar 0) aNil)) aNil))) aNil))) aNil) ro0 [] = .ok (.fix (rangeD 0 nn.toNat)) [] := by
    refine rng_ok (n := nn) (A1 := []) (args2_ok (d := .int 1) (e := .int mm) (A1 := []) (A2 := []) rfl (args2_ok (d := .int 3) (e := .int ns.length) (A1 := []) (A2 := []) rfl (args1_ok (d := .scr (ns.map D.int)) (A1 := []) rfl ?_) rfl) rfl) (by omega) (by omega)
    show R.ok (D.int ((ns.map D.int).length : Nat)) ([] : Hd) = _
    rw [List.length_map]
  have rl : (rangeD 0 nn.toNat).length = nn.toNat := by simp [rangeD]
  obtain ⟨ys, A1, c1, ⟨c2, c3⟩, c4, c5⟩ := compD_run (s := .fix (rangeD 0 nn.toNat)) (pt := .one 10) (vs := [10]) (tt := ttYes) (te := eArgs (fun ds A => F__law_source (ds ++ []) A) (aCons (eVar 0) (aCons (eVar 10) aNil))) (ro := ro0)
    (I := fun i A => AllS i 30 A ∧ A.length = i) (G := fun d => ∃ j, d = D.ref j ∧ j < nn.toNat) (fun _ A _ => here_fix _ A) (rangeD 0 nn.toNat) [] 0 [] (by rw [rl]; simp; omega) ⟨⟨fun j hj => absurd hj (Nat.not_lt_zero _), fun m hm => (by cases hm)⟩, rfl⟩ (fun d hd => (by cases hd)) (by
      rintro i d A hd ⟨S, hA⟩
      obtain ⟨hi, rfl⟩ : i < nn.toNat ∧ d = .int (i : Nat) := by
        have hi : i < nn.toNat := by
          have := (List.getElem?_eq_some_iff.mp hd).1
          simpa [rangeD] using this
        refine ⟨hi, ?_⟩
        unfold rangeD at hd
        rw [List.getElem?_map, List.getElem?_range hi] at hd
        have := Option.some.inj hd
        rw [← this]
        show D.int (0 + (i : Int)) = _
        rw [Int.zero_add]
      rw [Nat.zero_add] at S hA ⊢
      obtain ⟨m, f, S2⟩ := sourceU (ns := ns) (kk := i) hl (by omega) S hA
      refine ⟨[some (.scr (ns.map D.int)), none, none, none, none, none, none, none, none, none, some (.int (i : Nat))], rfl, true, A, rfl, fun h => (by cases h), fun _ => ⟨.ref i, A ++ [m], ?_, ⟨i, rfl, hi⟩, S2, by rw [List.length_append, hA]; rfl⟩⟩
      exact args2_ok (d := .scr (ns.map D.int)) (e := .int (i : Nat)) (A1 := A) (A2 := A) rfl rfl f)
  rw [rl, Nat.zero_add] at c2 c3
  rw [rl] at c5
  have ce : eComp (iRange1 (aCons (eArgs gMax2 (aCons (eC (.int 1)) (aCons (eArgs gMin2 (aCons (eC (.int 3)) (aCons (eArgs gLen (aCons (eVar 0) aNil)) aNil))) aNil))) aNil)) (.one 10) [10] ttYes (eArgs (fun ds A => F__law_source (ds ++ []) A) (aCons (eVar 0) (aCons (eVar 10) aNil))) ro0 [] = .ok (.lst ys) A1 := comp_ok rg c1
  obtain ⟨ro', A', e, t1, t2, t3, t4, t5, t6, t7, t8, t9, rfl, low⟩ := forD_run (s := .fix ys) (g := gNm 1) (b := bTurn)
    (I := fun i ro A' => ∃ (t1 t2 t3 t4 t5 t6 t7 t8 t9 : Option D), ro = [some (.scr (ns.map D.int)), t1, t2, t3, t4, t5, t6, t7, t8, t9, none] ∧ AllS nn.toNat (30 + 100 * (i : Nat)) A')
    (fun _ _ A _ => here_fix _ A) ys 0 ro0 A1 ⟨none, none, none, none, none, none, none, none, none, rfl, c2.le (by omega)⟩ (by
      rintro i d ro A2 hd ⟨t1, t2, t3, t4, t5, t6, t7, t8, t9, rfl, S⟩
      have hi := (List.getElem?_eq_some_iff.mp hd).1
      simp only [List.length_nil, Nat.zero_add] at c5
      obtain ⟨j, rfl, hj⟩ := c4 d (List.mem_of_getElem? hd)
      obtain ⟨u2, u3, u4, u5, u6, u7, u8, u9, A3, g, S3⟩ := turn_ok (k := j) (s := some (.scr (ns.map D.int))) (t2 := t2) (t3 := t3) (t4 := t4) (t5 := t5) (t6 := t6) (t7 := t7) (t8 := t8) (t9 := t9) S hj (by omega)
      exact ⟨_, A3, step_okL g, _, _, _, _, _, _, _, _, _, rfl, S3.le (by omega)⟩)
  have main : b_law (startD 11 [.scr (ns.map D.int)]) [] = .go (.ret (.bl true)) [some (.scr (ns.map D.int)), t1, t2, t3, t4, t5, t6, t7, t8, t9, none] A' := by
    rw [law_parts]
    exact sseq_ok (sfor_ok (s := .fix ys) (seq_ok ce rfl) e) (sret_ok rfl)
  refine ⟨[], ?_⟩
  unfold F_law
  show finR [] (b_law (startD 11 [.scr (ns.map D.int)]) []) = _
  rw [main]
  rfl
end K23

set_option Elab.async false
set_option linter.all false
set_option maxRecDepth 100000
set_option maxHeartbeats 0
namespace K23
open PySem PySem.Spec PyProof.Rows L2 DV

theorem all_mk {P : Program} {w : World} {K : PySem.W.Frag} {h : Heap} {mg : Str → Option Value} {fa f0 f1 f2 f3 f4 f5 f6 f7 f8 f9 f10 f11 f12 f13 f14 C_WorldError C_BadSteps fI_BadSteps cc_BadSteps co_BadSteps C_Reason C_Chain C_Through C_Ring : Addr} {nm_BadSteps q_BadSteps : Str} {N_BadSteps : Addr} {bs_BadSteps sz_BadSteps : List Value} {sn_BadSteps : List Str} {ab_BadSteps : Bool} {col_BadSteps : Option Bool} {dd_BadSteps : Option Addr} {k0_BadSteps k1_BadSteps k2_BadSteps k3_BadSteps k5_BadSteps : Option Value} {od_BadSteps cd_BadSteps ld_BadSteps : Option Addr} {oc_BadSteps dc_BadSteps pm_BadSteps cv_BadSteps ccl_BadSteps lcl_BadSteps : Value} {osl_BadSteps ccs_BadSteps lsl_BadSteps : Array (Option Value)} {va_BadSteps : Array Value} {file_BadSteps : Str} {tf_BadSteps : Tok} {uk_Chain_KIND : Value} {uk_Through_KIND : Value} {uk_Ring_KIND : Value} {ox_Chain : Value} {oy_Chain : Option Addr} {cx_Chain : ClassData} {oz_Chain : Array (Option Value)} {ox_Through : Value} {oy_Through : Option Addr} {cx_Through : ClassData} {oz_Through : Array (Option Value)} {ox_Ring : Value} {oy_Ring : Option Addr} {cx_Ring : ClassData} {oz_Ring : Array (Option Value)} {cc4 co4 : Addr} {va4 : Array Value} {sk4 sj4 sD4 : Array (Option Value)} {file4 : Str} {tf4 : Tok} {ld4 oE4 : Option Addr} {oD4 : Value} {cD4 : ClassData} {cc5 co5 : Addr} {va5 : Array Value} {sk5 sj5 sD5 : Array (Option Value)} {file5 : Str} {tf5 : Tok} {ld5 oE5 : Option Addr} {oD5 : Value} {cD5 : ClassData} {cc9 co9 : Addr} {va9 : Array Value} {sk9 sj9 sD9 : Array (Option Value)} {file9 : Str} {tf9 : Tok} {ld9 oE9 : Option Addr} {oD9 : Value} {cD9 : ClassData} (X : K.In h) (G : h.Ns mainGlobals mg) (hfa : mg "law" = some (.ref fa))
    {od0 an0 od1 an1 od2 an2 od3 an3 od4 an4 od5 an5 od6 an6 od7 an7 od8 an8 od9 an9 od10 an10 od11 an11 od12 an12 od13 an13 od14 an14 : Option Addr} {sl0 sl1 sl2 sl3 sl4 sl5 sl6 sl7 sl8 sl9 sl10 sl11 sl12 sl13 sl14 : Array (Option Value)} {oc0 kV0 dc0 pm0 cd0 ct0 oc1 kV1 dc1 pm1 cd1 ct1 oc2 kV2 dc2 pm2 cd2 ct2 oc3 kV3 dc3 pm3 cd3 ct3 oc4 kV4 dc4 pm4 cd4 ct4 oc5 kV5 dc5 pm5 cd5 ct5 oc6 kV6 dc6 pm6 cd6 ct6 oc7 kV7 dc7 pm7 cd7 ct7 oc8 kV8 dc8 pm8 cd8 ct8 oc9 kV9 dc9 pm9 cd9 ct9 oc10 kV10 dc10 pm10 cd10 ct10 oc11 kV11 dc11 pm11 cd11 ct11 oc12 kV12 dc12 pm12 cd12 ct12 oc13 kV13 dc13 pm13 cd13 ct13 oc14 kV14 dc14 pm14 cd14 ct14 : Value}
    (a0 : PySem.W.nsIn K mainGlobals "_law_next" = some (some (.ref f0))) (l0 : K.lookup f0 = some ⟨oc0, od0, .func (PySem.W.fnOf "_law_next" "_law_next" (defArgs s__law_next) (defBody s__law_next) (defScope s__law_next) .none kV0 dc0 pm0 an0 cd0 ct0), sl0⟩) (c0 : PySem.W.codeIn K cd0 "_law_next" = true) (k0 : PySem.W.keepIn K (.ref f0) = true)
    (a1 : PySem.W.nsIn K mainGlobals "_law_pick" = some (some (.ref f1))) (l1 : K.lookup f1 = some ⟨oc1, od1, .func (PySem.W.fnOf "_law_pick" "_law_pick" (defArgs s__law_pick) (defBody s__law_pick) (defScope s__law_pick) .none kV1 dc1 pm1 an1 cd1 ct1), sl1⟩) (c1 : PySem.W.codeIn K cd1 "_law_pick" = true) (k1 : PySem.W.keepIn K (.ref f1) = true)
    (a2 : PySem.W.nsIn K mainGlobals "_law_row_of_steps" = some (some (.ref f2))) (l2 : K.lookup f2 = some ⟨oc2, od2, .func (PySem.W.fnOf "_law_row_of_steps" "_law_row_of_steps" (defArgs s__law_row_of_steps) (defBody s__law_row_of_steps) (defScope s__law_row_of_steps) .none kV2 dc2 pm2 an2 cd2 ct2), sl2⟩) (c2 : PySem.W.codeIn K cd2 "_law_row_of_steps" = true) (k2 : PySem.W.keepIn K (.ref f2) = true)
    (a6 : PySem.W.nsIn K mainGlobals "_law_reason" = some (some (.ref f6))) (l6 : K.lookup f6 = some ⟨oc6, od6, .func (PySem.W.fnOf "_law_reason" "_law_reason" (defArgs s__law_reason) (defBody s__law_reason) (defScope s__law_reason) .none kV6 dc6 pm6 an6 cd6 ct6), sl6⟩) (c6 : PySem.W.codeIn K cd6 "_law_reason" = true) (k6 : PySem.W.keepIn K (.ref f6) = true)
    (a12 : PySem.W.nsIn K mainGlobals "_law_sum" = some (some (.ref f12))) (l12 : K.lookup f12 = some ⟨oc12, od12, .func (PySem.W.fnOf "_law_sum" "_law_sum" (defArgs s__law_sum) (defBody s__law_sum) (defScope s__law_sum) .none kV12 dc12 pm12 an12 cd12 ct12), sl12⟩) (c12 : PySem.W.codeIn K cd12 "_law_sum" = true) (k12 : PySem.W.keepIn K (.ref f12) = true)
    (a13 : PySem.W.nsIn K mainGlobals "_law_source" = some (some (.ref f13))) (l13 : K.lookup f13 = some ⟨oc13, od13, .func (PySem.W.fnOf "_law_source" "_law_source" (defArgs s__law_source) (defBody s__law_source) (defScope s__law_source) .none kV13 dc13 pm13 an13 cd13 ct13), sl13⟩) (c13 : PySem.W.codeIn K cd13 "_law_source" = true) (k13 : PySem.W.keepIn K (.ref f13) = true)
    (a14 : PySem.W.nsIn K mainGlobals "law" = some (some (.ref f14))) (l14 : K.lookup f14 = some ⟨oc14, od14, .func (PySem.W.fnOf "law" "law" (defArgs s_law) (defBody s_law) (defScope s_law) .none kV14 dc14 pm14 an14 cd14 ct14), sl14⟩) (c14 : PySem.W.codeIn K cd14 "law" = true) (k14 : PySem.W.keepIn K (.ref f14) = true)
    (z_len : PySem.W.nsIn K mainGlobals "len" = some none)
    (z_range : PySem.W.nsIn K mainGlobals "range" = some none)
    (z_tuple : PySem.W.nsIn K mainGlobals "tuple" = some none)
    (z_isinstance : PySem.W.nsIn K mainGlobals "isinstance" = some none)
    (z_ValueError : PySem.W.nsIn K mainGlobals "ValueError" = some none)
    (z_max : PySem.W.nsIn K mainGlobals "max" = some none)
    (z_min : PySem.W.nsIn K mainGlobals "min" = some none)
    (aC_WorldError : PySem.W.nsIn K mainGlobals "WorldError" = some (some (.ref C_WorldError)))
    (aC_BadSteps : PySem.W.nsIn K mainGlobals "BadSteps" = some (some (.ref C_BadSteps)))
    (zsup : PySem.W.nsIn K mainGlobals "super" = some none)
    (zopq : PySem.W.nsIn K cStatics "thirdparty.any" = some none)
    (ztop : (P.main.scope.names.lookup ("super" : Str)).isSome = false)
    (nd_C : [C_WorldError, C_BadSteps].Nodup)
    (lC_BadSteps : K.lookup C_BadSteps = some (excClassObj nm_BadSteps q_BadSteps C_BadSteps N_BadSteps bs_BadSteps [.ref C_WorldError, .type "ValueError", .type "Exception", .type "BaseException", .type "object"] true sn_BadSteps sz_BadSteps ab_BadSteps col_BadSteps dd_BadSteps k0_BadSteps k1_BadSteps k2_BadSteps k3_BadSteps k5_BadSteps "ValueError.__new__"))
    (rC_BadSteps : refsT [.type "ValueError", .type "Exception", .type "BaseException", .type "object"] [.ref C_WorldError, .type "ValueError", .type "Exception", .type "BaseException", .type "object"] = true)
    (sC_BadSteps : PySem.W.findIn K (.ref C_BadSteps) "__setattr__" = some (some (.builtin "object.__setattr__")))
    (tC_BadSteps : PySem.W.typeIn K (.ref C_BadSteps) = some (.type "type"))
    (kC_BadSteps : PySem.W.keepIn K (.ref C_BadSteps) = true)
    (iC_BadSteps : PySem.W.findIn K (.ref C_BadSteps) "__init__" = some (some (.ref fI_BadSteps)))
    (tI_BadSteps : PySem.W.typeIn K (.ref fI_BadSteps) = some (.type "function"))
    (lF_BadSteps : K.lookup fI_BadSteps = some ⟨oc_BadSteps, od_BadSteps, .func ((initF s_init_BadSteps "BadSteps.__init__" cc_BadSteps co_BadSteps).fd dc_BadSteps pm_BadSteps cv_BadSteps), osl_BadSteps⟩)
    (cI_BadSteps : PySem.W.codeIn K (.ref co_BadSteps) "BadSteps.__init__" = true)
    (lo_BadSteps : K.lookup co_BadSteps = some ⟨ccl_BadSteps, cd_BadSteps, .fields va_BadSteps, ccs_BadSteps⟩)
    (vs_BadSteps : va_BadSteps[2]? = some (.str file_BadSteps tf_BadSteps))
    (fi_BadSteps : ((P.main.file : Str) == file_BadSteps) = true)
    (lc_BadSteps : K.lookup cc_BadSteps = some ⟨lcl_BadSteps, ld_BadSteps, .cell (some (.ref C_BadSteps)), lsl_BadSteps⟩)
    (su_BadSteps : PySem.W.ks_superIn K C_BadSteps C_BadSteps "__init__" = some (some (.builtin "ValueError.__init__")))
    (sv_BadSteps : PySem.W.subIn K (.ref C_BadSteps) (.type "ValueError") = some true)
    (ms_BadSteps : PySem.W.mroIn K C_BadSteps (.ref C_BadSteps) = some true)
    (nf_BadSteps_reason : PySem.W.findIn K (.ref C_BadSteps) "reason" = some none)
    (ga_BadSteps : PySem.W.findIn K (.ref C_BadSteps) "__getattribute__" = some (some (.builtin "BaseException.__getattribute__")))
    (gg_BadSteps : PySem.W.findIn K (.ref C_BadSteps) "__getattr__" = some none)
    (ca_BadSteps : PySem.W.findIn K (.ref C_BadSteps) "__class__" = some (some (.builtin "object.__class__")))
    (mo_BadSteps : PySem.W.mroIn K C_BadSteps (.type "object") = some true)
    (eC_WorldError : PySem.W.subIn K (.ref C_WorldError) (.type "BaseException") = some true)
    (hd_WorldError : PySem.W.hasDictIn K C_WorldError = true)
    (tC_WorldError : PySem.W.typeIn K (.ref C_WorldError) = some (.type "type"))
    (eC_BadSteps : PySem.W.subIn K (.ref C_BadSteps) (.type "BaseException") = some true)
    (hd_BadSteps : PySem.W.hasDictIn K C_BadSteps = true)
    (hnC : PySem.W.specialIn K (.builtin "object.__class__") "__get__" = some (some (.builtin "getset_descriptor.__get__")))
    (htC : PySem.W.takesIn K (.builtin "object.__class__") = some true)
    (aC_Reason : PySem.W.nsIn K mainGlobals "Reason" = some (some (.ref C_Reason)))
    (aC_Chain : PySem.W.nsIn K mainGlobals "Chain" = some (some (.ref C_Chain)))
    (aC_Through : PySem.W.nsIn K mainGlobals "Through" = some (some (.ref C_Through)))
    (aC_Ring : PySem.W.nsIn K mainGlobals "Ring" = some (some (.ref C_Ring)))
    (pg_Chain : PySem.W.plainGet K C_Chain Str.empty = true)
    (hd_Chain : PySem.W.hasDictIn K C_Chain = true)
    (po_Chain : PySem.W.plainOver K C_Chain = true)
    (sa_Chain : PySem.W.findIn K (.ref C_Chain) "__setattr__" = some (some (.builtin "object.__setattr__")))
    (nf_Chain_steps : PySem.W.findIn K (.ref C_Chain) "steps" = some none)
    (ck_Chain_KIND : PySem.W.findIn K (.ref C_Chain) "KIND" = some (some uk_Chain_KIND))
    (r_Chain_KIND : RelV (V.str "chain") uk_Chain_KIND)
    (gk_Chain_KIND : PySem.W.specialIn K uk_Chain_KIND "__get__" = some none)
    (pg_Through : PySem.W.plainGet K C_Through Str.empty = true)
    (hd_Through : PySem.W.hasDictIn K C_Through = true)
    (po_Through : PySem.W.plainOver K C_Through = true)
    (sa_Through : PySem.W.findIn K (.ref C_Through) "__setattr__" = some (some (.builtin "object.__setattr__")))
    (nf_Through_steps : PySem.W.findIn K (.ref C_Through) "steps" = some none)
    (nf_Through_name : PySem.W.findIn K (.ref C_Through) "name" = some none)
    (ck_Through_KIND : PySem.W.findIn K (.ref C_Through) "KIND" = some (some uk_Through_KIND))
    (r_Through_KIND : RelV (V.str "through") uk_Through_KIND)
    (gk_Through_KIND : PySem.W.specialIn K uk_Through_KIND "__get__" = some none)
    (pg_Ring : PySem.W.plainGet K C_Ring Str.empty = true)
    (hd_Ring : PySem.W.hasDictIn K C_Ring = true)
    (po_Ring : PySem.W.plainOver K C_Ring = true)
    (sa_Ring : PySem.W.findIn K (.ref C_Ring) "__setattr__" = some (some (.builtin "object.__setattr__")))
    (nf_Ring_steps : PySem.W.findIn K (.ref C_Ring) "steps" = some none)
    (ck_Ring_KIND : PySem.W.findIn K (.ref C_Ring) "KIND" = some (some uk_Ring_KIND))
    (r_Ring_KIND : RelV (V.str "ring") uk_Ring_KIND)
    (gk_Ring_KIND : PySem.W.specialIn K uk_Ring_KIND "__get__" = some none)
    (iM_Chain_fields : PySem.W.findIn K (.ref C_Chain) "fields" = some (some (.ref f8)))
    (iM_Through_fields : PySem.W.findIn K (.ref C_Through) "fields" = some (some (.ref f9)))
    (iM_Ring_fields : PySem.W.findIn K (.ref C_Ring) "fields" = some (some (.ref f8)))
    (iM_Chain___add__ : PySem.W.findIn K (.ref C_Chain) "__add__" = some (some (.ref f7)))
    (iM_Through___add__ : PySem.W.findIn K (.ref C_Through) "__add__" = some (some (.ref f7)))
    (iM_Ring___add__ : PySem.W.findIn K (.ref C_Ring) "__add__" = some (some (.ref f7)))
    (iM_Chain___eq__ : PySem.W.findIn K (.ref C_Chain) "__eq__" = some (some (.ref f10)))
    (iM_Through___eq__ : PySem.W.findIn K (.ref C_Through) "__eq__" = some (some (.ref f10)))
    (iM_Ring___eq__ : PySem.W.findIn K (.ref C_Ring) "__eq__" = some (some (.ref f10)))
    (iM_Chain___len__ : PySem.W.findIn K (.ref C_Chain) "__len__" = some (some (.ref f11)))
    (iM_Through___len__ : PySem.W.findIn K (.ref C_Through) "__len__" = some (some (.ref f11)))
    (iM_Ring___len__ : PySem.W.findIn K (.ref C_Ring) "__len__" = some (some (.ref f11)))
    (iM_Chain___init__ : PySem.W.findIn K (.ref C_Chain) "__init__" = some (some (.ref f3)))
    (iM_Ring___init__ : PySem.W.findIn K (.ref C_Ring) "__init__" = some (some (.ref f4)))
    (iM_Through___init__ : PySem.W.findIn K (.ref C_Through) "__init__" = some (some (.ref f5)))
    (su_Ring___init___Ring : PySem.W.ks_superIn K C_Ring C_Ring "__init__" = some (some (.ref f3)))
    (sS_Ring_Ring : PySem.W.subIn K (.ref C_Ring) (.ref C_Ring) = some true)
    (su_Through___init___Through : PySem.W.ks_superIn K C_Through C_Through "__init__" = some (some (.ref f3)))
    (sS_Through_Through : PySem.W.subIn K (.ref C_Through) (.ref C_Through) = some true)
    (su_Through_fields_Through : PySem.W.ks_superIn K C_Through C_Through "fields" = some (some (.ref f8)))
    (mk_Chain : PySem.W.makesIn K C_Chain = true)
    (kC_Chain : PySem.W.keepIn K (.ref C_Chain) = true)
    (mk_Ring : PySem.W.makesIn K C_Ring = true)
    (kC_Ring : PySem.W.keepIn K (.ref C_Ring) = true)
    (mk_Through : PySem.W.makesIn K C_Through = true)
    (kC_Through : PySem.W.keepIn K (.ref C_Through) = true)
    (tyR : PySem.W.findIn K (.type "type") "__radd__" = some none)
    (sf_Chain : PySem.W.selfFirst K C_Chain = true)
    (nr_Chain : PySem.W.findIn K (.ref C_Chain) "__radd__" = some none)
    (rd_Chain : PySem.W.readsIn K C_Chain (.type "type") = true)
    (lX_Chain : K.lookup C_Chain = some ⟨ox_Chain, oy_Chain, .cls cx_Chain, oz_Chain⟩)
    (fi_sn_Chain : shortC cx_Chain "__radd__" = true)
    (sb_Chain_Chain : PySem.W.subIn K (.ref C_Chain) (.ref C_Chain) = some true)
    (sb_Chain_Through : PySem.W.subIn K (.ref C_Through) (.ref C_Chain) = some true)
    (sb_Chain_Ring : PySem.W.subIn K (.ref C_Ring) (.ref C_Chain) = some true)
    (sf_Through : PySem.W.selfFirst K C_Through = true)
    (nr_Through : PySem.W.findIn K (.ref C_Through) "__radd__" = some none)
    (rd_Through : PySem.W.readsIn K C_Through (.type "type") = true)
    (lX_Through : K.lookup C_Through = some ⟨ox_Through, oy_Through, .cls cx_Through, oz_Through⟩)
    (fi_sn_Through : shortC cx_Through "__radd__" = true)
    (sb_Through_Chain : PySem.W.subIn K (.ref C_Chain) (.ref C_Through) = some false)
    (sb_Through_Through : PySem.W.subIn K (.ref C_Through) (.ref C_Through) = some true)
    (sb_Through_Ring : PySem.W.subIn K (.ref C_Ring) (.ref C_Through) = some false)
    (sf_Ring : PySem.W.selfFirst K C_Ring = true)
    (nr_Ring : PySem.W.findIn K (.ref C_Ring) "__radd__" = some none)
    (rd_Ring : PySem.W.readsIn K C_Ring (.type "type") = true)
    (lX_Ring : K.lookup C_Ring = some ⟨ox_Ring, oy_Ring, .cls cx_Ring, oz_Ring⟩)
    (fi_sn_Ring : shortC cx_Ring "__radd__" = true)
    (sb_Ring_Chain : PySem.W.subIn K (.ref C_Chain) (.ref C_Ring) = some false)
    (sb_Ring_Through : PySem.W.subIn K (.ref C_Through) (.ref C_Ring) = some false)
    (sb_Ring_Ring : PySem.W.subIn K (.ref C_Ring) (.ref C_Ring) = some true)
    (nq_Chain : PySem.W.findIn K (.ref C_Chain) "__ne__" = some (some (.builtin "object.__ne__")))
    (ob_Chain : PySem.W.subIn K (.ref C_Chain) (.type "object") = some true)
    (nq_Through : PySem.W.findIn K (.ref C_Through) "__ne__" = some (some (.builtin "object.__ne__")))
    (ob_Through : PySem.W.subIn K (.ref C_Through) (.type "object") = some true)
    (nq_Ring : PySem.W.findIn K (.ref C_Ring) "__ne__" = some (some (.builtin "object.__ne__")))
    (ob_Ring : PySem.W.subIn K (.ref C_Ring) (.type "object") = some true)
    (hd_Reason : PySem.W.hasDictIn K C_Reason = true)
    (tC_Reason : PySem.W.typeIn K (.ref C_Reason) = some (.type "type"))
    (tC_Chain : PySem.W.typeIn K (.ref C_Chain) = some (.type "type"))
    (tC_Through : PySem.W.typeIn K (.ref C_Through) = some (.type "type"))
    (tC_Ring : PySem.W.typeIn K (.ref C_Ring) = some (.type "type"))
    (ca_Chain : PySem.W.findIn K (.ref C_Chain) "__class__" = some (some (.builtin "object.__class__")))
    (mo_Chain : PySem.W.mroIn K C_Chain (.type "object") = some true)
    (si_Chain_Reason : PySem.W.subIn K (.ref C_Chain) (.ref C_Reason) = some true)
    (si_Chain_Chain : PySem.W.subIn K (.ref C_Chain) (.ref C_Chain) = some true)
    (si_Chain_Through : PySem.W.subIn K (.ref C_Chain) (.ref C_Through) = some false)
    (si_Chain_Ring : PySem.W.subIn K (.ref C_Chain) (.ref C_Ring) = some false)
    (ca_Through : PySem.W.findIn K (.ref C_Through) "__class__" = some (some (.builtin "object.__class__")))
    (mo_Through : PySem.W.mroIn K C_Through (.type "object") = some true)
    (si_Through_Reason : PySem.W.subIn K (.ref C_Through) (.ref C_Reason) = some true)
    (si_Through_Chain : PySem.W.subIn K (.ref C_Through) (.ref C_Chain) = some true)
    (si_Through_Through : PySem.W.subIn K (.ref C_Through) (.ref C_Through) = some true)
    (si_Through_Ring : PySem.W.subIn K (.ref C_Through) (.ref C_Ring) = some false)
    (ca_Ring : PySem.W.findIn K (.ref C_Ring) "__class__" = some (some (.builtin "object.__class__")))
    (mo_Ring : PySem.W.mroIn K C_Ring (.type "object") = some true)
    (si_Ring_Reason : PySem.W.subIn K (.ref C_Ring) (.ref C_Reason) = some true)
    (si_Ring_Chain : PySem.W.subIn K (.ref C_Ring) (.ref C_Chain) = some true)
    (si_Ring_Through : PySem.W.subIn K (.ref C_Ring) (.ref C_Through) = some false)
    (si_Ring_Ring : PySem.W.subIn K (.ref C_Ring) (.ref C_Ring) = some true)
    (ne_Chain_Through : C_Chain ≠ C_Through)
    (ne_Ring_Through : C_Ring ≠ C_Through)
    (ne_Chain_Ring : C_Chain ≠ C_Ring)
    (ne_Through_Ring : C_Through ≠ C_Ring)
    (l3 : K.lookup f3 = some ⟨oc3, od3, .func (PySem.W.fnOf "__init__" "Chain.__init__" (defArgs s_Chain___init__) (defBody s_Chain___init__) (defScope s_Chain___init__) .none kV3 dc3 pm3 an3 cd3 ct3), sl3⟩) (c3 : PySem.W.codeIn K cd3 "Chain.__init__" = true) (k3 : PySem.W.keepIn K (.ref f3) = true) (t3 : PySem.W.isFn K (.ref f3) = true) (y3 : PySem.W.typeIn K (.ref f3) = some (.type "function")) (g3 : PySem.W.fnIn K f3 = true)
    (l4 : K.lookup f4 = some ⟨oc4, od4, .func ((methF "__init__" "Ring.__init__" s_Ring___init__ cc4 co4).fd dc4 pm4 ct4), sl4⟩) (c4 : PySem.W.codeIn K (.ref co4) "Ring.__init__" = true) (k4 : PySem.W.keepIn K (.ref f4) = true) (t4 : PySem.W.isFn K (.ref f4) = true) (y4 : PySem.W.typeIn K (.ref f4) = some (.type "function")) (g4 : PySem.W.fnIn K f4 = true) (lo4 : K.lookup co4 = some ⟨kV4, an4, .fields va4, sk4⟩) (vs_4 : va4[2]? = some (.str file4 tf4)) (fi_4 : ((P.main.file : Str) == file4) = true) (lc4 : K.lookup cc4 = some ⟨cd4, ld4, .cell (some (.ref C_Ring)), sj4⟩) (lD4 : K.lookup C_Ring = some ⟨oD4, oE4, .cls cD4, sD4⟩)
    (l5 : K.lookup f5 = some ⟨oc5, od5, .func ((methF "__init__" "Through.__init__" s_Through___init__ cc5 co5).fd dc5 pm5 ct5), sl5⟩) (c5 : PySem.W.codeIn K (.ref co5) "Through.__init__" = true) (k5 : PySem.W.keepIn K (.ref f5) = true) (t5 : PySem.W.isFn K (.ref f5) = true) (y5 : PySem.W.typeIn K (.ref f5) = some (.type "function")) (g5 : PySem.W.fnIn K f5 = true) (lo5 : K.lookup co5 = some ⟨kV5, an5, .fields va5, sk5⟩) (vs_5 : va5[2]? = some (.str file5 tf5)) (fi_5 : ((P.main.file : Str) == file5) = true) (lc5 : K.lookup cc5 = some ⟨cd5, ld5, .cell (some (.ref C_Through)), sj5⟩) (lD5 : K.lookup C_Through = some ⟨oD5, oE5, .cls cD5, sD5⟩)
    (l7 : K.lookup f7 = some ⟨oc7, od7, .func (PySem.W.fnOf "__add__" "Chain.__add__" (defArgs s_Chain___add__) (defBody s_Chain___add__) (defScope s_Chain___add__) .none kV7 dc7 pm7 an7 cd7 ct7), sl7⟩) (c7 : PySem.W.codeIn K cd7 "Chain.__add__" = true) (k7 : PySem.W.keepIn K (.ref f7) = true) (t7 : PySem.W.isFn K (.ref f7) = true) (y7 : PySem.W.typeIn K (.ref f7) = some (.type "function")) (g7 : PySem.W.fnIn K f7 = true)
    (l8 : K.lookup f8 = some ⟨oc8, od8, .func (PySem.W.fnOf "fields" "Chain.fields" (defArgs s_Chain_fields) (defBody s_Chain_fields) (defScope s_Chain_fields) .none kV8 dc8 pm8 an8 cd8 ct8), sl8⟩) (c8 : PySem.W.codeIn K cd8 "Chain.fields" = true) (k8 : PySem.W.keepIn K (.ref f8) = true) (t8 : PySem.W.isFn K (.ref f8) = true) (y8 : PySem.W.typeIn K (.ref f8) = some (.type "function")) (g8 : PySem.W.fnIn K f8 = true)
    (l9 : K.lookup f9 = some ⟨oc9, od9, .func ((methF "fields" "Through.fields" s_Through_fields cc9 co9).fd dc9 pm9 ct9), sl9⟩) (c9 : PySem.W.codeIn K (.ref co9) "Through.fields" = true) (k9 : PySem.W.keepIn K (.ref f9) = true) (t9 : PySem.W.isFn K (.ref f9) = true) (y9 : PySem.W.typeIn K (.ref f9) = some (.type "function")) (g9 : PySem.W.fnIn K f9 = true) (lo9 : K.lookup co9 = some ⟨kV9, an9, .fields va9, sk9⟩) (vs_9 : va9[2]? = some (.str file9 tf9)) (fi_9 : ((P.main.file : Str) == file9) = true) (lc9 : K.lookup cc9 = some ⟨cd9, ld9, .cell (some (.ref C_Through)), sj9⟩) (lD9 : K.lookup C_Through = some ⟨oD9, oE9, .cls cD9, sD9⟩)
    (l10 : K.lookup f10 = some ⟨oc10, od10, .func (PySem.W.fnOf "__eq__" "Reason.__eq__" (defArgs s_Reason___eq__) (defBody s_Reason___eq__) (defScope s_Reason___eq__) .none kV10 dc10 pm10 an10 cd10 ct10), sl10⟩) (c10 : PySem.W.codeIn K cd10 "Reason.__eq__" = true) (k10 : PySem.W.keepIn K (.ref f10) = true) (t10 : PySem.W.isFn K (.ref f10) = true) (y10 : PySem.W.typeIn K (.ref f10) = some (.type "function")) (g10 : PySem.W.fnIn K f10 = true)
    (l11 : K.lookup f11 = some ⟨oc11, od11, .func (PySem.W.fnOf "__len__" "Chain.__len__" (defArgs s_Chain___len__) (defBody s_Chain___len__) (defScope s_Chain___len__) .none kV11 dc11 pm11 an11 cd11 ct11), sl11⟩) (c11 : PySem.W.codeIn K cd11 "Chain.__len__" = true) (k11 : PySem.W.keepIn K (.ref f11) = true) (t11 : PySem.W.isFn K (.ref f11) = true) (y11 : PySem.W.typeIn K (.ref f11) = some (.type "function")) (g11 : PySem.W.fnIn K f11 = true) :
    ∃ fd : FuncData, (∀ (s : Shared) (v : Value), BindsTo s fd ⟨[v], []⟩ [("_law_script", v)]) ∧ ∀ base : Heap, K.In base → base.Ns mainGlobals mg → FnG P w K mg base 6 fa fd ["_law_script"] (fun vs H Q E => ∀ ct, spD K ct 1 F_law vs H Q E) := by
  have e := hfa.symm.trans (PySem.W.mg_of X G a14)
  cases e
  refine ⟨PySem.W.fnOf "law" "law" (defArgs s_law) (defBody s_law) (defScope s_law) .none kV14 dc14 pm14 an14 cd14 ct14, fun s v => .of_eq rfl, fun base _ _ => ?_⟩
  let ctN : String → Addr := fun c => if c = "WorldError" then C_WorldError else if c = "BadSteps" then C_BadSteps else if c = "Reason" then C_Reason else if c = "Chain" then C_Chain else if c = "Through" then C_Through else if c = "Ring" then C_Ring else 0
  have e_WorldError : ctN "WorldError" = C_WorldError := by simp [ctN]
  have e_BadSteps : ctN "BadSteps" = C_BadSteps := by simp [ctN]
  have e_Reason : ctN "Reason" = C_Reason := by simp [ctN]
  have e_Chain : ctN "Chain" = C_Chain := by simp [ctN]
  have e_Through : ctN "Through" = C_Through := by simp [ctN]
  have e_Ring : ctN "Ring" = C_Ring := by simp [ctN]
  have k_WorldError : mg "WorldError" = some (.ref (ctN "WorldError")) := by rw [e_WorldError]; exact PySem.W.mg_of X G aC_WorldError
  have k_BadSteps : mg "BadSteps" = some (.ref (ctN "BadSteps")) := by rw [e_BadSteps]; exact PySem.W.mg_of X G aC_BadSteps
  have k_Reason : mg "Reason" = some (.ref (ctN "Reason")) := by rw [e_Reason]; exact PySem.W.mg_of X G aC_Reason
  have k_Chain : mg "Chain" = some (.ref (ctN "Chain")) := by rw [e_Chain]; exact PySem.W.mg_of X G aC_Chain
  have k_Through : mg "Through" = some (.ref (ctN "Through")) := by rw [e_Through]; exact PySem.W.mg_of X G aC_Through
  have k_Ring : mg "Ring" = some (.ref (ctN "Ring")) := by rw [e_Ring]; exact PySem.W.mg_of X G aC_Ring
  have zs : mg "super" = none := PySem.W.mg_none_of X G zsup
  have x_BadSteps : CalX P w K mg base ctN "BadSteps" "BadSteps" ["reason"] := calX_mk base_VE e_BadSteps (PySem.W.mg_of X G aC_BadSteps) zs (fun g hg => by simp only [List.mem_cons, List.not_mem_nil, or_false] at hg; rcases hg with rfl; exact nf_BadSteps_reason) (by simp) (by simp) rfl ⟨⟨_, _, _, _, _, _, _, _, _, _, _, _, _, _, _, lC_BadSteps, rC_BadSteps⟩, sC_BadSteps, eC_BadSteps, tC_BadSteps, kC_BadSteps, iC_BadSteps, tI_BadSteps, ⟨_, _, _, _, _, _, lF_BadSteps⟩, cI_BadSteps, ⟨_, _, _, _, _, _, lo_BadSteps, vs_BadSteps, fi_BadSteps⟩, ⟨_, _, _, lc_BadSteps⟩, su_BadSteps, sv_BadSteps, ms_BadSteps, zopq, ztop⟩ w_BadSteps
  have u_BadSteps : ClsX K (ctN "BadSteps") := by rw [e_BadSteps]; exact ⟨ga_BadSteps, gg_BadSteps, eC_BadSteps, hd_BadSteps, ca_BadSteps, hnC, htC, mo_BadSteps⟩
  have O_T : Ords K ctN ancT xsT ownT biT := by
    refine ⟨by simpa only [ownT, List.map_cons, List.map_nil, e_WorldError, e_BadSteps] using nd_C, ancOk.sub, fun c hc v => ?_, ancOk.self, ancOk.anco, fun c hc => ?_, fun c hc => ?_, fun c hc => ?_, fun c hc => ?_, ancOk.kmt⟩
    · simp only [xsT, List.mem_cons, List.not_mem_nil, or_false] at hc
      rcases hc with rfl
      · rw [show (ancT "BadSteps").map (ClV ctN) = [.ref (ctN "BadSteps"), .ref (ctN "WorldError"), .type "ValueError", .type "Exception", .type "BaseException", .type "object"] from rfl, e_BadSteps, e_WorldError]; exact mro_of lC_BadSteps v
    · simp only [xsT, List.mem_cons, List.not_mem_nil, or_false] at hc
      rcases hc with rfl
      · exact u_BadSteps.exc
    · simp only [ownT, List.mem_cons, List.not_mem_nil, or_false] at hc
      rcases hc with rfl | rfl
      · rw [e_WorldError]; exact hd_WorldError
      · rw [e_BadSteps]; exact hd_BadSteps
    · simp only [ownT, List.mem_cons, List.not_mem_nil, or_false] at hc
      rcases hc with rfl | rfl
      · rw [e_WorldError]; exact tC_WorldError
      · rw [e_BadSteps]; exact tC_BadSteps
    · simp only [ownT, List.mem_cons, List.not_mem_nil, or_false] at hc
      rcases hc with rfl | rfl
      · rw [e_WorldError]; exact eC_WorldError
      · rw [e_BadSteps]; exact eC_BadSteps
  have i_T : IsT K ctN xsT sbT := O_T.isT
  have t_WorldError : ∀ k b, mt_WorldError k = some b → PySem.W.exmOne K (ClV ctN k) (.ref (ctN "WorldError")) = some b := fun k b h => O_T.mt (D := "WorldError") (by decide) k b h
  have m_len : mg "len" = none := PySem.W.mg_none_of X G z_len
  have m_range : mg "range" = none := PySem.W.mg_none_of X G z_range
  have m_tuple : mg "tuple" = none := PySem.W.mg_none_of X G z_tuple
  have m_isinstance : mg "isinstance" = none := PySem.W.mg_none_of X G z_isinstance
  have m_ValueError : mg "ValueError" = none := PySem.W.mg_none_of X G z_ValueError
  have m_max : mg "max" = none := PySem.W.mg_none_of X G z_max
  have m_min : mg "min" = none := PySem.W.mg_none_of X G z_min
  have cl_Chain : Cls K (ctN "Chain") := by rw [e_Chain]; exact ⟨pg_Chain, hd_Chain, po_Chain, sa_Chain⟩
  have cl_Through : Cls K (ctN "Through") := by rw [e_Through]; exact ⟨pg_Through, hd_Through, po_Through, sa_Through⟩
  have cl_Ring : Cls K (ctN "Ring") := by rw [e_Ring]; exact ⟨pg_Ring, hd_Ring, po_Ring, sa_Ring⟩
  have n__law_next := fun_mk (st := s__law_next) l0 c0 k0
  have b__law_next := n__law_next.binds (ps := ["_law_source_here", "_law_many"]) fun _ _ _ _ _ _ us hl => match us, hl with | [_, _], _ => rfl
  have c__law_next : Cal P w K mg base ctN 1 "_law_next" 2 [] F__law_next := ⟨f0, _, ["_law_source_here", "_law_many"], [], [], o__law_next  n__law_next, PySem.W.mg_of X G a0, k0, b__law_next, .nil, fun _ _ => .nil⟩
  have n__law_pick := fun_mk (st := s__law_pick) l1 c1 k1
  have b__law_pick := n__law_pick.binds (ps := ["_law_source_here", "_law_items"]) fun _ _ _ _ _ _ us hl => match us, hl with | [_, _], _ => rfl
  have c__law_pick : Cal P w K mg base ctN 2 "_law_pick" 2 [] F__law_pick := ⟨f1, _, ["_law_source_here", "_law_items"], [], [], o__law_pick c__law_next m_len n__law_pick, PySem.W.mg_of X G a1, k1, b__law_pick, .nil, fun _ _ => .nil⟩
  have n__law_row_of_steps := fun_mk (st := s__law_row_of_steps) l2 c2 k2
  have b__law_row_of_steps := n__law_row_of_steps.binds (ps := ["_law_source_here", "_law_first", "_law_many"]) fun _ _ _ _ _ _ us hl => match us, hl with | [_, _, _], _ => rfl
  have c__law_row_of_steps : Cal P w K mg base ctN 3 "_law_row_of_steps" 3 [] F__law_row_of_steps := ⟨f2, _, ["_law_source_here", "_law_first", "_law_many"], [], [], o__law_row_of_steps c__law_pick m_range m_tuple n__law_row_of_steps, PySem.W.mg_of X G a2, k2, b__law_row_of_steps, .nil, fun _ _ => .nil⟩
  have v_steps : ∀ c ∈ cs_steps, Cls K (ctN c) ∧ NoAttr K (ctN c) "steps" := by
    intro c hc
    simp only [cs_steps, List.mem_cons, List.not_mem_nil, or_false] at hc
    rcases hc with rfl | rfl | rfl
    · exact ⟨cl_Chain, by rw [e_Chain]; exact nf_Chain_steps⟩
    · exact ⟨cl_Through, by rw [e_Through]; exact nf_Through_steps⟩
    · exact ⟨cl_Ring, by rw [e_Ring]; exact nf_Ring_steps⟩
  have NM_Chain___init__ := fun_mk (st := s_Chain___init__) l3 c3 k3
  have BM_Chain___init__ := NM_Chain___init__.binds (ps := ["self", "steps"]) fun _ _ _ _ _ _ us hl => match us, hl with | [_, _], _ => rfl
  have FM_Chain___init__ : FnG P w K mg base 1 f3 _ ["self", "steps"] (spD K ctN 2 F_Chain___init__) := o_Chain___init__ v_steps NM_Chain___init__
  have u_Ring___init__ : ∀ c F2, sup_Ring_init c = some F2 → SupT P w K mg base ctN 1 (ctN "Ring") "__init__" c 2 F2 := fun c F2 h => by
    unfold sup_Ring_init at h
    split at h
    · rename_i hc; subst hc; cases h; exact ⟨by rw [e_Ring]; exact sS_Ring_Ring, _, _, _, (FM_Chain___init__.mono (by decide)), by rw [e_Ring]; exact su_Ring___init___Ring, y3, g3, BM_Chain___init__⟩
    cases h
  have S_Ring___init__ : SupI P K (ctN "Ring") f4 (methF "__init__" "Ring.__init__" s_Ring___init__ cc4 co4) "self" := by rw [e_Ring]; exact ⟨⟨_, _, _, _, _, _, l4⟩, ⟨_, rfl, rfl⟩, ⟨_, _, _, _, _, _, lo4, vs_4, fi_4⟩, ⟨_, rfl, _, _, _, lc4⟩, ⟨_, _, _, _, lD4⟩, zopq, ztop, by rfl, sc_Ring___init__.frk _ (by simp), sc_Ring___init__.par _ (by simp)⟩
  have BM_Ring___init__ : Binds K ((methF "__init__" "Ring.__init__" s_Ring___init__ cc4 co4).fd dc4 pm4 ct4) ["self", "steps"] [] := .all fun us hl => match us, hl with | [_, _], _ => rfl
  have FM_Ring___init__ : FnG P w K mg base 2 f4 _ ["self", "steps"] (spD K ctN 2 F_Ring___init__) := o_Ring___init__ u_Ring___init__ zs l4 c4 S_Ring___init__
  have v_name : ∀ c ∈ cs_name, Cls K (ctN c) ∧ NoAttr K (ctN c) "name" := by
    intro c hc
    simp only [cs_name, List.mem_cons, List.not_mem_nil, or_false] at hc
    rcases hc with rfl
    · exact ⟨cl_Through, by rw [e_Through]; exact nf_Through_name⟩
  have u_Through___init__ : ∀ c F2, sup_Through_init c = some F2 → SupT P w K mg base ctN 1 (ctN "Through") "__init__" c 2 F2 := fun c F2 h => by
    unfold sup_Through_init at h
    split at h
    · rename_i hc; subst hc; cases h; exact ⟨by rw [e_Through]; exact sS_Through_Through, _, _, _, (FM_Chain___init__.mono (by decide)), by rw [e_Through]; exact su_Through___init___Through, y3, g3, BM_Chain___init__⟩
    cases h
  have S_Through___init__ : SupI P K (ctN "Through") f5 (methF "__init__" "Through.__init__" s_Through___init__ cc5 co5) "self" := by rw [e_Through]; exact ⟨⟨_, _, _, _, _, _, l5⟩, ⟨_, rfl, rfl⟩, ⟨_, _, _, _, _, _, lo5, vs_5, fi_5⟩, ⟨_, rfl, _, _, _, lc5⟩, ⟨_, _, _, _, lD5⟩, zopq, ztop, by rfl, sc_Through___init__.frk _ (by simp), sc_Through___init__.par _ (by simp)⟩
  have BM_Through___init__ : Binds K ((methF "__init__" "Through.__init__" s_Through___init__ cc5 co5).fd dc5 pm5 ct5) ["self", "steps", "name"] [] := .all fun us hl => match us, hl with | [_, _, _], _ => rfl
  have FM_Through___init__ : FnG P w K mg base 2 f5 _ ["self", "steps", "name"] (spD K ctN 3 F_Through___init__) := o_Through___init__ v_name u_Through___init__ zs l5 c5 S_Through___init__
  have n_Chain : MkI P w K mg base ctN 1 "Chain" "Chain" 2 F_Chain___init__ := ⟨k_Chain, _, _, _, by rw [e_Chain]; exact ⟨mk_Chain, iM_Chain___init__, t3, kC_Chain⟩, FM_Chain___init__, BM_Chain___init__⟩
  have n_Ring : MkI P w K mg base ctN 2 "Ring" "Ring" 2 F_Ring___init__ := ⟨k_Ring, _, _, _, by rw [e_Ring]; exact ⟨mk_Ring, iM_Ring___init__, t4, kC_Ring⟩, FM_Ring___init__, BM_Ring___init__⟩
  have n_Through : MkI P w K mg base ctN 2 "Through" "Through" 3 F_Through___init__ := ⟨k_Through, _, _, _, by rw [e_Through]; exact ⟨mk_Through, iM_Through___init__, t5, kC_Through⟩, FM_Through___init__, BM_Through___init__⟩
  have n__law_reason := fun_mk (st := s__law_reason) l6 c6 k6
  have b__law_reason := n__law_reason.binds (ps := ["_law_source_here", "_law_steps"]) fun _ _ _ _ _ _ us hl => match us, hl with | [_, _], _ => rfl
  have c__law_reason : Cal P w K mg base ctN 4 "_law_reason" 2 [] F__law_reason := ⟨f6, _, ["_law_source_here", "_law_steps"], [], [], o__law_reason c__law_next n_Chain n_Ring n_Through n__law_reason, PySem.W.mg_of X G a6, k6, b__law_reason, .nil, fun _ _ => .nil⟩
  have i_I : IsI K ctN tbI := by
    refine ⟨fun c k b h => ?_, fun t k b h => ?_⟩
    · cases k with
      | bi t => cases h
      | own d =>
      have h : (if c ∈ (["Chain", "Through", "Ring"] : List String) ∧ d ∈ (["Reason", "Chain", "Through", "Ring"] : List String) then some (decide (d ∈ ancI c)) else none) = some b := h
      split at h
      · rename_i hh
        obtain ⟨hc, hd⟩ := hh
        simp only [List.mem_cons, List.not_mem_nil, or_false] at hc
        rcases hc with rfl | rfl | rfl
        · exact ⟨cl_Chain, by rw [e_Chain]; exact ca_Chain, hnC, htC, by rw [e_Chain]; exact mo_Chain⟩
        · exact ⟨cl_Through, by rw [e_Through]; exact ca_Through, hnC, htC, by rw [e_Through]; exact mo_Through⟩
        · exact ⟨cl_Ring, by rw [e_Ring]; exact ca_Ring, hnC, htC, by rw [e_Ring]; exact mo_Ring⟩
      · cases h
    · cases k with
      | bi k => cases t <;> cases h
      | own d =>
      cases t with
      | bi t => cases h
      | own c =>
      have h : (if c ∈ (["Chain", "Through", "Ring"] : List String) ∧ d ∈ (["Reason", "Chain", "Through", "Ring"] : List String) then some (decide (d ∈ ancI c)) else none) = some b := h
      split at h
      · rename_i hh
        obtain ⟨hc, hd⟩ := hh
        obtain rfl := Option.some.inj h
        simp only [List.mem_cons, List.not_mem_nil, or_false] at hc hd
        rcases hc with rfl | rfl | rfl
        · rcases hd with rfl | rfl | rfl | rfl
          · rw [show decide (("Reason" : String) ∈ ancI "Chain") = true from by decide]; show PySem.W.kitOne K (.ref (ctN "Chain")) (.ref (ctN "Reason")) = _; rw [e_Chain, e_Reason]; exact kit_own hd_Reason tC_Reason si_Chain_Reason (fun _ => rfl)
          · rw [show decide (("Chain" : String) ∈ ancI "Chain") = true from by decide]; show PySem.W.kitOne K (.ref (ctN "Chain")) (.ref (ctN "Chain")) = _; rw [e_Chain]; exact kit_own hd_Chain tC_Chain si_Chain_Chain (fun _ => rfl)
          · rw [show decide (("Through" : String) ∈ ancI "Chain") = false from by decide]; show PySem.W.kitOne K (.ref (ctN "Chain")) (.ref (ctN "Through")) = _; rw [e_Chain, e_Through]; exact kit_own hd_Through tC_Through si_Chain_Through (fun e => absurd (Value.ref.inj (beq_iff_eq.mp e)) ne_Chain_Through)
          · rw [show decide (("Ring" : String) ∈ ancI "Chain") = false from by decide]; show PySem.W.kitOne K (.ref (ctN "Chain")) (.ref (ctN "Ring")) = _; rw [e_Chain, e_Ring]; exact kit_own hd_Ring tC_Ring si_Chain_Ring (fun e => absurd (Value.ref.inj (beq_iff_eq.mp e)) ne_Chain_Ring)
        · rcases hd with rfl | rfl | rfl | rfl
          · rw [show decide (("Reason" : String) ∈ ancI "Through") = true from by decide]; show PySem.W.kitOne K (.ref (ctN "Through")) (.ref (ctN "Reason")) = _; rw [e_Through, e_Reason]; exact kit_own hd_Reason tC_Reason si_Through_Reason (fun _ => rfl)
          · rw [show decide (("Chain" : String) ∈ ancI "Through") = true from by decide]; show PySem.W.kitOne K (.ref (ctN "Through")) (.ref (ctN "Chain")) = _; rw [e_Through, e_Chain]; exact kit_own hd_Chain tC_Chain si_Through_Chain (fun _ => rfl)
          · rw [show decide (("Through" : String) ∈ ancI "Through") = true from by decide]; show PySem.W.kitOne K (.ref (ctN "Through")) (.ref (ctN "Through")) = _; rw [e_Through]; exact kit_own hd_Through tC_Through si_Through_Through (fun _ => rfl)
          · rw [show decide (("Ring" : String) ∈ ancI "Through") = false from by decide]; show PySem.W.kitOne K (.ref (ctN "Through")) (.ref (ctN "Ring")) = _; rw [e_Through, e_Ring]; exact kit_own hd_Ring tC_Ring si_Through_Ring (fun e => absurd (Value.ref.inj (beq_iff_eq.mp e)) ne_Through_Ring)
        · rcases hd with rfl | rfl | rfl | rfl
          · rw [show decide (("Reason" : String) ∈ ancI "Ring") = true from by decide]; show PySem.W.kitOne K (.ref (ctN "Ring")) (.ref (ctN "Reason")) = _; rw [e_Ring, e_Reason]; exact kit_own hd_Reason tC_Reason si_Ring_Reason (fun _ => rfl)
          · rw [show decide (("Chain" : String) ∈ ancI "Ring") = true from by decide]; show PySem.W.kitOne K (.ref (ctN "Ring")) (.ref (ctN "Chain")) = _; rw [e_Ring, e_Chain]; exact kit_own hd_Chain tC_Chain si_Ring_Chain (fun _ => rfl)
          · rw [show decide (("Through" : String) ∈ ancI "Ring") = false from by decide]; show PySem.W.kitOne K (.ref (ctN "Ring")) (.ref (ctN "Through")) = _; rw [e_Ring, e_Through]; exact kit_own hd_Through tC_Through si_Ring_Through (fun e => absurd (Value.ref.inj (beq_iff_eq.mp e)) ne_Ring_Through)
          · rw [show decide (("Ring" : String) ∈ ancI "Ring") = true from by decide]; show PySem.W.kitOne K (.ref (ctN "Ring")) (.ref (ctN "Ring")) = _; rw [e_Ring]; exact kit_own hd_Ring tC_Ring si_Ring_Ring (fun _ => rfl)
      · cases h
  have NM_Chain___add__ := fun_mk (st := s_Chain___add__) l7 c7 k7
  have BM_Chain___add__ := NM_Chain___add__.binds (ps := ["self", "other"]) fun _ _ _ _ _ _ us hl => match us, hl with | [_, _], _ => rfl
  have FM_Chain___add__ : FnG P w K mg base 3 f7 _ ["self", "other"] (spD K ctN 2 F_Chain___add__) := o_Chain___add__ m_isinstance x_BadSteps k_Chain i_I v_steps n_Chain NM_Chain___add__
  have NM_Chain_fields := fun_mk (st := s_Chain_fields) l8 c8 k8
  have BM_Chain_fields := NM_Chain_fields.binds (ps := ["self"]) fun _ _ _ _ _ _ us hl => match us, hl with | [_], _ => rfl
  have FM_Chain_fields : FnG P w K mg base 1 f8 _ ["self"] (spD K ctN 1 F_Chain_fields) := o_Chain_fields v_steps NM_Chain_fields
  have u_Through_fields : ∀ c F2, sup_Through_fields c = some F2 → SupT P w K mg base ctN 1 (ctN "Through") "fields" c 1 F2 := fun c F2 h => by
    unfold sup_Through_fields at h
    split at h
    · rename_i hc; subst hc; cases h; exact ⟨by rw [e_Through]; exact sS_Through_Through, _, _, _, (FM_Chain_fields.mono (by decide)), by rw [e_Through]; exact su_Through_fields_Through, y8, g8, BM_Chain_fields⟩
    cases h
  have S_Through_fields : SupI P K (ctN "Through") f9 (methF "fields" "Through.fields" s_Through_fields cc9 co9) "self" := by rw [e_Through]; exact ⟨⟨_, _, _, _, _, _, l9⟩, ⟨_, rfl, rfl⟩, ⟨_, _, _, _, _, _, lo9, vs_9, fi_9⟩, ⟨_, rfl, _, _, _, lc9⟩, ⟨_, _, _, _, lD9⟩, zopq, ztop, by rfl, sc_Through_fields.frk _ (by simp), sc_Through_fields.par _ (by simp)⟩
  have BM_Through_fields : Binds K ((methF "fields" "Through.fields" s_Through_fields cc9 co9).fd dc9 pm9 ct9) ["self"] [] := .all fun us hl => match us, hl with | [_], _ => rfl
  have FM_Through_fields : FnG P w K mg base 2 f9 _ ["self"] (spD K ctN 1 F_Through_fields) := o_Through_fields v_name u_Through_fields zs l9 c9 S_Through_fields
  have w_KIND : ∀ c d, con_KIND c = some d → ConD K ctN c "KIND" d := fun c d h => by
    unfold con_KIND at h
    split at h
    · rename_i hc; subst hc; cases h; exact ⟨cl_Chain, _, _, ⟨by rw [e_Chain]; exact ck_Chain_KIND, r_Chain_KIND, gk_Chain_KIND, by decide⟩, fun _ _ => .str _⟩
    split at h
    · rename_i hc; subst hc; cases h; exact ⟨cl_Through, _, _, ⟨by rw [e_Through]; exact ck_Through_KIND, r_Through_KIND, gk_Through_KIND, by decide⟩, fun _ _ => .str _⟩
    split at h
    · rename_i hc; subst hc; cases h; exact ⟨cl_Ring, _, _, ⟨by rw [e_Ring]; exact ck_Ring_KIND, r_Ring_KIND, gk_Ring_KIND, by decide⟩, fun _ _ => .str _⟩
    cases h
  have t_fields : ∀ c F, tab_fields c = some F → MetC P w K mg base ctN 2 c "fields" 1 F := fun c F h => by
    unfold tab_fields at h
    split at h
    · rename_i hc; subst hc; cases h; exact ⟨cl_Chain, _, _, _, (FM_Chain_fields.mono (by decide)), ⟨by rw [e_Chain]; exact iM_Chain_fields, t8, k8⟩, BM_Chain_fields⟩
    split at h
    · rename_i hc; subst hc; cases h; exact ⟨cl_Through, _, _, _, (FM_Through_fields.mono (by decide)), ⟨by rw [e_Through]; exact iM_Through_fields, t9, k9⟩, BM_Through_fields⟩
    split at h
    · rename_i hc; subst hc; cases h; exact ⟨cl_Ring, _, _, _, (FM_Chain_fields.mono (by decide)), ⟨by rw [e_Ring]; exact iM_Ring_fields, t8, k8⟩, BM_Chain_fields⟩
    cases h
  have NM_Reason___eq__ := fun_mk (st := s_Reason___eq__) l10 c10 k10
  have BM_Reason___eq__ := NM_Reason___eq__.binds (ps := ["self", "other"]) fun _ _ _ _ _ _ us hl => match us, hl with | [_, _], _ => rfl
  have FM_Reason___eq__ : FnG P w K mg base 3 f10 _ ["self", "other"] (spD K ctN 2 F_Reason___eq__) := o_Reason___eq__ m_isinstance k_Reason i_I w_KIND t_fields NM_Reason___eq__
  have NM_Chain___len__ := fun_mk (st := s_Chain___len__) l11 c11 k11
  have BM_Chain___len__ := NM_Chain___len__.binds (ps := ["self"]) fun _ _ _ _ _ _ us hl => match us, hl with | [_], _ => rfl
  have FM_Chain___len__ : FnG P w K mg base 1 f11 _ ["self"] (spD K ctN 1 F_Chain___len__) := o_Chain___len__ m_len v_steps NM_Chain___len__
  have a_op : ∀ c F, tab___add__ c = some F → OpM P w K mg base ctN 3 "__add__" 2 c F := fun c F h => by
    unfold tab___add__ at h
    split at h
    · rename_i hc; subst hc; cases h; exact ⟨_, _, _, (FM_Chain___add__.mono (by decide)), by rw [e_Chain]; exact iM_Chain___add__, t7, BM_Chain___add__⟩
    split at h
    · rename_i hc; subst hc; cases h; exact ⟨_, _, _, (FM_Chain___add__.mono (by decide)), by rw [e_Through]; exact iM_Through___add__, t7, BM_Chain___add__⟩
    split at h
    · rename_i hc; subst hc; cases h; exact ⟨_, _, _, (FM_Chain___add__.mono (by decide)), by rw [e_Ring]; exact iM_Ring___add__, t7, BM_Chain___add__⟩
    cases h
  have a_sf : ∀ c F, tab___add__ c = some F → PySem.W.selfFirst K (ctN c) = true := fun c F h => by
    unfold tab___add__ at h
    split at h
    · rename_i hc; subst hc; cases h; rw [e_Chain]; exact sf_Chain
    split at h
    · rename_i hc; subst hc; cases h; rw [e_Through]; exact sf_Through
    split at h
    · rename_i hc; subst hc; cases h; rw [e_Ring]; exact sf_Ring
    cases h
  have a_nr : ∀ c F, tab___add__ c = some F → PySem.W.findIn K (.ref (ctN c)) "__radd__" = some none := fun c F h => by
    unfold tab___add__ at h
    split at h
    · rename_i hc; subst hc; cases h; rw [e_Chain]; exact nr_Chain
    split at h
    · rename_i hc; subst hc; cases h; rw [e_Through]; exact nr_Through
    split at h
    · rename_i hc; subst hc; cases h; rw [e_Ring]; exact nr_Ring
    cases h
  have a_rd : ∀ c F, tab___add__ c = some F → PySem.W.readsIn K (ctN c) (.type "type") = true := fun c F h => by
    unfold tab___add__ at h
    split at h
    · rename_i hc; subst hc; cases h; rw [e_Chain]; exact rd_Chain
    split at h
    · rename_i hc; subst hc; cases h; rw [e_Through]; exact rd_Through
    split at h
    · rename_i hc; subst hc; cases h; rw [e_Ring]; exact rd_Ring
    cases h
  have sn_Chain : shortNm K C_Chain "__radd__" = true := shortNm_of lX_Chain fi_sn_Chain
  have sn_Through : shortNm K C_Through "__radd__" = true := shortNm_of lX_Through fi_sn_Through
  have sn_Ring : shortNm K C_Ring "__radd__" = true := shortNm_of lX_Ring fi_sn_Ring
  have a_sn : ∀ c F, tab___add__ c = some F → shortNm K (ctN c) "__radd__" = true := fun c F h => by
    unfold tab___add__ at h
    split at h
    · rename_i hc; subst hc; cases h; rw [e_Chain]; exact sn_Chain
    split at h
    · rename_i hc; subst hc; cases h; rw [e_Through]; exact sn_Through
    split at h
    · rename_i hc; subst hc; cases h; rw [e_Ring]; exact sn_Ring
    cases h
  have a_sb : ∀ c F, tab___add__ c = some F → ∀ c2 F2, tab___add__ c2 = some F2 → ∃ bb, PySem.W.subIn K (.ref (ctN c2)) (.ref (ctN c)) = some bb := fun c F h => by
    unfold tab___add__ at h
    split at h
    · rename_i hc; subst hc; cases h; intro c2 F2 h2
      unfold tab___add__ at h2
      split at h2
      · rename_i hd; subst hd; cases h2; exact ⟨_, by rw [e_Chain]; exact sb_Chain_Chain⟩
      split at h2
      · rename_i hd; subst hd; cases h2; exact ⟨_, by rw [e_Chain, e_Through]; exact sb_Chain_Through⟩
      split at h2
      · rename_i hd; subst hd; cases h2; exact ⟨_, by rw [e_Chain, e_Ring]; exact sb_Chain_Ring⟩
      cases h2
    split at h
    · rename_i hc; subst hc; cases h; intro c2 F2 h2
      unfold tab___add__ at h2
      split at h2
      · rename_i hd; subst hd; cases h2; exact ⟨_, by rw [e_Through, e_Chain]; exact sb_Through_Chain⟩
      split at h2
      · rename_i hd; subst hd; cases h2; exact ⟨_, by rw [e_Through]; exact sb_Through_Through⟩
      split at h2
      · rename_i hd; subst hd; cases h2; exact ⟨_, by rw [e_Through, e_Ring]; exact sb_Through_Ring⟩
      cases h2
    split at h
    · rename_i hc; subst hc; cases h; intro c2 F2 h2
      unfold tab___add__ at h2
      split at h2
      · rename_i hd; subst hd; cases h2; exact ⟨_, by rw [e_Ring, e_Chain]; exact sb_Ring_Chain⟩
      split at h2
      · rename_i hd; subst hd; cases h2; exact ⟨_, by rw [e_Ring, e_Through]; exact sb_Ring_Through⟩
      split at h2
      · rename_i hd; subst hd; cases h2; exact ⟨_, by rw [e_Ring]; exact sb_Ring_Ring⟩
      cases h2
    cases h
  have a___add__ : AddT P w K mg base ctN 3 tab___add__ := ⟨a_op, a_sf, a_nr, a_rd, a_sn, fun c F c2 F2 h h2 => a_sb c F h c2 F2 h2, tyR⟩
  have q_op : ∀ c F, tab___eq__ c = some F → OpM P w K mg base ctN 3 "__eq__" 2 c F := fun c F h => by
    unfold tab___eq__ at h
    split at h
    · rename_i hc; subst hc; cases h; exact ⟨_, _, _, (FM_Reason___eq__.mono (by decide)), by rw [e_Chain]; exact iM_Chain___eq__, t10, BM_Reason___eq__⟩
    split at h
    · rename_i hc; subst hc; cases h; exact ⟨_, _, _, (FM_Reason___eq__.mono (by decide)), by rw [e_Through]; exact iM_Through___eq__, t10, BM_Reason___eq__⟩
    split at h
    · rename_i hc; subst hc; cases h; exact ⟨_, _, _, (FM_Reason___eq__.mono (by decide)), by rw [e_Ring]; exact iM_Ring___eq__, t10, BM_Reason___eq__⟩
    cases h
  have q_ne : ∀ c F, tab___eq__ c = some F → PySem.W.findIn K (.ref (ctN c)) "__ne__" = some (some (.builtin "object.__ne__")) := fun c F h => by
    unfold tab___eq__ at h
    split at h
    · rename_i hc; subst hc; cases h; rw [e_Chain]; exact nq_Chain
    split at h
    · rename_i hc; subst hc; cases h; rw [e_Through]; exact nq_Through
    split at h
    · rename_i hc; subst hc; cases h; rw [e_Ring]; exact nq_Ring
    cases h
  have q_ob : ∀ c F, tab___eq__ c = some F → PySem.W.subIn K (.ref (ctN c)) (.type "object") = some true := fun c F h => by
    unfold tab___eq__ at h
    split at h
    · rename_i hc; subst hc; cases h; rw [e_Chain]; exact ob_Chain
    split at h
    · rename_i hc; subst hc; cases h; rw [e_Through]; exact ob_Through
    split at h
    · rename_i hc; subst hc; cases h; rw [e_Ring]; exact ob_Ring
    cases h
  have q___eq__ : EqT P w K mg base ctN 3 tab___eq__ := ⟨q_op, q_ne, q_ob⟩
  have l___len__ : ∀ c F, tab___len__ c = some F → OpM P w K mg base ctN 1 "__len__" 1 c F := fun c F h => by
    unfold tab___len__ at h
    split at h
    · rename_i hc; subst hc; cases h; exact ⟨_, _, _, (FM_Chain___len__.mono (by decide)), by rw [e_Chain]; exact iM_Chain___len__, t11, BM_Chain___len__⟩
    split at h
    · rename_i hc; subst hc; cases h; exact ⟨_, _, _, (FM_Chain___len__.mono (by decide)), by rw [e_Through]; exact iM_Through___len__, t11, BM_Chain___len__⟩
    split at h
    · rename_i hc; subst hc; cases h; exact ⟨_, _, _, (FM_Chain___len__.mono (by decide)), by rw [e_Ring]; exact iM_Ring___len__, t11, BM_Chain___len__⟩
    cases h
  have n__law_sum := fun_mk (st := s__law_sum) l12 c12 k12
  have b__law_sum := n__law_sum.binds (ps := ["_law_one", "_law_other"]) fun _ _ _ _ _ _ us hl => match us, hl with | [_, _], _ => rfl
  have c__law_sum : Cal P w K mg base ctN 5 "_law_sum" 2 [] F__law_sum := ⟨f12, _, ["_law_one", "_law_other"], [], [], o__law_sum m_isinstance m_ValueError m_len k_WorldError k_BadSteps t_WorldError i_T v_steps n_Chain a___add__ q___eq__ l___len__ n__law_sum, PySem.W.mg_of X G a12, k12, b__law_sum, .nil, fun _ _ => .nil⟩
  have n__law_source := fun_mk (st := s__law_source) l13 c13 k13
  have b__law_source := n__law_source.binds (ps := ["_law_script", "_law_k"]) fun _ _ _ _ _ _ us hl => match us, hl with | [_, _], _ => rfl
  have c__law_source : Cal P w K mg base ctN 1 "_law_source" 2 [] F__law_source := ⟨f13, _, ["_law_script", "_law_k"], [], [], o__law_source m_len n__law_source, PySem.W.mg_of X G a13, k13, b__law_source, .nil, fun _ _ => .nil⟩
  have q_law : FnG P w K mg base 6 _ _ _ (spD K ctN 1 F_law) := o_law c__law_row_of_steps c__law_next c__law_pick c__law_reason c__law_sum c__law_source m_len m_range m_max m_min v_steps n_Chain l___len__ q___eq__ a___add__ (fun_mk (st := s_law) l14 c14 k14)
  exact ⟨fun vs H Q E z => q_law.len vs H Q E (z ctN), fun A outer s H args us vs Q E g r e b v z => q_law.run A outer s H args us vs Q E g r e b v (z ctN)⟩
theorem law_sp {K : PySem.W.Frag} {H : Hp} {a : Addr} {ns : List Int} (hl : ns.length ≤ 63) (hS : Scr K io0 H a (ns.map V.int)) (ct : String → Addr) : spD K ct 1 F_law [.ref a] H (fun v _ => v = .bl true) (fun _ _ _ => False) := by
  refine ⟨io0, [], [.scr (ns.map D.int)], rfl, ⟨List.nodup_nil, rfl, fun n a m e1 e2 => by simp at e2, fun a ha => by cases ha⟩, .cons (.scr hS ?_) .nil, ?_⟩
  · clear hS hl
    induction ns with
    | nil => exact .nil
    | cons n ns ih => exact .cons (.int n) ih
  · obtain ⟨A', e⟩ := law_ok hl
    rw [e]
    intro v io' H' x h r
    cases r
    rfl
theorem walk {l : PySem.W.OpenLaw} {q : Program} {loose : List Str} {XP : (Str → Option Value) → Heap → Prop} {YP : World → Heap → Prop} {d : DefRec} {K : Params → PySem.W.Frag} (hn : l.most = some 63) (hdf : d.params.defaults = []) (hr : Room 6 callerA)
    (hY : ∀ (w : World) (h : Heap), YP w h → (K w.params).In h)
    (F : ∀ (w : World) (mg : Str → Option Value) (fa : Addr) (h : Heap), (K w.params).In h → h.Ns mainGlobals mg → mg d.name = some (.ref fa) → ∃ fd : FuncData, (∀ (s : Shared) (u : Value), BindsTo s fd ⟨[u], []⟩ [("_law_script", u)]) ∧
      ∀ base : Heap, (K w.params).In base → base.Ns mainGlobals mg → FnG l.prog w (K w.params) mg base 6 fa fd ["_law_script"] (fun vs H Q E => ∀ ct, spD (K w.params) ct 1 F_law vs H Q E)) :
    PySem.W.WalkO q loose XP YP l.row.toRowW d [] (fun f vs => PySem.call f vs) :=
  walkG (n := 63) (k := 6) (x := "_law_script") (sp := fun w vs H Q E => ∀ ct, spD (K w.params) ct 1 F_law vs H Q E) hn (by decide) hdf hr hY fun w mg fa h KX G hmg => ⟨F w mg fa h KX G hmg, fun H a ns hl hS ct => law_sp hl hS ct⟩
end K23

open PySem PySem.W PyProof.Rows in
set_option maxRecDepth 100000 in
set_option maxHeartbeats 0 in
theorem PySem.Challenge.cw_nextbehind_k23_chains_added_holds : PySem.Challenge.rw_nextbehind_k23_chains_added.Holds := by
  w_on; o_law; k_head; (case hw => w_witness2)
  k_fill
  refine K23.walk (l := PySem.Challenge.rw_nextbehind_k23_chains_added) rfl rfl ⟨rfl, by decide, by decide⟩ (fun w h Y => PySem.W.kIn_of Y) ?F
  case F =>
    intro w mg fa h KX G hmg
    refine' K23.all_mk KX G hmg ?a0 ?l0 ?c0 ?k0 ?a1 ?l1 ?c1 ?k1 ?a2 ?l2 ?c2 ?k2 ?a6 ?l6 ?c6 ?k6 ?a12 ?l12 ?c12 ?k12 ?a13 ?l13 ?c13 ?k13 ?a14 ?l14 ?c14 ?k14 ?z_len ?z_range ?z_tuple ?z_isinstance ?z_ValueError ?z_max ?z_min ?aC_WorldError ?aC_BadSteps ?zsup ?zopq ?ztop ?nd_C ?lC_BadSteps ?rC_BadSteps ?sC_BadSteps ?tC_BadSteps ?kC_BadSteps ?iC_BadSteps ?tI_BadSteps ?lF_BadSteps ?cI_BadSteps ?lo_BadSteps ?vs_BadSteps ?fi_BadSteps ?lc_BadSteps ?su_BadSteps ?sv_BadSteps ?ms_BadSteps ?nf_BadSteps_reason ?ga_BadSteps ?gg_BadSteps ?ca_BadSteps ?mo_BadSteps ?eC_WorldError ?hd_WorldError ?tC_WorldError ?eC_BadSteps ?hd_BadSteps ?hnC ?htC ?aC_Reason ?aC_Chain ?aC_Through ?aC_Ring ?pg_Chain ?hd_Chain ?po_Chain ?sa_Chain ?nf_Chain_steps ?ck_Chain_KIND ?r_Chain_KIND ?gk_Chain_KIND ?pg_Through ?hd_Through ?po_Through ?sa_Through ?nf_Through_steps ?nf_Through_name ?ck_Through_KIND ?r_Through_KIND ?gk_Through_KIND ?pg_Ring ?hd_Ring ?po_Ring ?sa_Ring ?nf_Ring_steps ?ck_Ring_KIND ?r_Ring_KIND ?gk_Ring_KIND ?iM_Chain_fields ?iM_Through_fields ?iM_Ring_fields ?iM_Chain___add__ ?iM_Through___add__ ?iM_Ring___add__ ?iM_Chain___eq__ ?iM_Through___eq__ ?iM_Ring___eq__ ?iM_Chain___len__ ?iM_Through___len__ ?iM_Ring___len__ ?iM_Chain___init__ ?iM_Ring___init__ ?iM_Through___init__ ?su_Ring___init___Ring ?sS_Ring_Ring ?su_Through___init___Through ?sS_Through_Through ?su_Through_fields_Through ?mk_Chain ?kC_Chain ?mk_Ring ?kC_Ring ?mk_Through ?kC_Through ?tyR ?sf_Chain ?nr_Chain ?rd_Chain ?lX_Chain ?fi_sn_Chain ?sb_Chain_Chain ?sb_Chain_Through ?sb_Chain_Ring ?sf_Through ?nr_Through ?rd_Through ?lX_Through ?fi_sn_Through ?sb_Through_Chain ?sb_Through_Through ?sb_Through_Ring ?sf_Ring ?nr_Ring ?rd_Ring ?lX_Ring ?fi_sn_Ring ?sb_Ring_Chain ?sb_Ring_Through ?sb_Ring_Ring ?nq_Chain ?ob_Chain ?nq_Through ?ob_Through ?nq_Ring ?ob_Ring ?hd_Reason ?tC_Reason ?tC_Chain ?tC_Through ?tC_Ring ?ca_Chain ?mo_Chain ?si_Chain_Reason ?si_Chain_Chain ?si_Chain_Through ?si_Chain_Ring ?ca_Through ?mo_Through ?si_Through_Reason ?si_Through_Chain ?si_Through_Through ?si_Through_Ring ?ca_Ring ?mo_Ring ?si_Ring_Reason ?si_Ring_Chain ?si_Ring_Through ?si_Ring_Ring ?ne_Chain_Through ?ne_Ring_Through ?ne_Chain_Ring ?ne_Through_Ring ?l3 ?c3 ?k3 ?t3 ?y3 ?g3 ?l4 ?c4 ?k4 ?t4 ?y4 ?g4 ?lo4 ?vs_4 ?fi_4 ?lc4 ?lD4 ?l5 ?c5 ?k5 ?t5 ?y5 ?g5 ?lo5 ?vs_5 ?fi_5 ?lc5 ?lD5 ?l7 ?c7 ?k7 ?t7 ?y7 ?g7 ?l8 ?c8 ?k8 ?t8 ?y8 ?g8 ?l9 ?c9 ?k9 ?t9 ?y9 ?g9 ?lo9 ?vs_9 ?fi_9 ?lc9 ?lD9 ?l10 ?c10 ?k10 ?t10 ?y10 ?g10 ?l11 ?c11 ?k11 ?t11 ?y11 ?g11
    (case a0 => k_is)
    (case l0 => k_is)
    (case c0 => k_is)
    (case k0 => k_is)
    (case a1 => k_is)
    (case l1 => k_is)
    (case c1 => k_is)
    (case k1 => k_is)
    (case a2 => k_is)
    (case l2 => k_is)
    (case c2 => k_is)
    (case k2 => k_is)
    (case a6 => k_is)
    (case l6 => k_is)
    (case c6 => k_is)
    (case k6 => k_is)
    (case a12 => k_is)
    (case l12 => k_is)
    (case c12 => k_is)
    (case k12 => k_is)
    (case a13 => k_is)
    (case l13 => k_is)
    (case c13 => k_is)
    (case k13 => k_is)
    (case a14 => k_is)
    (case l14 => k_is)
    (case c14 => k_is)
    (case k14 => k_is)
    (case z_len => k_is)
    (case z_range => k_is)
    (case z_tuple => k_is)
    (case z_isinstance => k_is)
    (case z_ValueError => k_is)
    (case z_max => k_is)
    (case z_min => k_is)
    (case aC_WorldError => k_is)
    (case aC_BadSteps => k_is)
    (case zsup => k_is)
    (case zopq => k_is)
    (case ztop => first | rfl | decide +kernel)
    (case nd_C => decide +kernel)
    (case lC_BadSteps => k_is)
    (case rC_BadSteps => first | rfl | decide +kernel)
    (case sC_BadSteps => k_is)
    (case tC_BadSteps => k_is)
    (case kC_BadSteps => k_is)
    (case iC_BadSteps => k_is)
    (case tI_BadSteps => k_is)
    (case lF_BadSteps => k_is)
    (case cI_BadSteps => k_is)
    (case lo_BadSteps => k_is)
    (case vs_BadSteps => first | rfl | decide +kernel)
    (case fi_BadSteps => first | rfl | decide +kernel)
    (case lc_BadSteps => k_is)
    (case su_BadSteps => first | ks_is | k_is)
    (case sv_BadSteps => k_is)
    (case ms_BadSteps => k_is)
    (case nf_BadSteps_reason => k_is)
    (case ga_BadSteps => k_is)
    (case gg_BadSteps => k_is)
    (case ca_BadSteps => k_is)
    (case mo_BadSteps => k_is)
    (case eC_WorldError => k_is)
    (case hd_WorldError => k_is)
    (case tC_WorldError => k_is)
    (case eC_BadSteps => k_is)
    (case hd_BadSteps => k_is)
    (case hnC => k_is)
    (case htC => k_is)
    (case aC_Reason => k_is)
    (case aC_Chain => k_is)
    (case aC_Through => k_is)
    (case aC_Ring => k_is)
    (case pg_Chain => k_is)
    (case hd_Chain => k_is)
    (case po_Chain => k_is)
    (case sa_Chain => k_is)
    (case nf_Chain_steps => k_is)
    (case ck_Chain_KIND => k_is)
    (case r_Chain_KIND => first | exact ⟨_, rfl⟩ | rfl)
    (case gk_Chain_KIND => k_is)
    (case pg_Through => k_is)
    (case hd_Through => k_is)
    (case po_Through => k_is)
    (case sa_Through => k_is)
    (case nf_Through_steps => k_is)
    (case nf_Through_name => k_is)
    (case ck_Through_KIND => k_is)
    (case r_Through_KIND => first | exact ⟨_, rfl⟩ | rfl)
    (case gk_Through_KIND => k_is)
    (case pg_Ring => k_is)
    (case hd_Ring => k_is)
    (case po_Ring => k_is)
    (case sa_Ring => k_is)
    (case nf_Ring_steps => k_is)
    (case ck_Ring_KIND => k_is)
    (case r_Ring_KIND => first | exact ⟨_, rfl⟩ | rfl)
    (case gk_Ring_KIND => k_is)
    (case iM_Chain_fields => k_is)
    (case iM_Through_fields => k_is)
    (case iM_Ring_fields => k_is)
    (case iM_Chain___add__ => k_is)
    (case iM_Through___add__ => k_is)
    (case iM_Ring___add__ => k_is)
    (case iM_Chain___eq__ => k_is)
    (case iM_Through___eq__ => k_is)
    (case iM_Ring___eq__ => k_is)
    (case iM_Chain___len__ => k_is)
    (case iM_Through___len__ => k_is)
    (case iM_Ring___len__ => k_is)
    (case iM_Chain___init__ => k_is)
    (case iM_Ring___init__ => k_is)
    (case iM_Through___init__ => k_is)
    (case su_Ring___init___Ring => first | ks_is | k_is)
    (case sS_Ring_Ring => k_is)
    (case su_Through___init___Through => first | ks_is | k_is)
    (case sS_Through_Through => k_is)
    (case su_Through_fields_Through => first | ks_is | k_is)
    (case mk_Chain => k_is)
    (case kC_Chain => k_is)
    (case mk_Ring => k_is)
    (case kC_Ring => k_is)
    (case mk_Through => k_is)
    (case kC_Through => k_is)
    (case tyR => k_is)
    (case sf_Chain => k_is)
    (case nr_Chain => k_is)
    (case rd_Chain => k_is)
    (case lX_Chain => k_is)
    (case fi_sn_Chain => first | rfl | decide +kernel)
    (case sb_Chain_Chain => k_is)
    (case sb_Chain_Through => k_is)
    (case sb_Chain_Ring => k_is)
    (case sf_Through => k_is)
    (case nr_Through => k_is)
    (case rd_Through => k_is)
    (case lX_Through => k_is)
    (case fi_sn_Through => first | rfl | decide +kernel)
    (case sb_Through_Chain => k_is)
    (case sb_Through_Through => k_is)
    (case sb_Through_Ring => k_is)
    (case sf_Ring => k_is)
    (case nr_Ring => k_is)
    (case rd_Ring => k_is)
    (case lX_Ring => k_is)
    (case fi_sn_Ring => first | rfl | decide +kernel)
    (case sb_Ring_Chain => k_is)
    (case sb_Ring_Through => k_is)
    (case sb_Ring_Ring => k_is)
    (case nq_Chain => k_is)
    (case ob_Chain => k_is)
    (case nq_Through => k_is)
    (case ob_Through => k_is)
    (case nq_Ring => k_is)
    (case ob_Ring => k_is)
    (case hd_Reason => k_is)
    (case tC_Reason => k_is)
    (case tC_Chain => k_is)
    (case tC_Through => k_is)
    (case tC_Ring => k_is)
    (case ca_Chain => k_is)
    (case mo_Chain => k_is)
    (case si_Chain_Reason => k_is)
    (case si_Chain_Chain => k_is)
    (case si_Chain_Through => k_is)
    (case si_Chain_Ring => k_is)
    (case ca_Through => k_is)
    (case mo_Through => k_is)
    (case si_Through_Reason => k_is)
    (case si_Through_Chain => k_is)
    (case si_Through_Through => k_is)
    (case si_Through_Ring => k_is)
    (case ca_Ring => k_is)
    (case mo_Ring => k_is)
    (case si_Ring_Reason => k_is)
    (case si_Ring_Chain => k_is)
    (case si_Ring_Through => k_is)
    (case si_Ring_Ring => k_is)
    (case ne_Chain_Through => first | rfl | decide +kernel)
    (case ne_Ring_Through => first | rfl | decide +kernel)
    (case ne_Chain_Ring => first | rfl | decide +kernel)
    (case ne_Through_Ring => first | rfl | decide +kernel)
    (case l3 => k_is)
    (case c3 => k_is)
    (case k3 => k_is)
    (case t3 => k_is)
    (case y3 => k_is)
    (case g3 => k_is)
    (case l4 => k_is)
    (case c4 => k_is)
    (case k4 => k_is)
    (case t4 => k_is)
    (case y4 => k_is)
    (case g4 => k_is)
    (case lo4 => k_is)
    (case vs_4 => first | rfl | decide +kernel)
    (case fi_4 => first | rfl | decide +kernel)
    (case lc4 => k_is)
    (case lD4 => k_is)
    (case l5 => k_is)
    (case c5 => k_is)
    (case k5 => k_is)
    (case t5 => k_is)
    (case y5 => k_is)
    (case g5 => k_is)
    (case lo5 => k_is)
    (case vs_5 => first | rfl | decide +kernel)
    (case fi_5 => first | rfl | decide +kernel)
    (case lc5 => k_is)
    (case lD5 => k_is)
    (case l7 => k_is)
    (case c7 => k_is)
    (case k7 => k_is)
    (case t7 => k_is)
    (case y7 => k_is)
    (case g7 => k_is)
    (case l8 => k_is)
    (case c8 => k_is)
    (case k8 => k_is)
    (case t8 => k_is)
    (case y8 => k_is)
    (case g8 => k_is)
    (case l9 => k_is)
    (case c9 => k_is)
    (case k9 => k_is)
    (case t9 => k_is)
    (case y9 => k_is)
    (case g9 => k_is)
    (case lo9 => k_is)
    (case vs_9 => first | rfl | decide +kernel)
    (case fi_9 => first | rfl | decide +kernel)
    (case lc9 => k_is)
    (case lD9 => k_is)
    (case l10 => k_is)
    (case c10 => k_is)
    (case k10 => k_is)
    (case t10 => k_is)
    (case y10 => k_is)
    (case g10 => k_is)
    (case l11 => k_is)
    (case c11 => k_is)
    (case k11 => k_is)
    (case t11 => k_is)
    (case y11 => k_is)
    (case g11 => k_is)
#print axioms PySem.Challenge.cw_nextbehind_k23_chains_added_holds

