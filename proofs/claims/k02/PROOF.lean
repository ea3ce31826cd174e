import PyProof.Rows.All
import Wide.All
import OpenK.AllK
import Wide.FinOn
import HandS.ForMost
import HandS.ForExc
import HandS.TupAny
import HandS.IsInst
import HandS.Deep
import HandS.Flow
import HandS.Zip
import HandS.Wide
import HandS.Strs
import HandS.SetKeys
import HandS.WordsDict
import HandS.Small
import PySem.Challenge.RW_nextbehind_k02_names_recognized
set_option Elab.async false
set_option linter.all false
set_option maxRecDepth 100000
/-! DvA: by-value data D, the abstract objects M, how they stand in the hand layer's heap. -/
namespace DV
open PySem PySem.Spec PyProof.Rows L2

/-- a class: one of the text's own by its name, or a built-in one -/
inductive Cl where
  | own (n : String) | bi (n : String)
  deriving DecidableEq
/-- a value: tuples, lists and dicts that nobody changes stand by value; what may change stands under a number -/
inductive D where
  | non | bl (b : Bool) | int (i : Int) | str (s : Str)
  | tup (ds : List D) | lst (ds : List D) | scr (ds : List D) | dic (es : List (Key × D)) | ref (n : Nat) | cls (c : Cl)
/-- what stands under a number -/
inductive M where
  | lst (ds : List D) | dic (es : List (Key × D)) | ins (c : String) (fs : List (Str × D))
abbrev Hd := List M
abbrev Env := List (Option D)

/-- which objects stand under numbers (nm), and which are held back (hd): a list that a comprehension fills -/
structure Io where
  nm : List Addr
  hd : List Addr
def io0 : Io := ⟨[], []⟩
instance : Membership Addr Io := ⟨fun io a => a ∈ io.nm ∨ a ∈ io.hd⟩
def Io.add (io : Io) (p : Addr) : Io := ⟨io.nm ++ [p], io.hd⟩
def Io.hold (io : Io) (p : Addr) : Io := ⟨io.nm, p :: io.hd⟩
theorem Io.mem_nm {io : Io} {a : Addr} (h : a ∈ io.nm) : a ∈ io := .inl h
theorem Io.nmem {io : Io} {a : Addr} (h : a ∉ io) : a ∉ io.nm := fun z => h (.inl z)
/-- a list of the written part -/
def KL (K : PySem.W.Frag) (a : Addr) (xs : List V) : Prop :=
  ∃ (o : Obj) (its : Array Value) (n : Nat), K.lookup a = some o ∧ o.cls = .type "list" ∧ o.dict = none ∧ o.data = .seq its n ∧ its.size ≤ sizeLine ∧ Vals xs its.toList
/-- the script, locked (or a list of the written part) -/
def Scr (K : PySem.W.Frag) (io : Io) (H : Hp) (a : Addr) (xs : List V) : Prop := (a ∉ io ∧ ∃ o, H a = some (.frz o (.lst xs))) ∨ KL K a xs
theorem Scr.sq {K : PySem.W.Frag} {io : Io} {H : Hp} {a : Addr} {xs : List V} (h : Scr K io H a xs) : SqL K H a xs := by
  rcases h with ⟨_, o, e⟩ | h
  · exact .inl (.inr ⟨o, e⟩)
  · exact .inr h
section
variable (K : PySem.W.Frag) (ct : String → Addr) (io : Io) (H : Hp)
mutual
inductive DR : V → D → Prop
  | non : DR .non .non
  | bl (b : Bool) : DR (.bl b) (.bl b)
  | int (i : Int) : DR (.int i) (.int i)
  | str (x : Str) : DR (.str x) (.str x)
  | tup {a : Addr} {xs : List V} {ds : List D} : SqT K H a xs → DRs xs ds → DR (.ref a) (.tup ds)
  | lst {a : Addr} {xs : List V} {ds : List D} : a ∉ io → H a = some (.lst xs) → DRs xs ds → DR (.ref a) (.lst ds)
  | scr {a : Addr} {xs : List V} {ds : List D} : Scr K io H a xs → DRs xs ds → DR (.ref a) (.scr ds)
  | dic {a : Addr} {kvs : List (Key × V)} {es : List (Key × D)} : a ∉ io → H a = some (.dK kvs) → kvs.map (·.1) = es.map (·.1) → DRs (kvs.map (·.2)) (es.map (·.2)) → DR (.ref a) (.dic es)
  | ref {a : Addr} {n : Nat} : io.nm[n]? = some a → DR (.ref a) (.ref n)
  | ty (n : String) : DR (.ty n) (.cls (.bi n))
  | own (n : String) : DR (.ref (ct n)) (.cls (.own n))
inductive DRs : List V → List D → Prop
  | nil : DRs [] []
  | cons {v : V} {vs : List V} {d : D} {ds : List D} : DR v d → DRs vs ds → DRs (v :: vs) (d :: ds)
end
/-- the object at a is m -/
def MR (a : Addr) : M → Prop
  | .lst ds => ∃ xs, H a = some (.lst xs) ∧ DRs K ct io H xs ds
  | .dic es => ∃ kvs, H a = some (.dK kvs) ∧ kvs.map (·.1) = es.map (·.1) ∧ DRs K ct io H (kvs.map (·.2)) (es.map (·.2))
  | .ins c fs => ∃ dx gs, H a = some (.ins (ct c) dx gs) ∧ gs.map (·.1) = fs.map (·.1) ∧ DRs K ct io H (gs.map (·.2)) (fs.map (·.2))
structure HR (A : Hd) : Prop where
  nd : io.nm.Nodup
  len : io.nm.length = A.length
  at_ : ∀ (n : Nat) (a : Addr) (m : M), io.nm[n]? = some a → A[n]? = some m → MR K ct io H a m
  hid : ∀ a ∈ io.hd, a ∉ io.nm ∧ ∃ xs, H a = some (.lst xs)
structure EnvR (ro : Env) (σ : L2.St) : Prop where
  len : ro.length = σ.length
  at_ : ∀ (i : Nat) (d : D), ro[i]? = some (some d) → ∃ v, σ[i]? = some (some v) ∧ DR K ct io H v d
end

/-- from one state to a later one -/
structure Ext (io : Io) (H : Hp) (io' : Io) (H' : Hp) : Prop where
  pre : ∃ more, io'.nm = io.nm ++ more
  hd1 : ∀ a ∈ io.hd, a ∈ io'.hd
  hd2 : ∀ a ∈ io'.hd, a ∈ io.hd ∨ H a = none
  fresh : ∀ b, b ∈ io'.nm → b ∉ io.nm → H b = none
  keep : ∀ b o, H b = some o → b ∉ io.nm → H' b = some o
  there : ∀ b o, H b = some o → ∃ o', H' b = some o'

section
variable {K : PySem.W.Frag} {ct : String → Addr} {io io' io2 : Io} {H H' H2 : Hp}
theorem Ext.refl : Ext io H io H := ⟨⟨[], by simp⟩, fun _ h => h, fun _ h => .inl h, fun b h n => absurd h n, fun _ _ e _ => e, fun _ o e => ⟨o, e⟩⟩
theorem Ext.trans (a : Ext io H io' H') (b : Ext io' H' io2 H2) : Ext io H io2 H2 := by
  obtain ⟨m1, e1⟩ := a.pre
  obtain ⟨m2, e2⟩ := b.pre
  have back : ∀ c, H' c = none → H c = none := fun c e => by
    cases q : H c with
    | none => rfl
    | some o => obtain ⟨o', q'⟩ := a.there c o q; rw [e] at q'; cases q'
  refine ⟨⟨m1 ++ m2, by rw [e2, e1, List.append_assoc]⟩, fun c h => b.hd1 c (a.hd1 c h), fun c h => (b.hd2 c h).elim (a.hd2 c) fun z => .inr (back c z), fun c h n => ?_, fun c o e n => ?_, fun c o e => ?_⟩
  · by_cases h1 : c ∈ io'.nm
    · exact a.fresh c h1 n
    · exact back c (b.fresh c h h1)
  · have q := a.keep c o e n
    refine b.keep c o q fun h1 => ?_
    have := a.fresh c h1 n
    rw [e] at this; cases this
  · obtain ⟨o', e'⟩ := a.there c o e
    exact b.there c o' e'
theorem Ext.mem (a : Ext io H io' H') {n : Nat} {b : Addr} (h : io.nm[n]? = some b) : io'.nm[n]? = some b := by
  obtain ⟨m, e⟩ := a.pre
  rw [e, List.getElem?_append_left (List.getElem?_eq_some_iff.mp h).1]
  exact h
theorem Ext.notin (a : Ext io H io' H') {b : Addr} {o : HO} (e : H b = some o) (n : b ∉ io) : b ∉ io' := fun h => by
  rcases h with h | h
  · have := a.fresh b h (Io.nmem n)
    rw [e] at this; cases this
  · rcases a.hd2 b h with z | z
    · exact n (.inr z)
    · rw [e] at z; cases z
theorem Ext.kept (a : Ext io H io' H') {b : Addr} {o : HO} (e : H b = some o) (n : b ∉ io) : H' b = some o := a.keep b o e (Io.nmem n)
theorem Rd.ext {u : HO} (a : Ext io H io' H') {b : Addr} (r : Rd H b u) (n : b ∉ io.nm) : Rd H' b u := by
  rcases r with e | ⟨o, e⟩
  · exact .inl (a.keep b _ e n)
  · exact .inr ⟨o, a.keep b _ e n⟩

/-- tuples never change: also those that stand in the list of numbers (there are none) -/
theorem SqT.ext (a : Ext io H io' H') (hn : ∀ b u, Rd H b (.tup u) → b ∉ io.nm) {b : Addr} {xs : List V} (h : SqT K H b xs) : SqT K H' b xs := by
  rcases h with h | h
  · exact .inl (Rd.ext a h (hn b xs h))
  · exact .inr h
/-- no tuple stands under a number -/
def NoT (io : Io) (H : Hp) : Prop := ∀ b u, Rd H b (.tup u) → b ∉ io.nm
mutual
theorem DR.mono (a : Ext io H io' H') (hn : NoT io H) : ∀ {v : V} {d : D}, DR K ct io H v d → DR K ct io' H' v d
  | _, _, .non => .non
  | _, _, .bl b => .bl b
  | _, _, .int i => .int i
  | _, _, .str x => .str x
  | _, _, .tup h hs => .tup (SqT.ext a hn h) (DRs.mono a hn hs)
  | _, _, .lst n h hs => .lst (a.notin h n) (a.kept h n) (DRs.mono a hn hs)
  | _, _, .scr h hs => .scr (h.elim (fun ⟨n, o, e⟩ => .inl ⟨a.notin e n, o, a.kept e n⟩) .inr) (DRs.mono a hn hs)
  | _, _, .dic n h e hs => .dic (a.notin h n) (a.kept h n) e (DRs.mono a hn hs)
  | _, _, .ref h => .ref (a.mem h)
  | _, _, .ty n => .ty n
  | _, _, .own n => .own n
theorem DRs.mono (a : Ext io H io' H') (hn : NoT io H) : ∀ {vs : List V} {ds : List D}, DRs K ct io H vs ds → DRs K ct io' H' vs ds
  | _, _, .nil => .nil
  | _, _, .cons h hs => .cons (DR.mono a hn h) (DRs.mono a hn hs)
end
theorem HR.noT {A : Hd} (h : HR K ct io H A) : NoT io H := fun b u r hb => by
  obtain ⟨n, hlt, e⟩ := List.getElem_of_mem hb
  have e1 : io.nm[n]? = some b := by rw [List.getElem?_eq_getElem hlt, e]
  have hl : n < A.length := by rw [← h.len]; exact hlt
  have q := h.at_ n b A[n] e1 (List.getElem?_eq_getElem hl)
  have : ∀ o, H b = some o → (∀ u, o ≠ .tup u) ∧ (∀ p u, o ≠ .frz p u) → False := fun o ho hh => by
    rcases r with r | ⟨p, r⟩
    · rw [ho] at r; exact hh.1 u (Option.some.inj r)
    · rw [ho] at r; exact hh.2 p _ (Option.some.inj r)
  cases hm : A[n] with
  | lst ds => rw [hm] at q; obtain ⟨xs, e2, _⟩ := q; exact this _ e2 ⟨(by intro u z; cases z), (by intro p u z; cases z)⟩
  | dic es => rw [hm] at q; obtain ⟨xs, e2, _⟩ := q; exact this _ e2 ⟨(by intro u z; cases z), (by intro p u z; cases z)⟩
  | ins c fs => rw [hm] at q; obtain ⟨dx, gs, e2, _⟩ := q; exact this _ e2 ⟨(by intro u z; cases z), (by intro p u z; cases z)⟩
theorem EnvR.mono {ro : Env} {σ : L2.St} (h : EnvR K ct io H ro σ) (a : Ext io H io' H') (hn : NoT io H) : EnvR K ct io' H' ro σ :=
  ⟨h.len, fun i d e => let ⟨v, e1, r⟩ := h.at_ i d e; ⟨v, e1, r.mono a hn⟩⟩
theorem EnvR.set {ro : Env} {σ : L2.St} (h : EnvR K ct io H ro σ) {i : Nat} {v : V} {d : D} (r : DR K ct io H v d) : EnvR K ct io H (ro.set i (some d)) (σ.set i (some v)) := by
  refine ⟨by rw [List.length_set, List.length_set, h.len], fun j e hj => ?_⟩
  by_cases hij : i = j
  · subst hij
    by_cases hi : i < ro.length
    · rw [List.getElem?_set_self hi] at hj
      cases hj
      exact ⟨v, by rw [List.getElem?_set_self (by rw [← h.len]; exact hi)], r⟩
    · rw [List.getElem?_eq_none (by rw [List.length_set]; omega)] at hj; cases hj
  · rw [List.getElem?_set_ne hij] at hj
    obtain ⟨w, e1, q⟩ := h.at_ j e hj
    exact ⟨w, by rw [List.getElem?_set_ne hij]; exact e1, q⟩
theorem DRs.length : ∀ {vs : List V} {ds : List D}, DRs K ct io H vs ds → vs.length = ds.length
  | _, _, .nil => rfl
  | _, _, .cons _ hs => by rw [List.length_cons, List.length_cons, DRs.length hs]
theorem DRs.get : ∀ {vs : List V} {ds : List D} {i : Nat} {d : D}, DRs K ct io H vs ds → ds[i]? = some d → ∃ v, vs[i]? = some v ∧ DR K ct io H v d
  | _, _, _, _, .nil, e => by simp at e
  | _, _, 0, _, .cons h _, e => by simp at e; subst e; exact ⟨_, rfl, h⟩
  | _, _, i + 1, _, .cons _ hs, e => DRs.get (i := i) hs (by simpa using e)
theorem DRs.get' : ∀ {vs : List V} {ds : List D} {i : Nat} {v : V}, DRs K ct io H vs ds → vs[i]? = some v → ∃ d, ds[i]? = some d ∧ DR K ct io H v d
  | _, _, _, _, .nil, e => by simp at e
  | _, _, 0, _, .cons h _, e => by simp at e; subst e; exact ⟨_, rfl, h⟩
  | _, _, i + 1, _, .cons _ hs, e => DRs.get' (i := i) hs (by simpa using e)
theorem DRs.append : ∀ {vs ws : List V} {ds es : List D}, DRs K ct io H vs ds → DRs K ct io H ws es → DRs K ct io H (vs ++ ws) (ds ++ es)
  | _, _, _, _, .nil, s => s
  | _, _, _, _, .cons h hs, s => .cons h (DRs.append hs s)
theorem DRs.take : ∀ {vs : List V} {ds : List D} (n : Nat), DRs K ct io H vs ds → DRs K ct io H (vs.take n) (ds.take n)
  | _, _, 0, _ => .nil
  | _, _, _ + 1, .nil => .nil
  | _, _, n + 1, .cons h hs => .cons h (DRs.take n hs)
theorem DRs.drop : ∀ {vs : List V} {ds : List D} (n : Nat), DRs K ct io H vs ds → DRs K ct io H (vs.drop n) (ds.drop n)
  | _, _, 0, h => h
  | _, _, _ + 1, .nil => .nil
  | _, _, n + 1, .cons _ hs => DRs.drop n hs
theorem DRs.set {v : V} {d : D} (r : DR K ct io H v d) : ∀ {vs : List V} {ds : List D} (i : Nat), DRs K ct io H vs ds → DRs K ct io H (vs.set i v) (ds.set i d)
  | _, _, _, .nil => .nil
  | _, _, 0, .cons _ hs => .cons r hs
  | _, _, i + 1, .cons h hs => .cons h (DRs.set r i hs)
theorem DRs.eraseIdx : ∀ {vs : List V} {ds : List D} (i : Nat), DRs K ct io H vs ds → DRs K ct io H (vs.eraseIdx i) (ds.eraseIdx i)
  | _, _, _, .nil => .nil
  | _, _, 0, .cons _ hs => hs
  | _, _, i + 1, .cons h hs => .cons h (DRs.eraseIdx i hs)
theorem DRs.reverse {vs : List V} {ds : List D} (h : DRs K ct io H vs ds) : DRs K ct io H vs.reverse ds.reverse := by
  induction vs generalizing ds with
  | nil => cases h; exact .nil
  | cons v vs ih =>
    cases h with
    | cons h hs =>
      rw [List.reverse_cons, List.reverse_cons]
      exact DRs.append (ih hs) (.cons h .nil)
theorem DRs.replicate {v : V} {d : D} (h : DR K ct io H v d) : ∀ n : Nat, DRs K ct io H (List.replicate n v) (List.replicate n d)
  | 0 => .nil
  | n + 1 => .cons h (DRs.replicate h n)
theorem DR.ne_new {v : V} {d : D} : True := trivial

theorem HR.get {A : Hd} (h : HR K ct io H A) {n : Nat} {a : Addr} {m : M} (e : io.nm[n]? = some a) (q : A[n]? = some m) : MR K ct io H a m := h.at_ n a m e q
theorem HR.has {A : Hd} (h : HR K ct io H A) {n : Nat} {a : Addr} (e : io.nm[n]? = some a) : ∃ m, A[n]? = some m := by
  have hl := (List.getElem?_eq_some_iff.mp e).1
  rw [h.len] at hl
  exact ⟨A[n], List.getElem?_eq_getElem hl⟩
theorem keys_isEmpty {kvs : List (Key × V)} {es : List (Key × D)} (k : kvs.map (·.1) = es.map (·.1)) : kvs.isEmpty = es.isEmpty := by
  cases kvs with
  | nil => cases es with
    | nil => rfl
    | cons _ _ => cases k
  | cons _ _ => cases es with
    | nil => cases k
    | cons _ _ => rfl
theorem DRs.isEmpty {vs : List V} {ds : List D} (h : DRs K ct io H vs ds) : vs.isEmpty = ds.isEmpty := by cases h <;> rfl
/-- a new object is laid that has no number -/
theorem Ext.laid {p : Addr} {o : HO} (n : H p = none) : Ext io H io (upd H p o) := by
  refine ⟨⟨[], by simp⟩, fun _ h => h, fun _ h => .inl h, fun b h k => absurd h k, fun b x e k => ?_, fun b x e => ?_⟩
  · rw [upd_ne (ne_of_none e n)]; exact e
  · exact ⟨x, by rw [upd_ne (ne_of_none e n)]; exact e⟩
theorem HR.ne {A : Hd} (h : HR K ct io H A) {p : Addr} (n : H p = none) : p ∉ io := fun hb => by
  rcases hb with hb | hb
  · obtain ⟨k, hlt, e⟩ := List.getElem_of_mem hb
    have e1 : io.nm[k]? = some p := by rw [List.getElem?_eq_getElem hlt, e]
    have hl : k < A.length := by rw [← h.len]; exact hlt
    have q := h.at_ k p A[k] e1 (List.getElem?_eq_getElem hl)
    cases hm : A[k] with
    | lst ds => rw [hm] at q; obtain ⟨xs, e2, _⟩ := q; rw [n] at e2; cases e2
    | dic es => rw [hm] at q; obtain ⟨xs, e2, _⟩ := q; rw [n] at e2; cases e2
    | ins c fs => rw [hm] at q; obtain ⟨dx, gs, e2, _⟩ := q; rw [n] at e2; cases e2
  · obtain ⟨xs, e⟩ := (h.hid p hb).2
    rw [n] at e; cases e
theorem MR.mono {a : Addr} {m : M} (x : Ext io H io' H') (hn : NoT io H) (he : ∀ o, H a = some o → H' a = some o) (h : MR K ct io H a m) : MR K ct io' H' a m := by
  cases m with
  | lst ds => obtain ⟨xs, e, r⟩ := h; exact ⟨xs, he _ e, r.mono x hn⟩
  | dic es => obtain ⟨xs, e, k, r⟩ := h; exact ⟨xs, he _ e, k, r.mono x hn⟩
  | ins c fs => obtain ⟨dx, gs, e, k, r⟩ := h; exact ⟨dx, gs, he _ e, k, r.mono x hn⟩
/-- all is kept -/
theorem HR.same {A : Hd} (h : HR K ct io H A) (x : Ext io H io H') (k : ∀ b o, H b = some o → H' b = some o) : HR K ct io H' A :=
  ⟨h.nd, h.len, fun n a m e1 e2 => (h.at_ n a m e1 e2).mono x h.noT (k a), fun a ha => ⟨(h.hid a ha).1, let ⟨xs, e⟩ := (h.hid a ha).2; ⟨xs, k a _ e⟩⟩⟩
theorem HR.laid {A : Hd} (h : HR K ct io H A) {p : Addr} {o : HO} (n : H p = none) : HR K ct io (upd H p o) A :=
  h.same (Ext.laid n) fun b x e => by rw [upd_ne (ne_of_none e n)]; exact e
end
end DV

set_option Elab.async false
set_option linter.all false
set_option maxRecDepth 100000
/-! DvB: defs at states where nothing is being shown (guards empty), their calls; the law's end. -/
namespace DV
open PySem PySem.Spec PyProof.Rows L2

/-- as FnOk, at states where no repr runs -/
structure FnG (P : Program) (w : World) (K : PySem.W.Frag) (mg : Str → Option Value) (base : Heap) (k : Nat) (f : Addr) (fd : FuncData) (ps : List Str) (sp : Sp) : Prop where
  len : ∀ vs H Q E, sp vs H Q E → vs.length = ps.length
  run : ∀ (A : Around) (outer : List PySem.Env) (s : Shared) (H : Hp) (args : Args) (us : List Value) (vs : List V) (Q : VK) (E : XK), A.guards = some [] → Room k A → Env0 P w K mg base A outer s H → BindsTo s fd args (ps.zip us) →
    Vals vs us → sp vs H Q E → codeAny (model P w) A (.call (.ref f) args) (CR (L2.CX P w) outer P w H s Q E) s
section
variable {P : Program} {w : World} {K : PySem.W.Frag} {mg : Str → Option Value} {base : Heap}
theorem FnG.mono {j k : Nat} {f : Addr} {fd : FuncData} {ps : List Str} {sp : Sp} (F : FnG P w K mg base j f fd ps sp) (h : j ≤ k) : FnG P w K mg base k f fd ps sp :=
  ⟨F.len, fun A outer s H args us vs Q E g r => F.run A outer s H args us vs Q E g (r.mono h)⟩

/-- a def of the text: its body at the entry -/
theorem okG {x qual : Str} {st : Stmt} {f : Addr} {fd : FuncData} {N ps : List Str} {k : Nat} {sp : Sp} (F : Fun K x qual st f fd) (S : FnScope N ps (defScope st)) (len : ∀ vs H Q E, sp vs H Q E → vs.length = ps.length)
    (body : ∀ (cdv : Value) (A : Around) (outer : List PySem.Env) (s : Shared) (H : Hp) (vs : List V) (Q : VK) (E : XK), A.guards = some [] → Room k (A.deeper (envOfC qual (defScope st) s.heap.objs.size f cdv)) → sp vs H Q E →
      ∃ t, PSs (cxOf (L2.CX P w) P w K mg base N qual (defScope st) f cdv A outer s H E) (defBody st) t ∧ t { nx := fun _ H' => Q .non H', rt := Q } (start N vs) H) : FnG P w K mg base (k + 1) f fd ps sp := by
  obtain ⟨oc, od, kV, doc, pm, an, cdv, ct, osl, rfl, lk, hcd⟩ := F.ex
  refine ⟨len, fun A outer s H args us vs Q E hgd hr e0 hb r hsp => ?_⟩
  have hl := len _ _ _ _ hsp
  have KX : K.In s.heap := e0.mod.kin.keeps (fun b o e => (e0.bs b o e).1)
  have lim : s.heap.NoLimit := e0.mod.nolimit.keeps (fun b o e => (e0.bs b o e).1)
  have hk : ∀ y ∈ ps.zip us, (defScope st).names.lookup y.1 = some .local ∨ ((defScope st).names.lookup y.1 = some .cell ∧ ((cellsFrom (s.heap.objs.size + 1) (defScope st).names []).lookup y.1).isSome = true) := by
    intro ⟨n, v⟩ hy
    rcases S.par n (List.of_mem_zip hy).1 with q | q
    · left; exact q
    · right; exact ⟨q, PySem.W.cellsFrom_some _ _ _ (.inl q)⟩
  refine codeAny_call_function hr.depth (KX _ _ lk) rfl S.co S.gen rfl (PySem.W.codeRec_of KX hcd) (hb _ _ _ _ ?_)
  refine wpAny_newFunctionEnv_cells S.kind hk (fun env he s1 x => ?_)
  subst he
  refine ⟨lim.keeps x.toInCall.keep, codeAny_func ?_⟩
  obtain ⟨t, ht, hq⟩ := body cdv A outer s H vs Q E hgd (hr.deeper _) hsp
  have I : Inv (cxOf (L2.CX P w) P w K mg base N qual (defScope st) f cdv A outer s H E) [] (start N vs) H s1 := inv_start S hr.hd e0 hl r x
  refine wpAny_mono (ht.run [] s1 (start N vs) H _ I hq) (fun fl s' hs => ?_) (fun e s' hs => hs)
  cases fl with
  | ret u => obtain ⟨v, σ', H', J, rv, q⟩ := hs; exact ⟨v, H', J.os, J.bare, J.base, J.hok, rv, q⟩
  | next => obtain ⟨σ', H', J, q⟩ := hs; exact ⟨.non, H', J.os, J.bare, J.base, J.hok, rfl, q⟩
  | brk => obtain ⟨_, _, _, q⟩ := hs; exact q.elim
  | cont => obtain ⟨_, _, _, q⟩ := hs; exact q.elim
end

section
variable {X : Cx} {k : Nat} {f C : Addr} {fd : FuncData} {ps : List Str} {sp : Sp} {ds : List Value} {dvs : List V} {W : WX} {x m : Str} {p pos apos : Pos} {e o : Expr} {es : List Expr} {ta : TE} {t : TA}
theorem run_G {pins : List (Addr × Obj)} {σ : L2.St} {H : Hp} {s : Shared} {Q : VK} {us : List Value} {vs : List V} (F : FnG X.prog X.w X.K X.mg X.base k f fd ps sp) (hg : X.A.guards = some []) (hr : Room k X.A) (hb : Binds X.K fd ps ds) (hd : Vals dvs ds) (tk : Takes X W)
    (I : Inv X pins σ H s) (r : Vals vs us) (h : sp (vs ++ dvs) H Q (WE W σ)) : wpAny (model X.prog X.w) X.A (call (.ref f) us) (EP X pins σ Q) X.xe s := by
  have r2 : Vals (vs ++ dvs) (us ++ ds) := Vals.append r hd
  have hl : (us ++ ds).length = ps.length := Eq.trans r2.length.symm (F.len _ _ _ _ h)
  refine wpAny_call (codeAny_mono (F.run X.A X.stack s H ⟨us, []⟩ (us ++ ds) (vs ++ dvs) Q (WE W σ) hg hr I.env0 (hb s us I.kIn hl) r2 h) (fun r s' hq => ?_))
  match r, hq with
  | .error e, hq => exact passAt tk σ pins H s e s' I hq
  | .ok (.ret u), hq => exact I.after hq
  | .ok .next, hq => exact (False.elim hq)
  | .ok .brk, hq => exact (False.elim hq)
  | .ok .cont, hq => exact (False.elim hq)
/-- f(e, ..): the def at the module's name x -/
theorem pe_G (F : FnG X.prog X.w X.K X.mg X.base k f fd ps sp) (hgd : X.A.guards = some []) (hr : Room k X.A) (hg : Gl X x) (hm : X.mg x = some (.ref f)) (hk : PySem.W.keepIn X.K (.ref f) = true) (hb : Binds X.K fd ps ds) (hd : Vals dvs ds) (tk : Takes X W)
    (ha : PA X (e :: es) t) (hdb : (x == ("__debug__" : Str)) = false := by decide) (he : starEach (e :: es) X.env = (false, eval e X.env) :: starEach es X.env := by rfl) (hpl : (backTo pos (starEach es X.env)).any (·.1) = false := by rfl) :
    PE X (.Call (.Name x p) (e :: es) [] pos) (fun σ H Q => t σ H fun vs H1 => sp (vs ++ dvs) H1 Q (WE W σ)) := by
  refine ⟨fun pins s σ H Q I h => wpAny_Call_Name_kw (ld_glob I hg hm ?_ hdb)⟩
  exact PySem.W.callWith_K (h₀ := X.base) I.ok.mod.kin hk (thn (ha.run pos pins s σ H _ I h) fun us s1 ⟨vs, H1, I1, r, q⟩ => ⟨I1.kIn, run_G F hgd hr hb hd tk I1 r q⟩) he hpl
theorem pe_G0 (F : FnG X.prog X.w X.K X.mg X.base k f fd ps sp) (hgd : X.A.guards = some []) (hr : Room k X.A) (hg : Gl X x) (hm : X.mg x = some (.ref f)) (hk : PySem.W.keepIn X.K (.ref f) = true) (hb : Binds X.K fd ps ds) (hd : Vals dvs ds) (tk : Takes X W)
    (hdb : (x == ("__debug__" : Str)) = false := by decide) : PE X (.Call (.Name x p) [] [] pos) (fun σ H Q => sp dvs H Q (WE W σ)) := by
  refine ⟨fun pins s σ H Q I h => wpAny_Call_Name_kw (ld_glob I hg hm ?_ hdb)⟩
  exact PySem.W.callWith_K0 I.kIn hk (run_G (us := []) (vs := []) F hgd hr hb hd tk I .nil h)
end

/-- the law's own call, from its promise (as law_call, for FnG) -/
theorem callG {P : Program} {w : World} {K : PySem.W.Frag} {mg mb : Str → Option Value} {k : Nat} {fa a : Addr} {fd : FuncData} {x : Str} {sp : Sp} {s₁ : Shared} {vs : List Value} {ns : List Int}
    (KX : K.In s₁.heap) (hns : s₁.heap.Ns mainGlobals mg) (hb : s₁.heap.Ns builtinsNs mb) (hbb : ∀ x : Str, x ≠ "__name__" → mb x = bootBuiltins x) (hlim : s₁.heap.NoLimit) (hg : s₁.gens = #[])
    (ha : s₁.heap.get? a = some { cls := .type "list", data := .seq vs.toArray }) (hi : IntsAre vs ns) (hl : ns.length ≤ sizeLine) (hr : Room k callerA)
    (F : ∀ base : Heap, K.In base → base.Ns mainGlobals mg → FnG P w K mg base k fa fd [x] sp) (hbind : ∀ (s : Shared) (u : Value), BindsTo s fd ⟨[u], []⟩ [(x, u)])
    (hsp : ∀ H : Hp, Scr K io0 H a (ns.map V.int) → sp [.ref a] H (fun v _ => v = .bl true) fun _ _ _ => False) :
    codeAny (model P w) callerA (.call (.ref fa) ⟨[.ref a], []⟩) (fun r s' => r = .ok (.ret (.bool true)) ∧ OldK s₁.heap s'.heap ∧ s'.os = s₁.os ∧ AllBare s'.gens) s₁ := by
  have rv := vals_ints hi
  obtain ⟨oa, hoa⟩ : ∃ oa : Obj, oa = { cls := .type "list", data := .seq vs.toArray } := ⟨_, rfl⟩
  have core : ∀ H : Hp, (∀ b, b ≠ a → H b = none) → (H a = none ∨ (H a = some (.frz oa (.lst (ns.map V.int))) ∧ K.lookup a = none)) → Scr K io0 H a (ns.map V.int) →
      codeAny (model P w) callerA (.call (.ref fa) ⟨[.ref a], []⟩) (fun r s' => r = .ok (.ret (.bool true)) ∧ OldK s₁.heap s'.heap ∧ s'.os = s₁.os ∧ AllBare s'.gens) s₁ := by
    intro H h2 h1 hS
    have hok : HOk P w H s₁.heap := fun b u z => by
      by_cases hb : b = a
      · rcases h1 with h1 | ⟨h1, _⟩
        · rw [hb, h1] at z; cases z
        · rw [hb, h1] at z
          cases z
          rw [hb]
          refine ⟨by rw [hoa]; exact ha, by rw [List.length_map]; exact hl, vs, _, rv, ha⟩
      · rw [h2 b hb] at z; cases z
    have free : ∀ {b : Addr} {o : Obj}, s₁.heap.get? b = some o → (b = a → K.lookup a = none → False) → H b = none := fun {b o} e d => by
      by_cases hb : b = a
      · rcases h1 with h1 | ⟨_, h1⟩
        · rw [hb]; exact h1
        · exact (d hb h1).elim
      · exact h2 b hb
    have nsK : ∀ {b : Addr} {m : Str → Option Value}, s₁.heap.Ns b m → (hidT s₁.heap H).Ns b m := fun {b m} ⟨o, es, ep, e, d, r⟩ => ⟨o, es, ep, hidT_get e (free e fun hb _ => by
      rw [hb, ha] at e
      cases e
      cases (show Data.seq vs.toArray _ = Data.dict es ep from d)), d, r⟩
    have hKb : K.In (hidT s₁.heap H) := fun b o e => hidT_get (KX b o e) (free (KX b o e) fun hb hn => by rw [hb, hn] at e; cases e)
    have hM : Mod K mg (hidT s₁.heap H) := ⟨hKb, nsK hns, ⟨mb, nsK hb, hbb⟩, let ⟨mc, q1, q2⟩ := hlim; ⟨mc, nsK q1, q2⟩⟩
    have e0 : Env0 P w K mg (hidT s₁.heap H) callerA [] s₁ H := ⟨rfl, hM, fun b o e => of_hidT e, Nat.le_of_eq (hidT_size _ _), trivial, fun b hb => absurd (show b ∈ ([] : List Addr) from hb) (by simp), hok, .of_eq hg⟩
    refine codeAny_mono ((F _ hKb (nsK hns)).run callerA [] s₁ H ⟨[.ref a], []⟩ [.ref a] [.ref a] _ _ rfl hr e0 (hbind s₁ (.ref a)) (.cons rfl .nil) (hsp H hS)) (fun r s' h => ?_)
    match r, h with
    | .error e, h => obtain ⟨_, _, _, _, _, _, _, _, _, _, _, _, z⟩ := h; exact z.elim
    | .ok .next, h => exact (False.elim h)
    | .ok .brk, h => exact (False.elim h)
    | .ok .cont, h => exact (False.elim h)
    | .ok (.ret u), h =>
      obtain ⟨v, H', os, bare, un, hok', r', q⟩ := h
      have q' : v = .bl true := q
      subst q'
      obtain rfl : u = Value.bool true := r'
      refine ⟨rfl, OldK.of_keep fun b o e => ?_, os, bare⟩
      by_cases hb : b = a
      · rcases h1 with h1 | ⟨h1, _⟩
        · rw [hb] at e ⊢
          exact un.keep a o e h1 (by intro z; exact absurd (show a ∈ ([] : List Addr) from z) (by simp)) (by simp)
        · obtain ⟨e2, _⟩ := hok' b _ (un.frzs b oa _ (by rw [hb]; exact h1))
          rw [hb, ha] at e
          cases e
          rw [e2, hoa]
      · exact un.keep b o e (h2 b hb) (by intro z; exact absurd (show b ∈ ([] : List Addr) from z) (by simp)) (by simp)
  cases hk : K.lookup a with
  | some o =>
    have e := KX a o hk
    rw [ha] at e
    cases e
    exact core (fun _ => none) (fun _ _ => rfl) (.inl rfl) (.inr ⟨_, vs.toArray, _, hk, rfl, rfl, rfl, by rw [List.size_toArray, hi.length]; exact hl, by simpa using rv⟩)
  | none =>
    refine core (fun b => if b = a then some (.frz oa (.lst (ns.map V.int))) else none) (fun b hb => if_neg hb) (.inr ⟨if_pos rfl, hk⟩) (.inl ⟨(by rintro (z | z) <;> cases z), oa, if_pos rfl⟩)

/-- the goal that k_head leaves, from the law's promise -/
theorem walkG {l : PySem.W.OpenLaw} {n k : Nat} {q : Program} {loose : List Str} {XP : (Str → Option Value) → Heap → Prop} {YP : World → Heap → Prop} {d : DefRec} {K : Params → PySem.W.Frag} {sp : World → Sp} {x : Str}
    (hn : l.most = some n) (hn2 : n ≤ sizeLine) (hdf : d.params.defaults = []) (hr : Room k callerA)
    (hY : ∀ (w : World) (h : Heap), YP w h → (K w.params).In h)
    (F : ∀ (w : World) (mg : Str → Option Value) (fa : Addr) (h : Heap), (K w.params).In h → h.Ns mainGlobals mg → mg d.name = some (.ref fa) →
      (∃ fd : FuncData, (∀ (s : Shared) (u : Value), BindsTo s fd ⟨[u], []⟩ [(x, u)]) ∧
        ∀ base : Heap, (K w.params).In base → base.Ns mainGlobals mg → FnG l.prog w (K w.params) mg base k fa fd [x] (sp w)) ∧
      ∀ (H : Hp) (a : Addr) (ns : List Int), ns.length ≤ n → Scr (K w.params) io0 H a (ns.map V.int) → sp w [.ref a] H (fun v _ => v = .bl true) fun _ _ _ => False) :
    PySem.W.WalkO q loose XP YP l.row.toRowW d [] (fun f vs => PySem.call f vs) := by
  refine Att.attach_call hn hdf fun w s₀ s₁ mg mb fa o pm cd doc a vs ns G Y ho hd hcd hmg hobj hints hlen hg => ?_
  have KX := hY w _ Y
  obtain ⟨⟨fd, hb, hF⟩, hsp⟩ := F w mg fa _ KX G.T.g hmg
  exact callG KX G.T.g G.T.b G.T.builtins G.T.nolimit hg hobj hints (Nat.le_trans hlen hn2) hr hF hb (fun H hS => hsp H a ns hlen hS)
end DV

set_option Elab.async false
set_option linter.all false
set_option maxRecDepth 100000
/-! DvC: results, what they ask of the heap, the judgements by data, names, constants, displays, and / or / not / if. -/
namespace DV
open PySem PySem.Spec PyProof.Rows L2

inductive R (α : Type) where
  | ok (a : α) (A : Hd) | err (c : Cl) (fs : List (Str × D)) (A : Hd) | stk
def R.bind {α β : Type} (r : R α) (k : α → Hd → R β) : R β := match r with
  | .ok a A => k a A
  | .err c fs A => .err c fs A
  | .stk => .stk
@[simp] theorem R.bind_ok {α β : Type} (a : α) (A : Hd) (k : α → Hd → R β) : (R.ok a A).bind k = k a A := rfl
@[simp] theorem R.bind_err {α β : Type} (c : Cl) (fs : List (Str × D)) (A : Hd) (k : α → Hd → R β) : (R.err c fs A : R α).bind k = .err c fs A := rfl
@[simp] theorem R.bind_stk {α β : Type} (k : α → Hd → R β) : (R.stk : R α).bind k = .stk := rfl
theorem R.bind_assoc {α β γ : Type} (r : R α) (k : α → Hd → R β) (l : β → Hd → R γ) : (r.bind k).bind l = r.bind fun a A => (k a A).bind l := by
  cases r <;> rfl

abbrev EF := Env → Hd → R D
abbrev TF := Env → Hd → R Bool
abbrev AF := Env → Hd → R (List D)

def ClV (ct : String → Addr) : Cl → Value
  | .own n => .ref (ct n)
  | .bi n => .type n
/-- an exception in the air -/
structure XR (K : PySem.W.Frag) (ct : String → Addr) (io : Io) (H : Hp) (c : Cl) (fs : List (Str × D)) (cls : Value) (dd : Option Addr) : Prop where
  cls : cls = ClV ct c
  fds : fs = [] ∨ ∃ p gs, dd = some p ∧ p ∉ io ∧ H p = some (.xd gs) ∧ gs.map (·.1) = fs.map (·.1) ∧ DRs K ct io H (gs.map (·.2)) (fs.map (·.2))

section
variable (K : PySem.W.Frag) (ct : String → Addr)
/-- what a result asks -/
def Post {α β : Type} (rep : Io → Hp → β → α → Prop) (W : WX) (σ : L2.St) (io : Io) (H : Hp) (r : R α) (Q : β → Hp → Prop) : Prop := match r with
  | .ok a A => ∀ b io' H', Ext io H io' H' → HR K ct io' H' A → rep io' H' b a → Q b H'
  | .err c fs A => ∀ cls dd io' H', Ext io H io' H' → HR K ct io' H' A → XR K ct io' H' c fs cls dd → W cls dd σ H'
  | .stk => False
abbrev repB : Io → Hp → Bool → Bool → Prop := fun _ _ b a => b = a
/-- a state -/
structure Sta (ro : Env) (A : Hd) (io : Io) (σ : L2.St) (H : Hp) : Prop where
  hr : HR K ct io H A
  env : EnvR K ct io H ro σ
def tD (W : WX) (f : EF) : TE := fun σ H Q => ∃ io A ro, Sta K ct ro A io σ H ∧ Post K ct (DR K ct) W σ io H (f ro A) Q
def tT (W : WX) (f : TF) : TT := fun σ H Q => ∃ io A ro, Sta K ct ro A io σ H ∧ Post K ct repB W σ io H (f ro A) Q
def tL (W : WX) (f : AF) : TA := fun σ H Q => ∃ io A ro, Sta K ct ro A io σ H ∧ Post K ct (DRs K ct) W σ io H (f ro A) Q
end

section
variable {K : PySem.W.Frag} {ct : String → Addr} {W : WX} {σ : L2.St} {io io' : Io} {H H' : Hp} {A A' : Hd} {ro : Env}
theorem Post.mono {α β : Type} {rep : Io → Hp → β → α → Prop} {r : R α} {Q Q' : β → Hp → Prop} (h : Post K ct rep W σ io H r Q) (m : ∀ b H', Q b H' → Q' b H') : Post K ct rep W σ io H r Q' := by
  cases r with
  | ok a A => exact fun b io' H' e h1 r => m _ _ (h b io' H' e h1 r)
  | err c fs A => exact h
  | stk => exact h
theorem Post.ext {α β : Type} {rep : Io → Hp → β → α → Prop} {r : R α} {Q : β → Hp → Prop} (e : Ext io H io' H') (h : Post K ct rep W σ io H r Q) : Post K ct rep W σ io' H' r Q := by
  cases r with
  | ok a A => exact fun b io2 H2 e2 h1 r => h b io2 H2 (e.trans e2) h1 r
  | err c fs A => exact fun cls dd io2 H2 e2 h1 r => h cls dd io2 H2 (e.trans e2) h1 r
  | stk => exact h
theorem Post.bind {α β γ δ : Type} {rep : Io → Hp → β → α → Prop} {rep2 : Io → Hp → δ → γ → Prop} {r : R α} {k : α → Hd → R γ} {Q : δ → Hp → Prop} (h : Post K ct rep2 W σ io H (r.bind k) Q) :
    Post K ct rep W σ io H r (fun b H1 => ∃ io1 A1 a, Ext io H io1 H1 ∧ HR K ct io1 H1 A1 ∧ rep io1 H1 b a ∧ Post K ct rep2 W σ io1 H1 (k a A1) Q) := by
  cases r with
  | ok a A => exact fun b io1 H1 e h1 r => ⟨io1, A, a, e, h1, r, Post.ext e h⟩
  | err c fs A => exact h
  | stk => exact h
theorem Sta.mono (s : Sta K ct ro A io σ H) (e : Ext io H io' H') (h : HR K ct io' H' A') : Sta K ct ro A' io' σ H' := ⟨h, s.env.mono e s.hr.noT⟩
/-- a value that stands already -/
theorem Post.here {α β : Type} {rep : Io → Hp → β → α → Prop} {a : α} {b : β} {Q : β → Hp → Prop} (h : Post K ct rep W σ io H (.ok a A) Q) (hr : HR K ct io H A) (r : rep io H b a) : Q b H := h b io H Ext.refl hr r
/-- a new object -/
theorem Post.new {d : D} {p : Addr} {o : HO} {Q : VK} (h : Post K ct (DR K ct) W σ io H (.ok d A) Q) (hr : HR K ct io H A) (n : H p = none) (r : DR K ct io (upd H p o) (.ref p) d) : Q (.ref p) (upd H p o) :=
  h _ io _ (Ext.laid n) (hr.laid n) r
theorem DRs.laid {vs : List V} {ds : List D} {p : Addr} {o : HO} (h : DRs K ct io H vs ds) (hr : HR K ct io H A) (n : H p = none) : DRs K ct io (upd H p o) vs ds := h.mono (Ext.laid n) hr.noT
theorem DR.laid {v : V} {d : D} {p : Addr} {o : HO} (h : DR K ct io H v d) (hr : HR K ct io H A) (n : H p = none) : DR K ct io (upd H p o) v d := h.mono (Ext.laid n) hr.noT
theorem DR.newLst {vs : List V} {ds : List D} {p : Addr} (hr : HR K ct io H A) (n : H p = none) (h : DRs K ct io H vs ds) : DR K ct io (upd H p (.lst vs)) (.ref p) (.lst ds) := .lst (hr.ne n) upd_same (h.laid hr n)
theorem DR.newTup {vs : List V} {ds : List D} {p : Addr} (hr : HR K ct io H A) (n : H p = none) (h : DRs K ct io H vs ds) : DR K ct io (upd H p (.tup vs)) (.ref p) (.tup ds) := .tup (SqT.of upd_same) (h.laid hr n)
end

/-! ### judgements -/
section
variable (X : Cx) (ct : String → Addr) (W : WX)
abbrev PD (e : Expr) (f : EF) : Prop := PE X e (tD X.K ct W f)
abbrev PDt (e : Expr) (f : TF) : Prop := PT X e (tT X.K ct W f)
abbrev PDw (e : Expr) (f : TF) : Prop := PW X e (tT X.K ct W f)
abbrev PDa (es : List Expr) (f : AF) : Prop := PA X es (tL X.K ct W f)
end
theorem pe_mono {X : Cx} {e : Expr} {t t' : TE} (h : PE X e t) (m : ∀ σ H Q, t' σ H Q → t σ H Q) : PE X e t' := ⟨fun pins s σ H Q I q => h.run pins s σ H Q I (m _ _ _ q)⟩
theorem pt_mono {X : Cx} {e : Expr} {t t' : TT} (h : PT X e t) (m : ∀ σ H Q, t' σ H Q → t σ H Q) : PT X e t' := ⟨fun pins s σ H Q I q => h.run pins s σ H Q I (m _ _ _ q)⟩
theorem pw_mono {X : Cx} {e : Expr} {t t' : TT} (h : PW X e t) (m : ∀ σ H Q, t' σ H Q → t σ H Q) : PW X e t' := ⟨fun wh pins s σ H Q I q => h.run wh pins s σ H Q I (m _ _ _ q)⟩
theorem pa_mono {X : Cx} {e : List Expr} {t t' : TA} (h : PA X e t) (m : ∀ σ H Q, t' σ H Q → t σ H Q) : PA X e t' := ⟨fun pos pins s σ H Q I q => h.run pos pins s σ H Q I (m _ _ _ q)⟩

/-! ### combinators -/
def eVar (i : Nat) : EF := fun ro A => match ro[i]? with
  | some (some d) => .ok d A
  | _ => .stk
def eC (d : D) : EF := fun _ A => .ok d A
def eBin (g : D → D → Hd → R D) (a b : EF) : EF := fun ro A => (a ro A).bind fun d A1 => (b ro A1).bind fun e A2 => g d e A2
def eUn (g : D → Hd → R D) (a : EF) : EF := fun ro A => (a ro A).bind fun d A1 => g d A1
def aNil : AF := fun _ A => .ok [] A
def aCons (a : EF) (b : AF) : AF := fun ro A => (a ro A).bind fun d A1 => (b ro A1).bind fun ds A2 => .ok (d :: ds) A2
def eArgs (g : List D → Hd → R D) (a : AF) : EF := fun ro A => (a ro A).bind fun ds A1 => g ds A1
def gTupD (ds : List D) (A : Hd) : R D := if ds.length ≤ sizeLine then .ok (.tup ds) A else .stk
def gLstD (ds : List D) (A : Hd) : R D := if ds.length ≤ sizeLine then .ok (.lst ds) A else .stk
/-- a list that will change: it gets a number -/
def gLstM (ds : List D) (A : Hd) : R D := if ds.length ≤ sizeLine then .ok (.ref A.length) (A ++ [.lst ds]) else .stk

/-- a value's truth -/
def truD (d : D) (A : Hd) : Option Bool := match d with
  | .non => some false
  | .bl b => some b
  | .int i => some (i != 0)
  | .str y => if y.length ≤ sizeLine then some (y.length != 0) else none
  | .tup ds => some (!ds.isEmpty)
  | .lst ds => some (!ds.isEmpty)
  | .scr ds => some (!ds.isEmpty)
  | .dic es => some (!es.isEmpty)
  | .ref n => match A[n]? with
    | some (.lst ds) => some (!ds.isEmpty)
    | some (.dic es) => some (!es.isEmpty)
    | _ => none
  | .cls _ => none
def gTru (d : D) (A : Hd) : R Bool := match truD d A with
  | some b => .ok b A
  | none => .stk
/-- a bool's truth, as a test -/
def gBool (d : D) (A : Hd) : R Bool := match d with
  | .bl b => .ok b A
  | _ => .stk
def tOfE (a : EF) : TF := fun ro A => (a ro A).bind gTru
def tAndD (a b : TF) : TF := fun ro A => (a ro A).bind fun c A1 => if c then b ro A1 else .ok false A1
def tOrD (a b : TF) : TF := fun ro A => (a ro A).bind fun c A1 => if c then .ok true A1 else b ro A1
def tNotD (a : TF) : TF := fun ro A => (a ro A).bind fun c A1 => .ok (!c) A1
def eAndD (a b : EF) : EF := fun ro A => (a ro A).bind fun d A1 => (gTru d A1).bind fun c A2 => if c then b ro A2 else .ok d A2
def eOrD (a b : EF) : EF := fun ro A => (a ro A).bind fun d A1 => (gTru d A1).bind fun c A2 => if c then .ok d A2 else b ro A2
def eNotD (a : EF) : EF := fun ro A => (a ro A).bind fun d A1 => (gTru d A1).bind fun c A2 => .ok (.bl (!c)) A2
def eIf (c : TF) (a b : EF) : EF := fun ro A => (c ro A).bind fun k A1 => if k then a ro A1 else b ro A1

section
variable {X : Cx} {ct : String → Addr} {W : WX} {e a b : Expr} {pos : Pos} {fa fb : EF} {ft fu : TF}
theorem pd_var (i : Nat) {x : Str} (hN : X.N[i]? = some x := by rfl) (hv : Vis X.env.scope x := by first | exact Or.inl rfl | exact Or.inr (Or.inl rfl) | exact Or.inr (Or.inr rfl)) (hd : (x == ("__debug__" : Str)) = false := by decide)
    (hcd : (x == ("__classdict__" : Str)) = false := by decide) : PD X ct W (.Name x pos) (eVar i) :=
  pe_mono (pe_var hN hv hd hcd) fun σ H Q ⟨io, A, ro, s, p⟩ => by
    unfold eVar at p
    split at p
    · rename_i d q
      obtain ⟨v, e1, r⟩ := s.env.at_ i d q
      exact ⟨v, e1, p.here s.hr r⟩
    · exact p.elim
theorem pd_c {v : V} {d : D} (h : PE X e (tC v)) (r : ∀ io H, DR X.K ct io H v d) : PD X ct W e (eC d) :=
  pe_mono h fun σ H Q ⟨io, A, ro, s, p⟩ => p.here s.hr (r io H)
theorem pd_int {i j} : PD X ct W (.Constant (.int i) j pos) (eC (.int i)) := pd_c pe_int fun _ _ => .int i
theorem pd_bl {b j} : PD X ct W (.Constant (.bool b) j pos) (eC (.bl b)) := pd_c pe_bl fun _ _ => .bl b
theorem pd_non {j} : PD X ct W (.Constant .none j pos) (eC .non) := pd_c pe_non fun _ _ => .non
theorem pd_str {x j} : PD X ct W (.Constant (.str x) j pos) (eC (.str x)) := pd_c pe_str fun _ _ => .str x

/-- what a rule by values wants, from a function on data -/
def OpD (K : PySem.W.Frag) (ct : String → Addr) (r : R2) (g : D → D → Hd → R D) : Prop := ∀ (W : WX) σ io H A x y d e Q, HR K ct io H A → DR K ct io H x d → DR K ct io H y e → Post K ct (DR K ct) W σ io H (g d e A) Q → r x y H Q
def UnD (K : PySem.W.Frag) (ct : String → Addr) (r : V → Hp → VK → Prop) (g : D → Hd → R D) : Prop := ∀ (W : WX) σ io H A x d Q, HR K ct io H A → DR K ct io H x d → Post K ct (DR K ct) W σ io H (g d A) Q → r x H Q
def CaD (K : PySem.W.Frag) (ct : String → Addr) (r : List V → Hp → VK → Prop) (g : List D → Hd → R D) : Prop := ∀ (W : WX) σ io H A xs ds Q, HR K ct io H A → DRs K ct io H xs ds → Post K ct (DR K ct) W σ io H (g ds A) Q → r xs H Q

theorem tOp_D {K : PySem.W.Frag} {r : R2} {g : D → D → Hd → R D} (o : OpD K ct r g) {σ : L2.St} {H : Hp} {Q : VK} (h : tD K ct W (eBin g fa fb) σ H Q) : tOp r (tD K ct W fa) (tD K ct W fb) σ H Q := by
  obtain ⟨io, A, ro, s, p⟩ := h
  refine ⟨io, A, ro, s, (p.bind (rep := DR K ct)).mono ?_⟩
  rintro v H1 ⟨io1, A1, d, e1, h1, r1, p1⟩
  refine ⟨io1, A1, ro, s.mono e1 h1, (p1.bind (rep := DR K ct)).mono ?_⟩
  rintro w H2 ⟨io2, A2, d2, e2, h2, r2, p2⟩
  exact o W σ io2 H2 A2 v w d d2 Q h2 (r1.mono e2 h1.noT) r2 p2
theorem tUn_D {K : PySem.W.Frag} {r : V → Hp → VK → Prop} {g : D → Hd → R D} (o : UnD K ct r g) {σ : L2.St} {H : Hp} {Q : VK} (h : tD K ct W (eUn g fa) σ H Q) : tUn r (tD K ct W fa) σ H Q := by
  obtain ⟨io, A, ro, s, p⟩ := h
  refine ⟨io, A, ro, s, (p.bind (rep := DR K ct)).mono ?_⟩
  rintro v H1 ⟨io1, A1, d, e1, h1, r1, p1⟩
  exact o W σ io1 H1 A1 v d Q h1 r1 p1
theorem tCB_D {K : PySem.W.Frag} {r : List V → Hp → VK → Prop} {g : List D → Hd → R D} (o : CaD K ct r g) {fl : AF} {σ : L2.St} {H : Hp} {Q : VK} (h : tD K ct W (eArgs g fl) σ H Q) : tCB r (tL K ct W fl) σ H Q := by
  obtain ⟨io, A, ro, s, p⟩ := h
  refine ⟨io, A, ro, s, (p.bind (rep := DRs K ct)).mono ?_⟩
  rintro v H1 ⟨io1, A1, d, e1, h1, r1, p1⟩
  exact o W σ io1 H1 A1 v d Q h1 r1 p1

theorem pd_op {op : Operator} {r : R2} {g : D → D → Hd → R D} (ho : OpR X (binaryOp op) r) (o : OpD X.K ct r g) (ha : PD X ct W a fa) (hb : PD X ct W b fb) : PD X ct W (.BinOp a op b pos) (eBin g fa fb) :=
  pe_mono (pe_op ho ha hb) fun _ _ _ h => tOp_D o h
theorem pd_cmp {op : CmpOp} {r : R2} {g : D → D → Hd → R D} (ho : OpR X (compareOp op) r) (o : OpD X.K ct r g) (ha : PD X ct W a fa) (hb : PD X ct W b fb) (hm : behindInMarks op b = false) : PD X ct W (.Compare a [op] [b] pos) (eBin g fa fb) :=
  pe_mono (pe_cmpR ho ha hb hm) fun _ _ _ h => tOp_D o h
theorem pd_un {op : UnaryOp} {r : V → Hp → VK → Prop} {g : D → Hd → R D} (ho : UnR X (unaryOp op) r) (o : UnD X.K ct r g) (ha : PD X ct W a fa) : PD X ct W (.UnaryOp op a pos) (eUn g fa) :=
  pe_mono (pe_un ho ha) fun _ _ _ h => tUn_D o h
theorem pd_ix {r : R2} {g : D → D → Hd → R D} (ho : IxR X r) (o : OpD X.K ct r g) (ha : PD X ct W a fa) (hb : PD X ct W b fb) (hs : PlainIx b) : PD X ct W (.Subscript a b pos) (eBin g fa fb) :=
  pe_mono (pe_ix ho ha hb hs) fun _ _ _ h => tOp_D o h
theorem pd_callB {x : Str} {p : Pos} {es : List Expr} {fl : AF} {id : String} {r : List V → Hp → VK → Prop} {g : List D → Hd → R D} (hc : CallR X (.builtin id) r) (o : CaD X.K ct r g) (hg : Gl X x) (hm : X.mg x = none) (hv : bootBuiltins x = some (.builtin id)) (ha : PDa X ct W (e :: es) fl)
    (hn : x ≠ "__name__" := by decide) (hdb : (x == ("__debug__" : Str)) = false := by decide) (he : starEach (e :: es) X.env = (false, eval e X.env) :: starEach es X.env := by rfl) (hpl : (backTo pos (starEach es X.env)).any (·.1) = false := by rfl) :
    PD X ct W (.Call (.Name x p) (e :: es) [] pos) (eArgs g fl) := pe_mono (pe_callB hc hg hm hv ha hn hdb he hpl) fun _ _ _ h => tCB_D o h
theorem pd_callTy {x : Str} {p : Pos} {es : List Expr} {fl : AF} {T : String} {r : List V → Hp → VK → Prop} {g : List D → Hd → R D} (hc : CallR X (.type T) r) (o : CaD X.K ct r g) (hg : Gl X x) (hm : X.mg x = none) (hv : bootBuiltins x = some (.type T)) (ha : PDa X ct W (e :: es) fl)
    (hn : x ≠ "__name__" := by decide) (hdb : (x == ("__debug__" : Str)) = false := by decide) (he : starEach (e :: es) X.env = (false, eval e X.env) :: starEach es X.env := by rfl) (hpl : (backTo pos (starEach es X.env)).any (·.1) = false := by rfl) :
    PD X ct W (.Call (.Name x p) (e :: es) [] pos) (eArgs g fl) := pe_mono (pe_callTy hc hg hm hv ha hn hdb he hpl) fun _ _ _ h => tCB_D o h

theorem pda_nil : PDa X ct W [] aNil := pa_mono pa_nil fun σ H Q ⟨io, A, ro, s, p⟩ => p.here s.hr .nil
theorem pda_cons {es : List Expr} {fl : AF} (ha : PD X ct W e fa) (hl : PDa X ct W es fl) (he : starEach (e :: es) X.env = (false, eval e X.env) :: starEach es X.env := by rfl) : PDa X ct W (e :: es) (aCons fa fl) :=
  pa_mono (pa_cons ha hl he) fun σ H Q ⟨io, A, ro, s, p⟩ => by
    refine ⟨io, A, ro, s, (p.bind (rep := DR X.K ct)).mono ?_⟩
    rintro v H1 ⟨io1, A1, d, e1, h1, r1, p1⟩
    refine ⟨io1, A1, ro, s.mono e1 h1, (p1.bind (rep := DRs X.K ct)).mono ?_⟩
    rintro w H2 ⟨io2, A2, d2, e2, h2, r2, p2⟩
    exact p2.here h2 (.cons (r1.mono e2 h1.noT) r2)
theorem pd_tup {es : List Expr} {k : Nat} {fl : AF} (h : PDa X ct W es fl) : PD X ct W (.Tuple es k pos) (eArgs gTupD fl) :=
  pe_mono (pe_tup h) fun σ H Q ⟨io, A, ro, s, p⟩ => by
    refine ⟨io, A, ro, s, (p.bind (rep := DRs X.K ct)).mono ?_⟩
    rintro v H1 ⟨io1, A1, d, e1, h1, r1, p1⟩
    unfold gTupD at p1
    split at p1
    · rename_i hz
      exact ⟨by rw [r1.length]; exact hz, fun q hq => p1.new h1 hq (.newTup h1 hq r1)⟩
    · exact p1.elim
theorem pd_lst {es : List Expr} {fl : AF} (h : PDa X ct W es fl) : PD X ct W (.List es pos) (eArgs gLstD fl) :=
  pe_mono (pe_lst h) fun σ H Q ⟨io, A, ro, s, p⟩ => by
    refine ⟨io, A, ro, s, (p.bind (rep := DRs X.K ct)).mono ?_⟩
    rintro v H1 ⟨io1, A1, d, e1, h1, r1, p1⟩
    unfold gLstD at p1
    split at p1
    · rename_i hz
      exact ⟨by rw [r1.length]; exact hz, fun q hq => p1.new h1 hq (.newLst h1 hq r1)⟩
    · exact p1.elim

/-! ### a new numbered object -/
theorem Ext.num {io : Io} {H : Hp} {p : Addr} {o : HO} (n : H p = none) : Ext io H (io.add p) (upd H p o) := by
  refine ⟨⟨[p], rfl⟩, fun _ h => h, fun _ h => .inl h, fun b h k => ?_, fun b x e k => ?_, fun b x e => ⟨x, ?_⟩⟩
  · rcases List.mem_append.mp h with h | h
    · exact absurd h k
    · rw [List.mem_singleton.mp h]; exact n
  · rw [upd_ne (ne_of_none e n)]; exact e
  · rw [upd_ne (ne_of_none e n)]; exact e
theorem HR.num {K : PySem.W.Frag} {io : Io} {H : Hp} {A : Hd} {p : Addr} {o : HO} {m : M} (h : HR K ct io H A) (n : H p = none) (hm : MR K ct (io.add p) (upd H p o) p m) : HR K ct (io.add p) (upd H p o) (A ++ [m]) := by
  refine ⟨?_, by show (io.nm ++ [p]).length = _; rw [List.length_append, List.length_append, h.len]; rfl, fun k a m' e1 e2 => ?_, fun a ha => ?_⟩
  · show (io.nm ++ [p]).Nodup
    rw [List.nodup_append]
    refine ⟨h.nd, (by simp), fun a ha b hb => ?_⟩
    rw [List.mem_singleton.mp hb]
    rintro rfl
    exact h.ne n (.inl ha)
  · have e1 : (io.nm ++ [p])[k]? = some a := e1
    by_cases hk : k < io.nm.length
    · rw [List.getElem?_append_left hk] at e1
      rw [List.getElem?_append_left (by rw [← h.len]; exact hk)] at e2
      exact (h.at_ k a m' e1 e2).mono (Ext.num n) h.noT fun o' e => by rw [upd_ne (ne_of_none e n)]; exact e
    · rw [List.getElem?_append_right (by omega)] at e1
      rw [List.getElem?_append_right (by rw [← h.len]; omega)] at e2
      have l1 := (List.getElem?_eq_some_iff.mp e1).1
      have hk0 : k - io.nm.length = 0 := by simpa using l1
      have hk1 : k - A.length = 0 := by rw [← h.len]; exact hk0
      rw [hk0] at e1
      rw [hk1] at e2
      cases e1
      cases e2
      exact hm
  · obtain ⟨h1, xs, h2⟩ := h.hid a ha
    have hp : a ≠ p := ne_of_none h2 n
    refine ⟨fun z => ?_, xs, by rw [upd_ne hp]; exact h2⟩
    rcases List.mem_append.mp z with z | z
    · exact h1 z
    · exact hp (List.mem_singleton.mp z)
theorem pd_lstM {es : List Expr} {fl : AF} (h : PDa X ct W es fl) : PD X ct W (.List es pos) (eArgs gLstM fl) :=
  pe_mono (pe_lst h) fun σ H Q ⟨io, A, ro, s, p⟩ => by
    refine ⟨io, A, ro, s, (p.bind (rep := DRs X.K ct)).mono ?_⟩
    rintro v H1 ⟨io1, A1, d, e1, h1, r1, p1⟩
    unfold gLstM at p1
    split at p1
    · rename_i hz
      refine ⟨by rw [r1.length]; exact hz, fun q hq => ?_⟩
      refine p1 _ (io1.add q) _ (Ext.num hq) (h1.num hq ⟨_, upd_same, r1.mono (Ext.num hq) h1.noT⟩) (.ref ?_)
      show (io1.nm ++ [q])[A1.length]? = some q
      rw [← h1.len]
      simp
    · exact p1.elim

/-! ### truth, and, or, not, if -/
theorem tru_D {K : PySem.W.Frag} {io : Io} {H : Hp} {A : Hd} {v : V} {d : D} {b : Bool} (h : HR K ct io H A) (r : DR K ct io H v d) (e : truD d A = some b) : TruV K v H b := by
  cases r with
  | non => cases e; rfl
  | bl c => cases e; rfl
  | int i => cases e; rfl
  | str x =>
    unfold truD at e
    dsimp only at e
    split at e
    · rename_i hz
      cases e
      refine ⟨hz, ?_⟩
      cases hx : x.length with
      | zero => rfl
      | succ n => rfl
    · cases e
  | tup q rs => cases e; exact .inr (.inl ⟨_, q, by rw [rs.isEmpty]⟩)
  | lst n q rs => cases e; exact .inl ⟨_, SqL.of q, by rw [rs.isEmpty]⟩
  | scr q rs => cases e; exact .inl ⟨_, q.sq, by rw [rs.isEmpty]⟩
  | dic n q k rs => cases e; exact .inr (.inr ⟨_, q, by rw [keys_isEmpty k]⟩)
  | ref q =>
    obtain ⟨m, hm⟩ := h.has q
    have mr := h.get q hm
    unfold truD at e
    dsimp only at e
    rw [hm] at e
    cases m with
    | lst ds => cases e; obtain ⟨xs, q1, rs⟩ := mr; exact .inl ⟨_, SqL.of q1, by rw [rs.isEmpty]⟩
    | dic es => cases e; obtain ⟨kvs, q1, k, rs⟩ := mr; exact .inr (.inr ⟨_, q1, by rw [keys_isEmpty k]⟩)
    | ins c fs => cases e
  | ty n => cases e
  | own n => cases e
theorem gTru_ok {d : D} {A A1 : Hd} {c : Bool} (e : gTru d A = .ok c A1) : truD d A = some c ∧ A1 = A := by
  unfold gTru at e
  cases h : truD d A with
  | none => rw [h] at e; cases e
  | some b => rw [h] at e; cases e; exact ⟨rfl, rfl⟩
theorem gTru_post {α β : Type} {rep : Io → Hp → β → α → Prop} {K : PySem.W.Frag} {σ : L2.St} {io : Io} {H : Hp} {A : Hd} {d : D} {k : Bool → Hd → R α} {Q : β → Hp → Prop} (p : Post K ct rep W σ io H ((gTru d A).bind k) Q) :
    ∃ c, truD d A = some c ∧ Post K ct rep W σ io H (k c A) Q := by
  unfold gTru at p
  cases h : truD d A with
  | none => rw [h] at p; exact p.elim
  | some b => rw [h] at p; exact ⟨b, rfl, p⟩

theorem pdt_truth (h : PD X ct W e fa) (he : ∀ whole, isTrue e X.env whole = (do let v ← whole; standAt e.pos; holding [v] (truthy v)) := by intro _; rfl) : PDt X ct W e (tOfE fa) :=
  pt_mono (pt_truth h he) fun σ H Q ⟨io, A, ro, s, p⟩ => by
    refine ⟨io, A, ro, s, (p.bind (rep := DR X.K ct)).mono ?_⟩
    rintro v H1 ⟨io1, A1, d, e1, h1, r1, p1⟩
    rw [show gTru d A1 = (gTru d A1).bind (fun c A => .ok c A) by cases gTru d A1 <;> rfl] at p1
    obtain ⟨c, hc, p2⟩ := gTru_post p1
    exact ⟨c, tru_D h1 r1 hc, p2.here h1 rfl⟩
theorem pt_of_pe {t : TE} (he : PT X e (tTest t)) {f : EF} (m : ∀ σ H Q, tD X.K ct W f σ H Q → t σ H Q) : PDt X ct W e (fun ro A => (f ro A).bind gBool) :=
  pt_mono he fun σ H Q ⟨io, A, ro, s, p⟩ => m _ _ _ ⟨io, A, ro, s, (p.bind (rep := DR X.K ct)).mono fun v H1 ⟨io1, A1, d, e1, h1, r1, p1⟩ => by
    cases r1 with
    | bl c => exact ⟨c, rfl, p1.here h1 rfl⟩
    | _ => exact p1.elim⟩
def tCmpD (g : D → D → Hd → R D) (a b : EF) : TF := fun ro A => (eBin g a b ro A).bind gBool
theorem pdt_cmp {op : CmpOp} {r : R2} {g : D → D → Hd → R D} (ho : OpR X (compareOp op) r) (o : OpD X.K ct r g) (ha : PD X ct W a fa) (hb : PD X ct W b fb) (hm : behindInMarks op b = false) : PDt X ct W (.Compare a [op] [b] pos) (tCmpD g fa fb) :=
  pt_of_pe (pt_cmpR ho ha hb hm) fun _ _ _ h => tOp_D o h
/-- a < b < c -/
def eChain (g g' : D → D → Hd → R D) (a b c : EF) : EF := fun ro A => (a ro A).bind fun x A1 => (b ro A1).bind fun y A2 => (g x y A2).bind fun z A3 => (gBool z A3).bind fun k A4 =>
  if k then (c ro A4).bind fun w A5 => g' y w A5 else .ok (.bl false) A4
theorem chain_D {K : PySem.W.Frag} {r r' : R2} {g g' : D → D → Hd → R D} (o : OpD K ct r g) (o' : OpD K ct r' g') {fc : EF} {σ : L2.St} {H : Hp} {Q : VK} (h : tD K ct W (eChain g g' fa fb fc) σ H Q) : tChain r r' (tD K ct W fa) (tD K ct W fb) (tD K ct W fc) σ H Q := by
  obtain ⟨io, A, ro, s, p⟩ := h
  refine ⟨io, A, ro, s, (p.bind (rep := DR K ct)).mono ?_⟩
  rintro v H1 ⟨io1, A1, d, e1, h1, r1, p1⟩
  refine ⟨io1, A1, ro, s.mono e1 h1, (p1.bind (rep := DR K ct)).mono ?_⟩
  rintro w H2 ⟨io2, A2, d2, e2, h2, r2, p2⟩
  refine o W σ io2 H2 A2 v w d d2 _ h2 (r1.mono e2 h1.noT) r2 ((p2.bind (rep := DR K ct)).mono ?_)
  rintro z H3 ⟨io3, A3, d3, e3, h3, r3, p3⟩
  cases r3 with
  | bl k =>
    refine ⟨k, rfl, ?_⟩
    cases k with
    | false => exact p3.here h3 (.bl false)
    | true =>
      refine ⟨io3, A3, ro, ((s.mono e1 h1).mono e2 h2).mono e3 h3, (Post.bind (rep := DR K ct) p3).mono ?_⟩
      rintro u H4 ⟨io4, A4, d4, e4, h4, r4, p4⟩
      exact o' W σ io4 H4 A4 w u d2 d4 _ h4 ((r2.mono e3 h2.noT).mono e4 h3.noT) r4 p4
  | _ => exact p3.elim
theorem pd_chain {c : Expr} {fc : EF} {op op' : CmpOp} {r r' : R2} {g g' : D → D → Hd → R D} (ho : OpR X (compareOp op) r) (o : OpD X.K ct r g) (ho' : OpR X (compareOp op') r') (o' : OpD X.K ct r' g') (ha : PD X ct W a fa) (hb : PD X ct W b fb) (hc : PD X ct W c fc) (hm : lastMarks [op, op'] [b, c] = false := by with_unfolding_all rfl) :
    PD X ct W (.Compare a [op, op'] [b, c] pos) (eChain g g' fa fb fc) := pe_mono (pe_chain ho ho' ha hb hc hm) fun _ _ _ h => chain_D o o' h
theorem pdt_chain {c : Expr} {fc : EF} {op op' : CmpOp} {r r' : R2} {g g' : D → D → Hd → R D} (ho : OpR X (compareOp op) r) (o : OpD X.K ct r g) (ho' : OpR X (compareOp op') r') (o' : OpD X.K ct r' g') (ha : PD X ct W a fa) (hb : PD X ct W b fb) (hc : PD X ct W c fc) (hm : lastMarks [op, op'] [b, c] = false := by with_unfolding_all rfl) :
    PDt X ct W (.Compare a [op, op'] [b, c] pos) (fun ro A => (eChain g g' fa fb fc ro A).bind gBool) := pt_of_pe (pt_chain ho ho' ha hb hc hm) fun _ _ _ h => chain_D o o' h

theorem pdt_not (h : PDt X ct W e ft) : PDt X ct W (.UnaryOp .Not e pos) (tNotD ft) :=
  pt_mono (pt_not h) fun σ H Q ⟨io, A, ro, s, p⟩ => ⟨io, A, ro, s, (p.bind (rep := repB)).mono fun c H1 ⟨io1, A1, d, e1, h1, r1, p1⟩ => by
    rw [show c = d from r1]
    exact p1.here h1 rfl⟩
theorem pdw_and1 (h : PDt X ct W e ft) : PDw X ct W (.BoolOp .And [e] pos) ft := pw_and1 h
theorem pdw_or1 (h : PDt X ct W e ft) : PDw X ct W (.BoolOp .Or [e] pos) ft := pw_or1 h
theorem pdw_and {rest : List Expr} (ha : PDt X ct W a ft) (hb : PDw X ct W (.BoolOp .And (b :: rest) pos) fu) : PDw X ct W (.BoolOp .And (a :: b :: rest) pos) (tAndD ft fu) :=
  pw_mono (pw_and ha hb) fun σ H Q ⟨io, A, ro, s, p⟩ => ⟨io, A, ro, s, (p.bind (rep := repB)).mono fun c H1 ⟨io1, A1, d, e1, h1, r1, p1⟩ => by
    rw [show c = d from r1]
    cases d with
    | true => exact ⟨io1, A1, ro, s.mono e1 h1, p1⟩
    | false => exact p1.here h1 rfl⟩
theorem pdw_or {rest : List Expr} (ha : PDt X ct W a ft) (hb : PDw X ct W (.BoolOp .Or (b :: rest) pos) fu) : PDw X ct W (.BoolOp .Or (a :: b :: rest) pos) (tOrD ft fu) :=
  pw_mono (pw_or ha hb) fun σ H Q ⟨io, A, ro, s, p⟩ => ⟨io, A, ro, s, (p.bind (rep := repB)).mono fun c H1 ⟨io1, A1, d, e1, h1, r1, p1⟩ => by
    rw [show c = d from r1]
    cases d with
    | false => exact ⟨io1, A1, ro, s.mono e1 h1, p1⟩
    | true => exact p1.here h1 rfl⟩
theorem pdw_t (h : PDw X ct W e ft) : PDt X ct W e ft := h.pt
theorem pd_and {rest : List Expr} (ha : PD X ct W a fa) (hb : PD X ct W (.BoolOp .And (b :: rest) pos) fb) : PD X ct W (.BoolOp .And (a :: b :: rest) pos) (eAndD fa fb) :=
  pe_mono (pe_andT ha hb) fun σ H Q ⟨io, A, ro, s, p⟩ => ⟨io, A, ro, s, (p.bind (rep := DR X.K ct)).mono fun v H1 ⟨io1, A1, d, e1, h1, r1, p1⟩ => by
    obtain ⟨c, hc, p2⟩ := gTru_post p1
    refine ⟨c, tru_D h1 r1 hc, ?_⟩
    cases c with
    | true => exact ⟨io1, A1, ro, s.mono e1 h1, p2⟩
    | false => exact p2.here h1 r1⟩
theorem pd_or {rest : List Expr} (ha : PD X ct W a fa) (hb : PD X ct W (.BoolOp .Or (b :: rest) pos) fb) : PD X ct W (.BoolOp .Or (a :: b :: rest) pos) (eOrD fa fb) :=
  pe_mono (pe_orT ha hb) fun σ H Q ⟨io, A, ro, s, p⟩ => ⟨io, A, ro, s, (p.bind (rep := DR X.K ct)).mono fun v H1 ⟨io1, A1, d, e1, h1, r1, p1⟩ => by
    obtain ⟨c, hc, p2⟩ := gTru_post p1
    refine ⟨c, tru_D h1 r1 hc, ?_⟩
    cases c with
    | false => exact ⟨io1, A1, ro, s.mono e1 h1, p2⟩
    | true => exact p2.here h1 r1⟩
theorem pd_one {op} (h : PD X ct W a fa) : PD X ct W (.BoolOp op [a] pos) fa := pe_one h
theorem pd_not (ha : PD X ct W a fa) : PD X ct W (.UnaryOp .Not a pos) (eNotD fa) :=
  pe_mono (pe_notT ha) fun σ H Q ⟨io, A, ro, s, p⟩ => ⟨io, A, ro, s, (p.bind (rep := DR X.K ct)).mono fun v H1 ⟨io1, A1, d, e1, h1, r1, p1⟩ => by
    obtain ⟨c, hc, p2⟩ := gTru_post p1
    exact ⟨c, tru_D h1 r1 hc, p2.here h1 (.bl _)⟩⟩
theorem pd_if {c : Expr} (hc : PDt X ct W c ft) (ha : PD X ct W a fa) (hb : PD X ct W b fb) : PD X ct W (.IfExp c a b pos) (eIf ft fa fb) :=
  pe_mono (pe_ifExp hc ha hb) fun σ H Q ⟨io, A, ro, s, p⟩ => ⟨io, A, ro, s, (p.bind (rep := repB)).mono fun k H1 ⟨io1, A1, d, e1, h1, r1, p1⟩ => by
    rw [show k = d from r1]
    cases d with
    | true => exact ⟨io1, A1, ro, s.mono e1 h1, p1⟩
    | false => exact ⟨io1, A1, ro, s.mono e1 h1, p1⟩⟩
end
end DV

set_option Elab.async false
set_option linter.all false
set_option maxRecDepth 100000
/-! DvD: operators, comparisons, subscripts, built-in functions by data. -/
namespace DV
open PySem PySem.Spec PyProof.Rows L2
section
variable {K : PySem.W.Frag} {ct : String → Addr} {io : Io} {H : Hp} {A : Hd}

/-- a list by itself or under its number -/
def asL (A : Hd) : D → Option (List D)
  | .lst ds => some ds
  | .ref n => match A[n]? with
    | some (.lst ds) => some ds
    | _ => none
  | _ => none
theorem asL_ok {v : V} {d : D} {ds : List D} (h : HR K ct io H A) (r : DR K ct io H v d) (e : asL A d = some ds) : ∃ a xs, v = .ref a ∧ H a = some (.lst xs) ∧ DRs K ct io H xs ds := by
  cases r with
  | lst n q rs => cases e; exact ⟨_, _, rfl, q, rs⟩
  | ref q =>
    obtain ⟨m, hm⟩ := h.has q
    have mr := h.get q hm
    unfold asL at e
    dsimp only at e
    rw [hm] at e
    cases m with
    | lst es => cases e; obtain ⟨xs, q1, rs⟩ := mr; exact ⟨_, xs, rfl, q1, rs⟩
    | dic es => cases e
    | ins c fs => cases e
  | _ => cases e
/-- a list that is read (also the script) -/
def asR (A : Hd) : D → Option (List D)
  | .scr ds => some ds
  | d => asL A d
theorem asR_ok {v : V} {d : D} {ds : List D} (h : HR K ct io H A) (r : DR K ct io H v d) (e : asR A d = some ds) : ∃ a xs, v = .ref a ∧ SqL K H a xs ∧ DRs K ct io H xs ds := by
  by_cases hs : ∃ es, d = .scr es
  · obtain ⟨es, rfl⟩ := hs
    cases e
    cases r with
    | scr q rs => exact ⟨_, _, rfl, q.sq, rs⟩
  · have e' : asL A d = some ds := by
      cases d with
      | scr es => exact absurd ⟨es, rfl⟩ hs
      | _ => exact e
    obtain ⟨a, xs, h1, h2, h3⟩ := asL_ok h r e'
    exact ⟨a, xs, h1, SqL.of h2, h3⟩
/-- a list or tuple that is read -/
def asQ (A : Hd) : D → Option (List D)
  | .tup ds => some ds
  | d => asR A d
theorem asQ_ok {v : V} {d : D} {ds : List D} (h : HR K ct io H A) (r : DR K ct io H v d) (e : asQ A d = some ds) : ∃ a xs, v = .ref a ∧ (SqL K H a xs ∨ SqT K H a xs) ∧ DRs K ct io H xs ds := by
  by_cases hs : ∃ es, d = .tup es
  · obtain ⟨es, rfl⟩ := hs
    cases e
    cases r with
    | tup q rs => exact ⟨_, _, rfl, .inr q, rs⟩
  · have e' : asR A d = some ds := by
      cases d with
      | tup es => exact absurd ⟨es, rfl⟩ hs
      | _ => exact e
    obtain ⟨a, xs, h1, h2, h3⟩ := asR_ok h r e'
    exact ⟨a, xs, h1, .inl h2, h3⟩
def asD (A : Hd) : D → Option (List (Key × D))
  | .dic es => some es
  | .ref n => match A[n]? with
    | some (.dic es) => some es
    | _ => none
  | _ => none
theorem asD_ok {v : V} {d : D} {es : List (Key × D)} (h : HR K ct io H A) (r : DR K ct io H v d) (e : asD A d = some es) : ∃ a kvs, v = .ref a ∧ H a = some (.dK kvs) ∧ kvs.map (·.1) = es.map (·.1) ∧ DRs K ct io H (kvs.map (·.2)) (es.map (·.2)) := by
  cases r with
  | dic n q k rs => cases e; exact ⟨_, _, rfl, q, k, rs⟩
  | ref q =>
    obtain ⟨m, hm⟩ := h.has q
    have mr := h.get q hm
    unfold asD at e
    dsimp only at e
    rw [hm] at e
    cases m with
    | dic es => cases e; obtain ⟨xs, q1, k, rs⟩ := mr; exact ⟨_, xs, rfl, q1, k, rs⟩
    | lst es => cases e
    | ins c fs => cases e
  | _ => cases e

/-! ### arithmetic -/
def gAdd (d e : D) (A : Hd) : R D := match d, e with
  | .int i, .int j => .ok (.int (i + j)) A
  | .str x, .str y => if x.length + y.length ≤ sizeLine then .ok (.str (x ++ y)) A else .stk
  | .tup xs, .tup ys => if xs.length + ys.length ≤ sizeLine then .ok (.tup (xs ++ ys)) A else .stk
  | d, e => match asL A d, asL A e with
    | some xs, some ys => if xs.length + ys.length ≤ sizeLine then .ok (.lst (xs ++ ys)) A else .stk
    | _, _ => .stk
abbrev rAddX (K : PySem.W.Frag) : R2 := fun x y H Q => (rI0 (fun i j => .int (i + j)) x y H Q ∨ (∃ i j, x = .str i ∧ y = .str j ∧ i.length + j.length ≤ sizeLine ∧ Q (.str (i ++ j)) H)) ∨ (rCatA K x y H Q ∨ rCat x y H Q)
theorem op_addX {X : Cx} : OpR X (binaryOp .Add) (rAddX X.K) := (op_add.or op_add_str).or (op_catA.or op_cat)
theorem gAdd_ok : OpD K ct (rAddX K) gAdd := by
  intro W σ io H A x y d e Q h rx ry p
  unfold gAdd at p
  split at p
  · cases rx; cases ry
    exact .inl (.inl ⟨_, _, rfl, rfl, p.here h (.int _)⟩)
  · cases rx; cases ry
    split at p
    · rename_i hz
      exact .inl (.inr ⟨_, _, rfl, rfl, hz, p.here h (.str _)⟩)
    · exact p.elim
  · rename_i ds es
    cases rx with
    | @tup a xs _ qx rx =>
      cases ry with
      | @tup b ys _ qy ry =>
        split at p
        · rename_i hz
          refine .inr (.inl ⟨_, _, xs, ys, rfl, rfl, qx, qy, by rw [rx.length, ry.length]; exact hz, fun e0 => ?_, fun _ e0 => ?_, fun _ _ q hq => ?_⟩)
          · subst e0
            cases rx
            exact p.here h (.tup qy ry)
          · subst e0
            cases ry
            rw [List.append_nil] at p
            exact p.here h (.tup qx rx)
          · exact p.new h hq (.newTup h hq (rx.append ry))
        · exact p.elim
  · split at p
    · rename_i xs ys h1 h2
      obtain ⟨a, us, rfl, q1, r1⟩ := asL_ok h rx h1
      obtain ⟨b, ws, rfl, q2, r2⟩ := asL_ok h ry h2
      split at p
      · rename_i hz
        exact .inr (.inr ⟨a, b, us, ws, rfl, rfl, q1, q2, by rw [r1.length, r2.length]; exact hz, fun q hq => p.new h hq (.newLst h hq (r1.append r2))⟩)
      · exact p.elim
    · exact p.elim
def gSub (d e : D) (A : Hd) : R D := match d, e with
  | .int i, .int j => .ok (.int (i - j)) A
  | _, _ => .stk
theorem gSub_ok : OpD K ct (rI0 fun i j => .int (i - j)) gSub := by
  intro W σ io H A x y d e Q h rx ry p
  unfold gSub at p
  split at p
  · cases rx; cases ry
    exact ⟨_, _, rfl, rfl, p.here h (.int _)⟩
  · exact p.elim
instance (i j : Int) : Decidable (CMul i j) := by unfold CMul; infer_instance
instance (i j : Int) : Decidable (CPow i j) := by unfold CPow; infer_instance
instance (i j : Int) : Decidable (CDivW i j) := by unfold CDivW; infer_instance
def gMul (d e : D) (A : Hd) : R D := match d, e with
  | .int i, .int j => if CMul i j then .ok (.int (i * j)) A else .stk
  | d, .int k => match asL A d with
    | some xs => if -(2 ^ 63) ≤ k ∧ k < 2 ^ 63 ∧ xs.length * k.toNat ≤ sizeLine then .ok (.lst (List.replicate k.toNat xs).flatten) A else .stk
    | none => .stk
  | _, _ => .stk
abbrev rMulX : R2 := fun x y H Q => rI CMul (fun i j => .int (i * j)) x y H Q ∨ rRep x y H Q
theorem op_mulX {X : Cx} : OpR X (binaryOp .Mult) rMulX := op_mul.or op_rep
theorem DRs.flatrep {vs : List V} {ds : List D} (h : DRs K ct io H vs ds) : ∀ n : Nat, DRs K ct io H (List.replicate n vs).flatten (List.replicate n ds).flatten
  | 0 => .nil
  | n + 1 => by
    rw [List.replicate_succ, List.replicate_succ, List.flatten_cons, List.flatten_cons]
    exact h.append (DRs.flatrep h n)
theorem gMul_ok : OpD K ct rMulX gMul := by
  intro W σ io H A x y d e Q h rx ry p
  unfold gMul at p
  split at p
  · cases rx; cases ry
    split at p
    · rename_i hz
      exact .inl ⟨_, _, rfl, rfl, hz, p.here h (.int _)⟩
    · exact p.elim
  · cases ry
    split at p
    · rename_i xs h1
      obtain ⟨a, us, rfl, q1, r1⟩ := asL_ok h rx h1
      split at p
      · rename_i hz
        exact .inr ⟨a, _, us, rfl, rfl, q1, hz.1, hz.2.1, by rw [r1.length]; exact hz.2.2, fun q hq => p.new h hq (.newLst h hq (r1.flatrep _))⟩
      · exact p.elim
    · exact p.elim
  · exact p.elim
def gDiv (d e : D) (A : Hd) : R D := match d, e with
  | .int i, .int j => if CDivW i j then .ok (.int (i / j)) A else .stk
  | _, _ => .stk
theorem gDiv_ok : OpD K ct (rI CDivW fun i j => .int (i / j)) gDiv := by
  intro W σ io H A x y d e Q h rx ry p
  unfold gDiv at p
  split at p
  · cases rx; cases ry
    split at p
    · rename_i hz
      exact ⟨_, _, rfl, rfl, hz, p.here h (.int _)⟩
    · exact p.elim
  · exact p.elim
def gMod (d e : D) (A : Hd) : R D := match d, e with
  | .int i, .int j => if 0 < j then .ok (.int (i % j)) A else .stk
  | _, _ => .stk
theorem gMod_ok : OpD K ct (rI (fun _ j => 0 < j) fun i j => .int (i % j)) gMod := by
  intro W σ io H A x y d e Q h rx ry p
  unfold gMod at p
  split at p
  · cases rx; cases ry
    split at p
    · rename_i hz
      exact ⟨_, _, rfl, rfl, hz, p.here h (.int _)⟩
    · exact p.elim
  · exact p.elim
def gPow (d e : D) (A : Hd) : R D := match d, e with
  | .int i, .int j => if CPow i j then .ok (.int (i ^ j.toNat)) A else .stk
  | _, _ => .stk
theorem gPow_ok : OpD K ct (rI CPow fun i j => .int (i ^ j.toNat)) gPow := by
  intro W σ io H A x y d e Q h rx ry p
  unfold gPow at p
  split at p
  · cases rx; cases ry
    split at p
    · rename_i hz
      exact ⟨_, _, rfl, rfl, hz, p.here h (.int _)⟩
    · exact p.elim
  · exact p.elim
def gNeg (d : D) (A : Hd) : R D := match d with
  | .int i => .ok (.int (-i)) A
  | _ => .stk
theorem gNeg_ok : UnD K ct (rU fun i => .int (-i)) gNeg := by
  intro W σ io H A x d Q h rx p
  unfold gNeg at p
  split at p
  · cases rx
    exact ⟨_, rfl, p.here h (.int _)⟩
  · exact p.elim

/-! ### comparisons -/
def gLtL (cmpI : Int → Int → Bool) (cmpS : List Nat → List Nat → Bool) (d e : D) (A : Hd) : R D := match d, e with
  | .int i, .int j => .ok (.bl (cmpI i j)) A
  | .str x, .str y => .ok (.bl (cmpS x.cps.toList y.cps.toList)) A
  | _, _ => .stk
abbrev rLtL (cmpI : Int → Int → Bool) (cmpS : List Nat → List Nat → Bool) : R2 := fun x y H Q => rI0 (fun i j => .bl (cmpI i j)) x y H Q ∨ ∃ i j, x = .str i ∧ y = .str j ∧ Q (.bl (cmpS i.cps.toList j.cps.toList)) H
theorem gLtL_ok {cmpI : Int → Int → Bool} {cmpS : List Nat → List Nat → Bool} : OpD K ct (rLtL cmpI cmpS) (gLtL cmpI cmpS) := by
  intro W σ io H A x y d e Q h rx ry p
  unfold gLtL at p
  split at p
  · cases rx; cases ry
    exact .inl ⟨_, _, rfl, rfl, p.here h (.bl _)⟩
  · cases rx; cases ry
    exact .inr ⟨_, _, rfl, rfl, p.here h (.bl _)⟩
  · exact p.elim
abbrev gLt := gLtL (fun i j => decide (i < j)) (fun a b => decide (a < b))
abbrev gLe := gLtL (fun i j => decide (i ≤ j)) (fun a b => !decide (b < a))
abbrev gGt := gLtL (fun i j => decide (j < i)) (fun a b => decide (b < a))
abbrev gGe := gLtL (fun i j => decide (j ≤ i)) (fun a b => !decide (a < b))
theorem op_ltX {X : Cx} : OpR X (compareOp .Lt) (rLtL (fun i j => decide (i < j)) (fun a b => decide (a < b))) := op_lt.or op_lt_str
theorem op_leX {X : Cx} : OpR X (compareOp .LtE) (rLtL (fun i j => decide (i ≤ j)) (fun a b => !decide (b < a))) := op_le.or op_le_str
theorem op_gtX {X : Cx} : OpR X (compareOp .Gt) (rLtL (fun i j => decide (j < i)) (fun a b => decide (b < a))) := op_gt.or op_gt_str
theorem op_geX {X : Cx} : OpR X (compareOp .GtE) (rLtL (fun i j => decide (j ≤ i)) (fun a b => !decide (a < b))) := op_ge.or op_ge_str

mutual
def toP : D → Option PyData
  | .non => some .none
  | .bl b => some (.bool b)
  | .int i => some (.int i)
  | .str s => some (.str s)
  | .tup ds => match toPs ds with
    | some ps => some (.tuple ps)
    | none => none
  | .lst ds => match toPs ds with
    | some ps => some (.list ps)
    | none => none
  | .scr ds => match toPs ds with
    | some ps => some (.list ps)
    | none => none
  | .dic _ => none
  | .ref _ => none
  | .cls _ => none
def toPs : List D → Option (List PyData)
  | [] => some []
  | d :: ds => match toP d, toPs ds with
    | some p, some ps => some (p :: ps)
    | _, _ => none
end
mutual
theorem toP_ok : ∀ {v : V} {d : D} {p : PyData}, DR K ct io H v d → toP d = some p → Dp K H v p
  | _, _, _, .non, e => by unfold toP at e; cases e; exact .non
  | _, _, _, .bl b, e => by unfold toP at e; cases e; exact .bl b
  | _, _, _, .int i, e => by unfold toP at e; cases e; exact .int i
  | _, _, _, .str x, e => by unfold toP at e; cases e; exact .str x
  | _, _, _, .tup q rs, e => by
    unfold toP at e
    split at e
    · rename_i ps h; cases e; exact .tup q (toPs_ok rs h)
    · cases e
  | _, _, _, .lst n q rs, e => by
    unfold toP at e
    split at e
    · rename_i ps h; cases e; exact .lst (SqL.of q) (toPs_ok rs h)
    · cases e
  | _, _, _, .scr q rs, e => by
    unfold toP at e
    split at e
    · rename_i ps h; cases e; exact .lst q.sq (toPs_ok rs h)
    · cases e
  | _, _, _, .dic _ _ _ _, e => by unfold toP at e; cases e
  | _, _, _, .ref _, e => by unfold toP at e; cases e
  | _, _, _, .ty _, e => by unfold toP at e; cases e
  | _, _, _, .own _, e => by unfold toP at e; cases e
theorem toPs_ok : ∀ {vs : List V} {ds : List D} {ps : List PyData}, DRs K ct io H vs ds → toPs ds = some ps → DpAll K H vs ps
  | _, _, _, .nil, e => by unfold toPs at e; cases e; exact .nil
  | _, _, _, .cons r rs, e => by
    unfold toPs at e
    split at e
    · rename_i p ps h1 h2; cases e; exact .cons (toP_ok r h1) (toPs_ok rs h2)
    · cases e
end
/-- a numbered list as the list that it is now -/
def deR (A : Hd) : D → D
  | .ref n => match A[n]? with
    | some (.lst ds) => .lst ds
    | _ => .ref n
  | d => d
theorem deR_ne {d : D} (h : ∀ n, d ≠ .ref n) : deR A d = d := by
  cases d with
  | ref n => exact absurd rfl (h n)
  | _ => rfl
theorem deR_ok {v : V} {d : D} {p : PyData} (h : HR K ct io H A) (r : DR K ct io H v d) (e : toP (deR A d) = some p) : Dp K H v p := by
  by_cases hd : ∃ n, d = .ref n
  · obtain ⟨n, rfl⟩ := hd
    cases r with
    | ref q =>
    obtain ⟨m, hm⟩ := h.has q
    have mr := h.get q hm
    unfold deR at e
    dsimp only at e
    rw [hm] at e
    cases m with
    | lst es =>
      obtain ⟨xs, q1, rs⟩ := mr
      dsimp only at e
      unfold toP at e
      split at e
      · rename_i ps h1; cases e; exact .lst (SqL.of q1) (toPs_ok rs h1)
      · cases e
    | dic es => dsimp only at e; unfold toP at e; cases e
    | ins c fs => dsimp only at e; unfold toP at e; cases e
  · rw [deR_ne fun n z => hd ⟨n, z⟩] at e
    exact toP_ok r e
def eqP (A : Hd) (d e : D) : Option Bool := match toP (deR A d), toP (deR A e) with
  | some p, some q => if SeqAt.shaped p = true ∧ SeqAt.shaped q = true then some (PyData.eqv p q) else none
  | _, _ => none
def gEq (d e : D) (A : Hd) : R D := match d, e with
  | .str x, .str y => .ok (.bl (decide (x = y))) A
  | d, e => match eqP A d e with
    | some b => .ok (.bl b) A
    | none => .stk
def gNe (d e : D) (A : Hd) : R D := match d, e with
  | .str x, .str y => .ok (.bl (!decide (x = y))) A
  | d, e => match eqP A d e with
    | some b => .ok (.bl (!b)) A
    | none => .stk
abbrev rEqX (K : PySem.W.Frag) : R2 := fun x y H Q => rEq x y H Q ∨ rEqD K x y H Q
abbrev rNeX (K : PySem.W.Frag) : R2 := fun x y H Q => rNe x y H Q ∨ rNeD K x y H Q
theorem op_eqX {X : Cx} (hu : X.A.units + 64 < cLine) : OpR X (compareOp .Eq) (rEqX X.K) := op_eq.or (op_eqD hu)
theorem op_neX {X : Cx} (hu : X.A.units + 64 < cLine) : OpR X (compareOp .NotEq) (rNeX X.K) := op_ne.or (op_neD hu)
theorem eqP_ok {x y : V} {d e : D} {b : Bool} (h : HR K ct io H A) (rx : DR K ct io H x d) (ry : DR K ct io H y e) (q : eqP A d e = some b) : ∃ p p', Dp K H x p ∧ Dp K H y p' ∧ SeqAt.shaped p = true ∧ SeqAt.shaped p' = true ∧ b = PyData.eqv p p' := by
  unfold eqP at q
  split at q
  · rename_i p p' h1 h2
    split at q
    · rename_i hs
      cases q
      exact ⟨p, p', deR_ok h rx h1, deR_ok h ry h2, hs.1, hs.2, rfl⟩
    · cases q
  · cases q
theorem str_dec {x y : Str} : decide (V.str x = V.str y) = decide (x = y) := decide_eq_decide.mpr ⟨fun z => V.str.inj z, fun z => by rw [z]⟩
theorem gEq_ok : OpD K ct (rEqX K) gEq := by
  intro W σ io H A x y d e Q h rx ry p
  unfold gEq at p
  split at p
  · cases rx; cases ry
    exact .inl ⟨rfl, p.here h (by rw [str_dec]; exact .bl _)⟩
  · split at p
    · rename_i b hb
      obtain ⟨p1, p2, h1, h2, h3, h4, rfl⟩ := eqP_ok h rx ry hb
      exact .inr ⟨p1, p2, h1, h2, h3, h4, p.here h (.bl _)⟩
    · exact p.elim
theorem gNe_ok : OpD K ct (rNeX K) gNe := by
  intro W σ io H A x y d e Q h rx ry p
  unfold gNe at p
  split at p
  · cases rx; cases ry
    exact .inl ⟨rfl, p.here h (by rw [str_dec]; exact .bl _)⟩
  · split at p
    · rename_i b hb
      obtain ⟨p1, p2, h1, h2, h3, h4, rfl⟩ := eqP_ok h rx ry hb
      exact .inr ⟨p1, p2, h1, h2, h3, h4, p.here h (.bl _)⟩
    · exact p.elim
/-- is None, is not None -/
def isNonD : D → Bool
  | .non => true
  | _ => false
def gIsN (d e : D) (A : Hd) : R D := match e with
  | .non => .ok (.bl (isNonD d)) A
  | _ => .stk
def gNotN (d e : D) (A : Hd) : R D := match e with
  | .non => .ok (.bl (!isNonD d)) A
  | _ => .stk
theorem isN_V {x : V} {d : D} (r : DR K ct io H x d) : decide (x = .non) = isNonD d := by
  cases r <;> first | rfl | exact decide_eq_false (by intro z; cases z)
theorem gIsN_ok : OpD K ct (fun x y H Q => y = .non ∧ Q (.bl (decide (x = .non))) H) gIsN := by
  intro W σ io H A x y d e Q h rx ry p
  unfold gIsN at p
  split at p
  · cases ry
    refine ⟨rfl, p.here h ?_⟩
    rw [isN_V rx]
    exact .bl _
  · exact p.elim
theorem gNotN_ok : OpD K ct (fun x y H Q => y = .non ∧ Q (.bl (!decide (x = .non))) H) gNotN := by
  intro W σ io H A x y d e Q h rx ry p
  unfold gNotN at p
  split at p
  · cases ry
    refine ⟨rfl, p.here h ?_⟩
    rw [isN_V rx]
    exact .bl _
  · exact p.elim

/-! ### in, not in -/
def flatD : D → Bool
  | .non => true
  | .bl _ => true
  | .int _ => true
  | .str _ => true
  | _ => false
/-- == of flat data -/
def eqF : D → D → Bool
  | .non, .non => true
  | .bl a, .bl b => a == b
  | .bl a, .int b => (if a then 1 else 0) == b
  | .int a, .bl b => a == (if b then 1 else 0)
  | .int a, .int b => a == b
  | .str a, .str b => a == b
  | _, _ => false
theorem flat_V {x : V} {d : D} (r : DR K ct io H x d) (f : flatD d = true) : flatV x = true := by
  cases r <;> first | rfl | cases f
theorem eqF_V {x y : V} {d e : D} (rx : DR K ct io H x d) (ry : DR K ct io H y e) (fd : flatD d = true) (fe : flatD e = true) : eqV x y = eqF d e := by
  cases rx <;> first | cases fd; done | (cases ry <;> first | rfl | cases fe)
theorem flatAll_V : ∀ {xs : List V} {ds : List D}, DRs K ct io H xs ds → ds.all flatD = true → xs.all flatV = true
  | _, _, .nil, _ => rfl
  | _, _, .cons r rs, f => by
    rw [List.all_cons, Bool.and_eq_true] at f
    rw [List.all_cons, flat_V r f.1, flatAll_V rs f.2]
    rfl
def memF (d : D) (ds : List D) : Bool := ds.any fun e => eqF e d
theorem memF_V {x : V} {d : D} (r : DR K ct io H x d) (f : flatD d = true) : ∀ {xs : List V} {ds : List D}, DRs K ct io H xs ds → ds.all flatD = true → inV x xs = memF d ds
  | _, _, .nil, _ => rfl
  | _, _, .cons q qs, g => by
    rw [List.all_cons, Bool.and_eq_true] at g
    have ih := memF_V r f qs g.2
    have e1 := eqF_V q r g.1 f
    show (eqV _ x || inV x _) = (eqF _ d || memF d _)
    rw [e1, ih]
/-- d in e for a text of one sign in a text, a flat value in a list or tuple of flat values -/
def inP (d e : D) (A : Hd) : Option Bool := match d, e with
  | .str x, .str z => match x.cps.toList with
    | [c] => some (decide (c ∈ z.cps.toList))
    | _ => none
  | d, e => match asQ A e with
    | some ds => if flatD d = true ∧ ds.all flatD = true then some (memF d ds) else none
    | none => none
def gIn (d e : D) (A : Hd) : R D := match inP d e A with
  | some b => .ok (.bl b) A
  | none => .stk
def gNotIn (d e : D) (A : Hd) : R D := match inP d e A with
  | some b => .ok (.bl (!b)) A
  | none => .stk
abbrev rInX (K : PySem.W.Frag) (neg : Bool) : R2 := fun x y H Q => (∃ (c : Nat) (z : Str), x = .str ⟨#[c]⟩ ∧ y = .str z ∧ Q (.bl (if neg then !decide (c ∈ z.cps.toList) else decide (c ∈ z.cps.toList))) H) ∨ rIn K neg x y H Q
theorem op_inX {X : Cx} : OpR X (compareOp .In) (rInX X.K false) := op_in_sign.or op_in_seq
theorem op_notInX {X : Cx} : OpR X (compareOp .NotIn) (rInX X.K true) := op_notIn_sign.or op_notIn_seq
theorem inP_ok {neg b : Bool} {x y : V} {d e : D} {Q : VK} (h : HR K ct io H A) (rx : DR K ct io H x d) (ry : DR K ct io H y e) (q : inP d e A = some b) (hQ : Q (.bl (if neg then !b else b)) H) : rInX K neg x y H Q := by
  unfold inP at q
  split at q
  · rename_i x z
    cases rx; cases ry
    split at q
    · rename_i c hc
      cases q
      refine .inl ⟨c, z, ?_, rfl, hQ⟩
      have : x = ⟨#[c]⟩ := by
        cases x with
        | mk a =>
          have : a = #[c] := Array.toList_inj.mp hc
          rw [this]
      rw [this]
    · cases q
  · split at q
    · rename_i ds hd
      split at q
      · rename_i hf
        cases q
        obtain ⟨a, xs, rfl, hs, rs⟩ := asQ_ok h ry hd
        refine .inr ⟨a, xs, rfl, hs, flat_V rx hf.1, flatAll_V rs hf.2, ?_⟩
        rw [memF_V rx hf.1 rs hf.2]
        exact hQ
      · cases q
    · cases q
theorem gIn_ok : OpD K ct (rInX K false) gIn := by
  intro W σ io H A x y d e Q h rx ry p
  unfold gIn at p
  split at p
  · rename_i b hb
    exact inP_ok h rx ry hb (p.here h (.bl _))
  · exact p.elim
theorem gNotIn_ok : OpD K ct (rInX K true) gNotIn := by
  intro W σ io H A x y d e Q h rx ry p
  unfold gNotIn at p
  split at p
  · rename_i b hb
    exact inP_ok h rx ry hb (p.here h (.bl _))
  · exact p.elim

/-! ### subscripts -/
theorem DRs.atI {xs : List V} {ds : List D} (h : DRs K ct io H xs ds) {i : Int} {d : D} (e : atI ds i = some d) : ∃ v, L2.atI xs i = some v ∧ DR K ct io H v d := by
  unfold L2.atI at e ⊢
  rw [h.length]
  cases q : ixN ds.length i with
  | none => rw [q] at e; cases e
  | some j =>
    rw [q] at e
    obtain ⟨v, h1, h2⟩ := h.get e
    exact ⟨v, h1, h2⟩
def gIx (d e : D) (A : Hd) : R D := match d, e with
  | .str z, .int i => if z.length ≤ sizeLine then (match L2.atI z.cps.toList i with | some c => .ok (.str ⟨#[c]⟩) A | none => .stk) else .stk
  | d, .int i => match asQ A d with
    | some ds => match L2.atI ds i with
      | some x => .ok x A
      | none => .stk
    | none => .stk
  | _, _ => .stk
theorem gIx_ok : OpD K ct (rIx K) gIx := by
  intro W σ io H A x y d e Q h rx ry p
  unfold gIx at p
  split at p
  · cases rx; cases ry
    split at p
    · rename_i hz
      split at p
      · rename_i c hc
        exact .inr (.inr ⟨_, _, c, rfl, rfl, hz, hc, p.here h (.str _)⟩)
      · exact p.elim
    · exact p.elim
  · cases ry
    split at p
    · rename_i ds hd
      split at p
      · rename_i z hz
        obtain ⟨a, xs, rfl, hs, rs⟩ := asQ_ok h rx hd
        obtain ⟨v, h1, h2⟩ := rs.atI hz
        rcases hs with hs | hs
        · exact .inl ⟨a, xs, _, v, rfl, rfl, hs, h1, p.here h h2⟩
        · exact .inr (.inl ⟨a, xs, _, v, rfl, rfl, hs, h1, p.here h h2⟩)
      · exact p.elim
    · exact p.elim
  · exact p.elim

/-! ### slices -/
def cutD (xs : List D) (lo hi : Option Int) : List D := (xs.drop (HT.sIx xs.length 0 lo)).take (HT.sIx xs.length xs.length hi - HT.sIx xs.length 0 lo)
theorem DRs.cut {xs : List V} {ds : List D} (h : DRs K ct io H xs ds) (lo hi : Option Int) : DRs K ct io H (cutV xs lo hi) (cutD ds lo hi) := by
  unfold cutV cutD
  rw [h.length]
  exact (h.drop _).take _
def gCut (d : D) (lo hi : Option Int) (A : Hd) : R D := match d with
  | .str z => if z.length ≤ sizeLine then .ok (.str (cutS z lo hi)) A else .stk
  | .tup ds => .ok (.tup (cutD ds lo hi)) A
  | d => match asR A d with
    | some ds => .ok (.lst (cutD ds lo hi)) A
    | none => .stk
abbrev rCutX (K : PySem.W.Frag) : V → Option Int → Option Int → Hp → VK → Prop := fun x lo hi H Q => rSlL K x lo hi H Q ∨ (rSlA K x lo hi H Q ∨ rSlS x lo hi H Q)
theorem sl_X {X : Cx} : SlR X (rCutX X.K) := sl_list.or (sl_tupA.or sl_str)
theorem gCut_ok {W : WX} {σ : L2.St} {x : V} {d : D} {lo hi : Option Int} {Q : VK} (h : HR K ct io H A) (rx : DR K ct io H x d) (p : Post K ct (DR K ct) W σ io H (gCut d lo hi A) Q) : rCutX K x lo hi H Q := by
  unfold gCut at p
  split at p
  · cases rx
    split at p
    · rename_i hz
      exact .inr (.inr ⟨_, rfl, hz, p.here h (.str _)⟩)
    · exact p.elim
  · rename_i ds
    cases rx with
    | @tup a xs _ qx rx =>
      refine .inr (.inl ⟨a, xs, rfl, qx, fun hw => ?_, fun _ q hq => p.new h hq (.newTup h hq (rx.cut lo hi))⟩)
      have e : cutD ds lo hi = ds := by
        unfold cutD
        rw [← rx.length, hw.1, hw.2]
        simp [rx.length]
      rw [e] at p
      exact p.here h (.tup qx rx)
  · split at p
    · rename_i ds hd
      obtain ⟨a, xs, rfl, hs, rs⟩ := asR_ok h rx hd
      exact .inl ⟨a, xs, rfl, hs, fun q hq => p.new h hq (.newLst h hq (rs.cut lo hi))⟩
    · exact p.elim
end

/-- a part of a slice -/
abbrev OF := Env → Hd → R (Option Int)
def oNone : OF := fun _ A => .ok none A
def oSome (a : EF) : OF := fun ro A => (a ro A).bind fun d A1 => match d with
  | .int i => .ok (some i) A1
  | _ => .stk
abbrev repO : Io → Hp → Option Int → Option Int → Prop := fun _ _ b a => b = a
def tO (K : PySem.W.Frag) (ct : String → Addr) (W : WX) (f : OF) : TO := fun σ H Q => ∃ io A ro, Sta K ct ro A io σ H ∧ Post K ct repO W σ io H (f ro A) Q
def eCut (a : EF) (lo hi : OF) : EF := fun ro A => (a ro A).bind fun d A1 => (lo ro A1).bind fun l A2 => (hi ro A2).bind fun u A3 => gCut d l u A3
section
variable {X : Cx} {ct : String → Addr} {W : WX} {e a b : Expr} {pos : Pos} {fa fb : EF} {ft fu : TF} {fl : AF}
theorem po_mono {e : Option Expr} {t t' : TO} (h : PO X e t) (m : ∀ σ H Q, t' σ H Q → t σ H Q) : PO X e t' := ⟨fun pins s σ H Q I q => h.run pins s σ H Q I (m _ _ _ q)⟩
theorem pdo_none : PO X none (tO X.K ct W oNone) := po_mono po_none fun σ H Q ⟨io, A, ro, s, p⟩ => p.here s.hr rfl
theorem pdo_some (h : PD X ct W e fa) : PO X (some e) (tO X.K ct W (oSome fa)) := po_mono (po_some h) fun σ H Q ⟨io, A, ro, s, p⟩ => ⟨io, A, ro, s, (p.bind (rep := DR X.K ct)).mono fun v H1 ⟨io1, A1, d, e1, h1, r1, p1⟩ => by
  cases r1 with
  | int i => exact ⟨i, rfl, p1.here h1 rfl⟩
  | _ => exact p1.elim⟩
theorem pd_cut {lo hi : Option Expr} {fl fh : OF} {p2 : Pos} (ha : PD X ct W a fa) (hl : PO X lo (tO X.K ct W fl)) (hh : PO X hi (tO X.K ct W fh)) : PD X ct W (.Subscript a (.Slice lo hi none p2) pos) (eCut fa fl fh) :=
  pe_mono (pe_slice sl_X ha hl hh) fun σ H Q ⟨io, A, ro, s, p⟩ => ⟨io, A, ro, s, (p.bind (rep := DR X.K ct)).mono fun v H1 ⟨io1, A1, d, e1, h1, r1, p1⟩ =>
    ⟨io1, A1, ro, s.mono e1 h1, (p1.bind (rep := repO)).mono fun l H2 ⟨io2, A2, l', e2, h2, r2, p2⟩ =>
      ⟨io2, A2, ro, (s.mono e1 h1).mono e2 h2, (p2.bind (rep := repO)).mono fun u H3 ⟨io3, A3, u', e3, h3, r3, p3⟩ => by
        rw [show l = l' from r2, show u = u' from r3]
        exact gCut_ok h3 ((r1.mono e2 h1.noT).mono e3 h2.noT) p3⟩⟩⟩

/-! ### dicts: d[k], k in d -/
def valD (es : List (Key × D)) (k : Key) : Option D := (es.find? fun kv => decide (kv.1 = k)).map (·.2)
/-- a key of a dict -/
def keyD : D → Option Key
  | .int i => some (.inl i)
  | .str x => some (.inr x)
  | _ => none
theorem keyD_ok {K : PySem.W.Frag} {io : Io} {H : Hp} {v : V} {d : D} {k : Key} (r : DR K ct io H v d) (e : keyD d = some k) : v = kV k := by
  cases r <;> first | (cases e; rfl) | cases e
theorem valD_ok {K : PySem.W.Frag} {io : Io} {H : Hp} (k : Key) : ∀ {kvs : List (Key × V)} {es : List (Key × D)}, kvs.map (·.1) = es.map (·.1) → DRs K ct io H (kvs.map (·.2)) (es.map (·.2)) →
    match valD es k with
    | some d => ∃ v, valV kvs k = some v ∧ DR K ct io H v d
    | none => valV kvs k = none
  | [], [], _, _ => rfl
  | [], _ :: _, e, _ => by cases e
  | _ :: _, [], e, _ => by cases e
  | p :: kvs, q :: es, e, r => by
    rw [List.map_cons, List.map_cons] at e r
    have e1 : p.1 = q.1 := (List.cons.inj e).1
    cases r with
    | cons r rs =>
      have ih := valD_ok k (List.cons.inj e).2 rs
      by_cases hk : q.1 = k
      · have h1 : valD (q :: es) k = some q.2 := by simp [valD, List.find?_cons, hk]
        rw [h1]
        exact ⟨p.2, valV_pos (e1.trans hk), r⟩
      · have h1 : valD (q :: es) k = valD es k := by simp [valD, List.find?_cons, hk]
        have h2 : valV (p :: kvs) k = valV kvs k := valV_neg fun z => hk (e1.symm.trans z)
        rw [h1, h2]
        exact ih
def gSubD (d e : D) (A : Hd) : R D := match asD A d, keyD e with
  | some es, some k => match valD es k with
    | some x => .ok x A
    | none => .stk
  | _, _ => gIx d e A
theorem asD_not {A : Hd} {d : D} {es : List (Key × D)} (h : asD A d = some es) (e : D) : gIx d e A = .stk := by
  cases d with
  | dic _ => cases e <;> rfl
  | ref n =>
    unfold asD at h
    dsimp only at h
    cases hm : A[n]? with
    | none => rw [hm] at h; cases h
    | some m =>
      rw [hm] at h
      cases m with
      | dic _ => cases e <;> first | rfl | (unfold gIx asQ asR asL; simp only [hm])
      | lst _ => cases h
      | ins _ _ => cases h
  | _ => cases h
theorem pd_sub (hu : X.A.units + 1 < cLine) (ha : PD X ct W a fa) (hb : PD X ct W b fb) (hs : PlainIx b) (hn : NoSl b) : PD X ct W (.Subscript a b pos) (eBin gSubD fa fb) := by
  have h1 := pe_ix (pos := pos) (X := X) ix_seq ha hb hs
  have h2 := pe_dget (pos := pos) hu ha hb hn
  refine ⟨fun pins s σ H Q I h => ?_⟩
  obtain ⟨io, A, ro, st, p⟩ := h
  -- what both give is known; the kind of the first decides
  by_cases hd : ∃ d A1 e A2 es, fa ro A = .ok d A1 ∧ fb ro A1 = .ok e A2 ∧ asD A2 d = some es
  · obtain ⟨d, A1, e, A2, es, q1, q2, q3⟩ := hd
    refine h2.run pins s σ H Q I ⟨io, A, ro, st, ?_⟩
    unfold eBin at p
    rw [q1, R.bind_ok, q2, R.bind_ok] at p
    rw [q1]
    intro v io1 H1 e1 hr1 r1
    refine ⟨io1, A1, ro, st.mono e1 hr1, ?_⟩
    rw [q2]
    intro w io2 H2 e2 hr2 r2
    have p := Post.ext (e1.trans e2) p
    unfold gSubD at p
    rw [q3] at p
    obtain ⟨b, kvs, rfl, hb1, hk, hrs⟩ := asD_ok hr2 (r1.mono e2 hr1.noT) q3
    cases hkd : keyD e with
    | none =>
      rw [hkd] at p
      dsimp only at p
      rw [asD_not q3] at p
      exact p.elim
    | some k =>
      rw [hkd] at p
      dsimp only at p
      have ew := keyD_ok r2 hkd
      subst ew
      have hv := valD_ok k hk hrs
      cases hx : valD es k with
      | none => rw [hx] at p; exact p.elim
      | some x =>
        rw [hx] at p hv
        obtain ⟨v', g1, g2⟩ := hv
        exact ⟨b, v', rfl, by rw [← g1]; exact DGet.k hb1, p.here hr2 g2⟩
  · refine h1.run pins s σ H Q I ⟨io, A, ro, st, ?_⟩
    unfold eBin at p
    cases q1 : fa ro A with
    | stk => rw [q1] at p; exact p.elim
    | err c fs A' => rw [q1] at p; exact p
    | ok d A1 =>
      rw [q1, R.bind_ok] at p
      intro v io1 H1 e1 hr1 r1
      refine ⟨io1, A1, ro, st.mono e1 hr1, ?_⟩
      cases q2 : fb ro A1 with
      | stk => rw [q2] at p; exact p.elim
      | err c fs A' => rw [q2] at p; exact Post.ext e1 p
      | ok e A2 =>
        rw [q2, R.bind_ok] at p
        intro w io2 H2 e2 hr2 r2
        have p := Post.ext (e1.trans e2) p
        have g : gSubD d e A2 = gIx d e A2 := by
          unfold gSubD
          cases q3 : asD A2 d with
          | none => rfl
          | some es => exact absurd ⟨d, A1, e, A2, es, q1, q2, q3⟩ hd
        rw [g] at p
        exact gIx_ok W σ io2 H2 A2 v w d e Q hr2 (r1.mono e2 hr1.noT) r2 p
end
end DV

set_option Elab.async false
set_option linter.all false
set_option maxRecDepth 100000
/-! DvE: built-in functions by data. -/
namespace DV
open PySem PySem.Spec PyProof.Rows L2
section
variable {K : PySem.W.Frag} {ct : String → Addr} {io : Io} {H : Hp} {A : Hd}
/-! ### len -/
def gLen (ds : List D) (A : Hd) : R D := match ds with
  | [.str x] => if x.length ≤ sizeLine then .ok (.int x.length) A else .stk
  | [d] => match asQ A d with
    | some es => .ok (.int es.length) A
    | none => match asD A d with
      | some es => .ok (.int es.length) A
      | none => .stk
  | _ => .stk
abbrev rLenX (K : PySem.W.Frag) : List V → Hp → VK → Prop := fun xs H Q => (∃ x n, xs = [x] ∧ LenV K x H n ∧ Q (.int n) H) ∨ ∃ a kvs, xs = [V.ref a] ∧ H a = some (.dK kvs) ∧ Q (.int kvs.length) H
theorem call_lenX {X : Cx} : CallR X (.builtin "len") (rLenX X.K) := call_len.or call_lenD
theorem gLen_ok : CaD K ct (rLenX K) gLen := by
  intro W σ io H A xs ds Q h r p
  unfold gLen at p
  split at p
  · cases r with
    | cons r rs =>
    cases r; cases rs
    split at p
    · rename_i hz
      exact .inl ⟨_, _, rfl, ⟨hz, rfl⟩, p.here h (.int _)⟩
    · exact p.elim
  · cases r with
    | cons r rs =>
    cases rs
    split at p
    · rename_i es he
      obtain ⟨a, us, rfl, hs, hr⟩ := asQ_ok h r he
      refine .inl ⟨_, us.length, rfl, ?_, by rw [hr.length]; exact p.here h (.int _)⟩
      rcases hs with hs | hs
      · exact .inl ⟨us, hs, rfl⟩
      · exact .inr ⟨us, hs, rfl⟩
    · split at p
      · rename_i es he
        obtain ⟨a, kvs, rfl, hs, hk, hr⟩ := asD_ok h r he
        refine .inr ⟨a, kvs, rfl, hs, ?_⟩
        have e : kvs.length = es.length := by
          have := congrArg List.length hk
          simpa using this
        rw [e]
        exact p.here h (.int _)
      · exact p.elim
  · exact p.elim

/-! ### isinstance, one built-in class -/
def tyD (A : Hd) : D → Option String
  | .non => some "NoneType"
  | .bl _ => some "bool"
  | .int _ => some "int"
  | .str _ => some "str"
  | .tup _ => some "tuple"
  | .lst _ => some "list"
  | .scr _ => some "list"
  | .dic _ => some "dict"
  | .ref n => match A[n]? with
    | some (.lst _) => some "list"
    | some (.dic _) => some "dict"
    | _ => none
  | .cls _ => none
theorem tyD_ok {v : V} {d : D} {T : String} (h : HR K ct io H A) (r : DR K ct io H v d) (e : tyD A d = some T) : TyX K H v (.type T) := by
  cases r with
  | non => cases e; exact .base .non
  | bl b => cases e; exact .base (.bl b)
  | int i => cases e; exact .base (.int i)
  | str x => cases e; exact .base (.str x)
  | tup q rs =>
    cases e
    rcases q with (q | ⟨o, q⟩) | ⟨o, its, n, q, qc, _⟩
    · exact .base (.tup q)
    · exact .fTuple q
    · exact .kTuple q qc
  | lst n q rs => cases e; exact .base (.lst q)
  | scr q rs =>
    cases e
    rcases q with ⟨_, o, q⟩ | ⟨o, its, n, q, qc, _⟩
    · exact .base (.frz q)
    · exact .kList q qc
  | dic n q k rs => cases e; exact .base (.dK q)
  | ref q =>
    obtain ⟨m, hm⟩ := h.has q
    have mr := h.get q hm
    unfold tyD at e
    dsimp only at e
    rw [hm] at e
    cases m with
    | lst ds => cases e; obtain ⟨xs, q1, rs⟩ := mr; exact .base (.lst q1)
    | dic es => cases e; obtain ⟨kvs, q1, k, rs⟩ := mr; exact .base (.dK q1)
    | ins c fs => cases e
  | ty n => cases e
  | own n => cases e
/-- isinstance among the built-in classes that are met -/
def isaB (t T : String) : Option Bool :=
  if (["NoneType", "bool", "int", "str", "tuple", "list", "dict"] : List String).contains t ∧ (["int", "str", "tuple", "list", "dict", "bool"] : List String).contains T then some (t == T || (t == "bool" && T == "int")) else none
theorem isaB_ok {t T : String} {b : Bool} (e : isaB t T = some b) : PySem.W.kitOne K (.type t) (.type T) = some b := by
  refine kit_ty ?_
  unfold isaB at e
  split at e
  · rename_i hc
    have all : ∀ t ∈ (["NoneType", "bool", "int", "str", "tuple", "list", "dict"] : List String), ∀ T ∈ (["int", "str", "tuple", "list", "dict", "bool"] : List String), kitB t T = some (t == T || (t == "bool" && T == "int")) := by decide +kernel
    rw [← e]
    exact all t (by simpa using hc.1) T (by simpa using hc.2)
  · cases e
def gIsa (ds : List D) (A : Hd) : R D := match ds with
  | [d, .cls (.bi T)] => match tyD A d with
    | some t => match isaB t T with
      | some b => .ok (.bl b) A
      | none => .stk
    | none => .stk
  | _ => .stk
theorem gIsa_ok : CaD K ct (rIsi K) gIsa := by
  intro W σ io H A xs ds Q h r p
  unfold gIsa at p
  split at p
  · rename_i d T
    cases r with
    | cons r rs =>
    cases rs with
    | cons r2 rs =>
    cases rs
    cases r2
    split at p
    · rename_i t ht
      split at p
      · rename_i b hb
        exact ⟨_, _, _, _, b, rfl, .ty T, tyD_ok h r ht, isaB_ok hb, p.here h (.bl _)⟩
      · exact p.elim
    · exact p.elim
  · exact p.elim

/-! ### all, any of a list of bools -/
def boolsD : List D → Option (List Bool)
  | [] => some []
  | .bl b :: r => match boolsD r with
    | some bs => some (b :: bs)
    | none => none
  | _ :: _ => none
theorem boolsD_ok : ∀ {vs : List V} {ds : List D} {bs : List Bool}, DRs K ct io H vs ds → boolsD ds = some bs → vs = bs.map V.bl
  | _, _, _, .nil, e => by cases e; rfl
  | _, _, _, .cons r rs, e => by
    cases r with
    | bl b =>
      unfold boolsD at e
      split at e
      · rename_i bs h1
        cases e
        rw [boolsD_ok rs h1]
        rfl
      · cases e
    | _ => cases e
def gAll (ds : List D) (A : Hd) : R D := match ds with
  | [d] => match asR A d with
    | some es => match boolsD es with
      | some bs => .ok (.bl (bs.all id)) A
      | none => .stk
    | none => .stk
  | _ => .stk
def gAny (ds : List D) (A : Hd) : R D := match ds with
  | [d] => match asR A d with
    | some es => match boolsD es with
      | some bs => .ok (.bl (bs.any id)) A
      | none => .stk
    | none => .stk
  | _ => .stk
theorem gAll_ok : CaD K ct (rAll K) gAll := by
  intro W σ io H A xs ds Q h r p
  unfold gAll at p
  split at p
  · cases r with
    | cons r rs =>
    cases rs
    split at p
    · rename_i es he
      split at p
      · rename_i bs hb
        obtain ⟨a, us, rfl, hs, hr⟩ := asR_ok h r he
        have e := boolsD_ok hr hb
        subst e
        exact ⟨a, bs, rfl, hs, p.here h (.bl _)⟩
      · exact p.elim
    · exact p.elim
  · exact p.elim
theorem gAny_ok : CaD K ct (rAny K) gAny := by
  intro W σ io H A xs ds Q h r p
  unfold gAny at p
  split at p
  · cases r with
    | cons r rs =>
    cases rs
    split at p
    · rename_i es he
      split at p
      · rename_i bs hb
        obtain ⟨a, us, rfl, hs, hr⟩ := asR_ok h r he
        have e := boolsD_ok hr hb
        subst e
        exact ⟨a, bs, rfl, hs, p.here h (.bl _)⟩
      · exact p.elim
    · exact p.elim
  · exact p.elim

/-! ### tuple(x), list(x) -/
def gTuple (ds : List D) (A : Hd) : R D := match ds with
  | [.tup es] => .ok (.tup es) A
  | [d] => match asR A d with
    | some es => .ok (.tup es) A
    | none => .stk
  | _ => .stk
abbrev rTupleX (K : PySem.W.Frag) : List V → Hp → VK → Prop := fun xs H Q => ∃ p ys, xs = [.ref p] ∧ ((SqL K H p ys ∧ ∀ l, H l = none → Q (.ref l) (upd H l (.tup ys))) ∨ (SqT K H p ys ∧ Q (.ref p) H))
theorem gTuple_ok : CaD K ct (rTupleX K) gTuple := by
  intro W σ io H A xs ds Q h r p
  unfold gTuple at p
  split at p
  · cases r with
    | cons r rs =>
    cases rs
    cases r with
    | tup q hr => exact ⟨_, _, rfl, .inr ⟨q, p.here h (.tup q hr)⟩⟩
  · cases r with
    | cons r rs =>
    cases rs
    split at p
    · rename_i es he
      obtain ⟨a, us, rfl, hs, hr⟩ := asR_ok h r he
      exact ⟨a, us, rfl, .inl ⟨hs, fun l hl => p.new h hl (.newTup h hl hr)⟩⟩
    · exact p.elim
  · exact p.elim
def gListD (ds : List D) (A : Hd) : R D := match ds with
  | [d] => match asQ A d with
    | some es => .ok (.lst es) A
    | none => .stk
  | _ => .stk
def gListM (ds : List D) (A : Hd) : R D := match ds with
  | [d] => match asQ A d with
    | some es => .ok (.ref A.length) (A ++ [.lst es])
    | none => .stk
  | _ => .stk
abbrev rListX (K : PySem.W.Frag) : List V → Hp → VK → Prop := fun xs H Q => ∃ p ys, xs = [.ref p] ∧ (SqL K H p ys ∨ SqT K H p ys) ∧ ∀ l, H l = none → Q (.ref l) (upd H l (.lst ys))
theorem gListD_ok : CaD K ct (rListX K) gListD := by
  intro W σ io H A xs ds Q h r p
  unfold gListD at p
  split at p
  · cases r with
    | cons r rs =>
    cases rs
    split at p
    · rename_i es he
      obtain ⟨a, us, rfl, hs, hr⟩ := asQ_ok h r he
      exact ⟨a, us, rfl, hs, fun l hl => p.new h hl (.newLst h hl hr)⟩
    · exact p.elim
  · exact p.elim
theorem Post.num {W : WX} {σ : L2.St} {m : M} {p : Addr} {o : HO} {Q : VK} (q : Post K ct (DR K ct) W σ io H (.ok (.ref A.length) (A ++ [m])) Q) (h : HR K ct io H A) (n : H p = none) (hm : MR K ct (io.add p) (upd H p o) p m) : Q (.ref p) (upd H p o) :=
  q _ (io.add p) _ (Ext.num n) (h.num n hm) (.ref (by show (io.nm ++ [p])[A.length]? = some p; rw [← h.len]; simp))
theorem gListM_ok : CaD K ct (rListX K) gListM := by
  intro W σ io H A xs ds Q h r p
  unfold gListM at p
  split at p
  · cases r with
    | cons r rs =>
    cases rs
    split at p
    · rename_i es he
      obtain ⟨a, us, rfl, hs, hr⟩ := asQ_ok h r he
      exact ⟨a, us, rfl, hs, fun l hl => p.num h hl ⟨_, upd_same, hr.mono (Ext.num hl) h.noT⟩⟩
    · exact p.elim
  · exact p.elim

/-! ### min, max of two ints -/
def gMin2 (ds : List D) (A : Hd) : R D := match ds with
  | [.int i, .int j] => .ok (.int (if j < i then j else i)) A
  | _ => .stk
def gMax2 (ds : List D) (A : Hd) : R D := match ds with
  | [.int i, .int j] => .ok (.int (if j > i then j else i)) A
  | _ => .stk
theorem gMin2_ok : CaD K ct (fun xs H Q => ∃ i j, xs = [.int i, .int j] ∧ Q (.int (if j < i then j else i)) H) gMin2 := by
  intro W σ io H A xs ds Q h r p
  unfold gMin2 at p
  split at p
  · cases r with
    | cons r rs =>
    cases rs with
    | cons r2 rs =>
    cases rs; cases r; cases r2
    exact ⟨_, _, rfl, p.here h (.int _)⟩
  · exact p.elim
theorem gMax2_ok : CaD K ct (fun xs H Q => ∃ i j, xs = [.int i, .int j] ∧ Q (.int (if j > i then j else i)) H) gMax2 := by
  intro W σ io H A xs ds Q h r p
  unfold gMax2 at p
  split at p
  · cases r with
    | cons r rs =>
    cases rs with
    | cons r2 rs =>
    cases rs; cases r; cases r2
    exact ⟨_, _, rfl, p.here h (.int _)⟩
  · exact p.elim

/-! ### repr of data without dicts -/
mutual
theorem Dp.noDict {v : V} : ∀ {p : PyData}, Dp K H v p → p.hasDict = false
  | _, .non => rfl
  | _, .bl _ => rfl
  | _, .int _ => rfl
  | _, .str _ => rfl
  | _, .lst _ hs => by unfold PyData.hasDict; exact DpAll.noDict hs
  | _, .tup _ hs => by unfold PyData.hasDict; exact DpAll.noDict hs
theorem DpAll.noDict {vs : List V} : ∀ {ps : List PyData}, DpAll K H vs ps → PyData.hasDictAll ps = false
  | _, .nil => rfl
  | _, .cons h hs => by unfold PyData.hasDictAll; rw [Dp.noDict h, DpAll.noDict hs]; rfl
end
def rRepr (K : PySem.W.Frag) : List V → Hp → VK → Prop := fun xs H Q => ∃ x p, xs = [x] ∧ Dp K H x p ∧ p.showable = true ∧ p.depth ≤ 60 ∧ p.shown.length ≤ sizeLine ∧ Q (.str p.shown) H
theorem call_repr {X : Cx} (hg : X.A.guards = some []) (hu : X.A.units + 64 < cLine) : CallR X (.builtin "repr") (rRepr X.K) := by
  intro pins s σ H xs us Q I r h
  obtain ⟨x, p, rfl, hd, hs, hdp, hz, q⟩ := h
  obtain ⟨u, rfl, rx⟩ := vals1 r
  obtain ⟨as, rd⟩ := Dp.reads I p x u hd rx
  cases hd with
  | non => cases rx; exact PySem.P.repr_of_none ⟨.str _, H, I.tok _, ⟨_, rfl⟩, q⟩
  | bl b => cases rx; exact PySem.P.repr_of_bool ⟨.str _, H, I.tok _, ⟨_, rfl⟩, q⟩
  | int i =>
    obtain ⟨t, rfl⟩ := rx
    refine PySem.P.repr_of_int (by simpa [PyData.showable] using hs) ⟨.str _, H, I.tok _, ⟨_, rfl⟩, q⟩
  | str z =>
    obtain ⟨t, rfl⟩ := rx
    exact PySem.P.repr_of_str ⟨.str _, H, I.tok _, ⟨_, rfl⟩, q⟩ hz
  | lst h1 h2 =>
    cases rx
    refine repr_of_reads' rd hs (PyData.noDict_hsm (Dp.noDict (.lst h1 h2))) hg (by omega) (fun _ _ e => e) (fun h' u tk hk => ?_) hz
    exact ⟨.str _, H, I.kept (t' := tk) hk, ⟨_, rfl⟩, q⟩
  | tup h1 h2 =>
    cases rx
    refine repr_of_reads' rd hs (PyData.noDict_hsm (Dp.noDict (.tup h1 h2))) hg (by omega) (fun _ _ e => e) (fun h' u tk hk => ?_) hz
    exact ⟨.str _, H, I.kept (t' := tk) hk, ⟨_, rfl⟩, q⟩
def gRepr (ds : List D) (A : Hd) : R D := match ds with
  | [d] => match toP (deR A d) with
    | some p => if p.showable = true ∧ p.depth ≤ 60 ∧ p.shown.length ≤ sizeLine then .ok (.str p.shown) A else .stk
    | none => .stk
  | _ => .stk
theorem gRepr_ok : CaD K ct (rRepr K) gRepr := by
  intro W σ io H A xs ds Q h r p
  unfold gRepr at p
  split at p
  · cases r with
    | cons r rs =>
    cases rs
    split at p
    · rename_i q hq
      split at p
      · rename_i hc
        exact ⟨_, q, rfl, deR_ok h r hq, hc.1, hc.2.1, hc.2.2, p.here h (.str _)⟩
      · exact p.elim
    · exact p.elim
  · exact p.elim
end
end DV

set_option Elab.async false
set_option linter.all false
set_option maxRecDepth 100000
/-! DvF: statements by data. -/
namespace DV
open PySem PySem.Spec PyProof.Rows L2

inductive Fl where
  | nx | ret (d : D) | bk | ct
inductive Out where
  | go (f : Fl) (ro : Env) (A : Hd) | err (c : Cl) (fs : List (Str × D)) (ro : Env) (A : Hd) | stk
abbrev SF := Env → Hd → Out

section
variable (K : PySem.W.Frag) (ct : String → Addr)
def SPost (W : WX) (io : Io) (H : Hp) (o : Out) (Z : Ends) : Prop := match o with
  | .go .nx ro A => ∀ σ' io' H', Ext io H io' H' → Sta K ct ro A io' σ' H' → Z.nx σ' H'
  | .go .bk ro A => ∀ σ' io' H', Ext io H io' H' → Sta K ct ro A io' σ' H' → Z.bk σ' H'
  | .go .ct ro A => ∀ σ' io' H', Ext io H io' H' → Sta K ct ro A io' σ' H' → Z.ct σ' H'
  | .go (.ret d) ro A => ∀ v io' H', Ext io H io' H' → HR K ct io' H' A → DR K ct io' H' v d → Z.rt v H'
  | .err c fs ro A => ∀ cls dd σ' io' H', Ext io H io' H' → Sta K ct ro A io' σ' H' → XR K ct io' H' c fs cls dd → W cls dd σ' H'
  | .stk => False
def tS (W : WX) (f : SF) : TS := fun Z σ H => ∃ io A ro, Sta K ct ro A io σ H ∧ SPost K ct W io H (f ro A) Z
end
/-- an expression, then a statement's rest -/
def R.then {α : Type} (r : R α) (ro : Env) (k : α → Hd → Out) : Out := match r with
  | .ok a A => k a A
  | .err c fs A => .err c fs ro A
  | .stk => .stk
@[simp] theorem R.then_ok {α : Type} (a : α) (A : Hd) (ro : Env) (k : α → Hd → Out) : (R.ok a A).then ro k = k a A := rfl
@[simp] theorem R.then_err {α : Type} (c : Cl) (fs : List (Str × D)) (A : Hd) (ro : Env) (k : α → Hd → Out) : (R.err c fs A : R α).then ro k = .err c fs ro A := rfl
@[simp] theorem R.then_stk {α : Type} (ro : Env) (k : α → Hd → Out) : (R.stk : R α).then ro k = .stk := rfl
/-- a statement, then the rest of the block -/
def Out.next (o : Out) (k : Env → Hd → Out) : Out := match o with
  | .go .nx ro A => k ro A
  | o => o
@[simp] theorem Out.next_nx (ro : Env) (A : Hd) (k : Env → Hd → Out) : (Out.go .nx ro A).next k = k ro A := rfl
@[simp] theorem Out.next_bk (ro : Env) (A : Hd) (k : Env → Hd → Out) : (Out.go .bk ro A).next k = .go .bk ro A := rfl
@[simp] theorem Out.next_ct (ro : Env) (A : Hd) (k : Env → Hd → Out) : (Out.go .ct ro A).next k = .go .ct ro A := rfl
@[simp] theorem Out.next_ret (d : D) (ro : Env) (A : Hd) (k : Env → Hd → Out) : (Out.go (.ret d) ro A).next k = .go (.ret d) ro A := rfl
@[simp] theorem Out.next_err (c : Cl) (fs : List (Str × D)) (ro : Env) (A : Hd) (k : Env → Hd → Out) : (Out.err c fs ro A).next k = .err c fs ro A := rfl
@[simp] theorem Out.next_stk (k : Env → Hd → Out) : (Out.stk).next k = .stk := rfl

section
variable {K : PySem.W.Frag} {ct : String → Addr} {W : WX} {σ : L2.St} {io io' : Io} {H H' : Hp} {A A' : Hd} {ro : Env} {Z Z' : Ends}
theorem SPost.ext {o : Out} (e : Ext io H io' H') (h : SPost K ct W io H o Z) : SPost K ct W io' H' o Z := by
  cases o with
  | go f ro A => cases f with
    | nx => exact fun s i h' e2 => h s i h' (e.trans e2)
    | bk => exact fun s i h' e2 => h s i h' (e.trans e2)
    | ct => exact fun s i h' e2 => h s i h' (e.trans e2)
    | ret d => exact fun s i h' e2 => h s i h' (e.trans e2)
  | err c fs ro A => exact fun c d s i h' e2 => h c d s i h' (e.trans e2)
  | stk => exact h
theorem SPost.mono {o : Out} (h : SPost K ct W io H o Z) (h1 : ∀ σ H, Z.nx σ H → Z'.nx σ H) (h2 : ∀ v H, Z.rt v H → Z'.rt v H) (h3 : ∀ σ H, Z.bk σ H → Z'.bk σ H) (h4 : ∀ σ H, Z.ct σ H → Z'.ct σ H) : SPost K ct W io H o Z' := by
  cases o with
  | go f ro A => cases f with
    | nx => exact fun s i h' e q => h1 _ _ (h s i h' e q)
    | bk => exact fun s i h' e q => h3 _ _ (h s i h' e q)
    | ct => exact fun s i h' e q => h4 _ _ (h s i h' e q)
    | ret d => exact fun s i h' e q r => h2 _ _ (h s i h' e q r)
  | err c fs ro A => exact h
  | stk => exact h
/-- the value comes, then the rest -/
theorem Post.then {α β : Type} {rep : Io → Hp → β → α → Prop} {r : R α} {k : α → Hd → Out} (s : Sta K ct ro A io σ H) (h : SPost K ct W io H (r.then ro k) Z) :
    Post K ct rep W σ io H r (fun b H1 => ∃ io1 A1 a, Ext io H io1 H1 ∧ Sta K ct ro A1 io1 σ H1 ∧ rep io1 H1 b a ∧ SPost K ct W io1 H1 (k a A1) Z) := by
  cases r with
  | ok a A1 => exact fun b io1 H1 e h1 r => ⟨io1, A1, a, e, s.mono e h1, r, SPost.ext e h⟩
  | err c fs A1 => exact fun cls dd io1 H1 e h1 x => h cls dd σ io1 H1 e (s.mono e h1) x
  | stk => exact h
theorem SPost.next {o : Out} {k : Env → Hd → Out} (h : SPost K ct W io H (o.next k) Z) : SPost K ct W io H o { Z with nx := fun σ' H' => ∃ io1 A1 ro1, Sta K ct ro1 A1 io1 σ' H' ∧ SPost K ct W io1 H' (k ro1 A1) Z } := by
  cases o with
  | go f ro A => cases f with
    | nx => exact fun s i h' e q => ⟨i, A, ro, q, SPost.ext e h⟩
    | bk => exact h
    | ct => exact h
    | ret d => exact h
  | err c fs ro A => exact h
  | stk => exact h
end

section
variable (X : Cx) (ct : String → Addr) (W : WX)
abbrev PSD (st : Stmt) (f : SF) : Prop := PS X st (tS X.K ct W f)
abbrev PSsD (st : List Stmt) (f : SF) : Prop := PSs X st (tS X.K ct W f)
end
theorem ps_mono {X : Cx} {e : Stmt} {t t' : TS} (h : PS X e t) (m : ∀ Z σ H, t' Z σ H → t Z σ H) : PS X e t' := ⟨fun pins s σ H Q I q => h.run pins s σ H Q I (m _ _ _ q)⟩
theorem pss_mono {X : Cx} {e : List Stmt} {t t' : TS} (h : PSs X e t) (m : ∀ Z σ H, t' Z σ H → t Z σ H) : PSs X e t' := ⟨fun pins s σ H Q I q => h.run pins s σ H Q I (m _ _ _ q)⟩

def sNx : SF := fun ro A => .go .nx ro A
def sSeq (a b : SF) : SF := fun ro A => (a ro A).next b
def sEx (a : EF) : SF := fun ro A => (a ro A).then ro fun _ A1 => .go .nx ro A1
def sRet (a : EF) : SF := fun ro A => (a ro A).then ro fun d A1 => .go (.ret d) ro A1
def sRetN : SF := fun ro A => .go (.ret .non) ro A
def sIf (c : TF) (a b : SF) : SF := fun ro A => (c ro A).then ro fun k A1 => if k then a ro A1 else b ro A1
def sBk : SF := fun ro A => .go .bk ro A
def sCt : SF := fun ro A => .go .ct ro A
/-- where a value goes -/
abbrev GF := D → Env → Hd → R Env
def gNm (i : Nat) : GF := fun d ro A => .ok (ro.set i (some d)) A
def gTs : List GF → List D → Env → Hd → R Env
  | [], [], ro, A => .ok ro A
  | g :: gs, d :: ds, ro, A => (g d ro A).bind fun ro A => gTs gs ds ro A
  | _, _, _, _ => .stk
def gTpl (gs : List GF) : GF := fun d ro A => match d with
  | .tup ds => if ds.length = gs.length then gTs gs ds ro A else .stk
  | _ => .stk
/-- a target's end, no error served -/
def R.out (r : R Env) : Out := match r with
  | .ok ro A => .go .nx ro A
  | _ => .stk
def sAsg (a : EF) (g : GF) : SF := fun ro A => (a ro A).then ro fun d A1 => (g d ro A1).out

section
variable {X : Cx} {ct : String → Addr} {W : WX} {e a b : Expr} {pos : Pos} {fa fb : EF} {ft fu : TF} {fl : AF} {st : Stmt} {sts : List Stmt} {fs gs : SF}
theorem pssd_nil : PSsD X ct W [] sNx := pss_mono pss_nil fun Z σ H ⟨io, A, ro, s, p⟩ => p σ io H Ext.refl s
theorem pssd_cons (h : PSD X ct W st fs) (r : PSsD X ct W sts gs) : PSsD X ct W (st :: sts) (sSeq fs gs) := pss_mono (pss_cons h r) fun Z σ H ⟨io, A, ro, s, p⟩ => ⟨io, A, ro, s, p.next⟩
theorem pssd_one (h : PSD X ct W st fs) : PSsD X ct W [st] fs := pss_one h
theorem psd_pass : PSD X ct W (.Pass pos) sNx := ps_mono ps_pass fun Z σ H ⟨io, A, ro, s, p⟩ => p σ io H Ext.refl s
theorem psd_break : PSD X ct W (.Break pos) sBk := ps_mono ps_break fun Z σ H ⟨io, A, ro, s, p⟩ => p σ io H Ext.refl s
theorem psd_continue : PSD X ct W (.Continue pos) sCt := ps_mono ps_continue fun Z σ H ⟨io, A, ro, s, p⟩ => p σ io H Ext.refl s
theorem psd_expr (h : PD X ct W e fa) (hs : swapsWith e none pos.line X.env = pure false := by rfl) : PSD X ct W (.Expr e pos) (sEx fa) := ps_mono (ps_expr h hs) fun Z σ H ⟨io, A, ro, s, p⟩ =>
  ⟨io, A, ro, s, (Post.then (rep := DR X.K ct) s p).mono fun v H1 ⟨io1, A1, d, e1, s1, r, q⟩ => q σ io1 H1 Ext.refl s1⟩
theorem psd_ret (h : PD X ct W e fa) : PSD X ct W (.Return (some e) pos) (sRet fa) := ps_mono (ps_ret h) fun Z σ H ⟨io, A, ro, s, p⟩ =>
  ⟨io, A, ro, s, (Post.then (rep := DR X.K ct) s p).mono fun v H1 ⟨io1, A1, d, e1, s1, r, q⟩ => q v io1 H1 Ext.refl s1.hr r⟩
theorem psd_retN : PSD X ct W (.Return none pos) sRetN := ps_mono ps_retN fun Z σ H ⟨io, A, ro, s, p⟩ => p .non io H Ext.refl s.hr .non
theorem psd_if {c : Expr} {xs ys : List Stmt} (hc : PDt X ct W c ft) (hx : PSsD X ct W xs fs) (hy : PSsD X ct W ys gs) : PSD X ct W (.If c xs ys pos) (sIf ft fs gs) := ps_mono (ps_if hc hx hy) fun Z σ H ⟨io, A, ro, s, p⟩ =>
  ⟨io, A, ro, s, (Post.then (rep := repB) s p).mono fun k H1 ⟨io1, A1, d, e1, s1, r, q⟩ => by
    rw [show k = d from r]
    cases d with
    | true => exact ⟨io1, A1, ro, s1, q⟩
    | false => exact ⟨io1, A1, ro, s1, q⟩⟩

/-- where a value goes, by data -/
def GPost (K : PySem.W.Frag) (ct : String → Addr) (io : Io) (H : Hp) (r : R Env) (Q : L2.St → Hp → Prop) : Prop := match r with
  | .ok ro A => ∀ σ' io' H', Ext io H io' H' → Sta K ct ro A io' σ' H' → Q σ' H'
  | _ => False
def tG (K : PySem.W.Frag) (ct : String → Addr) (g : GF) : TG := fun v σ H Q => ∃ io A ro d, Sta K ct ro A io σ H ∧ DR K ct io H v d ∧ GPost K ct io H (g d ro A) Q
def tGs (K : PySem.W.Frag) (ct : String → Addr) (g : List D → Env → Hd → R Env) : TGs := fun vs σ H Q => ∃ io A ro ds, Sta K ct ro A io σ H ∧ DRs K ct io H vs ds ∧ GPost K ct io H (g ds ro A) Q
abbrev PGD (X : Cx) (ct : String → Addr) (e : Expr) (g : GF) : Prop := PG X e (tG X.K ct g)
abbrev PGsD (X : Cx) (ct : String → Addr) (e : List Expr) (g : List GF) : Prop := PGs X e (tGs X.K ct (gTs g))
theorem pg_mono {X : Cx} {e : Expr} {t t' : TG} (h : PG X e t) (m : ∀ v σ H Q, t' v σ H Q → t v σ H Q) : PG X e t' := ⟨fun pins s σ H v u Q I r q => h.run pins s σ H v u Q I r (m _ _ _ _ q)⟩
theorem pgs_mono {X : Cx} {e : List Expr} {t t' : TGs} (h : PGs X e t) (m : ∀ v σ H Q, t' v σ H Q → t v σ H Q) : PGs X e t' := ⟨fun pins s σ H v u Q I r q => h.run pins s σ H v u Q I r (m _ _ _ _ q)⟩
theorem GPost.ext {K : PySem.W.Frag} {io io' : Io} {H H' : Hp} {r : R Env} {Q : L2.St → Hp → Prop} (e : Ext io H io' H') (h : GPost K ct io H r Q) : GPost K ct io' H' r Q := by
  cases r with
  | ok ro A => exact fun s i h' e2 => h s i h' (e.trans e2)
  | err c fs A => exact h
  | stk => exact h
theorem pgd_name {i : Nat} {x : Str} (hN : X.N.Nodup) (hi : X.N[i]? = some x) (hx : Loc X.env.scope x) (hf : X.fn x = true ∨ X.env.scope.names.lookup x = some .local := by first | exact .inl rfl | exact .inr rfl | assumption) : PGD X ct (.Name x pos) (gNm i) :=
  pg_mono (pg_name hN hi hx hf) fun v σ H Q ⟨io, A, ro, d, s, r, p⟩ => p _ io H Ext.refl ⟨s.hr, s.env.set r⟩
theorem pgsd_nil : PGsD X ct [] [] := pgs_mono pgs_nil fun vs σ H Q ⟨io, A, ro, ds, s, r, p⟩ => by
  cases r with
  | nil => exact ⟨rfl, p σ io H Ext.refl s⟩
  | cons _ _ => exact p.elim
theorem pgsd_cons {es : List Expr} {g : GF} {gl : List GF} (h : PGD X ct e g) (hr : PGsD X ct es gl) (hs : (assignEach (e :: es) X.env).map (·.2) = assign e X.env :: (assignEach es X.env).map (·.2) := by rfl) : PGsD X ct (e :: es) (g :: gl) :=
  pgs_mono (pgs_cons h hr hs) fun vs σ H Q ⟨io, A, ro, ds, s, r, p⟩ => by
    cases r with
    | nil => exact p.elim
    | @cons v vs d ds r rs =>
      refine ⟨v, vs, rfl, io, A, ro, d, s, r, ?_⟩
      have p : GPost X.K ct io H ((g d ro A).bind fun ro A => gTs gl ds ro A) Q := p
      cases hg : g d ro A with
      | ok ro1 A1 => rw [hg] at p; exact fun σ1 io1 H1 e1 s1 => ⟨io1, A1, ro1, ds, s1, rs.mono e1 s.hr.noT, GPost.ext e1 p⟩
      | err c fs A1 => rw [hg] at p; exact p
      | stk => rw [hg] at p; exact p
theorem pgd_tup {es : List Expr} {k : Nat} {gl : List GF} (hc : X.calm = true) (h : PGsD X ct es gl) (hn : (assignEach es X.env).length = gl.length := by rfl) (hst : (assignEach es X.env).findIdx? (·.1) = none := by rfl) : PGD X ct (.Tuple es k pos) (gTpl gl) :=
  pg_mono (pg_tup hc h hn hst) fun v σ H Q ⟨io, A, ro, d, s, r, p⟩ => by
    unfold gTpl at p
    split at p
    · rename_i ds
      split at p
      · rename_i hl
        cases r with
        | tup q rs => exact ⟨_, _, rfl, q, by rw [rs.length]; exact hl, io, A, ro, ds, s, rs, p⟩
      · exact p.elim
    · exact p.elim
theorem out_post {K : PySem.W.Frag} {io : Io} {H : Hp} {r : R Env} {Z : Ends} (h : SPost K ct W io H r.out Z) : GPost K ct io H r Z.nx := by
  cases r with
  | ok ro A => exact h
  | err c fs A => exact h
  | stk => exact h
theorem psd_asg {tg : Expr} {g : GF} (he : PD X ct W e fa) (hg : PGD X ct tg g) (hs : swapsWithSole [tg] e pos.line X.env = pure false := by rfl) (hw : swappedStores [tg] e X.env = pure none := by rfl)
    (h1 : (assignEach [tg] X.env).map (·.2) = [assign tg X.env] := by rfl) : PSD X ct W (.Assign [tg] e pos) (sAsg fa g) :=
  ps_mono (ps_asg he hg hs hw h1) fun Z σ H ⟨io, A, ro, s, p⟩ =>
    ⟨io, A, ro, s, (Post.then (rep := DR X.K ct) s p).mono fun v H1 ⟨io1, A1, d, e1, s1, r, q⟩ => ⟨io1, A1, ro, d, s1, r, out_post q⟩⟩
theorem psd_set {i : Nat} {x : Str} {pos' : Pos} (hN : X.N.Nodup) (hi : X.N[i]? = some x) (hx : Loc X.env.scope x) (he : PD X ct W e fa) (hs : swapsWith e (some (.Name x pos')) pos.line X.env = pure false := by rfl) (hf : X.fn x = true ∨ X.env.scope.names.lookup x = some .local := by first | exact .inl rfl | exact .inr rfl | assumption) :
    PSD X ct W (.Assign [.Name x pos'] e pos) (sAsg fa (gNm i)) :=
  ps_mono (ps_set hN hi hx he hs hf) fun Z σ H ⟨io, A, ro, s, p⟩ =>
    ⟨io, A, ro, s, (Post.then (rep := DR X.K ct) s p).mono fun v H1 ⟨io1, A1, d, e1, s1, r, q⟩ => q _ io1 H1 Ext.refl ⟨s1.hr, s1.env.set r⟩⟩

/-- x, y = a, b (and three), plain names: one after another by their places -/
def sPar (a : AF) (is : List Nat) : SF := fun ro A => (a ro A).then ro fun ds A1 => if ds.length = is.length then .go .nx ((is.zip ds).foldl (fun ro p => ro.set p.1 (some p.2)) ro) A1 else .stk
theorem psd_par {i j : Nat} {x y : Str} {px py pt : Pos} {kt k2 pt2} (hc : X.calm = true) (hN : X.N.Nodup) (hi : X.N[i]? = some x) (hj : X.N[j]? = some y) (hij : i ≠ j)
    (hx : X.env.scope.names.lookup x = some .local) (hy : X.env.scope.names.lookup y = some .local) (ha : PDa X ct W [a, b] fl)
    (hw : swappedStores [.Tuple [.Name x px, .Name y py] kt pt] (.Tuple [a, b] k2 pt2) X.env = pure (some [x, y]))
    (hs : swapsWithSole [.Tuple [.Name x px, .Name y py] kt pt] (.Tuple [a, b] k2 pt2) pos.line X.env = pure false := by rfl) :
    PSD X ct W (.Assign [.Tuple [.Name x px, .Name y py] kt pt] (.Tuple [a, b] k2 pt2) pos) (sPar fl [i, j]) :=
  ps_mono (ps_par hc hN hi hj hij hx hy ha hw hs) fun Z σ H ⟨io, A, ro, s, p⟩ =>
    ⟨io, A, ro, s, (Post.then (rep := DRs X.K ct) s p).mono fun v H1 ⟨io1, A1, d, e1, s1, r, q⟩ => by
      split at q
      · cases r with
        | nil => rename_i hl; cases hl
        | cons r rs => cases rs with
          | nil => rename_i hl; cases hl
          | cons r2 rs => cases rs with
            | nil => exact ⟨_, _, rfl, q _ io1 H1 Ext.refl ⟨s1.hr, (s1.env.set r).set r2⟩⟩
            | cons _ _ => rename_i hl; cases hl
      · exact q.elim⟩
end
end DV

set_option Elab.async false
set_option linter.all false
set_option maxRecDepth 100000
/-! DvG: what changes: stores by place, op= , methods of lists; loops. -/
namespace DV
open PySem PySem.Spec PyProof.Rows L2
section
variable {K : PySem.W.Frag} {ct : String → Addr} {W : WX} {σ : L2.St} {io io' : Io} {H H' : Hp} {A A' : Hd} {ro : Env}
theorem Ext.write {a : Addr} {o : HO} (ha : a ∈ io.nm) (hi : ∃ u, H a = some u) : Ext io H io (upd H a o) := by
  refine ⟨⟨[], by simp⟩, fun _ h => h, fun _ h => .inl h, fun b h k => absurd h k, fun b x e k => ?_, fun b x e => ?_⟩
  · rw [upd_ne (fun z : b = a => k (z ▸ ha))]; exact e
  · by_cases hb : b = a
    · subst hb; exact ⟨o, upd_same⟩
    · exact ⟨x, by rw [upd_ne hb]; exact e⟩
theorem HR.tracked {n : Nat} {a : Addr} (h : HR K ct io H A) (e : io.nm[n]? = some a) : a ∈ io.nm ∧ ∃ u, H a = some u := by
  refine ⟨List.mem_of_getElem? e, ?_⟩
  obtain ⟨m, hm⟩ := h.has e
  have mr := h.get e hm
  cases m with
  | lst ds => obtain ⟨xs, q, _⟩ := mr; exact ⟨_, q⟩
  | dic es => obtain ⟨xs, q, _⟩ := mr; exact ⟨_, q⟩
  | ins c fs => obtain ⟨dx, gs, q, _⟩ := mr; exact ⟨_, q⟩
theorem HR.write {n : Nat} {a : Addr} {o : HO} {m : M} (h : HR K ct io H A) (e : io.nm[n]? = some a) (hm : MR K ct io (upd H a o) a m) : HR K ct io (upd H a o) (A.set n m) := by
  obtain ⟨ha, hu⟩ := h.tracked e
  have x : Ext io H io (upd H a o) := Ext.write ha hu
  refine ⟨h.nd, by rw [List.length_set]; exact h.len, fun k b m' e1 e2 => ?_, fun b hb => ?_⟩
  · by_cases hk : n = k
    · subst hk
      have hl : n < A.length := by rw [← h.len]; exact (List.getElem?_eq_some_iff.mp e).1
      rw [List.getElem?_set_self hl] at e2
      rw [e] at e1
      cases e1; cases e2
      exact hm
    · rw [List.getElem?_set_ne hk] at e2
      refine (h.at_ k b m' e1 e2).mono x h.noT fun u q => ?_
      have hb : b ≠ a := fun z => by
        subst z
        obtain ⟨h1, q1⟩ := List.getElem?_eq_some_iff.mp e
        obtain ⟨h2, q2⟩ := List.getElem?_eq_some_iff.mp e1
        exact hk ((List.getElem_inj h.nd).mp (q1.trans q2.symm))
      rw [upd_ne hb]
      exact q
  · obtain ⟨h1, xs, h2⟩ := h.hid b hb
    exact ⟨h1, xs, by rw [upd_ne (fun z : b = a => h1 (z ▸ ha))]; exact h2⟩
/-- the object under n becomes m -/
theorem Sta.write {n : Nat} {a : Addr} {o : HO} {m : M} (s : Sta K ct ro A io σ H) (e : io.nm[n]? = some a) (hm : MR K ct io (upd H a o) a m) : Sta K ct ro (A.set n m) io σ (upd H a o) := by
  obtain ⟨ha, hu⟩ := s.hr.tracked e
  exact ⟨s.hr.write e hm, s.env.mono (Ext.write ha hu) s.hr.noT⟩
theorem HR.extW {n : Nat} {a : Addr} {o : HO} (h : HR K ct io H A) (e : io.nm[n]? = some a) : Ext io H io (upd H a o) := by
  obtain ⟨ha, hu⟩ := h.tracked e
  exact Ext.write ha hu
/-- the list under a number -/
def numL (A : Hd) : D → Option (Nat × List D)
  | .ref n => match A[n]? with
    | some (.lst ds) => some (n, ds)
    | _ => none
  | _ => none
theorem numL_ok {v : V} {d : D} {n : Nat} {ds : List D} (h : HR K ct io H A) (r : DR K ct io H v d) (e : numL A d = some (n, ds)) : ∃ a xs, v = .ref a ∧ d = .ref n ∧ io.nm[n]? = some a ∧ H a = some (.lst xs) ∧ DRs K ct io H xs ds := by
  cases r with
  | ref q =>
    obtain ⟨m, hm⟩ := h.has q
    have mr := h.get q hm
    unfold numL at e
    dsimp only at e
    rw [hm] at e
    cases m with
    | lst es => cases e; obtain ⟨xs, q1, rs⟩ := mr; exact ⟨_, xs, rfl, rfl, q, q1, rs⟩
    | dic es => cases e
    | ins c fs => cases e
  | _ => cases e
def numD (A : Hd) : D → Option (Nat × List (Key × D))
  | .ref n => match A[n]? with
    | some (.dic es) => some (n, es)
    | _ => none
  | _ => none
theorem numD_ok {v : V} {d : D} {n : Nat} {es : List (Key × D)} (h : HR K ct io H A) (r : DR K ct io H v d) (e : numD A d = some (n, es)) : ∃ a kvs, v = .ref a ∧ d = .ref n ∧ io.nm[n]? = some a ∧ H a = some (.dK kvs) ∧ kvs.map (·.1) = es.map (·.1) ∧ DRs K ct io H (kvs.map (·.2)) (es.map (·.2)) := by
  cases r with
  | ref q =>
    obtain ⟨m, hm⟩ := h.has q
    have mr := h.get q hm
    unfold numD at e
    dsimp only at e
    rw [hm] at e
    cases m with
    | dic es => cases e; obtain ⟨xs, q1, k, rs⟩ := mr; exact ⟨_, xs, rfl, rfl, q, q1, k, rs⟩
    | lst es => cases e
    | ins c fs => cases e
  | _ => cases e
def putD (es : List (Key × D)) (k : Key) (v : D) : List (Key × D) :=
  if (es.any fun kv => decide (kv.1 = k)) = true then es.map (fun kv => if kv.1 = k then (kv.1, v) else kv) else es ++ [(k, v)]
def dropD (es : List (Key × D)) (k : Key) : List (Key × D) := es.filter fun kv => decide (kv.1 ≠ k)
theorem keys_any (k : Key) : ∀ {kvs : List (Key × V)} {es : List (Key × D)}, kvs.map (·.1) = es.map (·.1) → (kvs.any fun kv => decide (kv.1 = k)) = es.any fun kv => decide (kv.1 = k)
  | [], [], _ => rfl
  | [], _ :: _, e => by cases e
  | _ :: _, [], e => by cases e
  | p :: kvs, q :: es, e => by
    rw [List.map_cons, List.map_cons] at e
    rw [List.any_cons, List.any_cons, keys_any k (List.cons.inj e).2, (List.cons.inj e).1]
theorem put_keys (k : Key) (v : V) (d : D) {kvs : List (Key × V)} {es : List (Key × D)} (e : kvs.map (·.1) = es.map (·.1)) : (putK kvs k v).map (·.1) = (putD es k d).map (·.1) := by
  unfold putK putD
  rw [keys_any k e]
  split
  · have h1 : ∀ l : List (Key × V), (l.map fun kv => if kv.1 = k then (kv.1, v) else kv).map (·.1) = l.map (·.1) := fun l => by
      rw [List.map_map]
      refine List.map_congr_left fun kv _ => ?_
      show (if kv.1 = k then (kv.1, v) else kv).1 = kv.1
      split <;> rfl
    have h2 : ∀ l : List (Key × D), (l.map fun kv => if kv.1 = k then (kv.1, d) else kv).map (·.1) = l.map (·.1) := fun l => by
      rw [List.map_map]
      refine List.map_congr_left fun kv _ => ?_
      show (if kv.1 = k then (kv.1, d) else kv).1 = kv.1
      split <;> rfl
    rw [h1, h2, e]
  · rw [List.map_append, List.map_append, e]
    rfl
theorem put_vals {k : Key} {v : V} {d : D} (r : DR K ct io H v d) : ∀ {kvs : List (Key × V)} {es : List (Key × D)}, kvs.map (·.1) = es.map (·.1) → DRs K ct io H (kvs.map (·.2)) (es.map (·.2)) → DRs K ct io H ((putK kvs k v).map (·.2)) ((putD es k d).map (·.2)) := by
  intro kvs es e rs
  unfold putK putD
  rw [keys_any k e]
  split
  · have go : ∀ {kvs : List (Key × V)} {es : List (Key × D)}, kvs.map (·.1) = es.map (·.1) → DRs K ct io H (kvs.map (·.2)) (es.map (·.2)) →
        DRs K ct io H ((kvs.map fun kv => if kv.1 = k then (kv.1, v) else kv).map (·.2)) ((es.map fun kv => if kv.1 = k then (kv.1, d) else kv).map (·.2)) := by
      intro kvs
      induction kvs with
      | nil => intro es e rs; cases es with
        | nil => exact .nil
        | cons _ _ => cases e
      | cons p kvs ih => intro es e rs; cases es with
        | nil => cases e
        | cons q es =>
          rw [List.map_cons, List.map_cons] at e rs
          cases rs with
          | cons r1 rs =>
            have h1 : p.1 = q.1 := (List.cons.inj e).1
            have ih := ih (List.cons.inj e).2 rs
            rw [List.map_cons, List.map_cons, List.map_cons, List.map_cons]
            refine .cons ?_ ih
            rw [h1]
            split
            · exact r
            · exact r1
    exact go e rs
  · rw [List.map_append, List.map_append]
    exact rs.append (.cons r .nil)

/-! ### o[i] = v -/
def setD (x y d : D) (ro : Env) (A : Hd) : R Env := match numL A x, y with
  | some (n, ds), .int k => match ixN ds.length k with
    | some j => .ok ro (A.set n (.lst (ds.set j d)))
    | none => .stk
  | some _, _ => .stk
  | none, y => match numD A x, keyD y with
    | some (n, es), some k => if es.length < sizeLine then .ok ro (A.set n (.dic (putD es k d))) else .stk
    | _, _ => .stk
abbrev rSetX : TSet := fun o i v H Q => rSetL o i v H Q ∨ rSetD o i v H Q
theorem set_X {X : Cx} (hu : X.A.units + 1 < cLine) : PSet X rSetX := by
  intro pins s σ H o i v ov iv u Q I ro ri rv h
  rcases h with h | h
  · exact set_list pins s σ H o i v ov iv u Q I ro ri rv h
  · exact set_dict hu pins s σ H o i v ov iv u Q I ro ri rv h
theorem setD_ok {x y v : V} {dx dy d : D} {Q : Hp → Prop} (s : Sta K ct ro A io σ H) (rx : DR K ct io H x dx) (ry : DR K ct io H y dy) (r : DR K ct io H v d)
    (p : GPost K ct io H (setD dx dy d ro A) (fun σ' H' => σ' = σ → Q H')) : rSetX x y v H Q := by
  unfold setD at p
  split at p
  · rename_i n ds k hn
    obtain ⟨a, xs, rfl, rfl, hio, hH, rs⟩ := numL_ok s.hr rx hn
    cases ry
    split at p
    · rename_i j hj
      refine .inl ⟨a, xs, k, j, rfl, rfl, hH, by rw [rs.length]; exact hj, ?_⟩
      have x1 := s.hr.extW (o := .lst (xs.set j v)) hio
      exact p σ io _ x1 (s.write hio ⟨_, upd_same, (rs.set r j).mono x1 s.hr.noT⟩) rfl
    · exact p.elim
  · exact p.elim
  · split at p
    · rename_i n es k hn hk
      obtain ⟨a, kvs, rfl, rfl, hio, hH, ek, rs⟩ := numD_ok s.hr rx hn
      have ey := keyD_ok ry hk
      subst ey
      split at p
      · rename_i hz
        have hl : kvs.length = es.length := by simpa using congrArg List.length ek
        have x1 := s.hr.extW (o := .dK (putK kvs k v)) hio
        exact .inr ⟨a, _, rfl, DPut.k hH (by rw [hl]; exact hz), p σ io _ x1 (s.write hio ⟨_, upd_same, put_keys k v d ek, (put_vals r ek rs).mono x1 s.hr.noT⟩) rfl⟩
      · exact p.elim
    · exact p.elim
end
def gAt (o i : EF) : GF := fun d ro A => (o ro A).bind fun x A1 => (i ro A1).bind fun y A2 => setD x y d ro A2
section
variable {X : Cx} {ct : String → Addr} {W : WX} {e a b o i : Expr} {pos : Pos} {fa fb fo fi : EF}
theorem tD_G {K : PySem.W.Frag} {σ : L2.St} {io : Io} {H : Hp} {A : Hd} {ro : Env} {k : D → Hd → R Env} {Q : L2.St → Hp → Prop} (s : Sta K ct ro A io σ H) (p : GPost K ct io H ((fa ro A).bind k) Q) :
    tD K ct (fun _ _ _ _ => False) fa σ H (fun v H1 => ∃ io1 A1 d, Ext io H io1 H1 ∧ Sta K ct ro A1 io1 σ H1 ∧ DR K ct io1 H1 v d ∧ GPost K ct io1 H1 (k d A1) Q) := by
  refine ⟨io, A, ro, s, ?_⟩
  cases h : fa ro A with
  | ok d A1 => rw [h] at p; exact fun v io1 H1 e1 h1 r => ⟨io1, A1, d, e1, s.mono e1 h1, r, GPost.ext e1 p⟩
  | err c fs A1 => rw [h] at p; exact p.elim
  | stk => rw [h] at p; exact p
theorem pgd_at (ho : PD X ct (fun _ _ _ _ => False) o fo) (hi : PD X ct (fun _ _ _ _ => False) i fi) (hu : X.A.units + 1 < cLine)
    (ha : ∀ v, assign (.Subscript o i pos) X.env v = (do
      let ov ← holding [v] (eval o X.env)
      let iv ← holding [v, ov] (eval i X.env)
      standAt pos
      holding [v, ov, iv] (setItem ov iv v)
      release [v, ov, iv] []) := by intro _; rfl) : PGD X ct (.Subscript o i pos) (gAt fo fi) :=
  pg_mono (pg_sub ho hi (set_X hu) ha) fun v σ H Q ⟨io, A, ro, d, s, r, p⟩ => by
    obtain ⟨jo, jA, jr, js, jp⟩ := tD_G (fa := fo) s p
    refine ⟨jo, jA, jr, js, jp.mono fun x H1 ⟨io1, A1, dx, e1, s1, rx, p1⟩ => ?_⟩
    obtain ⟨ko, kA, kr, ks, kp⟩ := tD_G (fa := fi) s1 p1
    refine ⟨ko, kA, kr, ks, kp.mono fun y H2 ⟨io2, A2, dy, e2, s2, ry, p2⟩ => ?_⟩
    refine setD_ok s2 (rx.mono e2 s1.hr.noT) ry ((r.mono e1 s.hr.noT).mono e2 s1.hr.noT) ?_
    cases hs : setD dx dy d ro A2 with
    | ok ro1 A3 =>
      rw [hs] at p2
      exact fun σ' io' H' ex st hσ => by have := p2 σ' io' H' ex st; rw [hσ] at this; exact this
    | err c fs A3 => rw [hs] at p2; exact p2
    | stk => rw [hs] at p2; exact p2
end
end DV

set_option Elab.async false
set_option linter.all false
set_option maxRecDepth 100000
/-! DvH: what is walked, for, while, list comprehensions by data. -/
namespace DV
open PySem PySem.Spec PyProof.Rows L2

/-- what is walked: items by value, or a numbered list that stays as it is -/
inductive Src where
  | fix (ds : List D) | num (n : Nat) (ds : List D)
def Src.items : Src → List D
  | .fix ds => ds
  | .num _ ds => ds
def Src.here : Src → Hd → Prop
  | .fix _, _ => True
  | .num n ds, A => A[n]? = some (.lst ds)
abbrev IF := Env → Hd → R Src

section
variable (K : PySem.W.Frag) (ct : String → Addr)
/-- J walks s from the state (io, H) on -/
def WalkR : Io → Hp → It → Src → Prop := fun io H J s => ∀ io2 H2 A2, Ext io H io2 H2 → HR K ct io2 H2 A2 → s.here A2 →
  (∀ i d, s.items[i]? = some d → J.go i H2 ∧ ∀ x H3, J.yld i H2 x H3 → Ext io2 H2 io2 H3 ∧ HR K ct io2 H3 A2 ∧ DR K ct io2 H3 x d) ∧ ∀ i, s.items.length ≤ i → J.stop i H2
def tI (W : WX) (f : IF) : TI := fun σ H Q => ∃ io A ro, Sta K ct ro A io σ H ∧ Post K ct (WalkR K ct) W σ io H (f ro A) Q
end
abbrev PID (X : Cx) (ct : String → Addr) (W : WX) (tg e : Expr) (f : IF) : Prop := PI X tg e (tI X.K ct W f)
theorem pi_mono {X : Cx} {tg e : Expr} {t t' : TI} (h : PI X tg e t) (m : ∀ σ H Q, t' σ H Q → t σ H Q) : PI X tg e t' := ⟨fun pins s σ H Q I q => h.run pins s σ H Q I (m _ _ _ q)⟩

/-! ### loops -/
/-- behind a turn: on, or out -/
def Out.loop (o : Out) (k : Env → Hd → Out) : Out := match o with
  | .go .nx ro A => k ro A
  | .go .ct ro A => k ro A
  | .go .bk ro A => .go .nx ro A
  | o => o
@[simp] theorem Out.loop_nx (ro : Env) (A : Hd) (k : Env → Hd → Out) : (Out.go .nx ro A).loop k = k ro A := rfl
@[simp] theorem Out.loop_ct (ro : Env) (A : Hd) (k : Env → Hd → Out) : (Out.go .ct ro A).loop k = k ro A := rfl
@[simp] theorem Out.loop_bk (ro : Env) (A : Hd) (k : Env → Hd → Out) : (Out.go .bk ro A).loop k = .go .nx ro A := rfl
@[simp] theorem Out.loop_ret (d : D) (ro : Env) (A : Hd) (k : Env → Hd → Out) : (Out.go (.ret d) ro A).loop k = .go (.ret d) ro A := rfl
@[simp] theorem Out.loop_err (c : Cl) (fs : List (Str × D)) (ro : Env) (A : Hd) (k : Env → Hd → Out) : (Out.err c fs ro A).loop k = .err c fs ro A := rfl
@[simp] theorem Out.loop_stk (k : Env → Hd → Out) : (Out.stk).loop k = .stk := rfl
def whileD (c : TF) (b : SF) : Nat → SF
  | 0 => fun _ _ => .stk
  | n + 1 => fun ro A => (c ro A).then ro fun k A1 => if k then (b ro A1).loop (whileD c b n) else .go .nx ro A1
open Classical in
noncomputable def forD (s : Src) (g : GF) (b : SF) : List D → SF
  | [] => fun ro A => if s.here A then .go .nx ro A else .stk
  | d :: ds => fun ro A => if s.here A then ((g d ro A).out.next b).loop (forD s g b ds) else .stk
noncomputable def sFor (i : IF) (g : GF) (b : SF) : SF := fun ro A => (i ro A).then ro fun s A1 => forD s g b s.items ro A1

section
variable {K : PySem.W.Frag} {ct : String → Addr} {W : WX} {σ : L2.St} {io io' : Io} {H H' : Hp} {A A' : Hd} {ro : Env} {Z Z' : Ends}
theorem SPost.loop {o : Out} {k : Env → Hd → Out} (h : SPost K ct W io H (o.loop k) Z) :
    SPost K ct W io H o { Z with nx := fun σ' H' => ∃ io1 A1 ro1, Ext io H io1 H' ∧ Sta K ct ro1 A1 io1 σ' H' ∧ SPost K ct W io1 H' (k ro1 A1) Z, ct := fun σ' H' => ∃ io1 A1 ro1, Ext io H io1 H' ∧ Sta K ct ro1 A1 io1 σ' H' ∧ SPost K ct W io1 H' (k ro1 A1) Z, bk := Z.nx } := by
  cases o with
  | go f ro A => cases f with
    | nx => exact fun s i h' e q => ⟨i, A, ro, e, q, SPost.ext e h⟩
    | bk => exact h
    | ct => exact fun s i h' e q => ⟨i, A, ro, e, q, SPost.ext e h⟩
    | ret d => exact h
  | err c fs ro A => exact h
  | stk => exact h
end
section
variable {X : Cx} {ct : String → Addr} {W : WX} {e a b : Expr} {pos : Pos} {fa fb : EF} {ft fu : TF} {fl : AF} {sts : List Stmt} {fs : SF}
theorem psd_while (n : Nat) {c : Expr} (hp : PassesOwn (model X.prog X.w) X.A X.env X.xe) (hc : PDt X ct W c ft) (hb : PSsD X ct W sts fs) : PSD X ct W (.While c sts [] pos) (whileD ft fs n) :=
  ps_mono (ps_while hp hc hb) fun Z σ H ⟨io, A, ro, s, p⟩ => by
    refine ⟨fun m σ H => ∃ io A ro, Sta X.K ct ro A io σ H ∧ SPost X.K ct W io H (whileD ft fs m ro A) Z, ⟨n, io, A, ro, s, p⟩, ?_⟩
    rintro m σ H ⟨io, A, ro, s, p⟩
    cases m with
    | zero => exact p.elim
    | succ m =>
      refine ⟨io, A, ro, s, (Post.then (rep := repB) s p).mono fun k H1 ⟨io1, A1, d, e1, s1, r, q⟩ => ?_⟩
      rw [show k = d from r]
      cases d with
      | false => exact q σ io1 H1 Ext.refl s1
      | true =>
        refine ⟨fun σ' H' => ∃ io1 A1 ro1, Sta X.K ct ro1 A1 io1 σ' H' ∧ SPost X.K ct W io1 H' (whileD ft fs m ro1 A1) Z, fun σ' H' h => ⟨m, Nat.lt_succ_self m, h⟩, io1, A1, ro, s1, ?_⟩
        refine q.loop.mono (fun σ H ⟨i, A, r, _, x, y⟩ => ⟨i, A, r, x, y⟩) (fun _ _ h => h) (fun _ _ h => h) (fun σ H ⟨i, A, r, _, x, y⟩ => ⟨i, A, r, x, y⟩)
theorem psd_for {tg iter : Expr} {fi : IF} {g : GF} (hp : PassesOwn (model X.prog X.w) X.A X.env X.xe) (hc : X.calm = true) (hi : PID X ct W tg iter fi) (hg : PGD X ct tg g) (hb : PSsD X ct W sts fs) (hs : ∀ x, foldedSetIterable iter X.env x = pure x := by intro _; rfl) :
    PSD X ct W (.For tg iter sts [] pos) (sFor fi g fs) :=
  ps_mono (ps_for hp hc hi hg hb hs) fun Z σ H ⟨io, A, ro, s, p⟩ => by
    refine ⟨io, A, ro, s, (Post.then (rep := WalkR X.K ct) s p).mono fun J H1 ⟨io1, A1, sr, e1, s1, wk, q⟩ => ?_⟩
    refine ⟨fun i m σ H => ∃ io2 A2 ro2, Ext io1 H1 io2 H ∧ Sta X.K ct ro2 A2 io2 σ H ∧ i + m = sr.items.length ∧ SPost X.K ct W io2 H (forD sr g fs (sr.items.drop i) ro2 A2) Z,
      ⟨sr.items.length, io1, A1, ro, Ext.refl, s1, Nat.zero_add _, q⟩, ?_⟩
    rintro i m σ H ⟨io2, A2, ro2, e2, s2, hm, q2⟩
    cases hd : sr.items.drop i with
    | nil =>
      rw [hd] at q2
      unfold forD at q2
      split at q2
      · rename_i hh
        have hl : sr.items.length ≤ i := by
          have := congrArg List.length hd
          rw [List.length_drop] at this
          simp at this
          omega
        exact .inl ⟨(wk io2 H A2 e2 s2.hr hh).2 i hl, q2 σ io2 H Ext.refl s2⟩
      · exact q2.elim
    | cons d ds =>
      rw [hd] at q2
      unfold forD at q2
      split at q2
      · rename_i hh
        have hx : sr.items[i]? = some d := by
          have := congrArg (fun l => l[0]?) hd
          simpa using this
        have hds : sr.items.drop (i + 1) = ds := by
          have := congrArg (List.drop 1) hd
          simpa [List.drop_drop, Nat.add_comm] using this
        obtain ⟨hgo, hy⟩ := (wk io2 H A2 e2 s2.hr hh).1 i d hx
        have hil : i < sr.items.length := (List.getElem?_eq_some_iff.mp hx).1
        refine .inr ⟨hgo, fun σ' H' => ∃ io3 A3 ro3, Ext io1 H1 io3 H' ∧ Sta X.K ct ro3 A3 io3 σ' H' ∧ SPost X.K ct W io3 H' (forD sr g fs ds ro3 A3) Z,
          fun σ' H' ⟨io3, A3, ro3, e3, s3, q3⟩ => ⟨m - 1, by omega, io3, A3, ro3, e3, s3, by omega, by rw [hds]; exact q3⟩, fun x H3 yy => ?_⟩
        obtain ⟨x1, x2, x3⟩ := hy x H3 yy
        refine ⟨io2, A2, ro2, d, s2.mono x1 x2, x3, ?_⟩
        have q2 := SPost.ext x1 q2
        cases hgd : g d ro2 A2 with
        | err c fs A3 => rw [hgd] at q2; exact q2
        | stk => rw [hgd] at q2; exact q2
        | ok ro3 A3 =>
          rw [hgd] at q2
          intro σ3 io3 H4 e3 s3
          refine ⟨io3, A3, ro3, s3, ?_⟩
          have q3 : SPost X.K ct W io3 H4 ((fs ro3 A3).loop (forD sr g fs ds)) Z := SPost.ext e3 q2
          have e4 := (e2.trans x1).trans e3
          exact q3.loop.mono (fun σ H ⟨i, A, r, x, y, z⟩ => ⟨i, A, r, e4.trans x, y, z⟩) (fun _ _ h => h) (fun _ _ h => h) (fun σ H ⟨i, A, r, x, y, z⟩ => ⟨i, A, r, e4.trans x, y, z⟩)
      · exact q2.elim
end
end DV

set_option Elab.async false
set_option linter.all false
set_option maxRecDepth 100000
/-! DvI: list comprehensions by data; what is walked: lists, tuples, texts, ranges. -/
namespace DV
open PySem PySem.Spec PyProof.Rows L2
section
variable {K : PySem.W.Frag} {ct : String → Addr} {W : WX} {σ : L2.St} {io io' : Io} {H H' : Hp} {A A' : Hd} {ro : Env}
theorem SqT.off {a p : Addr} {xs ys : List V} {o : HO} (e : H p = some (.lst ys)) (h : SqT K H a xs) : SqT K (upd H p o) a xs := by
  rcases h with (h | ⟨u, h⟩) | h
  · exact .inl (.inl (by rw [upd_ne (ne_of h e (by intro z; cases z))]; exact h))
  · exact .inl (.inr ⟨u, by rw [upd_ne (ne_of h e (by intro z; cases z))]; exact h⟩)
  · exact .inr h
mutual
/-- a held list is filled: the data do not see it -/
theorem DR.step {p : Addr} {ys : List V} {o : HO} (hp : p ∈ io.hd) (e : H p = some (.lst ys)) : ∀ {v : V} {d : D}, DR K ct io H v d → DR K ct io (upd H p o) v d
  | _, _, .non => .non
  | _, _, .bl b => .bl b
  | _, _, .int i => .int i
  | _, _, .str x => .str x
  | _, _, .tup h hs => .tup (SqT.off e h) (DRs.step hp e hs)
  | _, _, .lst n h hs => .lst n (by rw [upd_ne (fun z => n (by rw [z]; exact .inr hp))]; exact h) (DRs.step hp e hs)
  | _, _, .scr h hs => .scr (h.elim (fun ⟨n, u, q⟩ => .inl ⟨n, u, by rw [upd_ne (fun z => n (by rw [z]; exact .inr hp))]; exact q⟩) .inr) (DRs.step hp e hs)
  | _, _, .dic n h k hs => .dic n (by rw [upd_ne (fun z => n (by rw [z]; exact .inr hp))]; exact h) k (DRs.step hp e hs)
  | _, _, .ref h => .ref h
  | _, _, .ty n => .ty n
  | _, _, .own n => .own n
theorem DRs.step {p : Addr} {ys : List V} {o : HO} (hp : p ∈ io.hd) (e : H p = some (.lst ys)) : ∀ {vs : List V} {ds : List D}, DRs K ct io H vs ds → DRs K ct io (upd H p o) vs ds
  | _, _, .nil => .nil
  | _, _, .cons h hs => .cons (DR.step hp e h) (DRs.step hp e hs)
end
mutual
/-- fewer objects are held, the same numbers -/
theorem DR.free (hn : io'.nm = io.nm) (hd : ∀ a ∈ io'.hd, a ∈ io.hd) : ∀ {v : V} {d : D}, DR K ct io H v d → DR K ct io' H v d
  | _, _, .non => .non
  | _, _, .bl b => .bl b
  | _, _, .int i => .int i
  | _, _, .str x => .str x
  | _, _, .tup h hs => .tup h (DRs.free hn hd hs)
  | _, _, .lst n h hs => .lst (fun z => n (z.elim (fun z => .inl (by rw [← hn]; exact z)) fun z => .inr (hd _ z))) h (DRs.free hn hd hs)
  | _, _, .scr h hs => .scr (h.elim (fun ⟨n, q⟩ => .inl ⟨fun z => n (z.elim (fun z => .inl (by rw [← hn]; exact z)) fun z => .inr (hd _ z)), q⟩) .inr) (DRs.free hn hd hs)
  | _, _, .dic n h k hs => .dic (fun z => n (z.elim (fun z => .inl (by rw [← hn]; exact z)) fun z => .inr (hd _ z))) h k (DRs.free hn hd hs)
  | _, _, .ref h => .ref (by rw [hn]; exact h)
  | _, _, .ty n => .ty n
  | _, _, .own n => .own n
theorem DRs.free (hn : io'.nm = io.nm) (hd : ∀ a ∈ io'.hd, a ∈ io.hd) : ∀ {vs : List V} {ds : List D}, DRs K ct io H vs ds → DRs K ct io' H vs ds
  | _, _, .nil => .nil
  | _, _, .cons h hs => .cons (DR.free hn hd h) (DRs.free hn hd hs)
end
theorem MR.step {p a : Addr} {ys : List V} {o : HO} {m : M} (hp : p ∈ io.hd) (e : H p = some (.lst ys)) (ne : a ≠ p) (h : MR K ct io H a m) : MR K ct io (upd H p o) a m := by
  cases m with
  | lst ds => obtain ⟨xs, q, r⟩ := h; exact ⟨xs, by rw [upd_ne ne]; exact q, r.step hp e⟩
  | dic es => obtain ⟨xs, q, k, r⟩ := h; exact ⟨xs, by rw [upd_ne ne]; exact q, k, r.step hp e⟩
  | ins c fs => obtain ⟨dx, gs, q, k, r⟩ := h; exact ⟨dx, gs, by rw [upd_ne ne]; exact q, k, r.step hp e⟩
theorem MR.free {a : Addr} {m : M} (hn : io'.nm = io.nm) (hd : ∀ a ∈ io'.hd, a ∈ io.hd) (h : MR K ct io H a m) : MR K ct io' H a m := by
  cases m with
  | lst ds => obtain ⟨xs, q, r⟩ := h; exact ⟨xs, q, r.free hn hd⟩
  | dic es => obtain ⟨xs, q, k, r⟩ := h; exact ⟨xs, q, k, r.free hn hd⟩
  | ins c fs => obtain ⟨dx, gs, q, k, r⟩ := h; exact ⟨dx, gs, q, k, r.free hn hd⟩
theorem HR.step {p : Addr} {ys zs : List V} (h : HR K ct io H A) (hp : p ∈ io.hd) (e : H p = some (.lst ys)) : HR K ct io (upd H p (.lst zs)) A := by
  refine ⟨h.nd, h.len, fun n a m e1 e2 => (h.at_ n a m e1 e2).step hp e fun z => (h.hid p hp).1 (by rw [← z]; exact List.mem_of_getElem? e1), fun a ha => ⟨(h.hid a ha).1, ?_⟩⟩
  by_cases hb : a = p
  · subst hb; exact ⟨zs, upd_same⟩
  · obtain ⟨xs, q⟩ := (h.hid a ha).2
    exact ⟨xs, by rw [upd_ne hb]; exact q⟩
theorem HR.free (h : HR K ct io H A) (hn : io'.nm = io.nm) (hd : ∀ a ∈ io'.hd, a ∈ io.hd) : HR K ct io' H A :=
  ⟨by rw [hn]; exact h.nd, by rw [hn]; exact h.len, fun n a m e1 e2 => (h.at_ n a m (by rw [← hn]; exact e1) e2).free hn hd, fun a ha => by rw [hn]; exact h.hid a (hd a ha)⟩
theorem Ext.hold {p : Addr} {xs : List V} (n : H p = none) : Ext io H (io.hold p) (upd H p (.lst xs)) := by
  refine ⟨⟨[], by simp [Io.hold]⟩, fun a h => List.mem_cons_of_mem _ h, fun a h => ?_, fun b h k => absurd h k, fun b x e k => ?_, fun b x e => ?_⟩
  · rcases List.mem_cons.mp h with h | h
    · rw [h]; exact .inr n
    · exact .inl h
  · rw [upd_ne (ne_of_none e n)]; exact e
  · exact ⟨x, by rw [upd_ne (ne_of_none e n)]; exact e⟩
theorem HR.hold {p : Addr} {xs : List V} (h : HR K ct io H A) (n : H p = none) : HR K ct (io.hold p) (upd H p (.lst xs)) A := by
  refine ⟨h.nd, h.len, fun k a m e1 e2 => (h.at_ k a m e1 e2).mono (Ext.hold n) h.noT fun o e => by rw [upd_ne (ne_of_none e n)]; exact e, fun a ha => ?_⟩
  rcases List.mem_cons.mp ha with ha | ha
  · subst ha
    exact ⟨fun z => h.ne n (.inl z), xs, upd_same⟩
  · obtain ⟨h1, xs, h2⟩ := h.hid a ha
    exact ⟨h1, xs, by rw [upd_ne (ne_of_none h2 n)]; exact h2⟩
/-- the held list is changed: seen from a state where it was not -/
theorem Ext.stepNew {p : Addr} {o : HO} (x : Ext io H io' H') (n : H p = none) (ht : ∃ u, H' p = some u) : Ext io H io' (upd H' p o) := by
  refine ⟨x.pre, x.hd1, x.hd2, x.fresh, fun b u e k => ?_, fun b u e => ?_⟩
  · rw [upd_ne (ne_of_none e n)]; exact x.keep b u e k
  · obtain ⟨o', e'⟩ := x.there b u e
    exact ⟨o', by rw [upd_ne (ne_of_none e n)]; exact e'⟩
/-- .. no longer held -/
theorem Ext.free {io2 : Io} (x : Ext io H io' H') (hn : io2.nm = io'.nm) (h1 : ∀ a ∈ io.hd, a ∈ io2.hd) (h2 : ∀ a ∈ io2.hd, a ∈ io'.hd) : Ext io H io2 H' :=
  ⟨by rw [hn]; exact x.pre, h1, fun a ha => x.hd2 a (h2 a ha), fun b h k => x.fresh b (by rw [← hn]; exact h) k, x.keep, x.there⟩
end

/-! ### a comprehension's target, its turn -/
inductive Pat where
  | one (i : Nat) | tup (is : List Nat)
def setAll (ro : Env) (is : List Nat) (ds : List D) : Env := (is.zip ds).foldl (fun ro p => ro.set p.1 (some p.2)) ro
def Pat.put (pt : Pat) (d : D) (ro : Env) : Option Env := match pt, d with
  | .one i, d => some (ro.set i (some d))
  | .tup is, .tup ds => if ds.length = is.length then some (setAll ro is ds) else none
  | _, _ => none
def wipeD (ro : Env) : List Nat → Env
  | [] => ro
  | v :: vs => (wipeD ro vs).set v none
/-- no error is let out -/
def R.calm {α : Type} (r : R α) : R α := match r with
  | .err _ _ _ => .stk
  | r => r
open Classical in
noncomputable def compD (s : Src) (pt : Pat) (vs : List Nat) (tt : TF) (te : EF) (ro : Env) : List D → List D → Hd → R (List D)
  | [], acc, A => if s.here A then .ok acc A else .stk
  | d :: ds, acc, A => if s.here A then (match pt.put d (wipeD ro vs) with
      | some ro1 => (tt ro1 A).calm.bind fun b A1 => if b then (te ro1 A1).calm.bind fun y A2 => if acc.length < sizeLine then compD s pt vs tt te ro ds (acc ++ [y]) A2 else .stk else compD s pt vs tt te ro ds acc A1
      | none => .stk) else .stk
noncomputable def eComp (i : IF) (pt : Pat) (vs : List Nat) (tt : TF) (te : EF) : EF := fun ro A => (i ro A).bind fun s A1 => (compD s pt vs tt te ro s.items [] A1).bind fun ds A2 => .ok (.lst ds) A2
noncomputable def eCompM (i : IF) (pt : Pat) (vs : List Nat) (tt : TF) (te : EF) : EF := fun ro A => (i ro A).bind fun s A1 => (compD s pt vs tt te ro s.items [] A1).bind fun ds A2 => .ok (.ref A2.length) (A2 ++ [.lst ds])
def ttYes : TF := fun _ A => .ok true A
def gNames : List Nat → TGs
  | [] => gNil
  | i :: is => gCons (gName i) (gNames is)
def Pat.g (K : PySem.W.Frag) : Pat → TG
  | .one i => gName i
  | .tup is => gTup K is.length (gNames is)
def Pat.slots : Pat → List Nat
  | .one i => [i]
  | .tup is => is
theorem wipe_set {σ : L2.St} {i : Nat} {v : Option V} : ∀ {vs : List Nat}, i ∈ vs → wipe (σ.set i v) vs = wipe σ vs
  | [], h => by cases h
  | j :: vs, h => by
    unfold wipe
    by_cases hij : i ∈ vs
    · rw [wipe_set hij]
    · have hj : i = j := (List.mem_cons.mp h).resolve_right hij
      subst hj
      have go : ∀ (vs : List Nat) (τ : L2.St), i ∉ vs → wipe (τ.set i v) vs = (wipe τ vs).set i v := by
        intro vs
        induction vs with
        | nil => intro τ _; rfl
        | cons k vs ih =>
          intro τ hn
          have h1 : i ≠ k := fun z => hn (by rw [z]; exact List.mem_cons_self)
          have h2 : i ∉ vs := fun z => hn (List.mem_cons_of_mem _ z)
          unfold wipe
          rw [ih τ h2, List.set_comm _ _ h1]
      rw [go vs σ hij]
      rw [List.set_set]
theorem wipe_wipe {σ : L2.St} (vs : List Nat) : wipe (wipe σ vs) vs = wipe σ vs := by
  have go : ∀ (us : List Nat) (τ : L2.St), (∀ i ∈ us, i ∈ vs) → wipe (wipe τ us) vs = wipe τ vs := by
    intro us
    induction us with
    | nil => intro τ _; rfl
    | cons u us ih =>
      intro τ h
      show wipe ((wipe τ us).set u none) vs = wipe τ vs
      rw [wipe_set (h u List.mem_cons_self), ih τ fun i hi => h i (List.mem_cons_of_mem _ hi)]
  exact go vs σ fun i hi => hi
section
variable {K : PySem.W.Frag} {ct : String → Addr} {W : WX} {σ : L2.St} {io io' : Io} {H H' : Hp} {A A' : Hd} {ro : Env}
theorem EnvR.wipe (h : EnvR K ct io H ro σ) : ∀ vs : List Nat, EnvR K ct io H (wipeD ro vs) (L2.wipe σ vs)
  | [] => h
  | v :: vs => by
    have ih := EnvR.wipe h vs
    refine ⟨by show ((wipeD ro vs).set v none).length = ((L2.wipe σ vs).set v none).length; rw [List.length_set, List.length_set, ih.len], fun i d e => ?_⟩
    have e : ((wipeD ro vs).set v none)[i]? = some (some d) := e
    by_cases hi : v = i
    · subst hi
      by_cases hl : v < (wipeD ro vs).length
      · rw [List.getElem?_set_self hl] at e; cases e
      · rw [List.getElem?_eq_none (by rw [List.length_set]; omega)] at e; cases e
    · rw [List.getElem?_set_ne hi] at e
      obtain ⟨w, e1, r⟩ := ih.at_ i d e
      exact ⟨w, by show ((L2.wipe σ vs).set v none)[i]? = _; rw [List.getElem?_set_ne hi]; exact e1, r⟩
/-- the target takes the item -/
theorem Pat.take {pt : Pat} {vs : List Nat} {x : V} {d : D} {ro1 : Env} {Q : L2.St → Hp → Prop} (hs : ∀ i ∈ pt.slots, i ∈ vs) (he : EnvR K ct io H (wipeD ro vs) (L2.wipe σ vs)) (r : DR K ct io H x d) (hp : pt.put d (wipeD ro vs) = some ro1)
    (hQ : ∀ σ2, EnvR K ct io H ro1 σ2 → L2.wipe σ2 vs = L2.wipe σ vs → Q σ2 H) : pt.g K x (L2.wipe σ vs) H Q := by
  cases pt with
  | one i =>
    cases hp
    refine hQ _ (he.set r) ?_
    rw [wipe_set (hs i List.mem_cons_self), wipe_wipe]
  | tup is =>
    unfold Pat.put at hp
    split at hp
    · rename_i h2
      cases h2
    · rename_i is' ds h1
      cases h1
      split at hp
      · rename_i hl
        cases hp
        cases r with
        | @tup a xs _ q rs =>
          refine ⟨a, xs, rfl, q, by rw [rs.length]; exact hl, ?_⟩
          have go : ∀ (is : List Nat) (xs : List V) (ds : List D) (ro0 : Env) (σ0 : L2.St), DRs K ct io H xs ds → ds.length = is.length → (∀ i ∈ is, i ∈ vs) → EnvR K ct io H ro0 σ0 → L2.wipe σ0 vs = L2.wipe σ vs →
              (∀ σ2, EnvR K ct io H (setAll ro0 is ds) σ2 → L2.wipe σ2 vs = L2.wipe σ vs → Q σ2 H) → gNames is xs σ0 H Q := by
            intro is
            induction is with
            | nil =>
              intro xs ds ro0 σ0 rs hl _ h0 hw hQ
              cases rs with
              | nil => exact ⟨rfl, hQ σ0 h0 hw⟩
              | cons _ _ => cases hl
            | cons i is ih =>
              intro xs ds ro0 σ0 rs hl hi h0 hw hQ
              cases rs with
              | nil => cases hl
              | @cons v vs' d ds r rs =>
                refine ⟨v, vs', rfl, ?_⟩
                refine ih vs' ds _ _ rs (by simpa using hl) (fun j hj => hi j (List.mem_cons_of_mem _ hj)) (h0.set r) ?_ hQ
                rw [wipe_set (hi i List.mem_cons_self)]
                exact hw
          exact go is xs ds _ _ rs hl hs he (wipe_wipe vs) hQ
      · cases hp
    · cases hp
end
theorem Post.calm {K : PySem.W.Frag} {ct : String → Addr} {W W' : WX} {σ σ' : L2.St} {io ic : Io} {H Hc : Hp} {α β γ δ : Type} {rep : Io → Hp → β → α → Prop} {rep2 : Io → Hp → δ → γ → Prop} {r : R α} {k : α → Hd → R γ} {Q : δ → Hp → Prop} (h : Post K ct rep2 W σ io H (r.calm.bind k) Q) :
    Post K ct rep W' σ' ic Hc r (fun b H1 => ∃ io1 A1 a, Ext ic Hc io1 H1 ∧ HR K ct io1 H1 A1 ∧ rep io1 H1 b a ∧ Post K ct rep2 W σ io H (k a A1) Q) := by
  cases r with
  | ok a A => exact fun b io1 H1 e h1 r => ⟨io1, A, a, e, h1, r, h⟩
  | err c fs A => exact (show False from h).elim
  | stk => exact h
section
variable {X : Cx} {ct : String → Addr} {W : WX} {e a b : Expr} {pos : Pos} {fa fb : EF} {ft fu : TF} {fl : AF}
abbrev W0 : WX := fun _ _ _ _ => False
/-- the reading of a comprehension, from its function; fin says what is wanted of the list -/
theorem comp_D {K : PySem.W.Frag} {fi : IF} {pt : Pat} {vs : List Nat} {tt : TF} {te : EF} (hs : ∀ i ∈ pt.slots, i ∈ vs) {σ : L2.St} {H : Hp} {Q : VK} {io : Io} {A : Hd} {ro : Env} (st : Sta K ct ro A io σ H) {k : List D → Hd → R D}
    (p : Post K ct (DR K ct) W σ io H ((fi ro A).bind fun s A1 => (compD s pt vs tt te ro s.items [] A1).bind k) Q)
    (fin : ∀ (io2 io3 : Io) H2 A2 p ws ds, io3.nm = io2.nm → io3.hd = p :: io2.hd → HR K ct io3 H2 A2 → H2 p = some (.lst ws) → DRs K ct io3 H2 ws ds → HR K ct io2 H2 A2 → p ∉ io2 → Post K ct (DR K ct) W σ io2 H2 (k ds A2) Q → Q (.ref p) H2) :
    tLc (tI K ct W fi) (pt.g K) (tT K ct W0 tt) (tD K ct W0 te) vs σ H Q := by
  refine ⟨io, A, ro, st, (p.bind (rep := WalkR K ct)).mono ?_⟩
  rintro J H1 ⟨io1, A1, sr, e1, h1, wk, p1⟩ q hq
  have en1 : EnvR K ct io1 H1 ro σ := st.env.mono e1 st.hr.noT
  have x0 : Ext io1 H1 (io1.hold q) (upd H1 q (.lst [])) := Ext.hold hq
  have hqn : q ∉ io1 := h1.ne hq
  refine ⟨fun i m H => ∃ io2 A2 ws acc, io2.hd = q :: io1.hd ∧ Ext io1 H1 io2 H ∧ HR K ct io2 H A2 ∧ H q = some (.lst ws) ∧ DRs K ct io2 H ws acc ∧ i + m = sr.items.length ∧ Post K ct (DR K ct) W σ io1 H1 ((compD sr pt vs tt te ro (sr.items.drop i) acc A2).bind k) Q,
    ⟨sr.items.length, io1.hold q, A1, [], [], rfl, x0, h1.hold hq, upd_same, .nil, Nat.zero_add _, p1⟩, ?_⟩
  rintro i m H2 ⟨io2, A2, ws, acc, hhd, e2, h2, hw, hr, hm, p2⟩
  have hq2 : q ∈ io2.hd := by rw [hhd]; exact List.mem_cons_self
  cases hd : sr.items.drop i with
  | nil =>
    rw [hd] at p2
    unfold compD at p2
    split at p2
    · rename_i hh
      have hl : sr.items.length ≤ i := by
        have := congrArg List.length hd
        rw [List.length_drop] at this
        simp at this
        omega
      have sub : ∀ a ∈ io1.hd, a ∈ io2.hd := fun a ha => by rw [hhd]; exact List.mem_cons_of_mem _ ha
      refine .inl ⟨(wk io2 H2 A2 e2 h2 hh).2 i hl, ?_⟩
      refine fin ⟨io2.nm, io1.hd⟩ io2 H2 A2 q ws acc rfl hhd h2 hw hr (h2.free rfl sub) (fun z => ?_) (Post.ext (e2.free rfl (fun _ h => h) sub) p2)
      rcases z with z | z
      · exact (h2.hid q hq2).1 z
      · exact hqn (.inr z)
    · exact p2.elim
  | cons d ds =>
    rw [hd] at p2
    unfold compD at p2
    split at p2
    · rename_i hh
      have hx : sr.items[i]? = some d := by
        have := congrArg (fun l => l[0]?) hd
        simpa using this
      have hds : sr.items.drop (i + 1) = ds := by
        have := congrArg (List.drop 1) hd
        simpa [List.drop_drop, Nat.add_comm] using this
      obtain ⟨hgo, hy⟩ := (wk io2 H2 A2 e2 h2 hh).1 i d hx
      have hil : i < sr.items.length := (List.getElem?_eq_some_iff.mp hx).1
      refine .inr ⟨hgo, fun H' => ∃ io3 A3 ws acc, io3.hd = q :: io1.hd ∧ Ext io1 H1 io3 H' ∧ HR K ct io3 H' A3 ∧ H' q = some (.lst ws) ∧ DRs K ct io3 H' ws acc ∧ Post K ct (DR K ct) W σ io1 H1 ((compD sr pt vs tt te ro ds acc A3).bind k) Q,
        fun H' ⟨io3, A3, ws, acc, g1, g2, g3, g4, g5, g6⟩ => ⟨m - 1, by omega, io3, A3, ws, acc, g1, g2, g3, g4, g5, by omega, by rw [hds]; exact g6⟩, fun x H3 yy => ?_⟩
      obtain ⟨x1, x2, x3⟩ := hy x H3 yy
      have e3 := e2.trans x1
      have hw3 : H3 q = some (.lst ws) := x1.keep q _ hw (h2.hid q hq2).1
      have hr3 := hr.mono x1 h2.noT
      split at p2
      · rename_i ro1 hput
        refine Pat.take (K := K) hs ((en1.mono e3 h1.noT).wipe vs) x3 hput fun σ2 he hσ => ⟨hσ, ?_⟩
        rw [R.bind_assoc] at p2
        refine ⟨io2, A2, ro1, ⟨x2, he⟩, (Post.calm (rep := repB) p2).mono ?_⟩
        rintro b H4 ⟨io4, A4, b', e4, h4, rb, p4⟩
        rw [show b = b' from rb]
        have e14 := e3.trans e4
        cases b' with
        | false =>
          have s4 : ∀ a ∈ (q :: io1.hd), a ∈ io4.hd := fun a ha => e4.hd1 a (by rw [hhd]; exact ha)
          have f4 : Ext io1 H1 ⟨io4.nm, q :: io1.hd⟩ H4 := e14.free rfl (fun a ha => List.mem_cons_of_mem _ ha) s4
          exact ⟨⟨io4.nm, q :: io1.hd⟩, A4, ws, acc, rfl, f4, h4.free rfl s4, e4.keep q _ hw3 (h2.hid q hq2).1, DRs.free (io := io4) (io' := ⟨io4.nm, q :: io1.hd⟩) rfl s4 (hr3.mono e4 x2.noT), p4⟩
        | true =>
          have p4 : Post K ct (DR K ct) W σ io1 H1 (((te ro1 A4).calm.bind fun y A2 => if acc.length < sizeLine then compD sr pt vs tt te ro ds (acc ++ [y]) A2 else .stk).bind k) Q := p4
          rw [R.bind_assoc] at p4
          refine ⟨io4, A4, ro1, ⟨h4, he.mono e4 x2.noT⟩, (Post.calm (rep := DR K ct) p4).mono ?_⟩
          rintro y H5 ⟨io5, A5, dy, e5, h5, ry, p5⟩
          have e45 := e4.trans e5
          have hw5 : H5 q = some (.lst ws) := e45.keep q _ hw3 (h2.hid q hq2).1
          split at p5
          · rename_i hz
            refine ⟨ws, hw5, by rw [hr.length]; exact hz, ?_⟩
            have s5 : ∀ a ∈ (q :: io1.hd), a ∈ io5.hd := fun a ha => e45.hd1 a (by rw [hhd]; exact ha)
            have hq5 : q ∈ io5.hd := s5 q List.mem_cons_self
            have f5 : Ext io1 H1 ⟨io5.nm, q :: io1.hd⟩ (upd H5 q (.lst (ws ++ [y]))) := ((e3.trans e45).stepNew hq ⟨_, hw5⟩).free rfl (fun a ha => List.mem_cons_of_mem _ ha) s5
            refine ⟨⟨io5.nm, q :: io1.hd⟩, A5, ws ++ [y], acc ++ [dy], rfl, f5, (h5.step hq5 hw5).free rfl s5, upd_same, ?_, p5⟩
            exact DRs.free (io := io5) (io' := ⟨io5.nm, q :: io1.hd⟩) rfl s5 ((((hr3.mono e4 x2.noT).mono e5 h4.noT).append (.cons ry .nil)).step hq5 hw5)
          · exact p5.elim
      · exact p2.elim
    · exact p2.elim
theorem pd_comp {fi : IF} {pt : Pat} {tt : TF} {te : EF} {elt tg iter : Expr} {ifs : List Expr} {scope : Scope} {own : List (Str × Nat)} (hc : X.calm = true) (hN : X.N.Nodup) (hi : PID X ct W tg iter fi) (ok : BlkOk X.N X.env.scope scope own) (hs' : ∀ i ∈ pt.slots, i ∈ own.map (·.2))
    (hg : ∀ (s : Shared) (H : Hp) (C : Addr) (cl : List (Str × Addr)) (fp : List Addr), PG (X.blk s H scope (compEnvC scope cl C X.env) fp) tg (pt.g X.K)) (ht : ∀ (s : Shared) (H : Hp) (C : Addr) (cl : List (Str × Addr)) (fp : List Addr), PTs (X.blk s H scope (compEnvC scope cl C X.env) fp) ifs (tT X.K ct W0 tt))
    (he : ∀ (s : Shared) (H : Hp) (C : Addr) (cl : List (Str × Addr)) (fp : List Addr), PD (X.blk s H scope (compEnvC scope cl C X.env) fp) ct W0 elt te) (hs : ∀ x, foldedSetIterable iter X.env x = pure x := by intro _; rfl) :
    PD X ct W (.ListComp elt [⟨tg, iter, ifs, 0⟩] scope pos) (eComp fi pt (own.map (·.2)) tt te) :=
  pe_mono (pe_lc hc hN hi ok hg ht he hs) fun σ H Q ⟨io, A, ro, s, p⟩ =>
    comp_D hs' s p fun io2 io3 H2 A2 p ws ds g1 g2 g3 g4 g5 g6 g7 g8 => g8.here g6 (.lst g7 g4 (g5.free g1.symm fun a ha => by rw [g2]; exact List.mem_cons_of_mem _ ha))
theorem psd_setComp {fi : IF} {pt : Pat} {tt : TF} {te : EF} {i : Nat} {y : Str} {py spos : Pos} {elt tg iter : Expr} {ifs : List Expr} {scope : Scope} {own : List (Str × Nat)} (hc : X.calm = true) (hN : X.N.Nodup) (hy : X.N[i]? = some y) (hyl : X.env.scope.names.lookup y = some .local)
    (hsw : swapsWith (.ListComp elt [⟨tg, iter, ifs, 0⟩] scope pos) (some (.Name y py)) spos.line X.env = pure true) (hi : PID X ct W tg iter fi) (ok : BlkOk X.N X.env.scope scope own) (hs' : ∀ i ∈ pt.slots, i ∈ own.map (·.2))
    (hg : ∀ (s : Shared) (H : Hp) (C : Addr) (cl : List (Str × Addr)) (fp : List Addr), PG (X.blk s H scope (compEnvC scope cl C X.env) fp) tg (pt.g X.K)) (ht : ∀ (s : Shared) (H : Hp) (C : Addr) (cl : List (Str × Addr)) (fp : List Addr), PTs (X.blk s H scope (compEnvC scope cl C X.env) fp) ifs (tT X.K ct W0 tt))
    (he : ∀ (s : Shared) (H : Hp) (C : Addr) (cl : List (Str × Addr)) (fp : List Addr), PD (X.blk s H scope (compEnvC scope cl C X.env) fp) ct W0 elt te) (hs : ∀ x, foldedSetIterable iter X.env x = pure x := by intro _; rfl) :
    PSD X ct W (.Assign [.Name y py] (.ListComp elt [⟨tg, iter, ifs, 0⟩] scope pos) spos) (sAsg (eComp fi pt (own.map (·.2)) tt te) (gNm i)) :=
  ps_mono (ps_setLc hc hN hy hyl hsw hi ok hg ht he hs) fun Z σ H ⟨io, A, ro, s, p⟩ => by
    have p' : Post X.K ct (DR X.K ct) W σ io H (eComp fi pt (own.map (·.2)) tt te ro A) (fun x H1 => Z.nx (σ.set i (some x)) H1) :=
      (Post.then (rep := DR X.K ct) s p).mono fun v H1 ⟨io1, A1, d, e1, s1, r, q⟩ => q _ io1 H1 Ext.refl ⟨s1.hr, s1.env.set r⟩
    exact comp_D hs' s p' fun io2 io3 H2 A2 p ws ds g1 g2 g3 g4 g5 g6 g7 g8 => g8.here g6 (.lst g7 g4 (g5.free g1.symm fun a ha => by rw [g2]; exact List.mem_cons_of_mem _ ha))
theorem ptsd_nil : PTs X [] (tT X.K ct W ttYes) := ⟨fun pins s σ H Q I ⟨io, A, ro, st, p⟩ => pts_nil.run pins s σ H Q I (p.here st.hr rfl)⟩
theorem ptsd_one {c : Expr} (h : PDt X ct W c ft) : PTs X [c] (tT X.K ct W ft) := pts_one h
end
end DV

set_option Elab.async false
set_option linter.all false
set_option maxRecDepth 100000
/-! DvJ: what is walked; op=; methods of lists; defs by their functions on data. -/
namespace DV
open PySem PySem.Spec PyProof.Rows L2

/-! ### what is walked -/
def charsD (x : Str) : List D := x.cps.toList.map fun c => .str ⟨#[c]⟩
def srcD (d : D) (A : Hd) : Option Src := match d with
  | .tup ds => some (.fix ds)
  | .lst ds => some (.fix ds)
  | .scr ds => some (.fix ds)
  | .str x => some (.fix (charsD x))
  | .ref n => match A[n]? with
    | some (.lst ds) => some (.num n ds)
    | _ => none
  | _ => none
def iSeq (a : EF) : IF := fun ro A => (a ro A).bind fun d A1 => match srcD d A1 with
  | some s => .ok s A1
  | none => .stk
def rangeD (lo : Int) (n : Nat) : List D := (List.range n).map fun i => .int (lo + (i : Nat))
def iRange1 (a : AF) : IF := fun ro A => (a ro A).bind fun ds A1 => match ds with
  | [.int j] => if -(2 ^ 62) ≤ j ∧ j < 2 ^ 62 then .ok (.fix (rangeD 0 j.toNat)) A1 else .stk
  | _ => .stk
def iRange2 (a : AF) : IF := fun ro A => (a ro A).bind fun ds A1 => match ds with
  | [.int i, .int j] => if -(2 ^ 62) ≤ i ∧ i < 2 ^ 62 ∧ -(2 ^ 62) ≤ j ∧ j < 2 ^ 62 then .ok (.fix (rangeD i (j - i).toNat)) A1 else .stk
  | _ => .stk
def enumD (ds : List D) : List D := ds.zipIdx.map fun p => .tup [.int (p.2 : Nat), p.1]
def Src.enum : Src → Src
  | .fix ds => .fix (enumD ds)
  | .num n ds => .num n ds
section
variable {K : PySem.W.Frag} {ct : String → Addr} {W : WX} {σ : L2.St} {io io' : Io} {H H' : Hp} {A A' : Hd} {ro : Env}
theorem walkL {a : Addr} {s : Src} (hs : ∀ io2 H2 A2, Ext io H io2 H2 → HR K ct io2 H2 A2 → s.here A2 → ∃ xs, SqL K H2 a xs ∧ DRs K ct io2 H2 xs s.items) : WalkR K ct io H (Itl K a) s := by
  intro io2 H2 A2 e h hh
  obtain ⟨xs, q, rs⟩ := hs io2 H2 A2 e h hh
  refine ⟨fun i d hd => ?_, fun i hi => ⟨xs, q, by rw [rs.length]; exact hi⟩⟩
  obtain ⟨v, h1, h2⟩ := rs.get hd
  refine ⟨⟨xs, v, q, h1⟩, fun x H3 y => ?_⟩
  obtain ⟨rfl, y⟩ := y
  have e1 := y xs q
  rw [h1] at e1
  cases e1
  exact ⟨Ext.refl, h, h2⟩
theorem walkT {a : Addr} {s : Src} (hs : ∀ io2 H2 A2, Ext io H io2 H2 → HR K ct io2 H2 A2 → s.here A2 → ∃ xs, SqT K H2 a xs ∧ DRs K ct io2 H2 xs s.items) : WalkR K ct io H (Itt K a) s := by
  intro io2 H2 A2 e h hh
  obtain ⟨xs, q, rs⟩ := hs io2 H2 A2 e h hh
  refine ⟨fun i d hd => ?_, fun i hi => ⟨xs, q, by rw [rs.length]; exact hi⟩⟩
  obtain ⟨v, h1, h2⟩ := rs.get hd
  refine ⟨⟨xs, v, q, h1⟩, fun x H3 y => ?_⟩
  obtain ⟨rfl, y⟩ := y
  have e1 := y xs q
  rw [h1] at e1
  cases e1
  exact ⟨Ext.refl, h, h2⟩
theorem walkR {lo : Int} {n : Nat} : WalkR K ct io H (Itr lo n) (.fix (rangeD lo n)) := by
  intro io2 H2 A2 e h _
  refine ⟨fun i d hd => ?_, fun i hi => (show n ≤ i from (by simpa [Src.items, rangeD] using hi : n ≤ i))⟩
  have hi : i < n := by
    have := (List.getElem?_eq_some_iff.mp hd).1
    simpa [Src.items, rangeD] using this
  have ed : d = .int (lo + (i : Nat)) := by
    have : (rangeD lo n)[i]? = some d := hd
    unfold rangeD at this
    rw [List.getElem?_map, List.getElem?_range hi] at this
    exact (Option.some.inj this).symm
  refine ⟨hi, fun x H3 y => ?_⟩
  obtain ⟨rfl, rfl⟩ := y
  rw [ed]
  exact ⟨Ext.refl, h, .int _⟩
theorem walkS {x : Str} : WalkR K ct io H (Its x) (.fix (charsD x)) := by
  intro io2 H2 A2 e h _
  refine ⟨fun i d hd => ?_, fun i hi => (show x.cps.size ≤ i from (by simpa [Src.items, charsD] using hi : x.cps.size ≤ i))⟩
  have hd' : (charsD x)[i]? = some d := hd
  unfold charsD at hd'
  rw [List.getElem?_map] at hd'
  cases hc : x.cps.toList[i]? with
  | none => rw [hc] at hd'; cases hd'
  | some c =>
    rw [hc] at hd'
    cases hd'
    have hc' : x.cps[i]? = some c := by rw [← Array.getElem?_toList]; exact hc
    refine ⟨(Array.getElem?_eq_some_iff.mp hc').1, fun v H3 y => ?_⟩
    obtain ⟨rfl, c', h1, rfl⟩ := y
    rw [hc'] at h1
    cases h1
    exact ⟨Ext.refl, h, .str _⟩
/-- a list under its value: read at each later state -/
theorem list_later {v : V} {d : D} {s : Src} (hr : HR K ct io H A) (r : DR K ct io H v d) (e : srcD d A = some s) (hl : asR A d = some s.items) :
    ∃ a, v = .ref a ∧ (∃ xs, SqL K H a xs) ∧ ∀ io2 H2 A2, Ext io H io2 H2 → HR K ct io2 H2 A2 → s.here A2 → ∃ xs, SqL K H2 a xs ∧ DRs K ct io2 H2 xs s.items := by
  obtain ⟨a, xs, rfl, hs, rs⟩ := asR_ok hr r hl
  refine ⟨a, rfl, ⟨xs, hs⟩, fun io2 H2 A2 x h2 hh => ?_⟩
  cases d with
  | lst ds => cases e; obtain ⟨b, ys, e1, q, rs⟩ := asR_ok h2 (r.mono x hr.noT) (ds := ds) rfl; cases e1; exact ⟨ys, q, rs⟩
  | scr ds => cases e; obtain ⟨b, ys, e1, q, rs⟩ := asR_ok h2 (r.mono x hr.noT) (ds := ds) rfl; cases e1; exact ⟨ys, q, rs⟩
  | ref n =>
    unfold srcD at e
    dsimp only at e
    cases hm : A[n]? with
    | none => rw [hm] at e; cases e
    | some m =>
      rw [hm] at e
      cases m with
      | lst ds =>
        cases e
        have hh : A2[n]? = some (.lst ds) := hh
        obtain ⟨b, ys, e1, q, rs⟩ := asR_ok h2 (r.mono x hr.noT) (ds := ds) (by unfold asR asL; dsimp only; rw [hh])
        cases e1
        exact ⟨ys, q, rs⟩
      | dic es => cases e
      | ins c fs => cases e
  | _ => cases hl
end
section
variable {X : Cx} {ct : String → Addr} {W : WX} {e a b tg : Expr} {pos : Pos} {fa fb : EF} {ft fu : TF} {fl : AF}
theorem srcD_asR {d : D} {A : Hd} {s : Src} (e : srcD d A = some s) (h1 : ∀ ds, d ≠ .tup ds) (h2 : ∀ x, d ≠ .str x) : asR A d = some s.items := by
  cases d with
  | tup ds => exact absurd rfl (h1 ds)
  | str x => exact absurd rfl (h2 x)
  | lst ds => cases e; rfl
  | scr ds => cases e; rfl
  | ref n =>
    unfold srcD at e
    dsimp only at e
    cases hm : A[n]? with
    | none => rw [hm] at e; cases e
    | some m =>
      rw [hm] at e
      cases m with
      | lst ds => cases e; unfold asR asL; dsimp only; rw [hm]; rfl
      | dic es => cases e
      | ins c fs => cases e
  | _ => cases e
theorem pid_seq (ha : PD X ct W e fa) : PID X ct W tg e (iSeq fa) := by
  refine ⟨fun pins s σ H Rk I h => ?_⟩
  obtain ⟨io, A, ro, st, p⟩ := h
  unfold iSeq at p
  by_cases ht : ∃ ds A1, fa ro A = .ok (.tup ds) A1
  · obtain ⟨ds, A1, q⟩ := ht
    rw [q, R.bind_ok] at p
    refine (pi_tup ha).run pins s σ H Rk I ⟨io, A, ro, st, ?_⟩
    rw [q]
    intro v io1 H1 e1 h1 r
    cases r with
    | @tup a xs _ hs rs =>
      refine ⟨a, rfl, ⟨xs, hs⟩, p _ io1 H1 e1 h1 (walkT fun io2 H2 A2 x h2 _ => ⟨xs, SqT.ext x h1.noT hs, rs.mono x h1.noT⟩)⟩
  by_cases hx : ∃ x A1, fa ro A = .ok (.str x) A1
  · obtain ⟨x, A1, q⟩ := hx
    rw [q, R.bind_ok] at p
    refine (pi_str ha).run pins s σ H Rk I ⟨io, A, ro, st, ?_⟩
    rw [q]
    intro v io1 H1 e1 h1 r
    cases r with
    | str x => exact ⟨x, rfl, p _ io1 H1 e1 h1 walkS⟩
  refine (pi_list ha).run pins s σ H Rk I ⟨io, A, ro, st, ?_⟩
  cases q : fa ro A with
  | stk => rw [q] at p; exact p
  | err c fs A1 => rw [q] at p; exact p
  | ok d A1 =>
    rw [q, R.bind_ok] at p
    cases hs : srcD d A1 with
    | none => rw [hs] at p; exact p.elim
    | some sr =>
      rw [hs] at p
      intro v io1 H1 e1 h1 r
      obtain ⟨a, rfl, hx1, later⟩ := list_later h1 r hs (srcD_asR hs (fun ds z => ht ⟨ds, A1, by rw [q, z]⟩) fun x z => hx ⟨x, A1, by rw [q, z]⟩)
      exact ⟨a, rfl, hx1, p _ io1 H1 e1 h1 (walkL later)⟩
theorem pid_range1 {p : Pos} (hg : Gl X "range") (hm : X.mg "range" = none) (ha : PDa X ct W [a] fl) (hs : starEach [a] X.env = [(false, eval a X.env)] := by rfl) : PID X ct W tg (.Call (.Name "range" p) [a] [] pos) (iRange1 fl) :=
  pi_mono (pi_range1 hg hm ha hs) fun σ H Q ⟨io, A, ro, st, p⟩ => ⟨io, A, ro, st, (p.bind (rep := DRs X.K ct)).mono fun vs H1 ⟨io1, A1, ds, e1, h1, rs, p1⟩ => by
    split at p1
    · rename_i j
      split at p1
      · rename_i hb
        cases rs with
        | cons r rs => cases rs; cases r; exact ⟨j, rfl, hb.1, hb.2, p1 _ io1 H1 Ext.refl h1 walkR⟩
      · exact p1.elim
    · exact p1.elim⟩
theorem pid_range2 {p : Pos} (hg : Gl X "range") (hm : X.mg "range" = none) (ha : PDa X ct W [a, b] fl) (hs : starEach [a, b] X.env = [(false, eval a X.env), (false, eval b X.env)] := by rfl) (hs2 : starEach [b] X.env = [(false, eval b X.env)] := by rfl) :
    PID X ct W tg (.Call (.Name "range" p) [a, b] [] pos) (iRange2 fl) :=
  pi_mono (pi_range2 hg hm ha hs hs2) fun σ H Q ⟨io, A, ro, st, p⟩ => ⟨io, A, ro, st, (p.bind (rep := DRs X.K ct)).mono fun vs H1 ⟨io1, A1, ds, e1, h1, rs, p1⟩ => by
    split at p1
    · rename_i i j
      split at p1
      · rename_i hb
        cases rs with
        | cons r rs => cases rs with
          | cons r2 rs => cases rs; cases r; cases r2; exact ⟨i, j, rfl, hb, p1 _ io1 H1 Ext.refl h1 walkR⟩
      · exact p1.elim
    · exact p1.elim⟩

/-! ### name op= e -/
def sAug (i : Nat) (g : D → D → Hd → R D) (a : EF) : SF := fun ro A => match ro[i]? with
  | some (some x) => (a ro A).then ro fun y A1 => (g x y A1).then ro fun z A2 => .go .nx (ro.set i (some z)) A2
  | _ => .stk
theorem psd_aug {i : Nat} {x : Str} {op : Operator} {r : V → V → Hp → VK → Prop} {g : D → D → Hd → R D} {pos' : Pos} (hN : X.N.Nodup) (hi : X.N[i]? = some x) (hx : Loc X.env.scope x) (ha : PD X ct W e fa) (hop : PIp X op r) (o : OpD X.K ct r g)
    (hf : X.fn x = true ∨ X.env.scope.names.lookup x = some .local := by first | exact .inl rfl | exact .inr rfl | assumption) : PSD X ct W (.AugAssign (.Name x pos') op e pos) (sAug i g fa) :=
  ps_mono (ps_aug hN hi hx ha hop hf) fun Z σ H ⟨io, A, ro, s, p⟩ => by
    unfold sAug at p
    split at p
    · rename_i d hd
      obtain ⟨v, hv, rv⟩ := s.env.at_ i d hd
      refine ⟨v, hv, io, A, ro, s, (Post.then (rep := DR X.K ct) s p).mono fun y H1 ⟨io1, A1, dy, e1, s1, ry, q⟩ => ?_⟩
      exact o W σ io1 H1 A1 v y d dy _ s1.hr (rv.mono e1 s.hr.noT) ry ((Post.then (rep := DR X.K ct) s1 q).mono fun z H2 ⟨io2, A2, dz, e2, s2, rz, q2⟩ => q2 _ io2 H2 Ext.refl ⟨s2.hr, s2.env.set rz⟩)
    · exact p.elim
abbrev rIpI (g : Int → Int → Int) : V → V → Hp → VK → Prop := ipI g
def gAddI (d e : D) (A : Hd) : R D := match d, e with
  | .int i, .int j => .ok (.int (i + j)) A
  | _, _ => .stk
theorem gAddI_ok {K : PySem.W.Frag} : OpD K ct (ipI fun i j => i + j) gAddI := by
  intro W σ io H A x y d e Q h rx ry p
  unfold gAddI at p
  split at p
  · cases rx; cases ry
    exact ⟨_, _, rfl, rfl, p.here h (.int _)⟩
  · exact p.elim
theorem gSubI_ok {K : PySem.W.Frag} : OpD K ct (ipI fun i j => i - j) gSub := by
  intro W σ io H A x y d e Q h rx ry p
  unfold gSub at p
  split at p
  · cases rx; cases ry
    exact ⟨_, _, rfl, rfl, p.here h (.int _)⟩
  · exact p.elim

/-! ### o.m(..) of a list -/
def isL (A : Hd) (d : D) : Bool := (asR A d).isSome
def eMeth (chk : Hd → D → Bool) (g : D → List D → Hd → R D) (o : EF) (a : AF) : EF := fun ro A => (o ro A).bind fun x A1 => if chk A1 x then (a ro A1).bind fun ds A2 => g x ds A2 else .stk
def MeD (K : PySem.W.Frag) (ct : String → Addr) (r : V → List V → Hp → VK → Prop) (g : D → List D → Hd → R D) : Prop := ∀ (W : WX) σ io H A v x vs ds Q, HR K ct io H A → DR K ct io H v x → DRs K ct io H vs ds → Post K ct (DR K ct) W σ io H (g x ds A) Q → r v vs H Q
theorem meth_D {K : PySem.W.Frag} {T : String} {r : V → List V → Hp → VK → Prop} {g : D → List D → Hd → R D} {chk : Hd → D → Bool} {fo : EF} (o : MeD K ct r g) (hc : ∀ io H A v x, HR K ct io H A → DR K ct io H v x → chk A x = true → tyV K T v H) {σ : L2.St} {H : Hp} {Q : VK} (h : tD K ct W (eMeth chk g fo fl) σ H Q) :
    tBM K T r (tD K ct W fo) (tL K ct W fl) σ H Q := by
  obtain ⟨io, A, ro, s, p⟩ := h
  refine ⟨io, A, ro, s, (p.bind (rep := DR K ct)).mono ?_⟩
  rintro v H1 ⟨io1, A1, x, e1, h1, r1, p1⟩
  split at p1
  · rename_i hk
    refine ⟨hc _ _ _ _ _ h1 r1 hk, io1, A1, ro, s.mono e1 h1, (p1.bind (rep := DRs K ct)).mono ?_⟩
    rintro vs H2 ⟨io2, A2, ds, e2, h2, r2, p2⟩
    exact o W σ io2 H2 A2 v x vs ds Q h2 (r1.mono e2 h1.noT) r2 p2
  · exact p1.elim
theorem isL_ok {K : PySem.W.Frag} : ∀ io H A v x, HR K ct io H A → DR K ct io H v x → isL A x = true → tyV K "list" v H := by
  intro io H A v x h r e
  unfold isL at e
  obtain ⟨ds, hd⟩ := Option.isSome_iff_exists.mp e
  obtain ⟨a, xs, rfl, q, _⟩ := asR_ok h r hd
  exact .inl ⟨rfl, xs, q⟩
def gAppend (x : D) (ds : List D) (A : Hd) : R D := match numL A x, ds with
  | some (n, es), [d] => if es.length < sizeLine then .ok .non (A.set n (.lst (es ++ [d]))) else .stk
  | _, _ => .stk
theorem gAppend_ok {K : PySem.W.Frag} : MeD K ct rAppend gAppend := by
  intro W σ io H A v x vs ds Q h r rs p
  unfold gAppend at p
  split at p
  · rename_i n es d hn
    split at p
    · rename_i hz
      obtain ⟨a, xs, rfl, rfl, hio, hH, rx⟩ := numL_ok h r hn
      cases rs with
      | @cons y _ _ _ ry rs =>
        cases rs
        have x1 := h.extW (o := .lst (xs ++ [y])) hio
        exact ⟨a, xs, y, rfl, rfl, hH, by rw [rx.length]; exact hz, p _ io _ x1 (h.write hio ⟨_, upd_same, (rx.append (.cons ry .nil)).mono x1 h.noT⟩) .non⟩
    · exact p.elim
  · exact p.elim
def gPopAt (x : D) (ds : List D) (A : Hd) : R D := match numL A x, ds with
  | some (n, es), [.int i] => if 0 ≤ i ∧ i < 2 ^ 63 then (match es[i.toNat]? with
    | some y => .ok y (A.set n (.lst (es.eraseIdx i.toNat)))
    | none => .stk) else .stk
  | _, _ => .stk
theorem gPopAt_ok {K : PySem.W.Frag} : MeD K ct rPopAt gPopAt := by
  intro W σ io H A v x vs ds Q h r rs p
  unfold gPopAt at p
  split at p
  · rename_i n es i hn
    split at p
    · rename_i hz
      split at p
      · rename_i y hy
        obtain ⟨a, xs, rfl, rfl, hio, hH, rx⟩ := numL_ok h r hn
        cases rs with
        | cons ri rs =>
          cases rs
          cases ri
          obtain ⟨vy, hv, ry⟩ := rx.get hy
          have hlt : i.toNat < xs.length := (List.getElem?_eq_some_iff.mp hv).1
          have x1 := h.extW (o := .lst (xs.eraseIdx i.toNat)) hio
          refine ⟨a, xs, i, i.toNat, vy, rfl, rfl, hH, by omega, hz.2, seqIndex_of hz.1 (by omega), hv, ?_⟩
          exact p _ io _ x1 (h.write hio ⟨_, upd_same, (rx.eraseIdx _).mono x1 h.noT⟩) (ry.mono x1 h.noT)
      · exact p.elim
    · exact p.elim
  · exact p.elim
end
end DV

set_option Elab.async false
set_option linter.all false
set_option maxRecDepth 100000
/-! DvK: a def's promise by a function on data; its body; its calls. -/
namespace DV
open PySem PySem.Spec PyProof.Rows L2

abbrev FF := List D → Hd → R D
/-- the promise: n arguments, the function F -/
def spD (K : PySem.W.Frag) (ct : String → Addr) (n : Nat) (F : FF) : Sp := fun vs H Q E => ∃ io A ds, vs.length = n ∧ HR K ct io H A ∧ DRs K ct io H vs ds ∧ Post K ct (DR K ct) (fun cls dd _ H' => E cls dd H') [] io H (F ds A) Q

mutual
/-- every number within is below n -/
def D.lt (n : Nat) : D → Bool
  | .tup ds => D.lts n ds
  | .lst ds => D.lts n ds
  | .scr ds => D.lts n ds
  | .dic es => D.ltk n es
  | .ref k => decide (k < n)
  | _ => true
def D.lts (n : Nat) : List D → Bool
  | [] => true
  | d :: ds => D.lt n d && D.lts n ds
def D.ltk (n : Nat) : List (Key × D) → Bool
  | [] => true
  | (_, d) :: es => D.lt n d && D.ltk n es
end
theorem D.lts_all (n : Nat) : ∀ ds : List D, D.lts n ds = ds.all (D.lt n)
  | [] => by simp [D.lts]
  | d :: ds => by simp [D.lts, D.lts_all n ds]
theorem D.ltk_all (n : Nat) : ∀ es : List (Key × D), D.ltk n es = D.lts n (es.map (·.2))
  | [] => by simp [D.lts, D.ltk]
  | (k, d) :: es => by simp [D.lts, D.ltk, D.ltk_all n es]
def M.lt (n : Nat) : M → Bool
  | .lst ds => D.lts n ds
  | .dic es => D.ltk n es
  | .ins _ fs => D.lts n (fs.map (·.2))

section
variable {K : PySem.W.Frag} {ct : String → Addr} {W : WX} {σ : L2.St} {io io' : Io} {H H' : Hp} {A A' : Hd} {ro : Env}
def Io.cut (io : Io) (n : Nat) : Io := ⟨io.nm.take n, io.hd⟩
theorem Io.cut_mem {io : Io} {n : Nat} {a : Addr} (h : a ∈ io.cut n) : a ∈ io := h.elim (fun z => .inl (List.mem_of_mem_take z)) .inr
mutual
theorem DR.lop {n : Nat} : ∀ {v : V} {d : D}, DR K ct io H v d → d.lt n = true → DR K ct (io.cut n) H v d
  | _, _, .non, _ => .non
  | _, _, .bl b, _ => .bl b
  | _, _, .int i, _ => .int i
  | _, _, .str x, _ => .str x
  | _, _, .tup h hs, e => .tup h (DRs.lop hs (by simpa [D.lt] using e))
  | _, _, .lst n h hs, e => .lst (fun z => n (Io.cut_mem z)) h (DRs.lop hs (by simpa [D.lt] using e))
  | _, _, .scr h hs, e => .scr (h.elim (fun ⟨n, q⟩ => .inl ⟨fun z => n (Io.cut_mem z), q⟩) .inr) (DRs.lop hs (by simpa [D.lt] using e))
  | _, _, .dic n h k hs, e => .dic (fun z => n (Io.cut_mem z)) h k (DRs.lop hs (by simpa [D.lt, D.ltk_all] using e))
  | _, _, .ref (n := j) h, e => .ref (by
      have h2 : j < n := by simpa [D.lt] using e
      show (io.nm.take n)[j]? = _
      rw [List.getElem?_take_of_lt h2]; exact h)
  | _, _, .ty n, _ => .ty n
  | _, _, .own n, _ => .own n
theorem DRs.lop {n : Nat} : ∀ {vs : List V} {ds : List D}, DRs K ct io H vs ds → D.lts n ds = true → DRs K ct (io.cut n) H vs ds
  | _, _, .nil, _ => .nil
  | _, _, .cons h hs, e => by
    rw [D.lts, Bool.and_eq_true] at e
    have e' := e
    exact .cons (DR.lop h e'.1) (DRs.lop hs e'.2)
end
theorem MR.lop {n : Nat} {a : Addr} {m : M} (h : MR K ct io H a m) (e : m.lt n = true) : MR K ct (io.cut n) H a m := by
  cases m with
  | lst ds => obtain ⟨xs, q, r⟩ := h; exact ⟨xs, q, r.lop e⟩
  | dic es => obtain ⟨xs, q, k, r⟩ := h; exact ⟨xs, q, k, r.lop (by simpa [M.lt, D.ltk_all] using e)⟩
  | ins c fs => obtain ⟨dx, gs, q, k, r⟩ := h; exact ⟨dx, gs, q, k, r.lop e⟩
mutual
theorem DR.lt_of : ∀ {v : V} {d : D}, DR K ct io H v d → d.lt io.nm.length = true
  | _, _, .non => by simp [D.lt]
  | _, _, .bl b => by simp [D.lt]
  | _, _, .int i => by simp [D.lt]
  | _, _, .str x => by simp [D.lt]
  | _, _, .tup h hs => by simpa [D.lt] using DRs.lt_of hs
  | _, _, .lst n h hs => by simpa [D.lt] using DRs.lt_of hs
  | _, _, .scr h hs => by simpa [D.lt] using DRs.lt_of hs
  | _, _, .dic n h k hs => by simpa [D.lt, D.ltk_all] using DRs.lt_of hs
  | _, _, .ref h => by simpa [D.lt] using (List.getElem?_eq_some_iff.mp h).1
  | _, _, .ty n => by simp [D.lt]
  | _, _, .own n => by simp [D.lt]
theorem DRs.lt_of : ∀ {vs : List V} {ds : List D}, DRs K ct io H vs ds → D.lts io.nm.length ds = true
  | _, _, .nil => by simp [D.lts]
  | _, _, .cons h hs => by simp [D.lts, DR.lt_of h, DRs.lt_of hs]
end
theorem MR.lt_of {a : Addr} {m : M} (h : MR K ct io H a m) : m.lt io.nm.length = true := by
  cases m with
  | lst ds => obtain ⟨xs, q, r⟩ := h; exact r.lt_of
  | dic es => obtain ⟨xs, q, k, r⟩ := h; simpa [M.lt, D.ltk_all] using r.lt_of
  | ins c fs => obtain ⟨dx, gs, q, k, r⟩ := h; exact r.lt_of
theorem D.lt_le {n m : Nat} (h : n ≤ m) : ∀ {d : D}, d.lt n = true → d.lt m = true := by
  intro d
  refine D.rec (motive_1 := fun d => d.lt n = true → d.lt m = true) (motive_2 := fun ds => D.lts n ds = true → D.lts m ds = true) (motive_3 := fun es => D.ltk n es = true → D.ltk m es = true) (motive_4 := fun p => p.2.lt n = true → p.2.lt m = true) ?_ ?_ ?_ ?_ ?_ ?_ ?_ ?_ ?_ ?_ ?_ ?_ ?_ ?_ ?_ d
  all_goals (try (intros; simp [D.lt]; done))
  · intro ds ih e; simp only [D.lt] at e ⊢; exact ih e
  · intro ds ih e; simp only [D.lt] at e ⊢; exact ih e
  · intro ds ih e; simp only [D.lt] at e ⊢; exact ih e
  · intro ds ih e; simp only [D.lt] at e ⊢; exact ih e
  · intro k e; simp only [D.lt, decide_eq_true_eq] at e ⊢; omega
  · intro _; simp [D.lts]
  · intro d ds ih1 ih2 e; simp only [D.lts, Bool.and_eq_true] at e ⊢; exact ⟨ih1 e.1, ih2 e.2⟩
  · intro _; simp [D.ltk]
  · intro p es ih1 ih2 e; obtain ⟨k, d⟩ := p; simp only [D.ltk, Bool.and_eq_true] at e ⊢; exact ⟨ih1 e.1, ih2 e.2⟩
  · intro k d ih e; exact ih e
theorem HR.lop {n : Nat} (h : HR K ct io H A) (hm : ∀ k m, k < n → A[k]? = some m → m.lt n = true) : HR K ct (io.cut n) H (A.take n) := by
  refine ⟨h.nd.sublist (List.take_sublist _ _), by show (io.nm.take n).length = _; rw [List.length_take, List.length_take, h.len], fun k a m e1 e2 => ?_, fun a ha => ⟨fun z => (h.hid a ha).1 (List.mem_of_mem_take z), (h.hid a ha).2⟩⟩
  have hk : k < n := by
    have := (List.getElem?_eq_some_iff.mp e2).1
    rw [List.length_take] at this
    omega
  rw [List.getElem?_take_of_lt hk] at e2
  have e1 : (io.nm.take n)[k]? = some a := e1
  rw [List.getElem?_take_of_lt hk] at e1
  exact (h.at_ k a m e1 e2).lop (hm k m hk e2)
theorem Ext.lop {n : Nat} (x : Ext io H io' H') (hn : io.nm.length ≤ n) : Ext io H (io'.cut n) H' := by
  obtain ⟨more, e⟩ := x.pre
  refine ⟨⟨more.take (n - io.nm.length), ?_⟩, x.hd1, x.hd2, fun b h k => x.fresh b (List.mem_of_mem_take h) k, x.keep, x.there⟩
  show io'.nm.take n = _
  rw [e, List.take_append, List.take_of_length_le hn]

/-- the value that is handed back: a numbered list that is dropped stands by value -/
def frz (n : Nat) (A : Hd) (d : D) : Option D := if d.lt n = true then some d else match d with
  | .ref k => match A[k]? with
    | some (.lst ds) => if D.lts n ds = true then some (.lst ds) else none
    | some (.dic es) => if D.ltk n es = true then some (.dic es) else none
    | _ => none
  | _ => none
theorem frz_ok {n : Nat} {v : V} {d d' : D} (h : HR K ct io H A) (r : DR K ct io H v d) (e : frz n A d = some d') : DR K ct (io.cut n) H v d' := by
  unfold frz at e
  split at e
  · rename_i hl
    cases e
    exact r.lop hl
  · rename_i hl
    split at e
    · rename_i k
      cases r with
      | @ref a _ q =>
        have hk : ¬ k < n := by simpa [D.lt] using hl
        have na : a ∉ io.cut n := fun z => by
          rcases z with z | z
          · obtain ⟨j, hj, ej⟩ := List.getElem_of_mem (show a ∈ io.nm.take n from z)
            have hj' : j < n ∧ j < io.nm.length := by rw [List.length_take] at hj; omega
            rw [List.getElem_take] at ej
            obtain ⟨hk2, ek⟩ := List.getElem?_eq_some_iff.mp q
            have := (List.getElem_inj h.nd).mp (ej.trans ek.symm)
            omega
          · exact (h.hid a z).1 (List.mem_of_getElem? q)
        split at e
        · rename_i ds hm
          split at e
          · rename_i hc
            cases e
            obtain ⟨xs, q1, rs⟩ := h.get q hm
            exact .lst na q1 (rs.lop hc)
          · cases e
        · rename_i es hm
          split at e
          · rename_i hc
            cases e
            obtain ⟨xs, q1, k1, rs⟩ := h.get q hm
            exact .dic na q1 k1 (rs.lop (by rw [← D.ltk_all]; exact hc))
          · cases e
        · cases e
    · cases e

/-- how a body's end gives the function's result: all is kept, or the numbers from n on are dropped -/
def FinV (A : Hd) (d : D) (A' : Hd) (r : R D) : Prop :=
  r = .ok d A' ∨ ∃ n d', A.length ≤ n ∧ frz n A' d = some d' ∧ (∀ k m, k < n → A'[k]? = some m → A[k]? = some m ∨ m.lt n = true) ∧ r = .ok d' (A'.take n)
def FinOk (A : Hd) (o : Out) (r : R D) : Prop := match o with
  | .go (.ret d) _ A' => FinV A d A' r
  | .go .nx _ A' => FinV A .non A' r
  | .err c fs _ A' => r = .err c fs A' ∨ ∃ n, A.length ≤ n ∧ D.lts n (fs.map (·.2)) = true ∧ (∀ k m, k < n → A'[k]? = some m → A[k]? = some m ∨ m.lt n = true) ∧ r = .err c fs (A'.take n)
  | _ => False
theorem fin_cut {n : Nat} (h : HR K ct io H A) (x : Ext io H io' H') (h' : HR K ct io' H' A') (hn : A.length ≤ n) (hm : ∀ k m, k < n → A'[k]? = some m → A[k]? = some m ∨ m.lt n = true) : HR K ct (io'.cut n) H' (A'.take n) ∧ Ext io H (io'.cut n) H' := by
  refine ⟨h'.lop fun k m hk e => ?_, x.lop (by rw [h.len]; exact hn)⟩
  rcases hm k m hk e with q | q
  · have hl : k < io.nm.length := by rw [h.len]; exact (List.getElem?_eq_some_iff.mp q).1
    have mr := h.at_ k io.nm[k] m (List.getElem?_eq_getElem hl) q
    have := mr.lt_of
    cases m with
    | lst ds => simp only [M.lt] at this ⊢; rw [D.lts_all, List.all_eq_true] at this ⊢; exact fun d hd => D.lt_le (by rw [h.len]; exact hn) (this d hd)
    | dic es => simp only [M.lt] at this ⊢; rw [D.ltk_all, D.lts_all, List.all_eq_true] at this ⊢; exact fun d hd => D.lt_le (by rw [h.len]; exact hn) (this d hd)
    | ins c fs => simp only [M.lt] at this ⊢; rw [D.lts_all, List.all_eq_true] at this ⊢; exact fun d hd => D.lt_le (by rw [h.len]; exact hn) (this d hd)
  · exact q
theorem fin_ret {d : D} {r : R D} {v : V} {E : XK} {Q : VK} (h : HR K ct io H A) (x : Ext io H io' H') (h' : HR K ct io' H' A') (rv : DR K ct io' H' v d) (f : FinV A d A' r) (p : Post K ct (DR K ct) (fun cls dd _ H' => E cls dd H') [] io H r Q) : Q v H' := by
  rcases f with rfl | ⟨n, d', hn, hf, hm, rfl⟩
  · exact p v io' H' x h' rv
  · obtain ⟨g1, g2⟩ := fin_cut h x h' hn hm
    exact p v (io'.cut n) H' g2 g1 (frz_ok h' rv hf)
end

/-- the slots at the entry -/
def startD (N : Nat) (ds : List D) : Env := ds.map some ++ List.replicate (N - ds.length) none
theorem start_D {K : PySem.W.Frag} {ct : String → Addr} {io : Io} {H : Hp} {vs : List V} {ds : List D} {N : List Str} (r : DRs K ct io H vs ds) : EnvR K ct io H (startD N.length ds) (L2.start N vs) := by
  unfold startD L2.start
  refine ⟨by simp [r.length], fun i d e => ?_⟩
  by_cases hi : i < ds.length
  · rw [List.getElem?_append_left (by simpa using hi), List.getElem?_map] at e
    cases hd : ds[i]? with
    | none => rw [hd] at e; cases e
    | some d' =>
      rw [hd] at e
      have e' : d' = d := by simpa using e
      subst e'
      obtain ⟨v, hv, rv⟩ := r.get hd
      refine ⟨v, ?_, rv⟩
      rw [List.getElem?_append_left (by simpa [r.length] using hi), List.getElem?_map, hv]
      rfl
  · rw [List.getElem?_append_right (by simpa using hi), List.getElem?_replicate] at e
    split at e <;> cases e

section
variable {P : Program} {w : World} {K : PySem.W.Frag} {mg : Str → Option Value} {base : Heap} {ct : String → Addr}
/-- the context of a def's body -/
abbrev cxD (P : Program) (w : World) (K : PySem.W.Frag) (mg : Str → Option Value) (base : Heap) (N : List Str) (qual : Str) (st : Stmt) (f : Addr) (cdv : Value) (A : Around) (outer : List PySem.Env) (s : Shared) (H : Hp) (E : XK) : Cx :=
  cxOf (L2.CX P w) P w K mg base N qual (defScope st) f cdv A outer s H E
abbrev WD (E : XK) : WX := fun cls d _ H => E cls d H
/-- THE RULE for a def: its derivation fb, and that F is what the body gives -/
theorem okD {x qual : Str} {st : Stmt} {f : Addr} {fd : FuncData} {N ps : List Str} {k : Nat} {F : FF} {fb : SF} (Fn : Fun K x qual st f fd) (S : FnScope N ps (defScope st))
    (drv : ∀ (cdv : Value) (A : Around) (outer : List PySem.Env) (s : Shared) (H : Hp) (E : XK), A.guards = some [] → Room k (A.deeper (envOfC qual (defScope st) s.heap.objs.size f cdv)) → PSsD (cxD P w K mg base N qual st f cdv A outer s H E) ct (WD E) (defBody st) fb)
    (hF : ∀ ds A, ds.length = ps.length → F ds A ≠ .stk → FinOk A (fb (startD N.length ds) A) (F ds A)) : FnG P w K mg base (k + 1) f fd ps (spD K ct ps.length F) := by
  refine okG Fn S (fun vs H Q E ⟨_, _, _, h, _⟩ => h) fun cdv A0 outer s H vs Q E hg hr ⟨io, A, ds, hl, h, rs, p⟩ => ?_
  refine ⟨_, drv cdv A0 outer s H E hg hr, ?_⟩
  refine ⟨io, A, startD N.length ds, ⟨h, start_D rs⟩, ?_⟩
  have hns : F ds A ≠ .stk := fun z => by rw [z] at p; exact p
  have fo := hF ds A (by rw [← rs.length]; exact hl) hns
  cases ho : fb (startD N.length ds) A with
  | stk => rw [ho] at fo; exact fo.elim
  | go fl ro' A' =>
    rw [ho] at fo
    cases fl with
    | bk => exact fo.elim
    | ct => exact fo.elim
    | nx => exact fun σ' io' H' x s' => fin_ret h x s'.hr .non fo p
    | ret d => exact fun v io' H' x h' rv => fin_ret h x h' rv fo p
  | err c fs ro' A' =>
    rw [ho] at fo
    intro cls dd σ' io' H' x s' xr
    rcases fo with q | ⟨n, hn, hf, hm, q⟩
    · rw [q] at p
      exact p cls dd io' H' x s'.hr xr
    · rw [q] at p
      obtain ⟨g1, g2⟩ := fin_cut h x s'.hr hn hm
      refine p cls dd (io'.cut n) H' g2 g1 ⟨xr.cls, ?_⟩
      rcases xr.fds with z | ⟨pp, gs, h1, h2, h3, h4, h5⟩
      · exact .inl z
      · exact .inr ⟨pp, gs, h1, fun z => h2 (Io.cut_mem z), h3, h4, h5.lop hf⟩
end

/-- a def that may be called by the module's name x, with defaults dds -/
structure Cal (P : Program) (w : World) (K : PySem.W.Frag) (mg : Str → Option Value) (base : Heap) (ct : String → Addr) (k : Nat) (x : Str) (n : Nat) (dds : List D) (F : FF) : Prop where
  ex : ∃ f fd ps ds dvs, FnG P w K mg base k f fd ps (spD K ct n F) ∧ mg x = some (.ref f) ∧ PySem.W.keepIn K (.ref f) = true ∧ Binds K fd ps ds ∧ Vals dvs ds ∧ ∀ io H, DRs K ct io H dvs dds
section
variable {X : Cx} {ct : String → Addr} {W : WX} {k : Nat} {f : Addr} {fd : FuncData} {ps : List Str} {n : Nat} {F : FF} {ds : List Value} {dvs : List V} {dds : List D} {x : Str} {p pos : Pos} {e : Expr} {es : List Expr} {fl : AF}
theorem spD_call {n : Nat} {vs : List V} {ds : List D} {σ : L2.St} {io : Io} {H : Hp} {A : Hd} {Q : VK} (hl : vs.length = n) (h : HR X.K ct io H A) (r : DRs X.K ct io H vs ds) (q : Post X.K ct (DR X.K ct) W σ io H (F ds A) Q) : spD X.K ct n F vs H Q (WE W σ) := by
  refine ⟨io, A, ds, hl, h, r, ?_⟩
  cases hF : F ds A with
  | ok d A1 => rw [hF] at q; exact q
  | err c fs A1 => rw [hF] at q; exact q
  | stk => rw [hF] at q; exact q
/-- the arguments are as many -/
def Ar (n : Nat) (fl : AF) : Prop := ∀ ro A ds A', fl ro A = .ok ds A' → ds.length = n
theorem ar_nil : Ar 0 aNil := fun ro A ds A' h => by cases h; rfl
theorem ar_cons {n : Nat} {a : EF} {fl : AF} (h : Ar n fl) : Ar (n + 1) (aCons a fl) := fun ro A ds A' e => by
  unfold aCons at e
  cases ha : a ro A with
  | ok d A1 =>
    rw [ha, R.bind_ok] at e
    cases hl : fl ro A1 with
    | ok ds2 A2 =>
      rw [hl, R.bind_ok] at e
      cases e
      rw [List.length_cons, h _ _ _ _ hl]
    | err c fs A2 => rw [hl] at e; cases e
    | stk => rw [hl] at e; cases e
  | err c fs A1 => rw [ha] at e; cases e
  | stk => rw [ha] at e; cases e
/-- f(e, ..) -/
theorem pd_call {j m : Nat} (c : Cal X.prog X.w X.K X.mg X.base ct k x n dds F) (hgd : X.A.guards = some []) (hr : Room j X.A) (hk : k ≤ j) (hg : Gl X x) (tk : Takes X W) (ha : PDa X ct W (e :: es) fl) (hal : Ar m fl) (hn : m + dds.length = n)
    (hdb : (x == ("__debug__" : Str)) = false := by decide) (he : starEach (e :: es) X.env = (false, eval e X.env) :: starEach es X.env := by rfl) (hpl : (backTo pos (starEach es X.env)).any (·.1) = false := by rfl) :
    PD X ct W (.Call (.Name x p) (e :: es) [] pos) (eArgs (fun ds A => F (ds ++ dds) A) fl) := by
  obtain ⟨f, fd, ps, dsv, dvs, Fn, hm, hkp, hb, hd, hdd⟩ := c.ex
  refine pe_mono (pe_G Fn hgd (hr.mono hk) hg hm hkp hb hd tk ha hdb he hpl) fun σ H Q ⟨io, A, ro, s, q⟩ => ?_
  cases hf : fl ro A with
  | stk => unfold eArgs at q; rw [hf] at q; exact q.elim
  | err c fs A1 => refine ⟨io, A, ro, s, ?_⟩; unfold eArgs at q; rw [hf] at q ⊢; exact q
  | ok ds1 A1 =>
    refine ⟨io, A, ro, s, ?_⟩
    unfold eArgs at q
    rw [hf] at q ⊢
    intro vs io1 H1 e1 h1 r1
    have q : Post X.K ct (DR X.K ct) W σ io H (F (ds1 ++ dds) A1) Q := q
    refine spD_call ?_ h1 (r1.append (hdd io1 H1)) (Post.ext e1 q)
    rw [List.length_append, r1.length, hal ro A ds1 A1 hf, (hdd io1 H1).length]
    exact hn
theorem pd_call0 {j : Nat} (c : Cal X.prog X.w X.K X.mg X.base ct k x n dds F) (hgd : X.A.guards = some []) (hr : Room j X.A) (hk : k ≤ j) (hg : Gl X x) (tk : Takes X W) (hn : dds.length = n) (hdb : (x == ("__debug__" : Str)) = false := by decide) :
    PD X ct W (.Call (.Name x p) [] [] pos) (fun _ A => F dds A) := by
  obtain ⟨f, fd, ps, dsv, dvs, Fn, hm, hkp, hb, hd, hdd⟩ := c.ex
  exact pe_mono (pe_G0 Fn hgd (hr.mono hk) hg hm hkp hb hd tk hdb) fun σ H Q ⟨io, A, ro, s, q⟩ => spD_call (by rw [(hdd io H).length]; exact hn) s.hr (hdd io H) q
theorem Takes.of_takes {X : Cx} {E : XK} (h : Takes X (fun cls d _ H => E cls d H)) : Takes X (WD E) := h
end
end DV

set_option Elab.async false
set_option linter.all false
set_option maxRecDepth 100000
/-! DvL: a def's function from its body; attributes' rules; empty dicts. -/
namespace DV
open PySem PySem.Spec PyProof.Rows L2

def M.ltAll (n : Nat) (A : Hd) : Bool := A.all (M.lt n)
def cutR (A : Hd) (d : D) (A' : Hd) : R D := match frz A.length A' d with
  | some d' => if M.ltAll A.length (A'.take A.length) then .ok d' (A'.take A.length) else .ok d A'
  | none => .ok d A'
/-- the function of a def whose new lists are handed out by value -/
def finR (A : Hd) (o : Out) : R D := match o with
  | .go (.ret d) _ A' => cutR A d A'
  | .go .nx _ A' => cutR A .non A'
  | .err c fs _ A' => .err c fs A'
  | _ => .stk
/-- the function of a def whose new lists keep their numbers -/
def finK (o : Out) : R D := match o with
  | .go (.ret d) _ A' => .ok d A'
  | .go .nx _ A' => .ok .non A'
  | .err c fs _ A' => .err c fs A'
  | _ => .stk
theorem cutR_ok {A A' : Hd} {d : D} : FinV A d A' (cutR A d A') := by
  unfold cutR
  split
  · rename_i d' hd
    split
    · rename_i hl
      refine .inr ⟨A.length, d', Nat.le_refl _, hd, fun k m hk e => .inr ?_, rfl⟩
      unfold M.ltAll at hl
      rw [List.all_eq_true] at hl
      exact hl m (List.mem_of_getElem? (show (A'.take A.length)[k]? = some m by rw [List.getElem?_take_of_lt hk]; exact e))
    · exact .inl rfl
  · exact .inl rfl
theorem finR_ok {A : Hd} {o : Out} (h : finR A o ≠ .stk) : FinOk A o (finR A o) := by
  cases o with
  | stk => exact absurd rfl h
  | go fl ro A' =>
    cases fl with
    | nx => exact (cutR_ok : FinV A .non A' (cutR A .non A'))
    | ret d => exact (cutR_ok : FinV A d A' (cutR A d A'))
    | bk => exact absurd rfl h
    | ct => exact absurd rfl h
  | err c fs ro A' => exact .inl rfl
theorem finK_ok {A : Hd} {o : Out} (h : finK o ≠ .stk) : FinOk A o (finK o) := by
  cases o with
  | stk => exact absurd rfl h
  | go fl ro A' =>
    cases fl with
    | nx => exact .inl rfl
    | ret d => exact .inl rfl
    | bk => exact absurd rfl h
    | ct => exact absurd rfl h
  | err c fs ro A' => exact .inl rfl

section
variable {K : PySem.W.Frag} {ct : String → Addr} {io : Io} {H : Hp} {A : Hd}
/-! ### {} -/
def eDicN : EF := fun _ A => .ok (.dic []) A
def eDicM : EF := fun _ A => .ok (.ref A.length) (A ++ [.dic []])
end

section
variable {X : Cx} {ct : String → Addr} {W : WX} {o e : Expr} {fo : EF} {fl : AF} {pos apos cpos : Pos}
theorem pd_dicN : PD X ct W (.Dict [] [] pos) eDicN := pe_mono pe_dnewK fun σ H Q ⟨io, A, ro, s, p⟩ p' hp => p.new s.hr hp (.dic (s.hr.ne hp) upd_same rfl .nil)
theorem pd_dicM : PD X ct W (.Dict [] [] pos) eDicM := pe_mono pe_dnewK fun σ H Q ⟨io, A, ro, s, p⟩ p' hp => Post.num p s.hr hp ⟨_, upd_same, rfl, .nil⟩
/-! ### methods by data -/
theorem pd_meth {T name id : String} {r : V → List V → Hp → VK → Prop} {g : D → List D → Hd → R D} {chk : Hd → D → Bool} {es : List Expr} (pa : PlainAttrs T) (slot : Slot T name id) (hty : typeOf (.builtin id) = pure (.type "method_descriptor")) (hm : MtR X id r)
    (og : MeD X.K ct r g) (hc : ∀ io H A v x, HR X.K ct io H A → DR X.K ct io H v x → chk A x = true → tyV X.K T v H) (ho : PD X ct W o fo) (ha : PDa X ct W (e :: es) fl)
    (hbase : attributeBase o name X.env (eval o X.env) = eval o X.env := by rfl)
    (hfew : ((backTo cpos (starEach (e :: es) X.env)).all (fun x => !x.1) && (backToKw cpos (keywordEach [] X.env)).all (fun x => x.1.isSome) && decide ((e :: es).length + ([] : List Keyword).length + (if ([] : List Keyword).isEmpty then 0 else 1) < 30)) = true := by rfl)
    (hline : (apos.endLine == cpos.line) = true := by rfl) (hs : starEach (e :: es) X.env = (false, eval e X.env) :: starEach es X.env := by rfl) (hplain : (backTo cpos (starEach es X.env)).any (·.1) = false := by rfl) :
    PD X ct W (.Call (.Attribute o name apos) (e :: es) [] cpos) (eMeth chk g fo fl) :=
  pe_mono (pe_bm pa slot hty hm ho ha hbase hfew hline hs hplain) fun _ _ _ h => meth_D og hc h
end
end DV

set_option Elab.async false
set_option linter.all false
set_option maxRecDepth 100000
/-! DvM: len(set(xs)), xs a list or tuple of texts, of any number below 4000. -/
namespace DV
open PySem PySem.Spec PyProof.Rows L2

/-- the texts that are met, each once -/
def met1 (acc : List Str) (x : Str) : List Str := if acc.any (· == x) then acc else acc ++ [x]
def mets (xs : List Str) : List Str := xs.foldl met1 []
theorem mets_concat (xs : List Str) (x : Str) : mets (xs ++ [x]) = met1 (mets xs) x := by
  unfold mets
  rw [List.foldl_append]
  rfl
theorem mets_take {xs : List Str} {i : Nat} (h : i < xs.length) : mets (xs.take (i + 1)) = met1 (mets (xs.take i)) (xs.getD i Str.empty) := by
  rw [List.take_add_one, List.getElem?_eq_getElem h]
  have e : xs.getD i Str.empty = xs[i] := by simp [List.getD, List.getElem?_eq_getElem h]
  rw [e]
  exact mets_concat _ _
theorem met1_len (acc : List Str) (x : Str) : (met1 acc x).length = if acc.any (· == x) then acc.length else acc.length + 1 := by
  unfold met1
  split <;> simp
theorem met1_any (acc : List Str) (x k : Str) : (met1 acc x).any (· == k) = (acc.any (· == k) || decide (k = x)) := by
  unfold met1
  split
  · rename_i h
    by_cases e : k = x
    · subst e; simp [h]
    · simp [e]
  · by_cases e : k = x
    · subst e; simp
    · have hb : (x == k) = false := by simpa [beq_iff_eq] using (fun q : x = k => e q.symm)
      simp [e, hb]
theorem mets_le : ∀ xs : List Str, (mets xs).length ≤ xs.length := by
  intro xs
  have go : ∀ (ys acc : List Str), (ys.foldl met1 acc).length ≤ acc.length + ys.length := by
    intro ys
    induction ys with
    | nil => intro acc; simp
    | cons y ys ih =>
      intro acc
      have h1 := ih (met1 acc y)
      have h2 := met1_len acc y
      rw [List.foldl_cons, List.length_cons]
      split at h2 <;> omega
  simpa [mets] using go xs []

section
variable {P : Program} {w : World} {A : Around} {R : Result → Shared → Prop} {it : Addr} {fp wr : List Addr} {G : Array GenState → Array GenState → Prop} {n : Nat} {Pv : Nat → Value → Prop} {St : Nat → Shared → Prop}
/-- the loop of set(..) over texts -/
theorem fill_texts (W : WalksS P w A.in1 it fp wr G n Pv St) (a : Addr) (ha : a ∉ fp) (xs : List Str) (hsz : xs.length = n) (hb : n + 1 < scanBound) (hv : ∀ i v, Pv i v → ∃ t, v = .str (xs.getD i Str.empty) t) :
    ∀ (m i : Nat) (s : Shared), i + m = n → St i s → s.heap.SetOf (PySem.strKind P w) a (fun k => (mets (xs.take i)).any (· == k)) (mets (xs.take i)).length →
      (∀ s', Moved (a :: wr) G s s' → s'.heap.SetOf (PySem.strKind P w) a (fun k => (mets xs).any (· == k)) (mets xs).length → R (.ok (.ret .none)) s') →
      codeAny (model P w) A (.builtin "set.update.loop" ⟨[.ref a, .ref it], []⟩) R s := by
  have aw : a ∉ wr := fun h => ha (W.sub _ h)
  have up : ∀ b ∈ wr, b ∈ a :: wr := fun b hb => List.mem_cons_of_mem _ hb
  have keepS : ∀ {s s' : Shared} {S : Str → Bool} {j : Nat}, Moved wr G s s' → s.heap.SetOf (PySem.strKind P w) a S j → s'.heap.SetOf (PySem.strKind P w) a S j := fun hm ⟨o, es, ep, t, ho, rest⟩ => ⟨o, es, ep, t, hm.heap a _ aw ho, rest⟩
  intro m
  induction m with
  | zero =>
    intro i s hi st gS fin
    have ei : i = n := by omega
    refine codeAny_builtin PyProof.Rows.F.entry_set_update_loop ?_
    rw [Around.under_plainId PyProof.Rows.F.plain_set_update_loop _]
    show wpAny _ A.in1 (pyNext (.ref it) >>= _) _ _ s
    refine wpAny_bind (W.done s _ _ (ei ▸ st) fun s' hm => ?_)
    show wpAny _ A.in1 (ret Value.none) _ _ s'
    refine wpAny_pure (fin s' (hm.mono up) ?_)
    have q := keepS hm gS
    rw [List.take_of_length_le (by omega)] at q
    exact q
  | succ m ih =>
    intro i s hi st gS fin
    refine codeAny_builtin PyProof.Rows.F.entry_set_update_loop ?_
    rw [Around.under_plainId PyProof.Rows.F.plain_set_update_loop _]
    show wpAny _ A.in1 (pyNext (.ref it) >>= _) _ _ s
    refine wpAny_bind (W.item i s _ _ (by omega) st fun v s' pv st' hm => ?_)
    obtain ⟨t, rfl⟩ := hv i v pv
    have gS' := keepS hm gS
    show wpAny _ A.in1 (holding [Value.str (xs.getD i Str.empty) t] (setAdd a (.str (xs.getD i Str.empty) t)) >>= _) _ _ s'
    refine wpAny_bind (wpAny_holding ?_)
    unfold setAdd
    refine wpAny_holding (wpAny_bind ((PySem.strKind P w).pyHash (k := xs.getD i Str.empty) (strKind_is _ _ _ _) ?_))
    have le := mets_le (xs.take i)
    rw [List.length_take] at le
    refine wpAny_setAddHashed_of (knd := PySem.strKind P w) (s := { s' with toks := s'.toks + 1 }) (strKind_is _ _ _ _) rfl gS' (by omega) fun h' sb new => ?_
    have new' : h'.SetOf (PySem.strKind P w) a (fun k => (mets (xs.take (i + 1))).any (· == k)) (mets (xs.take (i + 1))).length :=
      SetOf_congr new (fun k => by rw [mets_take (by omega), met1_any]) (by rw [mets_take (by omega), met1_len])
    refine wpAny_pure ⟨plainId_quiet PyProof.Rows.F.plain_set_update_loop _, ih (i + 1) _ (by omega) (W.frame _ s' _ _ st' (Nat.le_succ _) fun b hb o e => ?_) new' fun s2 hm2 gS2 => ?_⟩
    · rw [sb.2 b (fun z : b = a => ha (z ▸ hb))]; exact e
    · refine fin s2 (Moved.trans W.gtrans ((hm.mono up).then_heap (Nat.le_succ _) fun b o hb e => ?_) hm2) gS2
      rw [sb.2 b (fun z : b = a => hb (by rw [z]; exact List.mem_cons_self))]; exact e
end
end DV

set_option Elab.async false
set_option linter.all false
set_option maxRecDepth 100000
namespace DV
open PySem PySem.Spec PyProof.Rows L2
section
variable {P : Program} {w : World} {A : Around} {E : Value → Shared → Prop} {s : Shared}
/-- a list or a tuple -/
def SeqObj (h : Heap) (l : Addr) (items : Array Value) (c : String) : Prop := (c = "list" ∧ h.IsList l items) ∨ (c = "tuple" ∧ h.IsTuple l items)
set_option maxHeartbeats 3200000 in
theorem make_texts {l : Addr} {items : Array Value} {xs : List Str} {c : String} {Q : Value → Shared → Prop} (nohand : A.handled = none) (sq : SeqObj s.heap l items c) (tx : PyProof.Rows.StrsAre items.toList xs) (few : xs.length + 1 < scanBound)
    (fin : ∀ (h' : Heap) (tk : Nat), h'.SetOf (PySem.strKind P w) s.heap.objs.size (fun k => (mets xs).any (· == k)) (mets xs).length → (∀ b o, b < s.heap.objs.size → s.heap.get? b = some o → h'.get? b = some o) → Q (.ref s.heap.objs.size) { s with heap := h', toks := tk }) :
    wpAny (model P w) A (call (.type "set") [.ref l]) Q E s := by
  have ⟨cc, tl, mro⟩ := PySem.F.called_set.mro
  have made := PySem.F.called_set.made
  have sub := PySem.F.called_set.sub
  refine wpAny_call (codeAny_of_tree ?_)
  show wpAny _ _ (callAny (.type "set") _) _ _ _
  refine wpAny_pure ⟨Code.quiet_builtin _ (by decide +kernel), codeAny_builtin PySem.F.entry_type_call ?_⟩
  rw [Around.under_plain (weight_type_call_type "set" [.ref l] []) rfl]
  have t1 := PySem.F.called_set.notType
  have t2 := PySem.F.called_set.canCreate
  have t3 := PySem.F.typeCall_set_1 (.ref l)
  repeat (any_goals (first | assumption | wp_step))
  refine codeAny_mono (code_set_new_1 (.ref l) (E := E) (Q₁ := fun v s1 => ∃ b : Bool, v = .ref s.heap.objs.size ∧ s1 = { s with heap := s.heap.push { cls := .type "set", dict := none, data := .set #[] 0 (.fresh 0 0 b) } }) fun b => ⟨b, rfl, rfl⟩) fun r s1 got => ?_
  cases r with
  | error e => exact got
  | ok fl =>
  obtain ⟨v, rfl⟩ : ∃ v, fl = .ret v := by
    cases fl with
    | ret v => exact ⟨v, rfl⟩
    | _ => exact got.elim
  obtain ⟨b, rfl, rfl⟩ := got
  have free : ({ cls := .type "set", dict := none, data := .set #[] 0 (.fresh 0 0 b) } : Obj).isFreed = false := rfl
  have atS : (s.heap.push { cls := .type "set", dict := none, data := .set #[] 0 (.fresh 0 0 b) }).get? s.heap.objs.size = some { cls := .type "set", dict := none, data := .set #[] 0 (.fresh 0 0 b) } := Heap.get?_push_size _ free
  have tyS : Shared.TypeIs { s with heap := s.heap.push { cls := .type "set", dict := none, data := .set #[] 0 (.fresh 0 0 b) } } (.ref s.heap.objs.size) "set" := ⟨_, atS, rfl⟩
  have look := PySem.F.called_set.init.lookup
  have bound := PySem.F.called_set.init.bind (.ref s.heap.objs.size)
  repeat (any_goals (first | assumption | wp_step))
  refine codeAny_mono (codeAny_call_builtin (R := wants (fun r s2 => r = .none ∧ ∃ h' tk, s2 = { s with heap := h', toks := tk } ∧ h'.SetOf (PySem.strKind P w) s.heap.objs.size (fun k => (mets xs).any (· == k)) (mets xs).length ∧ (∀ b o, b < s.heap.objs.size → s.heap.get? b = some o → h'.get? b = some o)) E)
    PySem.F.called_set.init.plain PySem.F.entry_set_init (check_set_init_1 tyS ?inn)) fun r s2 got => ?out
  case out =>
    cases r with
    | error e => exact got
    | ok fl =>
      cases fl with
      | ret r =>
        obtain ⟨rfl, h', tk, rfl, gS, gk⟩ := got
        repeat (any_goals (first | assumption | wp_step))
        exact fin _ _ gS gk
      | _ => exact got.elim
  case inn =>
    have hsz : xs.length = items.size := by rw [← StrsAre.len_eq tx, Array.length_toList]
    have val : ∀ (i : Nat) (v : Value), items[i]? = some v → ∃ t, v = .str (xs.getD i Str.empty) t := fun i v hv => SS.strs_at tx i v (by rw [Array.getElem?_toList]; exact hv)
    have nohand3 : A.in1.in1.in1.handled = none := by simp [nohand]
    have szI : (s.heap.push { cls := .type "set", dict := none, data := .set #[] 0 (.fresh 0 0 b) }).objs.size = s.heap.objs.size + 1 := Heap.size_push _ _
    rcases sq with ⟨rfl, hl⟩ | ⟨rfl, hl⟩
    all_goals
      obtain ⟨ol, hol, hcl, nl, hdl⟩ := hl
      obtain ⟨ocls, odict, odata, oslots⟩ := ol
      dsimp only at hcl hdl
      subst hcl
      subst hdl
      have below : l < s.heap.objs.size := Heap.lt_size hol
      have hol' := Heap.get?_push_of_some ({ cls := .type "set", dict := none, data := .set #[] 0 (.fresh 0 0 b) } : Obj) hol
    · have u1 := PySem.F.sub_list_set
      have u2 := PySem.F.sub_list_frozenset
      have u3 : (Value.type "list" == Value.type "dict") = false := by decide
      have seq : (s.heap.push { cls := .type "set", dict := none, data := .set #[] 0 (.fresh 0 0 b) }).IsList l items := ⟨_, hol', rfl, nl, rfl⟩
      unfold Builtin.«set.__init__» noKeywords Builtin.Frozenset.updateFrom
      generalize eI : pyIter = PI
      wp_walk
      subst eI
      refine wpAny_pyIter_list seq ?_
      refine wpAny_bind (wpAny_runValue ?_)
      have lneI : l ≠ (s.heap.push { cls := .type "set", dict := none, data := .set #[] 0 (.fresh 0 0 b) }).objs.size := Nat.ne_of_lt (by rw [szI]; exact Nat.lt_succ_of_lt below)
      have SnI : s.heap.objs.size ∉ [(s.heap.push { cls := .type "set", dict := none, data := .set #[] 0 (.fresh 0 0 b) }).objs.size, l] := by
        rw [szI]
        intro z
        rcases List.mem_cons.mp z with z | z
        · exact Nat.ne_of_lt (Nat.lt_succ_self _) z
        · exact Nat.ne_of_gt below (List.mem_singleton.mp z)
      refine fill_texts ((Walks.list nohand3 _ l lneI items).toS) s.heap.objs.size SnI xs hsz (by omega) val items.size 0 _ (by omega) ⟨⟨_, Heap.get?_push_size _ rfl, rfl, rfl⟩, (seq.push _)⟩ ?st ?fn
      case st =>
        exact SetOf_congr ((PyProof.Rows.setObjOf_fresh (knd := PySem.strKind P w) b).setOf (Heap.get?_push_of_some _ atS) (by unfold scanBound; omega)) (fun _ => rfl) rfl
      case fn =>
        intro s' hm gS
        obtain ⟨h', g', d', tk', os'⟩ := s'
        obtain rfl : g' = s.gens := hm.gens
        obtain rfl : d' = s.drawn := hm.drawn
        obtain rfl : os' = s.os := hm.os
        show wpAny _ _ _ _ _ _
        refine wpAny_pure ?_
        show wpAny _ _ (ret Value.none) _ _ _
        refine wpAny_pure ⟨rfl, h', tk', rfl, gS, fun p o hb e => hm.heap p o (fun z => ?_) (Heap.get?_push_of_some _ (Heap.get?_push_of_some _ e))⟩
        rcases List.mem_cons.mp z with z | z
        · exact Nat.ne_of_lt hb z
        · have z2 := List.mem_singleton.mp z
          rw [szI] at z2
          exact Nat.ne_of_lt (Nat.lt_succ_of_lt hb) z2
    · have u1 := PySem.F.sub_tuple_set
      have u2 := PySem.F.sub_tuple_frozenset
      have u3 : (Value.type "tuple" == Value.type "dict") = false := by decide
      have seq : (s.heap.push { cls := .type "set", dict := none, data := .set #[] 0 (.fresh 0 0 b) }).IsTuple l items := ⟨_, hol', rfl, nl, rfl⟩
      unfold Builtin.«set.__init__» noKeywords Builtin.Frozenset.updateFrom
      generalize eI : pyIter = PI
      wp_walk
      subst eI
      refine wpAny_pyIter_tuple seq ?_
      refine wpAny_bind (wpAny_runValue ?_)
      have lneI : l ≠ (s.heap.push { cls := .type "set", dict := none, data := .set #[] 0 (.fresh 0 0 b) }).objs.size := Nat.ne_of_lt (by rw [szI]; exact Nat.lt_succ_of_lt below)
      have SnI : s.heap.objs.size ∉ [(s.heap.push { cls := .type "set", dict := none, data := .set #[] 0 (.fresh 0 0 b) }).objs.size, l] := by
        rw [szI]
        intro z
        rcases List.mem_cons.mp z with z | z
        · exact Nat.ne_of_lt (Nat.lt_succ_self _) z
        · exact Nat.ne_of_gt below (List.mem_singleton.mp z)
      refine fill_texts ((Walks.tuple nohand3 _ l lneI items).toS) s.heap.objs.size SnI xs hsz (by omega) val items.size 0 _ (by omega) ⟨⟨_, Heap.get?_push_size _ rfl, rfl, rfl⟩, (seq.push _)⟩ ?st ?fn
      case st =>
        exact SetOf_congr ((PyProof.Rows.setObjOf_fresh (knd := PySem.strKind P w) b).setOf (Heap.get?_push_of_some _ atS) (by unfold scanBound; omega)) (fun _ => rfl) rfl
      case fn =>
        intro s' hm gS
        obtain ⟨h', g', d', tk', os'⟩ := s'
        obtain rfl : g' = s.gens := hm.gens
        obtain rfl : d' = s.drawn := hm.drawn
        obtain rfl : os' = s.os := hm.os
        show wpAny _ _ _ _ _ _
        refine wpAny_pure ?_
        show wpAny _ _ (ret Value.none) _ _ _
        refine wpAny_pure ⟨rfl, h', tk', rfl, gS, fun p o hb e => hm.heap p o (fun z => ?_) (Heap.get?_push_of_some _ (Heap.get?_push_of_some _ e))⟩
        rcases List.mem_cons.mp z with z | z
        · exact Nat.ne_of_lt hb z
        · have z2 := List.mem_singleton.mp z
          rw [szI] at z2
          exact Nat.ne_of_lt (Nat.lt_succ_of_lt hb) z2
end

section
variable {K : PySem.W.Frag} {ct : String → Addr} {io : Io} {H : Hp} {A : Hd}
def textsD : List D → Option (List Str)
  | [] => some []
  | .str x :: r => match textsD r with
    | some xs => some (x :: xs)
    | none => none
  | _ :: _ => none
theorem textsD_ok : ∀ {vs : List V} {ds : List D} {xs : List Str}, DRs K ct io H vs ds → textsD ds = some xs → vs = xs.map V.str
  | _, _, _, .nil, e => by cases e; rfl
  | _, _, _, .cons r rs, e => by
    cases r with
    | str x =>
      unfold textsD at e
      split at e
      · rename_i xs h1
        cases e
        rw [textsD_ok rs h1]
        rfl
      · cases e
    | _ => cases e
def gLenSet (d : D) (A : Hd) : R D := match asQ A d with
  | some es => match textsD es with
    | some xs => if xs.length < 4000 then .ok (.int (mets xs).length) A else .stk
    | none => .stk
  | none => .stk
def tLenTexts (K : PySem.W.Frag) (ta : TE) : TE := fun σ H Q => ta σ H fun x H1 => ∃ l, ∃ xs : List Str, x = .ref l ∧ (SqL K H1 l (xs.map V.str) ∨ SqT K H1 l (xs.map V.str)) ∧ xs.length < 4000 ∧ Q (.int (mets xs).length) H1
end
section
variable {X : Cx} {ct : String → Addr} {W : WX} {a : Expr} {fa : EF} {p p2 q pos : Pos}
theorem pe_lenTexts {ta : TE} (hc : X.calm = true) (hg : Gl X "len") (hm : X.mg "len" = none) (hg2 : Gl X "set") (hm2 : X.mg "set" = none) (ha : PE X a ta) (na : starEach [a] X.env = (false, eval a X.env) :: starEach [] X.env := by rfl) :
    PE X (.Call (.Name "len" p) [.Call (.Name "set" p2) [a] [] q] [] pos) (tLenTexts X.K ta) := by
  refine ⟨fun pins s σ H Q I h => ?_⟩
  refine Call_ (ld_blt I hg hm boot_len (PyProof.Rows.callWith_builtin1 (PyProof.Rows.args_cons ?_ rfl) rfl rfl))
  refine Call_ (ld_blt I hg2 hm2 boot_set ?_)
  refine PyProof.Rows.callWith_type1 (PyProof.Rows.args_cons (thn (ha.run pins s σ H _ I h) fun v s1 ⟨x, H1, I1, r1, q1⟩ => PyProof.Rows.args_nil ?_) na) na rfl
  obtain ⟨l, xs, rfl, sq, few, q1⟩ := q1
  cases r1
  have go : ∃ c items, SeqObj s1.heap l items c ∧ StrsAre items.toList xs := by
    rcases sq with sq | sq
    · obtain ⟨its, r, pl, hz⟩ := I1.list sq
      exact ⟨"list", its.toArray, .inl ⟨rfl, pl.isList⟩, by simpa using strsAre_of r⟩
    · obtain ⟨its, r, pl, hz⟩ := I1.tuple sq
      exact ⟨"tuple", its.toArray, .inr ⟨rfl, pl⟩, by simpa using strsAre_of r⟩
  obtain ⟨c, items, so, tx⟩ := go
  refine make_texts (I1.ok.hd hc) so tx (by unfold scanBound; omega) fun h' tk gS gk => ?_
  refine PyProof.Rows.args_nil ?_
  have le := mets_le xs
  obtain ⟨o, es, ep, t, ho, hex, hd, _, _, _, hf, hn⟩ := gS
  have I2 : Inv X pins σ H1 { s1 with heap := h', toks := tk } := I1.kept fun b o e => gk b o (Heap.lt_size e) e
  refine call_len_set ho hex hd hf (by rw [hn]; omega) ⟨.int (mets xs).length, H1, I2.tok _, ⟨_, by rw [hn]⟩, q1⟩
theorem pd_lenSet (hc : X.calm = true) (hg : Gl X "len") (hm : X.mg "len" = none) (hg2 : Gl X "set") (hm2 : X.mg "set" = none) (ha : PD X ct W a fa) (na : starEach [a] X.env = (false, eval a X.env) :: starEach [] X.env := by rfl) :
    PD X ct W (.Call (.Name "len" p) [.Call (.Name "set" p2) [a] [] q] [] pos) (eUn gLenSet fa) :=
  pe_mono (pe_lenTexts hc hg hm hg2 hm2 ha na) fun σ H Q ⟨io, A, ro, s, p⟩ => ⟨io, A, ro, s, (p.bind (rep := DR X.K ct)).mono fun v H1 ⟨io1, A1, d, e1, h1, r1, p1⟩ => by
    unfold gLenSet at p1
    split at p1
    · rename_i es he
      split at p1
      · rename_i xs hx
        split at p1
        · rename_i few
          obtain ⟨a, us, rfl, sq, rs⟩ := asQ_ok h1 r1 he
          have e := textsD_ok rs hx
          subst e
          exact ⟨a, xs, rfl, sq, few, p1.here h1 (.int _)⟩
        · exact p1.elim
      · exact p1.elim
    · exact p1.elim⟩
end
end DV

set_option Elab.async false
set_option linter.all false
set_option maxRecDepth 100000
/-! DvO: constants of the module; more rules. -/
namespace DV
open PySem PySem.Spec PyProof.Rows L2
section
variable {X : Cx} {ct : String → Addr} {W : WX} {x : Str} {pos : Pos}
theorem pd_gc {v : V} {d : D} (hg : Gl X x) (h : ∃ u, X.mg x = some u ∧ RelV v u) (r : ∀ io H, DR X.K ct io H v d) (hd : (x == ("__debug__" : Str)) = false := by decide) : PD X ct W (.Name x pos) (eC d) := by
  obtain ⟨u, h1, h2⟩ := h
  exact pd_c (pe_glob hg h1 h2 hd) r
end
end DV

set_option Elab.async false
set_option linter.all false
set_option maxRecDepth 100000
/-! DvP: plain laws of the functions on data. -/
namespace DV
open PySem PySem.Spec PyProof.Rows L2
theorem cut_same {A A' : Hd} {d : D} (h : A'.length = A.length) : cutR A d A' = .ok d A' := by
  have ht : A'.take A.length = A' := List.take_of_length_le (by omega)
  unfold cutR
  split
  · rename_i d' hd
    have e : d' = d := by
      unfold frz at hd
      split at hd
      · exact (Option.some.inj hd).symm
      · rename_i hl
        split at hd
        · rename_i k
          have : ¬ k < A.length := by simpa [D.lt] using hl
          rw [List.getElem?_eq_none (by omega)] at hd
          cases hd
        · cases hd
    rw [e, ht]
    split <;> rfl
  · rfl
@[simp] theorem cut_self {A : Hd} {d : D} : cutR A d A = .ok d A := cut_same rfl
@[simp] theorem cut_set {A : Hd} {d : D} {k : Nat} {m : M} : cutR A d (A.set k m) = .ok d (A.set k m) := cut_same (by simp)
@[simp] theorem calm_ok {α : Type} (a : α) (A : Hd) : (R.ok a A).calm = R.ok a A := rfl
@[simp] theorem here_fix (ds : List D) (A : Hd) : (Src.fix ds).here A := trivial
/-- loops that go through -/
theorem forD_run {s : Src} {g : GF} {b : SF} {I : Nat → Env → Hd → Prop} (hs : ∀ i ro A, I i ro A → s.here A) : ∀ (ds : List D) (i : Nat) (ro : Env) (A : Hd), I i ro A →
    (∀ j d ro A, ds[j]? = some d → I (i + j) ro A → ∃ ro' A', (g d ro A).out.next b = .go .nx ro' A' ∧ I (i + j + 1) ro' A') →
    ∃ ro' A', forD s g b ds ro A = .go .nx ro' A' ∧ I (i + ds.length) ro' A'
  | [], i, ro, A, h, _ => ⟨ro, A, by unfold forD; rw [if_pos (hs i ro A h)], h⟩
  | d :: ds, i, ro, A, h, st => by
    obtain ⟨ro1, A1, e1, h1⟩ := st 0 d ro A rfl h
    obtain ⟨ro2, A2, e2, h2⟩ := forD_run hs ds (i + 1) ro1 A1 h1 fun j d' ro A hd hI => by
      have := st (j + 1) d' ro A (by simpa using hd) (by rw [show i + (j + 1) = i + 1 + j by omega]; exact hI)
      rw [show i + (j + 1) + 1 = i + 1 + j + 1 by omega] at this
      exact this
    refine ⟨ro2, A2, ?_, by rw [List.length_cons, show i + (ds.length + 1) = i + 1 + ds.length by omega]; exact h2⟩
    unfold forD
    rw [if_pos (hs i ro A h), e1, Out.loop_nx, e2]
/-- a comprehension of a plain test and a plain item -/
theorem compD_pure {s : Src} {pt : Pat} {vs : List Nat} {tt : TF} {te : EF} {ro : Env} {A : Hd} {p : D → Bool} {f : D → D} (hs : s.here A) : ∀ (ds acc : List D), acc.length + ds.length ≤ sizeLine →
    (∀ d ∈ ds, ∃ ro1, pt.put d (wipeD ro vs) = some ro1 ∧ tt ro1 A = .ok (p d) A ∧ (p d = true → te ro1 A = .ok (f d) A)) →
    compD s pt vs tt te ro ds acc A = .ok (acc ++ (ds.filter p).map f) A
  | [], acc, _, _ => by unfold compD; rw [if_pos hs]; simp
  | d :: ds, acc, hl, h => by
    obtain ⟨ro1, e1, e2, e3⟩ := h d List.mem_cons_self
    rw [List.length_cons] at hl
    unfold compD
    rw [if_pos hs, e1]
    simp only [e2, calm_ok, R.bind_ok]
    cases hp : p d with
    | true =>
      rw [if_pos rfl, e3 hp, calm_ok, R.bind_ok, if_pos (by omega), compD_pure hs ds _ (by rw [List.length_append]; simp; omega) fun d hd => h d (List.mem_cons_of_mem _ hd)]
      simp [List.filter_cons, hp]
    | false =>
      rw [if_neg (by simp), compD_pure hs ds acc (by omega) fun d hd => h d (List.mem_cons_of_mem _ hd)]
      simp [List.filter_cons, hp]
/-- a comprehension whose items are drawn -/
theorem compD_run {s : Src} {pt : Pat} {vs : List Nat} {tt : TF} {te : EF} {ro : Env} {I : Nat → Hd → Prop} {G : D → Prop} (hs : ∀ i A, I i A → s.here A) : ∀ (ds acc : List D) (i : Nat) (A : Hd), acc.length + ds.length ≤ sizeLine → I i A → (∀ d ∈ acc, G d) →
    (∀ j d A, ds[j]? = some d → I (i + j) A → ∃ ro1, pt.put d (wipeD ro vs) = some ro1 ∧ ∃ b A1, tt ro1 A = .ok b A1 ∧ (b = false → I (i + j + 1) A1) ∧ (b = true → ∃ y A2, te ro1 A1 = .ok y A2 ∧ G y ∧ I (i + j + 1) A2)) →
    ∃ ys A', compD s pt vs tt te ro ds acc A = .ok ys A' ∧ I (i + ds.length) A' ∧ (∀ d ∈ ys, G d) ∧ ys.length ≤ acc.length + ds.length
  | [], acc, i, A, _, h, g, _ => ⟨acc, A, by unfold compD; rw [if_pos (hs i A h)], h, g, by simp⟩
  | d :: ds, acc, i, A, hl, h, g, st => by
    obtain ⟨ro1, e1, b, A1, e2, h1, h2⟩ := st 0 d A rfl h
    rw [List.length_cons] at hl
    have nx : ∀ j d A, ds[j]? = some d → I (i + 1 + j) A → ∃ ro1, pt.put d (wipeD ro vs) = some ro1 ∧ ∃ b A1, tt ro1 A = .ok b A1 ∧ (b = false → I (i + 1 + j + 1) A1) ∧ (b = true → ∃ y A2, te ro1 A1 = .ok y A2 ∧ G y ∧ I (i + 1 + j + 1) A2) := fun j d' A hd hI => by
      have := st (j + 1) d' A (by simpa using hd) (by rw [show i + (j + 1) = i + 1 + j by omega]; exact hI)
      rw [show i + (j + 1) + 1 = i + 1 + j + 1 by omega] at this
      exact this
    unfold compD
    rw [if_pos (hs i A h), e1]
    simp only [e2, calm_ok, R.bind_ok]
    cases b with
    | true =>
      obtain ⟨y, A2, e3, gy, h3⟩ := h2 rfl
      obtain ⟨ys, A', q1, q2, q3, q4⟩ := compD_run hs ds (acc ++ [y]) (i + 1) A2 (by rw [List.length_append]; simp; omega) h3 (fun d hd => (List.mem_append.mp hd).elim (g d) fun z => by rw [List.mem_singleton.mp z]; exact gy) nx
      refine ⟨ys, A', ?_, by rw [List.length_cons, show i + (ds.length + 1) = i + 1 + ds.length by omega]; exact q2, q3, by rw [List.length_append] at q4; simp at q4 ⊢; omega⟩
      rw [if_pos rfl, e3, calm_ok, R.bind_ok, if_pos (by omega), q1]
    | false =>
      obtain ⟨ys, A', q1, q2, q3, q4⟩ := compD_run hs ds acc (i + 1) A1 (by omega) (h1 rfl) g nx
      refine ⟨ys, A', ?_, by rw [List.length_cons, show i + (ds.length + 1) = i + 1 + ds.length by omega]; exact q2, q3, by simp at q4 ⊢; omega⟩
      rw [if_neg (by simp), q1]
/-- the source of draws stands under number k; at most T draws are done -/
def SRC (A : Hd) (k : Nat) (T : Int) : Prop := ∃ c t h : Int, A[k]? = some (.lst [.int c, .int t, .int h]) ∧ 0 ≤ t ∧ t ≤ T ∧ 0 ≤ h
theorem SRC.le {A : Hd} {k : Nat} {T T' : Int} (h : SRC A k T) (e : T ≤ T') : SRC A k T' := let ⟨c, t, q, h1, h2, h3, h4⟩ := h; ⟨c, t, q, h1, h2, Int.le_trans h3 e, h4⟩
theorem sub_num {A : Hd} {k : Nat} {ds : List D} {i : Int} {x : D} (h : A[k]? = some (.lst ds)) (e : L2.atI ds i = some x) : gSubD (.ref k) (.int i) A = .ok x A := by
  unfold gSubD asD
  simp only [h]
  unfold gIx asQ asR asL
  simp only [h, e]
theorem sub_lst {A : Hd} {ds : List D} {i : Int} {x : D} (e : L2.atI ds i = some x) : gSubD (.lst ds) (.int i) A = .ok x A := by
  unfold gSubD asD gIx asQ asR asL
  simp only [e]
theorem sub_tup {A : Hd} {ds : List D} {i : Int} {x : D} (e : L2.atI ds i = some x) : gSubD (.tup ds) (.int i) A = .ok x A := by
  unfold gSubD asD gIx asQ
  simp only [e]
theorem sub_scr {A : Hd} {ds : List D} {i : Int} {x : D} (e : L2.atI ds i = some x) : gSubD (.scr ds) (.int i) A = .ok x A := by
  unfold gSubD asD gIx asQ asR
  simp only [e]
theorem set_num {A : Hd} {k : Nat} {ds : List D} {i : Int} {j : Nat} {d : D} {ro : Env} (h : A[k]? = some (.lst ds)) (e : ixN ds.length i = some j) : setD (.ref k) (.int i) d ro A = .ok ro (A.set k (.lst (ds.set j d))) := by
  unfold setD numL
  simp only [h, e]
theorem atI_of {α : Type} {xs : List α} {i : Int} (h0 : 0 ≤ i) (h1 : i < xs.length) : ∃ x, L2.atI xs i = some x ∧ x ∈ xs := by
  have hi : i.toNat < xs.length := by omega
  refine ⟨xs[i.toNat], ?_, List.getElem_mem hi⟩
  unfold L2.atI ixN
  rw [if_pos h0, if_pos h1]
  exact List.getElem?_eq_getElem hi

/-! ### one step each -/
section
variable {a b c : EF} {fl : AF} {t u : TF} {p q : SF} {g : D → D → Hd → R D} {h : D → Hd → R D} {k : List D → Hd → R D} {ro ro' : Env} {A A0 A1 A2 : Hd} {d e : D} {ds : List D} {r : R D} {o : Out} {i : Nat}
theorem bin_ok (h1 : a ro A = .ok d A1) (h2 : b ro A1 = .ok e A2) (h3 : g d e A2 = r) : eBin g a b ro A = r := by unfold eBin; rw [h1, R.bind_ok, h2, R.bind_ok, h3]
theorem un_ok (h1 : a ro A = .ok d A1) (h3 : h d A1 = r) : eUn h a ro A = r := by unfold eUn; rw [h1, R.bind_ok, h3]
theorem acons_ok (h1 : a ro A = .ok d A1) (h2 : fl ro A1 = .ok ds A2) : aCons a fl ro A = .ok (d :: ds) A2 := by unfold aCons; rw [h1, R.bind_ok, h2, R.bind_ok]
theorem args_ok (h1 : fl ro A = .ok ds A1) (h2 : k ds A1 = r) : eArgs k fl ro A = r := by unfold eArgs; rw [h1, R.bind_ok, h2]
theorem args1_ok (h1 : a ro A = .ok d A1) (h2 : k [d] A1 = r) : eArgs k (aCons a aNil) ro A = r := args_ok (acons_ok h1 rfl) h2
theorem args2_ok (h1 : a ro A = .ok d A1) (h2 : b ro A1 = .ok e A2) (h3 : k [d, e] A2 = r) : eArgs k (aCons a (aCons b aNil)) ro A = r := args_ok (acons_ok h1 (acons_ok h2 rfl)) h3
theorem comp_ok {f : IF} {s : Src} {pt : Pat} {vs : List Nat} (h1 : f ro A = .ok s A1) (h2 : compD s pt vs t a ro s.items [] A1 = .ok ds A2) : eComp f pt vs t a ro A = .ok (.lst ds) A2 := by unfold eComp; rw [h1, R.bind_ok, h2, R.bind_ok]
theorem seq_ok {s : Src} (h1 : a ro A = .ok d A1) (h2 : srcD d A1 = some s) : iSeq a ro A = .ok s A1 := by unfold iSeq; rw [h1, R.bind_ok, h2]
theorem if_ok {z : Bool} (h1 : t ro A = .ok z A1) (h2 : (if z then a ro A1 else b ro A1) = r) : eIf t a b ro A = r := by unfold eIf; rw [h1, R.bind_ok, h2]
theorem and_ok {z : Bool} (h1 : a ro A = .ok (.bl z) A1) (h2 : (if z then b ro A1 else .ok (.bl z) A1) = r) : eAndD a b ro A = r := by
  unfold eAndD
  rw [h1, R.bind_ok]
  show (R.ok z A1).bind _ = r
  rw [R.bind_ok, ← h2]
theorem not_ok {z : Bool} (h1 : a ro A = .ok (.bl z) A1) : eNotD a ro A = .ok (.bl (!z)) A1 := by
  unfold eNotD
  rw [h1, R.bind_ok]
  show (R.ok z A1).bind _ = _
  rw [R.bind_ok]
theorem tnot_ok {z : Bool} (h1 : t ro A = .ok z A1) : tNotD t ro A = .ok (!z) A1 := by unfold tNotD; rw [h1, R.bind_ok]
theorem tru_ok {z : Bool} (h1 : a ro A = .ok d A1) (h2 : gTru d A1 = .ok z A1) : tOfE a ro A = .ok z A1 := by unfold tOfE; rw [h1, R.bind_ok, h2]
theorem trub_ok {z : Bool} (h1 : a ro A = .ok (.bl z) A1) : tOfE a ro A = .ok z A1 := tru_ok h1 rfl
theorem tor_ok {z w : Bool} {A3 : Hd} (h1 : t ro A = .ok z A1) (h2 : (if z then .ok true A1 else u ro A1) = .ok w A3) : tOrD t u ro A = .ok w A3 := by unfold tOrD; rw [h1, R.bind_ok, h2]
theorem tand_ok {z w : Bool} {A3 : Hd} (h1 : t ro A = .ok z A1) (h2 : (if z then u ro A1 else .ok false A1) = .ok w A3) : tAndD t u ro A = .ok w A3 := by unfold tAndD; rw [h1, R.bind_ok, h2]
theorem tcmp_ok {z : Bool} {A3 : Hd} (h1 : a ro A = .ok d A1) (h2 : b ro A1 = .ok e A2) (h3 : g d e A2 = .ok (.bl z) A3) : tCmpD g a b ro A = .ok z A3 := by unfold tCmpD; rw [bin_ok h1 h2 h3]; rfl
theorem sif_ok {z : Bool} (h1 : t ro A = .ok z A1) (h2 : (if z then p ro A1 else q ro A1) = o) : sIf t p q ro A = o := by unfold sIf; rw [h1, R.then_ok, h2]
theorem sseq_ok (h1 : p ro A = .go .nx ro' A1) (h2 : q ro' A1 = o) : sSeq p q ro A = o := by unfold sSeq; rw [h1, Out.next_nx, h2]
theorem sret_ok (h1 : a ro A = .ok d A1) : sRet a ro A = .go (.ret d) ro A1 := by unfold sRet; rw [h1, R.then_ok]
theorem sasg_ok (h1 : a ro A = .ok d A1) : sAsg a (gNm i) ro A = .go .nx (ro.set i (some d)) A1 := by unfold sAsg; rw [h1, R.then_ok]; rfl
theorem sfor_ok {f : IF} {s : Src} {gf : GF} (h1 : f ro A = .ok s A1) (h2 : forD s gf p s.items ro A1 = o) : sFor f gf p ro A = o := by unfold sFor; rw [h1, R.then_ok, h2]
theorem fin_ok (h1 : o = .go (.ret d) ro A1) (h2 : A1.length = A.length) : finR A o = .ok d A1 := by rw [h1]; exact cut_same h2
theorem rng_ok {n : Int} (h1 : a ro A = .ok (.int n) A1) (h0 : 0 ≤ n) (h2 : n < 2 ^ 62) : iRange1 (aCons a aNil) ro A = .ok (.fix (rangeD 0 n.toNat)) A1 := by
  unfold iRange1
  rw [acons_ok h1 (show aNil ro A1 = .ok [] A1 from rfl), R.bind_ok]
  show (if -(2 ^ 62) ≤ n ∧ n < 2 ^ 62 then R.ok (Src.fix (rangeD 0 n.toNat)) A1 else .stk) = _
  rw [if_pos ⟨by omega, h2⟩]
end
end DV

set_option Elab.async false
set_option linter.all false
set_option maxRecDepth 100000
namespace K02
open PySem PySem.Spec PyProof.Rows L2 DV
def topS (i : Nat) : Stmt := PySem.Challenge.pw_nextbehind_k02_names_recognized.main.body.getD i (.Pass ⟨0, 0, 0, 0⟩)
section
variable {P : Program} {w : World} {K : PySem.W.Frag} {mg : Str → Option Value} {base : Heap} {ct : String → Addr}

abbrev s_is_name : Stmt := topS 4
theorem sc_is_name : FnScope ["thing", "sign"] ["thing"] (defScope s_is_name) := ⟨rfl, rfl, rfl, by decide +kernel, rfl, by decide +kernel, by decide +kernel⟩
noncomputable def b_is_name : SF := (sSeq (sIf (tOrD (tNotD (tOfE (eArgs gIsa (aCons (eVar 0) (aCons (eC (.cls (.bi "str"))) aNil))))) (tNotD (fun ro A => ((eChain gLe gLe (eC (.int 1)) (eArgs gLen (aCons (eVar 0) aNil)) (eC (.int 8))) ro A).bind gBool)))
  (sRet (eC (.bl false)))
  sNx)
  (sRet (eArgs gAll (aCons (eComp (iSeq (eVar 0)) (.one 1) [1] ttYes (eBin gIn (eVar 1) (eC (.str "abcdefghijklmnopqrstuvwxyz")))) aNil))))
theorem d_is_name (m_isinstance : mg "isinstance" = none) (m_str : mg "str" = none) (m_len : mg "len" = none) (m_all : mg "all" = none) (g_MOST_LETTERS : ∃ u, mg "MOST_LETTERS" = some u ∧ RelV (.int 8) u) (g_LETTERS : ∃ u, mg "LETTERS" = some u ∧ RelV (.str "abcdefghijklmnopqrstuvwxyz") u) (f : Addr) :
    ∀ (cdv : Value) (A : Around) (outer : List PySem.Env) (s : Shared) (H : Hp) (E : XK), A.guards = some [] → Room 0 (A.deeper (envOfC "is_name" (defScope s_is_name) s.heap.objs.size f cdv)) → PSsD (cxD P w K mg base ["thing", "sign"] "is_name" s_is_name f cdv A outer s H E) ct (WD E) (defBody s_is_name) b_is_name := by
  intro cdv A outer s H E hg hr
  have tk : Takes (cxD P w K mg base ["thing", "sign"] "is_name" s_is_name f cdv A outer s H E) (WD E) := takes_of rfl rfl rfl rfl
  have hp : PassesOwn (model (cxD P w K mg base ["thing", "sign"] "is_name" s_is_name f cdv A outer s H E).prog (cxD P w K mg base ["thing", "sign"] "is_name" s_is_name f cdv A outer s H E).w) (cxD P w K mg base ["thing", "sign"] "is_name" s_is_name f cdv A outer s H E).A (cxD P w K mg base ["thing", "sign"] "is_name" s_is_name f cdv A outer s H E).env (cxD P w K mg base ["thing", "sign"] "is_name" s_is_name f cdv A outer s H E).xe := passes_of rfl
  exact (pssd_cons (psd_if (pdw_t (pdw_or (pdt_not (pdt_truth (pd_callB call_isi gIsa_ok (by rfl) m_isinstance (by decide +kernel) (pda_cons (pd_var 0) (pda_cons (pd_c (pe_bltn (v := .ty "str") (u := .type "str") (by rfl) m_str (by decide +kernel) rfl) (fun _ _ => .ty _)) pda_nil))))) (pdw_or1 (pdt_not (pdt_chain op_leX gLtL_ok op_leX gLtL_ok pd_int (pd_callB call_lenX gLen_ok (by rfl) m_len PySem.boot_len (pda_cons (pd_var 0) pda_nil)) (pd_gc (by rfl) g_MOST_LETTERS (fun _ _ => .int _)))))))
  (pssd_one (psd_ret pd_bl))
  pssd_nil)
  (pssd_one (psd_ret (pd_callB (cr_all rfl) gAll_ok (by rfl) m_all (by decide +kernel) (pda_cons (pd_comp (own := [("sign", 1)]) rfl sc_is_name.nd (pid_seq (pd_var 0)) (blkOk_by (N := ["thing", "sign"]) (sc := (defScope s_is_name)) (by decide +kernel)) (by decide) (fun _ _ _ _ _ => pg_name (i := 1) sc_is_name.nd rfl (Or.inl rfl)) (fun _ _ _ _ _ => ptsd_nil) (fun _ _ _ _ _ => (pd_cmp op_inX gIn_ok (pd_var 1) (pd_gc (by rfl) g_LETTERS (fun _ _ => .str _)) (by with_unfolding_all rfl)))) pda_nil)))))
noncomputable def F_is_name : FF := fun ds A => finR A (b_is_name (startD 2 ds) A)
theorem o_is_name (m_isinstance : mg "isinstance" = none) (m_str : mg "str" = none) (m_len : mg "len" = none) (m_all : mg "all" = none) (g_MOST_LETTERS : ∃ u, mg "MOST_LETTERS" = some u ∧ RelV (.int 8) u) (g_LETTERS : ∃ u, mg "LETTERS" = some u ∧ RelV (.str "abcdefghijklmnopqrstuvwxyz") u) {f : Addr} {fd : FuncData} (Fn : Fun K "is_name" "is_name" s_is_name f fd) : FnG P w K mg base 1 f fd ["thing"] (spD K ct 1 F_is_name) := okD Fn sc_is_name (d_is_name m_isinstance m_str m_len m_all g_MOST_LETTERS g_LETTERS f) fun ds A _ h => finR_ok h

abbrev s_are_different : Stmt := topS 5
theorem sc_are_different : FnScope ["thing", "name"] ["thing"] (defScope s_are_different) := ⟨rfl, rfl, rfl, by decide +kernel, rfl, by decide +kernel, by decide +kernel⟩
noncomputable def b_are_different : SF := (sSeq (sIf (tOrD (tNotD (tOfE (eArgs gIsa (aCons (eVar 0) (aCons (eC (.cls (.bi "tuple"))) aNil))))) (tNotD (tOfE (eArgs gAll (aCons (eComp (iSeq (eVar 0)) (.one 1) [1] ttYes (eArgs (fun ds A => F_is_name (ds ++ []) A) (aCons (eVar 1) aNil))) aNil)))))
  (sRet (eC (.bl false)))
  sNx)
  (sRet (eBin gEq (eUn gLenSet (eVar 0)) (eArgs gLen (aCons (eVar 0) aNil)))))
theorem d_are_different (c_is_name : Cal P w K mg base ct 1 "is_name" 1 [] F_is_name) (m_isinstance : mg "isinstance" = none) (m_tuple : mg "tuple" = none) (m_all : mg "all" = none) (m_len : mg "len" = none) (m_set : mg "set" = none) (f : Addr) :
    ∀ (cdv : Value) (A : Around) (outer : List PySem.Env) (s : Shared) (H : Hp) (E : XK), A.guards = some [] → Room 1 (A.deeper (envOfC "are_different" (defScope s_are_different) s.heap.objs.size f cdv)) → PSsD (cxD P w K mg base ["thing", "name"] "are_different" s_are_different f cdv A outer s H E) ct (WD E) (defBody s_are_different) b_are_different := by
  intro cdv A outer s H E hg hr
  have tk : Takes (cxD P w K mg base ["thing", "name"] "are_different" s_are_different f cdv A outer s H E) (WD E) := takes_of rfl rfl rfl rfl
  have hp : PassesOwn (model (cxD P w K mg base ["thing", "name"] "are_different" s_are_different f cdv A outer s H E).prog (cxD P w K mg base ["thing", "name"] "are_different" s_are_different f cdv A outer s H E).w) (cxD P w K mg base ["thing", "name"] "are_different" s_are_different f cdv A outer s H E).A (cxD P w K mg base ["thing", "name"] "are_different" s_are_different f cdv A outer s H E).env (cxD P w K mg base ["thing", "name"] "are_different" s_are_different f cdv A outer s H E).xe := passes_of rfl
  exact (pssd_cons (psd_if (pdw_t (pdw_or (pdt_not (pdt_truth (pd_callB call_isi gIsa_ok (by rfl) m_isinstance (by decide +kernel) (pda_cons (pd_var 0) (pda_cons (pd_c (pe_bltn (v := .ty "tuple") (u := .type "tuple") (by rfl) m_tuple (by decide +kernel) rfl) (fun _ _ => .ty _)) pda_nil))))) (pdw_or1 (pdt_not (pdt_truth (pd_callB (cr_all rfl) gAll_ok (by rfl) m_all (by decide +kernel) (pda_cons (pd_comp (own := [("name", 1)]) rfl sc_are_different.nd (pid_seq (pd_var 0)) (blkOk_by (N := ["thing", "name"]) (sc := (defScope s_are_different)) (by decide +kernel)) (by decide) (fun _ _ _ _ _ => pg_name (i := 1) sc_are_different.nd rfl (Or.inl rfl)) (fun _ _ _ _ _ => ptsd_nil) (fun _ _ _ _ _ => (pd_call c_is_name hg hr (by decide) (by rfl) takes0 (pda_cons (pd_var 1) pda_nil) (ar_cons ar_nil) rfl))) pda_nil)))))))
  (pssd_one (psd_ret pd_bl))
  pssd_nil)
  (pssd_one (psd_ret (pd_cmp (op_eqX hr.units) gEq_ok (pd_lenSet rfl (by rfl) m_len (by rfl) m_set (pd_var 0)) (pd_callB call_lenX gLen_ok (by rfl) m_len PySem.boot_len (pda_cons (pd_var 0) pda_nil)) (nomark _)))))
noncomputable def F_are_different : FF := fun ds A => finR A (b_are_different (startD 2 ds) A)
theorem o_are_different (c_is_name : Cal P w K mg base ct 1 "is_name" 1 [] F_is_name) (m_isinstance : mg "isinstance" = none) (m_tuple : mg "tuple" = none) (m_all : mg "all" = none) (m_len : mg "len" = none) (m_set : mg "set" = none) {f : Addr} {fd : FuncData} (Fn : Fun K "are_different" "are_different" s_are_different f fd) : FnG P w K mg base 2 f fd ["thing"] (spD K ct 1 F_are_different) := okD Fn sc_are_different (d_are_different c_is_name m_isinstance m_tuple m_all m_len m_set f) fun ds A _ h => finR_ok h

abbrev s_is_row : Stmt := topS 6
theorem sc_is_row : FnScope ["thing"] ["thing"] (defScope s_is_row) := ⟨rfl, rfl, rfl, by decide +kernel, rfl, by decide +kernel, by decide +kernel⟩
noncomputable def b_is_row : SF := (sRet (eAndD (eArgs (fun ds A => F_are_different (ds ++ []) A) (aCons (eVar 0) aNil)) (eBin gLe (eArgs gLen (aCons (eVar 0) aNil)) (eC (.int 4)))))
theorem d_is_row (c_are_different : Cal P w K mg base ct 2 "are_different" 1 [] F_are_different) (m_len : mg "len" = none) (g_MOST_NAMES : ∃ u, mg "MOST_NAMES" = some u ∧ RelV (.int 4) u) (f : Addr) :
    ∀ (cdv : Value) (A : Around) (outer : List PySem.Env) (s : Shared) (H : Hp) (E : XK), A.guards = some [] → Room 2 (A.deeper (envOfC "is_row" (defScope s_is_row) s.heap.objs.size f cdv)) → PSsD (cxD P w K mg base ["thing"] "is_row" s_is_row f cdv A outer s H E) ct (WD E) (defBody s_is_row) b_is_row := by
  intro cdv A outer s H E hg hr
  have tk : Takes (cxD P w K mg base ["thing"] "is_row" s_is_row f cdv A outer s H E) (WD E) := takes_of rfl rfl rfl rfl
  have hp : PassesOwn (model (cxD P w K mg base ["thing"] "is_row" s_is_row f cdv A outer s H E).prog (cxD P w K mg base ["thing"] "is_row" s_is_row f cdv A outer s H E).w) (cxD P w K mg base ["thing"] "is_row" s_is_row f cdv A outer s H E).A (cxD P w K mg base ["thing"] "is_row" s_is_row f cdv A outer s H E).env (cxD P w K mg base ["thing"] "is_row" s_is_row f cdv A outer s H E).xe := passes_of rfl
  exact (pssd_one (psd_ret (pd_and (pd_call c_are_different hg hr (by decide) (by rfl) tk (pda_cons (pd_var 0) pda_nil) (ar_cons ar_nil) rfl) (pd_one (pd_cmp op_leX gLtL_ok (pd_callB call_lenX gLen_ok (by rfl) m_len PySem.boot_len (pda_cons (pd_var 0) pda_nil)) (pd_gc (by rfl) g_MOST_NAMES (fun _ _ => .int _)) (nomark _))))))
noncomputable def F_is_row : FF := fun ds A => finR A (b_is_row (startD 1 ds) A)
theorem o_is_row (c_are_different : Cal P w K mg base ct 2 "are_different" 1 [] F_are_different) (m_len : mg "len" = none) (g_MOST_NAMES : ∃ u, mg "MOST_NAMES" = some u ∧ RelV (.int 4) u) {f : Addr} {fd : FuncData} (Fn : Fun K "is_row" "is_row" s_is_row f fd) : FnG P w K mg base 3 f fd ["thing"] (spD K ct 1 F_is_row) := okD Fn sc_is_row (d_is_row c_are_different m_len g_MOST_NAMES f) fun ds A _ h => finR_ok h

abbrev s__law_source : Stmt := topS 8
theorem sc__law_source : FnScope ["_law_script", "_law_k", "_law_cell"] ["_law_script", "_law_k"] (defScope s__law_source) := ⟨rfl, rfl, rfl, by decide +kernel, rfl, by decide +kernel, by decide +kernel⟩
noncomputable def b__law_source : SF := (sSeq (sAsg (eIf (tCmpD gNe (eVar 0) (eArgs gLstD aNil)) (eBin gSubD (eVar 0) (eBin gMod (eVar 1) (eArgs gLen (aCons (eVar 0) aNil)))) (eC (.int 1))) (gNm 2))
  (sRet (eArgs gLstM (aCons (eVar 2) (aCons (eBin gMul (eC (.int 3)) (eVar 1)) (aCons (eIf (tCmpD gGe (eVar 2) (eBin gPow (eC (.int 10)) (eC (.int 18)))) (eBin gDiv (eVar 2) (eBin gPow (eC (.int 10)) (eC (.int 18)))) (eC (.int 0))) aNil))))))
theorem d__law_source (m_len : mg "len" = none) (f : Addr) :
    ∀ (cdv : Value) (A : Around) (outer : List PySem.Env) (s : Shared) (H : Hp) (E : XK), A.guards = some [] → Room 0 (A.deeper (envOfC "_law_source" (defScope s__law_source) s.heap.objs.size f cdv)) → PSsD (cxD P w K mg base ["_law_script", "_law_k", "_law_cell"] "_law_source" s__law_source f cdv A outer s H E) ct (WD E) (defBody s__law_source) b__law_source := by
  intro cdv A outer s H E hg hr
  have tk : Takes (cxD P w K mg base ["_law_script", "_law_k", "_law_cell"] "_law_source" s__law_source f cdv A outer s H E) (WD E) := takes_of rfl rfl rfl rfl
  have hp : PassesOwn (model (cxD P w K mg base ["_law_script", "_law_k", "_law_cell"] "_law_source" s__law_source f cdv A outer s H E).prog (cxD P w K mg base ["_law_script", "_law_k", "_law_cell"] "_law_source" s__law_source f cdv A outer s H E).w) (cxD P w K mg base ["_law_script", "_law_k", "_law_cell"] "_law_source" s__law_source f cdv A outer s H E).A (cxD P w K mg base ["_law_script", "_law_k", "_law_cell"] "_law_source" s__law_source f cdv A outer s H E).env (cxD P w K mg base ["_law_script", "_law_k", "_law_cell"] "_law_source" s__law_source f cdv A outer s H E).xe := passes_of rfl
  exact (pssd_cons (psd_set (i := 2) sc__law_source.nd rfl (Or.inl rfl) (pd_if (pdt_cmp (op_neX hr.units) gNe_ok (pd_var 0) (pd_lst pda_nil) (nomark _)) (pd_sub (hu_of hr) (pd_var 0) (pd_op op_mod gMod_ok (pd_var 1) (pd_callB call_lenX gLen_ok (by rfl) m_len PySem.boot_len (pda_cons (pd_var 0) pda_nil))) (fun _ _ => rfl) (fun _ _ => rfl)) pd_int))
  (pssd_one (psd_ret (pd_lstM (pda_cons (pd_var 2) (pda_cons (pd_op op_mulX gMul_ok pd_int (pd_var 1)) (pda_cons (pd_if (pdt_cmp op_geX gLtL_ok (pd_var 2) (pd_op op_pow gPow_ok pd_int pd_int) (nomark _)) (pd_op op_fdivW gDiv_ok (pd_var 2) (pd_op op_pow gPow_ok pd_int pd_int)) pd_int) pda_nil)))))))
noncomputable def F__law_source : FF := fun ds A => finK (b__law_source (startD 3 ds) A)
theorem o__law_source (m_len : mg "len" = none) {f : Addr} {fd : FuncData} (Fn : Fun K "_law_source" "_law_source" s__law_source f fd) : FnG P w K mg base 1 f fd ["_law_script", "_law_k"] (spD K ct 2 F__law_source) := okD Fn sc__law_source (d__law_source m_len f) fun ds A _ h => finK_ok h

abbrev s__law_next : Stmt := topS 9
theorem sc__law_next : FnScope ["_law_source_here", "_law_many", "_law_found", "_law_primes", "_law_prime"] ["_law_source_here", "_law_many"] (defScope s__law_next) := ⟨rfl, rfl, rfl, by decide +kernel, rfl, by decide +kernel, by decide +kernel⟩
noncomputable def b__law_next : SF := (sSeq (sIf (tCmpD gGt (eBin gSubD (eVar 0) (eC (.int 2))) (eC (.int 0)))
  (sSeq (sAsg (eBin gMod (eBin gSubD (eVar 0) (eC (.int 2))) (eVar 1)) (gNm 2))
  (sSeq (sAsg (eBin gDiv (eBin gSubD (eVar 0) (eC (.int 2))) (eVar 1)) (gAt (eVar 0) (eC (.int 2))))
  (sRet (eVar 2))))
  sNx)
  (sSeq (sAsg (eBin gAdd (eBin gSubD (eVar 0) (eC (.int 1))) (eC (.int 1))) (gAt (eVar 0) (eC (.int 1))))
  (sSeq (sAsg (eArgs gLstD (aCons (eC (.int 2147483647)) (aCons (eC (.int 2147483629)) (aCons (eC (.int 2147483587)) (aCons (eC (.int 2147483579)) (aCons (eC (.int 2147483563)) (aCons (eC (.int 2147483549)) (aCons (eC (.int 2147483543)) (aCons (eC (.int 2147483497)) aNil))))))))) (gNm 3))
  (sSeq (sAsg (eBin gSubD (eBin gAdd (eVar 3) (eArgs gLstD (aCons (eC (.int 2147483489)) (aCons (eC (.int 2147483477)) (aCons (eC (.int 2147483423)) aNil))))) (eBin gMod (eBin gSubD (eVar 0) (eC (.int 1))) (eC (.int 11)))) (gNm 4))
  (sRet (eBin gMod (eBin gDiv (eBin gMod (eBin gPow (eBin gAdd (eBin gAdd (eBin gMod (eBin gSubD (eVar 0) (eC (.int 0))) (eVar 4)) (eBin gMul (eC (.int 7919)) (eBin gSubD (eVar 0) (eC (.int 1))))) (eC (.int 1))) (eC (.int 5))) (eVar 4)) (eC (.int 13))) (eVar 1)))))))
theorem d__law_next  (f : Addr) :
    ∀ (cdv : Value) (A : Around) (outer : List PySem.Env) (s : Shared) (H : Hp) (E : XK), A.guards = some [] → Room 0 (A.deeper (envOfC "_law_next" (defScope s__law_next) s.heap.objs.size f cdv)) → PSsD (cxD P w K mg base ["_law_source_here", "_law_many", "_law_found", "_law_primes", "_law_prime"] "_law_next" s__law_next f cdv A outer s H E) ct (WD E) (defBody s__law_next) b__law_next := by
  intro cdv A outer s H E hg hr
  have tk : Takes (cxD P w K mg base ["_law_source_here", "_law_many", "_law_found", "_law_primes", "_law_prime"] "_law_next" s__law_next f cdv A outer s H E) (WD E) := takes_of rfl rfl rfl rfl
  have hp : PassesOwn (model (cxD P w K mg base ["_law_source_here", "_law_many", "_law_found", "_law_primes", "_law_prime"] "_law_next" s__law_next f cdv A outer s H E).prog (cxD P w K mg base ["_law_source_here", "_law_many", "_law_found", "_law_primes", "_law_prime"] "_law_next" s__law_next f cdv A outer s H E).w) (cxD P w K mg base ["_law_source_here", "_law_many", "_law_found", "_law_primes", "_law_prime"] "_law_next" s__law_next f cdv A outer s H E).A (cxD P w K mg base ["_law_source_here", "_law_many", "_law_found", "_law_primes", "_law_prime"] "_law_next" s__law_next f cdv A outer s H E).env (cxD P w K mg base ["_law_source_here", "_law_many", "_law_found", "_law_primes", "_law_prime"] "_law_next" s__law_next f cdv A outer s H E).xe := passes_of rfl
  exact (pssd_cons (psd_if (pdt_cmp op_gtX gLtL_ok (pd_sub (hu_of hr) (pd_var 0) pd_int (fun _ _ => rfl) (fun _ _ => rfl)) pd_int (nomark _))
  (pssd_cons (psd_set (i := 2) sc__law_next.nd rfl (Or.inl rfl) (pd_op op_mod gMod_ok (pd_sub (hu_of hr) (pd_var 0) pd_int (fun _ _ => rfl) (fun _ _ => rfl)) (pd_var 1)))
  (pssd_cons (psd_asg (pd_op op_fdivW gDiv_ok (pd_sub (hu_of hr) (pd_var 0) pd_int (fun _ _ => rfl) (fun _ _ => rfl)) (pd_var 1)) (pgd_at (pd_var 0) pd_int (hu_of hr)))
  (pssd_one (psd_ret (pd_var 2)))))
  pssd_nil)
  (pssd_cons (psd_asg (pd_op op_addX gAdd_ok (pd_sub (hu_of hr) (pd_var 0) pd_int (fun _ _ => rfl) (fun _ _ => rfl)) pd_int) (pgd_at (pd_var 0) pd_int (hu_of hr)))
  (pssd_cons (psd_set (i := 3) sc__law_next.nd rfl (Or.inl rfl) (pd_lst (pda_cons pd_int (pda_cons pd_int (pda_cons pd_int (pda_cons pd_int (pda_cons pd_int (pda_cons pd_int (pda_cons pd_int (pda_cons pd_int pda_nil))))))))))
  (pssd_cons (psd_set (i := 4) sc__law_next.nd rfl (Or.inl rfl) (pd_sub (hu_of hr) (pd_op op_addX gAdd_ok (pd_var 3) (pd_lst (pda_cons pd_int (pda_cons pd_int (pda_cons pd_int pda_nil))))) (pd_op op_mod gMod_ok (pd_sub (hu_of hr) (pd_var 0) pd_int (fun _ _ => rfl) (fun _ _ => rfl)) pd_int) (fun _ _ => rfl) (fun _ _ => rfl)))
  (pssd_one (psd_ret (pd_op op_mod gMod_ok (pd_op op_fdivW gDiv_ok (pd_op op_mod gMod_ok (pd_op op_pow gPow_ok (pd_op op_addX gAdd_ok (pd_op op_addX gAdd_ok (pd_op op_mod gMod_ok (pd_sub (hu_of hr) (pd_var 0) pd_int (fun _ _ => rfl) (fun _ _ => rfl)) (pd_var 4)) (pd_op op_mulX gMul_ok pd_int (pd_sub (hu_of hr) (pd_var 0) pd_int (fun _ _ => rfl) (fun _ _ => rfl)))) pd_int) pd_int) (pd_var 4)) pd_int) (pd_var 1))))))))
noncomputable def F__law_next : FF := fun ds A => finR A (b__law_next (startD 5 ds) A)
theorem o__law_next  {f : Addr} {fd : FuncData} (Fn : Fun K "_law_next" "_law_next" s__law_next f fd) : FnG P w K mg base 1 f fd ["_law_source_here", "_law_many"] (spD K ct 2 F__law_next) := okD Fn sc__law_next (d__law_next  f) fun ds A _ h => finR_ok h

abbrev s__law_pick : Stmt := topS 10
theorem sc__law_pick : FnScope ["_law_source_here", "_law_items"] ["_law_source_here", "_law_items"] (defScope s__law_pick) := ⟨rfl, rfl, rfl, by decide +kernel, rfl, by decide +kernel, by decide +kernel⟩
noncomputable def b__law_pick : SF := (sRet (eBin gSubD (eVar 1) (eArgs (fun ds A => F__law_next (ds ++ []) A) (aCons (eVar 0) (aCons (eArgs gLen (aCons (eVar 1) aNil)) aNil)))))
theorem d__law_pick (c__law_next : Cal P w K mg base ct 1 "_law_next" 2 [] F__law_next) (m_len : mg "len" = none) (f : Addr) :
    ∀ (cdv : Value) (A : Around) (outer : List PySem.Env) (s : Shared) (H : Hp) (E : XK), A.guards = some [] → Room 1 (A.deeper (envOfC "_law_pick" (defScope s__law_pick) s.heap.objs.size f cdv)) → PSsD (cxD P w K mg base ["_law_source_here", "_law_items"] "_law_pick" s__law_pick f cdv A outer s H E) ct (WD E) (defBody s__law_pick) b__law_pick := by
  intro cdv A outer s H E hg hr
  have tk : Takes (cxD P w K mg base ["_law_source_here", "_law_items"] "_law_pick" s__law_pick f cdv A outer s H E) (WD E) := takes_of rfl rfl rfl rfl
  have hp : PassesOwn (model (cxD P w K mg base ["_law_source_here", "_law_items"] "_law_pick" s__law_pick f cdv A outer s H E).prog (cxD P w K mg base ["_law_source_here", "_law_items"] "_law_pick" s__law_pick f cdv A outer s H E).w) (cxD P w K mg base ["_law_source_here", "_law_items"] "_law_pick" s__law_pick f cdv A outer s H E).A (cxD P w K mg base ["_law_source_here", "_law_items"] "_law_pick" s__law_pick f cdv A outer s H E).env (cxD P w K mg base ["_law_source_here", "_law_items"] "_law_pick" s__law_pick f cdv A outer s H E).xe := passes_of rfl
  exact (pssd_one (psd_ret (pd_sub (hu_of hr) (pd_var 1) (pd_call c__law_next hg hr (by decide) (by rfl) tk (pda_cons (pd_var 0) (pda_cons (pd_callB call_lenX gLen_ok (by rfl) m_len PySem.boot_len (pda_cons (pd_var 1) pda_nil)) pda_nil)) (ar_cons (ar_cons ar_nil)) rfl) (fun _ _ => rfl) (fun _ _ => rfl))))
noncomputable def F__law_pick : FF := fun ds A => finR A (b__law_pick (startD 2 ds) A)
theorem o__law_pick (c__law_next : Cal P w K mg base ct 1 "_law_next" 2 [] F__law_next) (m_len : mg "len" = none) {f : Addr} {fd : FuncData} (Fn : Fun K "_law_pick" "_law_pick" s__law_pick f fd) : FnG P w K mg base 2 f fd ["_law_source_here", "_law_items"] (spD K ct 2 F__law_pick) := okD Fn sc__law_pick (d__law_pick c__law_next m_len f) fun ds A _ h => finR_ok h

abbrev s__law_alphabet_name : Stmt := topS 11
theorem sc__law_alphabet_name : FnScope ["_law_source_here", "_law_most", "_law_found", "_law_turn", "_law_spot"] ["_law_source_here", "_law_most"] (defScope s__law_alphabet_name) := ⟨rfl, rfl, rfl, by decide +kernel, rfl, by decide +kernel, by decide +kernel⟩
noncomputable def b__law_alphabet_name : SF := (sSeq (sAsg (eC (.str "")) (gNm 2))
  (sSeq (sFor (iRange1 (aCons (eArgs (fun ds A => F__law_next (ds ++ []) A) (aCons (eVar 0) (aCons (eBin gAdd (eVar 1) (eC (.int 1))) aNil))) aNil)) (gNm 3)
  (sAsg (eBin gAdd (eVar 2) (eArgs (fun ds A => F__law_pick (ds ++ []) A) (aCons (eVar 0) (aCons (eArgs gLstD (aCons (eC (.str "a")) (aCons (eC (.str "b")) (aCons (eC (.str "z")) (aCons (eC (.str "m")) (aCons (eC (.str "q")) aNil)))))) aNil)))) (gNm 2)))
  (sSeq (sIf (tCmpD gEq (eArgs (fun ds A => F__law_next (ds ++ []) A) (aCons (eVar 0) (aCons (eC (.int 3)) aNil))) (eC (.int 0)))
  (sSeq (sAsg (eArgs (fun ds A => F__law_next (ds ++ []) A) (aCons (eVar 0) (aCons (eBin gAdd (eArgs gLen (aCons (eVar 2) aNil)) (eC (.int 1))) aNil))) (gNm 4))
  (sAsg (eBin gAdd (eBin gAdd (eCut (eVar 2) oNone (oSome (eVar 4))) (eArgs (fun ds A => F__law_pick (ds ++ []) A) (aCons (eVar 0) (aCons (eArgs gLstD (aCons (eC (.str "A")) (aCons (eC (.str "Z")) (aCons (eC (.str "0")) (aCons (eC (.str "_")) (aCons (eC (.str " ")) (aCons (eC (.str "-")) (aCons (eC (.str "`")) (aCons (eC (.str "{")) (aCons (eC (.str "\n")) (aCons (eC (.str "\t")) aNil))))))))))) aNil)))) (eCut (eVar 2) (oSome (eVar 4)) oNone)) (gNm 2)))
  sNx)
  (sRet (eVar 2)))))
theorem d__law_alphabet_name (c__law_next : Cal P w K mg base ct 1 "_law_next" 2 [] F__law_next) (c__law_pick : Cal P w K mg base ct 2 "_law_pick" 2 [] F__law_pick) (m_range : mg "range" = none) (m_len : mg "len" = none) (f : Addr) :
    ∀ (cdv : Value) (A : Around) (outer : List PySem.Env) (s : Shared) (H : Hp) (E : XK), A.guards = some [] → Room 2 (A.deeper (envOfC "_law_alphabet_name" (defScope s__law_alphabet_name) s.heap.objs.size f cdv)) → PSsD (cxD P w K mg base ["_law_source_here", "_law_most", "_law_found", "_law_turn", "_law_spot"] "_law_alphabet_name" s__law_alphabet_name f cdv A outer s H E) ct (WD E) (defBody s__law_alphabet_name) b__law_alphabet_name := by
  intro cdv A outer s H E hg hr
  have tk : Takes (cxD P w K mg base ["_law_source_here", "_law_most", "_law_found", "_law_turn", "_law_spot"] "_law_alphabet_name" s__law_alphabet_name f cdv A outer s H E) (WD E) := takes_of rfl rfl rfl rfl
  have hp : PassesOwn (model (cxD P w K mg base ["_law_source_here", "_law_most", "_law_found", "_law_turn", "_law_spot"] "_law_alphabet_name" s__law_alphabet_name f cdv A outer s H E).prog (cxD P w K mg base ["_law_source_here", "_law_most", "_law_found", "_law_turn", "_law_spot"] "_law_alphabet_name" s__law_alphabet_name f cdv A outer s H E).w) (cxD P w K mg base ["_law_source_here", "_law_most", "_law_found", "_law_turn", "_law_spot"] "_law_alphabet_name" s__law_alphabet_name f cdv A outer s H E).A (cxD P w K mg base ["_law_source_here", "_law_most", "_law_found", "_law_turn", "_law_spot"] "_law_alphabet_name" s__law_alphabet_name f cdv A outer s H E).env (cxD P w K mg base ["_law_source_here", "_law_most", "_law_found", "_law_turn", "_law_spot"] "_law_alphabet_name" s__law_alphabet_name f cdv A outer s H E).xe := passes_of rfl
  exact (pssd_cons (psd_set (i := 2) sc__law_alphabet_name.nd rfl (Or.inl rfl) pd_str)
  (pssd_cons (psd_for hp rfl (pid_range1 (by rfl) m_range (pda_cons (pd_call c__law_next hg hr (by decide) (by rfl) tk (pda_cons (pd_var 0) (pda_cons (pd_op op_addX gAdd_ok (pd_var 1) pd_int) pda_nil)) (ar_cons (ar_cons ar_nil)) rfl) pda_nil)) (pgd_name (i := 3) sc__law_alphabet_name.nd rfl (Or.inl rfl))
  (pssd_one (psd_set (i := 2) sc__law_alphabet_name.nd rfl (Or.inl rfl) (pd_op op_addX gAdd_ok (pd_var 2) (pd_call c__law_pick hg hr (by decide) (by rfl) tk (pda_cons (pd_var 0) (pda_cons (pd_lst (pda_cons pd_str (pda_cons pd_str (pda_cons pd_str (pda_cons pd_str (pda_cons pd_str pda_nil)))))) pda_nil)) (ar_cons (ar_cons ar_nil)) rfl)))))
  (pssd_cons (psd_if (pdt_cmp (op_eqX hr.units) gEq_ok (pd_call c__law_next hg hr (by decide) (by rfl) tk (pda_cons (pd_var 0) (pda_cons pd_int pda_nil)) (ar_cons (ar_cons ar_nil)) rfl) pd_int (nomark _))
  (pssd_cons (psd_set (i := 4) sc__law_alphabet_name.nd rfl (Or.inl rfl) (pd_call c__law_next hg hr (by decide) (by rfl) tk (pda_cons (pd_var 0) (pda_cons (pd_op op_addX gAdd_ok (pd_callB call_lenX gLen_ok (by rfl) m_len PySem.boot_len (pda_cons (pd_var 2) pda_nil)) pd_int) pda_nil)) (ar_cons (ar_cons ar_nil)) rfl))
  (pssd_one (psd_set (i := 2) sc__law_alphabet_name.nd rfl (Or.inl rfl) (pd_op op_addX gAdd_ok (pd_op op_addX gAdd_ok (pd_cut (pd_var 2) pdo_none (pdo_some (pd_var 4))) (pd_call c__law_pick hg hr (by decide) (by rfl) tk (pda_cons (pd_var 0) (pda_cons (pd_lst (pda_cons pd_str (pda_cons pd_str (pda_cons pd_str (pda_cons pd_str (pda_cons pd_str (pda_cons pd_str (pda_cons pd_str (pda_cons pd_str (pda_cons pd_str (pda_cons pd_str pda_nil))))))))))) pda_nil)) (ar_cons (ar_cons ar_nil)) rfl)) (pd_cut (pd_var 2) (pdo_some (pd_var 4)) pdo_none)))))
  pssd_nil)
  (pssd_one (psd_ret (pd_var 2))))))
noncomputable def F__law_alphabet_name : FF := fun ds A => finR A (b__law_alphabet_name (startD 5 ds) A)
theorem o__law_alphabet_name (c__law_next : Cal P w K mg base ct 1 "_law_next" 2 [] F__law_next) (c__law_pick : Cal P w K mg base ct 2 "_law_pick" 2 [] F__law_pick) (m_range : mg "range" = none) (m_len : mg "len" = none) {f : Addr} {fd : FuncData} (Fn : Fun K "_law_alphabet_name" "_law_alphabet_name" s__law_alphabet_name f fd) : FnG P w K mg base 3 f fd ["_law_source_here", "_law_most"] (spD K ct 2 F__law_alphabet_name) := okD Fn sc__law_alphabet_name (d__law_alphabet_name c__law_next c__law_pick m_range m_len f) fun ds A _ h => finR_ok h

abbrev s__law_is_name_here : Stmt := topS 12
theorem sc__law_is_name_here : FnScope ["_law_thing", "_law_sign"] ["_law_thing"] (defScope s__law_is_name_here) := ⟨rfl, rfl, rfl, by decide +kernel, rfl, by decide +kernel, by decide +kernel⟩
noncomputable def b__law_is_name_here : SF := (sSeq (sIf (tOrD (tNotD (tOfE (eArgs gIsa (aCons (eVar 0) (aCons (eC (.cls (.bi "str"))) aNil))))) (tNotD (fun ro A => ((eChain gLe gLe (eC (.int 1)) (eArgs gLen (aCons (eVar 0) aNil)) (eC (.int 8))) ro A).bind gBool)))
  (sRet (eC (.bl false)))
  sNx)
  (sRet (eBin gEq (eComp (iSeq (eVar 0)) (.one 1) [1] (tNotD (fun ro A => ((eChain gLe gLe (eC (.str "a")) (eVar 1) (eC (.str "z"))) ro A).bind gBool)) (eVar 1)) (eArgs gLstD aNil))))
theorem d__law_is_name_here (m_isinstance : mg "isinstance" = none) (m_str : mg "str" = none) (m_len : mg "len" = none) (f : Addr) :
    ∀ (cdv : Value) (A : Around) (outer : List PySem.Env) (s : Shared) (H : Hp) (E : XK), A.guards = some [] → Room 0 (A.deeper (envOfC "_law_is_name_here" (defScope s__law_is_name_here) s.heap.objs.size f cdv)) → PSsD (cxD P w K mg base ["_law_thing", "_law_sign"] "_law_is_name_here" s__law_is_name_here f cdv A outer s H E) ct (WD E) (defBody s__law_is_name_here) b__law_is_name_here := by
  intro cdv A outer s H E hg hr
  have tk : Takes (cxD P w K mg base ["_law_thing", "_law_sign"] "_law_is_name_here" s__law_is_name_here f cdv A outer s H E) (WD E) := takes_of rfl rfl rfl rfl
  have hp : PassesOwn (model (cxD P w K mg base ["_law_thing", "_law_sign"] "_law_is_name_here" s__law_is_name_here f cdv A outer s H E).prog (cxD P w K mg base ["_law_thing", "_law_sign"] "_law_is_name_here" s__law_is_name_here f cdv A outer s H E).w) (cxD P w K mg base ["_law_thing", "_law_sign"] "_law_is_name_here" s__law_is_name_here f cdv A outer s H E).A (cxD P w K mg base ["_law_thing", "_law_sign"] "_law_is_name_here" s__law_is_name_here f cdv A outer s H E).env (cxD P w K mg base ["_law_thing", "_law_sign"] "_law_is_name_here" s__law_is_name_here f cdv A outer s H E).xe := passes_of rfl
  exact (pssd_cons (psd_if (pdw_t (pdw_or (pdt_not (pdt_truth (pd_callB call_isi gIsa_ok (by rfl) m_isinstance (by decide +kernel) (pda_cons (pd_var 0) (pda_cons (pd_c (pe_bltn (v := .ty "str") (u := .type "str") (by rfl) m_str (by decide +kernel) rfl) (fun _ _ => .ty _)) pda_nil))))) (pdw_or1 (pdt_not (pdt_chain op_leX gLtL_ok op_leX gLtL_ok pd_int (pd_callB call_lenX gLen_ok (by rfl) m_len PySem.boot_len (pda_cons (pd_var 0) pda_nil)) pd_int)))))
  (pssd_one (psd_ret pd_bl))
  pssd_nil)
  (pssd_one (psd_ret (pd_cmp (op_eqX hr.units) gEq_ok (pd_comp (own := [("_law_sign", 1)]) rfl sc__law_is_name_here.nd (pid_seq (pd_var 0)) (blkOk_by (N := ["_law_thing", "_law_sign"]) (sc := (defScope s__law_is_name_here)) (by decide +kernel)) (by decide) (fun _ _ _ _ _ => pg_name (i := 1) sc__law_is_name_here.nd rfl (Or.inl rfl)) (fun _ _ _ _ _ => (ptsd_one (pdt_not (pdt_chain op_leX gLtL_ok op_leX gLtL_ok pd_str (pd_var 1) pd_str)))) (fun _ _ _ _ _ => (pd_var 1))) (pd_lst pda_nil) (nomark _)))))
noncomputable def F__law_is_name_here : FF := fun ds A => finR A (b__law_is_name_here (startD 2 ds) A)
theorem o__law_is_name_here (m_isinstance : mg "isinstance" = none) (m_str : mg "str" = none) (m_len : mg "len" = none) {f : Addr} {fd : FuncData} (Fn : Fun K "_law_is_name_here" "_law_is_name_here" s__law_is_name_here f fd) : FnG P w K mg base 1 f fd ["_law_thing"] (spD K ct 1 F__law_is_name_here) := okD Fn sc__law_is_name_here (d__law_is_name_here m_isinstance m_str m_len f) fun ds A _ h => finR_ok h

abbrev s__law_is_row_here : Stmt := topS 13
theorem sc__law_is_row_here : FnScope ["_law_thing", "_law_item"] ["_law_thing"] (defScope s__law_is_row_here) := ⟨rfl, rfl, rfl, by decide +kernel, rfl, by decide +kernel, by decide +kernel⟩
noncomputable def b__law_is_row_here : SF := (sSeq (sIf (tOrD (tNotD (tOfE (eArgs gIsa (aCons (eVar 0) (aCons (eC (.cls (.bi "tuple"))) aNil))))) (tCmpD gGt (eArgs gLen (aCons (eVar 0) aNil)) (eC (.int 4))))
  (sRet (eC (.bl false)))
  sNx)
  (sRet (eAndD (eBin gEq (eComp (iSeq (eVar 0)) (.one 1) [1] (tNotD (tOfE (eArgs (fun ds A => F__law_is_name_here (ds ++ []) A) (aCons (eVar 1) aNil)))) (eVar 1)) (eArgs gLstD aNil)) (eBin gEq (eUn gLenSet (eVar 0)) (eArgs gLen (aCons (eVar 0) aNil))))))
theorem d__law_is_row_here (c__law_is_name_here : Cal P w K mg base ct 1 "_law_is_name_here" 1 [] F__law_is_name_here) (m_isinstance : mg "isinstance" = none) (m_tuple : mg "tuple" = none) (m_len : mg "len" = none) (m_set : mg "set" = none) (f : Addr) :
    ∀ (cdv : Value) (A : Around) (outer : List PySem.Env) (s : Shared) (H : Hp) (E : XK), A.guards = some [] → Room 1 (A.deeper (envOfC "_law_is_row_here" (defScope s__law_is_row_here) s.heap.objs.size f cdv)) → PSsD (cxD P w K mg base ["_law_thing", "_law_item"] "_law_is_row_here" s__law_is_row_here f cdv A outer s H E) ct (WD E) (defBody s__law_is_row_here) b__law_is_row_here := by
  intro cdv A outer s H E hg hr
  have tk : Takes (cxD P w K mg base ["_law_thing", "_law_item"] "_law_is_row_here" s__law_is_row_here f cdv A outer s H E) (WD E) := takes_of rfl rfl rfl rfl
  have hp : PassesOwn (model (cxD P w K mg base ["_law_thing", "_law_item"] "_law_is_row_here" s__law_is_row_here f cdv A outer s H E).prog (cxD P w K mg base ["_law_thing", "_law_item"] "_law_is_row_here" s__law_is_row_here f cdv A outer s H E).w) (cxD P w K mg base ["_law_thing", "_law_item"] "_law_is_row_here" s__law_is_row_here f cdv A outer s H E).A (cxD P w K mg base ["_law_thing", "_law_item"] "_law_is_row_here" s__law_is_row_here f cdv A outer s H E).env (cxD P w K mg base ["_law_thing", "_law_item"] "_law_is_row_here" s__law_is_row_here f cdv A outer s H E).xe := passes_of rfl
  exact (pssd_cons (psd_if (pdw_t (pdw_or (pdt_not (pdt_truth (pd_callB call_isi gIsa_ok (by rfl) m_isinstance (by decide +kernel) (pda_cons (pd_var 0) (pda_cons (pd_c (pe_bltn (v := .ty "tuple") (u := .type "tuple") (by rfl) m_tuple (by decide +kernel) rfl) (fun _ _ => .ty _)) pda_nil))))) (pdw_or1 (pdt_cmp op_gtX gLtL_ok (pd_callB call_lenX gLen_ok (by rfl) m_len PySem.boot_len (pda_cons (pd_var 0) pda_nil)) pd_int (nomark _)))))
  (pssd_one (psd_ret pd_bl))
  pssd_nil)
  (pssd_one (psd_ret (pd_and (pd_cmp (op_eqX hr.units) gEq_ok (pd_comp (own := [("_law_item", 1)]) rfl sc__law_is_row_here.nd (pid_seq (pd_var 0)) (blkOk_by (N := ["_law_thing", "_law_item"]) (sc := (defScope s__law_is_row_here)) (by decide +kernel)) (by decide) (fun _ _ _ _ _ => pg_name (i := 1) sc__law_is_row_here.nd rfl (Or.inl rfl)) (fun _ _ _ _ _ => (ptsd_one (pdt_not (pdt_truth (pd_call c__law_is_name_here hg hr (by decide) (by rfl) takes0 (pda_cons (pd_var 1) pda_nil) (ar_cons ar_nil) rfl))))) (fun _ _ _ _ _ => (pd_var 1))) (pd_lst pda_nil) (nomark _)) (pd_one (pd_cmp (op_eqX hr.units) gEq_ok (pd_lenSet rfl (by rfl) m_len (by rfl) m_set (pd_var 0)) (pd_callB call_lenX gLen_ok (by rfl) m_len PySem.boot_len (pda_cons (pd_var 0) pda_nil)) (nomark _)))))))
noncomputable def F__law_is_row_here : FF := fun ds A => finR A (b__law_is_row_here (startD 2 ds) A)
theorem o__law_is_row_here (c__law_is_name_here : Cal P w K mg base ct 1 "_law_is_name_here" 1 [] F__law_is_name_here) (m_isinstance : mg "isinstance" = none) (m_tuple : mg "tuple" = none) (m_len : mg "len" = none) (m_set : mg "set" = none) {f : Addr} {fd : FuncData} (Fn : Fun K "_law_is_row_here" "_law_is_row_here" s__law_is_row_here f fd) : FnG P w K mg base 2 f fd ["_law_thing"] (spD K ct 1 F__law_is_row_here) := okD Fn sc__law_is_row_here (d__law_is_row_here c__law_is_name_here m_isinstance m_tuple m_len m_set f) fun ds A _ h => finR_ok h

abbrev s__law_some_name : Stmt := topS 14
theorem sc__law_some_name : FnScope ["_law_source_here"] ["_law_source_here"] (defScope s__law_some_name) := ⟨rfl, rfl, rfl, by decide +kernel, rfl, by decide +kernel, by decide +kernel⟩
noncomputable def b__law_some_name : SF := (sRet (eArgs (fun ds A => F__law_pick (ds ++ []) A) (aCons (eVar 0) (aCons (eArgs gLstD (aCons (eC (.str "a")) (aCons (eC (.str "b")) (aCons (eC (.str "c")) (aCons (eC (.str "d")) (aCons (eC (.str "node")) (aCons (eC (.str "zzzzzzzz")) (aCons (eC (.str "box")) aNil)))))))) aNil))))
theorem d__law_some_name (c__law_pick : Cal P w K mg base ct 2 "_law_pick" 2 [] F__law_pick) (f : Addr) :
    ∀ (cdv : Value) (A : Around) (outer : List PySem.Env) (s : Shared) (H : Hp) (E : XK), A.guards = some [] → Room 2 (A.deeper (envOfC "_law_some_name" (defScope s__law_some_name) s.heap.objs.size f cdv)) → PSsD (cxD P w K mg base ["_law_source_here"] "_law_some_name" s__law_some_name f cdv A outer s H E) ct (WD E) (defBody s__law_some_name) b__law_some_name := by
  intro cdv A outer s H E hg hr
  have tk : Takes (cxD P w K mg base ["_law_source_here"] "_law_some_name" s__law_some_name f cdv A outer s H E) (WD E) := takes_of rfl rfl rfl rfl
  have hp : PassesOwn (model (cxD P w K mg base ["_law_source_here"] "_law_some_name" s__law_some_name f cdv A outer s H E).prog (cxD P w K mg base ["_law_source_here"] "_law_some_name" s__law_some_name f cdv A outer s H E).w) (cxD P w K mg base ["_law_source_here"] "_law_some_name" s__law_some_name f cdv A outer s H E).A (cxD P w K mg base ["_law_source_here"] "_law_some_name" s__law_some_name f cdv A outer s H E).env (cxD P w K mg base ["_law_source_here"] "_law_some_name" s__law_some_name f cdv A outer s H E).xe := passes_of rfl
  exact (pssd_one (psd_ret (pd_call c__law_pick hg hr (by decide) (by rfl) tk (pda_cons (pd_var 0) (pda_cons (pd_lst (pda_cons pd_str (pda_cons pd_str (pda_cons pd_str (pda_cons pd_str (pda_cons pd_str (pda_cons pd_str (pda_cons pd_str pda_nil)))))))) pda_nil)) (ar_cons (ar_cons ar_nil)) rfl)))
noncomputable def F__law_some_name : FF := fun ds A => finR A (b__law_some_name (startD 1 ds) A)
theorem o__law_some_name (c__law_pick : Cal P w K mg base ct 2 "_law_pick" 2 [] F__law_pick) {f : Addr} {fd : FuncData} (Fn : Fun K "_law_some_name" "_law_some_name" s__law_some_name f fd) : FnG P w K mg base 3 f fd ["_law_source_here"] (spD K ct 1 F__law_some_name) := okD Fn sc__law_some_name (d__law_some_name c__law_pick f) fun ds A _ h => finR_ok h

abbrev s_law : Stmt := topS 15
theorem sc_law : FnScope ["_law_script", "_law_source_here", "_law_odd", "_law_thing", "_law_turn", "_law_some", "_law_k"] ["_law_script"] (defScope s_law) := ⟨rfl, rfl, rfl, by decide +kernel, rfl, by decide +kernel, by decide +kernel⟩
noncomputable def b_law : SF := (sSeq (sAsg (eArgs (fun ds A => F__law_source (ds ++ []) A) (aCons (eVar 0) (aCons (eC (.int 0)) aNil))) (gNm 1))
  (sSeq (sAsg (eArgs gLstD (aCons (eC .non) (aCons (eC (.int 5)) (aCons (eC (.bl true)) (aCons (eArgs gTupD (aCons (eC (.str "a")) aNil)) (aCons (eArgs gLstD (aCons (eC (.str "a")) aNil)) (aCons eDicN (aCons (eC (.str "")) (aCons (eC (.str "Box")) (aCons (eC (.str "a b")) (aCons (eC (.str "abcdefghi")) (aCons (eC (.str "abcdefgh")) (aCons (eC (.str "z")) (aCons (eC (.str "name")) (aCons (eC (.str "self")) aNil))))))))))))))) (gNm 2))
  (sSeq (sFor (iSeq (eBin gAdd (eVar 2) (eComp (iRange1 (aCons (eC (.int 20)) aNil)) (.one 4) [4] ttYes (eArgs (fun ds A => F__law_alphabet_name (ds ++ []) A) (aCons (eVar 1) (aCons (eC (.int 10)) aNil)))))) (gNm 3)
  (sIf (tCmpD gNe (eArgs gRepr (aCons (eArgs (fun ds A => F_is_name (ds ++ []) A) (aCons (eVar 3) aNil)) aNil)) (eArgs gRepr (aCons (eArgs (fun ds A => F__law_is_name_here (ds ++ []) A) (aCons (eVar 3) aNil)) aNil)))
  (sRet (eC (.bl false)))
  sNx))
  (sSeq (sFor (iRange1 (aCons (eC (.int 20)) aNil)) (gNm 4)
  (sSeq (sAsg (eComp (iRange1 (aCons (eArgs (fun ds A => F__law_next (ds ++ []) A) (aCons (eVar 1) (aCons (eC (.int 3)) aNil))) aNil)) (.one 6) [6] ttYes (eArgs (fun ds A => F__law_alphabet_name (ds ++ []) A) (aCons (eVar 1) (aCons (eC (.int 3)) aNil)))) (gNm 5))
  (sSeq (sAsg (eBin gAdd (eVar 5) (eComp (iRange1 (aCons (eArgs (fun ds A => F__law_next (ds ++ []) A) (aCons (eVar 1) (aCons (eC (.int 4)) aNil))) aNil)) (.one 6) [6] ttYes (eArgs (fun ds A => F__law_some_name (ds ++ []) A) (aCons (eVar 1) aNil)))) (gNm 5))
  (sFor (iSeq (eArgs gTupD (aCons (eArgs gTuple (aCons (eVar 5) aNil)) (aCons (eVar 5) (aCons (eArgs gTuple (aCons (eBin gAdd (eVar 5) (eCut (eVar 5) oNone (oSome (eC (.int 1))))) aNil)) (aCons (eBin gAdd (eArgs gTuple (aCons (eVar 5) aNil)) (eArgs gTupD (aCons (eC .non) aNil))) (aCons (eArgs gTuple (aCons (eCut (eVar 5) oNone (oSome (eC (.int 1)))) aNil)) aNil))))))) (gNm 3)
  (sIf (tCmpD gNe (eArgs gRepr (aCons (eArgs (fun ds A => F_is_row (ds ++ []) A) (aCons (eVar 3) aNil)) aNil)) (eArgs gRepr (aCons (eArgs (fun ds A => F__law_is_row_here (ds ++ []) A) (aCons (eVar 3) aNil)) aNil)))
  (sRet (eC (.bl false)))
  sNx)))))
  (sSeq (sFor (iSeq (eBin gAdd (eVar 2) (eArgs gLstD (aCons (eArgs gTupD aNil) (aCons (eArgs gTupD (aCons (eC (.str "a")) (aCons (eC (.str "b")) (aCons (eC (.str "c")) (aCons (eC (.str "d")) aNil))))) (aCons (eArgs gTupD (aCons (eC (.str "a")) (aCons (eC (.str "b")) (aCons (eC (.str "c")) (aCons (eC (.str "d")) (aCons (eC (.str "e")) aNil)))))) (aCons (eArgs gTupD (aCons (eC (.str "a")) (aCons (eC (.str "a")) aNil))) (aCons (eArgs gTupD (aCons (eArgs gTupD (aCons (eC (.str "a")) aNil)) aNil)) (aCons (eArgs gTupD (aCons (eArgs gLstD (aCons (eC (.str "a")) aNil)) aNil)) aNil))))))))) (gNm 3)
  (sIf (tCmpD gNe (eArgs gRepr (aCons (eArgs (fun ds A => F_is_row (ds ++ []) A) (aCons (eVar 3) aNil)) aNil)) (eArgs gRepr (aCons (eArgs (fun ds A => F__law_is_row_here (ds ++ []) A) (aCons (eVar 3) aNil)) aNil)))
  (sRet (eC (.bl false)))
  sNx))
  (sRet (eAndD (eArgs (fun ds A => F_is_row (ds ++ []) A) (aCons (eArgs gTupD aNil) aNil)) (eAndD (eArgs (fun ds A => F_is_row (ds ++ []) A) (aCons (eArgs gTupD (aCons (eC (.str "a")) (aCons (eC (.str "b")) (aCons (eC (.str "c")) (aCons (eC (.str "d")) aNil))))) aNil)) (eNotD (eArgs (fun ds A => F_is_row (ds ++ []) A) (aCons (eArgs gTupD (aCons (eC (.str "a")) (aCons (eC (.str "b")) (aCons (eC (.str "c")) (aCons (eC (.str "d")) (aCons (eC (.str "e")) aNil)))))) aNil)))))))))))
theorem d_law (c__law_source : Cal P w K mg base ct 1 "_law_source" 2 [] F__law_source) (c__law_alphabet_name : Cal P w K mg base ct 3 "_law_alphabet_name" 2 [] F__law_alphabet_name) (c_is_name : Cal P w K mg base ct 1 "is_name" 1 [] F_is_name) (c__law_is_name_here : Cal P w K mg base ct 1 "_law_is_name_here" 1 [] F__law_is_name_here) (c__law_next : Cal P w K mg base ct 1 "_law_next" 2 [] F__law_next) (c__law_some_name : Cal P w K mg base ct 3 "_law_some_name" 1 [] F__law_some_name) (c_is_row : Cal P w K mg base ct 3 "is_row" 1 [] F_is_row) (c__law_is_row_here : Cal P w K mg base ct 2 "_law_is_row_here" 1 [] F__law_is_row_here) (m_range : mg "range" = none) (m_repr : mg "repr" = none) (m_tuple : mg "tuple" = none) (f : Addr) :
    ∀ (cdv : Value) (A : Around) (outer : List PySem.Env) (s : Shared) (H : Hp) (E : XK), A.guards = some [] → Room 3 (A.deeper (envOfC "law" (defScope s_law) s.heap.objs.size f cdv)) → PSsD (cxD P w K mg base ["_law_script", "_law_source_here", "_law_odd", "_law_thing", "_law_turn", "_law_some", "_law_k"] "law" s_law f cdv A outer s H E) ct (WD E) (defBody s_law) b_law := by
  intro cdv A outer s H E hg hr
  have tk : Takes (cxD P w K mg base ["_law_script", "_law_source_here", "_law_odd", "_law_thing", "_law_turn", "_law_some", "_law_k"] "law" s_law f cdv A outer s H E) (WD E) := takes_of rfl rfl rfl rfl
  have hp : PassesOwn (model (cxD P w K mg base ["_law_script", "_law_source_here", "_law_odd", "_law_thing", "_law_turn", "_law_some", "_law_k"] "law" s_law f cdv A outer s H E).prog (cxD P w K mg base ["_law_script", "_law_source_here", "_law_odd", "_law_thing", "_law_turn", "_law_some", "_law_k"] "law" s_law f cdv A outer s H E).w) (cxD P w K mg base ["_law_script", "_law_source_here", "_law_odd", "_law_thing", "_law_turn", "_law_some", "_law_k"] "law" s_law f cdv A outer s H E).A (cxD P w K mg base ["_law_script", "_law_source_here", "_law_odd", "_law_thing", "_law_turn", "_law_some", "_law_k"] "law" s_law f cdv A outer s H E).env (cxD P w K mg base ["_law_script", "_law_source_here", "_law_odd", "_law_thing", "_law_turn", "_law_some", "_law_k"] "law" s_law f cdv A outer s H E).xe := passes_of rfl
  exact (pssd_cons (psd_set (i := 1) sc_law.nd rfl (Or.inr rfl) (pd_call c__law_source hg hr (by decide) (by rfl) tk (pda_cons (pd_var 0) (pda_cons pd_int pda_nil)) (ar_cons (ar_cons ar_nil)) rfl))
  (pssd_cons (psd_set (i := 2) sc_law.nd rfl (Or.inl rfl) (pd_lst (pda_cons pd_non (pda_cons pd_int (pda_cons pd_bl (pda_cons (pd_tup (pda_cons pd_str pda_nil)) (pda_cons (pd_lst (pda_cons pd_str pda_nil)) (pda_cons pd_dicN (pda_cons pd_str (pda_cons pd_str (pda_cons pd_str (pda_cons pd_str (pda_cons pd_str (pda_cons pd_str (pda_cons pd_str (pda_cons pd_str pda_nil))))))))))))))))
  (pssd_cons (psd_for hp rfl (pid_seq (pd_op op_addX gAdd_ok (pd_var 2) (pd_comp (own := [("_law_turn", 4)]) rfl sc_law.nd (pid_range1 (by rfl) m_range (pda_cons pd_int pda_nil)) (blkOk_by (N := ["_law_script", "_law_source_here", "_law_odd", "_law_thing", "_law_turn", "_law_some", "_law_k"]) (sc := (defScope s_law)) (by decide +kernel)) (by decide) (fun _ _ _ _ _ => pg_name (i := 4) sc_law.nd rfl (Or.inl rfl)) (fun _ _ _ _ _ => ptsd_nil) (fun _ _ _ _ _ => (pd_call c__law_alphabet_name hg hr (by decide) (by rfl) takes0 (pda_cons (pd_var 1) (pda_cons pd_int pda_nil)) (ar_cons (ar_cons ar_nil)) rfl))))) (pgd_name (i := 3) sc_law.nd rfl (Or.inl rfl))
  (pssd_one (psd_if (pdt_cmp (op_neX hr.units) gNe_ok (pd_callB (call_repr hg hr.units) gRepr_ok (by rfl) m_repr (by decide +kernel) (pda_cons (pd_call c_is_name hg hr (by decide) (by rfl) tk (pda_cons (pd_var 3) pda_nil) (ar_cons ar_nil) rfl) pda_nil)) (pd_callB (call_repr hg hr.units) gRepr_ok (by rfl) m_repr (by decide +kernel) (pda_cons (pd_call c__law_is_name_here hg hr (by decide) (by rfl) tk (pda_cons (pd_var 3) pda_nil) (ar_cons ar_nil) rfl) pda_nil)) (nomark _))
  (pssd_one (psd_ret pd_bl))
  pssd_nil)))
  (pssd_cons (psd_for hp rfl (pid_range1 (by rfl) m_range (pda_cons pd_int pda_nil)) (pgd_name (i := 4) sc_law.nd rfl (Or.inl rfl))
  (pssd_cons (psd_setComp (i := 5) (own := [("_law_k", 6)]) rfl sc_law.nd rfl rfl (sw_true rfl rfl rfl (by decide +kernel)) (pid_range1 (by rfl) m_range (pda_cons (pd_call c__law_next hg hr (by decide) (by rfl) tk (pda_cons (pd_var 1) (pda_cons pd_int pda_nil)) (ar_cons (ar_cons ar_nil)) rfl) pda_nil)) (blkOk_by (N := ["_law_script", "_law_source_here", "_law_odd", "_law_thing", "_law_turn", "_law_some", "_law_k"]) (sc := (defScope s_law)) (by decide +kernel)) (by decide) (fun _ _ _ _ _ => pg_name (i := 6) sc_law.nd rfl (Or.inl rfl)) (fun _ _ _ _ _ => ptsd_nil) (fun _ _ _ _ _ => (pd_call c__law_alphabet_name hg hr (by decide) (by rfl) takes0 (pda_cons (pd_var 1) (pda_cons pd_int pda_nil)) (ar_cons (ar_cons ar_nil)) rfl)))
  (pssd_cons (psd_set (i := 5) sc_law.nd rfl (Or.inl rfl) (pd_op op_addX gAdd_ok (pd_var 5) (pd_comp (own := [("_law_k", 6)]) rfl sc_law.nd (pid_range1 (by rfl) m_range (pda_cons (pd_call c__law_next hg hr (by decide) (by rfl) tk (pda_cons (pd_var 1) (pda_cons pd_int pda_nil)) (ar_cons (ar_cons ar_nil)) rfl) pda_nil)) (blkOk_by (N := ["_law_script", "_law_source_here", "_law_odd", "_law_thing", "_law_turn", "_law_some", "_law_k"]) (sc := (defScope s_law)) (by decide +kernel)) (by decide) (fun _ _ _ _ _ => pg_name (i := 6) sc_law.nd rfl (Or.inl rfl)) (fun _ _ _ _ _ => ptsd_nil) (fun _ _ _ _ _ => (pd_call c__law_some_name hg hr (by decide) (by rfl) takes0 (pda_cons (pd_var 1) pda_nil) (ar_cons ar_nil) rfl)))))
  (pssd_one (psd_for hp rfl (pid_seq (pd_tup (pda_cons (pd_callTy call_tuple_of gTuple_ok (by rfl) m_tuple (by decide +kernel) (pda_cons (pd_var 5) pda_nil)) (pda_cons (pd_var 5) (pda_cons (pd_callTy call_tuple_of gTuple_ok (by rfl) m_tuple (by decide +kernel) (pda_cons (pd_op op_addX gAdd_ok (pd_var 5) (pd_cut (pd_var 5) pdo_none (pdo_some pd_int))) pda_nil)) (pda_cons (pd_op op_addX gAdd_ok (pd_callTy call_tuple_of gTuple_ok (by rfl) m_tuple (by decide +kernel) (pda_cons (pd_var 5) pda_nil)) (pd_tup (pda_cons pd_non pda_nil))) (pda_cons (pd_callTy call_tuple_of gTuple_ok (by rfl) m_tuple (by decide +kernel) (pda_cons (pd_cut (pd_var 5) pdo_none (pdo_some pd_int)) pda_nil)) pda_nil))))))) (pgd_name (i := 3) sc_law.nd rfl (Or.inl rfl))
  (pssd_one (psd_if (pdt_cmp (op_neX hr.units) gNe_ok (pd_callB (call_repr hg hr.units) gRepr_ok (by rfl) m_repr (by decide +kernel) (pda_cons (pd_call c_is_row hg hr (by decide) (by rfl) tk (pda_cons (pd_var 3) pda_nil) (ar_cons ar_nil) rfl) pda_nil)) (pd_callB (call_repr hg hr.units) gRepr_ok (by rfl) m_repr (by decide +kernel) (pda_cons (pd_call c__law_is_row_here hg hr (by decide) (by rfl) tk (pda_cons (pd_var 3) pda_nil) (ar_cons ar_nil) rfl) pda_nil)) (nomark _))
  (pssd_one (psd_ret pd_bl))
  pssd_nil)))))))
  (pssd_cons (psd_for hp rfl (pid_seq (pd_op op_addX gAdd_ok (pd_var 2) (pd_lst (pda_cons (pd_tup pda_nil) (pda_cons (pd_tup (pda_cons pd_str (pda_cons pd_str (pda_cons pd_str (pda_cons pd_str pda_nil))))) (pda_cons (pd_tup (pda_cons pd_str (pda_cons pd_str (pda_cons pd_str (pda_cons pd_str (pda_cons pd_str pda_nil)))))) (pda_cons (pd_tup (pda_cons pd_str (pda_cons pd_str pda_nil))) (pda_cons (pd_tup (pda_cons (pd_tup (pda_cons pd_str pda_nil)) pda_nil)) (pda_cons (pd_tup (pda_cons (pd_lst (pda_cons pd_str pda_nil)) pda_nil)) pda_nil))))))))) (pgd_name (i := 3) sc_law.nd rfl (Or.inl rfl))
  (pssd_one (psd_if (pdt_cmp (op_neX hr.units) gNe_ok (pd_callB (call_repr hg hr.units) gRepr_ok (by rfl) m_repr (by decide +kernel) (pda_cons (pd_call c_is_row hg hr (by decide) (by rfl) tk (pda_cons (pd_var 3) pda_nil) (ar_cons ar_nil) rfl) pda_nil)) (pd_callB (call_repr hg hr.units) gRepr_ok (by rfl) m_repr (by decide +kernel) (pda_cons (pd_call c__law_is_row_here hg hr (by decide) (by rfl) tk (pda_cons (pd_var 3) pda_nil) (ar_cons ar_nil) rfl) pda_nil)) (nomark _))
  (pssd_one (psd_ret pd_bl))
  pssd_nil)))
  (pssd_one (psd_ret (pd_and (pd_call c_is_row hg hr (by decide) (by rfl) tk (pda_cons (pd_tup pda_nil) pda_nil) (ar_cons ar_nil) rfl) (pd_and (pd_call c_is_row hg hr (by decide) (by rfl) tk (pda_cons (pd_tup (pda_cons pd_str (pda_cons pd_str (pda_cons pd_str (pda_cons pd_str pda_nil))))) pda_nil) (ar_cons ar_nil) rfl) (pd_one (pd_not (pd_call c_is_row hg hr (by decide) (by rfl) tk (pda_cons (pd_tup (pda_cons pd_str (pda_cons pd_str (pda_cons pd_str (pda_cons pd_str (pda_cons pd_str pda_nil)))))) pda_nil) (ar_cons ar_nil) rfl))))))))))))
noncomputable def F_law : FF := fun ds A => finR A (b_law (startD 7 ds) A)
theorem o_law (c__law_source : Cal P w K mg base ct 1 "_law_source" 2 [] F__law_source) (c__law_alphabet_name : Cal P w K mg base ct 3 "_law_alphabet_name" 2 [] F__law_alphabet_name) (c_is_name : Cal P w K mg base ct 1 "is_name" 1 [] F_is_name) (c__law_is_name_here : Cal P w K mg base ct 1 "_law_is_name_here" 1 [] F__law_is_name_here) (c__law_next : Cal P w K mg base ct 1 "_law_next" 2 [] F__law_next) (c__law_some_name : Cal P w K mg base ct 3 "_law_some_name" 1 [] F__law_some_name) (c_is_row : Cal P w K mg base ct 3 "is_row" 1 [] F_is_row) (c__law_is_row_here : Cal P w K mg base ct 2 "_law_is_row_here" 1 [] F__law_is_row_here) (m_range : mg "range" = none) (m_repr : mg "repr" = none) (m_tuple : mg "tuple" = none) {f : Addr} {fd : FuncData} (Fn : Fun K "law" "law" s_law f fd) : FnG P w K mg base 4 f fd ["_law_script"] (spD K ct 1 F_law) := okD Fn sc_law (d_law c__law_source c__law_alphabet_name c_is_name c__law_is_name_here c__law_next c__law_some_name c_is_row c__law_is_row_here m_range m_repr m_tuple f) fun ds A _ h => finR_ok h

end
end K02

set_option Elab.async false
set_option linter.all false
set_option maxRecDepth 100000
namespace K02
open PySem PySem.Spec PyProof.Rows L2 DV
theorem prime_at {j : Int} (h0 : 0 ≤ j) (h1 : j < 11) : ∃ p : Int, L2.atI [D.int 2147483647, .int 2147483629, .int 2147483587, .int 2147483579, .int 2147483563, .int 2147483549, .int 2147483543, .int 2147483497, .int 2147483489, .int 2147483477, .int 2147483423] j = some (.int p) ∧ 2147483000 < p ∧ p < 2 ^ 32 := by
  obtain ⟨x, hx, hm⟩ := atI_of (xs := [D.int 2147483647, .int 2147483629, .int 2147483587, .int 2147483579, .int 2147483563, .int 2147483549, .int 2147483543, .int 2147483497, .int 2147483489, .int 2147483477, .int 2147483423]) h0 (by simpa using h1)
  rw [hx]
  simp only [List.mem_cons, List.not_mem_nil, or_false] at hm
  rcases hm with e | e | e | e | e | e | e | e | e | e | e <;> rw [e] <;> exact ⟨_, rfl, by omega, by omega⟩
theorem next_ok {A : Hd} {k : Nat} {T m : Int} (S : SRC A k T) (hT : T ≤ 2 ^ 40) (hm : 0 < m) (hm2 : m < 2 ^ 60) : ∃ r l, F__law_next [.ref k, .int m] A = .ok (.int r) (A.set k l) ∧ 0 ≤ r ∧ r < m ∧ SRC (A.set k l) k (T + 1) := by
  obtain ⟨c, t, h, hA, ht0, ht1, hh⟩ := S
  have hk : k < A.length := (List.getElem?_eq_some_iff.mp hA).1
  have s0 : ∀ a b : Int, L2.atI [D.int c, .int a, .int b] 0 = some (.int c) := fun _ _ => rfl
  have s1 : ∀ a b : Int, L2.atI [D.int c, .int a, .int b] 1 = some (.int a) := fun _ _ => rfl
  have s2 : ∀ a b : Int, L2.atI [D.int c, .int a, .int b] 2 = some (.int b) := fun _ _ => rfl
  have big : m.natAbs.log2 < 9000 := by
    have : m.natAbs.log2 < 60 := by
      by_cases h0 : m.natAbs = 0
      · omega
      · exact (Nat.log2_lt h0).mpr (by omega)
    omega
  have mp : ∀ x : Int, 0 ≤ x % m ∧ x % m < m := fun x => ⟨Int.emod_nonneg _ (by omega), Int.emod_lt_of_pos _ hm⟩
  by_cases hp : 0 < h
  · refine ⟨h % m, .lst [.int c, .int t, .int (h / m)], ?_, (mp h).1, (mp h).2, c, t, h / m, by rw [List.getElem?_set_self hk], ht0, by omega, Int.ediv_nonneg hh (by omega)⟩
    unfold F__law_next b__law_next
    have w1 : ∀ d ro, setD (.ref k) (.int 2) d ro A = .ok ro (A.set k (.lst [.int c, .int t, d])) := fun d ro => set_num hA (i := 2) (j := 2) rfl
    simp [startD, sSeq, sIf, sAsg, sRet, sNx, tCmpD, eBin, eVar, eC, gNm, gAt, R.out, sub_num hA (s2 t h), gLtL, gBool, hp, gMod, gDiv, hm, CDivW, big, w1, finR]
  · have h1 : (A.set k (.lst [.int c, .int (t + 1), .int h]))[k]? = some (.lst [.int c, .int (t + 1), .int h]) := by rw [List.getElem?_set_self hk]
    generalize hA1 : A.set k (.lst [.int c, .int (t + 1), .int h]) = A1 at h1
    have w1 : ∀ ro, setD (.ref k) (.int 1) (.int (t + 1)) ro A = .ok ro A1 := fun ro => by rw [← hA1]; exact set_num hA (i := 1) (j := 1) rfl
    obtain ⟨p, hp1, hp2, hp3⟩ := prime_at (j := (t + 1) % 11) (Int.emod_nonneg _ (by omega)) (Int.emod_lt_of_pos _ (by omega))
    have p0 : 0 < p := by omega
    have cp := Int.emod_nonneg c (show p ≠ 0 by omega)
    have cq := Int.emod_lt_of_pos c p0
    have hpow : CPow (c % p + 7919 * (t + 1) + 1) 5 := ⟨by omega, by omega, by omega⟩
    have hmul : CMul 7919 (t + 1) := .inl ⟨by omega, by omega⟩
    have l13 : CDivW ((c % p + 7919 * (t + 1) + 1) ^ 5 % p) 13 := ⟨by omega, by decide⟩
    have sz : 11 ≤ sizeLine := by rw [sizeLine_eq]; omega
    have sz8 : 8 ≤ sizeLine := by omega
    have sz3 : 3 ≤ sizeLine := by omega
    refine ⟨_, .lst [.int c, .int (t + 1), .int h], ?_, (mp ((c % p + 7919 * (t + 1) + 1) ^ 5 % p / 13)).1, (mp _).2, c, t + 1, h, by rw [List.getElem?_set_self hk], by omega, by omega, hh⟩
    rw [hA1]
    have cs : ∀ i : Int, cutR A (.int i) A1 = .ok (.int i) A1 := fun i => cut_same (by rw [← hA1]; simp)
    unfold F__law_next b__law_next
    simp [startD, sSeq, sIf, sAsg, sRet, sNx, tCmpD, eBin, eVar, eC, gNm, gAt, R.out, sub_num hA (s2 t h), sub_num hA (s1 t h), gLtL, gBool, hp, gMod, gDiv, gAdd, gMul, gPow, hm, w1, finR, sub_num h1 (s1 _ _), sub_num h1 (s0 _ _), eArgs, aCons, aNil, gLstD, asL, sz, sz8, sz3, sub_lst hp1, p0, hpow, hmul, l13, cs]
end K02

set_option Elab.async false
set_option linter.all false
set_option maxRecDepth 100000
namespace K02
open PySem PySem.Spec PyProof.Rows L2 DV
theorem boolsD_map {α : Type} (h : α → Bool) : ∀ l : List α, boolsD (l.map fun c => D.bl (h c)) = some (l.map h)
  | [] => rfl
  | c :: l => by
    rw [List.map_cons, List.map_cons]
    unfold boolsD
    rw [boolsD_map h l]
theorem textsD_map : ∀ xs : List Str, textsD (xs.map D.str) = some xs
  | [] => rfl
  | x :: xs => by
    rw [List.map_cons]
    unfold textsD
    rw [textsD_map xs]
def abc : Str := "abcdefghijklmnopqrstuvwxyz"
def isName : D → Bool
  | .str x => decide (1 ≤ x.length) && decide (x.length ≤ 8) && x.cps.toList.all fun c => decide (c ∈ abc.cps.toList)
  | _ => false
def okName : D → Bool
  | .str x => decide (x.length ≤ 1000) && PyData.canLay0 (.str x)
  | .ref _ => false
  | .scr _ => false
  | .cls _ => false
  | _ => true
theorem sz1000 : 1000 ≤ sizeLine := by rw [sizeLine_eq]; omega
def sgn : D → D := fun d => match d with | .str y => .bl (match y.cps.toList with | [c] => decide (c ∈ abc.cps.toList) | _ => false) | _ => .bl false
theorem name_ok {d : D} {A : Hd} (h : okName d = true) : F_is_name [d] A = .ok (.bl (isName d)) A := by
  cases d with
  | str x =>
    have hz : x.length ≤ sizeLine := Nat.le_trans (by unfold okName at h; rw [Bool.and_eq_true] at h; exact of_decide_eq_true h.1) sz1000
    unfold F_is_name b_is_name isName
    by_cases h1 : 1 ≤ x.length
    · by_cases h2 : x.length ≤ 8
      · have e1 : decide ((1 : Int) ≤ (x.length : Int)) = true := decide_eq_true (by omega)
        have e2 : decide ((x.length : Int) ≤ 8) = true := decide_eq_true (by omega)
        have hc : compD (.fix (charsD x)) (.one 1) [1] ttYes (eBin gIn (eVar 1) (eC (.str abc))) [some (.str x), none] (charsD x) [] A = .ok (([] : List D) ++ ((charsD x).filter fun _ => true).map sgn) A :=
          compD_pure (here_fix _ _) _ _ (by simp only [charsD, List.length_nil, List.length_map, Array.length_toList, Nat.zero_add]; exact hz) fun d hd => by
            obtain ⟨c, hc, rfl⟩ := List.mem_map.mp hd
            refine ⟨[some (.str x), some (.str ⟨#[c]⟩)], rfl, rfl, fun _ => ?_⟩
            simp [eBin, eVar, eC, gIn, inP, sgn]
        have hb : boolsD ((charsD x).map sgn) = some (x.cps.toList.map fun c => decide (c ∈ abc.cps.toList)) := by
          unfold charsD
          rw [List.map_map]
          exact boolsD_map (fun c => decide (c ∈ abc.cps.toList)) _
        have ht : (charsD x).filter (fun _ => true) = charsD x := List.filter_eq_self.mpr fun _ _ => rfl
        rw [ht] at hc
        unfold abc at hc
        simp [startD, sSeq, sIf, sRet, sNx, tOrD, tNotD, tOfE, eArgs, aCons, aNil, eVar, eC, gIsa, tyD, isaB, gTru, truD, eChain, gLen, hz, gLtL, e1, e2, gBool, gAll, eComp, iSeq, srcD, Src.items, hc, asR, asL, hb, finR, h1, h2, abc]
      · have e1 : decide ((1 : Int) ≤ (x.length : Int)) = true := decide_eq_true (by omega)
        have e2 : decide ((x.length : Int) ≤ 8) = false := decide_eq_false (by omega)
        simp [startD, sSeq, sIf, sRet, sNx, tOrD, tNotD, tOfE, eArgs, aCons, aNil, eVar, eC, gIsa, tyD, isaB, gTru, truD, eChain, gLen, hz, gLtL, e1, e2, gBool, finR, h1, h2]
    · have e1 : decide ((1 : Int) ≤ (x.length : Int)) = false := decide_eq_false (by omega)
      simp [startD, sSeq, sIf, sRet, sNx, tOrD, tNotD, tOfE, eArgs, aCons, aNil, eVar, eC, gIsa, tyD, isaB, gTru, truD, eChain, gLen, hz, gLtL, e1, gBool, finR, h1]
  | ref n => cases h
  | scr n => cases h
  | cls n => cases h
  | _ =>
    unfold F_is_name b_is_name isName
    simp [startD, sSeq, sIf, sRet, sNx, tOrD, tNotD, tOfE, eArgs, aCons, aNil, eVar, eC, gIsa, tyD, isaB, gTru, truD, finR]

/-- is a list of flat data empty? -/
theorem toPs_lay : ∀ {ds : List D}, ds.all (fun d => match d with | .str x => PyData.canLay0 (.str x) | _ => false) = true → ∃ ps, toPs ds = some ps ∧ PyData.canLayAll0 ps = true ∧ PyData.depthAll ps = 0 ∧ ps.length = ds.length
  | [], _ => ⟨[], rfl, rfl, rfl, rfl⟩
  | d :: ds, h => by
    rw [List.all_cons, Bool.and_eq_true] at h
    obtain ⟨ps, h1, h2, h3, h4⟩ := toPs_lay h.2
    cases d with
    | str x =>
      refine ⟨.str x :: ps, ?_, ?_, ?_, by rw [List.length_cons, List.length_cons, h4]⟩
      · unfold toPs
        rw [h1]
        rfl
      · unfold PyData.canLayAll0
        rw [h2, Bool.and_true]
        exact h.1
      · unfold PyData.depthAll
        rw [h3]
        rfl
    | _ => cases h.1
theorem eqvAll_nil {ps : List PyData} : PyData.eqvAll ps [] = ps.isEmpty := by cases ps <;> rfl
theorem gEq_nil {ds : List D} {ps : List PyData} {A : Hd} (h : toPs ds = some ps) (h2 : PyData.canLayAll0 ps = true) (h3 : PyData.depthAll ps ≤ 60) (h4 : ps.length = ds.length) : gEq (.lst ds) (.lst []) A = .ok (.bl ds.isEmpty) A := by
  have e : eqP A (.lst ds) (.lst []) = some ds.isEmpty := by
    unfold eqP
    have e1 : toP (deR A (.lst ds)) = some (.list ps) := by
      show toP (.lst ds) = _
      unfold toP
      rw [h]
    have e2 : toP (deR A (.lst [])) = some (.list []) := by
      show toP (.lst []) = _
      unfold toP
      rfl
    rw [e1, e2]
    have s1 : SeqAt.shaped (.list ps) = true := by
      unfold SeqAt.shaped
      rw [Bool.and_eq_true]
      refine ⟨by unfold PyData.canLay0; exact h2, decide_eq_true ?_⟩
      unfold PyData.depth
      omega
    have s2 : SeqAt.shaped (.list []) = true := by decide +kernel
    show (if SeqAt.shaped (.list ps) = true ∧ SeqAt.shaped (.list []) = true then some (PyData.eqv (.list ps) (.list [])) else none) = _
    rw [if_pos ⟨s1, s2⟩]
    show some (PyData.eqvAll ps []) = _
    rw [eqvAll_nil]
    cases ds with
    | nil => cases ps with
      | nil => rfl
      | cons _ _ => cases h4
    | cons _ _ => cases ps with
      | nil => cases h4
      | cons _ _ => rfl
  unfold gEq
  simp only [e]
def offAbc : D → Bool
  | .str y => match y.cps.toList with
    | [c] => !(decide (97 ≤ c) && decide (c ≤ 122))
    | _ => false
  | _ => false
theorem abc_mem (c : Nat) : decide (c ∈ abc.cps.toList) = (decide (97 ≤ c) && decide (c ≤ 122)) := by
  have e : abc.cps.toList = (List.range 26).map (97 + ·) := by decide +kernel
  rw [e, ← Bool.decide_and]
  refine decide_eq_decide.mpr ?_
  simp only [List.mem_map, List.mem_range]
  constructor
  · rintro ⟨a, h, rfl⟩; omega
  · intro h; exact ⟨c - 97, by omega, by omega⟩
theorem lst_lt (a b : Nat) : decide ([a] < [b]) = decide (a < b) := by
  refine decide_eq_decide.mpr ?_
  constructor
  · intro h
    cases h with
    | rel h => exact h
    | cons h => cases h
  · intro h
    exact List.Lex.rel h
theorem here_name_ok {d : D} {A : Hd} (h : okName d = true) : F__law_is_name_here [d] A = .ok (.bl (isName d)) A := by
  cases d with
  | str x =>
    unfold okName at h
    rw [Bool.and_eq_true] at h
    have hz : x.length ≤ sizeLine := Nat.le_trans (of_decide_eq_true h.1) sz1000
    unfold F__law_is_name_here b__law_is_name_here isName
    by_cases h1 : 1 ≤ x.length
    · by_cases h2 : x.length ≤ 8
      · have e1 : decide ((1 : Int) ≤ (x.length : Int)) = true := decide_eq_true (by omega)
        have e2 : decide ((x.length : Int) ≤ 8) = true := decide_eq_true (by omega)
        have hc : compD (.fix (charsD x)) (.one 1) [1] (tNotD (fun ro A => ((eChain gLe gLe (eC (.str "a")) (eVar 1) (eC (.str "z"))) ro A).bind gBool)) (eVar 1) [some (.str x), none] (charsD x) [] A = .ok (([] : List D) ++ ((charsD x).filter offAbc).map id) A :=
          compD_pure (here_fix _ _) _ _ (by simp only [charsD, List.length_nil, List.length_map, Array.length_toList, Nat.zero_add]; exact hz) fun d hd => by
            obtain ⟨c, hc, rfl⟩ := List.mem_map.mp hd
            refine ⟨[some (.str x), some (.str ⟨#[c]⟩)], rfl, ?_, fun _ => rfl⟩
            have ea : (Str.ofString "a").cps.toList = [97] := by decide +kernel
            have ez : (Str.ofString "z").cps.toList = [122] := by decide +kernel
            have l1 : (!decide ([c] < [97])) = decide (97 ≤ c) := by rw [lst_lt]; by_cases q : c < 97 <;> simp [q] <;> omega
            have l2 : (!decide ([122] < [c])) = decide (c ≤ 122) := by rw [lst_lt]; by_cases q : 122 < c <;> simp [q] <;> omega
            by_cases q : 97 ≤ c
            · simp only [tNotD, eChain, eC, eVar, R.bind_ok, List.getElem?_cons_succ, List.getElem?_cons_zero, gLtL, ea, ez, l1, l2, gBool, q, decide_true, if_true, offAbc, Bool.true_and]
            · simp only [tNotD, eChain, eC, eVar, R.bind_ok, List.getElem?_cons_succ, List.getElem?_cons_zero, gLtL, ea, ez, l1, l2, gBool, q, decide_false, offAbc, Bool.false_and, Bool.false_eq_true, if_false]
        have emp : ((charsD x).filter offAbc).isEmpty = x.cps.toList.all fun c => decide (c ∈ abc.cps.toList) := by
          unfold charsD
          generalize x.cps.toList = l
          induction l with
          | nil => rfl
          | cons c l ih =>
            rw [List.map_cons, List.filter_cons, List.all_cons, ← ih, abc_mem]
            have eo : offAbc (.str ⟨#[c]⟩) = !(decide (97 ≤ c) && decide (c ≤ 122)) := rfl
            rw [eo]
            cases (decide (97 ≤ c) && decide (c ≤ 122)) <;> rfl
        have lay : ((charsD x).filter offAbc).all (fun d => match d with | .str x => PyData.canLay0 (.str x) | _ => false) = true := by
          rw [List.all_eq_true]
          intro d hd
          obtain ⟨c, hc, rfl⟩ := List.mem_map.mp (List.mem_filter.mp hd).1
          have hx := h.2
          unfold PyData.canLay0 PyData.strOk at hx ⊢
          have := (Array.all_eq_true_iff_forall_mem.mp hx) c (by simpa using hc)
          simpa using this
        obtain ⟨ps, q1, q2, q3, q4⟩ := toPs_lay lay
        have hq := gEq_nil (A := A) q1 q2 (by omega) q4
        rw [List.nil_append, List.map_id] at hc
        refine fin_ok (ro := [some (.str x), none]) (A1 := A) (sseq_ok (ro' := [some (.str x), none]) (A1 := A) (sif_ok (z := false) (A1 := A) ?_ rfl) (sret_ok (bin_ok (comp_ok (seq_ok rfl rfl) hc) (args_ok (A1 := A) rfl rfl) ?_))) rfl
        · simp [startD, tOrD, tNotD, tOfE, eArgs, aCons, aNil, eVar, eC, gIsa, tyD, isaB, gTru, truD, eChain, gLen, hz, gLtL, e1, e2, gBool]
        · rw [hq, emp]
          dsimp only
          rw [decide_eq_true h1, decide_eq_true h2]
          rfl
      · have e1 : decide ((1 : Int) ≤ (x.length : Int)) = true := decide_eq_true (by omega)
        have e2 : decide ((x.length : Int) ≤ 8) = false := decide_eq_false (by omega)
        simp [startD, sSeq, sIf, sRet, sNx, tOrD, tNotD, tOfE, eArgs, aCons, aNil, eVar, eC, gIsa, tyD, isaB, gTru, truD, eChain, gLen, hz, gLtL, e1, e2, gBool, finR, h1, h2]
    · have e1 : decide ((1 : Int) ≤ (x.length : Int)) = false := decide_eq_false (by omega)
      simp [startD, sSeq, sIf, sRet, sNx, tOrD, tNotD, tOfE, eArgs, aCons, aNil, eVar, eC, gIsa, tyD, isaB, gTru, truD, eChain, gLen, hz, gLtL, e1, gBool, finR, h1]
  | ref n => cases h
  | scr n => cases h
  | cls n => cases h
  | _ =>
    unfold F__law_is_name_here b__law_is_name_here isName
    simp [startD, sSeq, sIf, sRet, sNx, tOrD, tNotD, tOfE, eArgs, aCons, aNil, eVar, eC, gIsa, tyD, isaB, gTru, truD, finR]
end K02

set_option Elab.async false
set_option linter.all false
set_option maxRecDepth 100000
namespace K02
open PySem PySem.Spec PyProof.Rows L2 DV
theorem gEq_int (i j : Int) (A : Hd) : gEq (.int i) (.int j) A = .ok (.bl (i == j)) A := by
  have e1 : ∀ i : Int, toP (deR A (.int i)) = some (.int i) := fun i => by
    show toP (.int i) = _
    unfold toP
    rfl
  have s1 : ∀ i : Int, SeqAt.shaped (.int i) = true := fun i => rfl
  have e : eqP A (.int i) (.int j) = some (i == j) := by
    unfold eqP
    rw [e1, e1]
    show (if SeqAt.shaped (.int i) = true ∧ SeqAt.shaped (.int j) = true then some (PyData.eqv (.int i) (.int j)) else none) = _
    rw [if_pos ⟨s1 i, s1 j⟩]
    rfl
  unfold gEq
  simp only [e]
def layD (d : D) : Bool := match toP d with
  | some p => p.canLay0 && decide (p.depth ≤ 50)
  | none => false
def okIt (d : D) : Bool := okName d && layD d
def okRow : D → Bool
  | .tup ds => ds.all okIt && decide (ds.length ≤ 1000)
  | .ref _ => false
  | .scr _ => false
  | .cls _ => false
  | _ => true
theorem toPs_lay2 : ∀ {ds : List D}, (∀ d ∈ ds, layD d = true) → ∃ ps, toPs ds = some ps ∧ PyData.canLayAll0 ps = true ∧ PyData.depthAll ps ≤ 50 ∧ ps.length = ds.length
  | [], _ => ⟨[], rfl, rfl, Nat.zero_le _, rfl⟩
  | d :: ds, h => by
    obtain ⟨ps, h1, h2, h3, h4⟩ := toPs_lay2 (ds := ds) fun d hd => h d (List.mem_cons_of_mem _ hd)
    have hd := h d List.mem_cons_self
    unfold layD at hd
    split at hd
    · rename_i p hp
      rw [Bool.and_eq_true] at hd
      have h5 := of_decide_eq_true hd.2
      refine ⟨p :: ps, ?_, ?_, ?_, by rw [List.length_cons, List.length_cons, h4]⟩
      · unfold toPs
        rw [h1, hp]
      · unfold PyData.canLayAll0
        rw [h2, hd.1]
        rfl
      · unfold PyData.depthAll
        omega
    · cases hd
def dist (ds : List D) : Bool := match textsD ds with
  | some xs => ((mets xs).length : Int) == (ds.length : Int)
  | none => false
def isDiff : D → Bool
  | .tup ds => ds.all isName && dist ds
  | _ => false
def isRow : D → Bool
  | .tup ds => ds.all isName && dist ds && decide (ds.length ≤ 4)
  | _ => false
theorem names_texts : ∀ {ds : List D}, ds.all isName = true → ∃ xs, textsD ds = some xs ∧ xs.length = ds.length
  | [], _ => ⟨[], rfl, rfl⟩
  | d :: ds, h => by
    rw [List.all_cons, Bool.and_eq_true] at h
    obtain ⟨xs, e, l⟩ := names_texts h.2
    cases d with
    | str x => exact ⟨x :: xs, by unfold textsD; rw [e], by rw [List.length_cons, List.length_cons, l]⟩
    | _ => cases h.1
theorem isT_ok {d : D} {A : Hd} {ro : DV.Env} {T t : String} {b : Bool} (h0 : ro[0]? = some (some d)) (h : tyD A d = some t) (h2 : isaB t T = some b) : tNotD (tOfE (eArgs gIsa (aCons (eVar 0) (aCons (eC (.cls (.bi T))) aNil)))) ro A = .ok (!b) A := by
  refine tnot_ok (trub_ok (args2_ok (d := d) (A1 := A) (by unfold eVar; rw [h0]) rfl ?_))
  unfold gIsa
  simp only [h, h2]
def isTup : D → Bool
  | .tup _ => true
  | _ => false
theorem okRow_ty {d : D} {A : Hd} (h : okRow d = true) : ∃ t b, tyD A d = some t ∧ isaB t "tuple" = some b ∧ b = isTup d := by
  cases d with
  | ref n => cases h
  | scr n => cases h
  | cls n => cases h
  | non => exact ⟨"NoneType", false, rfl, by decide +kernel, rfl⟩
  | bl b => exact ⟨"bool", false, rfl, by decide +kernel, rfl⟩
  | int i => exact ⟨"int", false, rfl, by decide +kernel, rfl⟩
  | str x => exact ⟨"str", false, rfl, by decide +kernel, rfl⟩
  | tup x => exact ⟨"tuple", true, rfl, by decide +kernel, rfl⟩
  | lst x => exact ⟨"list", false, rfl, by decide +kernel, rfl⟩
  | dic x => exact ⟨"dict", false, rfl, by decide +kernel, rfl⟩
theorem setLen_ok {ds : List D} {A : Hd} (h : ds.all isName = true) (hl : ds.length ≤ 1000) : eBin gEq (eUn gLenSet (eVar 0)) (eArgs gLen (aCons (eVar 0) aNil)) [some (.tup ds), none] A = .ok (.bl (dist ds)) A := by
  obtain ⟨xs, e, l⟩ := names_texts h
  refine bin_ok (d := .int (mets xs).length) (e := .int ds.length) (A1 := A) (A2 := A) (un_ok rfl ?_) (args1_ok rfl ?_) ?_
  · unfold gLenSet
    show (match textsD ds with | some xs => if xs.length < 4000 then R.ok (D.int (mets xs).length) A else .stk | none => .stk) = _
    rw [e]
    show (if xs.length < 4000 then R.ok (D.int (mets xs).length) A else .stk) = _
    rw [if_pos (by omega)]
  · rfl
  · rw [gEq_int]
    unfold dist
    rw [e]
theorem comp1_ok {ds : List D} {A : Hd} {f : D → D} {te : EF} (hl : ds.length ≤ 1000) (h : ∀ d ∈ ds, te [some (.tup ds), some d] A = .ok (f d) A) : eComp (iSeq (eVar 0)) (.one 1) [1] ttYes te [some (.tup ds), none] A = .ok (.lst (ds.map f)) A := by
  have := compD_pure (s := .fix ds) (pt := .one 1) (vs := [1]) (tt := ttYes) (te := te) (ro := [some (.tup ds), none]) (p := fun _ => true) (f := f) (here_fix ds A) ds [] (by have := sz1000; simp; omega) fun d hd => ⟨_, rfl, rfl, fun _ => h d hd⟩
  rw [List.filter_eq_self.mpr fun _ _ => rfl, List.nil_append] at this
  exact comp_ok (seq_ok rfl rfl) this
theorem isDiff_tup (ds : List D) : isDiff (.tup ds) = (ds.all isName && dist ds) := rfl
theorem isRow_tup (ds : List D) : isRow (.tup ds) = (ds.all isName && dist ds && decide (ds.length ≤ 4)) := rfl
theorem diff_ok {d : D} {A : Hd} (h : okRow d = true) : F_are_different [d] A = .ok (.bl (isDiff d)) A := by
  obtain ⟨t, b, h1, h2, h3⟩ := okRow_ty (A := A) h
  have hi := isT_ok (ro := [some d, none]) rfl h1 h2
  unfold F_are_different b_are_different
  by_cases ht : ∃ ds, d = .tup ds
  · obtain ⟨ds, rfl⟩ := ht
    subst h3
    unfold okRow at h
    rw [Bool.and_eq_true] at h
    have hl := of_decide_eq_true h.2
    have hall : eArgs gAll (aCons (eComp (iSeq (eVar 0)) (.one 1) [1] ttYes (eArgs (fun ds A => F_is_name (ds ++ []) A) (aCons (eVar 1) aNil))) aNil) [some (.tup ds), none] A = .ok (.bl (ds.all isName)) A := by
      refine args1_ok (comp1_ok (f := fun d => .bl (isName d)) hl fun d hd => args1_ok rfl ?_) ?_
      · refine name_ok ?_
        have := List.all_eq_true.mp h.1 d hd
        unfold okIt at this
        rw [Bool.and_eq_true] at this
        exact this.1
      · have hb := boolsD_map isName ds
        unfold gAll
        show (match boolsD (ds.map fun d => D.bl (isName d)) with | some bs => R.ok (D.bl (bs.all id)) A | none => R.stk) = _
        rw [hb]
        show R.ok (D.bl ((ds.map isName).all id)) A = _
        rw [List.all_map]
        rfl
    cases hn : ds.all isName with
    | true =>
      refine fin_ok (ro := [some (.tup ds), none]) (sseq_ok (ro' := [some (.tup ds), none]) (A1 := A) (sif_ok (z := false) (A1 := A) (tor_ok hi ((tnot_ok (trub_ok hall)).trans (by rw [hn]; rfl))) rfl) (sret_ok ((setLen_ok hn hl).trans ?_))) rfl
      rw [isDiff_tup, hn]; rfl
    | false =>
      have hz : isDiff (.tup ds) = false := by rw [isDiff_tup, hn]; rfl
      rw [hz]
      have ht : sIf (tOrD (tNotD (tOfE (eArgs gIsa (aCons (eVar 0) (aCons (eC (.cls (.bi "tuple"))) aNil))))) (tNotD (tOfE (eArgs gAll (aCons (eComp (iSeq (eVar 0)) (.one 1) [1] ttYes (eArgs (fun ds A => F_is_name (ds ++ []) A) (aCons (eVar 1) aNil))) aNil))))) (sRet (eC (.bl false))) sNx [some (.tup ds), none] A = .go (.ret (.bl false)) [some (.tup ds), none] A :=
        sif_ok (z := true) (A1 := A) (tor_ok hi ((tnot_ok (trub_ok hall)).trans (by rw [hn]; rfl))) rfl
      unfold sSeq startD
      exact fin_ok (ro := [some (.tup ds), none]) (by show (sIf _ _ _ [some (.tup ds), none] A).next _ = _; rw [ht]; rfl) rfl
  · have hb : b = false := by
      rw [h3]
      cases d with
      | tup ds => exact absurd ⟨ds, rfl⟩ ht
      | _ => rfl
    have hz : isDiff d = false := by
      cases d with
      | tup ds => exact absurd ⟨ds, rfl⟩ ht
      | _ => rfl
    rw [hz]
    subst hb
    have ht : sIf (tOrD (tNotD (tOfE (eArgs gIsa (aCons (eVar 0) (aCons (eC (.cls (.bi "tuple"))) aNil))))) (tNotD (tOfE (eArgs gAll (aCons (eComp (iSeq (eVar 0)) (.one 1) [1] ttYes (eArgs (fun ds A => F_is_name (ds ++ []) A) (aCons (eVar 1) aNil))) aNil))))) (sRet (eC (.bl false))) sNx [some d, none] A = .go (.ret (.bl false)) [some d, none] A :=
      sif_ok (z := true) (A1 := A) (tor_ok hi rfl) rfl
    unfold sSeq startD
    exact fin_ok (ro := [some d, none]) (by show (sIf _ _ _ [some d, none] A).next _ = _; rw [ht]; rfl) rfl

theorem row_ok {d : D} {A : Hd} (h : okRow d = true) : F_is_row [d] A = .ok (.bl (isRow d)) A := by
  unfold F_is_row b_is_row
  refine fin_ok (ro := [some d]) (A1 := A) (sret_ok (and_ok (z := isDiff d) (A1 := A) (args1_ok rfl (diff_ok h)) ?_)) rfl
  cases hd : isDiff d with
  | false =>
    have : isRow d = false := by
      cases d with
      | tup ds => rw [isDiff_tup] at hd; rw [isRow_tup, hd]; rfl
      | _ => rfl
    rw [this]
    rfl
  | true =>
    cases d with
    | tup ds =>
      rw [isDiff_tup] at hd
      rw [isRow_tup, hd, if_pos rfl]
      refine bin_ok (d := .int ds.length) (e := .int 4) (A1 := A) (A2 := A) (args1_ok rfl rfl) rfl ?_
      show R.ok (D.bl (decide ((ds.length : Int) ≤ 4))) A = _
      rw [show decide ((ds.length : Int) ≤ 4) = decide (ds.length ≤ 4) from decide_eq_decide.mpr (by omega)]
      rfl
    | _ => cases hd
theorem compF_ok {ds : List D} {A : Hd} {p : D → Bool} {tt : TF} (hl : ds.length ≤ 1000) (h : ∀ d ∈ ds, tt [some (.tup ds), some d] A = .ok (p d) A) : eComp (iSeq (eVar 0)) (.one 1) [1] tt (eVar 1) [some (.tup ds), none] A = .ok (.lst (ds.filter p)) A := by
  have := compD_pure (s := .fix ds) (pt := .one 1) (vs := [1]) (tt := tt) (te := eVar 1) (ro := [some (.tup ds), none]) (p := p) (f := id) (here_fix ds A) ds [] (by have := sz1000; simp; omega) fun d hd => ⟨_, rfl, h d hd, fun _ => rfl⟩
  rw [List.map_id, List.nil_append] at this
  exact comp_ok (seq_ok rfl rfl) this
theorem okRow_len {d : D} {A : Hd} {ds : List D} (h : d = .tup ds) : eArgs gLen (aCons (eVar 0) aNil) [some d, none] A = .ok (.int ds.length) A := by
  subst h
  exact args1_ok rfl rfl
theorem here_row_ok {d : D} {A : Hd} (h : okRow d = true) : F__law_is_row_here [d] A = .ok (.bl (isRow d)) A := by
  obtain ⟨t, b, h1, h2, h3⟩ := okRow_ty (A := A) h
  have hi := isT_ok (ro := [some d, none]) rfl h1 h2
  unfold F__law_is_row_here b__law_is_row_here
  by_cases ht : ∃ ds, d = .tup ds
  · obtain ⟨ds, rfl⟩ := ht
    subst h3
    unfold okRow at h
    rw [Bool.and_eq_true] at h
    have hl := of_decide_eq_true h.2
    have hit : ∀ d ∈ ds, okName d = true ∧ layD d = true := fun d hd => by
      have := List.all_eq_true.mp h.1 d hd
      unfold okIt at this
      rw [Bool.and_eq_true] at this
      exact this
    have h4 : tCmpD gGt (eArgs gLen (aCons (eVar 0) aNil)) (eC (.int 4)) [some (.tup ds), none] A = .ok (decide (4 < ds.length)) A := by
      refine tcmp_ok (okRow_len rfl) rfl ?_
      show R.ok (D.bl (decide ((4 : Int) < (ds.length : Int)))) A = _
      rw [show decide ((4 : Int) < (ds.length : Int)) = decide (4 < ds.length) from decide_eq_decide.mpr (by omega)]
    by_cases q : 4 < ds.length
    · have hz : isRow (.tup ds) = false := by rw [isRow_tup, decide_eq_false (show ¬ ds.length ≤ 4 by omega), Bool.and_false]
      rw [hz]
      have ht : sIf (tOrD (tNotD (tOfE (eArgs gIsa (aCons (eVar 0) (aCons (eC (.cls (.bi "tuple"))) aNil))))) (tCmpD gGt (eArgs gLen (aCons (eVar 0) aNil)) (eC (.int 4)))) (sRet (eC (.bl false))) sNx [some (.tup ds), none] A = .go (.ret (.bl false)) [some (.tup ds), none] A :=
        sif_ok (z := true) (A1 := A) (tor_ok hi (h4.trans (by rw [decide_eq_true q]))) rfl
      unfold sSeq startD
      exact fin_ok (ro := [some (.tup ds), none]) (by show (sIf _ _ _ [some (.tup ds), none] A).next _ = _; rw [ht]; rfl) rfl
    · refine fin_ok (ro := [some (.tup ds), none]) (A1 := A) (sseq_ok (ro' := [some (.tup ds), none]) (A1 := A) (sif_ok (z := false) (A1 := A) (tor_ok hi (h4.trans (by rw [decide_eq_false q]))) rfl) (sret_ok (and_ok (z := ds.all isName) (A1 := A) (bin_ok (compF_ok (p := fun d => !isName d) hl fun d hd => ?_) (args_ok (A1 := A) rfl rfl) ?_) ?_))) rfl
      · exact tnot_ok (trub_ok (args1_ok rfl (here_name_ok (hit d hd).1)))
      · obtain ⟨ps, q1, q2, q3, q4⟩ := toPs_lay2 (ds := ds.filter fun d => !isName d) fun d hd => (hit d (List.mem_filter.mp hd).1).2
        refine (gEq_nil q1 q2 (by omega) q4).trans ?_
        have : (ds.filter fun d => !isName d).isEmpty = ds.all isName := by
          clear q1 q4 hit h hl h1 hi h4 q h2
          induction ds with
          | nil => rfl
          | cons d ds ih =>
            rw [List.filter_cons, List.all_cons, ← ih]
            cases isName d <;> rfl
        rw [this]
      · rw [isRow_tup, decide_eq_true (show ds.length ≤ 4 by omega), Bool.and_true]
        cases hn : ds.all isName with
        | true =>
          rw [if_pos rfl]
          exact setLen_ok hn hl
        | false => rfl
  · have hb : b = false := by
      rw [h3]
      cases d with
      | tup ds => exact absurd ⟨ds, rfl⟩ ht
      | _ => rfl
    have hz : isRow d = false := by
      cases d with
      | tup ds => exact absurd ⟨ds, rfl⟩ ht
      | _ => rfl
    rw [hz]
    subst hb
    have ht : sIf (tOrD (tNotD (tOfE (eArgs gIsa (aCons (eVar 0) (aCons (eC (.cls (.bi "tuple"))) aNil))))) (tCmpD gGt (eArgs gLen (aCons (eVar 0) aNil)) (eC (.int 4)))) (sRet (eC (.bl false))) sNx [some d, none] A = .go (.ret (.bl false)) [some d, none] A :=
      sif_ok (z := true) (A1 := A) (tor_ok hi rfl) rfl
    unfold sSeq startD
    exact fin_ok (ro := [some d, none]) (by show (sIf _ _ _ [some d, none] A).next _ = _; rw [ht]; rfl) rfl
end K02

set_option Elab.async false
set_option linter.all false
set_option maxRecDepth 100000
namespace K02
open PySem PySem.Spec PyProof.Rows L2 DV
/-- one source of draws stands under number 0, and nothing else has a number -/
def S1 (A : Hd) (T : Int) : Prop := A.length = 1 ∧ SRC A 0 T
theorem S1.le {A : Hd} {T T' : Int} (h : S1 A T) (e : T ≤ T') : S1 A T' := ⟨h.1, h.2.le e⟩
theorem next1 {A : Hd} {T m : Int} (S : S1 A T) (hT : T ≤ 2 ^ 40) (hm : 0 < m) (hm2 : m < 2 ^ 60) : ∃ r A', F__law_next [.ref 0, .int m] A = .ok (.int r) A' ∧ 0 ≤ r ∧ r < m ∧ S1 A' (T + 1) := by
  obtain ⟨r, l, e, h0, h1, h2⟩ := next_ok S.2 hT hm hm2
  exact ⟨r, _, e, h0, h1, by rw [List.length_set]; exact S.1, h2⟩
theorem S1.len {A A' : Hd} {T T' : Int} (h : S1 A T) (h' : S1 A' T') : A'.length = A.length := by rw [h.1, h'.1]
theorem pick1 {A : Hd} {T : Int} {ds : List D} (S : S1 A T) (hT : T ≤ 2 ^ 40) (h0 : ds ≠ []) (hl : ds.length ≤ 1000) : ∃ x A', F__law_pick [.ref 0, .lst ds] A = .ok x A' ∧ x ∈ ds ∧ S1 A' (T + 1) := by
  have h1 : 0 < ds.length := List.length_pos_iff.mpr h0
  obtain ⟨r, A', e, r0, r1, S'⟩ := next1 (m := ds.length) S hT (by omega) (by omega)
  obtain ⟨x, hx, hm⟩ := atI_of (xs := ds) r0 r1
  refine ⟨x, A', ?_, hm, S'⟩
  unfold F__law_pick b__law_pick
  exact fin_ok (ro := [some (.ref 0), some (.lst ds)]) (sret_ok (bin_ok (e := .int r) (A1 := A) rfl (args2_ok (A1 := A) (A2 := A) rfl (args1_ok rfl rfl) e) (sub_lst hx))) (S.len S')
def okStr (n : Nat) : D → Bool
  | .str x => decide (x.length ≤ n) && PyData.canLay0 (.str x)
  | _ => false
theorem cut_len (z : Str) (lo hi : Option Int) : (cutS z lo hi).length ≤ z.length := by
  unfold cutS Str.length
  simp only [List.size_toArray, List.length_take, List.length_drop, Array.length_toList]
  omega
theorem lay_app {x y : Str} (h : PyData.canLay0 (.str x) = true) (h2 : PyData.canLay0 (.str y) = true) : PyData.canLay0 (.str (x ++ y)) = true := by
  unfold PyData.canLay0 PyData.strOk at *
  show (x.cps ++ y.cps).all _ = true
  rw [Array.all_append, h, h2]
  rfl
theorem lay_cut {z : Str} (lo hi : Option Int) (h : PyData.canLay0 (.str z) = true) : PyData.canLay0 (.str (cutS z lo hi)) = true := by
  unfold PyData.canLay0 PyData.strOk at *
  unfold cutS
  rw [Array.all_eq_true_iff_forall_mem] at *
  intro c hc
  have hc : c ∈ (z.cps.toList.drop (HT.sIx z.length 0 lo)).take (HT.sIx z.length z.length hi - HT.sIx z.length 0 lo) := by simpa using hc
  exact h c (by simpa using List.mem_of_mem_drop (List.mem_of_mem_take hc))
theorem app_ok {x y : Str} {A : Hd} (h : x.length + y.length ≤ 1000) : gAdd (.str x) (.str y) A = .ok (.str (x ++ y)) A := by
  have := sz1000
  show (if x.length + y.length ≤ sizeLine then R.ok (D.str (x ++ y)) A else .stk) = _
  rw [if_pos (by omega)]
theorem app_len (x y : Str) : (x ++ y).length = x.length + y.length := by
  show (x.cps ++ y.cps).size = x.cps.size + y.cps.size
  exact Array.size_append
theorem okStr_str {n : Nat} {d : D} (h : okStr n d = true) : ∃ x, d = .str x ∧ x.length ≤ n ∧ PyData.canLay0 (.str x) = true := by
  cases d with
  | str x => unfold okStr at h; rw [Bool.and_eq_true] at h; exact ⟨x, rfl, of_decide_eq_true h.1, h.2⟩
  | _ => cases h
theorem okStr_mk {n : Nat} {x : Str} (h : x.length ≤ n) (h2 : PyData.canLay0 (.str x) = true) : okStr n (.str x) = true := by
  show (decide (x.length ≤ n) && PyData.canLay0 (.str x)) = true
  rw [h2, decide_eq_true h]
  rfl
theorem alpha1 {A : Hd} {T : Int} {n : Nat} (S : S1 A T) (hT : T + 20 ≤ 2 ^ 40) (hn : n ≤ 10) : ∃ x A', F__law_alphabet_name [.ref 0, .int n] A = .ok x A' ∧ okStr 100 x = true ∧ S1 A' (T + 14) := by
  obtain ⟨r, A1, e1, r0, r1, S1'⟩ := next1 (m := (n : Int) + 1) S (by omega) (by omega) (by omega)
  have five : okStr 1 (.str "a") = true ∧ okStr 1 (.str "b") = true ∧ okStr 1 (.str "z") = true ∧ okStr 1 (.str "m") = true ∧ okStr 1 (.str "q") = true := by decide +kernel
  have ten : okStr 1 (.str "A") = true ∧ okStr 1 (.str "Z") = true ∧ okStr 1 (.str "0") = true ∧ okStr 1 (.str "_") = true ∧ okStr 1 (.str " ") = true ∧ okStr 1 (.str "-") = true ∧ okStr 1 (.str "`") = true ∧ okStr 1 (.str "{") = true ∧ okStr 1 (.str "\n") = true ∧ okStr 1 (.str "\t") = true := by decide +kernel
  have sz : 10 ≤ sizeLine := by have := sz1000; omega
  have l5 : ∀ (ro : DV.Env) (A : Hd), eArgs gLstD (aCons (eC (.str "a")) (aCons (eC (.str "b")) (aCons (eC (.str "z")) (aCons (eC (.str "m")) (aCons (eC (.str "q")) aNil))))) ro A = .ok (.lst [.str "a", .str "b", .str "z", .str "m", .str "q"]) A := fun ro A => args_ok (A1 := A) (ds := [.str "a", .str "b", .str "z", .str "m", .str "q"]) rfl (by unfold gLstD; rw [if_pos (by show 5 ≤ sizeLine; omega)])
  have l10 : ∀ (ro : DV.Env) (A : Hd), eArgs gLstD (aCons (eC (.str "A")) (aCons (eC (.str "Z")) (aCons (eC (.str "0")) (aCons (eC (.str "_")) (aCons (eC (.str " ")) (aCons (eC (.str "-")) (aCons (eC (.str "`")) (aCons (eC (.str "{")) (aCons (eC (.str "\n")) (aCons (eC (.str "\t")) aNil)))))))))) ro A = .ok (.lst [.str "A", .str "Z", .str "0", .str "_", .str " ", .str "-", .str "`", .str "{", .str "\n", .str "\t"]) A := fun ro A => args_ok (A1 := A) (ds := [.str "A", .str "Z", .str "0", .str "_", .str " ", .str "-", .str "`", .str "{", .str "\n", .str "\t"]) rfl (by unfold gLstD; rw [if_pos (by show 10 ≤ sizeLine; omega)])
  -- the loop
  obtain ⟨ro2, A2, e2, f2, t2, hro, hf2, S2⟩ := forD_run (s := .fix (rangeD 0 r.toNat)) (g := gNm 3) (b := sAsg (eBin gAdd (eVar 2) (eArgs (fun ds A => F__law_pick (ds ++ []) A) (aCons (eVar 0) (aCons (eArgs gLstD (aCons (eC (.str "a")) (aCons (eC (.str "b")) (aCons (eC (.str "z")) (aCons (eC (.str "m")) (aCons (eC (.str "q")) aNil)))))) aNil)))) (gNm 2))
    (I := fun i ro A => ∃ f : Str, ∃ t, ro = [some (.ref 0), some (.int n), some (.str f), t, none] ∧ okStr i (.str f) = true ∧ S1 A (T + 1 + (i : Nat))) (fun i ro A _ => here_fix _ A) (rangeD 0 r.toNat) 0 [some (.ref 0), some (.int n), some (.str ""), none, none] A1 ⟨"", none, rfl, by decide +kernel, S1'.le (by omega)⟩ (by
      rintro j d ro A hd ⟨f, t, rfl, hf, S⟩
      have hj : j < 11 := by
        have := (List.getElem?_eq_some_iff.mp hd).1
        simp [rangeD] at this
        omega
      obtain ⟨x, A', e, hx, S'⟩ := pick1 (ds := [.str "a", .str "b", .str "z", .str "m", .str "q"]) S (by omega) (by simp) (by simp)
      have ox : okStr 1 x = true := by
        simp only [List.mem_cons, List.not_mem_nil, or_false] at hx
        rcases hx with e | e | e | e | e <;> rw [e]
        · exact five.1
        · exact five.2.1
        · exact five.2.2.1
        · exact five.2.2.2.1
        · exact five.2.2.2.2
      obtain ⟨y, rfl, hy1, hy2⟩ := okStr_str ox
      obtain ⟨_, e0, hf1, hf2⟩ := okStr_str hf
      cases e0
      refine ⟨_, A', sasg_ok (d := .str (f ++ y)) (ro := [some (.ref 0), some (.int n), some (.str f), some d, none]) (bin_ok (A1 := A) rfl (args2_ok (A1 := A) (A2 := A) rfl (l5 _ _) e) (app_ok (by omega))), f ++ y, some d, rfl, ?_, S'.le (by omega)⟩
      exact okStr_mk (by rw [app_len]; omega) (lay_app hf2 hy2))
  subst hro
  have hlen : (rangeD 0 r.toNat).length ≤ 10 := by simp [rangeD]; omega
  obtain ⟨_, e0, hf1, hf2'⟩ := okStr_str hf2
  cases e0
  have S2 : S1 A2 (T + 11) := S2.le (by omega)
  have hf3 : f2.length ≤ 10 := by omega
  -- the odd sign
  obtain ⟨r3, A3, e3, r30, r31, S3⟩ := next1 (m := 3) S2 (by omega) (by omega) (by omega)
  have done : ∃ ro4 A4 x, (sIf (tCmpD gEq (eArgs (fun ds A => F__law_next (ds ++ []) A) (aCons (eVar 0) (aCons (eC (.int 3)) aNil))) (eC (.int 0)))
      (sSeq (sAsg (eArgs (fun ds A => F__law_next (ds ++ []) A) (aCons (eVar 0) (aCons (eBin gAdd (eArgs gLen (aCons (eVar 2) aNil)) (eC (.int 1))) aNil))) (gNm 4))
        (sAsg (eBin gAdd (eBin gAdd (eCut (eVar 2) oNone (oSome (eVar 4))) (eArgs (fun ds A => F__law_pick (ds ++ []) A) (aCons (eVar 0) (aCons (eArgs gLstD (aCons (eC (.str "A")) (aCons (eC (.str "Z")) (aCons (eC (.str "0")) (aCons (eC (.str "_")) (aCons (eC (.str " ")) (aCons (eC (.str "-")) (aCons (eC (.str "`")) (aCons (eC (.str "{")) (aCons (eC (.str "\n")) (aCons (eC (.str "\t")) aNil))))))))))) aNil)))) (eCut (eVar 2) (oSome (eVar 4)) oNone)) (gNm 2)))
      sNx) [some (.ref 0), some (.int n), some (.str f2), t2, none] A2 = .go .nx ro4 A4 ∧ ro4[2]? = some (some x) ∧ okStr 100 x = true ∧ S1 A4 (T + 14) := by
    by_cases h3 : r3 = 0
    · have hz : f2.length ≤ sizeLine := by have := sz1000; omega
      obtain ⟨r4, A4, e4, r40, r41, S4⟩ := next1 (m := (f2.length : Int) + 1) S3 (by omega) (by omega) (by omega)
      obtain ⟨x, A5, e5, hx, S5⟩ := pick1 (ds := [.str "A", .str "Z", .str "0", .str "_", .str " ", .str "-", .str "`", .str "{", .str "\n", .str "\t"]) S4 (by omega) (by simp) (by simp)
      have ox : okStr 1 x = true := by
        simp only [List.mem_cons, List.not_mem_nil, or_false] at hx
        obtain ⟨t1, t2, t3, t4, t5, t6, t7, t8, t9, t10⟩ := ten
        rcases hx with e | e | e | e | e | e | e | e | e | e <;> rw [e] <;> assumption
      obtain ⟨y, rfl, hy1, hy2⟩ := okStr_str ox
      have c1 := cut_len f2 none (some r4)
      have c2 := cut_len f2 (some r4) none
      have l1 : (cutS f2 none (some r4) ++ y).length = (cutS f2 none (some r4)).length + y.length := app_len _ _
      have l2 : (cutS f2 none (some r4) ++ y ++ cutS f2 (some r4) none).length = (cutS f2 none (some r4) ++ y).length + (cutS f2 (some r4) none).length := app_len _ _
      refine ⟨[some (.ref 0), some (.int n), some (.str (cutS f2 none (some r4) ++ y ++ cutS f2 (some r4) none)), t2, some (.int r4)], A5, .str (cutS f2 none (some r4) ++ y ++ cutS f2 (some r4) none), sif_ok (z := true) (A1 := A3) (tcmp_ok (d := .int r3) (A1 := A3) (A2 := A3) (args2_ok (A1 := A2) (A2 := A2) rfl rfl e3) rfl ((gEq_int _ _ _).trans (by rw [h3]; rfl))) ?_, ?_, ?_, S5.le (by omega)⟩
      · rw [if_pos rfl]
        refine sseq_ok (sasg_ok (d := .int r4) (A1 := A4) (args2_ok (A1 := A3) (A2 := A3) rfl (bin_ok (d := .int f2.length) (A1 := A3) (args1_ok rfl ?_) rfl rfl) e4)) (sasg_ok (bin_ok (d := .str (cutS f2 none (some r4) ++ y)) (A1 := A5) (bin_ok (d := .str (cutS f2 none (some r4))) (A1 := A4) ?_ (args2_ok (A1 := A4) (A2 := A4) rfl (l10 _ _) e5) (app_ok (by omega))) (e := .str (cutS f2 (some r4) none)) (A2 := A5) ?_ (app_ok (by omega))))
        · show (if f2.length ≤ sizeLine then R.ok (D.int f2.length) A3 else .stk) = _
          rw [if_pos hz]
        · show (if f2.length ≤ sizeLine then R.ok (D.str (cutS f2 none (some r4))) A4 else .stk) = _
          rw [if_pos hz]
        · show (if f2.length ≤ sizeLine then R.ok (D.str (cutS f2 (some r4) none)) A5 else .stk) = _
          rw [if_pos hz]
      · rfl
      · exact okStr_mk (by omega) (lay_app (lay_app (lay_cut _ _ hf2') hy2) (lay_cut _ _ hf2'))
    · refine ⟨_, A3, .str f2, sif_ok (z := false) (A1 := A3) (tcmp_ok (d := .int r3) (A1 := A3) (A2 := A3) (args2_ok (A1 := A2) (A2 := A2) rfl rfl e3) rfl ((gEq_int _ _ _).trans (by rw [show (r3 == 0) = false from beq_eq_false_iff_ne.mpr h3]))) rfl, rfl, ?_, S3.le (by omega)⟩
      exact okStr_mk (by omega) hf2'
  obtain ⟨ro4, A4, x, e4, h4, ox, S4⟩ := done
  refine ⟨x, A4, ?_, ox, S4⟩
  unfold F__law_alphabet_name b__law_alphabet_name
  refine fin_ok (ro := ro4) (A1 := A4) (sseq_ok (sasg_ok rfl) (sseq_ok (sfor_ok (A1 := A1) (rng_ok (args2_ok (A1 := A) (A2 := A) rfl (bin_ok (d := .int n) (e := .int 1) (A1 := A) (A2 := A) rfl rfl rfl) e1) r0 (by omega)) e2) (sseq_ok e4 (sret_ok ?_)))) (S.len S4)
  unfold eVar
  rw [h4]
end K02

set_option Elab.async false
set_option linter.all false
set_option maxRecDepth 100000
namespace K02
open PySem PySem.Spec PyProof.Rows L2 DV
theorem toPs_ints : ∀ ns : List Int, toPs (ns.map D.int) = some (ns.map PyData.int) ∧ PyData.canLayAll0 (ns.map PyData.int) = true ∧ PyData.depthAll (ns.map PyData.int) = 0
  | [] => ⟨rfl, rfl, rfl⟩
  | n :: ns => by
    obtain ⟨h1, h2, h3⟩ := toPs_ints ns
    refine ⟨?_, ?_, ?_⟩
    · rw [List.map_cons]; unfold toPs; rw [h1]; rfl
    · rw [List.map_cons]; unfold PyData.canLayAll0; rw [h2]; rfl
    · rw [List.map_cons]; unfold PyData.depthAll; rw [h3]; rfl
theorem gNe_scr {ns : List Int} {A : Hd} : gNe (.scr (ns.map D.int)) (.lst []) A = .ok (.bl (!ns.isEmpty)) A := by
  obtain ⟨h1, h2, h3⟩ := toPs_ints ns
  have e : eqP A (.scr (ns.map D.int)) (.lst []) = some ns.isEmpty := by
    unfold eqP
    have e1 : toP (deR A (.scr (ns.map D.int))) = some (.list (ns.map PyData.int)) := by
      show toP (.scr _) = _
      unfold toP
      rw [h1]
    have e2 : toP (deR A (.lst [])) = some (.list []) := by
      show toP (.lst []) = _
      unfold toP
      rfl
    rw [e1, e2]
    have s1 : SeqAt.shaped (.list (ns.map PyData.int)) = true := by
      unfold SeqAt.shaped
      rw [Bool.and_eq_true]
      refine ⟨by unfold PyData.canLay0; exact h2, decide_eq_true ?_⟩
      unfold PyData.depth
      omega
    have s2 : SeqAt.shaped (.list []) = true := by decide +kernel
    show (if SeqAt.shaped (.list (ns.map PyData.int)) = true ∧ SeqAt.shaped (.list []) = true then some (PyData.eqv (.list (ns.map PyData.int)) (.list [])) else none) = _
    rw [if_pos ⟨s1, s2⟩]
    cases ns <;> rfl
  unfold gNe
  simp only [e]
theorem source1 {ns : List Int} (hl : ns.length ≤ 63) : ∃ A', F__law_source [.scr (ns.map D.int), .int 0] [] = .ok (.ref 0) A' ∧ S1 A' 0 := by
  have big : CDivW 0 (10 ^ 18) := ⟨by omega, by decide +kernel⟩
  have pw : CPow 10 18 := ⟨by omega, by omega, by decide⟩
  have z3 : 3 ≤ sizeLine := by have := sz1000; omega
  have mul : CMul 3 0 := .inl ⟨by omega, by omega⟩
  have cell : ∃ c : Int, eIf (tCmpD gNe (eVar 0) (eArgs gLstD aNil)) (eBin gSubD (eVar 0) (eBin gMod (eVar 1) (eArgs gLen (aCons (eVar 0) aNil)))) (eC (.int 1)) [some (.scr (ns.map D.int)), some (.int 0), none] [] = .ok (.int c) [] := by
    cases ns with
    | nil => exact ⟨1, if_ok (z := false) (A1 := []) (tcmp_ok (d := .scr (([] : List Int).map D.int)) (e := .lst []) (A1 := []) (A2 := []) rfl (args_ok (ds := []) (A1 := []) rfl rfl) (gNe_scr (ns := []))) rfl⟩
    | cons n ns =>
      refine ⟨n, if_ok (z := true) (A1 := []) (tcmp_ok (d := .scr ((n :: ns).map D.int)) (e := .lst []) (A1 := []) (A2 := []) rfl (args_ok (ds := []) (A1 := []) rfl rfl) (gNe_scr (ns := n :: ns))) ?_⟩
      rw [if_pos rfl]
      refine bin_ok (d := .scr ((n :: ns).map D.int)) (e := .int 0) (A1 := []) (A2 := []) rfl (bin_ok (d := .int 0) (e := .int ((n :: ns).map D.int).length) (A1 := []) (A2 := []) rfl (args1_ok rfl rfl) ?_) (sub_scr (atI_nat (j := 0) rfl))
      show (if (0 : Int) < (((n :: ns).map D.int).length : Int) then R.ok (D.int (0 % _)) [] else .stk) = _
      rw [if_pos (by rw [List.length_map, List.length_cons]; omega), Int.zero_emod]
  obtain ⟨c, hc⟩ := cell
  refine ⟨[.lst [.int c, .int 0, .int (if 10 ^ 18 ≤ c then c / 10 ^ 18 else 0)]], ?_, rfl, c, 0, _, rfl, by omega, by omega, ?_⟩
  · unfold F__law_source b__law_source
    have h3 : eIf (tCmpD gGe (eVar 2) (eBin gPow (eC (.int 10)) (eC (.int 18)))) (eBin gDiv (eVar 2) (eBin gPow (eC (.int 10)) (eC (.int 18)))) (eC (.int 0)) [some (.scr (ns.map D.int)), some (.int 0), some (.int c)] [] = .ok (.int (if 10 ^ 18 ≤ c then c / 10 ^ 18 else 0)) [] := by
      have hp : eBin gPow (eC (.int 10)) (eC (.int 18)) [some (.scr (ns.map D.int)), some (.int 0), some (.int c)] [] = .ok (.int (10 ^ 18)) [] := bin_ok (A1 := []) (A2 := []) rfl rfl (by unfold gPow; simp [pw])
      refine if_ok (z := decide ((10 : Int) ^ 18 ≤ c)) (A1 := []) (tcmp_ok (d := .int c) (A1 := []) (A2 := []) rfl hp rfl) ?_
      by_cases q : (10 : Int) ^ 18 ≤ c
      · rw [if_pos (decide_eq_true q), if_pos q]
        refine bin_ok (d := .int c) (A1 := []) (A2 := []) rfl hp ?_
        have cd : CDivW c (10 ^ 18) := ⟨by omega, by decide +kernel⟩
        unfold gDiv
        simp only [cd, if_true]
      · rw [if_neg (by simpa using q), if_neg q]
        rfl
    have hm : eBin gMul (eC (.int 3)) (eVar 1) [some (.scr (ns.map D.int)), some (.int 0), some (.int c)] [] = .ok (.int 0) [] := bin_ok (d := .int 3) (e := .int 0) (A1 := []) (A2 := []) rfl rfl (by unfold gMul; simp [mul])
    have all := sseq_ok (p := sAsg (eIf (tCmpD gNe (eVar 0) (eArgs gLstD aNil)) (eBin gSubD (eVar 0) (eBin gMod (eVar 1) (eArgs gLen (aCons (eVar 0) aNil)))) (eC (.int 1))) (gNm 2)) (ro := [some (.scr (ns.map D.int)), some (.int 0), none]) (A := []) (sasg_ok hc) (sret_ok (args_ok (acons_ok (a := eVar 2) rfl (acons_ok hm (acons_ok h3 (show aNil _ _ = _ from rfl)))) (show gLstM [.int c, .int 0, .int (if 10 ^ 18 ≤ c then c / 10 ^ 18 else 0)] [] = .ok (.ref 0) [.lst [.int c, .int 0, .int (if 10 ^ 18 ≤ c then c / 10 ^ 18 else 0)]] by
      unfold gLstM
      rw [if_pos (by exact z3)]
      rfl)))
    show finK (sSeq _ _ [some (.scr (ns.map D.int)), some (.int 0), none] []) = _
    rw [all]
    rfl
  · split
    · exact Int.ediv_nonneg (by omega) (by omega)
    · omega
theorem some1 {A : Hd} {T : Int} (S : S1 A T) (hT : T ≤ 2 ^ 40) : ∃ x A', F__law_some_name [.ref 0] A = .ok x A' ∧ okStr 100 x = true ∧ S1 A' (T + 1) := by
  obtain ⟨x, A', e, hx, S'⟩ := pick1 (ds := [.str "a", .str "b", .str "c", .str "d", .str "node", .str "zzzzzzzz", .str "box"]) S hT (by simp) (by simp)
  have all : ∀ d ∈ [D.str "a", .str "b", .str "c", .str "d", .str "node", .str "zzzzzzzz", .str "box"], okStr 100 d = true := by
    have : ([D.str "a", .str "b", .str "c", .str "d", .str "node", .str "zzzzzzzz", .str "box"].all (okStr 100)) = true := by decide +kernel
    exact List.all_eq_true.mp this
  refine ⟨x, A', ?_, all x hx, S'⟩
  unfold F__law_some_name b__law_some_name
  exact fin_ok (ro := [some (.ref 0)]) (sret_ok (args2_ok (A1 := A) (A2 := A) rfl (args_ok (A1 := A) (ds := [.str "a", .str "b", .str "c", .str "d", .str "node", .str "zzzzzzzz", .str "box"]) rfl (by unfold gLstD; rw [if_pos (by show 7 ≤ sizeLine; have := sz1000; omega)])) e)) (S.len S')
theorem repr_bl {F : FF} {d : D} {A : Hd} {b : Bool} {ro : DV.Env} {i : Nat} (h0 : ro[i]? = some (some d)) (h : F [d] A = .ok (.bl b) A) : eArgs gRepr (aCons (eArgs (fun ds A => F (ds ++ []) A) (aCons (eVar i) aNil)) aNil) ro A = .ok (.str (PyData.shown (.bool b))) A := by
  refine args1_ok (args1_ok (d := d) (A1 := A) (by unfold eVar; rw [h0]) h) ?_
  have z : (PyData.shown (.bool b)).length ≤ sizeLine := by
    have h5 : (PyData.shown (.bool b)).length ≤ 5 := by cases b <;> decide +kernel
    have := sz1000
    omega
  have e : toP (deR A (.bl b)) = some (.bool b) := by
    show toP (.bl b) = _
    unfold toP
    rfl
  unfold gRepr
  simp only [e]
  rw [if_pos ⟨rfl, by show (0 : Nat) ≤ 60; omega, z⟩]
theorem same_ok {F G : FF} {d : D} {A : Hd} {b : Bool} {ro : DV.Env} {i : Nat} {p : SF} (h0 : ro[i]? = some (some d)) (hF : F [d] A = .ok (.bl b) A) (hG : G [d] A = .ok (.bl b) A) :
    sIf (tCmpD gNe (eArgs gRepr (aCons (eArgs (fun ds A => F (ds ++ []) A) (aCons (eVar i) aNil)) aNil)) (eArgs gRepr (aCons (eArgs (fun ds A => G (ds ++ []) A) (aCons (eVar i) aNil)) aNil))) p sNx ro A = .go .nx ro A :=
  sif_ok (z := false) (A1 := A) (tcmp_ok (repr_bl h0 hF) (repr_bl h0 hG) (by show R.ok (D.bl (!decide (_ = _))) A = _; rw [decide_eq_true rfl]; rfl)) rfl
theorem okName_str {d : D} (h : okStr 100 d = true) : okName d = true := by
  obtain ⟨x, rfl, h1, h2⟩ := okStr_str h
  show (decide (x.length ≤ 1000) && PyData.canLay0 (.str x)) = true
  rw [h2, decide_eq_true (by omega)]
  rfl
theorem okIt_str {d : D} (h : okStr 100 d = true) : okIt d = true := by
  obtain ⟨x, rfl, h1, h2⟩ := okStr_str h
  show (okName (.str x) && layD (.str x)) = true
  rw [okName_str h, Bool.true_and]
  unfold layD toP
  show (PyData.canLay0 (.str x) && decide (PyData.depth (.str x) ≤ 50)) = true
  rw [h2]
  rfl
/-- the same test for each item -/
theorem same_for {F G : FF} {isX ok : D → Bool} {s : List D} {ro0 : DV.Env} {A : Hd} {p : SF} (i : Nat) (hi : i < ro0.length) (hF : ∀ d A, ok d = true → F [d] A = .ok (.bl (isX d)) A) (hG : ∀ d A, ok d = true → G [d] A = .ok (.bl (isX d)) A) (h : ∀ d ∈ s, ok d = true) :
    ∃ t, forD (.fix s) (gNm i) (sIf (tCmpD gNe (eArgs gRepr (aCons (eArgs (fun ds A => F (ds ++ []) A) (aCons (eVar i) aNil)) aNil)) (eArgs gRepr (aCons (eArgs (fun ds A => G (ds ++ []) A) (aCons (eVar i) aNil)) aNil))) p sNx) s ro0 A = .go .nx (ro0.set i t) A := by
  obtain ⟨ro', A', e, t, rfl, rfl⟩ := forD_run (s := .fix s) (g := gNm i) (b := sIf (tCmpD gNe (eArgs gRepr (aCons (eArgs (fun ds A => F (ds ++ []) A) (aCons (eVar i) aNil)) aNil)) (eArgs gRepr (aCons (eArgs (fun ds A => G (ds ++ []) A) (aCons (eVar i) aNil)) aNil))) p sNx)
    (I := fun _ ro A' => ∃ t, ro = ro0.set i t ∧ A' = A) (fun _ _ A _ => here_fix _ A) s 0 ro0 A ⟨ro0[i], by simp, rfl⟩ (by
      rintro j d ro A' hd ⟨t, rfl, rfl⟩
      have hm := h d (List.mem_of_getElem? hd)
      have h0 : ((ro0.set i t).set i (some d))[i]? = some (some d) := by rw [List.getElem?_set_self (by rw [List.length_set]; exact hi)]
      refine ⟨(ro0.set i t).set i (some d), A', ?_, some d, by rw [List.set_set], rfl⟩
      show (sIf _ _ _ ((ro0.set i t).set i (some d)) A') = _
      exact same_ok h0 (hF d A' hm) (hG d A' hm))
  exact ⟨t, e⟩
end K02

set_option Elab.async false
set_option linter.all false
set_option maxRecDepth 100000
namespace K02
open PySem PySem.Spec PyProof.Rows L2 DV
def odd : List D := [.non, .int 5, .bl true, .tup [.str "a"], .lst [.str "a"], .dic [], .str "", .str "Box", .str "a b", .str "abcdefghi", .str "abcdefgh", .str "z", .str "name", .str "self"]
def odd2 : List D := [.tup [], .tup [.str "a", .str "b", .str "c", .str "d"], .tup [.str "a", .str "b", .str "c", .str "d", .str "e"], .tup [.str "a", .str "a"], .tup [.tup [.str "a"]], .tup [.lst [.str "a"]]]
theorem odd_names : ∀ d ∈ odd, okName d = true := List.all_eq_true.mp (by decide +kernel : odd.all okName = true)
theorem odd_rows : ∀ d ∈ odd ++ odd2, okRow d = true := List.all_eq_true.mp (by decide +kernel : (odd ++ odd2).all okRow = true)
/-- texts that are drawn, in a row -/
theorem draws {ro : DV.Env} {A0 A : Hd} {T st : Int} {n : Int} {sl : Nat} {cnt te : EF} (e0 : cnt ro A0 = .ok (.int n) A) (n0 : 0 ≤ n) (n1 : n ≤ 20) (st0 : 0 ≤ st) (S : S1 A T) (hT : T + 20 * st + 100 ≤ 2 ^ 40)
    (h : ∀ d A T', S1 A T' → T' ≤ T + 20 * st → ∃ x A', te ((wipeD ro [sl]).set sl (some d)) A = .ok x A' ∧ okStr 100 x = true ∧ S1 A' (T' + st)) :
    ∃ ys A', eComp (iRange1 (aCons cnt aNil)) (.one sl) [sl] ttYes te ro A0 = .ok (.lst ys) A' ∧ (∀ d ∈ ys, okStr 100 d = true) ∧ ys.length ≤ n ∧ S1 A' (T + n * st) := by
  have len : (rangeD 0 n.toNat).length = n.toNat := by simp [rangeD]
  obtain ⟨ys, A', e, q, g, l⟩ := compD_run (s := .fix (rangeD 0 n.toNat)) (pt := .one sl) (vs := [sl]) (tt := ttYes) (te := te) (ro := ro) (I := fun i A => i ≤ n.toNat ∧ S1 A (T + (i : Nat) * st)) (G := fun d => okStr 100 d = true) (fun _ A _ => here_fix _ A) (rangeD 0 n.toNat) [] 0 A
    (by rw [len]; have := sz1000; simp; omega) ⟨Nat.zero_le _, S.le (by simp)⟩ (fun d hd => by cases hd) (by
      rintro j d A hd ⟨hi, S⟩
      have hj : j < n.toNat := by rw [← len]; exact (List.getElem?_eq_some_iff.mp hd).1
      have hb : ((0 + j : Nat) : Int) * st ≤ 20 * st := Int.mul_le_mul_of_nonneg_right (by omega) st0
      obtain ⟨x, A', e, ox, S'⟩ := h d A _ S (by omega)
      refine ⟨_, rfl, true, A, rfl, (by intro z; cases z), fun _ => ⟨x, A', e, ox, by omega, S'.le ?_⟩⟩
      rw [show ((0 + j + 1 : Nat) : Int) = ((0 + j : Nat) : Int) + 1 by omega, Int.add_mul]
      omega)
  refine ⟨ys, A', comp_ok (rng_ok e0 n0 (by omega)) e, g, ?_, ?_⟩
  · rw [len] at l
    simp at l
    omega
  · obtain ⟨_, S'⟩ := q
    rw [len] at S'
    exact S'.le (by rw [show ((0 + n.toNat : Nat) : Int) = n by omega]; omega)
theorem cat_ok {xs ys : List D} {A : Hd} (h : xs.length + ys.length ≤ 1000) : gAdd (.lst xs) (.lst ys) A = .ok (.lst (xs ++ ys)) A := by
  have := sz1000
  show (if xs.length + ys.length ≤ sizeLine then R.ok (D.lst (xs ++ ys)) A else .stk) = _
  rw [if_pos (by omega)]
theorem catT_ok {xs ys : List D} {A : Hd} (h : xs.length + ys.length ≤ 1000) : gAdd (.tup xs) (.tup ys) A = .ok (.tup (xs ++ ys)) A := by
  have := sz1000
  show (if xs.length + ys.length ≤ sizeLine then R.ok (D.tup (xs ++ ys)) A else .stk) = _
  rw [if_pos (by omega)]
theorem cutD_mem {xs : List D} {lo hi : Option Int} : ∀ d ∈ DV.cutD xs lo hi, d ∈ xs := fun d hd => List.mem_of_mem_drop (List.mem_of_mem_take hd)
theorem cutD_len (xs : List D) (lo hi : Option Int) : (DV.cutD xs lo hi).length ≤ xs.length := by
  unfold DV.cutD
  rw [List.length_take, List.length_drop]
  omega
theorem okRow_tup {ds : List D} (h : ∀ d ∈ ds, okIt d = true) (hl : ds.length ≤ 1000) : okRow (.tup ds) = true := by
  show (ds.all okIt && decide (ds.length ≤ 1000)) = true
  rw [List.all_eq_true.mpr h, decide_eq_true hl]
  rfl
/-- the five things of a turn -/
theorem five_ok {ro : DV.Env} {A : Hd} {xs : List D} (h0 : ro[5]? = some (some (.lst xs))) (hx : ∀ d ∈ xs, okStr 100 d = true) (hl : xs.length ≤ 100) :
    ∃ s, iSeq (eArgs gTupD (aCons (eArgs gTuple (aCons (eVar 5) aNil)) (aCons (eVar 5) (aCons (eArgs gTuple (aCons (eBin gAdd (eVar 5) (eCut (eVar 5) oNone (oSome (eC (.int 1))))) aNil)) (aCons (eBin gAdd (eArgs gTuple (aCons (eVar 5) aNil)) (eArgs gTupD (aCons (eC .non) aNil))) (aCons (eArgs gTuple (aCons (eCut (eVar 5) oNone (oSome (eC (.int 1)))) aNil)) aNil)))))) ro A = .ok (.fix s) A ∧ ∀ d ∈ s, okRow d = true := by
  have sz := sz1000
  have v5 : eVar 5 ro A = .ok (.lst xs) A := by unfold eVar; rw [h0]
  have t5 : eArgs gTuple (aCons (eVar 5) aNil) ro A = .ok (.tup xs) A := args1_ok v5 rfl
  have c5 : eCut (eVar 5) oNone (oSome (eC (.int 1))) ro A = .ok (.lst (DV.cutD xs none (some 1))) A := by
    unfold eCut
    rw [v5]
    rfl
  have lc := cutD_len xs none (some 1)
  have k3 : eArgs gTuple (aCons (eBin gAdd (eVar 5) (eCut (eVar 5) oNone (oSome (eC (.int 1))))) aNil) ro A = .ok (.tup (xs ++ DV.cutD xs none (some 1))) A := args1_ok (bin_ok v5 c5 (cat_ok (by omega))) rfl
  have nn : eArgs gTupD (aCons (eC .non) aNil) ro A = .ok (.tup [.non]) A := args1_ok (A1 := A) rfl (by unfold gTupD; rw [if_pos (by show 1 ≤ sizeLine; omega)])
  have k4 : eBin gAdd (eArgs gTuple (aCons (eVar 5) aNil)) (eArgs gTupD (aCons (eC .non) aNil)) ro A = .ok (.tup (xs ++ [.non])) A := bin_ok t5 nn (catT_ok (by simp; omega))
  have k5 : eArgs gTuple (aCons (eCut (eVar 5) oNone (oSome (eC (.int 1)))) aNil) ro A = .ok (.tup (DV.cutD xs none (some 1))) A := args1_ok c5 rfl
  refine ⟨[.tup xs, .lst xs, .tup (xs ++ DV.cutD xs none (some 1)), .tup (xs ++ [.non]), .tup (DV.cutD xs none (some 1))], seq_ok (args_ok (acons_ok t5 (acons_ok v5 (acons_ok k3 (acons_ok k4 (acons_ok k5 (show aNil ro A = .ok [] A from rfl)))))) (by unfold gTupD; rw [if_pos (by show 5 ≤ sizeLine; omega)])) rfl, ?_⟩
  intro d hd
  have it : ∀ d ∈ xs, okIt d = true := fun d hd => okIt_str (hx d hd)
  simp only [List.mem_cons, List.not_mem_nil, or_false] at hd
  rcases hd with rfl | rfl | rfl | rfl | rfl
  · exact okRow_tup it (by omega)
  · rfl
  · exact okRow_tup (fun d hd => (List.mem_append.mp hd).elim (it d) fun z => it d (cutD_mem d z)) (by rw [List.length_append]; omega)
  · refine okRow_tup (fun d hd => (List.mem_append.mp hd).elim (it d) fun z => ?_) (by simp; omega)
    rw [List.mem_singleton.mp z]
    decide +kernel
  · exact okRow_tup (fun d hd => it d (cutD_mem d hd)) (by omega)

theorem step_ok {i : Nat} {d : D} {ro : DV.Env} {A : Hd} {b : SF} {o : Out} (h : b (ro.set i (some d)) A = o) : (gNm i d ro A).out.next b = o := h
theorem alphaT {ro : DV.Env} {A : Hd} {T : Int} {n : Nat} (h0 : ro[1]? = some (some (.ref 0))) (S : S1 A T) (hT : T + 20 ≤ 2 ^ 40) (hn : n ≤ 10) : ∃ x A', eArgs (fun ds A => F__law_alphabet_name (ds ++ []) A) (aCons (eVar 1) (aCons (eC (.int n)) aNil)) ro A = .ok x A' ∧ okStr 100 x = true ∧ S1 A' (T + 14) := by
  obtain ⟨x, A', e, h1, h2⟩ := alpha1 S hT hn
  exact ⟨x, A', args2_ok (A1 := A) (A2 := A) (d := .ref 0) (e := .int n) (by unfold eVar; rw [h0]) rfl e, h1, h2⟩
theorem nextT {ro : DV.Env} {A : Hd} {T m : Int} (h0 : ro[1]? = some (some (.ref 0))) (S : S1 A T) (hT : T ≤ 2 ^ 40) (hm : 0 < m) (hm2 : m < 2 ^ 60) : ∃ r A', eArgs (fun ds A => F__law_next (ds ++ []) A) (aCons (eVar 1) (aCons (eC (.int m)) aNil)) ro A = .ok (.int r) A' ∧ 0 ≤ r ∧ r < m ∧ S1 A' (T + 1) := by
  obtain ⟨x, A', e, h1, h2, h3⟩ := next1 S hT hm hm2
  exact ⟨x, A', args2_ok (A1 := A) (A2 := A) (d := .ref 0) (e := .int m) (by unfold eVar; rw [h0]) rfl e, h1, h2, h3⟩
theorem law_ok {ns : List Int} (hl : ns.length ≤ 63) : ∃ A', F_law [.scr (ns.map D.int)] [] = .ok (.bl true) A' := by
  have sz := sz1000
  obtain ⟨A1, e1, S1'⟩ := source1 hl
  -- odd
  have oddE : ∀ (ro : DV.Env) (A : Hd), eArgs gLstD (aCons (eC .non) (aCons (eC (.int 5)) (aCons (eC (.bl true)) (aCons (eArgs gTupD (aCons (eC (.str "a")) aNil)) (aCons (eArgs gLstD (aCons (eC (.str "a")) aNil)) (aCons eDicN (aCons (eC (.str "")) (aCons (eC (.str "Box")) (aCons (eC (.str "a b")) (aCons (eC (.str "abcdefghi")) (aCons (eC (.str "abcdefgh")) (aCons (eC (.str "z")) (aCons (eC (.str "name")) (aCons (eC (.str "self")) aNil)))))))))))))) ro A = .ok (.lst odd) A := by
    intro ro A
    have z1 : 1 ≤ sizeLine := by omega
    have z14 : 14 ≤ sizeLine := by omega
    simp [eArgs, aCons, aNil, eC, gTupD, gLstD, eDicN, z1, z14, odd]
  have odd2E : ∀ (ro : DV.Env) (A : Hd), eArgs gLstD (aCons (eArgs gTupD aNil) (aCons (eArgs gTupD (aCons (eC (.str "a")) (aCons (eC (.str "b")) (aCons (eC (.str "c")) (aCons (eC (.str "d")) aNil))))) (aCons (eArgs gTupD (aCons (eC (.str "a")) (aCons (eC (.str "b")) (aCons (eC (.str "c")) (aCons (eC (.str "d")) (aCons (eC (.str "e")) aNil)))))) (aCons (eArgs gTupD (aCons (eC (.str "a")) (aCons (eC (.str "a")) aNil))) (aCons (eArgs gTupD (aCons (eArgs gTupD (aCons (eC (.str "a")) aNil)) aNil)) (aCons (eArgs gTupD (aCons (eArgs gLstD (aCons (eC (.str "a")) aNil)) aNil)) aNil)))))) ro A = .ok (.lst odd2) A := by
    intro ro A
    have z1 : 1 ≤ sizeLine := by omega
    have z2 : 2 ≤ sizeLine := by omega
    have z4 : 4 ≤ sizeLine := by omega
    have z5 : 5 ≤ sizeLine := by omega
    have z6 : 6 ≤ sizeLine := by omega
    simp [eArgs, aCons, aNil, eC, gTupD, gLstD, z1, z2, z4, z5, z6, odd2]
  have oddL : odd.length = 14 := rfl
  have odd2L : odd2.length = 6 := rfl
  -- the first loop
  obtain ⟨ys, A2, e2, gy, ly, S2⟩ := draws (ro := [some (.scr (ns.map D.int)), some (.ref 0), some (.lst odd), none, none, none, none]) (A0 := A1) (A := A1) (T := 0) (st := 14) (n := 20) (sl := 4) (cnt := eC (.int 20)) (te := eArgs (fun ds A => F__law_alphabet_name (ds ++ []) A) (aCons (eVar 1) (aCons (eC (.int 10)) aNil))) rfl (by omega) (by omega) (by omega) S1' (by omega) fun d A T' S hT => alphaT (n := 10) rfl S (by omega) (by omega)
  obtain ⟨t3, f1⟩ := same_for (F := F_is_name) (G := F__law_is_name_here) (isX := isName) (ok := okName) (s := odd ++ ys) (ro0 := [some (.scr (ns.map D.int)), some (.ref 0), some (.lst odd), none, none, none, none]) (A := A2) (p := sRet (eC (.bl false))) 3 (by simp) (fun d A h => name_ok h) (fun d A h => here_name_ok h) fun d hd => (List.mem_append.mp hd).elim (odd_names d) fun z => okName_str (gy d z)
  -- the second loop
  obtain ⟨ro3, A3, f2, ⟨u3, u4, u5, u6, rfl⟩, S3⟩ := forD_run (s := .fix (rangeD 0 20)) (g := gNm 4)
    (b := sSeq (sAsg (eComp (iRange1 (aCons (eArgs (fun ds A => F__law_next (ds ++ []) A) (aCons (eVar 1) (aCons (eC (.int 3)) aNil))) aNil)) (.one 6) [6] ttYes (eArgs (fun ds A => F__law_alphabet_name (ds ++ []) A) (aCons (eVar 1) (aCons (eC (.int 3)) aNil)))) (gNm 5))
      (sSeq (sAsg (eBin gAdd (eVar 5) (eComp (iRange1 (aCons (eArgs (fun ds A => F__law_next (ds ++ []) A) (aCons (eVar 1) (aCons (eC (.int 4)) aNil))) aNil)) (.one 6) [6] ttYes (eArgs (fun ds A => F__law_some_name (ds ++ []) A) (aCons (eVar 1) aNil)))) (gNm 5))
      (sFor (iSeq (eArgs gTupD (aCons (eArgs gTuple (aCons (eVar 5) aNil)) (aCons (eVar 5) (aCons (eArgs gTuple (aCons (eBin gAdd (eVar 5) (eCut (eVar 5) oNone (oSome (eC (.int 1))))) aNil)) (aCons (eBin gAdd (eArgs gTuple (aCons (eVar 5) aNil)) (eArgs gTupD (aCons (eC .non) aNil))) (aCons (eArgs gTuple (aCons (eCut (eVar 5) oNone (oSome (eC (.int 1)))) aNil)) aNil))))))) (gNm 3)
      (sIf (tCmpD gNe (eArgs gRepr (aCons (eArgs (fun ds A => F_is_row (ds ++ []) A) (aCons (eVar 3) aNil)) aNil)) (eArgs gRepr (aCons (eArgs (fun ds A => F__law_is_row_here (ds ++ []) A) (aCons (eVar 3) aNil)) aNil))) (sRet (eC (.bl false))) sNx))))
    (I := fun i ro A => (∃ t3 t4 t5 t6, ro = [some (.scr (ns.map D.int)), some (.ref 0), some (.lst odd), t3, t4, t5, t6]) ∧ S1 A (1000 + 100 * (i : Nat))) (fun _ _ A _ => here_fix _ A) (rangeD 0 20) 0 [some (.scr (ns.map D.int)), some (.ref 0), some (.lst odd), t3, none, none, none] A2 ⟨⟨_, _, _, _, rfl⟩, S2.le (by omega)⟩ (by
      rintro j d ro A hd ⟨⟨t3, t4, t5, t6, rfl⟩, S⟩
      have hj : j < 20 := by
        have := (List.getElem?_eq_some_iff.mp hd).1
        simpa [rangeD] using this
      obtain ⟨r, B1, g1, r0, r1, T1⟩ := nextT (ro := [some (.scr (ns.map D.int)), some (.ref 0), some (.lst odd), t3, some d, t5, t6]) (m := 3) rfl S (by omega) (by omega) (by omega)
      obtain ⟨xs, B2, g2, gx, lx, T2⟩ := draws (ro := [some (.scr (ns.map D.int)), some (.ref 0), some (.lst odd), t3, some d, t5, t6]) (st := 14) (sl := 6) (te := eArgs (fun ds A => F__law_alphabet_name (ds ++ []) A) (aCons (eVar 1) (aCons (eC (.int 3)) aNil))) g1 r0 (by omega) (by omega) T1 (by omega) fun d A T' S hT => alphaT (n := 3) rfl S (by omega) (by omega)
      have T2 : S1 B2 (1000 + 100 * ((0 + j : Nat) : Int) + 40) := T2.le (by
        have := Int.mul_le_mul_of_nonneg_right (show r ≤ 2 by omega) (show (0 : Int) ≤ 14 by omega)
        omega)
      obtain ⟨q, B3, g3, q0, q1, T3⟩ := nextT (ro := [some (.scr (ns.map D.int)), some (.ref 0), some (.lst odd), t3, some d, some (.lst xs), t6]) (m := 4) rfl T2 (by omega) (by omega) (by omega)
      obtain ⟨zs, B4, g4, gz, lz, T4⟩ := draws (ro := [some (.scr (ns.map D.int)), some (.ref 0), some (.lst odd), t3, some d, some (.lst xs), t6]) (st := 1) (sl := 6) (te := eArgs (fun ds A => F__law_some_name (ds ++ []) A) (aCons (eVar 1) aNil)) g3 q0 (by omega) (by omega) T3 (by omega) fun d A T' S hT => by
        obtain ⟨x, A', e, h1, h2⟩ := some1 S (by omega)
        exact ⟨x, A', args1_ok (A1 := A) (d := .ref 0) rfl e, h1, h2⟩
      have hall : ∀ d ∈ xs ++ zs, okStr 100 d = true := fun d hd => (List.mem_append.mp hd).elim (gx d) (gz d)
      obtain ⟨s, g5, hs⟩ := five_ok (ro := [some (.scr (ns.map D.int)), some (.ref 0), some (.lst odd), t3, some d, some (.lst (xs ++ zs)), t6]) (A := B4) rfl hall (by rw [List.length_append]; omega)
      obtain ⟨t, g6⟩ := same_for (F := F_is_row) (G := F__law_is_row_here) (isX := isRow) (ok := okRow) (s := s) (ro0 := [some (.scr (ns.map D.int)), some (.ref 0), some (.lst odd), t3, some d, some (.lst (xs ++ zs)), t6]) (A := B4) (p := sRet (eC (.bl false))) 3 (by simp) (fun d A h => row_ok h) (fun d A h => here_row_ok h) hs
      refine ⟨[some (.scr (ns.map D.int)), some (.ref 0), some (.lst odd), t, some d, some (.lst (xs ++ zs)), t6], B4, ?_, ⟨_, _, _, _, rfl⟩, T4.le (by omega)⟩
      refine step_ok ?_
      refine sseq_ok (ro := [some (.scr (ns.map D.int)), some (.ref 0), some (.lst odd), t3, some d, t5, t6]) (sasg_ok g2) (sseq_ok (ro' := [some (.scr (ns.map D.int)), some (.ref 0), some (.lst odd), t3, some d, some (.lst (xs ++ zs)), t6]) (A1 := B4) ((sasg_ok (bin_ok (A1 := B2) (d := .lst xs) rfl g4 (cat_ok (by omega)))).trans rfl) (sfor_ok g5 g6)))
  -- the third loop
  obtain ⟨t9, f3⟩ := same_for (F := F_is_row) (G := F__law_is_row_here) (isX := isRow) (ok := okRow) (s := odd ++ odd2) (ro0 := [some (.scr (ns.map D.int)), some (.ref 0), some (.lst odd), u3, u4, u5, u6]) (A := A3) (p := sRet (eC (.bl false))) 3 (by simp) (fun d A h => row_ok h) (fun d A h => here_row_ok h) odd_rows
  have i0 : isRow (.tup []) = true := by decide +kernel
  have i4 : isRow (.tup [.str "a", .str "b", .str "c", .str "d"]) = true := by decide +kernel
  have i5 : isRow (.tup [.str "a", .str "b", .str "c", .str "d", .str "e"]) = false := by decide +kernel
  have k0 : okRow (.tup []) = true := by decide +kernel
  have k4 : okRow (.tup [.str "a", .str "b", .str "c", .str "d"]) = true := by decide +kernel
  have k5 : okRow (.tup [.str "a", .str "b", .str "c", .str "d", .str "e"]) = true := by decide +kernel
  have tupE : ∀ (ds : List D) (fl : AF) (ro : DV.Env) (A : Hd), ds.length ≤ 10 → fl ro A = .ok ds A → eArgs gTupD fl ro A = .ok (.tup ds) A := fun ds fl ro A h e => args_ok e (by unfold gTupD; rw [if_pos (by omega)])
  have fin : ∀ ro : DV.Env, eAndD (eArgs (fun ds A => F_is_row (ds ++ []) A) (aCons (eArgs gTupD aNil) aNil)) (eAndD (eArgs (fun ds A => F_is_row (ds ++ []) A) (aCons (eArgs gTupD (aCons (eC (.str "a")) (aCons (eC (.str "b")) (aCons (eC (.str "c")) (aCons (eC (.str "d")) aNil))))) aNil)) (eNotD (eArgs (fun ds A => F_is_row (ds ++ []) A) (aCons (eArgs gTupD (aCons (eC (.str "a")) (aCons (eC (.str "b")) (aCons (eC (.str "c")) (aCons (eC (.str "d")) (aCons (eC (.str "e")) aNil)))))) aNil)))) ro A3 = .ok (.bl true) A3 := fun ro =>
    and_ok (z := true) (A1 := A3) (args1_ok (tupE [] aNil ro A3 (by simp) rfl) ((row_ok k0).trans (by rw [i0]))) ((if_pos rfl).trans (and_ok (z := true) (A1 := A3) (args1_ok (tupE [.str "a", .str "b", .str "c", .str "d"] _ ro A3 (by simp) rfl) ((row_ok k4).trans (by rw [i4]))) ((if_pos rfl).trans ((not_ok (z := false) (args1_ok (k := fun ds A => F_is_row (ds ++ []) A) (tupE [.str "a", .str "b", .str "c", .str "d", .str "e"] _ ro A3 (by simp) rfl) ((row_ok k5).trans (by rw [i5])))).trans rfl))))
  have main : b_law (startD 7 [.scr (ns.map D.int)]) [] = .go (.ret (.bl true)) [some (.scr (ns.map D.int)), some (.ref 0), some (.lst odd), t9, u4, u5, u6] A3 := by
    unfold b_law
    refine sseq_ok (ro := [some (.scr (ns.map D.int)), none, none, none, none, none, none]) (sasg_ok (args2_ok (A1 := []) (A2 := []) (d := .scr (ns.map D.int)) (e := .int 0) rfl rfl e1)) ?_
    refine sseq_ok (sasg_ok (oddE _ _)) ?_
    refine sseq_ok (sfor_ok (seq_ok (bin_ok (d := .lst odd) (e := .lst ys) (A1 := A1) rfl e2 (cat_ok (by rw [oddL]; omega))) rfl) f1) ?_
    refine sseq_ok (sfor_ok (rng_ok (a := eC (.int 20)) (A1 := A2) rfl (by omega) (by omega)) f2) ?_
    refine sseq_ok (sfor_ok (seq_ok (bin_ok (d := .lst odd) (e := .lst odd2) (A1 := A3) (A2 := A3) rfl (odd2E _ _) (cat_ok (by rw [oddL, odd2L]; omega))) rfl) f3) ?_
    exact sret_ok (fin _)
  refine ⟨[], ?_⟩
  unfold F_law
  show finR [] (b_law (startD 7 [.scr (ns.map D.int)]) []) = _
  rw [main]
  rfl
end K02

set_option Elab.async false
set_option linter.all false
set_option maxRecDepth 100000
namespace K02
open PySem PySem.Spec PyProof.Rows L2 DV
abbrev ctN : String → Addr := fun _ => 0
theorem all_mk {P : Program} {w : World} {K : PySem.W.Frag} {h : Heap} {mg : Str → Option Value} {fa f0 f1 f2 f3 f4 f5 f6 f7 f8 f9 f10 : Addr} (X : K.In h) (G : h.Ns mainGlobals mg) (hfa : mg "law" = some (.ref fa))
    {od0 an0 od1 an1 od2 an2 od3 an3 od4 an4 od5 an5 od6 an6 od7 an7 od8 an8 od9 an9 od10 an10 : Option Addr} {sl0 sl1 sl2 sl3 sl4 sl5 sl6 sl7 sl8 sl9 sl10 : Array (Option Value)} {oc0 kV0 dc0 pm0 cd0 ct0 oc1 kV1 dc1 pm1 cd1 ct1 oc2 kV2 dc2 pm2 cd2 ct2 oc3 kV3 dc3 pm3 cd3 ct3 oc4 kV4 dc4 pm4 cd4 ct4 oc5 kV5 dc5 pm5 cd5 ct5 oc6 kV6 dc6 pm6 cd6 ct6 oc7 kV7 dc7 pm7 cd7 ct7 oc8 kV8 dc8 pm8 cd8 ct8 oc9 kV9 dc9 pm9 cd9 ct9 oc10 kV10 dc10 pm10 cd10 ct10 u_MOST_LETTERS u_LETTERS u_MOST_NAMES : Value}
    (a0 : PySem.W.nsIn K mainGlobals "_law_source" = some (some (.ref f0))) (l0 : K.lookup f0 = some ⟨oc0, od0, .func (PySem.W.fnOf "_law_source" "_law_source" (defArgs s__law_source) (defBody s__law_source) (defScope s__law_source) .none kV0 dc0 pm0 an0 cd0 ct0), sl0⟩) (c0 : PySem.W.codeIn K cd0 "_law_source" = true) (k0 : PySem.W.keepIn K (.ref f0) = true)
    (a1 : PySem.W.nsIn K mainGlobals "_law_next" = some (some (.ref f1))) (l1 : K.lookup f1 = some ⟨oc1, od1, .func (PySem.W.fnOf "_law_next" "_law_next" (defArgs s__law_next) (defBody s__law_next) (defScope s__law_next) .none kV1 dc1 pm1 an1 cd1 ct1), sl1⟩) (c1 : PySem.W.codeIn K cd1 "_law_next" = true) (k1 : PySem.W.keepIn K (.ref f1) = true)
    (a2 : PySem.W.nsIn K mainGlobals "_law_pick" = some (some (.ref f2))) (l2 : K.lookup f2 = some ⟨oc2, od2, .func (PySem.W.fnOf "_law_pick" "_law_pick" (defArgs s__law_pick) (defBody s__law_pick) (defScope s__law_pick) .none kV2 dc2 pm2 an2 cd2 ct2), sl2⟩) (c2 : PySem.W.codeIn K cd2 "_law_pick" = true) (k2 : PySem.W.keepIn K (.ref f2) = true)
    (a3 : PySem.W.nsIn K mainGlobals "_law_alphabet_name" = some (some (.ref f3))) (l3 : K.lookup f3 = some ⟨oc3, od3, .func (PySem.W.fnOf "_law_alphabet_name" "_law_alphabet_name" (defArgs s__law_alphabet_name) (defBody s__law_alphabet_name) (defScope s__law_alphabet_name) .none kV3 dc3 pm3 an3 cd3 ct3), sl3⟩) (c3 : PySem.W.codeIn K cd3 "_law_alphabet_name" = true) (k3 : PySem.W.keepIn K (.ref f3) = true)
    (a4 : PySem.W.nsIn K mainGlobals "is_name" = some (some (.ref f4))) (l4 : K.lookup f4 = some ⟨oc4, od4, .func (PySem.W.fnOf "is_name" "is_name" (defArgs s_is_name) (defBody s_is_name) (defScope s_is_name) .none kV4 dc4 pm4 an4 cd4 ct4), sl4⟩) (c4 : PySem.W.codeIn K cd4 "is_name" = true) (k4 : PySem.W.keepIn K (.ref f4) = true)
    (a5 : PySem.W.nsIn K mainGlobals "_law_is_name_here" = some (some (.ref f5))) (l5 : K.lookup f5 = some ⟨oc5, od5, .func (PySem.W.fnOf "_law_is_name_here" "_law_is_name_here" (defArgs s__law_is_name_here) (defBody s__law_is_name_here) (defScope s__law_is_name_here) .none kV5 dc5 pm5 an5 cd5 ct5), sl5⟩) (c5 : PySem.W.codeIn K cd5 "_law_is_name_here" = true) (k5 : PySem.W.keepIn K (.ref f5) = true)
    (a6 : PySem.W.nsIn K mainGlobals "_law_some_name" = some (some (.ref f6))) (l6 : K.lookup f6 = some ⟨oc6, od6, .func (PySem.W.fnOf "_law_some_name" "_law_some_name" (defArgs s__law_some_name) (defBody s__law_some_name) (defScope s__law_some_name) .none kV6 dc6 pm6 an6 cd6 ct6), sl6⟩) (c6 : PySem.W.codeIn K cd6 "_law_some_name" = true) (k6 : PySem.W.keepIn K (.ref f6) = true)
    (a7 : PySem.W.nsIn K mainGlobals "are_different" = some (some (.ref f7))) (l7 : K.lookup f7 = some ⟨oc7, od7, .func (PySem.W.fnOf "are_different" "are_different" (defArgs s_are_different) (defBody s_are_different) (defScope s_are_different) .none kV7 dc7 pm7 an7 cd7 ct7), sl7⟩) (c7 : PySem.W.codeIn K cd7 "are_different" = true) (k7 : PySem.W.keepIn K (.ref f7) = true)
    (a8 : PySem.W.nsIn K mainGlobals "is_row" = some (some (.ref f8))) (l8 : K.lookup f8 = some ⟨oc8, od8, .func (PySem.W.fnOf "is_row" "is_row" (defArgs s_is_row) (defBody s_is_row) (defScope s_is_row) .none kV8 dc8 pm8 an8 cd8 ct8), sl8⟩) (c8 : PySem.W.codeIn K cd8 "is_row" = true) (k8 : PySem.W.keepIn K (.ref f8) = true)
    (a9 : PySem.W.nsIn K mainGlobals "_law_is_row_here" = some (some (.ref f9))) (l9 : K.lookup f9 = some ⟨oc9, od9, .func (PySem.W.fnOf "_law_is_row_here" "_law_is_row_here" (defArgs s__law_is_row_here) (defBody s__law_is_row_here) (defScope s__law_is_row_here) .none kV9 dc9 pm9 an9 cd9 ct9), sl9⟩) (c9 : PySem.W.codeIn K cd9 "_law_is_row_here" = true) (k9 : PySem.W.keepIn K (.ref f9) = true)
    (a10 : PySem.W.nsIn K mainGlobals "law" = some (some (.ref f10))) (l10 : K.lookup f10 = some ⟨oc10, od10, .func (PySem.W.fnOf "law" "law" (defArgs s_law) (defBody s_law) (defScope s_law) .none kV10 dc10 pm10 an10 cd10 ct10), sl10⟩) (c10 : PySem.W.codeIn K cd10 "law" = true) (k10 : PySem.W.keepIn K (.ref f10) = true)
    (z_len : PySem.W.nsIn K mainGlobals "len" = some none)
    (z_range : PySem.W.nsIn K mainGlobals "range" = some none)
    (z_isinstance : PySem.W.nsIn K mainGlobals "isinstance" = some none)
    (z_str : PySem.W.nsIn K mainGlobals "str" = some none)
    (z_all : PySem.W.nsIn K mainGlobals "all" = some none)
    (z_tuple : PySem.W.nsIn K mainGlobals "tuple" = some none)
    (z_set : PySem.W.nsIn K mainGlobals "set" = some none)
    (z_repr : PySem.W.nsIn K mainGlobals "repr" = some none)
    (v_MOST_LETTERS : PySem.W.nsIn K mainGlobals "MOST_LETTERS" = some (some u_MOST_LETTERS))
    (v_LETTERS : PySem.W.nsIn K mainGlobals "LETTERS" = some (some u_LETTERS))
    (v_MOST_NAMES : PySem.W.nsIn K mainGlobals "MOST_NAMES" = some (some u_MOST_NAMES))
    (r_MOST_LETTERS : RelV (.int 8) u_MOST_LETTERS)
    (r_LETTERS : RelV (.str "abcdefghijklmnopqrstuvwxyz") u_LETTERS)
    (r_MOST_NAMES : RelV (.int 4) u_MOST_NAMES) :
    ∃ fd : FuncData, (∀ (s : Shared) (v : Value), BindsTo s fd ⟨[v], []⟩ [("_law_script", v)]) ∧ ∀ base : Heap, K.In base → base.Ns mainGlobals mg → FnG P w K mg base 4 fa fd ["_law_script"] (spD K ctN 1 F_law) := by
  have e := hfa.symm.trans (PySem.W.mg_of X G a10)
  cases e
  refine ⟨PySem.W.fnOf "law" "law" (defArgs s_law) (defBody s_law) (defScope s_law) .none kV10 dc10 pm10 an10 cd10 ct10, fun s v => .of_eq rfl, fun base _ _ => ?_⟩
  have m_len : mg "len" = none := PySem.W.mg_none_of X G z_len
  have m_range : mg "range" = none := PySem.W.mg_none_of X G z_range
  have m_isinstance : mg "isinstance" = none := PySem.W.mg_none_of X G z_isinstance
  have m_str : mg "str" = none := PySem.W.mg_none_of X G z_str
  have m_all : mg "all" = none := PySem.W.mg_none_of X G z_all
  have m_tuple : mg "tuple" = none := PySem.W.mg_none_of X G z_tuple
  have m_set : mg "set" = none := PySem.W.mg_none_of X G z_set
  have m_repr : mg "repr" = none := PySem.W.mg_none_of X G z_repr
  have g_MOST_LETTERS : ∃ u, mg "MOST_LETTERS" = some u ∧ RelV (.int 8) u := ⟨_, PySem.W.mg_of X G v_MOST_LETTERS, r_MOST_LETTERS⟩
  have g_LETTERS : ∃ u, mg "LETTERS" = some u ∧ RelV (.str "abcdefghijklmnopqrstuvwxyz") u := ⟨_, PySem.W.mg_of X G v_LETTERS, r_LETTERS⟩
  have g_MOST_NAMES : ∃ u, mg "MOST_NAMES" = some u ∧ RelV (.int 4) u := ⟨_, PySem.W.mg_of X G v_MOST_NAMES, r_MOST_NAMES⟩
  have n__law_source := fun_mk (st := s__law_source) l0 c0 k0
  have b__law_source := n__law_source.binds (ps := ["_law_script", "_law_k"]) fun _ _ _ _ _ _ us hl => match us, hl with | [_, _], _ => rfl
  have c__law_source : Cal P w K mg base ctN 1 "_law_source" 2 [] F__law_source := ⟨f0, _, ["_law_script", "_law_k"], [], [], o__law_source m_len n__law_source, PySem.W.mg_of X G a0, k0, b__law_source, .nil, fun _ _ => .nil⟩
  have n__law_next := fun_mk (st := s__law_next) l1 c1 k1
  have b__law_next := n__law_next.binds (ps := ["_law_source_here", "_law_many"]) fun _ _ _ _ _ _ us hl => match us, hl with | [_, _], _ => rfl
  have c__law_next : Cal P w K mg base ctN 1 "_law_next" 2 [] F__law_next := ⟨f1, _, ["_law_source_here", "_law_many"], [], [], o__law_next  n__law_next, PySem.W.mg_of X G a1, k1, b__law_next, .nil, fun _ _ => .nil⟩
  have n__law_pick := fun_mk (st := s__law_pick) l2 c2 k2
  have b__law_pick := n__law_pick.binds (ps := ["_law_source_here", "_law_items"]) fun _ _ _ _ _ _ us hl => match us, hl with | [_, _], _ => rfl
  have c__law_pick : Cal P w K mg base ctN 2 "_law_pick" 2 [] F__law_pick := ⟨f2, _, ["_law_source_here", "_law_items"], [], [], o__law_pick c__law_next m_len n__law_pick, PySem.W.mg_of X G a2, k2, b__law_pick, .nil, fun _ _ => .nil⟩
  have n__law_alphabet_name := fun_mk (st := s__law_alphabet_name) l3 c3 k3
  have b__law_alphabet_name := n__law_alphabet_name.binds (ps := ["_law_source_here", "_law_most"]) fun _ _ _ _ _ _ us hl => match us, hl with | [_, _], _ => rfl
  have c__law_alphabet_name : Cal P w K mg base ctN 3 "_law_alphabet_name" 2 [] F__law_alphabet_name := ⟨f3, _, ["_law_source_here", "_law_most"], [], [], o__law_alphabet_name c__law_next c__law_pick m_range m_len n__law_alphabet_name, PySem.W.mg_of X G a3, k3, b__law_alphabet_name, .nil, fun _ _ => .nil⟩
  have n_is_name := fun_mk (st := s_is_name) l4 c4 k4
  have b_is_name := n_is_name.binds (ps := ["thing"]) fun _ _ _ _ _ _ us hl => match us, hl with | [_], _ => rfl
  have c_is_name : Cal P w K mg base ctN 1 "is_name" 1 [] F_is_name := ⟨f4, _, ["thing"], [], [], o_is_name m_isinstance m_str m_len m_all g_MOST_LETTERS g_LETTERS n_is_name, PySem.W.mg_of X G a4, k4, b_is_name, .nil, fun _ _ => .nil⟩
  have n__law_is_name_here := fun_mk (st := s__law_is_name_here) l5 c5 k5
  have b__law_is_name_here := n__law_is_name_here.binds (ps := ["_law_thing"]) fun _ _ _ _ _ _ us hl => match us, hl with | [_], _ => rfl
  have c__law_is_name_here : Cal P w K mg base ctN 1 "_law_is_name_here" 1 [] F__law_is_name_here := ⟨f5, _, ["_law_thing"], [], [], o__law_is_name_here m_isinstance m_str m_len n__law_is_name_here, PySem.W.mg_of X G a5, k5, b__law_is_name_here, .nil, fun _ _ => .nil⟩
  have n__law_some_name := fun_mk (st := s__law_some_name) l6 c6 k6
  have b__law_some_name := n__law_some_name.binds (ps := ["_law_source_here"]) fun _ _ _ _ _ _ us hl => match us, hl with | [_], _ => rfl
  have c__law_some_name : Cal P w K mg base ctN 3 "_law_some_name" 1 [] F__law_some_name := ⟨f6, _, ["_law_source_here"], [], [], o__law_some_name c__law_pick n__law_some_name, PySem.W.mg_of X G a6, k6, b__law_some_name, .nil, fun _ _ => .nil⟩
  have n_are_different := fun_mk (st := s_are_different) l7 c7 k7
  have b_are_different := n_are_different.binds (ps := ["thing"]) fun _ _ _ _ _ _ us hl => match us, hl with | [_], _ => rfl
  have c_are_different : Cal P w K mg base ctN 2 "are_different" 1 [] F_are_different := ⟨f7, _, ["thing"], [], [], o_are_different c_is_name m_isinstance m_tuple m_all m_len m_set n_are_different, PySem.W.mg_of X G a7, k7, b_are_different, .nil, fun _ _ => .nil⟩
  have n_is_row := fun_mk (st := s_is_row) l8 c8 k8
  have b_is_row := n_is_row.binds (ps := ["thing"]) fun _ _ _ _ _ _ us hl => match us, hl with | [_], _ => rfl
  have c_is_row : Cal P w K mg base ctN 3 "is_row" 1 [] F_is_row := ⟨f8, _, ["thing"], [], [], o_is_row c_are_different m_len g_MOST_NAMES n_is_row, PySem.W.mg_of X G a8, k8, b_is_row, .nil, fun _ _ => .nil⟩
  have n__law_is_row_here := fun_mk (st := s__law_is_row_here) l9 c9 k9
  have b__law_is_row_here := n__law_is_row_here.binds (ps := ["_law_thing"]) fun _ _ _ _ _ _ us hl => match us, hl with | [_], _ => rfl
  have c__law_is_row_here : Cal P w K mg base ctN 2 "_law_is_row_here" 1 [] F__law_is_row_here := ⟨f9, _, ["_law_thing"], [], [], o__law_is_row_here c__law_is_name_here m_isinstance m_tuple m_len m_set n__law_is_row_here, PySem.W.mg_of X G a9, k9, b__law_is_row_here, .nil, fun _ _ => .nil⟩
  exact o_law c__law_source c__law_alphabet_name c_is_name c__law_is_name_here c__law_next c__law_some_name c_is_row c__law_is_row_here m_range m_repr m_tuple (fun_mk (st := s_law) l10 c10 k10)
theorem law_sp {K : PySem.W.Frag} {H : Hp} {a : Addr} {ns : List Int} (hl : ns.length ≤ 63) (hS : Scr K io0 H a (ns.map V.int)) : spD K ctN 1 F_law [.ref a] H (fun v _ => v = .bl true) (fun _ _ _ => False) := by
  refine ⟨io0, [], [.scr (ns.map D.int)], rfl, ⟨List.nodup_nil, rfl, fun n a m e1 e2 => by simp at e2, fun a ha => by cases ha⟩, .cons (.scr hS ?_) .nil, ?_⟩
  · clear hS hl
    induction ns with
    | nil => exact .nil
    | cons n ns ih => exact .cons (.int n) ih
  · obtain ⟨A', e⟩ := law_ok hl
    rw [e]
    intro v io' H' x h r
    cases r
    rfl
theorem walk {l : PySem.W.OpenLaw} {q : Program} {loose : List Str} {XP : (Str → Option Value) → Heap → Prop} {YP : World → Heap → Prop} {d : DefRec} {K : Params → PySem.W.Frag} (hn : l.most = some 63) (hdf : d.params.defaults = []) (hr : Room 4 callerA)
    (hY : ∀ (w : World) (h : Heap), YP w h → (K w.params).In h)
    (F : ∀ (w : World) (mg : Str → Option Value) (fa : Addr) (h : Heap), (K w.params).In h → h.Ns mainGlobals mg → mg d.name = some (.ref fa) → ∃ fd : FuncData, (∀ (s : Shared) (u : Value), BindsTo s fd ⟨[u], []⟩ [("_law_script", u)]) ∧
      ∀ base : Heap, (K w.params).In base → base.Ns mainGlobals mg → FnG l.prog w (K w.params) mg base 4 fa fd ["_law_script"] (spD (K w.params) ctN 1 F_law)) :
    PySem.W.WalkO q loose XP YP l.row.toRowW d [] (fun f vs => PySem.call f vs) :=
  walkG (n := 63) (k := 4) (x := "_law_script") (sp := fun w => spD (K w.params) ctN 1 F_law) hn (by decide) hdf hr hY fun w mg fa h KX G hmg => ⟨F w mg fa h KX G hmg, fun H a ns hl hS => law_sp hl hS⟩
end K02

open PySem PySem.W PyProof.Rows in
set_option maxRecDepth 100000 in
set_option maxHeartbeats 0 in
theorem PySem.Challenge.cw_nextbehind_k02_names_recognized_holds : PySem.Challenge.rw_nextbehind_k02_names_recognized.Holds := by
  w_on; o_law; k_head; (case hw => w_witness2)
  k_fill
  refine K02.walk (l := PySem.Challenge.rw_nextbehind_k02_names_recognized) rfl rfl ⟨rfl, by decide, by decide⟩ (fun w h Y => PySem.W.kIn_of Y) ?F
  case F =>
    intro w mg fa h KX G hmg
    refine' K02.all_mk KX G hmg ?a0 ?l0 ?c0 ?k0 ?a1 ?l1 ?c1 ?k1 ?a2 ?l2 ?c2 ?k2 ?a3 ?l3 ?c3 ?k3 ?a4 ?l4 ?c4 ?k4 ?a5 ?l5 ?c5 ?k5 ?a6 ?l6 ?c6 ?k6 ?a7 ?l7 ?c7 ?k7 ?a8 ?l8 ?c8 ?k8 ?a9 ?l9 ?c9 ?k9 ?a10 ?l10 ?c10 ?k10 ?z_len ?z_range ?z_isinstance ?z_str ?z_all ?z_tuple ?z_set ?z_repr ?v_MOST_LETTERS ?v_LETTERS ?v_MOST_NAMES ?r_MOST_LETTERS ?r_LETTERS ?r_MOST_NAMES
    (case a0 => k_is)
    (case l0 => k_is)
    (case c0 => k_is)
    (case k0 => k_is)
    (case a1 => k_is)
    (case l1 => k_is)
    (case c1 => k_is)
    (case k1 => k_is)
    (case a2 => k_is)
    (case l2 => k_is)
    (case c2 => k_is)
    (case k2 => k_is)
    (case a3 => k_is)
    (case l3 => k_is)
    (case c3 => k_is)
    (case k3 => k_is)
    (case a4 => k_is)
    (case l4 => k_is)
    (case c4 => k_is)
    (case k4 => k_is)
    (case a5 => k_is)
    (case l5 => k_is)
    (case c5 => k_is)
    (case k5 => k_is)
    (case a6 => k_is)
    (case l6 => k_is)
    (case c6 => k_is)
    (case k6 => k_is)
    (case a7 => k_is)
    (case l7 => k_is)
    (case c7 => k_is)
    (case k7 => k_is)
    (case a8 => k_is)
    (case l8 => k_is)
    (case c8 => k_is)
    (case k8 => k_is)
    (case a9 => k_is)
    (case l9 => k_is)
    (case c9 => k_is)
    (case k9 => k_is)
    (case a10 => k_is)
    (case l10 => k_is)
    (case c10 => k_is)
    (case k10 => k_is)
    (case z_len => k_is)
    (case z_range => k_is)
    (case z_isinstance => k_is)
    (case z_str => k_is)
    (case z_all => k_is)
    (case z_tuple => k_is)
    (case z_set => k_is)
    (case z_repr => k_is)
    (case v_MOST_LETTERS => k_is)
    (case v_LETTERS => k_is)
    (case v_MOST_NAMES => k_is)
    (case r_MOST_LETTERS => first | exact ⟨_, rfl⟩ | rfl)
    (case r_LETTERS => first | exact ⟨_, rfl⟩ | rfl)
    (case r_MOST_NAMES => first | exact ⟨_, rfl⟩ | rfl)
#print axioms PySem.Challenge.cw_nextbehind_k02_names_recognized_holds

