import PyProof.Rows.All
import Wide.All
import OpenK.AllK
import Wide.FinOn
import HandS.ForMost
import HandS.ForExc
import HandS.HeadHook1
import HandS.CallSlots
import HandS.TupAny
import HandS.TupLe
import HandS.Deep
import HandS.IsInst
import HandS.Defaults
import HandS.Strs
import HandS.SetFor
import HandS.MakeKwOnly
import HandS.ExcOwn
import KE.KExcIs
import HandS.ExcInit
import HandS.ExcField
import KE.KDictZip
import HandS.Iter
import PyProof.NeKinds
import HandS.Head0
import HandS.Head1
import HandS.Head2
import HandS.HeadEnd
import HandS.HeadHook2
import HandS.HeadHook3
import HandS.HeadHook4
import PySem.Challenge.RW_coldlanes_k14_others_refused
import HandS.SortInts
import HandS.Conv
import HandS.Style
set_option Elab.async false
set_option linter.all false
set_option maxRecDepth 100000
set_option maxHeartbeats 4000000
namespace CL
open PySem PySem.Spec L2
/-- data without addresses; han: a thing that may change, by its number in the store; fro: the script -/
inductive Da where
  | non | bl (b : Bool) | int (i : Int) | str (s : Str) | tup (xs : List Da) | lst (xs : List Da) | fro (xs : List Da) | han (n : Nat)
inductive Cell where
  | lst (xs : List Da) | ins (c : Str) (fs : List (Str × Da)) | dK (kvs : List (Key × Da)) | exn (c : Str) | dead
abbrev Store := List Cell
/-- a world: where the things stand, what they hold, the heap; pv: lists that are being made -/
structure Wd where
  io : List Addr
  st : Store
  H : Hp
  pv : List Addr
def LiveS (w : Wd) (a : Addr) : Prop := ∃ (n : Nat) (c : Cell), w.io[n]? = some a ∧ w.st[n]? = some c ∧ c ≠ .dead
def Live (w : Wd) (a : Addr) : Prop := a ∈ w.pv ∨ LiveS w a
/-- a list of the written part -/
def KLst (K : PySem.W.Frag) (a : Addr) (xs : List V) : Prop := ∃ (o : Obj) (its : Array Value) (n : Nat), K.lookup a = some o ∧ o.cls = .type "list" ∧ o.dict = none ∧ o.data = .seq its n ∧ its.size ≤ sizeLine ∧ Vals xs its.toList
def FrL (K : PySem.W.Frag) (H : Hp) (a : Addr) (xs : List V) : Prop := (∃ o, H a = some (.frz o (.lst xs))) ∨ KLst K a xs
theorem FrL.sq {K : PySem.W.Frag} {H : Hp} {a : Addr} {xs : List V} (h : FrL K H a xs) : SqL K H a xs := by
  rcases h with h | h
  · exact .inl (.inr h)
  · exact .inr h
mutual
inductive Rep (K : PySem.W.Frag) (w : Wd) : V → Da → Prop
  | non : Rep K w .non .non
  | bl (b : Bool) : Rep K w (.bl b) (.bl b)
  | int (i : Int) : Rep K w (.int i) (.int i)
  | str (s : Str) : Rep K w (.str s) (.str s)
  | tup {a : Addr} {vs : List V} {ds : List Da} : SqT K w.H a vs → RepL K w vs ds → Rep K w (.ref a) (.tup ds)
  | lst {a : Addr} {vs : List V} {ds : List Da} : w.H a = some (.lst vs) → ¬ Live w a → RepL K w vs ds → Rep K w (.ref a) (.lst ds)
  | fro {a : Addr} {vs : List V} {ds : List Da} : FrL K w.H a vs → RepL K w vs ds → Rep K w (.ref a) (.fro ds)
  | han {a : Addr} {n : Nat} : w.io[n]? = some a → Rep K w (.ref a) (.han n)
inductive RepL (K : PySem.W.Frag) (w : Wd) : List V → List Da → Prop
  | nil : RepL K w [] []
  | cons {v : V} {vs : List V} {d : Da} {ds : List Da} : Rep K w v d → RepL K w vs ds → RepL K w (v :: vs) (d :: ds)
end
inductive RepF (K : PySem.W.Frag) (w : Wd) : List (Str × V) → List (Str × Da) → Prop
  | nil : RepF K w [] []
  | cons {f : Str} {v : V} {vs : List (Str × V)} {d : Da} {ds : List (Str × Da)} : Rep K w v d → RepF K w vs ds → RepF K w ((f, v) :: vs) ((f, d) :: ds)
inductive RepK (K : PySem.W.Frag) (w : Wd) : List (Key × V) → List (Key × Da) → Prop
  | nil : RepK K w [] []
  | cons {f : Key} {v : V} {vs : List (Key × V)} {d : Da} {ds : List (Key × Da)} : Rep K w v d → RepK K w vs ds → RepK K w ((f, v) :: vs) ((f, d) :: ds)
/-- a caught error of a class of one's own, at a -/
def XO (cls : Value) (dd : Option Addr) (a : Addr) : HO := .ext fun h => ∃ oe, h.get? a = some oe ∧ Zc cls dd oe ∧ ∃ vs, oe.data = .fields vs
def CellOk (K : PySem.W.Frag) (ga : Str → Addr) (w : Wd) (a : Addr) : Cell → Prop
  | .lst ds => ∃ vs, w.H a = some (.lst vs) ∧ RepL K w vs ds
  | .ins c fs => ∃ dx vfs, w.H a = some (.ins (ga c) dx vfs) ∧ RepF K w vfs fs
  | .dK kvs => ∃ vs, w.H a = some (.dK vs) ∧ RepK K w vs kvs
  | .exn c => w.H a = some (XO (.ref (ga c)) none a)
  | .dead => True
structure Emb (K : PySem.W.Frag) (ga : Str → Addr) (w : Wd) : Prop where
  len : w.io.length = w.st.length
  nd : w.io.Nodup
  dom : ∀ a ∈ w.io, ∃ o, w.H a = some o
  cell : ∀ (n : Nat) (a : Addr) (c : Cell), w.io[n]? = some a → w.st[n]? = some c → CellOk K ga w a c
  pvo : ∀ a ∈ w.pv, a ∉ w.io ∧ ∃ vs, w.H a = some (.lst vs)
structure Ext (w w' : Wd) : Prop where
  io : ∃ t, w'.io = w.io ++ t
  keep : ∀ a o, w.H a = some o → ¬ Live w a → w'.H a = some o ∧ ¬ Live w' a
  pvk : ∀ a ∈ w.pv, a ∈ w'.pv ∧ w'.H a = w.H a
theorem Ext.refl (w : Wd) : Ext w w := ⟨⟨[], by simp⟩, fun _ _ h n => ⟨h, n⟩, fun _ h => ⟨h, rfl⟩⟩
theorem Ext.trans {a b c : Wd} (x : Ext a b) (y : Ext b c) : Ext a c := by
  obtain ⟨t, ht⟩ := x.io
  obtain ⟨u, hu⟩ := y.io
  refine ⟨⟨t ++ u, by rw [hu, ht, List.append_assoc]⟩, fun p o h n => ?_, fun p hp => ?_⟩
  · obtain ⟨h1, n1⟩ := x.keep p o h n
    exact y.keep p o h1 n1
  · obtain ⟨h1, e1⟩ := x.pvk p hp
    obtain ⟨h2, e2⟩ := y.pvk p h1
    exact ⟨h2, e2.trans e1⟩
theorem Ext.at {w w' : Wd} (x : Ext w w') {n : Nat} {a : Addr} (h : w.io[n]? = some a) : w'.io[n]? = some a := by
  obtain ⟨t, ht⟩ := x.io
  rw [ht, List.getElem?_append_left (List.getElem?_eq_some_iff.mp h).1]
  exact h
/-- what is alive is of a kind that changes -/
theorem Emb.live {K : PySem.W.Frag} {ga : Str → Addr} {w : Wd} (m : Emb K ga w) {a : Addr} (h : Live w a) :
    (∃ vs, w.H a = some (.lst vs)) ∨ (∃ C dx fs, w.H a = some (.ins C dx fs)) ∨ (∃ kvs, w.H a = some (.dK kvs)) ∨ ∃ φ, w.H a = some (.ext φ) := by
  rcases h with h | ⟨n, c, h1, h2, h3⟩
  · exact .inl (m.pvo a h).2
  have q := m.cell n a c h1 h2
  cases c with
  | lst ds => obtain ⟨vs, e, _⟩ := q; exact .inl ⟨vs, e⟩
  | ins c fs => obtain ⟨dx, vfs, e, _⟩ := q; exact .inr (.inl ⟨_, dx, vfs, e⟩)
  | dK kvs => obtain ⟨vs, e, _⟩ := q; exact .inr (.inr (.inl ⟨vs, e⟩))
  | exn c => exact .inr (.inr (.inr ⟨_, q⟩))
  | dead => exact absurd rfl h3
theorem Emb.noTup {K : PySem.W.Frag} {ga : Str → Addr} {w : Wd} (m : Emb K ga w) {a : Addr} {vs : List V} (h : w.H a = some (.tup vs)) : ¬ Live w a := fun l => by
  rcases m.live l with ⟨_, e⟩ | ⟨_, _, _, e⟩ | ⟨_, e⟩ | ⟨_, e⟩ <;> rw [h] at e <;> cases e
theorem Emb.noFrz {K : PySem.W.Frag} {ga : Str → Addr} {w : Wd} (m : Emb K ga w) {a : Addr} {o : Obj} {u : HO} (h : w.H a = some (.frz o u)) : ¬ Live w a := fun l => by
  rcases m.live l with ⟨_, e⟩ | ⟨_, _, _, e⟩ | ⟨_, e⟩ | ⟨_, e⟩ <;> rw [h] at e <;> cases e
section
variable {K : PySem.W.Frag} {ga : Str → Addr} {w w' : Wd}
theorem sqT_mono (m : Emb K ga w) (x : Ext w w') {a : Addr} {vs : List V} (h : SqT K w.H a vs) : SqT K w'.H a vs := by
  rcases h with (h | ⟨o, h⟩) | h
  · exact .inl (.inl (x.keep a _ h (m.noTup h)).1)
  · exact .inl (.inr ⟨o, (x.keep a _ h (m.noFrz h)).1⟩)
  · exact .inr h
mutual
theorem Rep.mono (m : Emb K ga w) (x : Ext w w') : ∀ {v : V} {d : Da}, Rep K w v d → Rep K w' v d
  | _, _, .non => .non
  | _, _, .bl b => .bl b
  | _, _, .int i => .int i
  | _, _, .str s => .str s
  | _, _, .tup h r => .tup (sqT_mono m x h) (RepL.mono m x r)
  | _, _, .lst h n r => .lst (x.keep _ _ h n).1 (x.keep _ _ h n).2 (RepL.mono m x r)
  | _, _, .fro h r => .fro (by
      rcases h with ⟨o, h⟩ | h
      · exact .inl ⟨o, (x.keep _ _ h (m.noFrz h)).1⟩
      · exact .inr h) (RepL.mono m x r)
  | _, _, .han h => .han (x.at h)
theorem RepL.mono (m : Emb K ga w) (x : Ext w w') : ∀ {vs : List V} {ds : List Da}, RepL K w vs ds → RepL K w' vs ds
  | _, _, .nil => .nil
  | _, _, .cons h r => .cons (Rep.mono m x h) (RepL.mono m x r)
end
theorem RepF.mono (m : Emb K ga w) (x : Ext w w') : ∀ {vs : List (Str × V)} {ds : List (Str × Da)}, RepF K w vs ds → RepF K w' vs ds
  | _, _, .nil => .nil
  | _, _, .cons h r => .cons (h.mono m x) (r.mono m x)
theorem RepK.mono (m : Emb K ga w) (x : Ext w w') : ∀ {vs : List (Key × V)} {ds : List (Key × Da)}, RepK K w vs ds → RepK K w' vs ds
  | _, _, .nil => .nil
  | _, _, .cons h r => .cons (h.mono m x) (r.mono m x)
theorem RepL.length {vs : List V} {ds : List Da} (r : RepL K w vs ds) : vs.length = ds.length := by
  induction vs generalizing ds with
  | nil => cases r; rfl
  | cons v vs ih => cases r with | cons h t => simp [ih t]
theorem RepL.get : ∀ {vs : List V} {ds : List Da} {i : Nat} {d : Da}, RepL K w vs ds → ds[i]? = some d → ∃ v, vs[i]? = some v ∧ Rep K w v d
  | _, _, i, d, .nil, e => by simp at e
  | _, _, 0, d, .cons h _, e => by simp at e; subst e; exact ⟨_, rfl, h⟩
  | _, _, i + 1, d, .cons _ t, e => by
    obtain ⟨v, h1, h2⟩ := RepL.get (i := i) (d := d) t (by simpa using e)
    exact ⟨v, by simpa using h1, h2⟩
theorem RepL.append : ∀ {vs us : List V} {ds es : List Da}, RepL K w vs ds → RepL K w us es → RepL K w (vs ++ us) (ds ++ es)
  | _, _, _, _, .nil, r => r
  | _, _, _, _, .cons h t, r => .cons h (t.append r)
theorem RepL.set {x : V} {d : Da} (h : Rep K w x d) : ∀ {vs : List V} {ds : List Da} (i : Nat), RepL K w vs ds → RepL K w (vs.set i x) (ds.set i d)
  | _, _, _, .nil => .nil
  | _, _, 0, .cons _ t => .cons h t
  | _, _, i + 1, .cons q t => .cons q (RepL.set h i t)
theorem RepL.take : ∀ {vs : List V} {ds : List Da} (n : Nat), RepL K w vs ds → RepL K w (vs.take n) (ds.take n)
  | _, _, 0, _ => .nil
  | _, _, _ + 1, .nil => .nil
  | _, _, n + 1, .cons r t => .cons r (RepL.take n t)
theorem RepL.drop : ∀ {vs : List V} {ds : List Da} (n : Nat), RepL K w vs ds → RepL K w (vs.drop n) (ds.drop n)
  | _, _, 0, r => r
  | _, _, _ + 1, .nil => .nil
  | _, _, n + 1, .cons _ t => RepL.drop n t
theorem RepL.dropLast : ∀ {vs : List V} {ds : List Da}, RepL K w vs ds → RepL K w vs.dropLast ds.dropLast := fun {vs ds} r => by
  rw [List.dropLast_eq_take, List.dropLast_eq_take, r.length]
  exact r.take _
theorem RepF.lookup : ∀ {vs : List (Str × V)} {ds : List (Str × Da)} {f : Str} {d : Da}, RepF K w vs ds → ds.lookup f = some d → ∃ v, vs.lookup f = some v ∧ Rep K w v d
  | _, _, f, d, .nil, e => by simp at e
  | _, _, f, d, .cons (f := g) h t, e => by
    by_cases q : (f == g) = true
    · simp only [List.lookup, q] at e ⊢
      cases e
      exact ⟨_, rfl, h⟩
    · have q' : (f == g) = false := by simpa using q
      simp only [List.lookup, q'] at e ⊢
      exact RepF.lookup t e
theorem RepF.lookup_none : ∀ {vs : List (Str × V)} {ds : List (Str × Da)} {f : Str}, RepF K w vs ds → ds.lookup f = none → vs.lookup f = none
  | _, _, f, .nil, e => rfl
  | _, _, f, .cons (f := g) h t, e => by
    by_cases q : (f == g) = true
    · simp only [List.lookup, q] at e
      cases e
    · have q' : (f == g) = false := by simpa using q
      simp only [List.lookup, q'] at e ⊢
      exact RepF.lookup_none t e
theorem RepF.length : ∀ {vs : List (Str × V)} {ds : List (Str × Da)}, RepF K w vs ds → vs.length = ds.length
  | _, _, .nil => rfl
  | _, _, .cons _ t => by simp [t.length]
def putD (f : Str) (v : Da) : List (Str × Da) → List (Str × Da)
  | [] => [(f, v)]
  | (g, x) :: r => if g = f then (g, v) :: r else (g, x) :: putD f v r
theorem RepF.put {f : Str} {x : V} {d : Da} (h : Rep K w x d) : ∀ {vs : List (Str × V)} {ds : List (Str × Da)}, RepF K w vs ds → RepF K w (putF f x vs) (putD f d ds)
  | _, _, .nil => .cons h .nil
  | _, _, .cons (f := g) q t => by
    unfold putF putD
    by_cases e : g = f
    · rw [if_pos e, if_pos e]
      exact .cons h t
    · rw [if_neg e, if_neg e]
      exact .cons q (RepF.put h t)
theorem CellOk.mono (m : Emb K ga w) (x : Ext w w') {a : Addr} {c : Cell} (hH : c ≠ .dead → w'.H a = w.H a) (h : CellOk K ga w a c) : CellOk K ga w' a c := by
  cases c with
  | lst ds => obtain ⟨vs, e, r⟩ := h; exact ⟨vs, (hH (by intro z; cases z)).trans e, r.mono m x⟩
  | ins c fs => obtain ⟨dx, vs, e, r⟩ := h; exact ⟨dx, vs, (hH (by intro z; cases z)).trans e, r.mono m x⟩
  | dK ds => obtain ⟨vs, e, r⟩ := h; exact ⟨vs, (hH (by intro z; cases z)).trans e, r.mono m x⟩
  | exn c => exact (hH (by intro z; cases z)).trans h
  | dead => trivial
theorem io_inj (nd : w.io.Nodup) {i j : Nat} {a : Addr} (h1 : w.io[i]? = some a) (h2 : w.io[j]? = some a) : i = j := nd_ix nd h1 h2
/-- a new thing that never changes -/
def Wd.new (w : Wd) (p : Addr) (o : HO) : Wd := ⟨w.io, w.st, upd w.H p o, w.pv⟩
theorem Emb.fresh (m : Emb K ga w) {p : Addr} (hp : w.H p = none) : p ∉ w.io := fun h => by
  obtain ⟨o, e⟩ := m.dom p h
  rw [hp] at e; cases e
theorem Emb.freshP (m : Emb K ga w) {p : Addr} (hp : w.H p = none) : p ∉ w.pv := fun h => by
  obtain ⟨_, vs, e⟩ := m.pvo p h
  rw [hp] at e; cases e
theorem Emb.notLive (m : Emb K ga w) {p : Addr} (hp : w.H p = none) : ¬ Live w p := fun h => by
  rcases h with h | ⟨n, c, h1, _, _⟩
  · exact m.freshP hp h
  · exact m.fresh hp (List.mem_of_getElem? h1)
theorem Ext.new (m : Emb K ga w) {p : Addr} {o : HO} (hp : w.H p = none) : Ext w (w.new p o) := by
  refine ⟨⟨[], by simp [Wd.new]⟩, fun a u h n => ⟨?_, n⟩, fun a ha => ⟨ha, ?_⟩⟩
  · show upd w.H p o a = some u
    rw [upd_ne (ne_of_none h hp)]
    exact h
  · show upd w.H p o a = w.H a
    rw [upd_ne (show a ≠ p from fun z => m.freshP hp (z ▸ ha))]
theorem Emb.new (m : Emb K ga w) {p : Addr} {o : HO} (hp : w.H p = none) : Emb K ga (w.new p o) := by
  refine ⟨m.len, m.nd, fun a ha => ?_, fun n a c h1 h2 => ?_, fun a ha => ?_⟩
  · obtain ⟨u, e⟩ := m.dom a ha
    refine ⟨u, ?_⟩
    show upd w.H p o a = some u
    rw [upd_ne (ne_of_none e hp)]
    exact e
  · refine (m.cell n a c h1 h2).mono m (Ext.new m hp) fun _ => ?_
    have ne : a ≠ p := fun z => m.fresh hp (z ▸ List.mem_of_getElem? h1)
    show upd w.H p o a = w.H a
    rw [upd_ne ne]
  · obtain ⟨h1, vs, h2⟩ := m.pvo a ha
    refine ⟨h1, vs, ?_⟩
    show upd w.H p o a = some (.lst vs)
    rw [upd_ne (ne_of_none h2 hp)]
    exact h2
theorem Rep.newTup (m : Emb K ga w) {p : Addr} {vs : List V} {ds : List Da} (hp : w.H p = none) (r : RepL K w vs ds) : Rep K (w.new p (.tup vs)) (.ref p) (.tup ds) :=
  .tup (.inl (.inl upd_same)) (r.mono m (Ext.new m hp))
theorem Rep.newLst (m : Emb K ga w) {p : Addr} {vs : List V} {ds : List Da} (hp : w.H p = none) (r : RepL K w vs ds) : Rep K (w.new p (.lst vs)) (.ref p) (.lst ds) :=
  .lst upd_same (fun l => m.notLive hp l) (r.mono m (Ext.new m hp))
/-- a new thing that may change -/
def Wd.push (w : Wd) (p : Addr) (o : HO) (c : Cell) : Wd := ⟨w.io ++ [p], w.st ++ [c], upd w.H p o, w.pv⟩
theorem push_at (m : Emb K ga w) {p : Addr} {o : HO} {c : Cell} : (w.push p o c).io[w.st.length]? = some p := by
  show (w.io ++ [p])[w.st.length]? = some p
  rw [← m.len]
  simp
theorem Ext.push (m : Emb K ga w) {p : Addr} {o : HO} {c : Cell} (hp : w.H p = none) : Ext w (w.push p o c) := by
  refine ⟨⟨[p], rfl⟩, fun a u h n => ⟨?_, fun l => ?_⟩, fun a ha => ⟨ha, ?_⟩⟩
  · show upd w.H p o a = some u
    rw [upd_ne (ne_of_none h hp)]
    exact h
  · rcases l with l | l
    · exact n (.inl l)
    obtain ⟨i, k, h1, h2, h3⟩ := l
    have h1' : (w.io ++ [p])[i]? = some a := h1
    have h2' : (w.st ++ [c])[i]? = some k := h2
    have ne : a ≠ p := ne_of_none h hp
    by_cases hi : i < w.io.length
    · rw [List.getElem?_append_left hi] at h1'
      rw [List.getElem?_append_left (m.len ▸ hi)] at h2'
      exact n (.inr ⟨i, k, h1', h2', h3⟩)
    · rw [List.getElem?_append_right (by omega)] at h1'
      have : i - w.io.length = 0 := by
        have := (List.getElem?_eq_some_iff.mp h1').1
        simp at this
        omega
      rw [this] at h1'
      simp at h1'
      exact ne h1'.symm
  · show upd w.H p o a = w.H a
    rw [upd_ne (show a ≠ p from fun z => m.freshP hp (z ▸ ha))]
theorem Emb.push (m : Emb K ga w) {p : Addr} {o : HO} {c : Cell} (hp : w.H p = none) (hc : CellOk K ga (w.push p o c) p c) : Emb K ga (w.push p o c) := by
  refine ⟨?_, ?_, fun a ha => ?_, fun n a k h1 h2 => ?_, fun a ha => ?_⟩
  · show (w.io ++ [p]).length = (w.st ++ [c]).length
    simp [m.len]
  · show (w.io ++ [p]).Nodup
    rw [List.nodup_append]
    refine ⟨m.nd, by simp, fun a ha b hb => ?_⟩
    have e : b = p := by simpa using hb
    rw [e]
    exact fun z => m.fresh hp (z ▸ ha)
  · have ha' : a ∈ w.io ++ [p] := ha
    rcases List.mem_append.mp ha' with ha | ha
    · obtain ⟨u, e⟩ := m.dom a ha
      refine ⟨u, ?_⟩
      show upd w.H p o a = some u
      rw [upd_ne (ne_of_none e hp)]
      exact e
    · have e : a = p := by simpa using ha
      rw [e]
      exact ⟨o, upd_same⟩
  · have h1' : (w.io ++ [p])[n]? = some a := h1
    have h2' : (w.st ++ [c])[n]? = some k := h2
    by_cases hi : n < w.io.length
    · rw [List.getElem?_append_left hi] at h1'
      rw [List.getElem?_append_left (m.len ▸ hi)] at h2'
      refine (m.cell n a k h1' h2').mono m (Ext.push m hp) fun _ => ?_
      have ne : a ≠ p := fun z => m.fresh hp (z ▸ List.mem_of_getElem? h1')
      show upd w.H p o a = w.H a
      rw [upd_ne ne]
    · rw [List.getElem?_append_right (by omega)] at h1'
      rw [List.getElem?_append_right (by rw [← m.len]; omega)] at h2'
      have z : n - w.io.length = 0 := by
        have := (List.getElem?_eq_some_iff.mp h1').1
        simp at this
        omega
      rw [← m.len, z] at h2'
      rw [z] at h1'
      simp at h1' h2'
      subst h1' h2'
      exact hc
  · obtain ⟨h1, vs, h2⟩ := m.pvo a ha
    have ne : a ≠ p := fun z => m.freshP hp (z ▸ ha)
    refine ⟨fun z => ?_, vs, ?_⟩
    · have z' : a ∈ w.io ++ [p] := z
      rcases List.mem_append.mp z' with z | z
      · exact h1 z
      · exact ne (by simpa using z)
    · show upd w.H p o a = some (.lst vs)
      rw [upd_ne ne]
      exact h2
/-- a thing changes -/
def Wd.put (w : Wd) (n : Nat) (a : Addr) (o : HO) (c : Cell) : Wd := ⟨w.io, w.st.set n c, upd w.H a o, w.pv⟩
theorem put_live {n : Nat} {a b : Addr} {o : HO} {c : Cell} (h : Live (w.put n a o c) b) (hb : b ≠ a ∨ c = .dead) (ha : w.io[n]? = some a) : Live w b := by
  rcases h with h | ⟨i, k, h1, h2, h3⟩
  · exact .inl h
  have h1' : w.io[i]? = some b := h1
  have h2' : (w.st.set n c)[i]? = some k := h2
  by_cases e : i = n
  · subst e
    rw [ha] at h1'
    cases h1'
    rcases hb with hb | hb
    · exact absurd rfl hb
    · rw [List.getElem?_set] at h2'
      simp only [if_true] at h2'
      split at h2'
      · cases h2'
        exact absurd hb h3
      · cases h2'
  · rw [List.getElem?_set_ne (Ne.symm e)] at h2'
    exact .inr ⟨i, k, h1', h2', h3⟩
theorem Ext.put (m : Emb K ga w) {n : Nat} {a : Addr} {o : HO} {c c0 : Cell} (ha : w.io[n]? = some a) (hc0 : w.st[n]? = some c0) (hl : c0 ≠ .dead) : Ext w (w.put n a o c) := by
  refine ⟨⟨[], by simp [Wd.put]⟩, fun b u h nl => ?_, fun b hb => ⟨hb, ?_⟩⟩
  · have ne : b ≠ a := fun z => nl (z ▸ .inr ⟨n, c0, ha, hc0, hl⟩)
    refine ⟨?_, fun l => nl (put_live l (.inl ne) ha)⟩
    show upd w.H a o b = some u
    rw [upd_ne ne]
    exact h
  · show upd w.H a o b = w.H b
    rw [upd_ne (show b ≠ a from fun z => (m.pvo b hb).1 (z ▸ List.mem_of_getElem? ha))]
theorem Emb.put (m : Emb K ga w) {n : Nat} {a : Addr} {o : HO} {c c0 : Cell} (ha : w.io[n]? = some a) (hc0 : w.st[n]? = some c0) (hl : c0 ≠ .dead) (hc : CellOk K ga (w.put n a o c) a c) : Emb K ga (w.put n a o c) := by
  refine ⟨?_, m.nd, fun b hb => ?_, fun i b k h1 h2 => ?_, fun b hb => ?_⟩
  · show w.io.length = (w.st.set n c).length
    rw [List.length_set]; exact m.len
  · by_cases e : b = a
    · rw [e]; exact ⟨o, upd_same⟩
    · obtain ⟨u, q⟩ := m.dom b hb
      refine ⟨u, ?_⟩
      show upd w.H a o b = some u
      rw [upd_ne e]; exact q
  · have h1' : w.io[i]? = some b := h1
    have h2' : (w.st.set n c)[i]? = some k := h2
    by_cases e : i = n
    · subst e
      rw [ha] at h1'; cases h1'
      have hlt : i < w.st.length := (List.getElem?_eq_some_iff.mp hc0).1
      rw [List.getElem?_set_self hlt] at h2'
      cases h2'
      exact hc
    · rw [List.getElem?_set_ne (Ne.symm e)] at h2'
      refine (m.cell i b k h1' h2').mono m (Ext.put m ha hc0 hl) fun _ => ?_
      have ne : b ≠ a := fun z => e (io_inj m.nd h1' (z ▸ ha))
      show upd w.H a o b = w.H b
      rw [upd_ne ne]
  · obtain ⟨h1, vs, h2⟩ := m.pvo b hb
    refine ⟨h1, vs, ?_⟩
    show upd w.H a o b = some (.lst vs)
    rw [upd_ne (show b ≠ a from fun z => h1 (z ▸ List.mem_of_getElem? ha))]
    exact h2
/-- a thing stops changing -/
def Wd.kill (w : Wd) (n : Nat) : Wd := ⟨w.io, w.st.set n .dead, w.H, w.pv⟩
theorem kill_live {n : Nat} {b : Addr} (h : Live (w.kill n) b) : b ∈ w.pv ∨ Live w b ∧ ∃ i, i ≠ n ∧ w.io[i]? = some b := by
  rcases h with h | ⟨i, k, h1, h2, h3⟩
  · exact .inl h
  have h1' : w.io[i]? = some b := h1
  have h2' : (w.st.set n .dead)[i]? = some k := h2
  by_cases e : i = n
  · subst e
    rw [List.getElem?_set] at h2'
    simp only [if_true] at h2'
    split at h2'
    · cases h2'
      exact absurd rfl h3
    · cases h2'
  · rw [List.getElem?_set_ne (Ne.symm e)] at h2'
    exact .inr ⟨.inr ⟨i, k, h1', h2', h3⟩, i, e, h1'⟩
theorem kill_live' {n : Nat} {b : Addr} (h : Live (w.kill n) b) : Live w b := by
  rcases kill_live h with h | h
  · exact .inl h
  · exact h.1
theorem Ext.kill {n : Nat} : Ext w (w.kill n) := ⟨⟨[], by simp [Wd.kill]⟩, fun _ _ h nl => ⟨h, fun l => nl (kill_live' l)⟩, fun _ h => ⟨h, rfl⟩⟩
theorem Emb.kill (m : Emb K ga w) {n : Nat} : Emb K ga (w.kill n) := by
  refine ⟨?_, m.nd, m.dom, fun i b k h1 h2 => ?_, m.pvo⟩
  · show w.io.length = (w.st.set n .dead).length
    rw [List.length_set]; exact m.len
  · have h1' : w.io[i]? = some b := h1
    have h2' : (w.st.set n .dead)[i]? = some k := h2
    by_cases e : i = n
    · subst e
      rw [List.getElem?_set] at h2'
      simp only [if_true] at h2'
      split at h2'
      · cases h2'; trivial
      · cases h2'
    · rw [List.getElem?_set_ne (Ne.symm e)] at h2'
      exact (m.cell i b k h1' h2').mono m Ext.kill fun _ => rfl
theorem Rep.killed (m : Emb K ga w) {n : Nat} {a : Addr} {vs : List V} {ds : List Da} (ha : w.io[n]? = some a) (hH : w.H a = some (.lst vs)) (r : RepL K w vs ds) : Rep K (w.kill n) (.ref a) (.lst ds) := by
  refine .lst hH (fun l => ?_) (r.mono m Ext.kill)
  rcases kill_live l with h | ⟨_, i, hi, h⟩
  · exact (m.pvo a h).1 (List.mem_of_getElem? ha)
  · exact hi (io_inj m.nd h ha)
def Wd.hid (w : Wd) (p : Addr) (vs : List V) : Wd := ⟨w.io, w.st, upd w.H p (.lst vs), p :: w.pv⟩
theorem Ext.hid (m : Emb K ga w) {p : Addr} {vs : List V} (hp : w.H p = none) : Ext w (w.hid p vs) := by
  refine ⟨⟨[], by simp [Wd.hid]⟩, fun a u h n => ⟨?_, fun l => ?_⟩, fun a ha => ⟨List.mem_cons_of_mem _ ha, ?_⟩⟩
  · show upd w.H p _ a = some u
    rw [upd_ne (ne_of_none h hp)]
    exact h
  · rcases l with l | l
    · have l' : a ∈ p :: w.pv := l
      rcases List.mem_cons.mp l' with l | l
      · exact ne_of_none h hp l
      · exact n (.inl l)
    · exact n (.inr l)
  · show upd w.H p _ a = w.H a
    rw [upd_ne (show a ≠ p from fun z => m.freshP hp (z ▸ ha))]
theorem Emb.hid (m : Emb K ga w) {p : Addr} {vs : List V} (hp : w.H p = none) : Emb K ga (w.hid p vs) := by
  refine ⟨m.len, m.nd, fun a ha => ?_, fun n a c h1 h2 => ?_, fun a ha => ?_⟩
  · obtain ⟨u, e⟩ := m.dom a ha
    refine ⟨u, ?_⟩
    show upd w.H p _ a = some u
    rw [upd_ne (ne_of_none e hp)]
    exact e
  · refine (m.cell n a c h1 h2).mono m (Ext.hid m hp) fun _ => ?_
    show upd w.H p _ a = w.H a
    rw [upd_ne (show a ≠ p from fun z => m.fresh hp (z ▸ List.mem_of_getElem? h1))]
  · have ha' : a ∈ p :: w.pv := ha
    rcases List.mem_cons.mp ha' with e | ha
    · rw [e]
      exact ⟨m.fresh hp, vs, upd_same⟩
    · obtain ⟨h1, us, h2⟩ := m.pvo a ha
      refine ⟨h1, us, ?_⟩
      show upd w.H p _ a = some (.lst us)
      rw [upd_ne (ne_of_none h2 hp)]
      exact h2
/-- it grows -/
def Wd.grow (w : Wd) (p : Addr) (vs : List V) : Wd := ⟨w.io, w.st, upd w.H p (.lst vs), w.pv⟩
/-- all but p -/
structure ExtP (p : Addr) (w w' : Wd) : Prop where
  io : ∃ t, w'.io = w.io ++ t
  keep : ∀ a o, w.H a = some o → ¬ Live w a → w'.H a = some o ∧ ¬ Live w' a
  pvk : ∀ a ∈ w.pv, a ∈ w'.pv ∧ (a ≠ p → w'.H a = w.H a)
theorem ExtP.grow (m : Emb K ga w) {p : Addr} {vs : List V} (hp : p ∈ w.pv) : ExtP p w (w.grow p vs) := by
  refine ⟨⟨[], by simp [Wd.grow]⟩, fun a u h n => ⟨?_, n⟩, fun a ha => ⟨ha, fun ne => ?_⟩⟩
  · show upd w.H p _ a = some u
    rw [upd_ne (show a ≠ p from fun z => n (.inl (z ▸ hp)))]
    exact h
  · show upd w.H p _ a = w.H a
    rw [upd_ne ne]
mutual
theorem Rep.monoP {p : Addr} (m : Emb K ga w) (x : ExtP p w w') : ∀ {v : V} {d : Da}, Rep K w v d → Rep K w' v d
  | _, _, .non => .non
  | _, _, .bl b => .bl b
  | _, _, .int i => .int i
  | _, _, .str s => .str s
  | _, _, .tup h r => .tup (by
      rcases h with (h | ⟨o, h⟩) | h
      · exact .inl (.inl (x.keep _ _ h (m.noTup h)).1)
      · exact .inl (.inr ⟨o, (x.keep _ _ h (m.noFrz h)).1⟩)
      · exact .inr h) (RepL.monoP m x r)
  | _, _, .lst h n r => .lst (x.keep _ _ h n).1 (x.keep _ _ h n).2 (RepL.monoP m x r)
  | _, _, .fro h r => .fro (by
      rcases h with ⟨o, h⟩ | h
      · exact .inl ⟨o, (x.keep _ _ h (m.noFrz h)).1⟩
      · exact .inr h) (RepL.monoP m x r)
  | _, _, .han h => .han (by
      obtain ⟨t, ht⟩ := x.io
      rw [ht, List.getElem?_append_left (List.getElem?_eq_some_iff.mp h).1]
      exact h)
theorem RepL.monoP {p : Addr} (m : Emb K ga w) (x : ExtP p w w') : ∀ {vs : List V} {ds : List Da}, RepL K w vs ds → RepL K w' vs ds
  | _, _, .nil => .nil
  | _, _, .cons h r => .cons (Rep.monoP m x h) (RepL.monoP m x r)
end
theorem RepF.monoP {p : Addr} (m : Emb K ga w) (x : ExtP p w w') : ∀ {vs : List (Str × V)} {ds : List (Str × Da)}, RepF K w vs ds → RepF K w' vs ds
  | _, _, .nil => .nil
  | _, _, .cons h r => .cons (h.monoP m x) (r.monoP m x)
theorem RepK.monoP {p : Addr} (m : Emb K ga w) (x : ExtP p w w') : ∀ {vs : List (Key × V)} {ds : List (Key × Da)}, RepK K w vs ds → RepK K w' vs ds
  | _, _, .nil => .nil
  | _, _, .cons h r => .cons (h.monoP m x) (r.monoP m x)
theorem Emb.grow (m : Emb K ga w) {p : Addr} {vs : List V} (hp : p ∈ w.pv) : Emb K ga (w.grow p vs) := by
  have x : ExtP p w (w.grow p vs) := ExtP.grow m hp
  have ne : ∀ a ∈ w.io, a ≠ p := fun a ha z => (m.pvo p hp).1 (z ▸ ha)
  refine ⟨m.len, m.nd, fun a ha => ?_, fun n a c h1 h2 => ?_, fun a ha => ⟨(m.pvo a ha).1, ?_⟩⟩
  · obtain ⟨u, e⟩ := m.dom a ha
    refine ⟨u, ?_⟩
    show upd w.H p _ a = some u
    rw [upd_ne (ne a ha)]
    exact e
  · have q := m.cell n a c h1 h2
    have hH : (w.grow p vs).H a = w.H a := by
      show upd w.H p _ a = w.H a
      rw [upd_ne (ne a (List.mem_of_getElem? h1))]
    cases c with
    | lst ds => obtain ⟨us, e, r⟩ := q; exact ⟨us, hH.trans e, r.monoP m x⟩
    | ins c fs => obtain ⟨dx, us, e, r⟩ := q; exact ⟨dx, us, hH.trans e, r.monoP m x⟩
    | dK ds => obtain ⟨us, e, r⟩ := q; exact ⟨us, hH.trans e, r.monoP m x⟩
    | exn c => exact hH.trans q
    | dead => trivial
  · by_cases e : a = p
    · rw [e]; exact ⟨vs, upd_same⟩
    · obtain ⟨us, h2⟩ := (m.pvo a ha).2
      refine ⟨us, ?_⟩
      show upd w.H p _ a = some (.lst us)
      rw [upd_ne e]
      exact h2
theorem Ext.thenGrow {w0 : Wd} (x : Ext w0 w) (m : Emb K ga w) {p : Addr} {vs : List V} (hp : p ∈ w.pv) (h0 : w0.H p = none) (hm0 : p ∉ w0.pv) : Ext w0 (w.grow p vs) := by
  refine ⟨x.io, fun a u h n => ?_, fun a ha => ?_⟩
  · obtain ⟨h1, n1⟩ := x.keep a u h n
    refine ⟨?_, n1⟩
    show upd w.H p _ a = some u
    rw [upd_ne (ne_of_none h h0)]
    exact h1
  · obtain ⟨h1, e1⟩ := x.pvk a ha
    refine ⟨h1, ?_⟩
    show upd w.H p _ a = w0.H a
    rw [upd_ne (show a ≠ p from fun z => hm0 (z ▸ ha))]
    exact e1
def del (H : Hp) (p : Addr) : Hp := fun a => if a = p then none else H a
theorem del_same {H : Hp} {p : Addr} : del H p p = none := by unfold del; rw [if_pos rfl]
theorem del_ne {H : Hp} {p a : Addr} (h : a ≠ p) : del H p a = H a := by unfold del; rw [if_neg h]
theorem upd_del {H : Hp} {p : Addr} {o : HO} (h : H p = some o) : upd (del H p) p o = H := by
  funext a
  by_cases e : a = p
  · rw [e, upd_same, h]
  · rw [upd_ne e, del_ne e]
def Wd.del (w : Wd) (p : Addr) (l : List Addr) : Wd := ⟨w.io, w.st, CL.del w.H p, l⟩
theorem del_live {p a : Addr} {l : List Addr} (hl : w.pv = p :: l) (h : Live (w.del p l) a) : Live w a := by
  rcases h with h | h
  · exact .inl (by rw [hl]; exact List.mem_cons_of_mem _ h)
  · exact .inr h
mutual
theorem Rep.del {p : Addr} {l : List Addr} {us : List V} (hl : w.pv = p :: l) (hp : w.H p = some (.lst us)) : ∀ {v : V} {d : Da}, Rep K w v d → Rep K (w.del p l) v d
  | _, _, .non => .non
  | _, _, .bl b => .bl b
  | _, _, .int i => .int i
  | _, _, .str s => .str s
  | _, _, .tup (a := a) h r => .tup (by
      have tr : ∀ o, w.H a = some o → (∀ zs, o ≠ .lst zs) → (w.del p l).H a = some o := fun o ho hz => by
        show CL.del w.H p a = some o
        have ne : a ≠ p := fun z => by
          rw [z, hp] at ho
          exact hz us (Option.some.inj ho).symm
        rw [del_ne ne]
        exact ho
      rcases h with (h | ⟨o, h⟩) | h
      · exact .inl (.inl (tr _ h fun _ z => nomatch z))
      · exact .inl (.inr ⟨o, tr _ h fun _ z => nomatch z⟩)
      · exact .inr h) (RepL.del hl hp r)
  | _, _, .lst (a := a) h n r => .lst (by
      have ne : a ≠ p := fun z => n (.inl (by rw [hl, z]; exact List.mem_cons_self))
      show CL.del w.H p a = _
      rw [del_ne ne]
      exact h) (fun z => n (del_live hl z)) (RepL.del hl hp r)
  | _, _, .fro (a := a) h r => .fro (by
      rcases h with ⟨o, h⟩ | h
      · have ne : a ≠ p := fun z => by
          rw [z, hp] at h
          cases h
        refine .inl ⟨o, ?_⟩
        show CL.del w.H p a = _
        rw [del_ne ne]
        exact h
      · exact .inr h) (RepL.del hl hp r)
  | _, _, .han h => .han h
theorem RepL.del {p : Addr} {l : List Addr} {us : List V} (hl : w.pv = p :: l) (hp : w.H p = some (.lst us)) : ∀ {vs : List V} {ds : List Da}, RepL K w vs ds → RepL K (w.del p l) vs ds
  | _, _, .nil => .nil
  | _, _, .cons h r => .cons (Rep.del hl hp h) (RepL.del hl hp r)
end
theorem RepF.del {p : Addr} {l : List Addr} {us : List V} (hl : w.pv = p :: l) (hp : w.H p = some (.lst us)) : ∀ {vs : List (Str × V)} {ds : List (Str × Da)}, RepF K w vs ds → RepF K (w.del p l) vs ds
  | _, _, .nil => .nil
  | _, _, .cons h r => .cons (h.del hl hp) (r.del hl hp)
theorem RepK.del {p : Addr} {l : List Addr} {us : List V} (hl : w.pv = p :: l) (hp : w.H p = some (.lst us)) : ∀ {vs : List (Key × V)} {ds : List (Key × Da)}, RepK K w vs ds → RepK K (w.del p l) vs ds
  | _, _, .nil => .nil
  | _, _, .cons h r => .cons (h.del hl hp) (r.del hl hp)
theorem Emb.del (m : Emb K ga w) {p : Addr} {l : List Addr} {us : List V} (hl : w.pv = p :: l) (hp : w.H p = some (.lst us)) (hn : p ∉ l) : Emb K ga (w.del p l) := by
  have ne : ∀ a ∈ w.io, a ≠ p := fun a ha z => (m.pvo p (by rw [hl]; exact List.mem_cons_self)).1 (z ▸ ha)
  refine ⟨m.len, m.nd, fun a ha => ?_, fun n a c h1 h2 => ?_, fun a ha => ?_⟩
  · obtain ⟨o, e⟩ := m.dom a ha
    refine ⟨o, ?_⟩
    show CL.del w.H p a = _
    rw [del_ne (ne a ha)]
    exact e
  · have q := m.cell n a c h1 h2
    have hH : (w.del p l).H a = w.H a := del_ne (ne a (List.mem_of_getElem? h1))
    cases c with
    | lst ds => obtain ⟨vs, e, r⟩ := q; exact ⟨vs, hH.trans e, r.del hl hp⟩
    | ins c fs => obtain ⟨dx, vs, e, r⟩ := q; exact ⟨dx, vs, hH.trans e, r.del hl hp⟩
    | dK ds => obtain ⟨vs, e, r⟩ := q; exact ⟨vs, hH.trans e, r.del hl hp⟩
    | exn c => exact hH.trans q
    | dead => trivial
  · obtain ⟨h1, vs, h2⟩ := m.pvo a (by rw [hl]; exact List.mem_cons_of_mem _ ha)
    refine ⟨h1, vs, ?_⟩
    show CL.del w.H p a = _
    rw [del_ne (show a ≠ p from fun z => hn (z ▸ ha))]
    exact h2
theorem Ext.del {w0 : Wd} {p : Addr} (x : Ext w0 w) (hl : w.pv = p :: w0.pv) (h0 : w0.H p = none) (hn : p ∉ w0.pv) : Ext w0 (w.del p w0.pv) := by
  refine ⟨x.io, fun a o h n => ?_, fun a ha => ⟨ha, ?_⟩⟩
  · obtain ⟨h1, n1⟩ := x.keep a o h n
    refine ⟨?_, fun z => n1 (del_live hl z)⟩
    show CL.del w.H p a = _
    rw [del_ne (ne_of_none h h0)]
    exact h1
  · show CL.del w.H p a = _
    rw [del_ne (show a ≠ p from fun z => hn (z ▸ ha))]
    exact (x.pvk a ha).2
end
structure ExtW (w w' : Wd) : Prop where
  io : ∃ t, w'.io = w.io ++ t
  keep : ∀ a o, w.H a = some o → ¬ Live w a → w'.H a = some o ∧ ¬ Live w' a
theorem Ext.w {w w' : Wd} (x : Ext w w') : ExtW w w' := ⟨x.io, x.keep⟩
theorem ExtP.w {p : Addr} {w w' : Wd} (x : ExtP p w w') : ExtW w w' := ⟨x.io, x.keep⟩
theorem ExtW.trans {a b c : Wd} (x : ExtW a b) (y : ExtW b c) : ExtW a c := by
  obtain ⟨t, ht⟩ := x.io
  obtain ⟨u, hu⟩ := y.io
  refine ⟨⟨t ++ u, by rw [hu, ht, List.append_assoc]⟩, fun p o h n => ?_⟩
  obtain ⟨h1, n1⟩ := x.keep p o h n
  exact y.keep p o h1 n1
theorem ExtW.at {w w' : Wd} (x : ExtW w w') {n : Nat} {a : Addr} (h : w.io[n]? = some a) : w'.io[n]? = some a := by
  obtain ⟨t, ht⟩ := x.io
  rw [ht, List.getElem?_append_left (List.getElem?_eq_some_iff.mp h).1]
  exact h
section
variable {K : PySem.W.Frag} {ga : Str → Addr} {w w' : Wd}
theorem sqT_monoW (m : Emb K ga w) (x : ExtW w w') {a : Addr} {vs : List V} (h : SqT K w.H a vs) : SqT K w'.H a vs := by
  rcases h with (h | ⟨o, h⟩) | h
  · exact .inl (.inl (x.keep a _ h (m.noTup h)).1)
  · exact .inl (.inr ⟨o, (x.keep a _ h (m.noFrz h)).1⟩)
  · exact .inr h
mutual
theorem Rep.monoW (m : Emb K ga w) (x : ExtW w w') : ∀ {v : V} {d : Da}, Rep K w v d → Rep K w' v d
  | _, _, .non => .non
  | _, _, .bl b => .bl b
  | _, _, .int i => .int i
  | _, _, .str s => .str s
  | _, _, .tup h r => .tup (sqT_monoW m x h) (RepL.monoW m x r)
  | _, _, .lst h n r => .lst (x.keep _ _ h n).1 (x.keep _ _ h n).2 (RepL.monoW m x r)
  | _, _, .fro h r => .fro (by
      rcases h with ⟨o, h⟩ | h
      · exact .inl ⟨o, (x.keep _ _ h (m.noFrz h)).1⟩
      · exact .inr h) (RepL.monoW m x r)
  | _, _, .han h => .han (x.at h)
theorem RepL.monoW (m : Emb K ga w) (x : ExtW w w') : ∀ {vs : List V} {ds : List Da}, RepL K w vs ds → RepL K w' vs ds
  | _, _, .nil => .nil
  | _, _, .cons h r => .cons (Rep.monoW m x h) (RepL.monoW m x r)
end
end
end CL
namespace CL
open PySem PySem.Spec L2
inductive Res (A : Type) where
  | ok (a : A) (st : Store)
  | exc (c : Str) (as : List Da) (st : Store)
  | bad
abbrev Mo (A : Type) := Store → Res A
def bnd {A B : Type} (m : Mo A) (f : A → Mo B) : Mo B := fun st => match m st with
  | .ok a st' => f a st'
  | .exc c as st' => .exc c as st'
  | .bad => .bad
def ret {A : Type} (a : A) : Mo A := fun st => .ok a st
def nop {A : Type} : Mo A := fun _ => .bad
@[simp] theorem bnd_ret {A B : Type} (a : A) (f : A → Mo B) : bnd (ret a) f = f a := rfl
@[simp] theorem bnd_nop {A B : Type} (f : A → Mo B) : bnd (nop : Mo A) f = nop := rfl
theorem bnd_assoc {A B C : Type} (m : Mo A) (f : A → Mo B) (g : B → Mo C) : bnd (bnd m f) g = bnd m fun a => bnd (f a) g := by
  funext st
  unfold bnd
  cases m st <;> rfl
abbrev Sl := List (Option Da)
abbrev Em (K : PySem.W.Frag) (w : Wd) : Prop := Emb K (He.ga K) w
/-- what a result must bring -/
def Run (K : PySem.W.Frag) {A : Type} (w : Wd) (r : Res A) (ok : A → Wd → Prop) (ex : Str → List Da → Wd → Prop) : Prop := match r with
  | .ok a st => ∀ io H, Ext w ⟨io, st, H, w.pv⟩ → Em K ⟨io, st, H, w.pv⟩ → ok a ⟨io, st, H, w.pv⟩
  | .exc c as st => ∀ io H, Ext w ⟨io, st, H, w.pv⟩ → Em K ⟨io, st, H, w.pv⟩ → ex c as ⟨io, st, H, w.pv⟩
  | .bad => False
section
variable {K : PySem.W.Frag} {A B : Type} {w w' : Wd} {ok ok' : A → Wd → Prop} {ex ex' : Str → List Da → Wd → Prop}
theorem Run.ext {r : Res A} (h : Run K w r ok ex) (x : Ext w w') (e : w'.pv = w.pv) : Run K w' r ok ex := by
  cases r with
  | ok a st =>
    intro io H x' m
    rw [e] at x' m ⊢
    exact h io H (x.trans x') m
  | exc c as st =>
    intro io H x' m
    rw [e] at x' m ⊢
    exact h io H (x.trans x') m
  | bad => exact h
theorem Run.mono {r : Res A} (h : Run K w r ok ex) (h1 : ∀ a w', Ext w w' → w'.pv = w.pv → Em K w' → ok a w' → ok' a w') (h2 : ∀ c as w', ex c as w' → ex' c as w') : Run K w r ok' ex' := by
  cases r with
  | ok a st => exact fun io H x m => h1 a _ x rfl m (h io H x m)
  | exc c as st => exact fun io H x m => h2 c as _ (h io H x m)
  | bad => exact h
theorem Run.bind {m : Mo A} {f : A → Mo B} {ok : B → Wd → Prop} (h : Run K w (bnd m f w.st) ok ex) : Run K w (m w.st) (fun a w' => Run K w' (f a w'.st) ok ex) ex := by
  unfold bnd at h
  cases q : m w.st with
  | ok a st =>
    rw [q] at h
    exact fun io H x e => Run.ext (w' := ⟨io, st, H, w.pv⟩) h x rfl
  | exc c as st =>
    rw [q] at h
    exact h
  | bad =>
    rw [q] at h
    exact h
theorem Run.here {a : A} (m : Em K w) (h : Run K w (.ok a w.st) ok ex) : ok a w := h w.io w.H (Ext.refl w) m
theorem Run.at {a : A} {st : Store} (h : Run K w (.ok a st) ok ex) (x : Ext w w') (m : Em K w') (e1 : w'.st = st) (e2 : w'.pv = w.pv) : ok a w' := by
  obtain ⟨io, st', H, pv⟩ := w'
  cases e1
  cases e2
  exact h io H x m
end
structure En (K : PySem.W.Frag) (w : Wd) (ro : Sl) (σ : St) : Prop where
  emb : Em K w
  len : σ.length = ro.length
  slot : ∀ (i : Nat) (d : Da), ro[i]? = some (some d) → ∃ v, σ[i]? = some (some v) ∧ Rep K w v d
section
variable {K : PySem.W.Frag} {w w' : Wd} {ro : Sl} {σ : St}
theorem En.mono (e : En K w ro σ) (x : Ext w w') (m : Em K w') : En K w' ro σ :=
  ⟨m, e.len, fun i d h => let ⟨v, h1, h2⟩ := e.slot i d h; ⟨v, h1, h2.mono e.emb x⟩⟩
theorem En.set (e : En K w ro σ) {i : Nat} {v : V} {d : Da} (r : Rep K w v d) : En K w (ro.set i (some d)) (σ.set i (some v)) := by
  refine ⟨e.emb, by simp [e.len], fun j x h => ?_⟩
  by_cases hj : j = i
  · subst hj
    rw [List.getElem?_set] at h
    simp only [if_true] at h
    split at h
    · rename_i hlt
      cases h
      refine ⟨v, ?_, r⟩
      rw [List.getElem?_set_self (by rw [e.len]; exact hlt)]
    · cases h
  · rw [List.getElem?_set_ne (Ne.symm hj)] at h
    obtain ⟨u, h1, h2⟩ := e.slot j x h
    exact ⟨u, by rw [List.getElem?_set_ne (Ne.symm hj)]; exact h1, h2⟩
end
def ExcD (K : PySem.W.Frag) (w : Wd) (as : List Da) (dd : Option Addr) : Prop := match as with
  | [] => dd = none
  | d :: _ => ∃ a v, dd = some a ∧ w.H a = some (.xd [(("place" : Str), v)]) ∧ Rep K w v d
def XP (K : PySem.W.Frag) (E : XK) (c : Str) (as : List Da) (w : Wd) : Prop := ∀ dd, ExcD K w as dd → E (.ref (He.ga K c)) dd w.H
abbrev OkV (K : PySem.W.Frag) (Q : VK) (d : Da) (w : Wd) : Prop := ∀ v, Rep K w v d → Q v w.H
def SE (K : PySem.W.Frag) (E : St → XK) (te : TE) (m : Sl → Mo Da) : Prop := ∀ (w : Wd) (ro : Sl) (σ : St) (Q : VK), En K w ro σ →
  Run K w (m ro w.st) (OkV K Q) (XP K (E σ)) → te σ w.H Q
def ST (K : PySem.W.Frag) (E : St → XK) (tt : TT) (m : Sl → Mo Bool) : Prop := ∀ (w : Wd) (ro : Sl) (σ : St) (Q : Bool → Hp → Prop), En K w ro σ →
  Run K w (m ro w.st) (fun b w' => Q b w'.H) (XP K (E σ)) → tt σ w.H Q
def SA (K : PySem.W.Frag) (E : St → XK) (ta : TA) (m : Sl → Mo (List Da)) : Prop := ∀ (w : Wd) (ro : Sl) (σ : St) (Q : List V → Hp → Prop), En K w ro σ →
  Run K w (m ro w.st) (fun ds w' => ∀ vs, RepL K w' vs ds → Q vs w'.H) (XP K (E σ)) → ta σ w.H Q
/-- a list that is new -/
def OkL (K : PySem.W.Frag) (Q : VK) (ds : List Da) (w : Wd) : Prop := ∀ p vs, w.H p = none → RepL K w vs ds → Q (.ref p) (upd w.H p (.lst vs))
def SL (K : PySem.W.Frag) (E : St → XK) (te : TE) (m : Sl → Mo (List Da)) : Prop := ∀ (w : Wd) (ro : Sl) (σ : St) (Q : VK), En K w ro σ →
  Run K w (m ro w.st) (OkL K Q) (XP K (E σ)) → te σ w.H Q
theorem okL_fresh {K : PySem.W.Frag} {w : Wd} {Q : VK} {ex : Str → List Da → Wd → Prop} {p : Addr} {vs : List V} {ds : List Da} {st : Store} (m : Em K w) (h : Run K w (.ok ds st) (OkL K Q) ex) (es : st = w.st) (hp : w.H p = none) (r : RepL K w vs ds) : Q (.ref p) (upd w.H p (.lst vs)) := by
  subst es
  exact h.here m p vs hp r
inductive Fl where
  | nx (ro : Sl) | rt (d : Da) | bk (ro : Sl) | ct (ro : Sl)
def OkF (K : PySem.W.Frag) (D : Ends) (f : Fl) (w : Wd) : Prop := match f with
  | .nx ro => ∀ σ, En K w ro σ → D.nx σ w.H
  | .rt d => ∀ v, Rep K w v d → D.rt v w.H
  | .bk ro => ∀ σ, En K w ro σ → D.bk σ w.H
  | .ct ro => ∀ σ, En K w ro σ → D.ct σ w.H
def SS (K : PySem.W.Frag) (E : St → XK) (ts : TS) (m : Sl → Mo Fl) : Prop := ∀ (w : Wd) (ro : Sl) (σ : St) (D : Ends), En K w ro σ →
  Run K w (m ro w.st) (OkF K D) (fun c as w' => ∀ σ', XP K (E σ') c as w') → ts D σ w.H
/-- a two-place operation by values; a one-place one; a call by values -/
def S2 (K : PySem.W.Frag) (r : R2) (f : Da → Da → Mo Da) : Prop := ∀ (w : Wd) (x y : V) (d e : Da) (Q : VK) (ex : Str → List Da → Wd → Prop), Em K w → Rep K w x d → Rep K w y e →
  Run K w (f d e w.st) (OkV K Q) ex → r x y w.H Q
def S1 (K : PySem.W.Frag) (r : V → Hp → VK → Prop) (f : Da → Mo Da) : Prop := ∀ (w : Wd) (x : V) (d : Da) (Q : VK) (ex : Str → List Da → Wd → Prop), Em K w → Rep K w x d →
  Run K w (f d w.st) (OkV K Q) ex → r x w.H Q
def SC (K : PySem.W.Frag) (r : List V → Hp → VK → Prop) (f : List Da → Mo Da) : Prop := ∀ (w : Wd) (xs : List V) (ds : List Da) (Q : VK) (ex : Str → List Da → Wd → Prop), Em K w → RepL K w xs ds →
  Run K w (f ds w.st) (OkV K Q) ex → r xs w.H Q
def SCL (K : PySem.W.Frag) (r : List V → Hp → VK → Prop) (f : List Da → Mo (List Da)) : Prop := ∀ (w : Wd) (xs : List V) (ds : List Da) (Q : VK) (ex : Str → List Da → Wd → Prop), Em K w → RepL K w xs ds →
  Run K w (f ds w.st) (OkL K Q) ex → r xs w.H Q
def eVar (i : Nat) : Sl → Mo Da := fun ro st => match ro[i]? with
  | some (some d) => .ok d st
  | _ => .bad
def eC (d : Da) : Sl → Mo Da := fun _ st => .ok d st
def e2 (f : Da → Da → Mo Da) (a b : Sl → Mo Da) : Sl → Mo Da := fun ro => bnd (a ro) fun x => bnd (b ro) fun y => f x y
def e1 (f : Da → Mo Da) (a : Sl → Mo Da) : Sl → Mo Da := fun ro => bnd (a ro) f
def toB : Da → Mo Bool
  | .bl b => ret b
  | _ => nop
def tst (a : Sl → Mo Da) : Sl → Mo Bool := fun ro => bnd (a ro) toB
def tAnd_ (a b : Sl → Mo Bool) : Sl → Mo Bool := fun ro => bnd (a ro) fun c => if c = true then b ro else ret false
def tOr_ (a b : Sl → Mo Bool) : Sl → Mo Bool := fun ro => bnd (a ro) fun c => if c = true then ret true else b ro
def tNot_ (a : Sl → Mo Bool) : Sl → Mo Bool := fun ro => bnd (a ro) fun c => ret (!c)
def vAnd (a b : Sl → Mo Da) : Sl → Mo Da := fun ro => bnd (tst a ro) fun c => if c = true then b ro else ret (.bl false)
def vOr (a b : Sl → Mo Da) : Sl → Mo Da := fun ro => bnd (tst a ro) fun c => if c = true then ret (.bl true) else b ro
def vNot (a : Sl → Mo Da) : Sl → Mo Da := fun ro => bnd (tst a ro) fun c => ret (.bl (!c))
def eIf (t : Sl → Mo Bool) (a b : Sl → Mo Da) : Sl → Mo Da := fun ro => bnd (t ro) fun c => if c = true then a ro else b ro
def aNil : Sl → Mo (List Da) := fun _ => ret []
def aCons (a : Sl → Mo Da) (r : Sl → Mo (List Da)) : Sl → Mo (List Da) := fun ro => bnd (a ro) fun x => bnd (r ro) fun xs => ret (x :: xs)
def eTup (a : Sl → Mo (List Da)) : Sl → Mo Da := fun ro => bnd (a ro) fun xs => if xs.length ≤ 1000 then ret (.tup xs) else nop
def lDisp (a : Sl → Mo (List Da)) : Sl → Mo (List Da) := fun ro => bnd (a ro) fun xs => if xs.length ≤ 1000 then ret xs else nop
def eL (a : Sl → Mo (List Da)) : Sl → Mo Da := fun ro => bnd (a ro) fun xs => ret (.lst xs)
def eH (a : Sl → Mo (List Da)) : Sl → Mo Da := fun ro => bnd (a ro) fun xs st => .ok (.han st.length) (st ++ [.lst xs])
def fz : Da → Mo Da
  | .han n => fun st => match st[n]? with
    | some (.lst ds) => .ok (.lst ds) (st.set n .dead)
    | _ => .bad
  | d => ret d
def eF (a : Sl → Mo Da) : Sl → Mo Da := fun ro => bnd (a ro) fz
def eChain (f g : Da → Da → Mo Da) (a b c : Sl → Mo Da) : Sl → Mo Da := fun ro => bnd (a ro) fun x => bnd (b ro) fun y => bnd (bnd (f x y) toB) fun k => if k = true then bnd (c ro) fun z => g y z else ret (.bl false)
def eCall (f : List Da → Mo Da) (a : Sl → Mo (List Da)) : Sl → Mo Da := fun ro => bnd (a ro) f
section
variable {K : PySem.W.Frag} {E : St → XK} {ta tb tc te : TE} {t u : TT} {a b c : Sl → Mo Da} {p q : Sl → Mo Bool} {r : R2} {f g : Da → Da → Mo Da} {tA : TA} {al : Sl → Mo (List Da)}
theorem s_var {i : Nat} : SE K E (tVar i) (eVar i) := fun w ro σ Q e h => by
  unfold eVar at h
  cases q : ro[i]? with
  | none => rw [q] at h; exact h.elim
  | some o =>
    cases o with
    | none => rw [q] at h; exact h.elim
    | some d =>
      rw [q] at h
      obtain ⟨v, h1, h2⟩ := e.slot i d q
      exact ⟨v, h1, h.here e.emb v h2⟩
theorem s_c {v : V} {d : Da} (hr : ∀ w, Em K w → Rep K w v d) : SE K E (tC v) (eC d) := fun w ro σ Q e h => h.here e.emb v (hr w e.emb)
theorem s_op (h2 : S2 K r f) (ha : SE K E ta a) (hb : SE K E tb b) : SE K E (tOp r ta tb) (e2 f a b) := fun w ro σ Q e h =>
  ha w ro σ _ e (h.bind.mono (fun d w1 x1 p1 m1 k v rv => hb w1 ro σ _ (e.mono x1 m1) (k.bind.mono (fun d2 w2 x2 p2 m2 k2 v2 rv2 =>
    h2 w2 v v2 d d2 Q _ m2 (rv.mono m1 x2) rv2 k2) fun _ _ _ z => z)) fun _ _ _ z => z)
theorem s_un {r : V → Hp → VK → Prop} {f : Da → Mo Da} (h1 : S1 K r f) (ha : SE K E ta a) : SE K E (tUn r ta) (e1 f a) := fun w ro σ Q e h =>
  ha w ro σ _ e (h.bind.mono (fun d w1 x1 p1 m1 k v rv => h1 w1 v d Q _ m1 rv k) fun _ _ _ z => z)
theorem toB_run {w : Wd} {d : Da} {ok : Bool → Wd → Prop} {ex : Str → List Da → Wd → Prop} (m : Em K w) (h : Run K w (toB d w.st) ok ex) : ∃ k, d = .bl k ∧ ok k w := by
  cases d with
  | bl k => exact ⟨k, rfl, h.here m⟩
  | non => exact h.elim
  | int i => exact h.elim
  | str s => exact h.elim
  | tup xs => exact h.elim
  | lst xs => exact h.elim
  | fro xs => exact h.elim
  | han n => exact h.elim
theorem rep_bl {w : Wd} {v : V} {k : Bool} (r : Rep K w v (.bl k)) : v = .bl k := by cases r; rfl
theorem rep_int {w : Wd} {v : V} {k : Int} (r : Rep K w v (.int k)) : v = .int k := by cases r; rfl
theorem s_tst (ha : SE K E ta a) : ST K E (tTest ta) (tst a) := fun w ro σ Q e h =>
  ha w ro σ _ e (h.bind.mono (fun d w1 x1 p1 m1 k v rv => by
    obtain ⟨c, rfl, q⟩ := toB_run m1 k
    exact ⟨c, rep_bl rv, q⟩) fun _ _ _ z => z)
theorem s_tB (ha : SE K E ta a) : ST K E (tB ta) (tst a) := s_tst ha
theorem s_and (ha : ST K E t p) (hb : ST K E u q) : ST K E (tAnd t u) (tAnd_ p q) := fun w ro σ Q e h =>
  ha w ro σ _ e (h.bind.mono (fun c w1 x1 p1 m1 k => by
    cases c with
    | true => rw [if_pos rfl] at k ⊢; exact hb w1 ro σ Q (e.mono x1 m1) k
    | false => rw [if_neg Bool.false_ne_true] at k ⊢; exact k.here m1) fun _ _ _ z => z)
theorem s_or (ha : ST K E t p) (hb : ST K E u q) : ST K E (tOr t u) (tOr_ p q) := fun w ro σ Q e h =>
  ha w ro σ _ e (h.bind.mono (fun c w1 x1 p1 m1 k => by
    cases c with
    | true => rw [if_pos rfl] at k ⊢; exact k.here m1
    | false => rw [if_neg Bool.false_ne_true] at k ⊢; exact hb w1 ro σ Q (e.mono x1 m1) k) fun _ _ _ z => z)
theorem s_not (ha : ST K E t p) : ST K E (tNot t) (tNot_ p) := fun w ro σ Q e h =>
  ha w ro σ _ e (h.bind.mono (fun c w1 x1 p1 m1 k => k.here m1) fun _ _ _ z => z)
theorem s_vAnd (ha : SE K E ta a) (hb : SE K E tb b) : SE K E (tAndV ta tb) (vAnd a b) := fun w ro σ Q e h => by
  unfold vAnd tst at h
  rw [bnd_assoc] at h
  refine ha w ro σ _ e (h.bind.mono (fun d w1 x1 p1 m1 k v rv => ?_) fun _ _ _ z => z)
  obtain ⟨c, rfl, k2⟩ := toB_run m1 k.bind
  refine ⟨c, rep_bl rv, ?_⟩
  cases c with
  | true => rw [if_pos rfl] at k2 ⊢; exact hb w1 ro σ Q (e.mono x1 m1) k2
  | false => rw [if_neg Bool.false_ne_true] at k2 ⊢; exact k2.here m1 _ (.bl false)
theorem s_vOr (ha : SE K E ta a) (hb : SE K E tb b) : SE K E (tOrV ta tb) (vOr a b) := fun w ro σ Q e h => by
  unfold vOr tst at h
  rw [bnd_assoc] at h
  refine ha w ro σ _ e (h.bind.mono (fun d w1 x1 p1 m1 k v rv => ?_) fun _ _ _ z => z)
  obtain ⟨c, rfl, k2⟩ := toB_run m1 k.bind
  refine ⟨c, rep_bl rv, ?_⟩
  cases c with
  | true => rw [if_pos rfl] at k2 ⊢; exact k2.here m1 _ (.bl true)
  | false => rw [if_neg Bool.false_ne_true] at k2 ⊢; exact hb w1 ro σ Q (e.mono x1 m1) k2
theorem s_vNot (ha : SE K E ta a) : SE K E (tNotV ta) (vNot a) := fun w ro σ Q e h => by
  unfold vNot tst at h
  rw [bnd_assoc] at h
  refine ha w ro σ _ e (h.bind.mono (fun d w1 x1 p1 m1 k v rv => ?_) fun _ _ _ z => z)
  obtain ⟨c, rfl, k2⟩ := toB_run m1 k.bind
  exact ⟨c, rep_bl rv, k2.here m1 _ (.bl (!c))⟩
theorem s_if (ht : ST K E t p) (ha : SE K E ta a) (hb : SE K E tb b) : SE K E (tIf t ta tb) (eIf p a b) := fun w ro σ Q e h =>
  ht w ro σ _ e (h.bind.mono (fun c w1 x1 p1 m1 k => by
    cases c with
    | true => rw [if_pos rfl] at k ⊢; exact ha w1 ro σ Q (e.mono x1 m1) k
    | false => rw [if_neg Bool.false_ne_true] at k ⊢; exact hb w1 ro σ Q (e.mono x1 m1) k) fun _ _ _ z => z)
theorem s_nil : SA K E tNil aNil := fun w ro σ Q e h => h.here e.emb [] .nil
theorem s_cons (ha : SE K E ta a) (hr : SA K E tA al) : SA K E (tCons ta tA) (aCons a al) := fun w ro σ Q e h =>
  ha w ro σ _ e (h.bind.mono (fun d w1 x1 p1 m1 k v rv => hr w1 ro σ _ (e.mono x1 m1) (k.bind.mono (fun ds w2 x2 p2 m2 k2 vs rvs =>
    k2.here m2 (v :: vs) (.cons (rv.mono m1 x2) rvs)) fun _ _ _ z => z)) fun _ _ _ z => z)
theorem le_line {n : Nat} (h : n ≤ 1000) : n ≤ sizeLine := Nat.le_of_lt (small1000 h)
theorem s_tup (ha : SA K E tA al) : SE K E (tTup tA) (eTup al) := fun w ro σ Q e h =>
  ha w ro σ _ e (h.bind.mono (fun ds w1 x1 p1 m1 k vs rvs => by
    by_cases hl : ds.length ≤ 1000
    · rw [if_pos hl] at k
      refine ⟨by rw [rvs.length]; exact le_line hl, fun p hp => ?_⟩
      exact k.at (w' := w1.new p (.tup vs)) (Ext.new m1 hp) (m1.new hp) rfl rfl _ (Rep.newTup m1 hp rvs)
    · rw [if_neg hl] at k; exact k.elim) fun _ _ _ z => z)
theorem s_lst (ha : SA K E tA al) : SL K E (tLst tA) (lDisp al) := fun w ro σ Q e h =>
  ha w ro σ _ e (h.bind.mono (fun ds w1 x1 p1 m1 k vs rvs => by
    by_cases hl : ds.length ≤ 1000
    · rw [if_pos hl] at k
      exact ⟨by rw [rvs.length]; exact le_line hl, fun p hp => okL_fresh m1 k rfl hp rvs⟩
    · rw [if_neg hl] at k; exact k.elim) fun _ _ _ z => z)
/-- a new list as data, as a thing -/
theorem s_L (ha : SL K E te al) : SE K E te (eL al) := fun w ro σ Q e h =>
  ha w ro σ _ e (h.bind.mono (fun ds w1 x1 p1 m1 k p vs hp rvs =>
    k.at (w' := w1.new p (.lst vs)) (Ext.new m1 hp) (m1.new hp) rfl rfl _ (Rep.newLst m1 hp rvs)) fun _ _ _ z => z)
theorem s_H (ha : SL K E te al) : SE K E te (eH al) := fun w ro σ Q e h =>
  ha w ro σ _ e (h.bind.mono (fun ds w1 x1 p1 m1 k p vs hp rvs => by
    have x2 : Ext w1 (w1.push p (.lst vs) (.lst ds)) := Ext.push m1 hp
    exact Run.at (w' := w1.push p (.lst vs) (.lst ds)) k x2 (m1.push hp ⟨vs, upd_same, rvs.mono m1 x2⟩) rfl rfl _ (.han (push_at m1))) fun _ _ _ z => z)
/-- a thing stops changing, where it is told -/
theorem s_F (ha : SE K E te a) : SE K E te (eF a) := fun w ro σ Q e h =>
  ha w ro σ _ e (h.bind.mono (fun d w1 x1 p1 m1 k v rv => by
    cases d with
    | han n =>
      have k' : Run K w1 (match w1.st[n]? with | some (.lst ds) => .ok (.lst ds) (w1.st.set n .dead) | _ => .bad) (OkV K Q) (XP K (E σ)) := k
      cases rv with
      | han ha =>
        cases q : w1.st[n]? with
        | none => rw [q] at k'; exact k'.elim
        | some c =>
          rw [q] at k'
          cases c with
          | lst ds =>
            obtain ⟨vs, hH, r⟩ := m1.cell n _ _ ha q
            exact Run.at (w' := w1.kill n) k' Ext.kill m1.kill rfl rfl _ (Rep.killed m1 ha hH r)
          | ins c fs => exact k'.elim
          | dK kvs => exact k'.elim
          | exn c => exact k'.elim
          | dead => exact k'.elim
    | non => exact k.here m1 v rv
    | bl b => exact k.here m1 v rv
    | int i => exact k.here m1 v rv
    | str s => exact k.here m1 v rv
    | tup xs => exact k.here m1 v rv
    | lst xs => exact k.here m1 v rv
    | fro xs => exact k.here m1 v rv) fun _ _ _ z => z)
theorem s_chain {r' : R2} (h1 : S2 K r f) (h2 : S2 K r' g) (ha : SE K E ta a) (hb : SE K E tb b) (hc : SE K E tc c) : SE K E (tChain r r' ta tb tc) (eChain f g a b c) := fun w ro σ Q e h =>
  ha w ro σ _ e (h.bind.mono (fun d w1 x1 p1 m1 k v rv => hb w1 ro σ _ (e.mono x1 m1) (k.bind.mono (fun d2 w2 x2 p2 m2 k2 v2 rv2 => by
    rw [bnd_assoc] at k2
    refine h1 w2 v v2 d d2 _ _ m2 (rv.mono m1 x2) rv2 (k2.bind.mono (fun z w3 x3 p3 m3 k3 v3 rv3 => ?_) fun _ _ _ z => z)
    obtain ⟨cc, rfl, k5⟩ := toB_run m3 k3.bind
    refine ⟨cc, rep_bl rv3, ?_⟩
    have e3 := e.mono (x1.trans (x2.trans x3)) m3
    cases cc with
    | true =>
      rw [if_pos rfl] at k5 ⊢
      exact hc w3 ro σ _ e3 (k5.bind.mono (fun d4 w4 x4 p4 m4 k4 v4 rv4 => h2 w4 v2 v4 d2 d4 Q _ m4 ((rv2.mono m2 x3).mono m3 x4) rv4 k4) fun _ _ _ z => z)
    | false => rw [if_neg Bool.false_ne_true] at k5 ⊢; exact k5.here m3 _ (.bl false)) fun _ _ _ z => z)) fun _ _ _ z => z)
theorem s_cb {r : List V → Hp → VK → Prop} {f : List Da → Mo Da} (hc : SC K r f) (ha : SA K E tA al) : SE K E (tCB r tA) (eCall f al) := fun w ro σ Q e h =>
  ha w ro σ _ e (h.bind.mono (fun ds w1 x1 p1 m1 k vs rvs => hc w1 vs ds Q _ m1 rvs k) fun _ _ _ z => z)
end
end CL
namespace CL
open PySem PySem.Spec L2
abbrev szD : Nat := 1000000
theorem szD_le {n : Nat} (h : n ≤ szD) : n ≤ sizeLine := Nat.le_trans h (by decide)
theorem szD_lt {n : Nat} (h : n < szD) : n < sizeLine := Nat.lt_of_lt_of_le h (by decide)
/-- the items of a list -/
def lsOf (st : Store) : Da → Option (List Da)
  | .lst xs => some xs
  | .han n => match st[n]? with
    | some (.lst xs) => some xs
    | _ => none
  | _ => none
/-- .. of a list or tuple, the script too -/
def sqOf (st : Store) : Da → Option (List Da)
  | .tup xs => some xs
  | .fro xs => some xs
  | d => lsOf st d
section
variable {K : PySem.W.Frag} {w : Wd}
theorem ls_rep {v : V} {d : Da} {ds : List Da} (m : Em K w) (r : Rep K w v d) (h : lsOf w.st d = some ds) : ∃ a vs, v = .ref a ∧ w.H a = some (.lst vs) ∧ RepL K w vs ds := by
  cases r with
  | lst h1 _ r1 => cases h; exact ⟨_, _, rfl, h1, r1⟩
  | @han a n ha =>
    have h' : (match w.st[n]? with | some (.lst xs) => some xs | _ => none) = some ds := h
    cases q : w.st[n]? with
    | none => rw [q] at h'; cases h'
    | some c =>
      rw [q] at h'
      cases c with
      | lst xs =>
        cases h'
        obtain ⟨vs, hH, r⟩ := m.cell n a _ ha q
        exact ⟨a, vs, rfl, hH, r⟩
      | ins c fs => cases h'
      | dK kvs => cases h'
      | exn c => cases h'
      | dead => cases h'
  | non => cases h
  | bl b => cases h
  | int i => cases h
  | str s => cases h
  | tup h1 r1 => cases h
  | fro h1 r1 => cases h
theorem sq_rep {v : V} {d : Da} {ds : List Da} (m : Em K w) (r : Rep K w v d) (h : sqOf w.st d = some ds) : ∃ a vs, v = .ref a ∧ (SqL K w.H a vs ∨ SqT K w.H a vs) ∧ RepL K w vs ds := by
  cases r with
  | tup h1 r1 => cases h; exact ⟨_, _, rfl, .inr h1, r1⟩
  | fro h1 r1 => cases h; exact ⟨_, _, rfl, .inl h1.sq, r1⟩
  | lst h1 n1 r1 =>
    obtain ⟨a, vs, e, h2, r2⟩ := ls_rep m (.lst h1 n1 r1) h
    exact ⟨a, vs, e, .inl (SqL.of h2), r2⟩
  | han ha =>
    obtain ⟨a, vs, e, h2, r2⟩ := ls_rep m (.han ha) h
    exact ⟨a, vs, e, .inl (SqL.of h2), r2⟩
  | non => cases h
  | bl b => cases h
  | int i => cases h
  | str s => cases h
end
def addD : Da → Da → Mo Da
  | .int i, .int j => ret (.int (i + j))
  | .str a, .str b => if a.length + b.length ≤ szD then ret (.str (a ++ b)) else nop
  | .tup xs, .tup ys => if xs.length + ys.length ≤ szD then ret (.tup (xs ++ ys)) else nop
  | d, e => fun st => match lsOf st d, lsOf st e with
    | some xs, some ys => if xs.length + ys.length ≤ szD then .ok (.lst (xs ++ ys)) st else .bad
    | _, _ => .bad
def catL (d e : Da) : Mo (List Da) := fun st => match lsOf st d, lsOf st e with
    | some xs, some ys => if xs.length + ys.length ≤ szD then .ok (xs ++ ys) st else .bad
    | _, _ => .bad
def subD : Da → Da → Mo Da
  | .int i, .int j => ret (.int (i - j))
  | _, _ => nop
instance (i j : Int) : Decidable (CMul i j) := by unfold CMul; infer_instance
instance (i j : Int) : Decidable (CDivN i j) := by unfold CDivN; infer_instance
instance (i j : Int) : Decidable (CPow i j) := by unfold CPow; infer_instance
def mulD : Da → Da → Mo Da
  | .int i, .int j => if CMul i j then ret (.int (i * j)) else nop
  | _, _ => nop
def repL (d : Da) (e : Da) : Mo (List Da) := fun st => match lsOf st d, e with
    | some xs, .int k => if -(2 ^ 63) ≤ k ∧ k < 2 ^ 63 ∧ xs.length * k.toNat ≤ szD then .ok (List.replicate k.toNat xs).flatten st else .bad
    | _, _ => .bad
def fdivD : Da → Da → Mo Da
  | .int i, .int j => if CDivN i j then ret (.int (i.fdiv j)) else nop
  | _, _ => nop
def modD : Da → Da → Mo Da
  | .int i, .int j => if j ≠ 0 then ret (.int (i.fmod j)) else nop
  | _, _ => nop
def powD : Da → Da → Mo Da
  | .int i, .int j => if CPow i j then ret (.int (i ^ j.toNat)) else nop
  | _, _ => nop
def cmpI (f : Int → Int → Bool) : Da → Da → Mo Da
  | .int i, .int j => ret (.bl (f i j))
  | _, _ => nop
def ltD := cmpI fun i j => decide (i < j)
def leD := cmpI fun i j => decide (i ≤ j)
def gtD := cmpI fun i j => decide (j < i)
def geD := cmpI fun i j => decide (j ≤ i)
mutual
def pyW (hf : Nat → Option PyData) : Da → Option PyData
  | .non => some .none
  | .bl b => some (.bool b)
  | .int i => some (.int i)
  | .str s => some (.str s)
  | .tup xs => (pyWL hf xs).map .tuple
  | .lst xs => (pyWL hf xs).map .list
  | .fro xs => (pyWL hf xs).map .list
  | .han n => hf n
def pyWL (hf : Nat → Option PyData) : List Da → Option (List PyData)
  | [] => some []
  | x :: xs => match pyW hf x, pyWL hf xs with
    | some d, some ds => some (d :: ds)
    | _, _ => none
end
abbrev py0L : List Da → Option (List PyData) := pyWL fun _ => none
def hfOf (st : Store) (n : Nat) : Option PyData := match st[n]? with
  | some (.lst xs) => (py0L xs).map .list
  | _ => none
abbrev pyD (st : Store) : Da → Option PyData := pyW (hfOf st)
section
variable {K : PySem.W.Frag} {w : Wd}
mutual
theorem dp_of {hf : Nat → Option PyData} (hh : ∀ n a p, hf n = some p → w.io[n]? = some a → Dp K w.H (.ref a) p) : ∀ (d : Da) (v : V) (p : PyData), Rep K w v d → pyW hf d = some p → Dp K w.H v p
  | .non, _, _, r, h => by cases r; cases h; exact .non
  | .bl b, _, _, r, h => by cases r; cases h; exact .bl b
  | .int i, _, _, r, h => by cases r; cases h; exact .int i
  | .str s, _, _, r, h => by cases r; cases h; exact .str s
  | .tup xs, _, _, r, h => by
    cases r with
    | tup h1 r1 =>
      unfold pyW at h
      cases q : pyWL hf xs with
      | none => rw [q] at h; cases h
      | some ps => rw [q] at h; cases h; exact .tup h1 (dpAll_of hh xs _ ps r1 q)
  | .lst xs, _, _, r, h => by
    cases r with
    | lst h1 _ r1 =>
      unfold pyW at h
      cases q : pyWL hf xs with
      | none => rw [q] at h; cases h
      | some ps => rw [q] at h; cases h; exact .lst (SqL.of h1) (dpAll_of hh xs _ ps r1 q)
  | .fro xs, _, _, r, h => by
    cases r with
    | fro h1 r1 =>
      unfold pyW at h
      cases q : pyWL hf xs with
      | none => rw [q] at h; cases h
      | some ps => rw [q] at h; cases h; exact .lst h1.sq (dpAll_of hh xs _ ps r1 q)
  | .han n, _, _, r, h => by
    cases r with
    | han ha => exact hh n _ _ (by unfold pyW at h; exact h) ha
theorem dpAll_of {hf : Nat → Option PyData} (hh : ∀ n a p, hf n = some p → w.io[n]? = some a → Dp K w.H (.ref a) p) : ∀ (ds : List Da) (vs : List V) (ps : List PyData), RepL K w vs ds → pyWL hf ds = some ps → DpAll K w.H vs ps
  | [], _, _, r, h => by cases r; cases h; exact .nil
  | d :: ds, _, _, r, h => by
    cases r with
    | cons r1 r2 =>
      unfold pyWL at h
      cases q1 : pyW hf d with
      | none => rw [q1] at h; cases h
      | some p =>
        cases q2 : pyWL hf ds with
        | none => rw [q1, q2] at h; cases h
        | some ps => rw [q1, q2] at h; cases h; exact .cons (dp_of hh d _ p r1 q1) (dpAll_of hh ds _ ps r2 q2)
end
theorem dp_hf (m : Em K w) : ∀ n a p, hfOf w.st n = some p → w.io[n]? = some a → Dp K w.H (.ref a) p := fun n a p h ha => by
  unfold hfOf at h
  cases q : w.st[n]? with
  | none => rw [q] at h; cases h
  | some c =>
    rw [q] at h
    cases c with
    | lst xs =>
      obtain ⟨vs, hH, r⟩ := m.cell n a _ ha q
      have h' : (py0L xs).map PyData.list = some p := h
      cases q2 : py0L xs with
      | none => rw [q2] at h'; cases h'
      | some ps =>
        rw [q2] at h'
        cases h'
        exact .lst (SqL.of hH) (dpAll_of (hf := fun _ => none) (fun _ _ _ z => nomatch z) xs vs ps r q2)
    | ins c fs => cases h
    | dK kvs => cases h
    | exn c => cases h
    | dead => cases h
theorem dp_py (m : Em K w) {d : Da} {v : V} {p : PyData} (r : Rep K w v d) (h : pyD w.st d = some p) : Dp K w.H v p := dp_of (dp_hf m) d v p r h
end
def eqB (neg : Bool) (d e : Da) : Mo Da := fun st => match pyD st d, pyD st e with
  | some p, some q => if (SeqAt.shaped p && SeqAt.shaped q) = true then .ok (.bl (if neg then !PyData.eqv p q else PyData.eqv p q)) st else .bad
  | _, _ => .bad
abbrev eqD := eqB false
abbrev neD := eqB true
def isB (neg : Bool) : Da → Da → Mo Da
  | .bl a, .bl b => ret (.bl (if neg then !decide (a = b) else decide (a = b)))
  | d, .non => ret (.bl (if neg then !(match d with | .non => true | _ => false) else match d with | .non => true | _ => false))
  | _, _ => nop
def negD : Da → Mo Da
  | .int i => ret (.int (-i))
  | _ => nop
def ixD (d e : Da) : Mo Da := fun st => match e with
  | .int i => (match d with
    | .str s => if s.length ≤ szD then (match atI s.cps.toList i with
      | some c => .ok (.str ⟨#[c]⟩) st
      | none => .bad) else .bad
    | d => (match d with
      | .fro _ => .bad
      | d => match sqOf st d with
        | some xs => (match atI xs i with
          | some x => .ok x st
          | none => .bad)
        | none => .bad))
  | _ => .bad
def cutD (xs : List Da) (lo hi : Option Int) : List Da := (xs.drop (HT.sIx xs.length 0 lo)).take (HT.sIx xs.length xs.length hi - HT.sIx xs.length 0 lo)
structure QO (X : Cx) (f : Value → Value → Sem Value) (r : R2) (g : Da → Da → Mo Da) : Prop where
  op : OpR X f r
  s2 : S2 X.K r g
def rOr (r r' : R2) : R2 := fun x y H Q => r x y H Q ∨ r' x y H Q
section
variable {X : Cx} {K : PySem.W.Frag} {w : Wd}
theorem OpR.or {f : Value → Value → Sem Value} {r r' : R2} (h : OpR X f r) (h' : OpR X f r') : OpR X f (rOr r r') := fun pins s σ H x y v u Q I rx ry q => by
  rcases q with q | q
  · exact h pins s σ H x y v u Q I rx ry q
  · exact h' pins s σ H x y v u Q I rx ry q
theorem QO.or2 {f : Value → Value → Sem Value} {g : Da → Da → Mo Da} {r r' : R2} (h : OpR X f r) (h' : OpR X f r') (s : S2 X.K (rOr r r') g) : QO X f (rOr r r') g := ⟨OpR.or h h', s⟩
theorem at_map {vs : List V} {ds : List Da} {i : Int} {x : Da} (r : RepL K w vs ds) (h : atI ds i = some x) : ∃ v, atI vs i = some v ∧ Rep K w v x := by
  unfold atI at h ⊢
  rw [r.length]
  cases q : ixN ds.length i with
  | none => rw [q] at h; cases h
  | some j =>
    rw [q] at h
    exact r.get h
theorem q_sub : QO X (binaryOp .Sub) (rI0 fun i j => .int (i - j)) subD := ⟨op_sub, fun w x y d e Q ex m rx ry h => by
  unfold subD at h
  split at h
  · cases rx; cases ry
    exact ⟨_, _, rfl, rfl, h.here m _ (.int _)⟩
  · exact h.elim⟩
theorem q_mul : QO X (binaryOp .Mult) (rI CMul fun i j => .int (i * j)) mulD := ⟨op_mul, fun w x y d e Q ex m rx ry h => by
  unfold mulD at h
  split at h
  · cases rx; cases ry
    split at h
    · rename_i hc
      exact ⟨_, _, rfl, rfl, hc, h.here m _ (.int _)⟩
    · exact h.elim
  · exact h.elim⟩
theorem q_fdiv : QO X (binaryOp .FloorDiv) (rI CDivN fun i j => .int (i.fdiv j)) fdivD := ⟨op_fdivN, fun w x y d e Q ex m rx ry h => by
  unfold fdivD at h
  split at h
  · cases rx; cases ry
    split at h
    · rename_i hc
      exact ⟨_, _, rfl, rfl, hc, h.here m _ (.int _)⟩
    · exact h.elim
  · exact h.elim⟩
theorem q_mod : QO X (binaryOp .Mod) (rI (fun _ j => j ≠ 0) fun i j => .int (i.fmod j)) modD := ⟨op_modN, fun w x y d e Q ex m rx ry h => by
  unfold modD at h
  split at h
  · cases rx; cases ry
    split at h
    · rename_i hc
      exact ⟨_, _, rfl, rfl, hc, h.here m _ (.int _)⟩
    · exact h.elim
  · exact h.elim⟩
theorem q_cmpI {op : CmpOp} {f : Int → Int → Bool} (ho : OpR X (compareOp op) (rI0 fun i j => .bl (f i j))) : QO X (compareOp op) (rI0 fun i j => .bl (f i j)) (cmpI f) := ⟨ho, fun w x y d e Q ex m rx ry h => by
  unfold cmpI at h
  split at h
  · cases rx; cases ry
    exact ⟨_, _, rfl, rfl, h.here m _ (.bl _)⟩
  · exact h.elim⟩
theorem q_lt : QO X (compareOp .Lt) (rI0 fun i j => .bl (decide (i < j))) ltD := q_cmpI op_lt
theorem q_le : QO X (compareOp .LtE) (rI0 fun i j => .bl (decide (i ≤ j))) leD := q_cmpI op_le
theorem q_gt : QO X (compareOp .Gt) (rI0 fun i j => .bl (decide (j < i))) gtD := q_cmpI op_gt
theorem q_ge : QO X (compareOp .GtE) (rI0 fun i j => .bl (decide (j ≤ i))) geD := q_cmpI op_ge
theorem q_eqB {op : CmpOp} {neg : Bool} {r : R2} (ho : OpR X (compareOp op) r) (hr : ∀ x y H Q d e, Dp X.K H x d → Dp X.K H y e → SeqAt.shaped d = true → SeqAt.shaped e = true → Q (.bl (if neg then !PyData.eqv d e else PyData.eqv d e)) H → r x y H Q) : QO X (compareOp op) r (eqB neg) := ⟨ho, fun w x y d e Q ex m rx ry h => by
  unfold eqB at h
  split at h
  · rename_i p q h1 h2
    split at h
    · rename_i hs
      obtain ⟨s1, s2⟩ := Bool.and_eq_true_iff.mp hs
      exact hr x y w.H Q p q (dp_py m rx h1) (dp_py m ry h2) s1 s2 (h.here m _ (.bl _))
    · exact h.elim
  · exact h.elim⟩
theorem q_eq' (hu : X.A.units + 64 < cLine) : QO X (compareOp .Eq) (rEqD X.K) eqD := q_eqB (op_eqD hu) fun x y H Q d e h1 h2 h3 h4 h => ⟨d, e, h1, h2, h3, h4, h⟩
theorem q_ne' (hu : X.A.units + 64 < cLine) : QO X (compareOp .NotEq) (rNeD X.K) neD := q_eqB (op_neD hu) fun x y H Q d e h1 h2 h3 h4 h => ⟨d, e, h1, h2, h3, h4, h⟩
theorem q_isB {op : CmpOp} {neg : Bool} {r r' : R2} (ho : OpR X (compareOp op) r) (ho' : OpR X (compareOp op) r') (h1 : ∀ x H Q, Q (.bl (if neg then !decide (x = .non) else decide (x = .non))) H → r x .non H Q) (h2 : ∀ a b H Q, Q (.bl (if neg then !decide (a = b) else decide (a = b))) H → r' (.bl a) (.bl b) H Q) :
    QO X (compareOp op) (rOr r r') (isB neg) := QO.or2 ho ho' fun w x y d e Q ex m rx ry h => by
  unfold isB at h
  split at h
  · cases rx; cases ry
    exact .inr (h2 _ _ _ _ (h.here m _ (.bl _)))
  · cases ry
    refine .inl (h1 _ _ _ ?_)
    have k := h.here m _ (.bl _)
    cases rx <;> exact k
  · exact h.elim
abbrev rIs : R2 := rOr (fun x y H Q => y = .non ∧ Q (.bl (decide (x = .non))) H) (fun x y H Q => ∃ a b, x = .bl a ∧ y = .bl b ∧ Q (.bl (decide (a = b))) H)
abbrev rIsNot : R2 := rOr (fun x y H Q => y = .non ∧ Q (.bl (!decide (x = .non))) H) (fun x y H Q => ∃ a b, x = .bl a ∧ y = .bl b ∧ Q (.bl (!decide (a = b))) H)
theorem q_is : QO X (compareOp .Is) rIs (isB false) := q_isB op_isN op_is_bl (fun x H Q h => ⟨rfl, h⟩) fun a b H Q h => ⟨a, b, rfl, rfl, h⟩
theorem q_isNot : QO X (compareOp .IsNot) rIsNot (isB true) := q_isB op_notN op_isnot_bl (fun x H Q h => ⟨rfl, h⟩) fun a b H Q h => ⟨a, b, rfl, rfl, h⟩
def rAddA (K : PySem.W.Frag) : R2 := rOr (rOr (rI0 fun i j => .int (i + j)) (fun x y H Q => ∃ i j, x = .str i ∧ y = .str j ∧ i.length + j.length ≤ sizeLine ∧ Q (.str (i ++ j)) H)) (rOr (rCatA K) rCat)
theorem q_add' : QO X (binaryOp .Add) (rAddA X.K) addD := by
  refine ⟨OpR.or (OpR.or op_add op_add_str) (OpR.or op_catA op_cat), fun w x y d e Q ex m rx ry h => ?_⟩
  unfold addD at h
  split at h
  · cases rx; cases ry
    exact .inl (.inl ⟨_, _, rfl, rfl, h.here m _ (.int _)⟩)
  · cases rx; cases ry
    split at h
    · rename_i hl
      exact .inl (.inr ⟨_, _, rfl, rfl, szD_le hl, h.here m _ (.str _)⟩)
    · exact h.elim
  · split at h
    · rename_i hl
      cases rx with
      | @tup a vs _ h1 r1 =>
        cases ry with
        | @tup b us _ h2 r2 =>
          refine .inr (.inl ⟨a, b, vs, us, rfl, rfl, h1, h2, ?_, fun e => ?_, fun n1 e => ?_, fun n1 n2 p hp => ?_⟩)
          · rw [r1.length, r2.length]; exact szD_le hl
          · subst e; cases r1; exact h.here m _ (.tup h2 r2)
          · subst e; cases r2; rw [List.append_nil] at h; exact h.here m _ (.tup h1 r1)
          · exact Run.at (w' := w.new p (.tup (vs ++ us))) h (Ext.new m hp) (m.new hp) rfl rfl _ (Rep.newTup m hp (r1.append r2))
    · exact h.elim
  · dsimp only at h
    split at h
    · rename_i xs ys h1 h2
      split at h
      · rename_i hl
        obtain ⟨a, vs, rfl, hH, r1⟩ := ls_rep m rx h1
        obtain ⟨b, us, rfl, hH2, r2⟩ := ls_rep m ry h2
        refine .inr (.inr ⟨a, b, vs, us, rfl, rfl, hH, hH2, by rw [r1.length, r2.length]; exact szD_le hl, fun p hp => ?_⟩)
        exact Run.at (w' := w.new p (.lst (vs ++ us))) h (Ext.new m hp) (m.new hp) rfl rfl _ (Rep.newLst m hp (r1.append r2))
      · exact h.elim
    · exact h.elim
/-- a new list out of two operands -/
structure QOL (X : Cx) (f : Value → Value → Sem Value) (r : R2) (g : Da → Da → Mo (List Da)) : Prop where
  op : OpR X f r
  s2 : ∀ (w : Wd) (x y : V) (d e : Da) (Q : VK) (ex : Str → List Da → Wd → Prop), Em X.K w → Rep X.K w x d → Rep X.K w y e →
  Run X.K w (g d e w.st) (OkL X.K Q) ex → r x y w.H Q
theorem ql_cat : QOL X (binaryOp .Add) rCat catL := ⟨op_cat, fun w x y d e Q ex m rx ry h => by
  unfold catL at h
  split at h
  · rename_i xs ys h1 h2
    split at h
    · rename_i hl
      obtain ⟨a, vs, rfl, hH, r1⟩ := ls_rep m rx h1
      obtain ⟨b, us, rfl, hH2, r2⟩ := ls_rep m ry h2
      exact ⟨a, b, vs, us, rfl, rfl, hH, hH2, by rw [r1.length, r2.length]; exact szD_le hl, fun p hp => h.here m p _ hp (r1.append r2)⟩
    · exact h.elim
  · exact h.elim⟩
theorem RepL.flat {vs : List V} {ds : List Da} (r : RepL K w vs ds) : ∀ n, RepL K w (List.replicate n vs).flatten (List.replicate n ds).flatten
  | 0 => .nil
  | n + 1 => by
    rw [List.replicate_succ, List.replicate_succ, List.flatten_cons, List.flatten_cons]
    exact r.append (RepL.flat r n)
theorem ql_rep : QOL X (binaryOp .Mult) rRep repL := ⟨op_rep, fun w x y d e Q ex m rx ry h => by
  unfold repL at h
  split at h
  · rename_i xs k h1
    split at h
    · rename_i hl
      obtain ⟨a, vs, rfl, hH, r1⟩ := ls_rep m rx h1
      cases ry
      exact ⟨a, k, vs, rfl, rfl, hH, hl.1, hl.2.1, by rw [r1.length]; exact szD_le hl.2.2, fun p hp => h.here m p _ hp (r1.flat _)⟩
    · exact h.elim
  · exact h.elim⟩
theorem q_ix : IxR X (rIx X.K) ∧ S2 X.K (rIx X.K) ixD := by
  refine ⟨ix_seq, fun w x y d e Q ex m rx ry h => ?_⟩
  unfold ixD at h
  split at h
  · cases ry
    split at h
    · cases rx
      split at h
      · rename_i hl
        split at h
        · rename_i c hc
          exact .inr (.inr ⟨_, _, c, rfl, rfl, szD_le hl, hc, h.here m _ (.str _)⟩)
        · exact h.elim
      · exact h.elim
    · split at h
      · exact h.elim
      · rename_i hs hf
        split at h
        · rename_i xs hx
          split at h
          · rename_i z hz
            obtain ⟨a, vs, rfl, hq, rl⟩ := sq_rep m rx hx
            obtain ⟨v, hv, rv⟩ := at_map rl hz
            rcases hq with hq | hq
            · exact .inl ⟨a, vs, _, v, rfl, rfl, hq, hv, h.here m v rv⟩
            · exact .inr (.inl ⟨a, vs, _, v, rfl, rfl, hq, hv, h.here m v rv⟩)
          · exact h.elim
        · exact h.elim
  · exact h.elim
theorem cut_rep {vs : List V} {ds : List Da} (r : RepL K w vs ds) (lo hi : Option Int) : RepL K w (cutV vs lo hi) (cutD ds lo hi) := by
  unfold cutV cutD
  rw [r.length]
  exact (r.drop _).take _
def slL (d : Da) (lo hi : Option Int) : Mo (List Da) := fun st => match lsOf st d with
  | some xs => .ok (cutD xs lo hi) st
  | none => .bad
def slA : Da → Option Int → Option Int → Mo Da
  | .tup xs, lo, hi => ret (.tup (cutD xs lo hi))
  | .str s, lo, hi => if s.length ≤ szD then ret (.str (cutS s lo hi)) else nop
  | d, lo, hi => fun st => match lsOf st d with
    | some xs => .ok (.lst (cutD xs lo hi)) st
    | none => .bad
def S3 (K : PySem.W.Frag) (r : V → Option Int → Option Int → Hp → VK → Prop) (f : Da → Option Int → Option Int → Mo Da) : Prop := ∀ (w : Wd) (x : V) (d : Da) (lo hi : Option Int) (Q : VK) (ex : Str → List Da → Wd → Prop), Em K w → Rep K w x d →
  Run K w (f d lo hi w.st) (OkV K Q) ex → r x lo hi w.H Q
def rSlAll (K : PySem.W.Frag) : V → Option Int → Option Int → Hp → VK → Prop := fun x lo hi H Q => (rSlA K x lo hi H Q ∨ rSlS x lo hi H Q) ∨ rSlL K x lo hi H Q
theorem q_slA : SlR X (rSlAll X.K) ∧ S3 X.K (rSlAll X.K) slA := by
  refine ⟨SlR.or (SlR.or sl_tupA sl_str) sl_list, fun w x d lo hi Q ex m rx h => ?_⟩
  unfold slA at h
  split at h
  · rename_i ys
    cases rx with
    | @tup a vs _ h1 r1 =>
      refine .inl (.inl ⟨a, vs, rfl, h1, fun hw => ?_, fun _ p hp => ?_⟩)
      · have k := h.here m (.ref a)
        refine k (.tup h1 ?_)
        have e : cutD ys lo hi = ys := by
          unfold cutD
          rw [← r1.length, hw.1, hw.2]
          simp only [List.drop_zero, Nat.sub_zero]
          rw [r1.length, List.take_length]
        rw [e]
        exact r1
      · exact Run.at (w' := w.new p (.tup (cutV vs lo hi))) h (Ext.new m hp) (m.new hp) rfl rfl _ (Rep.newTup m hp (cut_rep r1 lo hi))
  · cases rx
    split at h
    · rename_i hl
      exact .inl (.inr ⟨_, rfl, szD_le hl, h.here m _ (.str _)⟩)
    · exact h.elim
  · dsimp only at h
    split at h
    · rename_i xs h1
      obtain ⟨a, vs, rfl, hH, r1⟩ := ls_rep m rx h1
      refine .inr ⟨a, vs, rfl, SqL.of hH, fun p hp => ?_⟩
      exact Run.at (w' := w.new p (.lst (cutV vs lo hi))) h (Ext.new m hp) (m.new hp) rfl rfl _ (Rep.newLst m hp (cut_rep r1 lo hi))
    · exact h.elim
theorem q_eq {K : PySem.W.Frag} (hu : X.A.units + 64 < cLine) (hK : X.K = K := by rfl) : QO X (compareOp .Eq) (rEqD K) eqD := by subst hK; exact q_eq' hu
theorem q_ne {K : PySem.W.Frag} (hu : X.A.units + 64 < cLine) (hK : X.K = K := by rfl) : QO X (compareOp .NotEq) (rNeD K) neD := by subst hK; exact q_ne' hu
theorem q_add {K : PySem.W.Frag} (hK : X.K = K := by rfl) : QO X (binaryOp .Add) (rAddA K) addD := by subst hK; exact q_add'
end
end CL
namespace CL
open PySem PySem.Spec L2
inductive Tn where
  | non | bool | int | str | list | tuple | dict
  deriving DecidableEq
def Tn.name : Tn → String
  | .non => "NoneType"
  | .bool => "bool"
  | .int => "int"
  | .str => "str"
  | .list => "list"
  | .tuple => "tuple"
  | .dict => "dict"
def isTn (a t : Tn) : Bool := decide (a = t) || (decide (a = .bool) && decide (t = .int))
def tyN (st : Store) : Da → Option Tn
  | .non => some .non
  | .bl _ => some .bool
  | .int _ => some .int
  | .str _ => some .str
  | .tup _ => some .tuple
  | .lst _ => some .list
  | .fro _ => some .list
  | .han n => match st[n]? with
    | some (.lst _) => some .list
    | some (.dK _) => some .dict
    | _ => none
theorem kit_tn : ∀ a t : Tn, t ≠ .non → t ≠ .dict → kitB a.name t.name = some (isTn a t) := by
  intro a t
  cases t <;> intro h1 h2 <;> first | exact absurd rfl h1 | exact absurd rfl h2 | (cases a <;> decide +kernel)
def isT (t : Tn) (d : Da) : Mo Da := fun st => match tyN st d with
  | some a => .ok (.bl (isTn a t)) st
  | none => .bad
def lenD (d : Da) : Mo Da := fun st => match d with
  | .str s => if s.length ≤ szD then .ok (.int s.length) st else .bad
  | d => match sqOf st d with
    | some xs => .ok (.int xs.length) st
    | none => .bad
def one {A : Type} (f : Da → Mo A) : List Da → Mo A
  | [d] => f d
  | _ => nop
def two {A : Type} (f : Da → Da → Mo A) : List Da → Mo A
  | [d, e] => f d e
  | _ => nop
def listD (d : Da) : Mo (List Da) := fun st => match sqOf st d with
  | some xs => .ok xs st
  | none => .bad
def tupleD (d : Da) : Mo Da := fun st => match d with
  | .fro _ => .bad
  | d => match sqOf st d with
    | some xs => .ok (.tup xs) st
    | none => .bad
def blsOf : List Da → Option (List Bool)
  | [] => some []
  | .bl b :: r => (blsOf r).map (b :: ·)
  | _ => none
def intsOf : List Da → Option (List Int)
  | [] => some []
  | .int b :: r => (intsOf r).map (b :: ·)
  | _ => none
def allD (d : Da) : Mo Da := fun st => match lsOf st d with
  | some xs => (match blsOf xs with
    | some bs => .ok (.bl (bs.all id)) st
    | none => .bad)
  | none => .bad
def maxD : Da → Da → Mo Da
  | .int i, .int j => ret (.int (if j > i then j else i))
  | _, _ => nop
def minD : Da → Da → Mo Da
  | .int i, .int j => ret (.int (if j < i then j else i))
  | _, _ => nop
section
variable {X : Cx} {K : PySem.W.Frag} {w : Wd}
theorem ty_rep {v : V} {d : Da} {a : Tn} (m : Em K w) (r : Rep K w v d) (h : tyN w.st d = some a) : TyX K w.H v (.type a.name) := by
  cases r with
  | non => cases h; exact .base .non
  | bl b => cases h; exact .base (.bl b)
  | int i => cases h; exact .base (.int i)
  | str s => cases h; exact .base (.str s)
  | tup h1 r1 =>
    cases h
    rcases h1 with (h1 | ⟨o, h1⟩) | ⟨o, its, n, h1, h2, _⟩
    · exact .base (.tup h1)
    · exact .fTuple h1
    · exact .kTuple h1 h2
  | lst h1 _ r1 => cases h; exact .base (.lst h1)
  | fro h1 r1 =>
    cases h
    rcases h1 with ⟨o, h1⟩ | ⟨o, its, n, h1, h2, _⟩
    · exact .base (.frz h1)
    · exact .kList h1 h2
  | @han a n ha =>
    have h' : (match w.st[n]? with | some (.lst _) => some Tn.list | some (.dK _) => some Tn.dict | _ => none) = some _ := h
    cases q : w.st[n]? with
    | none => rw [q] at h'; cases h'
    | some c =>
      rw [q] at h'
      have ok := m.cell n a c ha q
      cases c with
      | lst xs => cases h'; obtain ⟨vs, hH, _⟩ := ok; exact .base (.lst hH)
      | dK xs => cases h'; obtain ⟨vs, hH, _⟩ := ok; exact .base (.dK hH)
      | ins c fs => cases h'
      | exn c => cases h'
      | dead => cases h'
theorem sc_isT {t : Tn} (h1 : t ≠ .non) (h2 : t ≠ .dict) : ∀ (w : Wd) (x : V) (d : Da) (Q : VK) (ex : Str → List Da → Wd → Prop), Em K w → Rep K w x d → Run K w (isT t d w.st) (OkV K Q) ex → rIsi K [x, .ty t.name] w.H Q := fun w x d Q ex m rx h => by
  unfold isT at h
  split at h
  · rename_i a ha
    exact ⟨x, .ty t.name, .type a.name, .type t.name, isTn a t, rfl, .ty _, ty_rep m rx ha, kit_ty (kit_tn a t h1 h2), h.here m _ (.bl _)⟩
  · exact h.elim
theorem one_rep {A : Type} {vs : List V} {ds : List Da} {f : Da → Mo A} {ok : A → Wd → Prop} {ex : Str → List Da → Wd → Prop} (r : RepL K w vs ds) (h : Run K w (one f ds w.st) ok ex) : ∃ v d, vs = [v] ∧ ds = [d] ∧ Rep K w v d ∧ Run K w (f d w.st) ok ex := by
  unfold one at h
  split at h
  · cases r with
    | cons r1 r2 => cases r2; exact ⟨_, _, rfl, rfl, r1, h⟩
  · exact h.elim
theorem sc_len : SC K (fun xs H Q => ∃ x n, xs = [x] ∧ LenV K x H n ∧ Q (.int n) H) (one lenD) := fun w xs ds Q ex m r h => by
  obtain ⟨v, d, rfl, rfl, rv, h⟩ := one_rep r h
  unfold lenD at h
  split at h
  · cases rv
    split at h
    · rename_i hl
      exact ⟨_, _, rfl, ⟨szD_le hl, rfl⟩, h.here m _ (.int _)⟩
    · exact h.elim
  · split at h
    · rename_i ys hy
      obtain ⟨a, vs, rfl, hq, rl⟩ := sq_rep m rv hy
      rw [← rl.length] at h
      rcases hq with hq | hq
      · exact ⟨_, vs.length, rfl, .inl ⟨vs, hq, rfl⟩, h.here m _ (.int _)⟩
      · exact ⟨_, vs.length, rfl, .inr ⟨vs, hq, rfl⟩, h.here m _ (.int _)⟩
    · exact h.elim
theorem sc_list : SCL K (fun xs H Q => ∃ p ys, xs = [.ref p] ∧ (SqL K H p ys ∨ SqT K H p ys) ∧ ∀ l, H l = none → Q (.ref l) (upd H l (.lst ys))) (one listD) := fun w xs ds Q ex m r h => by
  obtain ⟨v, d, rfl, rfl, rv, h⟩ := one_rep r h
  unfold listD at h
  split at h
  · rename_i ys hy
    obtain ⟨a, vs, rfl, hq, rl⟩ := sq_rep m rv hy
    exact ⟨a, vs, rfl, hq, fun p hp => okL_fresh m h rfl hp rl⟩
  · exact h.elim
theorem sc_tuple : SC K (fun xs H Q => ∃ p ys, xs = [.ref p] ∧ ((SqL K H p ys ∧ ∀ l, H l = none → Q (.ref l) (upd H l (.tup ys))) ∨ (SqT K H p ys ∧ Q (.ref p) H))) (one tupleD) := fun w xs ds Q ex m r h => by
  obtain ⟨v, d, rfl, rfl, rv, h⟩ := one_rep r h
  unfold tupleD at h
  split at h
  · exact h.elim
  · split at h
    · rename_i ys hy
      obtain ⟨a, vs, rfl, hq, rl⟩ := sq_rep m rv hy
      rcases hq with hq | hq
      · exact ⟨a, vs, rfl, .inl ⟨hq, fun p hp => Run.at (w' := w.new p (.tup vs)) h (Ext.new m hp) (m.new hp) rfl rfl _ (Rep.newTup m hp rl)⟩⟩
      · exact ⟨a, vs, rfl, .inr ⟨hq, h.here m _ (.tup hq rl)⟩⟩
    · exact h.elim
theorem bls_rep : ∀ {ds : List Da} {vs : List V} {bs : List Bool}, RepL K w vs ds → blsOf ds = some bs → vs = bs.map V.bl
  | [], _, _, .nil, h => by cases h; rfl
  | .bl b :: r, _, _, .cons r1 r2, h => by
    unfold blsOf at h
    cases q : blsOf r with
    | none => rw [q] at h; cases h
    | some bs =>
      rw [q] at h
      cases h
      cases r1
      rw [bls_rep r2 q]
      rfl
  | .non :: r, _, _, _, h => by unfold blsOf at h; cases h
  | .int _ :: r, _, _, _, h => by unfold blsOf at h; cases h
  | .str _ :: r, _, _, _, h => by unfold blsOf at h; cases h
  | .tup _ :: r, _, _, _, h => by unfold blsOf at h; cases h
  | .lst _ :: r, _, _, _, h => by unfold blsOf at h; cases h
  | .fro _ :: r, _, _, _, h => by unfold blsOf at h; cases h
  | .han _ :: r, _, _, _, h => by unfold blsOf at h; cases h
theorem ints_rep : ∀ {ds : List Da} {vs : List V} {bs : List Int}, RepL K w vs ds → intsOf ds = some bs → vs = bs.map V.int
  | [], _, _, .nil, h => by cases h; rfl
  | .int b :: r, _, _, .cons r1 r2, h => by
    unfold intsOf at h
    cases q : intsOf r with
    | none => rw [q] at h; cases h
    | some bs =>
      rw [q] at h
      cases h
      cases r1
      rw [ints_rep r2 q]
      rfl
  | .non :: r, _, _, _, h => by unfold intsOf at h; cases h
  | .bl _ :: r, _, _, _, h => by unfold intsOf at h; cases h
  | .str _ :: r, _, _, _, h => by unfold intsOf at h; cases h
  | .tup _ :: r, _, _, _, h => by unfold intsOf at h; cases h
  | .lst _ :: r, _, _, _, h => by unfold intsOf at h; cases h
  | .fro _ :: r, _, _, _, h => by unfold intsOf at h; cases h
  | .han _ :: r, _, _, _, h => by unfold intsOf at h; cases h
theorem sc_all : SC K (rAll K) (one allD) := fun w xs ds Q ex m r h => by
  obtain ⟨v, d, rfl, rfl, rv, h⟩ := one_rep r h
  unfold allD at h
  split at h
  · rename_i ys hy
    obtain ⟨a, vs, rfl, hH, rl⟩ := ls_rep m rv hy
    split at h
    · rename_i bs hb
      have e := bls_rep rl hb
      subst e
      exact ⟨a, bs, rfl, SqL.of hH, h.here m _ (.bl _)⟩
    · exact h.elim
  · exact h.elim
end
def isLs (d : Da) : Mo Unit := fun st => match lsOf st d with
  | some _ => .ok () st
  | none => .bad
def appD (d x : Da) : Mo Da := fun st => match d with
  | .han n => (match st[n]? with
    | some (.lst xs) => if xs.length < szD then .ok .non (st.set n (.lst (xs ++ [x]))) else .bad
    | _ => .bad)
  | _ => .bad
def popD (d : Da) : Mo Da := fun st => match d with
  | .han n => (match st[n]? with
    | some (.lst xs) => (match xs[xs.length - 1]? with
      | some x => .ok x (st.set n (.lst xs.dropLast))
      | none => .bad)
    | _ => .bad)
  | _ => .bad
def setD (d i x : Da) : Mo Unit := fun st => match d, i with
  | .han n, .int k => (match st[n]? with
    | some (.lst xs) => (match ixN xs.length k with
      | some j => .ok () (st.set n (.lst (xs.set j x)))
      | none => .bad)
    | _ => .bad)
  | _, _ => .bad
def eApp (a b : Sl → Mo Da) : Sl → Mo Da := fun ro => bnd (a ro) fun d => bnd (isLs d) fun _ => bnd (b ro) fun x => appD d x
def ePop (a : Sl → Mo Da) : Sl → Mo Da := fun ro => bnd (a ro) fun d => bnd (isLs d) fun _ => popD d
section
variable {K : PySem.W.Frag} {E : St → XK} {ta tb te : TE} {a b : Sl → Mo Da} {w : Wd}
theorem isLs_run {d : Da} {v : V} {ok : Unit → Wd → Prop} {ex : Str → List Da → Wd → Prop} (m : Em K w) (rv : Rep K w v d) (h : Run K w (isLs d w.st) ok ex) : tyV K "list" v w.H ∧ ok () w := by
  unfold isLs at h
  split at h
  · rename_i xs hx
    obtain ⟨a, vs, rfl, hH, rl⟩ := ls_rep m rv hx
    exact ⟨.inl ⟨rfl, vs, SqL.of hH⟩, h.here m⟩
  · exact h.elim
theorem app_run {d x : Da} {v u : V} {Q : VK} {ex : Str → List Da → Wd → Prop} (m : Em K w) (rv : Rep K w v d) (ru : Rep K w u x) (h : Run K w (appD d x w.st) (OkV K Q) ex) : rAppend v [u] w.H Q := by
  unfold appD at h
  split at h
  · rename_i n
    split at h
    · rename_i xs hx
      split at h
      · rename_i hl
        cases rv with
        | @han a _ ha =>
          obtain ⟨vs, hH, rl⟩ := m.cell n a _ ha hx
          have x2 : Ext w (w.put n a (.lst (vs ++ [u])) (.lst (xs ++ [x]))) := Ext.put m ha hx (by intro z; cases z)
          refine ⟨a, vs, u, rfl, rfl, hH, by rw [rl.length]; exact szD_lt hl, ?_⟩
          exact Run.at (w' := w.put n a (.lst (vs ++ [u])) (.lst (xs ++ [x]))) h x2 (m.put ha hx (by intro z; cases z) ⟨_, upd_same, (rl.append (.cons ru .nil)).mono m x2⟩) rfl rfl _ .non
      · exact h.elim
    · exact h.elim
  · exact h.elim
theorem s_app (ha : SE K E ta a) (hb : SE K E tb b) : SE K E (tBM K "list" rAppend ta (tCons tb tNil)) (eApp a b) := fun w ro σ Q e h =>
  ha w ro σ _ e (h.bind.mono (fun d w1 x1 p1 m1 k v rv => by
    obtain ⟨ty, k2⟩ := isLs_run m1 rv k.bind
    refine ⟨ty, hb w1 ro σ _ (e.mono x1 m1) (k2.bind.mono (fun x w2 x2 p2 m2 k3 u ru => ?_) fun _ _ _ z => z)⟩
    exact app_run m2 (rv.mono m1 x2) ru k3) fun _ _ _ z => z)
theorem s_pop (ha : SE K E ta a) : SE K E (tBM0 K "list" rPop ta) (ePop a) := fun w ro σ Q e h =>
  ha w ro σ _ e (h.bind.mono (fun d w1 x1 p1 m1 k v rv => by
    obtain ⟨ty, k2⟩ := isLs_run m1 rv k.bind
    refine ⟨ty, ?_⟩
    unfold popD at k2
    split at k2
    · rename_i n
      split at k2
      · rename_i xs hx
        split at k2
        · rename_i x hxx
          cases rv with
          | @han a _ ha =>
            obtain ⟨vs, hH, rl⟩ := m1.cell n a _ ha hx
            obtain ⟨u, hu, ru⟩ := rl.get hxx
            have x2 : Ext w1 (w1.put n a (.lst vs.dropLast) (.lst xs.dropLast)) := Ext.put m1 ha hx (by intro z; cases z)
            refine ⟨a, vs, u, rfl, rfl, hH, by rw [rl.length]; exact hu, ?_⟩
            exact Run.at (w' := w1.put n a (.lst vs.dropLast) (.lst xs.dropLast)) k2 x2 (m1.put ha hx (by intro z; cases z) ⟨_, upd_same, rl.dropLast.mono m1 x2⟩) rfl rfl _ (ru.mono m1 x2)
        · exact k2.elim
      · exact k2.elim
    · exact k2.elim) fun _ _ _ z => z)
theorem set_run {d i x : Da} {v k u : V} {Q : Hp → Prop} {ex : Str → List Da → Wd → Prop} (m : Em K w) (rv : Rep K w v d) (ri : Rep K w k i) (ru : Rep K w u x) (h : Run K w (setD d i x w.st) (fun _ w' => Q w'.H) ex) : rSetL v k u w.H Q := by
  unfold setD at h
  split at h
  · rename_i n k
    split at h
    · rename_i xs hx
      split at h
      · rename_i j hj
        cases rv with
        | @han a _ ha =>
          cases ri
          obtain ⟨vs, hH, rl⟩ := m.cell n a _ ha hx
          have x2 : Ext w (w.put n a (.lst (vs.set j u)) (.lst (xs.set j x))) := Ext.put m ha hx (by intro z; cases z)
          refine ⟨a, vs, k, j, rfl, rfl, hH, by rw [rl.length]; exact hj, ?_⟩
          exact Run.at (w' := w.put n a (.lst (vs.set j u)) (.lst (xs.set j x))) h x2 (m.put ha hx (by intro z; cases z) ⟨_, upd_same, (rl.set ru j).mono m x2⟩) rfl rfl
      · exact h.elim
    · exact h.elim
  · exact h.elim
end
end CL
namespace CL
open PySem PySem.Spec L2
abbrev Tg := Da → Sl → Option Sl
abbrev Tgs := List Da → Sl → Option Sl
def SameOut (ws : List Nat) (σ σ' : St) : Prop := σ'.length = σ.length ∧ ∀ i : Nat, i ∉ ws → σ'[i]? = σ[i]?
def SG (K : PySem.W.Frag) (g : TG) (t : Tg) (ws : List Nat) : Prop := ∀ (w : Wd) (v : V) (d : Da) (ro ro' : Sl) (σ : St), En K w ro σ → Rep K w v d → t d ro = some ro' →
  ∃ σ', En K w ro' σ' ∧ SameOut ws σ σ' ∧ ∀ Q : St → Hp → Prop, Q σ' w.H → g v σ w.H Q
def SGs (K : PySem.W.Frag) (g : TGs) (t : Tgs) (ws : List Nat) : Prop := ∀ (w : Wd) (vs : List V) (ds : List Da) (ro ro' : Sl) (σ : St), En K w ro σ → RepL K w vs ds → t ds ro = some ro' →
  ∃ σ', En K w ro' σ' ∧ SameOut ws σ σ' ∧ ∀ Q : St → Hp → Prop, Q σ' w.H → g vs σ w.H Q
def gN (i : Nat) : Tg := fun d ro => some (ro.set i (some d))
def gsN : Tgs := fun ds ro => match ds with
  | [] => some ro
  | _ => none
def gsC (t : Tg) (u : Tgs) : Tgs := fun ds ro => match ds with
  | d :: r => (t d ro).bind fun ro1 => u r ro1
  | _ => none
def gT (n : Nat) (t : Tgs) : Tg := fun d ro => match d with
  | .tup xs => if xs.length = n then t xs ro else none
  | _ => none
section
variable {K : PySem.W.Frag}
theorem SameOut.trans {ws us : List Nat} {σ σ1 σ2 : St} (a : SameOut ws σ σ1) (b : SameOut us σ1 σ2) : SameOut (ws ++ us) σ σ2 :=
  ⟨b.1.trans a.1, fun i h => (b.2 i fun z => h (List.mem_append_right _ z)).trans (a.2 i fun z => h (List.mem_append_left _ z))⟩
theorem sg_name {i : Nat} : SG K (gName i) (gN i) [i] := fun w v d ro ro' σ e r h => by
  cases h
  refine ⟨σ.set i (some v), e.set r, ⟨by simp, fun j hj => ?_⟩, fun Q q => q⟩
  rw [List.getElem?_set_ne fun z => hj (by simp [z])]
theorem sgs_nil : SGs K gNil gsN [] := fun w vs ds ro ro' σ e r h => by
  unfold gsN at h
  split at h
  · cases h
    cases r
    exact ⟨σ, e, ⟨rfl, fun _ _ => rfl⟩, fun Q q => ⟨rfl, q⟩⟩
  · cases h
theorem sgs_cons {g : TG} {gs : TGs} {t : Tg} {u : Tgs} {ws us : List Nat} (h1 : SG K g t ws) (h2 : SGs K gs u us) : SGs K (gCons g gs) (gsC t u) (ws ++ us) := fun w vs ds ro ro' σ e r h => by
  unfold gsC at h
  split at h
  · rename_i d rr
    cases r with
    | cons r1 r2 =>
      cases q : t d ro with
      | none => rw [q] at h; cases h
      | some ro1 =>
        rw [q] at h
        obtain ⟨σ1, e1, s1, k1⟩ := h1 w _ d ro ro1 σ e r1 q
        obtain ⟨σ2, e2, s2, k2⟩ := h2 w _ rr ro1 ro' σ1 e1 r2 h
        exact ⟨σ2, e2, s1.trans s2, fun Q q => ⟨_, _, rfl, k1 _ (k2 Q q)⟩⟩
  · cases h
theorem sg_tup {n : Nat} {gs : TGs} {t : Tgs} {ws : List Nat} (h : SGs K gs t ws) : SG K (gTup K n gs) (gT n t) ws := fun w v d ro ro' σ e r hh => by
  unfold gT at hh
  split at hh
  · rename_i xs
    split at hh
    · rename_i hl
      cases r with
      | tup h1 r1 =>
        obtain ⟨σ1, e1, s1, k1⟩ := h w _ xs ro ro' σ e r1 hh
        exact ⟨σ1, e1, s1, fun Q q => ⟨_, _, rfl, h1, by rw [r1.length]; exact hl, k1 Q q⟩⟩
    · cases hh
  · cases hh
end
mutual
def beqD : Da → Da → Bool
  | .non, .non => true
  | .bl a, .bl b => a == b
  | .int a, .int b => a == b
  | .str a, .str b => decide (a = b)
  | .tup a, .tup b => beqL a b
  | .lst a, .lst b => beqL a b
  | .fro a, .fro b => beqL a b
  | .han a, .han b => a == b
  | _, _ => false
def beqL : List Da → List Da → Bool
  | [], [] => true
  | a :: r, b :: s => beqD a b && beqL r s
  | _, _ => false
end
mutual
theorem beqD_eq : ∀ a b : Da, beqD a b = true → a = b
  | .non, b, h => by cases b <;> first | rfl | (unfold beqD at h; cases h)
  | .bl a, b, h => by cases b <;> first | (unfold beqD at h; cases h; done) | (unfold beqD at h; rw [eq_of_beq h])
  | .int a, b, h => by cases b <;> first | (unfold beqD at h; cases h; done) | (unfold beqD at h; rw [eq_of_beq h])
  | .str a, b, h => by cases b <;> first | (unfold beqD at h; cases h; done) | (unfold beqD at h; rw [of_decide_eq_true h])
  | .tup a, b, h => by cases b <;> first | (unfold beqD at h; cases h; done) | (unfold beqD at h; rw [beqL_eq _ _ h])
  | .lst a, b, h => by cases b <;> first | (unfold beqD at h; cases h; done) | (unfold beqD at h; rw [beqL_eq _ _ h])
  | .fro a, b, h => by cases b <;> first | (unfold beqD at h; cases h; done) | (unfold beqD at h; rw [beqL_eq _ _ h])
  | .han a, b, h => by cases b <;> first | (unfold beqD at h; cases h; done) | (unfold beqD at h; rw [eq_of_beq h])
theorem beqL_eq : ∀ a b : List Da, beqL a b = true → a = b
  | [], [], _ => rfl
  | [], _ :: _, h => by unfold beqL at h; cases h
  | _ :: _, [], h => by unfold beqL at h; cases h
  | a :: r, b :: s, h => by
    unfold beqL at h
    obtain ⟨h1, h2⟩ := Bool.and_eq_true_iff.mp h
    rw [beqD_eq a b h1, beqL_eq r s h2]
end
/-- a thing that is walked stands still -/
def chk (o : Option Nat) (xs : List Da) (st : Store) : Bool := match o with
  | none => true
  | some n => match st[n]? with
    | some (.lst ys) => beqL ys xs
    | _ => false
structure Src where
  xs : List Da
  o : Option Nat
def ItOk (K : PySem.W.Frag) (w : Wd) (J : It) (s : Src) : Prop := ∀ w', ExtW w w' → Em K w' → chk s.o s.xs w'.st = true →
  (∀ (i : Nat) (x : Da), s.xs[i]? = some x → J.go i w'.H ∧ ∀ v H', J.yld i w'.H v H' → ∃ w3 : Wd, w3.H = H' ∧ w3.st = w'.st ∧ w3.pv = w'.pv ∧ Ext w' w3 ∧ Em K w3 ∧ Rep K w3 v x) ∧ J.stop s.xs.length w'.H
def SI (K : PySem.W.Frag) (E : St → XK) (wi : TI) (m : Sl → Mo Src) : Prop := ∀ (w : Wd) (ro : Sl) (σ : St) (R : It → Hp → Prop), En K w ro σ →
  Run K w (m ro w.st) (fun s w' => ∀ J, ItOk K w' J s → R J w'.H) (XP K (E σ)) → wi σ w.H R
def srcV (d : Da) : Mo Src := fun st => match d with
  | .lst xs => .ok ⟨xs, none⟩ st
  | .tup xs => .ok ⟨xs, none⟩ st
  | .fro xs => .ok ⟨xs, none⟩ st
  | .han n => (match st[n]? with
    | some (.lst xs) => .ok ⟨xs, some n⟩ st
    | _ => .bad)
  | _ => .bad
def iV (a : Sl → Mo Da) : Sl → Mo Src := fun ro => bnd (a ro) srcV
def rngL (lo : Int) (n : Nat) : List Da := (List.range n).map fun (i : Nat) => Da.int (lo + (i : Int))
def big (i : Int) : Prop := -(2 ^ 62) ≤ i ∧ i < 2 ^ 62
instance (i : Int) : Decidable (big i) := by unfold big; infer_instance
def srcR1 : List Da → Mo Src
  | [.int j] => if big j then ret ⟨rngL 0 j.toNat, none⟩ else nop
  | _ => nop
def srcR2 : List Da → Mo Src
  | [.int i, .int j] => if big i ∧ big j then ret ⟨rngL i (j - i).toNat, none⟩ else nop
  | _ => nop
def iR1 (a : Sl → Mo (List Da)) : Sl → Mo Src := fun ro => bnd (a ro) srcR1
def iR2 (a : Sl → Mo (List Da)) : Sl → Mo Src := fun ro => bnd (a ro) srcR2
def iSeq (K : PySem.W.Frag) (tl : TE) : TI := fun σ H R => tl σ H fun x H1 => ∃ a, x = .ref a ∧ (((∃ xs, SqL K H1 a xs) ∧ R (Itl K a) H1) ∨ ((∃ xs, SqT K H1 a xs) ∧ R (Itt K a) H1))
section
variable {X : Cx} {tg : Expr}
theorem pi_seq {l : Expr} {tl : TE} (hl : PE X l tl) : PI X tg l (iSeq X.K tl) := by
  refine ⟨fun pins s σ H R I h => ?_⟩
  refine thn (hl.run pins s σ H _ I h) fun v s1 ⟨x, H1, I1, r1, q1⟩ => ?_
  obtain ⟨a, e, q1⟩ := q1
  subst e
  cases r1
  rcases q1 with ⟨⟨xs, hq⟩, q⟩ | ⟨⟨xs, hq⟩, q⟩
  · obtain ⟨its, rv, p, hz⟩ := I1.list hq
    refine wpAny_pyIter_list p.isList ?_
    refine ⟨s1.heap.objs.size, [s1.heap.objs.size], _, _, H1, rfl, I1.kept (t' := s1.toks) fun b o e => Heap.get?_push_of_some _ e, turn_list a _, ⟨_, Heap.get?_push_size _ rfl, rfl, rfl⟩, fun b hb => ?_, q⟩
    have e : b = s1.heap.objs.size := by simpa using hb
    subst e
    exact I1.fpOk (Nat.le_refl _) (I1.hok.fresh (Nat.le_refl _))
  · obtain ⟨its, rv, p, hz⟩ := I1.tuple hq
    refine wpAny_pyIter_tuple (show s1.heap.IsTuple a its.toArray from p) ?_
    refine ⟨s1.heap.objs.size, [s1.heap.objs.size], _, _, H1, rfl, I1.kept (t' := s1.toks) fun b o e => Heap.get?_push_of_some _ e, turn_tuple a _, ⟨_, Heap.get?_push_size _ rfl, rfl, rfl⟩, fun b hb => ?_, q⟩
    have e : b = s1.heap.objs.size := by simpa using hb
    subst e
    exact I1.fpOk (Nat.le_refl _) (I1.hok.fresh (Nat.le_refl _))
end
section
variable {K : PySem.W.Frag} {E : St → XK} {ta : TE} {a : Sl → Mo Da} {tA : TA} {al : Sl → Mo (List Da)} {w : Wd}
theorem it_list {p : Addr} {vs : List V} {s : Src} (hs : ∀ w', ExtW w w' → Em K w' → chk s.o s.xs w'.st = true → ∃ vs, SqL K w'.H p vs ∧ RepL K w' vs s.xs) : ItOk K w (Itl K p) s := fun w' x m c => by
  obtain ⟨us, hq, r⟩ := hs w' x m c
  refine ⟨fun i d hd => ?_, ⟨us, hq, by rw [r.length]; exact Nat.le_refl _⟩⟩
  obtain ⟨v, hv, rv⟩ := r.get hd
  refine ⟨⟨us, v, hq, hv⟩, fun u H' hy => ⟨w', hy.1.symm, rfl, rfl, Ext.refl _, m, ?_⟩⟩
  have := hy.2 us hq
  rw [hv] at this
  cases this
  exact rv
theorem it_tup {p : Addr} {vs : List V} {s : Src} (hs : ∀ w', ExtW w w' → Em K w' → chk s.o s.xs w'.st = true → ∃ vs, SqT K w'.H p vs ∧ RepL K w' vs s.xs) : ItOk K w (Itt K p) s := fun w' x m c => by
  obtain ⟨us, hq, r⟩ := hs w' x m c
  refine ⟨fun i d hd => ?_, ⟨us, hq, by rw [r.length]; exact Nat.le_refl _⟩⟩
  obtain ⟨v, hv, rv⟩ := r.get hd
  refine ⟨⟨us, v, hq, hv⟩, fun u H' hy => ⟨w', hy.1.symm, rfl, rfl, Ext.refl _, m, ?_⟩⟩
  have := hy.2 us hq
  rw [hv] at this
  cases this
  exact rv
theorem si_v (ha : SE K E ta a) : SI K E (iSeq K ta) (iV a) := fun w ro σ R e h =>
  ha w ro σ _ e (h.bind.mono (fun d w1 x1 p1 m1 k v rv => by
    unfold srcV at k
    cases rv with
    | @lst p vs ds h1 n1 r1 =>
      exact ⟨_, rfl, .inl ⟨⟨vs, SqL.of h1⟩, k.here m1 _ (it_list (vs := vs) fun w' x m _ => ⟨vs, SqL.of (x.keep _ _ h1 n1).1, r1.monoW m1 x⟩)⟩⟩
    | @tup p vs ds h1 r1 =>
      exact ⟨_, rfl, .inr ⟨⟨vs, h1⟩, k.here m1 _ (it_tup (vs := vs) fun w' x m _ => ⟨vs, sqT_monoW m1 x h1, r1.monoW m1 x⟩)⟩⟩
    | @fro p vs ds h1 r1 =>
      refine ⟨_, rfl, .inl ⟨⟨vs, h1.sq⟩, k.here m1 _ (it_list (vs := vs) fun w' x m _ => ⟨vs, ?_, r1.monoW m1 x⟩)⟩⟩
      rcases h1 with ⟨o, h1⟩ | h1
      · exact .inl (.inr ⟨o, (x.keep _ _ h1 (m1.noFrz h1)).1⟩)
      · exact .inr h1
    | @han p n hp =>
      dsimp only at k
      split at k
      · rename_i xs hx
        obtain ⟨vs, hH, r⟩ := m1.cell n p _ hp hx
        refine ⟨_, rfl, .inl ⟨⟨vs, SqL.of hH⟩, k.here m1 _ (it_list (vs := vs) fun w' x m c => ?_)⟩⟩
        have hp' := x.at hp
        unfold chk at c
        dsimp only at c
        split at c
        · rename_i ys hy
          have e := beqL_eq _ _ c
          subst e
          obtain ⟨us, hH', r'⟩ := m.cell n p _ hp' hy
          exact ⟨us, SqL.of hH', r'⟩
        · cases c
      · exact k.elim
    | non => exact k.elim
    | bl b => exact k.elim
    | int i => exact k.elim
    | str s => exact k.elim) fun _ _ _ z => z)
theorem rng_get {lo : Int} {n i : Nat} {x : Da} (h : (rngL lo n)[i]? = some x) : i < n ∧ x = .int (lo + i) := by
  unfold rngL at h
  rw [List.getElem?_map] at h
  by_cases hi : i < n
  · rw [List.getElem?_range hi] at h
    cases h
    exact ⟨hi, rfl⟩
  · rw [List.getElem?_eq_none (by simpa using hi)] at h
    cases h
theorem it_rng {lo : Int} {n : Nat} : ItOk K w (Itr lo n) ⟨rngL lo n, none⟩ := fun w' x m c => by
  refine ⟨fun i d hd => ?_, ?_⟩
  · obtain ⟨hi, rfl⟩ := rng_get hd
    exact ⟨hi, fun v H' hy => ⟨w', hy.1.symm, rfl, rfl, Ext.refl _, m, by rw [hy.2]; exact .int _⟩⟩
  · show n ≤ (rngL lo n).length
    unfold rngL
    simp
theorem si_r1 (ha : SA K E tA al) : SI K E (iRng1 tA) (iR1 al) := fun w ro σ R e h =>
  ha w ro σ _ e (h.bind.mono (fun ds w1 x1 p1 m1 k vs rv => by
    unfold srcR1 at k
    split at k
    · rename_i j
      split at k
      · rename_i hb
        cases rv with
        | cons r1 r2 =>
          cases r2
          cases r1
          exact ⟨j, rfl, hb.1, hb.2, k.here m1 _ it_rng⟩
      · exact k.elim
    · exact k.elim) fun _ _ _ z => z)
theorem si_r2 (ha : SA K E tA al) : SI K E (iRng2 tA) (iR2 al) := fun w ro σ R e h =>
  ha w ro σ _ e (h.bind.mono (fun ds w1 x1 p1 m1 k vs rv => by
    unfold srcR2 at k
    split at k
    · rename_i i j
      split at k
      · rename_i hb
        cases rv with
        | cons r1 r2 =>
          cases r2 with
          | cons r2 r3 =>
            cases r3
            cases r1
            cases r2
            exact ⟨i, j, rfl, ⟨hb.1.1, hb.1.2, hb.2.1, hb.2.2⟩, k.here m1 _ it_rng⟩
      · exact k.elim
    · exact k.elim) fun _ _ _ z => z)
end
def mNil : Sl → Mo Fl := fun ro => ret (.nx ro)
def mSeq (a b : Sl → Mo Fl) : Sl → Mo Fl := fun ro => bnd (a ro) fun f => match f with
  | .nx ro' => b ro'
  | f => ret f
def mSet (i : Nat) (a : Sl → Mo Da) : Sl → Mo Fl := fun ro => bnd (a ro) fun d => ret (.nx (ro.set i (some d)))
def mTgt (t : Tg) (a : Sl → Mo Da) : Sl → Mo Fl := fun ro => bnd (a ro) fun d => match t d ro with
  | some ro' => ret (.nx ro')
  | none => nop
def mPar (i j : Nat) (a : Sl → Mo (List Da)) : Sl → Mo Fl := fun ro => bnd (a ro) fun ds => match ds with
  | [d, e] => ret (.nx ((ro.set i (some d)).set j (some e)))
  | _ => nop
def mRet (a : Sl → Mo Da) : Sl → Mo Fl := fun ro => bnd (a ro) fun d => ret (.rt d)
def mRetN : Sl → Mo Fl := fun ro => ret (.rt .non)
def mExpr (a : Sl → Mo Da) : Sl → Mo Fl := fun ro => bnd (a ro) fun _ => ret (.nx ro)
def mIf (t : Sl → Mo Bool) (a b : Sl → Mo Fl) : Sl → Mo Fl := fun ro => bnd (t ro) fun c => if c = true then a ro else b ro
def mBrk : Sl → Mo Fl := fun ro => ret (.bk ro)
def mCnt : Sl → Mo Fl := fun ro => ret (.ct ro)
def mNever : Sl → Mo Fl := fun _ => nop
def mSetI (v o i : Sl → Mo Da) : Sl → Mo Fl := fun ro => bnd (v ro) fun x => bnd (o ro) fun d => bnd (i ro) fun k => bnd (setD d k x) fun _ => ret (.nx ro)
def mAug (i : Nat) (f : Int → Int → Int) (a : Sl → Mo Da) : Sl → Mo Fl := fun ro => bnd (eVar i ro) fun x => bnd (a ro) fun y => match x, y with
  | .int p, .int q => ret (.nx (ro.set i (some (.int (f p q)))))
  | _, _ => nop
def loopK (go : Sl → Mo Fl) (f : Fl) : Mo Fl := match f with
  | .nx ro => go ro
  | .ct ro => go ro
  | .bk ro => ret (.nx ro)
  | .rt d => ret (.rt d)
def forGo (o : Option Nat) (all : List Da) (t : Tg) (body : Sl → Mo Fl) : List Da → Sl → Mo Fl
  | [], ro => fun st => if chk o all st = true then .ok (.nx ro) st else .bad
  | x :: r, ro => fun st => if chk o all st = true then (match t x ro with
    | some ro1 => bnd (body ro1) (loopK (forGo o all t body r)) st
    | none => .bad) else .bad
def mFor (s : Sl → Mo Src) (t : Tg) (body : Sl → Mo Fl) : Sl → Mo Fl := fun ro => bnd (s ro) fun s => forGo s.o s.xs t body s.xs ro
def whileF (t : Sl → Mo Bool) (body : Sl → Mo Fl) : Nat → Sl → Mo Fl
  | 0, _ => nop
  | n + 1, ro => bnd (t ro) fun c => if c = true then bnd (body ro) (loopK (whileF t body n)) else ret (.nx ro)
section
variable {K : PySem.W.Frag} {E : St → XK} {ta tb te tv to ti : TE} {a b v o i' : Sl → Mo Da} {tt : TT} {p : Sl → Mo Bool} {ts tu : TS} {m n : Sl → Mo Fl} {g : TG} {t : Tg} {ws : List Nat} {tA : TA} {al : Sl → Mo (List Da)}
theorem ss_nil : SS K E tNext mNil := fun w ro σ D e h => h.here e.emb σ e
theorem ss_seq (h1 : SS K E ts m) (h2 : SS K E tu n) : SS K E (tSeq ts tu) (mSeq m n) := fun w ro σ D e h =>
  h1 w ro σ { D with nx := tu D } e (h.bind.mono (fun f w1 x1 p1 m1 k => by
    cases f with
    | nx ro' => exact fun σ' e' => h2 w1 ro' σ' D e' k
    | rt d => exact Run.here (ok := OkF K D) (a := Fl.rt d) m1 k
    | bk ro' => exact Run.here (ok := OkF K D) (a := Fl.bk ro') m1 k
    | ct ro' => exact Run.here (ok := OkF K D) (a := Fl.ct ro') m1 k) fun _ _ _ z => z)
theorem ss_set {i : Nat} (ha : SE K E ta a) : SS K E (tAsg ta (gName i)) (mSet i a) := fun w ro σ D e h =>
  ha w ro σ _ e (h.bind.mono (fun d w1 x1 p1 m1 k v rv => k.here m1 _ ((e.mono x1 m1).set rv)) fun _ _ _ z => z σ)
theorem ss_tgt (hg : SG K g t ws) (ha : SE K E ta a) : SS K E (tAsg ta g) (mTgt t a) := fun w ro σ D e h =>
  ha w ro σ _ e (h.bind.mono (fun d w1 x1 p1 m1 k v rv => by
    cases q : t d ro with
    | none => rw [q] at k; exact k.elim
    | some ro' =>
      rw [q] at k
      obtain ⟨σ', e', _, kk⟩ := hg w1 v d ro ro' σ (e.mono x1 m1) rv q
      exact kk _ (k.here m1 σ' e')) fun _ _ _ z => z σ)
theorem ss_par {i j : Nat} (ha : SA K E tA al) : SS K E (tPar i j tA) (mPar i j al) := fun w ro σ D e h =>
  ha w ro σ _ e (h.bind.mono (fun ds w1 x1 p1 m1 k vs rv => by
    split at k
    · cases rv with
      | cons r1 r2 =>
        cases r2 with
        | cons r2 r3 =>
          cases r3
          exact ⟨_, _, rfl, k.here m1 _ (((e.mono x1 m1).set r1).set r2)⟩
    · exact k.elim) fun _ _ _ z => z σ)
theorem ss_ret (ha : SE K E ta a) : SS K E (tRet ta) (mRet a) := fun w ro σ D e h =>
  ha w ro σ _ e (h.bind.mono (fun d w1 x1 p1 m1 k v rv => k.here m1 v rv) fun _ _ _ z => z σ)
theorem ss_retN : SS K E tRetN mRetN := fun w ro σ D e h => h.here e.emb _ .non
theorem ss_expr (ha : SE K E ta a) : SS K E (tDrop ta) (mExpr a) := fun w ro σ D e h =>
  ha w ro σ _ e (h.bind.mono (fun d w1 x1 p1 m1 k v rv => k.here m1 σ (e.mono x1 m1)) fun _ _ _ z => z σ)
theorem ss_if (ht : ST K E tt p) (h1 : SS K E ts m) (h2 : SS K E tu n) : SS K E (tIfS tt ts tu) (mIf p m n) := fun w ro σ D e h =>
  ht w ro σ _ e (h.bind.mono (fun c w1 x1 p1 m1 k => by
    cases c with
    | true => rw [if_pos rfl] at k ⊢; exact h1 w1 ro σ D (e.mono x1 m1) k
    | false => rw [if_neg Bool.false_ne_true] at k ⊢; exact h2 w1 ro σ D (e.mono x1 m1) k) fun _ _ _ z => z σ)
theorem ss_setI (hv : SE K E tv v) (ho : SE K E to o) (hi : SE K E ti i') : SS K E (tAsg tv (gSub to ti rSetL)) (mSetI v o i') := fun w ro σ D e h =>
  hv w ro σ _ e (h.bind.mono (fun x w1 x1 p1 m1 k u ru => ho w1 ro σ _ (e.mono x1 m1) (k.bind.mono (fun d w2 x2 p2 m2 k2 u2 ru2 =>
    hi w2 ro σ _ (e.mono (x1.trans x2) m2) (k2.bind.mono (fun kk w3 x3 p3 m3 k3 u3 ru3 =>
      set_run m3 (ru2.mono m2 x3) ru3 (ru.mono m1 (x2.trans x3)) (k3.bind.mono (fun _ w4 x4 p4 m4 k4 => k4.here m4 σ (e.mono (x1.trans (x2.trans (x3.trans x4))) m4)) fun _ _ _ z => z)) fun _ _ _ z => z σ)) fun _ _ _ z => z σ)) fun _ _ _ z => z σ)
theorem ss_aug {i : Nat} {f : Int → Int → Int} (ha : SE K E ta a) : SS K E (tAug i ta (ipI f)) (mAug i f a) := fun w ro σ D e h => by
  have k := h.bind
  unfold eVar at k
  split at k
  · rename_i d hd
    obtain ⟨v, hv, rv⟩ := e.slot i d hd
    refine ⟨v, hv, ha w ro σ _ e ((k.here e.emb).bind.mono (fun y w1 x1 p1 m1 k2 u ru => ?_) fun _ _ _ z => z σ)⟩
    split at k2
    · cases rv; cases ru
      exact ⟨_, _, rfl, rfl, k2.here m1 _ ((e.mono x1 m1).set (.int _))⟩
    · exact k2.elim
  · exact k.elim
theorem loop_ok {D : Ends} {N : St → Hp → Prop} {go : Sl → Mo Fl} {ex : Str → List Da → Wd → Prop} {w : Wd} {f : Fl} (m : Em K w) (h : Run K w (loopK go f w.st) (OkF K D) ex)
    (hN : ∀ ro σ, En K w ro σ → Run K w (go ro w.st) (OkF K D) ex → N σ w.H) : OkF K { D with nx := N, ct := N, bk := D.nx } f w := by
  cases f with
  | nx ro => exact fun σ e => hN ro σ e h
  | ct ro => exact fun σ e => hN ro σ e h
  | bk ro => exact fun σ e => Run.here (ok := OkF K D) (a := Fl.nx ro) m h σ e
  | rt d => exact Run.here (ok := OkF K D) (a := Fl.rt d) m h
theorem ss_for {wi : TI} {s : Sl → Mo Src} (hs : SI K E wi s) (hg : SG K g t ws) (hb : SS K E ts m) : SS K E (tFor wi g ts) (mFor s t m) := fun w ro σ D e h => by
  refine hs w ro σ _ e (h.bind.mono (fun s w1 x1 p1 m1 k J hJ => ?_) fun _ _ _ z => z σ)
  refine ⟨fun i mm σ' H' => ∃ w2 ro2, w2.H = H' ∧ Ext w1 w2 ∧ w2.pv = w1.pv ∧ En K w2 ro2 σ' ∧ i ≤ s.xs.length ∧ mm = s.xs.length - i ∧ Run K w2 (forGo s.o s.xs t m (s.xs.drop i) ro2 w2.st) (OkF K D) (fun c as w' => ∀ σ', XP K (E σ') c as w'),
    ⟨s.xs.length, w1, ro, rfl, Ext.refl _, rfl, e.mono x1 m1, Nat.zero_le _, by omega, by rw [List.drop_zero]; exact k⟩, ?_⟩
  rintro i mm σ2 H2 ⟨w2, ro2, rfl, x2, p2, e2, hi, rfl, k2⟩
  by_cases hlt : i < s.xs.length
  · have hd : s.xs.drop i = s.xs[i] :: s.xs.drop (i + 1) := List.drop_eq_getElem_cons hlt
    rw [hd] at k2
    unfold forGo at k2
    split at k2
    · rename_i hc
      obtain ⟨hgo, hst⟩ := hJ w2 x2.w e2.emb hc
      obtain ⟨g1, g2⟩ := hgo i _ (List.getElem?_eq_getElem hlt)
      cases q : t s.xs[i] ro2 with
      | none => rw [q] at k2; exact k2.elim
      | some ro3 =>
        rw [q] at k2
        refine .inr ⟨g1, fun σ' H' => ∃ w3 ro3, w3.H = H' ∧ Ext w1 w3 ∧ w3.pv = w1.pv ∧ En K w3 ro3 σ' ∧ Run K w3 (forGo s.o s.xs t m (s.xs.drop (i + 1)) ro3 w3.st) (OkF K D) (fun c as w' => ∀ σ', XP K (E σ') c as w'),
          fun σ' H' ⟨w3, r3, h1, h2, h3, h4, h5⟩ => ⟨s.xs.length - (i + 1), by omega, w3, r3, h1, h2, h3, h4, hlt, rfl, h5⟩, fun v H' hy => ?_⟩
        obtain ⟨w3, rfl, es, ep, x3, m3, rv⟩ := g2 v H' hy
        obtain ⟨σ3, e3, _, kk⟩ := hg w3 v _ ro2 ro3 σ2 (e2.mono x3 m3) rv q
        refine kk _ (hb w3 ro3 σ3 _ e3 ?_)
        have k3 : Run K w3 (bnd (m ro3) (loopK (forGo s.o s.xs t m (s.xs.drop (i + 1)))) w3.st) (OkF K D) (fun c as w' => ∀ σ', XP K (E σ') c as w') := by
          rw [es]
          exact k2.ext x3 ep
        refine k3.bind.mono (fun f w4 x4 p4 m4 k4 => loop_ok m4 k4 fun ro5 σ5 e5 k5 => ?_) fun _ _ _ z => z
        exact ⟨w4, ro5, rfl, x2.trans (x3.trans x4), p4.trans (ep.trans p2), e5, k5⟩
    · exact k2.elim
  · have he : i = s.xs.length := by omega
    subst he
    rw [List.drop_length] at k2
    unfold forGo at k2
    split at k2
    · rename_i hc
      obtain ⟨_, hst⟩ := hJ w2 x2.w e2.emb hc
      exact .inl ⟨hst, k2.here e2.emb σ2 e2⟩
    · exact k2.elim
theorem ss_while {fuel : Nat} (ht : ST K E tt p) (hb : SS K E ts m) : SS K E (tWhile tt ts) (whileF p m fuel) := fun w ro σ D e h => by
  refine ⟨fun mm σ' H' => ∃ w2 ro2, w2.H = H' ∧ Ext w w2 ∧ w2.pv = w.pv ∧ En K w2 ro2 σ' ∧ Run K w2 (whileF p m mm ro2 w2.st) (OkF K D) (fun c as w' => ∀ σ', XP K (E σ') c as w'),
    ⟨fuel, w, ro, rfl, Ext.refl _, rfl, e, h⟩, ?_⟩
  rintro mm σ2 H2 ⟨w2, ro2, rfl, x2, p2, e2, k2⟩
  cases mm with
  | zero => exact k2.elim
  | succ mm =>
    unfold whileF at k2
    refine ht w2 ro2 σ2 _ e2 (k2.bind.mono (fun c w3 x3 p3 m3 k3 => ?_) fun _ _ _ z => z σ2)
    cases c with
    | true =>
      rw [if_pos rfl] at k3 ⊢
      refine ⟨fun σ' H' => ∃ w4 ro4, w4.H = H' ∧ Ext w w4 ∧ w4.pv = w.pv ∧ En K w4 ro4 σ' ∧ Run K w4 (whileF p m mm ro4 w4.st) (OkF K D) (fun c as w' => ∀ σ', XP K (E σ') c as w'),
        fun σ' H' hh => ⟨mm, Nat.lt_succ_self _, hh⟩, ?_⟩
      refine hb w3 ro2 σ2 _ (e2.mono x3 m3) (k3.bind.mono (fun f w4 x4 p4 m4 k4 => loop_ok m4 k4 fun ro5 σ5 e5 k5 => ?_) fun _ _ _ z => z)
      exact ⟨w4, ro5, rfl, x2.trans (x3.trans x4), p4.trans (p3.trans p2), e5, k5⟩
    | false =>
      rw [if_neg Bool.false_ne_true] at k3 ⊢
      exact k3.here m3 σ2 (e2.mono x3 m3)
end
end CL
namespace CL
open PySem PySem.Spec L2
def noX {A : Type} (m : Mo A) : Mo A := fun st => match m st with
  | .ok a st' => .ok a st'
  | _ => .bad
def wipeS (ro : Sl) : List Nat → Sl
  | [] => ro
  | v :: vs => (wipeS ro vs).set v none
def compGo (o : Option Nat) (all : List Da) (t : Tg) (p : Sl → Mo Bool) (e : Sl → Mo Da) (ro : Sl) : List Da → List Da → Mo (List Da)
  | [], acc => fun st => if chk o all st = true then .ok acc st else .bad
  | x :: r, acc => fun st => if chk o all st = true then (match t x ro with
    | some ro1 => bnd (noX (p ro1)) (fun c => if c = true then bnd (noX (e ro1)) (fun y => if acc.length < szD then compGo o all t p e ro r (acc ++ [y]) else nop) else compGo o all t p e ro r acc) st
    | none => .bad) else .bad
def lComp (s : Sl → Mo Src) (t : Tg) (p : Sl → Mo Bool) (e : Sl → Mo Da) (vs : List Nat) : Sl → Mo (List Da) := fun ro => bnd (s ro) fun s => compGo s.o s.xs t p e (wipeS ro vs) s.xs []
theorem wipe_out {σ : St} {i : Nat} : ∀ {vs : List Nat}, i ∉ vs → (wipe σ vs)[i]? = σ[i]?
  | [], _ => rfl
  | v :: vs, h => by
    unfold wipe
    rw [List.getElem?_set_ne fun z => h (by simp [z])]
    exact wipe_out fun z => h (List.mem_cons_of_mem _ z)
theorem wipe_in {σ : St} {i : Nat} : ∀ {vs : List Nat}, i ∈ vs → (wipe σ vs)[i]? = if i < σ.length then some none else none
  | [], h => by cases h
  | v :: vs, h => by
    unfold wipe
    by_cases e : v = i
    · subst e
      rw [List.getElem?_set, if_pos rfl, wipe_length]
    · rw [List.getElem?_set_ne e]
      rcases List.mem_cons.mp h with z | z
      · exact absurd z.symm e
      · exact wipe_in z
theorem wipe_eq {σ τ : St} {vs : List Nat} (hl : τ.length = σ.length) (h : ∀ i : Nat, i ∉ vs → τ[i]? = σ[i]?) : wipe τ vs = wipe σ vs := by
  refine List.ext_getElem? fun i => ?_
  by_cases hi : i ∈ vs
  · rw [wipe_in hi, wipe_in hi, hl]
  · rw [wipe_out hi, wipe_out hi, h i hi]
theorem wipeS_some {ro : Sl} {i : Nat} {d : Da} : ∀ {vs : List Nat}, (wipeS ro vs)[i]? = some (some d) → ro[i]? = some (some d) ∧ i ∉ vs
  | [], h => ⟨h, by simp⟩
  | v :: vs, h => by
    unfold wipeS at h
    by_cases e : v = i
    · subst e
      rw [List.getElem?_set, if_pos rfl] at h
      split at h <;> cases h
    · rw [List.getElem?_set_ne e] at h
      obtain ⟨h1, h2⟩ := wipeS_some h
      exact ⟨h1, fun z => by
        rcases List.mem_cons.mp z with z | z
        · exact e z.symm
        · exact h2 z⟩
theorem wipeS_length (ro : Sl) : ∀ vs : List Nat, (wipeS ro vs).length = ro.length
  | [] => rfl
  | v :: vs => by unfold wipeS; rw [List.length_set, wipeS_length ro vs]
section
variable {K : PySem.W.Frag} {E E' : St → XK}
theorem En.wipe {w : Wd} {ro : Sl} {σ : St} (e : En K w ro σ) (vs : List Nat) : En K w (wipeS ro vs) (wipe σ vs) := by
  refine ⟨e.emb, by rw [wipe_length, wipeS_length]; exact e.len, fun i d h => ?_⟩
  obtain ⟨h1, h2⟩ := wipeS_some h
  obtain ⟨v, h3, h4⟩ := e.slot i d h1
  exact ⟨v, by rw [wipe_out h2]; exact h3, h4⟩
theorem run_noX {A B : Type} {w1 w2 : Wd} {m : Mo A} {f : A → Mo B} {ok : B → Wd → Prop} {ex ex' : Str → List Da → Wd → Prop} (h : Run K w1 (bnd (noX m) f w2.st) ok ex) :
    Run K w2 (m w2.st) (fun a w3 => Run K w1 (f a w3.st) ok ex) ex' := by
  unfold bnd noX at h
  cases q : m w2.st with
  | ok a st => rw [q] at h; exact fun io H x e => h
  | exc c as st => rw [q] at h; exact h.elim
  | bad => rw [q] at h; exact h.elim
theorem sl_comp {wi : TI} {s : Sl → Mo Src} {g : TG} {t : Tg} {ws vs : List Nat} {tt : TT} {p : Sl → Mo Bool} {te : TE} {m : Sl → Mo Da} (hs : SI K E wi s) (hg : SG K g t ws) (hw : ∀ i ∈ ws, i ∈ vs) (ht : ST K E' tt p) (he : SE K E' te m) :
    SL K E (tLc wi g tt te vs) (lComp s t p m vs) := fun w ro σ Q en h => by
  refine hs w ro σ _ en (h.bind.mono (fun s w1 x1 p1 m1 k J hJ D hD => ?_) fun _ _ _ z => z)
  have hDp : D ∉ w1.pv := m1.freshP hD
  refine ⟨fun i mm H' => ∃ w2 us acc, w2.H = H' ∧ Ext w1 w2 ∧ w2.pv = D :: w1.pv ∧ Em K w2 ∧ w2.H D = some (.lst us) ∧ RepL K w2 us acc ∧ i ≤ s.xs.length ∧ mm = s.xs.length - i ∧ Run K w1 (compGo s.o s.xs t p m (wipeS ro vs) (s.xs.drop i) acc w2.st) (OkL K Q) (XP K (E σ)),
    ⟨s.xs.length, w1.hid D [], [], [], rfl, Ext.hid m1 hD, rfl, m1.hid hD, upd_same, .nil, Nat.zero_le _, by omega, by rw [List.drop_zero]; exact k⟩, ?_⟩
  rintro i mm H2 ⟨w2, us, acc, rfl, x2, p2, m2, hHD, ru, hi, rfl, k2⟩
  by_cases hlt : i < s.xs.length
  · have hd : s.xs.drop i = s.xs[i] :: s.xs.drop (i + 1) := List.drop_eq_getElem_cons hlt
    rw [hd] at k2
    unfold compGo at k2
    split at k2
    · rename_i hc
      obtain ⟨hgo, hst⟩ := hJ w2 x2.w m2 hc
      obtain ⟨g1, g2⟩ := hgo i _ (List.getElem?_eq_getElem hlt)
      cases q : t s.xs[i] (wipeS ro vs) with
      | none => rw [q] at k2; exact k2.elim
      | some ro1 =>
        rw [q] at k2
        refine .inr ⟨g1, fun H' => ∃ w3 us acc, w3.H = H' ∧ Ext w1 w3 ∧ w3.pv = D :: w1.pv ∧ Em K w3 ∧ w3.H D = some (.lst us) ∧ RepL K w3 us acc ∧ Run K w1 (compGo s.o s.xs t p m (wipeS ro vs) (s.xs.drop (i + 1)) acc w3.st) (OkL K Q) (XP K (E σ)),
          fun H' ⟨w3, us, acc, h1, h2, h3, h4, h5, h6, h7⟩ => ⟨s.xs.length - (i + 1), by omega, w3, us, acc, h1, h2, h3, h4, h5, h6, hlt, rfl, h7⟩, fun v H' hy => ?_⟩
        obtain ⟨w3, rfl, es, ep, x3, m3, rv⟩ := g2 v H' hy
        have en3 : En K w3 (wipeS ro vs) (wipe σ vs) := (en.mono (x1.trans (x2.trans x3)) m3).wipe vs
        obtain ⟨σ3, e3, so, kk⟩ := hg w3 v _ (wipeS ro vs) ro1 (wipe σ vs) en3 rv q
        refine kk _ ⟨wipe_eq (by rw [so.1, wipe_length]) fun j hj => ?_, ?_⟩
        · rw [so.2 j fun z => hj (hw j z), wipe_out hj]
        · rw [← es] at k2
          refine ht w3 ro1 σ3 _ e3 ((run_noX k2).mono (fun c w4 x4 p4 m4 k4 => ?_) fun _ _ _ z => z)
          have pD : D ∈ w2.pv := by rw [p2]; exact List.mem_cons_self
          cases c with
          | true =>
            rw [if_pos rfl] at k4 ⊢
            refine he w4 ro1 σ3 _ (e3.mono x4 m4) ((run_noX k4).mono (fun y w5 x5 p5 m5 k5 v5 rv5 => ?_) fun _ _ _ z => z)
            have x25 : Ext w2 w5 := x3.trans (x4.trans x5)
            obtain ⟨pD5, hD5⟩ := x25.pvk D pD
            have hD5' : w5.H D = some (.lst us) := hD5.trans hHD
            split at k5
            · rename_i hl
              have ru5 := ru.mono m2 x25
              refine ⟨us, hD5', by rw [ru.length]; exact szD_lt hl, w5.grow D (us ++ [v5]), us ++ [v5], acc ++ [y], rfl, (x2.trans x25).thenGrow m5 pD5 hD hDp, ?_, m5.grow pD5, upd_same, ?_, k5⟩
              · show w5.pv = D :: w1.pv
                rw [p5, p4, ep, p2]
              · exact (ru5.append (.cons rv5 .nil)).monoP m5 (ExtP.grow m5 pD5)
            · exact k5.elim
          | false =>
            rw [if_neg Bool.false_ne_true] at k4 ⊢
            have x24 : Ext w2 w4 := x3.trans x4
            obtain ⟨pD4, hD4⟩ := x24.pvk D pD
            exact ⟨w4, us, acc, rfl, x2.trans x24, by rw [p4, ep, p2], m4, hD4.trans hHD, ru.mono m2 x24, k4⟩
    · exact k2.elim
  · have hE : i = s.xs.length := by omega
    subst hE
    rw [List.drop_length] at k2
    unfold compGo at k2
    split at k2
    · rename_i hc
      obtain ⟨_, hst⟩ := hJ w2 x2.w m2 hc
      refine .inl ⟨hst, ?_⟩
      have z := Run.at (w' := w2.del D w1.pv) k2 (x2.del p2 hD hDp) (m2.del p2 hHD hDp) rfl rfl D us del_same (ru.del p2 hHD)
      rw [show upd (w2.del D w1.pv).H D (.lst us) = w2.H from upd_del hHD] at z
      exact z
    · exact k2.elim
end
def ar {A : Type} (n : Nat) (f : List Da → Mo A) : List Da → Mo A := fun ds => if ds.length = n then f ds else nop
/-- a def's promise by its mirror -/
def SpOf (K : PySem.W.Frag) (n : Nat) (f : List Da → Mo Da) : Sp := fun vs H Q E => ∃ (w : Wd) (ds : List Da), w.H = H ∧ Em K w ∧ RepL K w vs ds ∧ vs.length = n ∧ Run K w (f ds w.st) (OkV K Q) (XP K E)
def startS (n : Nat) (ds : List Da) : Sl := ds.map some ++ List.replicate (n - ds.length) none
def fnE (f : Fl) : Mo Da := match f with
  | .nx _ => ret .non
  | .rt d => ret d
  | _ => nop
/-- the mirror of a def of so many slots by its body's -/
def fnM (n : Nat) (m : Sl → Mo Fl) : List Da → Mo Da := fun ds => bnd (m (startS n ds)) fnE
section
variable {K : PySem.W.Frag} {E : St → XK}
theorem spOf_of {n : Nat} {f : List Da → Mo Da} {w : Wd} {vs : List V} {ds : List Da} {Q : VK} {E : XK} (m : Em K w) (r : RepL K w vs ds) (h : Run K w (ar n f ds w.st) (OkV K Q) (XP K E)) : SpOf K n f vs w.H Q E := by
  unfold ar at h
  split at h
  · rename_i hl
    exact ⟨w, ds, rfl, m, r, r.length.trans hl, h⟩
  · exact h.elim
theorem s_call {n : Nat} {f : List Da → Mo Da} {tA : TA} {al : Sl → Mo (List Da)} {dvs : List V} {dds : List Da} (hd : ∀ w, Em K w → RepL K w dvs dds) (ha : SA K E tA al) : SE K E (tCallSD (SpOf K n f) dvs E tA) (eCall (fun ds => ar n f (ds ++ dds)) al) := fun w ro σ Q e h =>
  ha w ro σ _ e (h.bind.mono (fun ds w1 x1 p1 m1 k vs rv => spOf_of m1 (rv.append (hd w1 m1)) k) fun _ _ _ z => z)
theorem start_slot : ∀ {vs : List V} {ds : List Da} {w : Wd}, RepL K w vs ds → ∀ (n i : Nat) (d : Da), (ds.map some ++ List.replicate n none)[i]? = some (some d) → ∃ v, (vs.map some ++ List.replicate n none)[i]? = some (some v) ∧ Rep K w v d
  | _, _, w, .nil, n, i, d, h => by
    simp only [List.map_nil, List.nil_append] at h
    rw [List.getElem?_replicate] at h
    split at h <;> cases h
  | _, _, w, .cons r t, n, 0, d, h => by
    simp at h
    subst h
    exact ⟨_, rfl, r⟩
  | _, _, w, .cons r t, n, i + 1, d, h => by
    obtain ⟨v, h1, h2⟩ := start_slot t n i d (by simpa using h)
    exact ⟨v, by simpa using h1, h2⟩
theorem en_start {w : Wd} {vs : List V} {ds : List Da} (m : Em K w) (r : RepL K w vs ds) (N : List Str) : En K w (startS N.length ds) (L2.start N vs) := by
  refine ⟨m, ?_, fun i d h => ?_⟩
  · unfold L2.start startS
    simp [r.length]
  · unfold startS at h
    unfold L2.start
    rw [r.length]
    exact start_slot r _ i d h
theorem body_run {w : Wd} {N : List Str} {ts : TS} {m : Sl → Mo Fl} {vs : List V} {ds : List Da} {Q : VK} {E0 : XK} (hs : SS K (fun _ => E0) ts m) (em : Em K w) (r : RepL K w vs ds) (h : Run K w (fnM N.length m ds w.st) (OkV K Q) (XP K E0)) :
    ts { nx := fun _ H' => Q .non H', rt := Q } (L2.start N vs) w.H :=
  hs w _ _ _ (en_start em r N) (h.bind.mono (fun f w1 x1 p1 m1 k => by
    cases f with
    | nx ro => exact fun σ e => Run.here (ok := OkV K Q) (a := Da.non) m1 k _ .non
    | rt d => exact Run.here (ok := OkV K Q) (a := d) m1 k
    | bk ro => exact k.elim
    | ct ro => exact k.elim) fun _ _ _ z _ => z)
/-- a def keeps its mirror -/
theorem ok_of {P : Program} {wd : World} {mg : Str → Option Value} {base : Heap} {x qual : Str} {params : Arguments} {body : List Stmt} {scope : Scope} {dvs : List V} {kws : List (Str × V)} {f : Addr} {fd : FuncData} {N ps : List Str} {k n : Nat} {m : Sl → Mo Fl} {nN : Nat}
    (F : FunD K x qual params body scope dvs kws f fd) (S : FnScope N ps scope) (hn : ps.length = n) (hN : N.length = nN)
    (hb : ∀ (cdv : Value) (A : Around) (outer : List Env) (s : Shared) (H : Hp) (E : XK), Room k (A.deeper (PyProof.Rows.envOfC qual scope s.heap.objs.size f cdv)) →
      ∃ t, PSs (cxOf (L2.CX P wd) P wd K mg base N qual scope f cdv A outer s H E) body t ∧ SS K (fun _ => E) t m) :
    FnOk P wd K mg base (L2.CX P wd) (k + 1) f fd ps (SpOf K n (fnM nN m)) := by
  subst hn hN
  refine F.ok S (fun vs H Q E h => ?_) (fun cdv A outer s H vs Q E hr h => ?_)
  · obtain ⟨w, ds, _, _, _, hl, _⟩ := h
    exact hl
  · obtain ⟨w, ds, rfl, em, r, hl, k⟩ := h
    obtain ⟨t, ht, hs⟩ := hb cdv A outer s w.H E hr
    exact ⟨t, ht, body_run hs em r k⟩
end
end CL
namespace CL
open PySem PySem.Spec L2
structure QE (X : Cx) (E : St → XK) (e : Expr) (te : TE) (m : Sl → Mo Da) : Prop where
  pe : PE X e te
  se : SE X.K E te m
structure QT (X : Cx) (E : St → XK) (e : Expr) (tt : TT) (m : Sl → Mo Bool) : Prop where
  pt : PT X e tt
  st : ST X.K E tt m
structure QW (X : Cx) (E : St → XK) (e : Expr) (tt : TT) (m : Sl → Mo Bool) : Prop where
  pw : PW X e tt
  st : ST X.K E tt m
structure QA (X : Cx) (E : St → XK) (es : List Expr) (ta : TA) (m : Sl → Mo (List Da)) : Prop where
  pa : PA X es ta
  sa : SA X.K E ta m
structure QL (X : Cx) (E : St → XK) (e : Expr) (te : TE) (m : Sl → Mo (List Da)) : Prop where
  pe : PE X e te
  sl : SL X.K E te m
structure QI (X : Cx) (E : St → XK) (tg iter : Expr) (wi : TI) (m : Sl → Mo Src) : Prop where
  pi : PI X tg iter wi
  si : SI X.K E wi m
structure QG (X : Cx) (tg : Expr) (g : TG) (t : Tg) (ws : List Nat) : Prop where
  pg : PG X tg g
  sg : SG X.K g t ws
structure QGs (X : Cx) (tg : List Expr) (g : TGs) (t : Tgs) (ws : List Nat) : Prop where
  pg : PGs X tg g
  sg : SGs X.K g t ws
structure QS (X : Cx) (E : St → XK) (s : Stmt) (ts : TS) (m : Sl → Mo Fl) : Prop where
  ps : PS X s ts
  ss : SS X.K E ts m
structure QB (X : Cx) (E : St → XK) (s : List Stmt) (ts : TS) (m : Sl → Mo Fl) : Prop where
  ps : PSs X s ts
  ss : SS X.K E ts m
structure QP (X : Cx) (E : St → XK) (e : Option Expr) (to : TO) (m : Sl → Mo (Option Int)) : Prop where
  po : PO X e to
  so : ∀ (w : Wd) (ro : Sl) (σ : St) (Q : Option Int → Hp → Prop), En X.K w ro σ → Run X.K w (m ro w.st) (fun o w' => Q o w'.H) (XP X.K (E σ)) → to σ w.H Q
/-- a def that can be called by its name -/
structure Cal (P : Program) (wd : World) (K : PySem.W.Frag) (mg : Str → Option Value) (base : Heap) (k : Nat) (x : Str) (n : Nat) (f : List Da → Mo Da) (dvs : List V) : Prop where
  ex : ∃ (q : Addr) (fd : FuncData) (ps : List Str) (ds : List Value), mg x = some (.ref q) ∧ PySem.W.keepIn K (.ref q) = true ∧ Binds K fd ps ds ∧ Vals dvs ds ∧ FnOk P wd K mg base (L2.CX P wd) k q fd ps (SpOf K n f)
def noP : Sl → Mo (Option Int) := fun _ => ret none
def soP (a : Sl → Mo Da) : Sl → Mo (Option Int) := fun ro => bnd (a ro) fun d => match d with
  | .int i => ret (some i)
  | _ => nop
def eSl (f : Da → Option Int → Option Int → Mo Da) (a : Sl → Mo Da) (lo hi : Sl → Mo (Option Int)) : Sl → Mo Da := fun ro => bnd (a ro) fun d => bnd (lo ro) fun l => bnd (hi ro) fun h => f d l h
def lSl (a : Sl → Mo Da) (lo hi : Sl → Mo (Option Int)) : Sl → Mo (List Da) := fun ro => bnd (a ro) fun d => bnd (lo ro) fun l => bnd (hi ro) fun h => slL d l h
def l2 (f : Da → Da → Mo (List Da)) (a b : Sl → Mo Da) : Sl → Mo (List Da) := fun ro => bnd (a ro) fun x => bnd (b ro) fun y => f x y
def lCall (f : List Da → Mo (List Da)) (a : Sl → Mo (List Da)) : Sl → Mo (List Da) := fun ro => bnd (a ro) f
section
variable {X : Cx} {E : St → XK} {a b c e : Expr} {es rest : List Expr} {ta tb tc te : TE} {tt tu : TT} {tA : TA} {ma mb mc : Sl → Mo Da} {mp mq : Sl → Mo Bool} {al : Sl → Mo (List Da)} {pos p2 : Pos} {r r' : R2} {f g : Da → Da → Mo Da}
theorem q_var (i : Nat) {x : Str} (hN : X.N[i]? = some x := by rfl) (hv : Vis X.env.scope x := by first | exact Or.inl rfl | exact Or.inr (Or.inl rfl) | exact Or.inr (Or.inr rfl)) (hd : (x == ("__debug__" : Str)) = false := by decide)
    (hcd : (x == ("__classdict__" : Str)) = false := by decide) : QE X E (.Name x pos) (tVar i) (eVar i) := ⟨pe_var hN hv hd hcd, s_var⟩
theorem q_int {i : Int} {j} : QE X E (.Constant (.int i) j pos) (tC (.int i)) (eC (.int i)) := ⟨pe_int, s_c fun _ _ => .int i⟩
theorem q_bl {i : Bool} {j} : QE X E (.Constant (.bool i) j pos) (tC (.bl i)) (eC (.bl i)) := ⟨pe_bl, s_c fun _ _ => .bl i⟩
theorem q_str {i : Str} {j} : QE X E (.Constant (.str i) j pos) (tC (.str i)) (eC (.str i)) := ⟨pe_str, s_c fun _ _ => .str i⟩
theorem q_non {j} : QE X E (.Constant .none j pos) (tC .non) (eC .non) := ⟨pe_non, s_c fun _ _ => .non⟩
/-- a constant of the module -/
theorem q_gint {x : Str} {i : Int} (hm : ∃ t, X.mg x = some (.int i t)) (hg : Gl X x := by rfl) (hd : (x == ("__debug__" : Str)) = false := by decide) : QE X E (.Name x pos) (tC (.int i)) (eC (.int i)) :=
  ⟨by obtain ⟨t, h⟩ := hm; exact pe_glob hg h ⟨t, rfl⟩ hd, s_c fun _ _ => .int i⟩
theorem q_gstr {x : Str} {i : Str} (hm : ∃ t, X.mg x = some (.str i t)) (hg : Gl X x := by rfl) (hd : (x == ("__debug__" : Str)) = false := by decide) : QE X E (.Name x pos) (tC (.str i)) (eC (.str i)) :=
  ⟨by obtain ⟨t, h⟩ := hm; exact pe_glob hg h ⟨t, rfl⟩ hd, s_c fun _ _ => .str i⟩
theorem q_gdat {x : Str} {p : Addr} {d : Da} (hm : X.mg x = some (.ref p)) (hr : ∀ w, Em X.K w → Rep X.K w (.ref p) d) (hg : Gl X x := by rfl) (hd : (x == ("__debug__" : Str)) = false := by decide) : QE X E (.Name x pos) (tC (.ref p)) (eC d) :=
  ⟨pe_glob hg hm rfl hd, s_c hr⟩
theorem q_op {op : Operator} (ho : QO X (binaryOp op) r f) (ha : QE X E a ta ma) (hb : QE X E b tb mb) : QE X E (.BinOp a op b pos) (tOp r ta tb) (e2 f ma mb) := ⟨pe_op ho.op ha.pe hb.pe, s_op ho.s2 ha.se hb.se⟩
theorem q_un {op : UnaryOp} {r : V → Hp → VK → Prop} {f : Da → Mo Da} (ho : UnR X (unaryOp op) r) (hs : S1 X.K r f) (ha : QE X E a ta ma) : QE X E (.UnaryOp op a pos) (tUn r ta) (e1 f ma) := ⟨pe_un ho ha.pe, s_un hs ha.se⟩
theorem q_neg (ha : QE X E a ta ma) : QE X E (.UnaryOp .USub a pos) (tUn (rU fun i => .int (-i)) ta) (e1 negD ma) := q_un un_neg (fun w x d Q ex m rx h => by
  unfold negD at h
  split at h
  · cases rx; exact ⟨_, rfl, h.here m _ (.int _)⟩
  · exact h.elim) ha
theorem q_cmp {op : CmpOp} (ho : QO X (compareOp op) r f) (ha : QE X E a ta ma) (hb : QE X E b tb mb) (hm : behindInMarks op b = false := by first | rfl | exact nomark _) : QE X E (.Compare a [op] [b] pos) (tOp r ta tb) (e2 f ma mb) := ⟨pe_cmpR ho.op ha.pe hb.pe hm, s_op ho.s2 ha.se hb.se⟩
theorem q_chain {op op' : CmpOp} (ho : QO X (compareOp op) r f) (ho' : QO X (compareOp op') r' g) (ha : QE X E a ta ma) (hb : QE X E b tb mb) (hc : QE X E c tc mc) (hm : lastMarks [op, op'] [b, c] = false := by with_unfolding_all rfl) : QE X E (.Compare a [op, op'] [b, c] pos) (tChain r r' ta tb tc) (eChain f g ma mb mc) :=
  ⟨pe_chain ho.op ho'.op ha.pe hb.pe hc.pe hm, s_chain ho.s2 ho'.s2 ha.se hb.se hc.se⟩
theorem q_one {op} (h : QE X E a ta ma) : QE X E (.BoolOp op [a] pos) ta ma := ⟨pe_one h.pe, h.se⟩
theorem q_and (ha : QE X E a ta ma) (hb : QE X E (.BoolOp .And (b :: rest) pos) tb mb) : QE X E (.BoolOp .And (a :: b :: rest) pos) (tAndV ta tb) (vAnd ma mb) := ⟨pe_and ha.pe hb.pe, s_vAnd ha.se hb.se⟩
theorem q_or (ha : QE X E a ta ma) (hb : QE X E (.BoolOp .Or (b :: rest) pos) tb mb) : QE X E (.BoolOp .Or (a :: b :: rest) pos) (tOrV ta tb) (vOr ma mb) := ⟨pe_or ha.pe hb.pe, s_vOr ha.se hb.se⟩
theorem q_not (ha : QE X E a ta ma) : QE X E (.UnaryOp .Not a pos) (tNotV ta) (vNot ma) := ⟨pe_not ha.pe, s_vNot ha.se⟩
theorem q_ifx (ht : QT X E c tt mp) (ha : QE X E a ta ma) (hb : QE X E b tb mb) : QE X E (.IfExp c a b pos) (tIf tt ta tb) (eIf mp ma mb) := ⟨pe_ifExp ht.pt ha.pe hb.pe, s_if ht.st ha.se hb.se⟩
theorem qt_val (h : QE X E e te ma) (he : ∀ whole, isTrue e X.env whole = (do let v ← whole; standAt e.pos; holding [v] (truthy v)) := by intro _; rfl) : QT X E e (tB te) (tst ma) := ⟨pt_val h.pe he, s_tB h.se⟩
theorem qt_cmp {op : CmpOp} (ho : QO X (compareOp op) r f) (ha : QE X E a ta ma) (hb : QE X E b tb mb) (hm : behindInMarks op b = false := by first | rfl | exact nomark _) : QT X E (.Compare a [op] [b] pos) (tTest (tOp r ta tb)) (tst (e2 f ma mb)) := ⟨pt_cmpR ho.op ha.pe hb.pe hm, s_tst (s_op ho.s2 ha.se hb.se)⟩
theorem qt_chain {op op' : CmpOp} (ho : QO X (compareOp op) r f) (ho' : QO X (compareOp op') r' g) (ha : QE X E a ta ma) (hb : QE X E b tb mb) (hc : QE X E c tc mc) (hm : lastMarks [op, op'] [b, c] = false := by with_unfolding_all rfl) : QT X E (.Compare a [op, op'] [b, c] pos) (tTest (tChain r r' ta tb tc)) (tst (eChain f g ma mb mc)) :=
  ⟨pt_chain ho.op ho'.op ha.pe hb.pe hc.pe hm, s_tst (s_chain ho.s2 ho'.s2 ha.se hb.se hc.se)⟩
theorem qw_and1 (h : QT X E a tt mp) : QW X E (.BoolOp .And [a] pos) tt mp := ⟨pw_and1 h.pt, h.st⟩
theorem qw_or1 (h : QT X E a tt mp) : QW X E (.BoolOp .Or [a] pos) tt mp := ⟨pw_or1 h.pt, h.st⟩
theorem qw_and (h : QT X E a tt mp) (hb : QW X E (.BoolOp .And (b :: rest) pos) tu mq) : QW X E (.BoolOp .And (a :: b :: rest) pos) (tAnd tt tu) (tAnd_ mp mq) := ⟨pw_and h.pt hb.pw, s_and h.st hb.st⟩
theorem qw_or (h : QT X E a tt mp) (hb : QW X E (.BoolOp .Or (b :: rest) pos) tu mq) : QW X E (.BoolOp .Or (a :: b :: rest) pos) (tOr tt tu) (tOr_ mp mq) := ⟨pw_or h.pt hb.pw, s_or h.st hb.st⟩
theorem qt_w (h : QW X E a tt mp) : QT X E a tt mp := ⟨h.pw.pt, h.st⟩
theorem qt_not (h : QT X E a tt mp) : QT X E (.UnaryOp .Not a pos) (tNot tt) (tNot_ mp) := ⟨pt_not h.pt, s_not h.st⟩
theorem qa_nil : QA X E [] tNil aNil := ⟨pa_nil, s_nil⟩
theorem qa_cons (h : QE X E e te ma) (hr : QA X E es tA al) (hs : starEach (e :: es) X.env = (false, eval e X.env) :: starEach es X.env := by rfl) : QA X E (e :: es) (tCons te tA) (aCons ma al) := ⟨pa_cons h.pe hr.pa hs, s_cons h.se hr.sa⟩
theorem q_tup {k} (h : QA X E es tA al) : QE X E (.Tuple es k pos) (tTup tA) (eTup al) := ⟨pe_tup h.pa, s_tup h.sa⟩
theorem ql_disp (h : QA X E es tA al) : QL X E (.List es pos) (tLst tA) (lDisp al) := ⟨pe_lst h.pa, s_lst h.sa⟩
theorem q_L (h : QL X E e te al) : QE X E e te (eL al) := ⟨h.pe, s_L h.sl⟩
theorem q_H (h : QL X E e te al) : QE X E e te (eH al) := ⟨h.pe, s_H h.sl⟩
theorem q_F (h : QE X E e te ma) : QE X E e te (eF ma) := ⟨h.pe, s_F h.se⟩
theorem ql_op {op : Operator} {f : Da → Da → Mo (List Da)} (ho : QOL X (binaryOp op) r f) (ha : QE X E a ta ma) (hb : QE X E b tb mb) : QL X E (.BinOp a op b pos) (tOp r ta tb) (l2 f ma mb) := ⟨pe_op ho.op ha.pe hb.pe, fun w ro σ Q e h =>
  ha.se w ro σ _ e (h.bind.mono (fun d w1 x1 p1 m1 k v rv => hb.se w1 ro σ _ (e.mono x1 m1) (k.bind.mono (fun d2 w2 x2 p2 m2 k2 v2 rv2 =>
    ho.s2 w2 v v2 d d2 Q _ m2 (rv.mono m1 x2) rv2 k2) fun _ _ _ z => z)) fun _ _ _ z => z)⟩
theorem q_sub1 {K : PySem.W.Frag} (ha : QE X E a ta ma) (hb : QE X E b tb mb) (hs : PlainIx b := by exact fun _ _ => rfl) (hK : X.K = K := by rfl) : QE X E (.Subscript a b pos) (tOp (rIx K) ta tb) (e2 ixD ma mb) := by
  subst hK
  exact ⟨pe_ix q_ix.1 ha.pe hb.pe hs, s_op q_ix.2 ha.se hb.se⟩
theorem qp_none : QP X E none tNoPart noP := ⟨po_none, fun w ro σ Q e h => h.here e.emb⟩
theorem qp_some (h : QE X E e te ma) : QP X E (some e) (tPart te) (soP ma) := ⟨po_some h.pe, fun w ro σ Q en hh => h.se w ro σ _ en (hh.bind.mono (fun d w1 x1 p1 m1 k v rv => by
  split at k
  · cases rv; exact ⟨_, rfl, k.here m1⟩
  · exact k.elim) fun _ _ _ z => z)⟩
theorem q_slice {K : PySem.W.Frag} {lo hi : Option Expr} {tl th : TO} {ml mh : Sl → Mo (Option Int)} (ha : QE X E a ta ma) (hl : QP X E lo tl ml) (hh : QP X E hi th mh) (hK : X.K = K := by rfl) : QE X E (.Subscript a (.Slice lo hi none p2) pos) (tSl (rSlAll K) ta tl th) (eSl slA ma ml mh) := by
  subst hK
  exact ⟨pe_slice q_slA.1 ha.pe hl.po hh.po, fun w ro σ Q e h => ha.se w ro σ _ e (h.bind.mono (fun d w1 x1 p1 m1 k v rv => hl.so w1 ro σ _ (e.mono x1 m1) (k.bind.mono (fun l w2 x2 p2 m2 k2 =>
    hh.so w2 ro σ _ (e.mono (x1.trans x2) m2) (k2.bind.mono (fun u w3 x3 p3 m3 k3 => q_slA.2 w3 v d l u Q _ m3 (rv.mono m1 (x2.trans x3)) k3) fun _ _ _ z => z)) fun _ _ _ z => z)) fun _ _ _ z => z)⟩
theorem ql_slice {K : PySem.W.Frag} {lo hi : Option Expr} {tl th : TO} {ml mh : Sl → Mo (Option Int)} (ha : QE X E a ta ma) (hl : QP X E lo tl ml) (hh : QP X E hi th mh) (hK : X.K = K := by rfl) : QL X E (.Subscript a (.Slice lo hi none p2) pos) (tSl (rSlL K) ta tl th) (lSl ma ml mh) := by
  subst hK
  exact ⟨pe_slice sl_list ha.pe hl.po hh.po, fun w ro σ Q e h => ha.se w ro σ _ e (h.bind.mono (fun d w1 x1 p1 m1 k v rv => hl.so w1 ro σ _ (e.mono x1 m1) (k.bind.mono (fun l w2 x2 p2 m2 k2 =>
    hh.so w2 ro σ _ (e.mono (x1.trans x2) m2) (k2.bind.mono (fun u w3 x3 p3 m3 k3 => by
      unfold slL at k3
      split at k3
      · rename_i xs hx
        obtain ⟨q, vs, rfl, hH, rl⟩ := ls_rep m3 (rv.mono m1 (x2.trans x3)) hx
        exact ⟨q, vs, rfl, SqL.of hH, fun p hp => okL_fresh m3 k3 rfl hp (cut_rep rl l u)⟩
      · exact k3.elim) fun _ _ _ z => z)) fun _ _ _ z => z)) fun _ _ _ z => z)⟩
theorem q_cb {x : Str} {id : String} {rr : List V → Hp → VK → Prop} {fm : List Da → Mo Da} {p : Pos} (hc : CallR X (.builtin id) rr) (hs : SC X.K rr fm) (hm : X.mg x = none) (ha : QA X E (e :: es) tA al) (hv : bootBuiltins x = some (.builtin id) := by decide +kernel) (hg : Gl X x := by rfl) (hn : x ≠ "__name__" := by decide) (hdb : (x == ("__debug__" : Str)) = false := by decide)
    (he : starEach (e :: es) X.env = (false, eval e X.env) :: starEach es X.env := by rfl) (hpl : (backTo pos (starEach es X.env)).any (·.1) = false := by rfl) : QE X E (.Call (.Name x p) (e :: es) [] pos) (tCB rr tA) (eCall fm al) :=
  ⟨pe_callB hc hg hm hv ha.pa hn hdb he hpl, s_cb hs ha.sa⟩
theorem q_ct {x : Str} {T : String} {rr : List V → Hp → VK → Prop} {fm : List Da → Mo Da} {p : Pos} (hc : CallR X (.type T) rr) (hs : SC X.K rr fm) (hm : X.mg x = none) (ha : QA X E (e :: es) tA al) (hv : bootBuiltins x = some (.type T) := by decide +kernel) (hg : Gl X x := by rfl) (hn : x ≠ "__name__" := by decide) (hdb : (x == ("__debug__" : Str)) = false := by decide)
    (he : starEach (e :: es) X.env = (false, eval e X.env) :: starEach es X.env := by rfl) (hpl : (backTo pos (starEach es X.env)).any (·.1) = false := by rfl) : QE X E (.Call (.Name x p) (e :: es) [] pos) (tCB rr tA) (eCall fm al) :=
  ⟨pe_callTy hc hg hm hv ha.pa hn hdb he hpl, s_cb hs ha.sa⟩
theorem ql_ct {x : Str} {T : String} {rr : List V → Hp → VK → Prop} {fm : List Da → Mo (List Da)} {p : Pos} (hc : CallR X (.type T) rr) (hs : SCL X.K rr fm) (hm : X.mg x = none) (ha : QA X E (e :: es) tA al) (hv : bootBuiltins x = some (.type T) := by decide +kernel) (hg : Gl X x := by rfl) (hn : x ≠ "__name__" := by decide) (hdb : (x == ("__debug__" : Str)) = false := by decide)
    (he : starEach (e :: es) X.env = (false, eval e X.env) :: starEach es X.env := by rfl) (hpl : (backTo pos (starEach es X.env)).any (·.1) = false := by rfl) : QL X E (.Call (.Name x p) (e :: es) [] pos) (tCB rr tA) (lCall fm al) :=
  ⟨pe_callTy hc hg hm hv ha.pa hn hdb he hpl, fun w ro σ Q e h => ha.sa w ro σ _ e (h.bind.mono (fun ds w1 x1 p1 m1 k vs rvs => hs w1 vs ds Q _ m1 rvs k) fun _ _ _ z => z)⟩
theorem q_isi {K : PySem.W.Frag} {p p3 : Pos} {T : Str} (t : Tn) (hm : X.mg "isinstance" = none) (hT : X.mg T = none) (ha : QE X E a ta ma) (hv : bootBuiltins T = some (.type t.name) := by decide +kernel) (h1 : t ≠ .non := by decide) (h2 : t ≠ .dict := by decide) (hg : Gl X "isinstance" := by rfl) (hgT : Gl X T := by rfl) (hn : T ≠ "__name__" := by decide) (hd : (T == ("__debug__" : Str)) = false := by decide)
    (hs : starEach (a :: [.Name T p3]) X.env = (false, eval a X.env) :: starEach [.Name T p3] X.env := by rfl) (hs2 : starEach (.Name T p3 :: []) X.env = (false, eval (.Name T p3) X.env) :: starEach [] X.env := by rfl) (hpl : (backTo pos (starEach [.Name T p3] X.env)).any (·.1) = false := by rfl) (hK : X.K = K := by rfl) :
    QE X E (.Call (.Name "isinstance" p) [a, .Name T p3] [] pos) (tCB (rIsi K) (tCons ta (tCons (tC (.ty t.name)) tNil))) (e1 (isT t) ma) := by
  subst hK
  exact ⟨pe_callB call_isi hg hm (by decide +kernel) (pa_cons ha.pe (pa_cons (pe_bltn hgT hT hv rfl hn hd) pa_nil hs2) hs) (by decide) (by decide) hs hpl, fun w ro σ Q e h =>
    ha.se w ro σ _ e (h.bind.mono (fun d w1 x1 p1 m1 k v rv => sc_isT h1 h2 w1 v d Q _ m1 rv k) fun _ _ _ z => z)⟩
theorem q_app {K : PySem.W.Frag} {apos : Pos} (ha : QE X E a ta ma) (hb : QE X E b tb mb) (hbase : attributeBase a "append" X.env (eval a X.env) = eval a X.env := by rfl)
    (hfew : ((backTo pos (starEach (b :: []) X.env)).all (fun x => !x.1) && (backToKw pos (keywordEach [] X.env)).all (fun x => x.1.isSome) && decide ((b :: []).length + ([] : List Keyword).length + (if ([] : List Keyword).isEmpty then 0 else 1) < 30)) = true := by rfl) (hline : (apos.endLine == pos.line) = true := by rfl) (hs : starEach (b :: []) X.env = (false, eval b X.env) :: starEach [] X.env := by rfl) (hpl : (backTo pos (starEach [] X.env)).any (·.1) = false := by rfl) (hK : X.K = K := by rfl) :
    QE X E (.Call (.Attribute a "append" apos) [b] [] pos) (tBM K "list" rAppend ta (tCons tb tNil)) (eApp ma mb) := by
  subst hK
  exact ⟨pe_bm PySem.F.plainAttrs_list PySem.F.slot_list_append PySem.F.type_list_append mt_append ha.pe (pa_cons hb.pe pa_nil hs) hbase hfew hline hs hpl, s_app ha.se hb.se⟩
theorem q_pop {K : PySem.W.Frag} {apos : Pos} (ha : QE X E a ta ma) (hbase : attributeBase a "pop" X.env (eval a X.env) = eval a X.env := by rfl) (hline : (apos.endLine == pos.line) = true := by rfl) (hK : X.K = K := by rfl) :
    QE X E (.Call (.Attribute a "pop" apos) [] [] pos) (tBM0 K "list" rPop ta) (ePop ma) := by
  subst hK
  exact ⟨pe_bm0 PySem.F.plainAttrs_list PySem.F.slot_list_pop PySem.F.type_list_pop mt_pop ha.pe hbase hline, s_pop ha.se⟩
theorem q_call {P : Program} {wd : World} {K : PySem.W.Frag} {mg : Str → Option Value} {base : Heap} {k n : Nat} {x : Str} {dvs : List V} {dds : List Da} {fm : List Da → Mo Da} {p : Pos} (F : Cal P wd K mg base k x n fm dvs) (hr : Room k X.A) (hx : ∀ σ, PassesAt (L2.CX X.prog X.w) X σ (E σ))
    (ha : QA X E (e :: es) tA al) (hP : X.prog = P := by rfl) (hw : X.w = wd := by rfl) (hK : X.K = K := by rfl) (hmg : X.mg = mg := by rfl) (hbase : X.base = base := by rfl) (hdd : ∀ w, Em K w → RepL K w dvs dds := by intro w m; first | exact .nil | exact .cons (.int _) .nil) (hg : Gl X x := by rfl) (hdb : (x == ("__debug__" : Str)) = false := by decide) (he : starEach (e :: es) X.env = (false, eval e X.env) :: starEach es X.env := by rfl) (hpl : (backTo pos (starEach es X.env)).any (·.1) = false := by rfl) :
    QE X E (.Call (.Name x p) (e :: es) [] pos) (tCallSD (SpOf K n fm) dvs E tA) (eCall (fun ds => ar n fm (ds ++ dds)) al) := by
  subst hP hw hK hmg hbase
  obtain ⟨q, fd, ps, ds, hm, hk, hb, hd, F⟩ := F.ex
  exact ⟨pe_callSD F hr hg hm hk hb hd hx ha.pa hdb he hpl, s_call hdd ha.sa⟩
theorem qg_name (i : Nat) {x : Str} (hN : X.N.Nodup) (hi : X.N[i]? = some x := by rfl) (hx : Loc X.env.scope x := by first | exact Or.inl rfl | exact Or.inr rfl) (hf : X.fn x = true ∨ X.env.scope.names.lookup x = some .local := by first | exact .inl rfl | exact .inr rfl | assumption) : QG X (.Name x pos) (gName i) (gN i) [i] := ⟨pg_name hN hi hx hf, sg_name⟩
theorem qgs_nil : QGs X [] gNil gsN [] := ⟨pgs_nil, sgs_nil⟩
theorem qgs_cons {g : TG} {gs : TGs} {t : Tg} {u : Tgs} {ws us : List Nat} (h1 : QG X e g t ws) (h2 : QGs X es gs u us) (hs : (assignEach (e :: es) X.env).map (·.2) = assign e X.env :: (assignEach es X.env).map (·.2) := by rfl) : QGs X (e :: es) (gCons g gs) (gsC t u) (ws ++ us) := ⟨pgs_cons h1.pg h2.pg hs, sgs_cons h1.sg h2.sg⟩
theorem qg_tup {K : PySem.W.Frag} {gs : TGs} {t : Tgs} {ws : List Nat} {k : Nat} (n : Nat) (hc : X.calm = true) (h : QGs X es gs t ws) (hn : (assignEach es X.env).length = n := by rfl) (hst : (assignEach es X.env).findIdx? (·.1) = none := by rfl) (hK : X.K = K := by rfl) : QG X (.Tuple es k pos) (gTup K n gs) (gT n t) ws := by
  subst hK
  exact ⟨pg_tup hc h.pg hn hst, sg_tup h.sg⟩
variable {tg iter : Expr}
theorem qi_v {K : PySem.W.Frag} (h : QE X E iter te ma) (hK : X.K = K := by rfl) : QI X E tg iter (iSeq K te) (iV ma) := by
  subst hK
  exact ⟨pi_seq h.pe, si_v h.se⟩
theorem qi_r1 {p : Pos} (hm : X.mg "range" = none) (h : QA X E [a] tA al) (hg : Gl X "range" := by rfl) (hs : starEach [a] X.env = [(false, eval a X.env)] := by rfl) : QI X E tg (.Call (.Name "range" p) [a] [] pos) (iRng1 tA) (iR1 al) := ⟨pi_range1 hg hm h.pa hs, si_r1 h.sa⟩
theorem qi_r2 {p : Pos} (hm : X.mg "range" = none) (h : QA X E [a, b] tA al) (hg : Gl X "range" := by rfl) (hs : starEach [a, b] X.env = [(false, eval a X.env), (false, eval b X.env)] := by rfl) (hs2 : starEach [b] X.env = [(false, eval b X.env)] := by rfl) : QI X E tg (.Call (.Name "range" p) [a, b] [] pos) (iRng2 tA) (iR2 al) := ⟨pi_range2 hg hm h.pa hs hs2, si_r2 h.sa⟩
end
section
variable {X : Cx} {E : St → XK} {a b c e tg iter : Expr} {es rest : List Expr} {ta tb tc te : TE} {tt : TT} {tA : TA} {ma mb mc : Sl → Mo Da} {mp : Sl → Mo Bool} {al : Sl → Mo (List Da)} {pos p2 : Pos} {s : Stmt} {ss s1 s2 : List Stmt} {ts tu : TS} {m n : Sl → Mo Fl} {g : TG} {t : Tg} {ws : List Nat} {wi : TI} {ms : Sl → Mo Src}
structure QTs (X : Cx) (E : St → XK) (es : List Expr) (tt : TT) (m : Sl → Mo Bool) : Prop where
  pt : PTs X es tt
  st : ST X.K E tt m
def tYes_ : Sl → Mo Bool := fun _ => ret true
theorem qts_nil : QTs X E [] tYes tYes_ := ⟨pts_nil, fun w ro σ Q e h => h.here e.emb⟩
theorem qts_one (h : QT X E a tt mp) : QTs X E [a] tt mp := ⟨pts_one h.pt, h.st⟩
theorem ql_comp {elt : Expr} {ifs : List Expr} {scope : Scope} {own : List (Str × Nat)} {vs : List Nat} (hc : X.calm = true) (hN : X.N.Nodup) (hi : QI X E tg iter wi ms) (ok : BlkOk X.N X.env.scope scope own)
    (hg : ∀ (s : Shared) (H : Hp) (C : Addr) (cl : List (Str × Addr)) (fp : List Addr), QG (X.blk s H scope (PySem.compEnvC scope cl C X.env) fp) tg g t ws)
    (ht : ∀ (s : Shared) (H : Hp) (C : Addr) (cl : List (Str × Addr)) (fp : List Addr), QTs (X.blk s H scope (PySem.compEnvC scope cl C X.env) fp) (fun _ => E0) ifs tt mp)
    (he : ∀ (s : Shared) (H : Hp) (C : Addr) (cl : List (Str × Addr)) (fp : List Addr), QE (X.blk s H scope (PySem.compEnvC scope cl C X.env) fp) (fun _ => E0) elt te ma)
    (hv : own.map (·.2) = vs := by rfl) (hw : ∀ i ∈ ws, i ∈ vs := by decide) (hs : ∀ x, foldedSetIterable iter X.env x = pure x := by intro _; rfl) : QL X E (.ListComp elt [⟨tg, iter, ifs, 0⟩] scope pos) (tLc wi g tt te vs) (lComp ms t mp ma vs) :=
  ⟨by subst hv; exact pe_lc hc hN hi.pi ok (fun s H C cl fp => (hg s H C cl fp).pg) (fun s H C cl fp => (ht s H C cl fp).pt) (fun s H C cl fp => (he s H C cl fp).pe) hs,
    sl_comp hi.si (hg X.s_0 (fun _ => none) 0 [] []).sg hw (ht X.s_0 (fun _ => none) 0 [] []).st (he X.s_0 (fun _ => none) 0 [] []).se⟩
theorem qb_nil : QB X E [] tNext mNil := ⟨pss_nil, ss_nil⟩
theorem qb_cons (h1 : QS X E s ts m) (h2 : QB X E ss tu n) : QB X E (s :: ss) (tSeq ts tu) (mSeq m n) := ⟨pss_cons h1.ps h2.ps, ss_seq h1.ss h2.ss⟩
theorem qb_one (h1 : QS X E s ts m) : QB X E [s] ts m := ⟨pss_one h1.ps, h1.ss⟩
theorem qs_set (i : Nat) {x : Str} {pos' : Pos} (hN : X.N.Nodup) (ha : QE X E e te ma) (hi : X.N[i]? = some x := by rfl) (hx : Loc X.env.scope x := by first | exact Or.inl rfl | exact Or.inr rfl) (hs : swapsWith e (some (.Name x pos')) pos.line X.env = pure false := by rfl) (hf : X.fn x = true ∨ X.env.scope.names.lookup x = some .local := by first | exact .inl rfl | exact .inr rfl | assumption) :
    QS X E (.Assign [.Name x pos'] e pos) (tAsg te (gName i)) (mSet i ma) := ⟨ps_set hN hi hx ha.pe hs hf, ss_set ha.se⟩
theorem qs_tgt (hg : QG X tg g t ws) (ha : QE X E e te ma) (hs : swapsWithSole [tg] e pos.line X.env = pure false := by rfl) (hw : swappedStores [tg] e X.env = pure none := by rfl)
    (h1 : (assignEach [tg] X.env).map (·.2) = [assign tg X.env] := by rfl) : QS X E (.Assign [tg] e pos) (tAsg te g) (mTgt t ma) := ⟨ps_asg ha.pe hg.pg hs hw h1, ss_tgt hg.sg ha.se⟩
theorem qs_par (i j : Nat) {x y : Str} {px py pt : Pos} {kt k2 pt2} (hc : X.calm = true) (hN : X.N.Nodup) (ha : QA X E [a, b] tA al) (hi : X.N[i]? = some x := by rfl) (hj : X.N[j]? = some y := by rfl) (hij : i ≠ j := by decide) (hx : X.env.scope.names.lookup x = some .local := by rfl) (hy : X.env.scope.names.lookup y = some .local := by rfl)
    (hw : swappedStores [.Tuple [.Name x px, .Name y py] kt pt] (.Tuple [a, b] k2 pt2) X.env = pure (some [x, y]) := by rfl) (hs : swapsWithSole [.Tuple [.Name x px, .Name y py] kt pt] (.Tuple [a, b] k2 pt2) pos.line X.env = pure false := by rfl) :
    QS X E (.Assign [.Tuple [.Name x px, .Name y py] kt pt] (.Tuple [a, b] k2 pt2) pos) (tPar i j tA) (mPar i j al) := ⟨ps_par hc hN hi hj hij hx hy ha.pa hw hs, ss_par ha.sa⟩
theorem qs_setI {o i v : Expr} {to ti tv : TE} {mo mi mv : Sl → Mo Da} {pos' : Pos} (hv : QE X E v tv mv) (ho : QE X E o to mo) (hi : QE X E i ti mi) (ha : ∀ v, assign (.Subscript o i pos') X.env v = (do
      let ov ← holding [v] (eval o X.env)
      let iv ← holding [v, ov] (eval i X.env)
      standAt pos'
      holding [v, ov, iv] (setItem ov iv v)
      release [v, ov, iv] []) := by intro _; rfl) (hs : swapsWithSole [.Subscript o i pos'] v pos.line X.env = pure false := by rfl) (hw : swappedStores [.Subscript o i pos'] v X.env = pure none := by rfl)
    (h1 : (assignEach [.Subscript o i pos'] X.env).map (·.2) = [assign (.Subscript o i pos') X.env] := by rfl) : QS X E (.Assign [.Subscript o i pos'] v pos) (tAsg tv (gSub to ti rSetL)) (mSetI mv mo mi) :=
  ⟨ps_asg hv.pe (pg_sub ho.pe hi.pe set_list ha) hs hw h1, ss_setI hv.se ho.se hi.se⟩
theorem qs_ret (h : QE X E e te ma) : QS X E (.Return (some e) pos) (tRet te) (mRet ma) := ⟨ps_ret h.pe, ss_ret h.se⟩
theorem qs_retN : QS X E (.Return none pos) tRetN mRetN := ⟨ps_retN, ss_retN⟩
theorem qs_expr (h : QE X E e te ma) (hs : swapsWith e none pos.line X.env = pure false := by rfl) : QS X E (.Expr e pos) (tDrop te) (mExpr ma) := ⟨ps_expr h.pe hs, ss_expr h.se⟩
theorem qs_if (ht : QT X E c tt mp) (h1 : QB X E s1 ts m) (h2 : QB X E s2 tu n) : QS X E (.If c s1 s2 pos) (tIfS tt ts tu) (mIf mp m n) := ⟨ps_if ht.pt h1.ps h2.ps, ss_if ht.st h1.ss h2.ss⟩
theorem qs_aug (i : Nat) {x : Str} {op : Operator} {f : Int → Int → Int} {pos' : Pos} (hN : X.N.Nodup) (ho : PIp X op (ipI f)) (ha : QE X E e te ma) (hi : X.N[i]? = some x := by rfl) (hx : Loc X.env.scope x := by first | exact Or.inl rfl | exact Or.inr rfl) (hf : X.fn x = true ∨ X.env.scope.names.lookup x = some .local := by first | exact .inl rfl | exact .inr rfl | assumption) :
    QS X E (.AugAssign (.Name x pos') op e pos) (tAug i te (ipI f)) (mAug i f ma) := ⟨ps_aug hN hi hx ha.pe ho hf, ss_aug ha.se⟩
theorem qs_for (hp : PassesOwn (model X.prog X.w) X.A X.env X.xe) (hc : X.calm = true) (hi : QI X E tg iter wi ms) (hg : QG X tg g t ws) (hb : QB X E ss ts m) (hs : ∀ x, foldedSetIterable iter X.env x = pure x := by intro _; rfl) : QS X E (.For tg iter ss [] pos) (tFor wi g ts) (mFor ms t m) :=
  ⟨ps_for hp hc hi.pi hg.pg hb.ps hs, ss_for hi.si hg.sg hb.ss⟩
theorem qs_while (fuel : Nat) (hp : PassesOwn (model X.prog X.w) X.A X.env X.xe) (ht : QT X E c tt mp) (hb : QB X E ss ts m) : QS X E (.While c ss [] pos) (tWhile tt ts) (whileF mp m fuel) := ⟨ps_while hp ht.pt hb.ps, ss_while ht.st hb.ss⟩
/-- y = [..]: a comprehension stored at once -/
theorem qs_setLc (i : Nat) {y : Str} {py spos : Pos} {elt : Expr} {ifs : List Expr} {scope : Scope} {own : List (Str × Nat)} {vs : List Nat} (hc : X.calm = true) (hN : X.N.Nodup) (hi : QI X E tg iter wi ms) (ok : BlkOk X.N X.env.scope scope own)
    (hg : ∀ (s : Shared) (H : Hp) (C : Addr) (cl : List (Str × Addr)) (fp : List Addr), QG (X.blk s H scope (PySem.compEnvC scope cl C X.env) fp) tg g t ws)
    (ht : ∀ (s : Shared) (H : Hp) (C : Addr) (cl : List (Str × Addr)) (fp : List Addr), QTs (X.blk s H scope (PySem.compEnvC scope cl C X.env) fp) (fun _ => E0) ifs tt mp)
    (he : ∀ (s : Shared) (H : Hp) (C : Addr) (cl : List (Str × Addr)) (fp : List Addr), QE (X.blk s H scope (PySem.compEnvC scope cl C X.env) fp) (fun _ => E0) elt te ma)
    (mk : (Sl → Mo (List Da)) → Sl → Mo Da) (hmut : ∀ {te : TE} {al : Sl → Mo (List Da)}, SL X.K E te al → SE X.K E te (mk al))
    (hsw : swapsWith (.ListComp elt [⟨tg, iter, ifs, 0⟩] scope pos) (some (.Name y py)) spos.line X.env = pure true)
    (hy : X.N[i]? = some y := by rfl) (hyl : X.env.scope.names.lookup y = some .local := by rfl) (hv : own.map (·.2) = vs := by rfl) (hw : ∀ i ∈ ws, i ∈ vs := by decide) (hs : ∀ x, foldedSetIterable iter X.env x = pure x := by intro _; rfl) :
    QS X E (.Assign [.Name y py] (.ListComp elt [⟨tg, iter, ifs, 0⟩] scope pos) spos) (tAsg (tLc wi g tt te vs) (gName i)) (mSet i (mk (lComp ms t mp ma vs))) :=
  ⟨by subst hv; exact ps_setLc hc hN hy hyl hsw hi.pi ok (fun s H C cl fp => (hg s H C cl fp).pg) (fun s H C cl fp => (ht s H C cl fp).pt) (fun s H C cl fp => (he s H C cl fp).pe) hs,
    ss_set (hmut (sl_comp hi.si (hg X.s_0 (fun _ => none) 0 [] []).sg hw (ht X.s_0 (fun _ => none) 0 [] []).st (he X.s_0 (fun _ => none) 0 [] []).se))⟩
end
end CL
namespace CL
open PySem PySem.Spec L2
section
end
section
end
section
end
theorem repL_intsOf {K : PySem.W.Frag} {w : Wd} : ∀ ns : List Int, RepL K w (ns.map V.int) (ns.map Da.int)
  | [] => .nil
  | n :: r => .cons (.int n) (repL_intsOf r)
section
end
def popAtD (d k : Da) : Mo Da := fun st => match d, k with
  | .han n, .int i => (match st[n]? with
    | some (.lst xs) => (match ixN xs.length i with
      | some j => (match xs[j]? with
        | some x => if big i then .ok x (st.set n (.lst (xs.eraseIdx j))) else .bad
        | none => .bad)
      | none => .bad)
    | _ => .bad)
  | _, _ => .bad
def ePopAt (a b : Sl → Mo Da) : Sl → Mo Da := fun ro => bnd (a ro) fun d => bnd (isLs d) fun _ => bnd (b ro) fun x => popAtD d x
def setSlD (d : Da) (l h : Option Int) (x : Da) : Mo Unit := fun st => match d, l, h, x with
  | .han n, some a, some c, .lst ys => (match st[n]? with
    | some (.lst xs) => if 0 ≤ a ∧ a ≤ c ∧ c ≤ xs.length ∧ xs.length + ys.length ≤ szD then .ok () (st.set n (.lst (xs.take a.toNat ++ ys ++ xs.drop c.toNat))) else .bad
    | _ => .bad)
  | _, _, _, _ => .bad
def mSetSl (v o : Sl → Mo Da) (lo hi : Sl → Mo (Option Int)) : Sl → Mo Fl := fun ro => bnd (v ro) fun x => bnd (o ro) fun d => bnd (lo ro) fun l => bnd (hi ro) fun h => bnd (setSlD d l h x) fun _ => ret (.nx ro)
section
end
section
end
theorem room1 {k : Nat} {A : Around} (r : Room k A) : A.units + 65 < cLine := by have := r.un; omega
def indexD (d x : Da) : Mo Da := fun st => match pyD st d, pyD st x with
  | some (.list qs), some p => if (SeqAt.shaped (.list qs) && SeqAt.shaped p) = true then (match qs.findIdx? (fun z => PyData.eqv z p) with
    | some j => .ok (.int (j : Nat)) st
    | none => .bad) else .bad
  | _, _ => .bad
def eIndex (a b : Sl → Mo Da) : Sl → Mo Da := fun ro => bnd (a ro) fun d => bnd (isLs d) fun _ => bnd (b ro) fun x => indexD d x
section
variable {K : PySem.W.Frag} {E : St → XK} {ta tb : TE} {a b : Sl → Mo Da}
theorem s_index (ha : SE K E ta a) (hb : SE K E tb b) : SE K E (tBM K "list" (rIndexD K) ta (tCons tb tNil)) (eIndex a b) := fun w ro σ Q e h =>
  ha w ro σ _ e (h.bind.mono (fun d w1 x1 p1 m1 k v rv => by
    obtain ⟨ty, k2⟩ := isLs_run m1 rv k.bind
    refine ⟨ty, hb w1 ro σ _ (e.mono x1 m1) (k2.bind.mono (fun x w2 x2 p2 m2 k3 u ru => ?_) fun _ _ _ z => z)⟩
    have rv2 := rv.mono m1 x2
    unfold indexD at k3
    split at k3
    · rename_i qs p hq hp
      split at k3
      · rename_i hs
        obtain ⟨s1, s2⟩ := Bool.and_eq_true_iff.mp hs
        split at k3
        · rename_i j hj
          have d1 := dp_py m2 rv2 hq
          have d2 := dp_py m2 ru hp
          have hv : ∃ q, v = .ref q := by
            cases d1
            exact ⟨_, rfl⟩
          obtain ⟨q, rfl⟩ := hv
          obtain ⟨hjl, hj1, hj2⟩ := List.findIdx?_eq_some_iff_getElem.mp hj
          refine ⟨q, u, p, qs, j, qs[j], rfl, rfl, d1, d2, s1, s2, List.getElem?_eq_getElem hjl, hj1, fun m z' hm hz => ?_, k3.here m2 _ (.int _)⟩
          obtain ⟨hml, rfl⟩ := List.getElem?_eq_some_iff.mp hz
          have := hj2 m hm
          simpa using this
        · exact k3.elim
      · exact k3.elim
    · exact k3.elim) fun _ _ _ z => z)
end
section
variable {X : Cx} {E : St → XK} {pos : Pos}
theorem q_index {a b : Expr} {ta tb : TE} {ma mb : Sl → Mo Da} {K : PySem.W.Frag} {apos : Pos} (hu : X.A.units + 65 < cLine) (ha : QE X E a ta ma) (hb : QE X E b tb mb) (hbase : attributeBase a "index" X.env (eval a X.env) = eval a X.env := by rfl)
    (hfew : ((backTo pos (starEach (b :: []) X.env)).all (fun x => !x.1) && (backToKw pos (keywordEach [] X.env)).all (fun x => x.1.isSome) && decide ((b :: []).length + ([] : List Keyword).length + (if ([] : List Keyword).isEmpty then 0 else 1) < 30)) = true := by rfl) (hline : (apos.endLine == pos.line) = true := by rfl) (hs : starEach (b :: []) X.env = (false, eval b X.env) :: starEach [] X.env := by rfl) (hpl : (backTo pos (starEach [] X.env)).any (·.1) = false := by rfl) (hK : X.K = K := by rfl) :
    QE X E (.Call (.Attribute a "index" apos) [b] [] pos) (tBM K "list" (rIndexD K) ta (tCons tb tNil)) (eIndex ma mb) := by
  subst hK
  exact ⟨pe_bm PySem.F.plainAttrs_list PySem.F.slot_list_index PySem.F.type_list_index (mt_indexD hu) ha.pe (pa_cons hb.pe pa_nil hs) hbase hfew hline hs hpl, s_index ha.se hb.se⟩
end
end CL
namespace CL
open PySem PySem.Spec L2
def fldD (cs : List Str) (f : Str) (d : Da) : Mo Da := fun st => match d with
  | .han n => (match st[n]? with
    | some (.ins c fs) => if c ∈ cs then (match fs.lookup f with
      | some x => .ok x st
      | none => .bad) else .bad
    | _ => .bad)
  | _ => .bad
def eFld (cs : List Str) (f : Str) (a : Sl → Mo Da) : Sl → Mo Da := fun ro => bnd (a ro) (fldD cs f)
def setFD (cs : List Str) (f : Str) (d x : Da) : Mo Unit := fun st => match d with
  | .han n => (match st[n]? with
    | some (.ins c fs) => if c ∈ cs ∧ fs.length < 1000 then .ok () (st.set n (.ins c (putD f x fs))) else .bad
    | _ => .bad)
  | _ => .bad
def mFld (cs : List Str) (f : Str) (v o : Sl → Mo Da) : Sl → Mo Fl := fun ro => bnd (v ro) fun x => bnd (o ro) fun d => bnd (setFD cs f d x) fun _ => ret (.nx ro)
def mFldAug (c : Str) (f : Str) (g : Int → Int → Int) (o v : Sl → Mo Da) : Sl → Mo Fl := fun ro => bnd (o ro) fun d => bnd (fldD [c] f d) fun x => bnd (v ro) fun y => match x, y with
  | .int p, .int q => bnd (setFD [c] f d (.int (g p q))) fun _ => ret (.nx ro)
  | _, _ => nop
/-- what is known of classes -/
def ClsF (K : PySem.W.Frag) (cs : List Str) (f : Str) : Prop := ∀ c ∈ cs, Cls K (He.ga K c) ∧ NoAttr K (He.ga K c) f
theorem clsF_nil {K : PySem.W.Frag} {f : Str} : ClsF K [] f := fun c h => absurd h (by simp)
theorem clsF_cons {K : PySem.W.Frag} {f c : Str} {cs : List Str} (h1 : Cls K (He.ga K c)) (h2 : NoAttr K (He.ga K c) f) (h : ClsF K cs f) : ClsF K (c :: cs) f := fun d hd => by
  rcases List.mem_cons.mp hd with rfl | hd
  · exact ⟨h1, h2⟩
  · exact h d hd
def inCls (s : Stmt) (j : Nat) : Stmt := match s with
  | .ClassDef _ _ _ body _ _ _ _ _ _ _ => body.getD j (.Pass ⟨0, 0, 0, 0⟩)
  | _ => .Pass ⟨0, 0, 0, 0⟩
section
variable {K : PySem.W.Frag} {E : St → XK} {ta tv : TE} {a v : Sl → Mo Da} {cs : List Str} {f : Str}
theorem fld_run {w : Wd} {d : Da} {x : V} {ok : Da → Wd → Prop} {ex : Str → List Da → Wd → Prop} (hC : ClsF K cs f) (m : Em K w) (r : Rep K w x d) (h : Run K w (fldD cs f d w.st) ok ex) :
    ∃ (p C dx : Addr) (fs : List (Str × V)) (u : V) (y : Da), x = .ref p ∧ w.H p = some (.ins C dx fs) ∧ (∃ c ∈ cs, C = He.ga K c) ∧ Cls K C ∧ NoAttr K C f ∧ fs.lookup f = some u ∧ Rep K w u y ∧ ok y w := by
  unfold fldD at h
  split at h
  · rename_i n
    split at h
    · rename_i c fs hx
      split at h
      · rename_i hc
        split at h
        · rename_i y hy
          cases r with
          | @han p _ hp =>
            obtain ⟨dx, vfs, hH, rf⟩ := m.cell n p _ hp hx
            obtain ⟨u, hu, ru⟩ := rf.lookup hy
            exact ⟨p, _, dx, vfs, u, y, rfl, hH, ⟨c, hc, rfl⟩, (hC c hc).1, (hC c hc).2, hu, ru, h.here m⟩
        · exact h.elim
      · exact h.elim
    · exact h.elim
  · exact h.elim
theorem s_fld (hC : ClsF K cs f) (ha : SE K E ta a) : SE K E (tFld K ta f) (eFld cs f a) := fun w ro σ Q e h =>
  ha w ro σ _ e (h.bind.mono (fun d w1 x1 p1 m1 k v rv => by
    obtain ⟨p, C, dx, fs, u, y, rfl, hH, _, c, n, l, ru, q⟩ := fld_run hC m1 rv k
    exact ⟨p, C, dx, fs, u, rfl, hH, c, n, l, q u ru⟩) fun _ _ _ z => z)
theorem setF_run {w : Wd} {d y : Da} {x u : V} {ok : Unit → Wd → Prop} {ex : Str → List Da → Wd → Prop} (hC : ClsF K cs f) (m : Em K w) (r : Rep K w x d) (ru : Rep K w u y) (h : Run K w (setFD cs f d y w.st) ok ex) :
    ∃ (p C dx : Addr) (fs : List (Str × V)) (w' : Wd), x = .ref p ∧ w.H p = some (.ins C dx fs) ∧ (∃ c ∈ cs, C = He.ga K c) ∧ Cls K C ∧ NoAttr K C f ∧ fs.length < 1000 ∧ w'.H = upd w.H p (.ins C dx (putF f u fs)) ∧ Ext w w' ∧ w'.pv = w.pv ∧ Em K w' ∧ ok () w' := by
  unfold setFD at h
  split at h
  · rename_i n
    split at h
    · rename_i c fs hx
      split at h
      · rename_i hc
        cases r with
        | @han p _ hp =>
          obtain ⟨dx, vfs, hH, rf⟩ := m.cell n p _ hp hx
          have x2 : Ext w (w.put n p (.ins (He.ga K c) dx (putF f u vfs)) (.ins c (putD f y fs))) := Ext.put m hp hx (by intro z; cases z)
          have m2 : Em K (w.put n p (.ins (He.ga K c) dx (putF f u vfs)) (.ins c (putD f y fs))) := m.put hp hx (by intro z; cases z) ⟨dx, _, upd_same, (rf.put ru).mono m x2⟩
          exact ⟨p, _, dx, vfs, _, rfl, hH, ⟨c, hc.1, rfl⟩, (hC c hc.1).1, (hC c hc.1).2, by rw [rf.length]; exact hc.2, rfl, x2, rfl, m2, Run.at h x2 m2 rfl rfl⟩
      · exact h.elim
    · exact h.elim
  · exact h.elim
theorem ss_fld (hC : ClsF K cs f) (hv : SE K E tv v) (ha : SE K E ta a) : SS K E (sFld K ta tv f) (mFld cs f v a) := fun w ro σ D e h =>
  hv w ro σ _ e (h.bind.mono (fun y w1 x1 p1 m1 k u ru => ha w1 ro σ _ (e.mono x1 m1) (k.bind.mono (fun d w2 x2 p2 m2 k2 x rx => by
    obtain ⟨p, C, dx, fs, w3, rfl, hH, _, c, n, l, hH3, x3, p3, m3, k3⟩ := setF_run hC m2 rx (ru.mono m1 x2) k2.bind
    refine ⟨p, C, dx, fs, rfl, hH, c, n, l, ?_⟩
    rw [← hH3]
    exact k3.here m3 σ (e.mono (x1.trans (x2.trans x3)) m3)) fun _ _ _ z => z σ)) fun _ _ _ z => z σ)
theorem ss_fldaug {c0 : Str} {g : Int → Int → Int} {rd : V → V → Hp → VK → Prop} (hrd : ∀ i j H Q, Q (.int (g i j)) H → rd (.int i) (.int j) H Q) (hC : ClsF K [c0] f) (ha : SE K E ta a) (hv : SE K E tv v) : SS K E (sFldAug K ta tv rd f) (mFldAug c0 f g a v) := fun w ro σ D e h =>
  ha w ro σ _ e (h.bind.mono (fun d w1 x1 p1 m1 k x rx => by
    obtain ⟨p, C, dx, fs, u, y, rfl, hH, ⟨c1, hc1, eC1⟩, c, n, l, ru, k2⟩ := fld_run hC m1 rx k.bind
    refine ⟨p, C, dx, fs, u, rfl, hH, c, n, l, hv w1 ro σ _ (e.mono x1 m1) (k2.bind.mono (fun z w2 x2 p2 m2 k3 t rt => ?_) fun _ _ _ z => z σ)⟩
    split at k3
    · rename_i i j
      have ru2 := ru.mono m1 x2
      cases ru2
      cases rt
      refine hrd _ _ _ _ ?_
      obtain ⟨p', C', dx', fs', w3, ep, hH', ⟨c2, hc2, eC2⟩, c', n', l', hH3, x3, p3, m3, k4⟩ := setF_run hC m2 (rx.mono m1 x2) (.int _) k3.bind
      cases ep
      rw [List.mem_singleton] at hc1 hc2
      subst hc1 hc2 eC1 eC2
      refine ⟨dx', fs', hH', l', ?_⟩
      rw [← hH3]
      exact k4.here m3 σ (e.mono (x1.trans (x2.trans x3)) m3)
    · exact k3.elim) fun _ _ _ z => z σ)
end
def isIns (c m : Str) (d : Da) : Mo Unit := fun st => match d with
  | .han n => (match st[n]? with
    | some (.ins c' fs) => if c' = c ∧ fs.lookup m = none then .ok () st else .bad
    | _ => .bad)
  | _ => .bad
def eMeth (c m : Str) (f : List Da → Mo Da) (a : Sl → Mo Da) (al : Sl → Mo (List Da)) : Sl → Mo Da := fun ro => bnd (a ro) fun d => bnd (isIns c m d) fun _ => bnd (al ro) fun ds => f (d :: ds)
def newI (c : Str) : Mo Unit := fun st => .ok () (st ++ [.ins c []])
def isNon : Da → Mo Unit
  | .non => ret ()
  | _ => nop
def makeD (c : Str) (f : List Da → Mo Da) (ds : List Da) : Mo Da := fun st => bnd (newI c) (fun _ => bnd (f (.han st.length :: ds)) fun r => bnd (isNon r) fun _ => ret (.han st.length)) st
def eMake (c : Str) (f : List Da → Mo Da) (al : Sl → Mo (List Da)) : Sl → Mo Da := fun ro => bnd (al ro) (makeD c f)
section
variable {K : PySem.W.Frag} {E : XK} {ta : TE} {a : Sl → Mo Da} {tA : TA} {al : Sl → Mo (List Da)} {c m : Str} {n : Nat} {f : List Da → Mo Da} {dvs : List V} {dds : List Da}
theorem s_meth (hd : ∀ w, Em K w → RepL K w dvs dds) (ha : SE K (fun _ => E) ta a) (hA : SA K (fun _ => E) tA al) : SE K (fun _ => E) (tMeth (He.ga K c) m (SpOf K n f) dvs E ta tA) (eMeth c m (fun ds => ar n f (ds ++ dds)) a al) := fun w ro σ Q e h =>
  ha w ro σ _ e (h.bind.mono (fun d w1 x1 p1 m1 k x rx => by
    have k2 := k.bind
    unfold isIns at k2
    split at k2
    · rename_i i
      split at k2
      · rename_i c' fs hx
        split at k2
        · rename_i hc
          obtain ⟨rfl, hl⟩ := hc
          cases rx with
          | @han p _ hp =>
            obtain ⟨dx, vfs, hH, rf⟩ := m1.cell i p _ hp hx
            refine ⟨p, dx, vfs, rfl, hH, rf.lookup_none hl, hA w1 ro σ _ (e.mono x1 m1) ((k2.here m1).bind.mono (fun ds w2 x2 p2 m2 k3 vs rv => ?_) fun _ _ _ z => z)⟩
            exact spOf_of m2 (.cons (.han (x2.at hp)) (rv.append (hd w2 m2))) k3
        · exact k2.elim
      · exact k2.elim
    · exact k2.elim) fun _ _ _ z => z)
theorem make_run {w : Wd} {vs : List V} {ds : List Da} {Q : VK} (m1 : Em K w) (rv : RepL K w vs ds) (h : Run K w (makeD c (fun ds => ar n f ds) ds w.st) (OkV K Q) (XP K E)) (x dx : Addr) (h1 : w.H x = none) (h2 : w.H dx = none) (h3 : dx ≠ x) :
    SpOf K n f (.ref x :: vs) (upd (upd w.H dx (.own x)) x (.ins (He.ga K c) dx [])) (fun v H2 => v = .non ∧ Q (.ref x) H2) E := by
  have m2 : Em K (w.new dx (.own x)) := m1.new h2
  have x2 : Ext w (w.new dx (.own x)) := Ext.new m1 h2
  have h1' : (w.new dx (.own x)).H x = none := by
    show upd w.H dx (.own x) x = none
    rw [upd_ne (Ne.symm h3)]
    exact h1
  have x3 : Ext (w.new dx (.own x)) ((w.new dx (.own x)).push x (.ins (He.ga K c) dx []) (.ins c [])) := Ext.push m2 h1'
  have m3 : Em K ((w.new dx (.own x)).push x (.ins (He.ga K c) dx []) (.ins c [])) := m2.push h1' ⟨dx, [], upd_same, .nil⟩
  have hat : ((w.new dx (.own x)).push x (.ins (He.ga K c) dx []) (.ins c [])).io[w.st.length]? = some x := push_at m2
  have h' : Run K ((w.new dx (.own x)).push x (.ins (He.ga K c) dx []) (.ins c [])) (bnd (ar n f (.han w.st.length :: ds)) (fun r => bnd (isNon r) fun _ => ret (.han w.st.length)) (w.st ++ [.ins c []])) (OkV K Q) (XP K E) := Run.ext h (x2.trans x3) rfl
  refine spOf_of (w := (w.new dx (.own x)).push x (.ins (He.ga K c) dx []) (.ins c [])) (ds := .han w.st.length :: ds) m3 (.cons (.han hat) (rv.mono m1 (x2.trans x3))) (Run.bind h' |>.mono (fun r w4 x4 p4 m4 k v rv4 => ?_) fun _ _ _ z => z)
  have k2 := k.bind
  cases r with
  | non =>
    cases rv4
    exact ⟨rfl, Run.here m4 (Run.here m4 k2) _ (.han (x4.at hat))⟩
  | bl b => exact k2.elim
  | int i => exact k2.elim
  | str s => exact k2.elim
  | tup xs => exact k2.elim
  | lst xs => exact k2.elim
  | fro xs => exact k2.elim
  | han i => exact k2.elim
theorem s_make (hd : ∀ w, Em K w → RepL K w dvs dds) (hA : SA K (fun _ => E) tA al) : SE K (fun _ => E) (tMake (He.ga K c) (SpOf K n f) dvs E tA) (eMake c (fun ds => ar n f ds) (fun ro => bnd (al ro) fun ds => ret (ds ++ dds))) := fun w ro σ Q e h => by
  unfold eMake at h
  rw [bnd_assoc] at h
  exact hA w ro σ _ e (h.bind.mono (fun ds w1 x1 p1 m1 k vs rv x dx h1 h2 h3 => make_run m1 (rv.append (hd w1 m1)) k x dx h1 h2 h3) fun _ _ _ z => z)
end
/-- a method, a class, that can be called -/
structure CalM (P : Program) (wd : World) (K : PySem.W.Frag) (mg : Str → Option Value) (base : Heap) (k : Nat) (c m : Str) (n : Nat) (f : List Da → Mo Da) (dvs : List V) : Prop where
  ex : ∃ (q : Addr) (fd : FuncData) (ps : List Str) (ds : List Value), Cls K (He.ga K c) ∧ Meth K (He.ga K c) m q ∧ Binds K fd ps ds ∧ Vals dvs ds ∧ FnOk P wd K mg base (L2.CX P wd) k q fd ps (SpOf K n f)
structure CalC (P : Program) (wd : World) (K : PySem.W.Frag) (mg : Str → Option Value) (base : Heap) (k : Nat) (c : Str) (n : Nat) (f : List Da → Mo Da) (dvs : List V) : Prop where
  ex : ∃ (q : Addr) (fd : FuncData) (ps : List Str) (ds : List Value), mg c = some (.ref (He.ga K c)) ∧ Mk K (He.ga K c) q ∧ Binds K fd ps ds ∧ Vals dvs ds ∧ FnOk P wd K mg base (L2.CX P wd) k q fd ps (SpOf K n f)
/-- .. with keywords ks behind n1 values and the instance -/
structure CalCK (P : Program) (wd : World) (K : PySem.W.Frag) (mg : Str → Option Value) (base : Heap) (k : Nat) (c : Str) (n1 : Nat) (ks : List Str) (n : Nat) (f : List Da → Mo Da) (gV : List V → List V → List V) (gD : List Da → List Da → List Da) : Prop where
  ex : ∃ (q : Addr) (fd : FuncData) (ps : List Str) (g : List Value → List Value → List Value), mg c = some (.ref (He.ga K c)) ∧ Mk K (He.ga K c) q ∧ KBn K fd ps (n1 + 1) ks g gV ∧ FnOk P wd K mg base (L2.CX P wd) k q fd ps (SpOf K n f)
  rep : ∀ (w : Wd) (vs zs : List V) (ds es : List Da), Em K w → RepL K w vs ds → RepL K w zs es → vs.length = n1 + 1 → zs.length = ks.length → RepL K w (gV vs zs) (gD ds es)
theorem passes_of' {X : Cx} {E : XK} (hx : ∀ σ, PassesAt (L2.CX X.prog X.w) X σ E) : Passes (L2.CX X.prog X.w) X E := fun pins σ H s e s' I c => hx σ pins H s e s' I c
structure QK (X : Cx) (E : St → XK) (kws : List Keyword) (ta : TA) (m : Sl → Mo (List Da)) : Prop where
  pk : PK X kws ta
  sa : SA X.K E ta m
/-- two lists, one behind another, then a new instance -/
def eMakeK (c : Str) (f : List Da → Mo Da) (n1 m : Nat) (gD : List Da → List Da → List Da) (al kl : Sl → Mo (List Da)) : Sl → Mo Da := fun ro => bnd (al ro) fun ds => bnd (kl ro) fun es st => if ds.length = n1 ∧ es.length = m then bnd (newI c) (fun _ => bnd (f (gD (.han st.length :: ds) es)) fun r => bnd (isNon r) fun _ => ret (.han st.length)) st else .bad
section
variable {X : Cx} {E : XK} {o v e : Expr} {es : List Expr} {to tv te : TE} {mo mv me : Sl → Mo Da} {tA tK : TA} {al kl : Sl → Mo (List Da)} {cs : List Str} {f m c : Str} {pos pos' apos : Pos} {E' : St → XK}
theorem q_fld {K : PySem.W.Frag} (hC : ClsF K cs f) (he : QE X E' o to mo) (hb : attributeBase o f X.env (eval o X.env) = eval o X.env := by rfl) (hK : X.K = K := by rfl) : QE X E' (.Attribute o f pos) (tFld K to f) (eFld cs f mo) := by
  subst hK
  exact ⟨pe_fld he.pe hb, s_fld hC he.se⟩
theorem qs_fld {K : PySem.W.Frag} (hC : ClsF K cs f) (hv : QE X E' v tv mv) (ho : QE X E' o to mo) (hs : swapsWith v (some (.Attribute o f pos')) pos.line X.env = pure false := by rfl) (hK : X.K = K := by rfl) : QS X E' (.Assign [.Attribute o f pos'] v pos) (sFld K to tv f) (mFld cs f mv mo) := by
  subst hK
  exact ⟨ps_fld ho.pe hv.pe hs, ss_fld hC hv.se ho.se⟩
theorem qs_fldadd {K : PySem.W.Frag} (hC : ClsF K [c] f) (ho : QE X E' o to mo) (hv : QE X E' v tv mv) (hK : X.K = K := by rfl) : QS X E' (.AugAssign (.Attribute o f pos') .Add v pos) (sFldAug K to tv L2.rAdd f) (mFldAug c f (fun i j => i + j) mo mv) := by
  subst hK
  exact ⟨ps_fldaug ho.pe hv.pe in_add, ss_fldaug (fun i j H Q h => ⟨i, j, rfl, rfl, h⟩) hC ho.se hv.se⟩
theorem q_meth {P : Program} {wd : World} {K : PySem.W.Frag} {mg : Str → Option Value} {base : Heap} {k n : Nat} {dvs : List V} {dds : List Da} {fm : List Da → Mo Da} {pl : Sem Bool} (F : CalM P wd K mg base k c m n fm dvs) (hr : Room k X.A) (hx : ∀ σ, PassesAt (L2.CX X.prog X.w) X σ E)
    (ho : QE X (fun _ => E) o to mo) (ha : QA X (fun _ => E) (e :: es) tA al) (hP : X.prog = P := by rfl) (hw : X.w = wd := by rfl) (hK : X.K = K := by rfl) (hmg : X.mg = mg := by rfl) (hbase : X.base = base := by rfl) (hdd : ∀ w, Em K w → RepL K w dvs dds := by intro w m; first | exact .nil | exact .cons (.int _) .nil)
    (hst : starEach (e :: es) X.env = (false, eval e X.env) :: starEach es X.env := by rfl) (hpl : (backTo pos (starEach es X.env)).any (·.1) = false := by rfl)
    (ht : eval (.Call (.Attribute o m apos) (e :: es) [] pos) X.env = (do
      let ov ← eval o X.env
      standAt apos.atName
      let (f, first) ← holding [ov] (getMethod ov m pl)
      callWith pos f first (backTo pos (starEach (e :: es) X.env)) (backToKw pos (keywordEach [] X.env))) := by rfl) :
    QE X (fun _ => E) (.Call (.Attribute o m apos) (e :: es) [] pos) (tMeth (He.ga K c) m (SpOf K n fm) dvs E to tA) (eMeth c m (fun ds => ar n fm (ds ++ dds)) mo al) := by
  subst hP hw hK hmg hbase
  obtain ⟨q, fd, ps, ds, hc, hm, hb, hd, F⟩ := F.ex
  exact ⟨pe_meth ho.pe hc hm F hr hb hd (passes_of' hx) ha.pa hst hpl ht, s_meth hdd ho.se ha.sa⟩
theorem q_meth0 {P : Program} {wd : World} {K : PySem.W.Frag} {mg : Str → Option Value} {base : Heap} {k n : Nat} {dvs : List V} {dds : List Da} {fm : List Da → Mo Da} {pl : Sem Bool} (F : CalM P wd K mg base k c m n fm dvs) (hr : Room k X.A) (hx : ∀ σ, PassesAt (L2.CX X.prog X.w) X σ E)
    (ho : QE X (fun _ => E) o to mo) (hP : X.prog = P := by rfl) (hw : X.w = wd := by rfl) (hK : X.K = K := by rfl) (hmg : X.mg = mg := by rfl) (hbase : X.base = base := by rfl) (hdd : ∀ w, Em K w → RepL K w dvs dds := by intro w m; first | exact .nil | exact .cons (.int _) .nil)
    (ht : eval (.Call (.Attribute o m apos) [] [] pos) X.env = (do
      let ov ← eval o X.env
      standAt apos.atName
      let (f, first) ← holding [ov] (getMethod ov m pl)
      callWith pos f first (backTo pos (starEach [] X.env)) (backToKw pos (keywordEach [] X.env))) := by rfl) :
    QE X (fun _ => E) (.Call (.Attribute o m apos) [] [] pos) (tMeth (He.ga K c) m (SpOf K n fm) dvs E to tNil) (eMeth c m (fun ds => ar n fm (ds ++ dds)) mo aNil) := by
  subst hP hw hK hmg hbase
  obtain ⟨q, fd, ps, ds, hc, hm, hb, hd, F⟩ := F.ex
  exact ⟨pe_meth0 ho.pe hc hm F hr hb hd (passes_of' hx) ht, s_meth hdd ho.se s_nil⟩
theorem q_make {P : Program} {wd : World} {K : PySem.W.Frag} {mg : Str → Option Value} {base : Heap} {k n : Nat} {dvs : List V} {dds : List Da} {fm : List Da → Mo Da} {p : Pos} (F : CalC P wd K mg base k c n fm dvs) (hr : Room (k + 1) X.A) (hx : ∀ σ, PassesAt (L2.CX X.prog X.w) X σ E)
    (ha : QA X (fun _ => E) (e :: es) tA al) (hP : X.prog = P := by rfl) (hw : X.w = wd := by rfl) (hK : X.K = K := by rfl) (hmg : X.mg = mg := by rfl) (hbase : X.base = base := by rfl) (hdd : ∀ w, Em K w → RepL K w dvs dds := by intro w m; first | exact .nil | exact .cons (.int _) .nil) (hg : Gl X c := by rfl) (hdb : (c == ("__debug__" : Str)) = false := by decide)
    (he : starEach (e :: es) X.env = (false, eval e X.env) :: starEach es X.env := by rfl) (hpl : (backTo pos (starEach es X.env)).any (·.1) = false := by rfl) :
    QE X (fun _ => E) (.Call (.Name c p) (e :: es) [] pos) (tMake (He.ga K c) (SpOf K n fm) dvs E tA) (eMake c (fun ds => ar n fm ds) (fun ro => bnd (al ro) fun ds => ret (ds ++ dds))) := by
  subst hP hw hK hmg hbase
  obtain ⟨q, fd, ps, ds, hm, M, hb, hd, F⟩ := F.ex
  exact ⟨pe_make M F hr hg hm hb hd (passes_of' hx) ha.pa hdb he hpl, s_make hdd ha.sa⟩
theorem qk_nil : QK X E' [] tNil aNil := ⟨pk_nil, s_nil⟩
theorem qk_cons {kws : List Keyword} {nm : Option Str} {kpos : Pos} (h : QE X E' e te me) (hr : QK X E' kws tA al) : QK X E' (⟨nm, e, kpos⟩ :: kws) (tCons te tA) (aCons me al) := ⟨pk_cons h.pe hr.pk, s_cons h.se hr.sa⟩
theorem makeK_run {K : PySem.W.Frag} {n : Nat} {fm : List Da → Mo Da} {w : Wd} {vs : List V} {ds : List Da} {Q : VK} {x dx : Addr} (m1 : Em K w) (h1 : w.H x = none) (h2 : w.H dx = none) (h3 : dx ≠ x)
    (hrep : ∀ w', Ext w w' → Em K w' → Rep K w' (.ref x) (.han w.st.length) → RepL K w' vs ds) (h : Run K w (bnd (newI c) (fun _ => bnd (ar n fm ds) fun r => bnd (isNon r) fun _ => ret (.han w.st.length)) w.st) (OkV K Q) (XP K E)) :
    SpOf K n fm vs (upd (upd w.H dx (.own x)) x (.ins (He.ga K c) dx [])) (fun v H2 => v = .non ∧ Q (.ref x) H2) E := by
  have m2 : Em K (w.new dx (.own x)) := m1.new h2
  have x2 : Ext w (w.new dx (.own x)) := Ext.new m1 h2
  have h1' : (w.new dx (.own x)).H x = none := by
    show upd w.H dx (.own x) x = none
    rw [upd_ne (Ne.symm h3)]
    exact h1
  have x3 : Ext (w.new dx (.own x)) ((w.new dx (.own x)).push x (.ins (He.ga K c) dx []) (.ins c [])) := Ext.push m2 h1'
  have m3 : Em K ((w.new dx (.own x)).push x (.ins (He.ga K c) dx []) (.ins c [])) := m2.push h1' ⟨dx, [], upd_same, .nil⟩
  have hat : ((w.new dx (.own x)).push x (.ins (He.ga K c) dx []) (.ins c [])).io[w.st.length]? = some x := push_at m2
  have h' : Run K ((w.new dx (.own x)).push x (.ins (He.ga K c) dx []) (.ins c [])) (bnd (ar n fm ds) (fun r => bnd (isNon r) fun _ => ret (.han w.st.length)) (w.st ++ [.ins c []])) (OkV K Q) (XP K E) := Run.ext h (x2.trans x3) rfl
  refine spOf_of (w := (w.new dx (.own x)).push x (.ins (He.ga K c) dx []) (.ins c [])) (ds := ds) m3 (hrep _ (x2.trans x3) m3 (.han hat)) (Run.bind h' |>.mono (fun r w4 x4 p4 m4 k v rv4 => ?_) fun _ _ _ z => z)
  have k2 := k.bind
  cases r with
  | non =>
    cases rv4
    exact ⟨rfl, Run.here m4 (Run.here m4 k2) _ (.han (x4.at hat))⟩
  | bl b => exact k2.elim
  | int i => exact k2.elim
  | str s => exact k2.elim
  | tup xs => exact k2.elim
  | lst xs => exact k2.elim
  | fro xs => exact k2.elim
  | han i => exact k2.elim
theorem q_makeK {P : Program} {wd : World} {K : PySem.W.Frag} {mg : Str → Option Value} {base : Heap} {k n n1 : Nat} {ks : List Str} {gV : List V → List V → List V} {gD : List Da → List Da → List Da} {fm : List Da → Mo Da} {p : Pos} {kws : List Keyword} (F : CalCK P wd K mg base k c n1 ks n fm gV gD) (hr : Room (k + 1) X.A) (hx : ∀ σ, PassesAt (L2.CX X.prog X.w) X σ E)
    (ha : QA X (fun _ => E) (e :: es) tA al) (hkw : QK X (fun _ => E) kws tK kl) (hP : X.prog = P := by rfl) (hw : X.w = wd := by rfl) (hK : X.K = K := by rfl) (hmg : X.mg = mg := by rfl) (hbase : X.base = base := by rfl) (hg : Gl X c := by rfl) (hdb : (c == ("__debug__" : Str)) = false := by decide)
    (hall : (backToKw pos (keywordEach kws X.env)).all (·.1.isSome) = true := by rfl) (hks : (backToKw pos (keywordEach kws X.env)).filterMap (·.1) = ks := by rfl)
    (he : starEach (e :: es) X.env = (false, eval e X.env) :: starEach es X.env := by rfl) (hpl : ((backTo pos (starEach (e :: es) X.env)).any (·.1) || (backToKw pos (keywordEach kws X.env)).any (·.1.isNone)) = false := by rfl) :
    QE X (fun _ => E) (.Call (.Name c p) (e :: es) kws pos) (tMakeK (He.ga K c) n1 ks.length (SpOf K n fm) gV E tA tK) (eMakeK c (fun ds => ar n fm ds) n1 ks.length gD al kl) := by
  subst hP hw hK hmg hbase
  obtain ⟨⟨q, fd, ps, g, hm, M, hb, F⟩, hrep⟩ := F
  refine ⟨pe_makeK M F hr hg hm hb (passes_of' hx) ha.pa hkw.pk hall hks hdb he hpl, fun w ro σ Q en h => ?_⟩
  refine ha.sa w ro σ _ en (h.bind.mono (fun ds w1 x1 p1 m1 k1 vs rv => hkw.sa w1 ro σ _ (en.mono x1 m1) (k1.bind.mono (fun es w2 x2 p2 m2 k2 zs rz => ?_) fun _ _ _ z => z)) fun _ _ _ z => z)
  dsimp only at k2
  split at k2
  · rename_i hl
    refine ⟨rv.length.trans hl.1, rz.length.trans hl.2, fun x dx h1 h2 h3 => ?_⟩
    refine makeK_run m2 h1 h2 h3 (fun w' x' m' rx => ?_) k2
    exact hrep w' _ _ _ _ m' (.cons rx (rv.mono m1 (x2.trans x'))) (rz.mono m2 x') (by rw [List.length_cons, rv.length, hl.1]) (rz.length.trans hl.2)
  · exact k2.elim
end
end CL
namespace CL
open PySem PySem.Spec L2
def rngC (lo c : Int) (n : Nat) : List Da := (List.range n).map fun (i : Nat) => Da.int (lo + (i : Int) * c)
def rgN (i j c : Int) : Nat := (Builtin.Range.rangeSize i j c : Int).toNat
def rgOk (i j c : Int) : Prop := c ≠ 0 ∧ c.natAbs < 1073741824 ∧ Builtin.Range.small i j c = true ∧ Builtin.Range.rangeSize i j c = rgN i j c
instance (i j c : Int) : Decidable (rgOk i j c) := by unfold rgOk; infer_instance
def srcR3 : List Da → Mo Src
  | [.int i, .int j, .int c] => if rgOk i j c then ret ⟨rngC i c (rgN i j c), none⟩ else nop
  | _ => nop
def iR3 (a : Sl → Mo (List Da)) : Sl → Mo Src := fun ro => bnd (a ro) srcR3
def maxL : List Int → Int
  | [] => 0
  | [x] => x
  | x :: y :: r => max x (maxL (y :: r))
theorem maxL_is : ∀ {ns : List Int}, ns ≠ [] → maxL ns ∈ ns ∧ ∀ y ∈ ns, y ≤ maxL ns
  | [x], _ => by simp [maxL]
  | x :: y :: r, _ => by
    obtain ⟨h1, h2⟩ := maxL_is (ns := y :: r) (by simp)
    unfold maxL
    refine ⟨?_, fun z hz => ?_⟩
    · rcases Int.le_total x (maxL (y :: r)) with h | h
      · rw [Int.max_eq_right h]; exact List.mem_cons_of_mem _ h1
      · rw [Int.max_eq_left h]; exact List.mem_cons_self ..
    · rcases List.mem_cons.mp hz with rfl | hz
      · omega
      · have := h2 z hz; omega
def lsI (g : List Int → Option Int) (d : Da) : Mo Da := fun st => match lsOf st d with
  | some xs => (match intsOf xs with
    | some ns => (match g ns with
      | some i => .ok (.int i) st
      | none => .bad)
    | none => .bad)
  | none => .bad
def max1 : Da → Mo Da := lsI fun ns => if ns = [] then none else some (maxL ns)
section
variable {K : PySem.W.Frag} {E : St → XK} {tA : TA} {al : Sl → Mo (List Da)} {w : Wd}
theorem rngC_get {lo c : Int} {n i : Nat} {x : Da} (h : (rngC lo c n)[i]? = some x) : i < n ∧ x = .int (lo + (i : Int) * c) := by
  unfold rngC at h
  rw [List.getElem?_map] at h
  by_cases hi : i < n
  · rw [List.getElem?_range hi] at h
    cases h
    exact ⟨hi, rfl⟩
  · rw [List.getElem?_eq_none (by simpa using hi)] at h
    cases h
theorem it_rngC {lo c : Int} {n : Nat} : ItOk K w (Itc lo c n) ⟨rngC lo c n, none⟩ := fun w' x m k => by
  refine ⟨fun i d hd => ?_, ?_⟩
  · obtain ⟨hi, rfl⟩ := rngC_get hd
    exact ⟨hi, fun v H' hy => ⟨w', hy.1.symm, rfl, rfl, Ext.refl _, m, by rw [hy.2]; exact .int _⟩⟩
  · show n ≤ (rngC lo c n).length
    unfold rngC
    simp
theorem si_r3 (ha : SA K E tA al) : SI K E (iRng3 tA) (iR3 al) := fun w ro σ R e h =>
  ha w ro σ _ e (h.bind.mono (fun ds w1 x1 p1 m1 k vs rv => by
    unfold srcR3 at k
    split at k
    · rename_i i j c
      split at k
      · rename_i hb
        cases rv with
        | cons r1 r2 =>
          cases r2 with
          | cons r2 r3 =>
            cases r3 with
            | cons r3 r4 =>
              cases r4
              cases r1
              cases r2
              cases r3
              exact ⟨i, j, c, rgN i j c, rfl, hb, k.here m1 _ it_rngC⟩
      · exact k.elim
    · exact k.elim) fun _ _ _ z => z)
theorem sc_lsI {g : List Int → Option Int} {r : List V → Hp → VK → Prop} (hr : ∀ a ns i H Q, SqL K H a (ns.map V.int) → g ns = some i → Q (.int i) H → r [.ref a] H Q) : SC K r (one (lsI g)) := fun w xs ds Q ex m rr h => by
  obtain ⟨v, d, rfl, rfl, rv, h⟩ := one_rep rr h
  unfold lsI at h
  split at h
  · rename_i ys hy
    obtain ⟨a, vs, rfl, hH, rl⟩ := ls_rep m rv hy
    split at h
    · rename_i ns hn
      have e := ints_rep rl hn
      subst e
      split at h
      · rename_i i hi
        exact hr a ns i _ _ (SqL.of hH) hi (h.here m _ (.int _))
      · exact h.elim
    · exact h.elim
  · exact h.elim
theorem sc_max1 : SC K (rMax K) (one max1) := sc_lsI fun a ns i H Q hs hi q => by
  split at hi
  · cases hi
  · rename_i hne
    cases hi
    refine ⟨a, ns, rfl, hs, List.length_pos_iff.mpr hne, fun m h1 h2 => ?_⟩
    have := maxL_is hne
    rw [show m = maxL ns from Int.le_antisymm (this.2 m h1) (h2 _ this.1)]
    exact q
end
section
variable {X : Cx} {E : St → XK} {a b c tg : Expr} {tA : TA} {al : Sl → Mo (List Da)} {pos : Pos}
theorem qi_r3 {p : Pos} (hm : X.mg "range" = none) (h : QA X E [a, b, c] tA al) (hg : Gl X "range" := by rfl) (hs : starEach [a, b, c] X.env = (false, eval a X.env) :: starEach [b, c] X.env := by rfl) (hpl : (backTo pos (starEach [b, c] X.env)).any (·.1) = false := by rfl) : QI X E tg (.Call (.Name "range" p) [a, b, c] [] pos) (iRng3 tA) (iR3 al) := ⟨pi_range3 hg hm h.pa hs hpl, si_r3 h.sa⟩
end
end CL
namespace CL
open PySem PySem.Spec L2
def inU (neg : Bool) (d e : Da) : Mo Da := fun st => match pyD st d, pyD st e with
  | some p, some (.list qs) => if (SeqAt.shaped p && SeqAt.shaped (.list qs)) = true then .ok (.bl (if neg then !qs.any (fun z => PyData.eqv z p) else qs.any fun z => PyData.eqv z p)) st else .bad
  | some p, some (.tuple qs) => if (SeqAt.shaped p && SeqAt.shaped (.tuple qs)) = true then .ok (.bl (if neg then !qs.any (fun z => PyData.eqv z p) else qs.any fun z => PyData.eqv z p)) st else .bad
  | _, _ => .bad
def rInT (K : PySem.W.Frag) (neg : Bool) : R2 := fun x y H Q => ∃ d ds, Dp K H x d ∧ Dp K H y (.tuple ds) ∧ SeqAt.shaped d = true ∧ SeqAt.shaped (.tuple ds) = true ∧ Q (.bl (if neg then !ds.any (fun z => PyData.eqv z d) else ds.any fun z => PyData.eqv z d)) H
section
variable {X : Cx}
theorem op_inT (hu : X.A.units + 65 < cLine) : OpR X (compareOp .In) (rInT X.K false) := by
  intro pins s σ H x y v u Q I rx ry h
  obtain ⟨d, ds, hd, he, sd, se, q⟩ := h
  obtain ⟨as, r1⟩ := Dp.reads I d x v hd rx
  obtain ⟨bs, r2⟩ := Dp.reads I (.tuple ds) y u he ry
  exact SeqAt.in_tuple_reads r2 r1 (SeqAt.canLay_of_shaped se) (SeqAt.canLay_of_shaped sd) (PyProof.Rows.room_in_shaped sd hu) ⟨.bl _, H, I, rfl, q⟩
theorem op_notInT (hu : X.A.units + 65 < cLine) : OpR X (compareOp .NotIn) (rInT X.K true) := by
  intro pins s σ H x y v u Q I rx ry h
  obtain ⟨d, ds, hd, he, sd, se, q⟩ := h
  obtain ⟨as, r1⟩ := Dp.reads I d x v hd rx
  obtain ⟨bs, r2⟩ := Dp.reads I (.tuple ds) y u he ry
  exact SeqAt.notIn_tuple_reads r2 r1 (SeqAt.canLay_of_shaped se) (SeqAt.canLay_of_shaped sd) (PyProof.Rows.room_in_shaped sd hu) ⟨.bl _, H, I, rfl, q⟩
theorem s_inU {K : PySem.W.Frag} {neg : Bool} {r : R2} (hl : ∀ x y H Q d ds, Dp K H x d → Dp K H y (.list ds) → SeqAt.shaped d = true → SeqAt.shaped (.list ds) = true → Q (.bl (if neg then !ds.any (fun z => PyData.eqv z d) else ds.any fun z => PyData.eqv z d)) H → r x y H Q) : S2 K (rOr r (rInT K neg)) (inU neg) := fun w x y d e Q ex m rx ry h => by
  unfold inU at h
  split at h
  · rename_i p qs h1 h2
    split at h
    · rename_i hs
      obtain ⟨s1, s2⟩ := Bool.and_eq_true_iff.mp hs
      exact .inl (hl x y w.H Q p qs (dp_py m rx h1) (dp_py m ry h2) s1 s2 (h.here m _ (.bl _)))
    · exact h.elim
  · rename_i p qs h1 h2
    split at h
    · rename_i hs
      obtain ⟨s1, s2⟩ := Bool.and_eq_true_iff.mp hs
      exact .inr ⟨p, qs, dp_py m rx h1, dp_py m ry h2, s1, s2, h.here m _ (.bl _)⟩
    · exact h.elim
  · exact h.elim
theorem q_inU {K : PySem.W.Frag} (hu : X.A.units + 65 < cLine) (hK : X.K = K := by rfl) : QO X (compareOp .In) (rOr (rInD K) (rInT K false)) (inU false) := by
  subst hK
  exact ⟨OpR.or (op_inD hu) (op_inT hu), s_inU fun x y H Q d e h1 h2 h3 h4 h => ⟨d, e, h1, h2, h3, h4, h⟩⟩
theorem q_notInU {K : PySem.W.Frag} (hu : X.A.units + 65 < cLine) (hK : X.K = K := by rfl) : QO X (compareOp .NotIn) (rOr (rNotInD K) (rInT K true)) (inU true) := by
  subst hK
  exact ⟨OpR.or (op_notInD hu) (op_notInT hu), s_inU fun x y H Q d e h1 h2 h3 h4 h => ⟨d, e, h1, h2, h3, h4, h⟩⟩
end
mutual
def dB (K : PySem.W.Frag) : Value → Da → Bool
  | .none, .non => true
  | .bool b, .bl c => b == c
  | .int i _, .int j => decide (i = j)
  | .str x _, .str y => decide (x = y)
  | .ref a, .tup ds => (match K.lookup a with
    | some ⟨.type c, _, .seq its _, _⟩ => decide (c = "tuple") && (decide (its.size ≤ sizeLine) && dBL K its.toList ds)
    | _ => false)
  | _, _ => false
def dBL (K : PySem.W.Frag) : List Value → List Da → Bool
  | [], [] => true
  | v :: vs, d :: ds => dB K v d && dBL K vs ds
  | _, _ => false
end
mutual
theorem dB_ok {K : PySem.W.Frag} {w : Wd} : ∀ (d : Da) (v : Value), dB K v d = true → ∃ x, RelV x v ∧ Rep K w x d
  | .non, v, h => by cases v <;> first | exact ⟨.non, rfl, .non⟩ | (simp [dB] at h)
  | .bl c, v, h => by
    cases v <;> first | (simp [dB] at h; done) | skip
    rename_i b
    have e : b = c := by simpa [dB] using h
    subst e
    exact ⟨.bl b, rfl, .bl b⟩
  | .int c, v, h => by
    cases v <;> first | (simp [dB] at h; done) | skip
    rename_i b t
    have e : b = c := by simpa [dB] using h
    subst e
    exact ⟨.int b, ⟨t, rfl⟩, .int b⟩
  | .str c, v, h => by
    cases v <;> first | (simp [dB] at h; done) | skip
    rename_i b t
    have e : b = c := by simpa [dB] using h
    subst e
    exact ⟨.str b, ⟨t, rfl⟩, .str b⟩
  | .tup ds, v, h => by
    cases v <;> first | (simp [dB] at h; done) | skip
    rename_i a
    unfold dB at h
    cases q : K.lookup a with
    | none => rw [q] at h; cases h
    | some o =>
      obtain ⟨oc, od, dt, osl⟩ := o
      rw [q] at h
      cases oc with
      | type c =>
        cases dt with
        | seq its n =>
          obtain ⟨h1, h2⟩ := Bool.and_eq_true_iff.mp h
          obtain ⟨h3, h4⟩ := Bool.and_eq_true_iff.mp h2
          obtain ⟨xs, r1, r2⟩ := dBL_ok (w := w) ds its.toList h4
          refine ⟨.ref a, rfl, .tup (.inr ⟨_, its, n, q, ?_, rfl, of_decide_eq_true h3, r1⟩) r2⟩
          exact congrArg Value.type (of_decide_eq_true h1)
        | _ => cases h
      | _ => cases dt <;> cases h
  | .lst _, v, h => by cases v <;> simp [dB] at h
  | .fro _, v, h => by cases v <;> simp [dB] at h
  | .han _, v, h => by cases v <;> simp [dB] at h
theorem dBL_ok {K : PySem.W.Frag} {w : Wd} : ∀ (ds : List Da) (vs : List Value), dBL K vs ds = true → ∃ xs, Vals xs vs ∧ RepL K w xs ds
  | [], vs, h => by
    cases vs with
    | nil => exact ⟨[], .nil, .nil⟩
    | cons v vs => simp [dBL] at h
  | d :: ds, vs, h => by
    cases vs with
    | nil => simp [dBL] at h
    | cons v vs =>
      have h' : dB K v d = true ∧ dBL K vs ds = true := by simpa [dBL] using h
      obtain ⟨x, r1, r2⟩ := dB_ok (w := w) d v h'.1
      obtain ⟨xs, r3, r4⟩ := dBL_ok (w := w) ds vs h'.2
      exact ⟨x :: xs, .cons r1 r3, .cons r2 r4⟩
end
theorem dB_ref {K : PySem.W.Frag} {a : Addr} {d : Da} (h : dB K (.ref a) d = true) : ∀ w, Em K w → Rep K w (.ref a) d := fun w m => by
  obtain ⟨x, r1, r2⟩ := dB_ok (w := w) d (.ref a) h
  cases x <;> first | (cases r1; exact r2) | (obtain ⟨t, e⟩ := r1; cases e) | (cases r1)
def isTT (ts : List Tn) (d : Da) : Mo Da := fun st => match tyN st d with
  | some a => .ok (.bl (ts.any (isTn a))) st
  | none => .bad
theorem fn0 {K : PySem.W.Frag} {P : Program} {wd : World} {mg : Str → Option Value} {base : Heap} {x qual : Str} {params : Arguments} {body : List Stmt} {scope : Scope} {dvs : List V} {kws : List (Str × V)} {f : Addr} {fd : FuncData} {N ps : List Str} {k n : Nat}
    (F : FunD K x qual params body scope dvs kws f fd) (S : FnScope N ps scope) (hn : ps.length = n) : FnOk P wd K mg base (L2.CX P wd) (k + 1) f fd ps (SpOf K n fun _ => nop) := by
  subst hn
  refine F.ok S (fun vs H Q E h => ?_) (fun cdv A outer s H vs Q E hr h => ?_)
  · obtain ⟨w, ds, _, _, _, hl, _⟩ := h
    exact hl
  · obtain ⟨w, ds, rfl, em, r, hl, k⟩ := h
    exact k.elim
structure CalK (P : Program) (wd : World) (K : PySem.W.Frag) (mg : Str → Option Value) (base : Heap) (k : Nat) (x : Str) (n1 : Nat) (ks : List Str) (n : Nat) (f : List Da → Mo Da) (gV : List V → List V → List V) (gD : List Da → List Da → List Da) : Prop where
  ex : ∃ (q : Addr) (fd : FuncData) (ps : List Str) (g : List Value → List Value → List Value), mg x = some (.ref q) ∧ PySem.W.keepIn K (.ref q) = true ∧ KBn K fd ps n1 ks g gV ∧ FnOk P wd K mg base (L2.CX P wd) k q fd ps (SpOf K n f)
  rep : ∀ (w : Wd) (vs zs : List V) (ds es : List Da), Em K w → RepL K w vs ds → RepL K w zs es → vs.length = n1 → zs.length = ks.length → RepL K w (gV vs zs) (gD ds es)
def eCallK (f : List Da → Mo Da) (n1 m : Nat) (gD : List Da → List Da → List Da) (al kl : Sl → Mo (List Da)) : Sl → Mo Da := fun ro => bnd (al ro) fun ds => bnd (kl ro) fun es => if ds.length = n1 ∧ es.length = m then f (gD ds es) else nop
section
variable {X : Cx} {E : XK} {e : Expr} {es : List Expr} {tA tK : TA} {al kl : Sl → Mo (List Da)} {x : Str} {pos : Pos}
theorem q_callN {P : Program} {wd : World} {K : PySem.W.Frag} {mg : Str → Option Value} {base : Heap} {k n n1 : Nat} {ks : List Str} {gV : List V → List V → List V} {gD : List Da → List Da → List Da} {fm : List Da → Mo Da} {p : Pos} {kws : List Keyword} (F : CalK P wd K mg base k x n1 ks n fm gV gD) (hr : Room k X.A) (hx : ∀ σ, PassesAt (L2.CX X.prog X.w) X σ E)
    (ha : QA X (fun _ => E) (e :: es) tA al) (hkw : QK X (fun _ => E) kws tK kl) (hP : X.prog = P := by rfl) (hw : X.w = wd := by rfl) (hK : X.K = K := by rfl) (hmg : X.mg = mg := by rfl) (hbase : X.base = base := by rfl) (hg : Gl X x := by rfl) (hdb : (x == ("__debug__" : Str)) = false := by decide)
    (hall : (backToKw pos (keywordEach kws X.env)).all (·.1.isSome) = true := by rfl) (hks : (backToKw pos (keywordEach kws X.env)).filterMap (·.1) = ks := by rfl)
    (he : starEach (e :: es) X.env = (false, eval e X.env) :: starEach es X.env := by rfl) (hpl : ((backTo pos (starEach (e :: es) X.env)).any (·.1) || (backToKw pos (keywordEach kws X.env)).any (·.1.isNone)) = false := by rfl) :
    QE X (fun _ => E) (.Call (.Name x p) (e :: es) kws pos) (tCallN n1 ks.length (SpOf K n fm) gV E tA tK) (eCallK (fun ds => ar n fm ds) n1 ks.length gD al kl) := by
  subst hP hw hK hmg hbase
  obtain ⟨⟨q, fd, ps, g, hm, hk, hb, F⟩, hrep⟩ := F
  refine ⟨pe_callN F hr hg hm hk hb (passes_of' hx) ha.pa hkw.pk hall hks hdb he hpl, fun w ro σ Q en h => ?_⟩
  refine ha.sa w ro σ _ en (h.bind.mono (fun ds w1 x1 p1 m1 k1 vs rv => hkw.sa w1 ro σ _ (en.mono x1 m1) (k1.bind.mono (fun es w2 x2 p2 m2 k2 zs rz => ?_) fun _ _ _ z => z)) fun _ _ _ z => z)
  split at k2
  · rename_i hl
    exact ⟨rv.length.trans hl.1, rz.length.trans hl.2, spOf_of m2 (hrep w2 _ _ _ _ m2 (rv.mono m1 x2) rz (rv.length.trans hl.1) (rz.length.trans hl.2)) k2⟩
  · exact k2.elim
end
section
variable {X : Cx} {E : St → XK} {a : Expr} {ta : TE} {ma : Sl → Mo Da} {pos : Pos}
theorem kitAny2 {K : PySem.W.Frag} {a t u : Tn} (h1 : t ≠ .non) (h2 : t ≠ .dict) (h3 : u ≠ .non) (h4 : u ≠ .dict) : PySem.W.kitAny K (.type a.name) [.type t.name, .type u.name] = some ([t, u].any (isTn a)) := by
  refine kitAny_cons (b := isTn a t) (kit_ty (kit_tn a t h1 h2)) (fun e => kitAny_cons (b := isTn a u) (kit_ty (kit_tn a u h3 h4)) (fun e2 => ?_) fun e2 => ?_) fun e => ?_
  · simp only [List.any_cons, List.any_nil, e, e2]; rfl
  · simp only [List.any_cons, List.any_nil, e, e2]; rfl
  · simp only [List.any_cons, List.any_nil, e]; rfl
theorem q_isi2 {K : PySem.W.Frag} {p p3 p4 p5 : Pos} {S T : Str} {kk} (t u : Tn) (hm : X.mg "isinstance" = none) (hS : X.mg S = none) (hT : X.mg T = none) (ha : QE X E a ta ma) (hv : bootBuiltins S = some (.type t.name) := by decide +kernel) (hv2 : bootBuiltins T = some (.type u.name) := by decide +kernel) (h1 : t ≠ .non := by decide) (h2 : t ≠ .dict := by decide) (h3 : u ≠ .non := by decide) (h4 : u ≠ .dict := by decide) (hg : Gl X "isinstance" := by rfl) (hgS : Gl X S := by rfl) (hgT : Gl X T := by rfl) (hn : S ≠ "__name__" := by decide) (hd : (S == ("__debug__" : Str)) = false := by decide) (hn2 : T ≠ "__name__" := by decide) (hd2 : (T == ("__debug__" : Str)) = false := by decide)
    (hs : starEach (a :: [.Tuple [.Name S p3, .Name T p4] kk p5]) X.env = (false, eval a X.env) :: starEach [.Tuple [.Name S p3, .Name T p4] kk p5] X.env := by rfl) (hs2 : starEach (.Tuple [.Name S p3, .Name T p4] kk p5 :: []) X.env = (false, eval (.Tuple [.Name S p3, .Name T p4] kk p5) X.env) :: starEach [] X.env := by rfl)
    (hs3 : starEach (.Name S p3 :: [.Name T p4]) X.env = (false, eval (.Name S p3) X.env) :: starEach [.Name T p4] X.env := by rfl) (hs4 : starEach (.Name T p4 :: []) X.env = (false, eval (.Name T p4) X.env) :: starEach [] X.env := by rfl) (hpl : (backTo pos (starEach [.Tuple [.Name S p3, .Name T p4] kk p5] X.env)).any (·.1) = false := by rfl) (hK : X.K = K := by rfl) :
    QE X E (.Call (.Name "isinstance" p) [a, .Tuple [.Name S p3, .Name T p4] kk p5] [] pos) (tCB (rIsiT K) (tCons ta (tCons (tTup (tCons (tC (.ty t.name)) (tCons (tC (.ty u.name)) tNil))) tNil))) (e1 (isTT [t, u]) ma) := by
  subst hK
  refine ⟨pe_callB call_isiT hg hm (by decide +kernel) (pa_cons ha.pe (pa_cons (pe_tup (pa_cons (pe_bltn hgS hS hv rfl hn hd) (pa_cons (pe_bltn hgT hT hv2 rfl hn2 hd2) pa_nil hs4) hs3)) pa_nil hs2) hs) (by decide) (by decide) hs hpl, fun w ro σ Q e h => ?_⟩
  refine ha.se w ro σ _ e (h.bind.mono (fun d w1 x1 p1 m1 k v rv => ?_) fun _ _ _ z => z)
  refine ⟨show 2 ≤ sizeLine by decide, fun q hq => ?_⟩
  unfold isTT at k
  split at k
  · rename_i b hb
    refine ⟨v, q, _, .type b.name, [.type t.name, .type u.name], _, rfl, upd_same, .cons (.ty _) (.cons (.ty _) .nil), ?_, kitAny2 h1 h2 h3 h4, ?_⟩
    · exact ty_rep (w := w1.new q (.tup [.ty t.name, .ty u.name])) (m1.new hq) (rv.mono m1 (Ext.new m1 hq)) hb
    · exact Run.at (w' := w1.new q (.tup [.ty t.name, .ty u.name])) k (Ext.new m1 hq) (m1.new hq) rfl rfl _ (.bl _)
  · exact k.elim
end
/-- a keyword's default that is an object -/
def kwA (p : Str × Option Str) (x : Str) (K : PySem.W.Frag) : Addr := match K.lookup (He.fAd K p) with
  | some ⟨_, _, .func fd, _⟩ => (match fd.kwdefaults with
    | .ref D => (match PySem.W.nsIn K D x with
      | some (some (.ref a)) => a
      | _ => 0)
    | _ => 0)
  | _ => 0
structure CalMK (P : Program) (wd : World) (K : PySem.W.Frag) (mg : Str → Option Value) (base : Heap) (k : Nat) (c m : Str) (n1 : Nat) (ks : List Str) (n : Nat) (f : List Da → Mo Da) (gV : List V → List V → List V) (gD : List Da → List Da → List Da) : Prop where
  ex : ∃ (q : Addr) (fd : FuncData) (ps : List Str) (g : List Value → List Value → List Value), Cls K (He.ga K c) ∧ Meth K (He.ga K c) m q ∧ KBn K fd ps (n1 + 1) ks g gV ∧ FnOk P wd K mg base (L2.CX P wd) k q fd ps (SpOf K n f)
  rep : ∀ (w : Wd) (vs zs : List V) (ds es : List Da), Em K w → RepL K w vs ds → RepL K w zs es → vs.length = n1 + 1 → zs.length = ks.length → RepL K w (gV vs zs) (gD ds es)
def eMethK (c m : Str) (f : List Da → Mo Da) (n1 k : Nat) (gD : List Da → List Da → List Da) (a : Sl → Mo Da) (al kl : Sl → Mo (List Da)) : Sl → Mo Da := fun ro => bnd (a ro) fun d => bnd (isIns c m d) fun _ => bnd (al ro) fun ds => bnd (kl ro) fun es => if ds.length = n1 ∧ es.length = k then f (gD (d :: ds) es) else nop
def tMethK (C : Addr) (m : Str) (n k : Nat) (sp : Sp) (gV : List V → List V → List V) (E : XK) (to : TE) (t tk : TA) : TE := fun σ H Q => to σ H fun x H1 => ∃ a dx fs, x = .ref a ∧ H1 a = some (.ins C dx fs) ∧ fs.lookup m = none ∧ t σ H1 fun vs H2 => tk σ H2 fun zs H3 => vs.length = n ∧ zs.length = k ∧ sp (gV (.ref a :: vs) zs) H3 Q E
section
variable {X : Cx} {CX : CXT} {k n : Nat} {f C : Addr} {fd : FuncData} {ps ks : List Str} {sp : Sp} {E : XK} {m : Str} {apos pos : Pos} {o e : Expr} {es : List Expr} {kws : List Keyword} {ta : TE} {t tk : TA} {g : List Value → List Value → List Value} {gV : List V → List V → List V}
theorem pe_methN0 {pl : Sem Bool} (he : PE X o ta) (c : Cls X.K C) (hm : Meth X.K C m f) (F : FnOk X.prog X.w X.K X.mg X.base CX k f fd ps sp) (hr : Room k X.A) (hb : KBn X.K fd ps (0 + 1) ks g gV) (hx : Passes CX X E) (hkw : PK X kws tk)
    (hall : (backToKw pos (keywordEach kws X.env)).all (·.1.isSome) = true := by rfl) (hks : (backToKw pos (keywordEach kws X.env)).filterMap (·.1) = ks := by rfl)
    (hpl : ((backTo pos (starEach [] X.env)).any (·.1) || (backToKw pos (keywordEach kws X.env)).any (·.1.isNone)) = false := by rfl)
    (ht : eval (.Call (.Attribute o m apos) [] kws pos) X.env = (do
      let ov ← eval o X.env
      standAt apos.atName
      let (f, first) ← holding [ov] (getMethod ov m pl)
      callWith pos f first (backTo pos (starEach [] X.env)) (backToKw pos (keywordEach kws X.env))) := by rfl) :
    PE X (.Call (.Attribute o m apos) [] kws pos) (tMethK C m 0 ks.length sp gV E ta tNil tk) := by
  refine ⟨fun pins s σ H Q I h => ?_⟩
  refine PySem.W.methodCall_KW (pl := pl) (thn (he.run pins s σ H _ I h) fun u s1 ⟨x, H1, I1, rx, a, dx, fs, ex, ea, l, q⟩ => ?_) ht
  subst ex
  obtain rfl : u = Value.ref a := rx
  refine getmeth_ok I1 ea c hm l ?_
  refine PySem.W.callWith_KW0 (first := [.ref a]) (h₀ := X.base) I.ok.mod.kin hm.kp hall ?_ hpl
  refine thn (hkw.run pos pins s1 σ H1 _ I1 q) fun ws s3 ⟨zs, H3, I3, rz, l1, l2, q3⟩ => ⟨I3.kIn, ?_⟩
  rw [hks]
  exact run_fnN (us := [.ref a]) (vs := [.ref a]) F hr hb hx I3 (.cons rfl .nil) rz rfl l2 q3
end
section
variable {X : Cx} {E : XK} {o e : Expr} {es : List Expr} {to : TE} {mo : Sl → Mo Da} {tA tK : TA} {al kl : Sl → Mo (List Da)} {c m : Str} {pos apos : Pos} {kws : List Keyword}
theorem s_methK {K : PySem.W.Frag} {n n1 nk : Nat} {fm : List Da → Mo Da} {gV : List V → List V → List V} {gD : List Da → List Da → List Da} (hrep : ∀ (w : Wd) (vs zs : List V) (ds es : List Da), Em K w → RepL K w vs ds → RepL K w zs es → vs.length = n1 + 1 → zs.length = nk → RepL K w (gV vs zs) (gD ds es))
    (ho : SE K (fun _ => E) to mo) (ha : SA K (fun _ => E) tA al) (hk : SA K (fun _ => E) tK kl) : SE K (fun _ => E) (tMethK (He.ga K c) m n1 nk (SpOf K n fm) gV E to tA tK) (eMethK c m (fun ds => ar n fm ds) n1 nk gD mo al kl) := fun w ro σ Q en h => by
  refine ho w ro σ _ en (h.bind.mono (fun d w1 x1 p1 m1 k v rv => ?_) fun _ _ _ z => z)
  have k0 := k.bind
  unfold isIns at k0
  split at k0
  · rename_i i
    split at k0
    · rename_i c' fs hx
      split at k0
      · rename_i hl
        cases rv with
        | han hp =>
          obtain ⟨dx, vfs, hH, rf⟩ := m1.cell i _ _ hp hx
          obtain ⟨rfl, hl2⟩ := hl
          refine ⟨_, dx, vfs, rfl, hH, rf.lookup_none hl2, ?_⟩
          refine ha w1 ro σ _ (en.mono x1 m1) ((k0.here m1).bind.mono (fun ds w2 x2 p2 m2 k2 vs rvs => ?_) fun _ _ _ z => z)
          refine hk w2 ro σ _ (en.mono (x1.trans x2) m2) (k2.bind.mono (fun es w3 x3 p3 m3 k3 zs rz => ?_) fun _ _ _ z => z)
          split at k3
          · rename_i hll
            refine ⟨rvs.length.trans hll.1, rz.length.trans hll.2, spOf_of m3 (hrep w3 _ _ _ _ m3 (.cons (.han (x3.at (x2.at hp))) (rvs.mono m2 x3)) rz (by rw [List.length_cons, rvs.length, hll.1]) (rz.length.trans hll.2)) k3⟩
          · exact k3.elim
      · exact k0.elim
    · exact k0.elim
  · exact k0.elim
theorem q_methK0 {P : Program} {wd : World} {K : PySem.W.Frag} {mg : Str → Option Value} {base : Heap} {k n : Nat} {ks : List Str} {gV : List V → List V → List V} {gD : List Da → List Da → List Da} {fm : List Da → Mo Da} {pl : Sem Bool} (F : CalMK P wd K mg base k c m 0 ks n fm gV gD) (hr : Room k X.A) (hx : ∀ σ, PassesAt (L2.CX X.prog X.w) X σ E)
    (ho : QE X (fun _ => E) o to mo) (hkw : QK X (fun _ => E) kws tK kl) (hP : X.prog = P := by rfl) (hw : X.w = wd := by rfl) (hK : X.K = K := by rfl) (hmg : X.mg = mg := by rfl) (hbase : X.base = base := by rfl)
    (hall : (backToKw pos (keywordEach kws X.env)).all (·.1.isSome) = true := by rfl) (hks : (backToKw pos (keywordEach kws X.env)).filterMap (·.1) = ks := by rfl)
    (hpl : ((backTo pos (starEach [] X.env)).any (·.1) || (backToKw pos (keywordEach kws X.env)).any (·.1.isNone)) = false := by rfl)
    (ht : eval (.Call (.Attribute o m apos) [] kws pos) X.env = (do
      let ov ← eval o X.env
      standAt apos.atName
      let (f, first) ← holding [ov] (getMethod ov m pl)
      callWith pos f first (backTo pos (starEach [] X.env)) (backToKw pos (keywordEach kws X.env))) := by rfl) :
    QE X (fun _ => E) (.Call (.Attribute o m apos) [] kws pos) (tMethK (He.ga K c) m 0 ks.length (SpOf K n fm) gV E to tNil tK) (eMethK c m (fun ds => ar n fm ds) 0 ks.length gD mo aNil kl) := by
  subst hP hw hK hmg hbase
  obtain ⟨⟨q, fd, ps, g, hc, hm, hb, F⟩, hrep⟩ := F
  exact ⟨pe_methN0 ho.pe hc hm F hr hb (passes_of' hx) hkw.pk hall hks hpl ht, s_methK hrep ho.se s_nil hkw.sa⟩
end
section
variable {X : Cx} {E : St → XK} {e e2 : Expr} {tA : TA} {al : Sl → Mo (List Da)} {pos : Pos}
theorem q_len {K : PySem.W.Frag} {p : Pos} (hm : X.mg "len" = none) (ha : QA X E [e] tA al) (hg : Gl X "len" := by rfl) (he : starEach (e :: []) X.env = (false, eval e X.env) :: starEach [] X.env := by rfl) (hpl : (backTo pos (starEach [] X.env)).any (·.1) = false := by rfl) (hK : X.K = K := by rfl) : QE X E (.Call (.Name "len" p) [e] [] pos) (tCB (fun xs H Q => ∃ x n, xs = [x] ∧ LenV K x H n ∧ Q (.int n) H) tA) (eCall (one lenD) al) := by
  subst hK
  exact q_cb call_len sc_len hm ha (hg := hg) (he := he) (hpl := hpl)
theorem q_all {K : PySem.W.Frag} {p : Pos} (hc : X.calm = true) (hm : X.mg "all" = none) (ha : QA X E [e] tA al) (hg : Gl X "all" := by rfl) (he : starEach (e :: []) X.env = (false, eval e X.env) :: starEach [] X.env := by rfl) (hpl : (backTo pos (starEach [] X.env)).any (·.1) = false := by rfl) (hK : X.K = K := by rfl) : QE X E (.Call (.Name "all" p) [e] [] pos) (tCB (rAll K) tA) (eCall (one allD) al) := by
  subst hK
  exact q_cb (cr_all hc) sc_all hm ha (hg := hg) (he := he) (hpl := hpl)
theorem q_tupleOf {K : PySem.W.Frag} {p : Pos} (hm : X.mg "tuple" = none) (ha : QA X E [e] tA al) (hg : Gl X "tuple" := by rfl) (he : starEach (e :: []) X.env = (false, eval e X.env) :: starEach [] X.env := by rfl) (hpl : (backTo pos (starEach [] X.env)).any (·.1) = false := by rfl) (hK : X.K = K := by rfl) : QE X E (.Call (.Name "tuple" p) [e] [] pos) (tCB (fun xs H Q => ∃ p ys, xs = [.ref p] ∧ ((SqL K H p ys ∧ ∀ l, H l = none → Q (.ref l) (upd H l (.tup ys))) ∨ (SqT K H p ys ∧ Q (.ref p) H))) tA) (eCall (one tupleD) al) := by
  subst hK
  exact q_ct call_tuple_of sc_tuple hm ha (hg := hg) (he := he) (hpl := hpl)
theorem q_max1 {K : PySem.W.Frag} {p : Pos} (hc : X.calm = true) (hm : X.mg "max" = none) (ha : QA X E [e] tA al) (hg : Gl X "max" := by rfl) (he : starEach (e :: []) X.env = (false, eval e X.env) :: starEach [] X.env := by rfl) (hpl : (backTo pos (starEach [] X.env)).any (·.1) = false := by rfl) (hK : X.K = K := by rfl) : QE X E (.Call (.Name "max" p) [e] [] pos) (tCB (rMax K) tA) (eCall (one max1) al) := by
  subst hK
  exact q_cb (cr_max hc) sc_max1 hm ha (hg := hg) (he := he) (hpl := hpl)
theorem ql_listOf {K : PySem.W.Frag} {p : Pos} (hm : X.mg "list" = none) (ha : QA X E [e] tA al) (hg : Gl X "list" := by rfl) (he : starEach (e :: []) X.env = (false, eval e X.env) :: starEach [] X.env := by rfl) (hpl : (backTo pos (starEach [] X.env)).any (·.1) = false := by rfl) (hK : X.K = K := by rfl) : QL X E (.Call (.Name "list" p) [e] [] pos) (tCB (fun xs H Q => ∃ p ys, xs = [.ref p] ∧ (SqL K H p ys ∨ SqT K H p ys) ∧ ∀ l, H l = none → Q (.ref l) (upd H l (.lst ys))) tA) (lCall (one listD) al) := by
  subst hK
  exact ql_ct call_list_of sc_list hm ha (hg := hg) (he := he) (hpl := hpl)
end
end CL
namespace CL
open PySem PySem.Spec PyProof.Rows L2
section
variable {X : Cx} {pins : List (Addr × Obj)} {σ : L2.St} {H : Hp} {s sI : Shared}
theorem xo_ok {P : Program} {w : World} {h : Heap} {a : Addr} {cls : Value} {d : Option Addr} {oe : Obj} {vs : Array Value} (e : h.get? a = some oe) (z : Zc cls d oe) (dt : oe.data = .fields vs) : ObjOk P w H h a (XO cls d a) :=
  ⟨⟨oe, e, z, vs, dt⟩, ⟨oe, e⟩, fun _ _ ⟨o, q, r⟩ k => ⟨o, k o q, r⟩⟩
theorem track {a : Addr} {o : HO} {oe : Obj} {vs : Array Value} (J : Inv X pins σ H s) (na : H a = none) (n0 : X.s_0.heap.get? a = none) (nL : a ≠ X.env.locals) (he : s.heap.get? a = some oe) (hd : oe.data = .fields vs) (np : ∀ p ∈ X.pn ++ pins, p.1 ≠ a)
    (new : ObjOk X.prog X.w (upd H a o) s.heap a o) : Inv X pins σ (upd H a o) s := by
  have ne0 : ∀ b u, X.s_0.heap.get? b = some u → b ≠ a := fun b u e z => by rw [z, n0] at e; cases e
  refine ⟨J.ok, J.os, J.bare, ⟨J.base.keep, J.base.slot, fun b u e n hx => ?_, J.base.there, fun b xs e => ?_, fun b u xs e => ?_, fun b ps e => ?_⟩, J.loc, J.cell, ?_, fun x c e => ?_, fun p hp => ?_, fun b u e => ?_, J.len⟩
  · rw [upd_ne (ne0 b u e)]; exact J.base.free b u e n hx
  · have q := J.base.tups b xs e; rw [upd_ne (ne_of_none q na)]; exact q
  · have q := J.base.frzs b u xs e; rw [upd_ne (ne_of_none q na)]; exact q
  · obtain ⟨m, q⟩ := J.base.tbls b ps e; exact ⟨m, by rw [upd_ne (ne_of_none q na)]; exact q⟩
  · rw [upd_ne (Ne.symm nL)]; exact J.free
  · obtain ⟨v, oc, hc, hcd⟩ := J.cell x c e
    have : c ≠ a := fun z => by
      rw [z, he] at hc
      cases hc
      rw [hd] at hcd
      cases hcd
    rw [upd_ne this]; exact J.freeC x c e
  · obtain ⟨e, n, ne, nf, dd⟩ := J.pin p hp
    exact ⟨e, by rw [upd_ne (np p hp)]; exact n, ne, nf, dd⟩
  · by_cases hb : b = a
    · subst hb
      rw [upd_same] at e
      cases e
      exact new
    · rw [upd_ne hb] at e
      exact (J.hok b u e).stay (fun _ _ _ q => q) (fun c q => by rw [upd_ne (ne_of_none q na)]; exact q) fun c xs q => by rw [upd_ne (ne_of_none q na)]; exact q
theorem suite0 (I : Inv X pins σ H s) (a : Addr) : Inv (X.suite a (X.pn ++ pins)) [] σ H s :=
  ⟨I.ok.suite _ _, I.os, I.bare, I.base, I.loc, I.cell, I.free, I.freeC, fun p hp => I.pin p (by rw [List.append_nil] at hp; exact hp), I.hok, I.len⟩
theorem unsuite0 {a : Addr} {pn' : List (Addr × Obj)} (I : Inv (X.suite a (X.pn ++ pins)) pn' σ H s) (ok : X.Ok) : Inv X pins σ H s :=
  ⟨ok, I.os, I.bare, I.base, I.loc, I.cell, I.free, I.freeC, fun p hp => I.pin p (List.mem_append_left _ hp), I.hok, I.len⟩
end
section
end
end CL
namespace CL
open PySem PySem.Spec PyProof.Rows L2
def mRaise (c : Str) : Sl → Mo Fl := fun _ st => .exc c [] st
section
variable {X : Cx} {E : L2.St → XK}
theorem qs_raise {K : PySem.W.Frag} {x m : Str} {j : Nat} {p p2 pos pos2 : Pos} (hc : X.calm = true) (tk : Takes X (fun cls d σ H => E σ cls d H)) (hq : (He.Fa.exc x).ok K = true) (gC : X.mg x = some (.ref (He.ga K x))) (hg : Gl X x := by rfl) (hdb : (x == ("__debug__" : Str)) = false := by decide) (hK : X.K = K := by rfl) :
    QS X E (.Raise (some (.Call (.Name x p) [.Constant (.str m) j p2] [] pos)) none pos2) (fun _ σ H => E σ (.ref (He.ga K x)) none H) (mRaise x) := by
  subst hK
  obtain ⟨q1, q2, q3, q4⟩ := He.exc_ok hq
  exact ⟨ps_raise hc tk (pmk_own PySem.F.excBase_ValueError q1 gC q2 (raises_own q3 q4) hg hdb), fun w ro σ D e h => h w.io w.H (Ext.refl w) e.emb σ none rfl⟩
end
def SSx (K : PySem.W.Frag) (E : L2.St → XK) (ts : TS) (m : Sl → Mo Fl) : Prop := ∀ (w : Wd) (ro : Sl) (σ : L2.St) (D : Ends), En K w ro σ →
  Run K w (m ro w.st) (OkF K D) (XP K (E σ)) → ts D σ w.H
structure QX (X : Cx) (E : L2.St → XK) (s : Stmt) (ts : TS) (m : Sl → Mo Fl) : Prop where
  ps : PS X s ts
  ss : SSx X.K E ts m
section
variable {X : Cx} {E : L2.St → XK} {e c : Expr} {te : TE} {ma : Sl → Mo Da} {pos : Pos} {tt : TT} {mp : Sl → Mo Bool} {s1 s2 : Stmt} {ts tu : TS} {m n : Sl → Mo Fl}
theorem qx_expr (h : QE X E e te ma) (hs : swapsWith e none pos.line X.env = pure false := by rfl) : QX X E (.Expr e pos) (tDrop te) (mExpr ma) := ⟨ps_expr h.pe hs, fun w ro σ D e hh =>
  h.se w ro σ _ e (hh.bind.mono (fun d w1 x1 p1 m1 k v rv => k.here m1 σ (e.mono x1 m1)) fun _ _ _ z => z)⟩
end
theorem En.unset {K : PySem.W.Frag} {w : Wd} {ro : Sl} {σ : L2.St} (e : En K w ro σ) (i : Nat) : En K w (ro.set i none) (σ.set i none) := by
  refine ⟨e.emb, by simp [e.len], fun j x h => ?_⟩
  by_cases hj : j = i
  · subst hj
    rw [List.getElem?_set] at h
    simp only [if_true] at h
    split at h <;> cases h
  · rw [List.getElem?_set_ne (Ne.symm hj)] at h
    obtain ⟨u, h1, h2⟩ := e.slot j x h
    exact ⟨u, by rw [List.getElem?_set_ne (Ne.symm hj)]; exact h1, h2⟩
section
end
end CL
namespace CL
open PySem PySem.Spec PyProof.Rows L2
/-- what is asked of a class of errors of one's own -/
def exB (c : Str) (K : PySem.W.Frag) : Bool := (PySem.W.clsIn K (He.ga K c)).isSome && (decide (PySem.W.findIn K (.ref (He.ga K c)) "__getattribute__" = some (some (.builtin "BaseException.__getattribute__"))) && ((PySem.W.findIn K (.ref (He.ga K c)) "__getattr__").isSome && (decide (PySem.W.subIn K (.ref (He.ga K c)) (.type "BaseException") = some true) && (decide (PySem.W.findIn K (.ref (He.ga K c)) "__class__" = some (some (.builtin "object.__class__"))) && (decide (PySem.W.specialIn K (.builtin "object.__class__") "__get__" = some (some (.builtin "getset_descriptor.__get__"))) && (decide (PySem.W.takesIn K (.builtin "object.__class__") = some true) && decide (PySem.W.mroIn K (He.ga K c) (.type "object") = some true)))))))
/-- the answers: for each class of errors, whether it is one of C -/
def kitB (c : Str) (u : Value) (b : Bool) (K : PySem.W.Frag) : Bool := decide (PySem.W.kitOne K (.ref (He.ga K c)) u = some b)
theorem kit_exn {K : PySem.W.Frag} {c : Str} {a : Addr} {oe : Obj} (h : exB c K = true) : PySem.W.KitX K (.ref a) (.ref (He.ga K c)) (fun h => PySem.W.InstAt h a oe (He.ga K c) none) := by
  unfold exB at h
  simp only [Bool.and_eq_true, decide_eq_true_eq] at h
  obtain ⟨h1, h2, h3, h4, h5, h6, h7, h8⟩ := h
  obtain ⟨gt, hg⟩ := Option.isSome_iff_exists.mp h3
  exact PySem.W.kitx_exc h1 h2 hg h4 h5 h6 h7 h8
def rIsX (K : PySem.W.Frag) : List V → Hp → VK → Prop := fun xs H Q => ∃ (a : Addr) (cv : V) (u : Value) (c : Str) (b : Bool), xs = [.ref a, cv] ∧ ClsV cv u ∧ H a = some (XO (.ref (He.ga K c)) none a) ∧ exB c K = true ∧ PySem.W.kitOne K (.ref (He.ga K c)) u = some b ∧ Q (.bl b) H
theorem call_isX {X : Cx} : CallR X (.builtin "isinstance") (rIsX X.K) := by
  intro pins s σ H xs us Q I r h
  obtain ⟨a, cv, u, c, b, rfl, k, ha, hx, e, q⟩ := h
  obtain ⟨u1, u2, rfl, r1, r2⟩ := vals2 r
  have e2 := k.eq r2
  subst e2
  cases (show u1 = Value.ref a from r1)
  obtain ⟨⟨oe, h1, ⟨h2, h3⟩, vs, h4⟩, _⟩ := (show ObjOk X.prog X.w H s.heap a (XO _ none a) from I.hok a _ ha)
  refine PySem.W.kia_one (kit_exn (oe := oe) hx) I.kIn ⟨h1, h2, ?_, ?_⟩ e (fun z => nomatch z) fun tk => ⟨.bl b, H, I.tok tk, rfl, q⟩
  · unfold PySem.W.notCls; rw [h4]
  · rw [h3]; trivial
/-- the word: tab tells the answer for each class of errors -/
def isX (tab : List (Str × Bool)) (d : Da) : Mo Da := fun st => match d with
  | .han n => (match st[n]? with
    | some (.exn c) => (match tab.lookup c with
      | some b => .ok (.bl b) st
      | none => .bad)
    | _ => .bad)
  | _ => .bad
theorem lookup_mem {α : Type} {tab : List (Str × α)} {c : Str} {b : α} (h : tab.lookup c = some b) : (c, b) ∈ tab := by
  induction tab with
  | nil => cases h
  | cons x r ih =>
    obtain ⟨k, v⟩ := x
    rw [List.lookup_cons] at h
    by_cases z : (c == k) = true
    · rw [z] at h
      cases h
      have : c = k := by simpa using z
      rw [this]
      exact List.mem_cons_self
    · have z' : (c == k) = false := by simpa using z
      rw [z'] at h
      exact List.mem_cons_of_mem _ (ih h)
theorem sx_isX {K : PySem.W.Frag} {tab : List (Str × Bool)} {u : Value} {cv : V} (k : ClsV cv u) (ht : ∀ p ∈ tab, exB p.1 K = true ∧ kitB p.1 u p.2 K = true) : ∀ (w : Wd) (x : V) (d : Da) (Q : VK) (ex : Str → List Da → Wd → Prop), Em K w → Rep K w x d → Run K w (isX tab d w.st) (OkV K Q) ex → rIsX K [x, cv] w.H Q := fun w x d Q ex m rx h => by
  unfold isX at h
  cases d with
  | han n =>
    cases rx with
    | han ha =>
      dsimp only at h
      cases q : w.st[n]? with
      | none => rw [q] at h; exact h.elim
      | some cc =>
        rw [q] at h
        cases cc with
        | exn c =>
          dsimp only at h
          cases q2 : tab.lookup c with
          | none => rw [q2] at h; exact h.elim
          | some b =>
            rw [q2] at h
            obtain ⟨h1, h2⟩ := ht _ (lookup_mem q2)
            exact ⟨_, cv, u, c, b, rfl, k, m.cell n _ _ ha q, h1, of_decide_eq_true h2, h.here m _ (.bl b)⟩
        | lst xs => exact h.elim
        | ins c fs => exact h.elim
        | dK kvs => exact h.elim
        | dead => exact h.elim
  | non => exact h.elim
  | bl b => exact h.elim
  | int i => exact h.elim
  | str s => exact h.elim
  | tup xs => exact h.elim
  | lst xs => exact h.elim
  | fro xs => exact h.elim
section
variable {X : Cx} {E : L2.St → XK} {a : Expr} {ta : TE} {ma : Sl → Mo Da} {pos : Pos}
/-- a class of one's own -/
theorem q_isX {K : PySem.W.Frag} {p p3 : Pos} {C : Str} {tab : List (Str × Bool)} (hm : X.mg "isinstance" = none) (hC : X.mg C = some (.ref (He.ga K C))) (ht : ∀ p ∈ tab, exB p.1 K = true ∧ kitB p.1 (.ref (He.ga K C)) p.2 K = true) (ha : QE X E a ta ma) (hg : Gl X "isinstance" := by rfl) (hgC : Gl X C := by rfl) (hd : (C == ("__debug__" : Str)) = false := by decide)
    (hs : starEach (a :: [.Name C p3]) X.env = (false, eval a X.env) :: starEach [.Name C p3] X.env := by rfl) (hs2 : starEach (.Name C p3 :: []) X.env = (false, eval (.Name C p3) X.env) :: starEach [] X.env := by rfl) (hpl : (backTo pos (starEach [.Name C p3] X.env)).any (·.1) = false := by rfl) (hK : X.K = K := by rfl) :
    QE X E (.Call (.Name "isinstance" p) [a, .Name C p3] [] pos) (tCB (rIsX K) (tCons ta (tCons (tC (.ref (He.ga K C))) tNil))) (e1 (isX tab) ma) := by
  subst hK
  exact ⟨pe_callB call_isX hg hm (by decide +kernel) (pa_cons ha.pe (pa_cons (pe_glob hgC hC rfl hd) pa_nil hs2) hs) (by decide) (by decide) hs hpl, fun w ro σ Q e h =>
    ha.se w ro σ _ e (h.bind.mono (fun d w1 x1 p1 m1 k v rv => sx_isX (.own _) ht w1 v d Q _ m1 rv k) fun _ _ _ z => z)⟩
/-- a built-in class -/
theorem q_isXb {K : PySem.W.Frag} {p p3 : Pos} {C : Str} {T : String} {tab : List (Str × Bool)} (hm : X.mg "isinstance" = none) (hC : X.mg C = none) (ht : ∀ p ∈ tab, exB p.1 K = true ∧ kitB p.1 (.type T) p.2 K = true) (ha : QE X E a ta ma) (hv : bootBuiltins C = some (.type T) := by decide +kernel) (hg : Gl X "isinstance" := by rfl) (hgC : Gl X C := by rfl) (hn : C ≠ "__name__" := by decide) (hd : (C == ("__debug__" : Str)) = false := by decide)
    (hs : starEach (a :: [.Name C p3]) X.env = (false, eval a X.env) :: starEach [.Name C p3] X.env := by rfl) (hs2 : starEach (.Name C p3 :: []) X.env = (false, eval (.Name C p3) X.env) :: starEach [] X.env := by rfl) (hpl : (backTo pos (starEach [.Name C p3] X.env)).any (·.1) = false := by rfl) (hK : X.K = K := by rfl) :
    QE X E (.Call (.Name "isinstance" p) [a, .Name C p3] [] pos) (tCB (rIsX K) (tCons ta (tCons (tC (.ty T)) tNil))) (e1 (isX tab) ma) := by
  subst hK
  exact ⟨pe_callB call_isX hg hm (by decide +kernel) (pa_cons ha.pe (pa_cons (pe_bltn hgC hC hv rfl hn hd) pa_nil hs2) hs) (by decide) (by decide) hs hpl, fun w ro σ Q e h =>
    ha.se w ro σ _ e (h.bind.mono (fun d w1 x1 p1 m1 k v rv => sx_isX (.ty _) ht w1 v d Q _ m1 rv k) fun _ _ _ z => z)⟩
end
end CL
namespace CL
open PySem PySem.Spec PyProof.Rows L2
def rCountD (K : PySem.W.Frag) : V → List V → Hp → VK → Prop := fun x xs H Q => ∃ (a : Addr) (y : V) (d : PyData) (ds : List PyData), x = V.ref a ∧ xs = [y] ∧ Dp K H (V.ref a) (.list ds) ∧ Dp K H y d ∧
  SeqAt.shaped (.list ds) = true ∧ SeqAt.shaped d = true ∧ Q (.int ((ds.countP fun z => PyData.eqv z d : Nat) : Int)) H
theorem mt_countD {X : Cx} (hu : X.A.units + 65 < cLine) : MtR X "list.count" (rCountD X.K) := by
  intro pins s σ H x xs v us Q I rx rxs h
  obtain ⟨a, y, d, ds, rfl, rfl, hl, hy, sl, sd, q⟩ := h
  cases rx
  cases rxs with
  | cons ry rt =>
    rename_i uy ut
    cases rt
    obtain ⟨bs, r1⟩ := Dp.reads I d y uy hy ry
    have hxs : PyData.canLayAll0 ds = true := SeqAt.canLay_of_shaped sl
    have hroom : X.A.units + 1 + min (PyData.depthAll ds) d.depth < cLine := room_in_shaped sd hu
    cases hl with
    | lst hs ha =>
      obtain ⟨its, rv, ⟨⟨cls, dd, data, sls⟩, n, ho, hc, hdn, hdt⟩, hlen⟩ := I.list hs
      simp only at hc hdt
      subst hc hdt
      obtain ⟨as, h4⟩ := Dp.readsAll I ds _ its ha rv
      have hmap : its.map (SeqAt.readOf s.heap) = ds := SeqAt.readsAll_map ds its as hxs h4
      refine call_meets PySem.F.slot_list_count ⟨_, ho, rfl⟩ PySem.F.entry_list_count (PySem.F.args_list_count_2 _ _)
        (SeqAt.list_countAt a its.toArray n dd sls uy (fun u => PyData.eqv (SeqAt.readOf s.heap u) d)) ⟨ho, SeqAt.items_eqAt (vs := its.toArray) (show ReadsAll s.heap its.toArray.toList ds as from h4) r1 hxs (SeqAt.canLay_of_shaped sd) hroom, ?_⟩
      have e : (its.countP fun u => PyData.eqv (SeqAt.readOf s.heap u) d) = ds.countP fun z => PyData.eqv z d := by
        rw [← hmap, List.countP_map]
        rfl
      have q' : Q (.int ((its.countP fun u => PyData.eqv (SeqAt.readOf s.heap u) d : Nat) : Int)) H := by rw [e]; exact q
      exact ⟨.int ((its.countP fun u => PyData.eqv (SeqAt.readOf s.heap u) d : Nat) : Int), H, I.tok _, ⟨_, rfl⟩, q'⟩
def countD (d x : Da) : Mo Da := fun st => match pyD st d, pyD st x with
  | some (.list qs), some p => if (SeqAt.shaped (.list qs) && SeqAt.shaped p) = true then .ok (.int ((qs.countP fun z => PyData.eqv z p : Nat) : Int)) st else .bad
  | _, _ => .bad
def eCount (a b : Sl → Mo Da) : Sl → Mo Da := fun ro => bnd (a ro) fun d => bnd (isLs d) fun _ => bnd (b ro) fun x => countD d x
section
variable {K : PySem.W.Frag} {E : L2.St → XK} {ta tb : TE} {a b : Sl → Mo Da}
theorem s_count (ha : SE K E ta a) (hb : SE K E tb b) : SE K E (tBM K "list" (rCountD K) ta (tCons tb tNil)) (eCount a b) := fun w ro σ Q e h =>
  ha w ro σ _ e (h.bind.mono (fun d w1 x1 p1 m1 k v rv => by
    obtain ⟨ty, k2⟩ := isLs_run m1 rv k.bind
    refine ⟨ty, hb w1 ro σ _ (e.mono x1 m1) (k2.bind.mono (fun x w2 x2 p2 m2 k3 u ru => ?_) fun _ _ _ z => z)⟩
    have rv2 := rv.mono m1 x2
    unfold countD at k3
    split at k3
    · rename_i qs p hq hp
      split at k3
      · rename_i hs
        obtain ⟨s1, s2⟩ := Bool.and_eq_true_iff.mp hs
        have d1 := dp_py m2 rv2 hq
        have d2 := dp_py m2 ru hp
        have hv : ∃ q, v = .ref q := by
          cases d1
          exact ⟨_, rfl⟩
        obtain ⟨q, rfl⟩ := hv
        exact ⟨q, u, p, qs, rfl, rfl, d1, d2, s1, s2, k3.here m2 _ (.int _)⟩
      · exact k3.elim
    · exact k3.elim) fun _ _ _ z => z)
end
section
variable {X : Cx} {E : L2.St → XK} {pos : Pos}
theorem q_count {a b : Expr} {ta tb : TE} {ma mb : Sl → Mo Da} {K : PySem.W.Frag} {apos : Pos} (hu : X.A.units + 65 < cLine) (ha : QE X E a ta ma) (hb : QE X E b tb mb) (hbase : attributeBase a "count" X.env (eval a X.env) = eval a X.env := by rfl)
    (hfew : ((backTo pos (starEach (b :: []) X.env)).all (fun x => !x.1) && (backToKw pos (keywordEach [] X.env)).all (fun x => x.1.isSome) && decide ((b :: []).length + ([] : List Keyword).length + (if ([] : List Keyword).isEmpty then 0 else 1) < 30)) = true := by rfl) (hline : (apos.endLine == pos.line) = true := by rfl) (hs : starEach (b :: []) X.env = (false, eval b X.env) :: starEach [] X.env := by rfl) (hpl : (backTo pos (starEach [] X.env)).any (·.1) = false := by rfl) (hK : X.K = K := by rfl) :
    QE X E (.Call (.Attribute a "count" apos) [b] [] pos) (tBM K "list" (rCountD K) ta (tCons tb tNil)) (eCount ma mb) := by
  subst hK
  exact ⟨pe_bm PySem.F.plainAttrs_list PySem.F.slot_list_count PySem.F.type_list_count (mt_countD hu) ha.pe (pa_cons hb.pe pa_nil hs) hbase hfew hline hs hpl, s_count ha.se hb.se⟩
end
def kAll (u : PySem.W.Frag → Value) (tab : List (Str × Bool)) (K : PySem.W.Frag) : Bool := tab.all fun p => exB p.1 K && kitB p.1 (u K) p.2 K
theorem kAll_ok {u : PySem.W.Frag → Value} {tab : List (Str × Bool)} {K : PySem.W.Frag} (h : kAll u tab K = true) : ∀ p ∈ tab, exB p.1 K = true ∧ kitB p.1 (u K) p.2 K = true := fun p hp =>
  Bool.and_eq_true_iff.mp (List.all_eq_true.mp h p hp)
def mAll (x : Str) (cs : List Str) (K : PySem.W.Frag) : Bool := cs.all fun c => decide (PySem.W.exmOne K (.ref (He.ga K c)) (.ref (He.ga K x)) = some true)
theorem mAll_ok {x : Str} {cs : List Str} {K : PySem.W.Frag} (h : mAll x cs K = true) : ∀ c ∈ cs, PySem.W.exmOne K (.ref (He.ga K c)) (.ref (He.ga K x)) = some true := fun c hc =>
  of_decide_eq_true (List.all_eq_true.mp h c hc)
end CL
namespace CL
open PySem PySem.Spec PyProof.Rows L2
def oexB (c : Str) (K : PySem.W.Frag) : Bool := match K.lookup (He.ga K c) with
  | some ⟨.type "type", _, .cls cd, sl⟩ => (match cd.mro, sl.toList with
    | .ref C' :: bm, [_, _, _, _, some (.builtin n), _] => C' == He.ga K c && (n == "ValueError.__new__" && (!cd.hasDel && (cd.hasDict && PySem.HandSPX.refsVE bm)))
    | _, _ => false)
  | _ => false
theorem oexB_ok {K : PySem.W.Frag} {c : Str} (q : oexB c K = true) : ∃ nm qn N bs bm sn sub ab col dd k0 k1 k2 k3 k5, K.lookup (He.ga K c) = some (excClassObj nm qn (He.ga K c) N bs bm true sn sub ab col dd k0 k1 k2 k3 k5 "ValueError.__new__") ∧ PySem.HandSPX.refsVE bm = true := by
  unfold oexB at q
  split at q
  · rename_i dd cd sl ho
    split at q
    · rename_i C' bm k0 k1 k2 k3 n k5 hm hs
      simp only [Bool.and_eq_true, beq_iff_eq, Bool.not_eq_true'] at q
      obtain ⟨h1, h2, h3, h4, h5⟩ := q
      obtain ⟨nm, bs, mro, ns, qn, hd, sn, sub, ab, col, del⟩ := cd
      dsimp only at hm h3 h4
      subst hm h3 h4 h1 h2
      have hsl : sl = #[k0, k1, k2, k3, some (.builtin "ValueError.__new__"), k5] := by
        obtain ⟨l⟩ := sl
        simp only at hs
        rw [hs]
      subst hsl
      exact ⟨nm, qn, ns, bs, bm, sn, sub, ab, col, dd, k0, k1, k2, k3, k5, ho, h5⟩
    · cases q
  · cases q
/-- what the written part says of such a class; f: its field -/
structure NpC (K : PySem.W.Frag) (c f : Str) : Prop where
  oex : OexC K (He.ga K c)
  ini : PySem.W.findIn K (.ref (He.ga K c)) "__init__" = some (some (.ref (He.ma K (He.ga K c) "__init__")))
  fn : PySem.W.typeIn K (.ref (He.ma K (He.ga K c) "__init__")) = some (.type "function")
  xf : XfC K (He.ga K c)
  no : PySem.W.findIn K (.ref (He.ga K c)) f = some none
def npB (c f : Str) (K : PySem.W.Frag) : Bool := oexB c K && (decide (PySem.W.findIn K (.ref (He.ga K c)) "__setattr__" = some (some (.builtin "object.__setattr__"))) && (decide (PySem.W.subIn K (.ref (He.ga K c)) (.type "BaseException") = some true) && (decide (PySem.W.typeIn K (.ref (He.ga K c)) = some (.type "type")) && (PySem.W.keepIn K (.ref (He.ga K c)) && (decide (PySem.W.findIn K (.ref (He.ga K c)) "__init__" = some (some (.ref (He.ma K (He.ga K c) "__init__")))) && (decide (PySem.W.typeIn K (.ref (He.ma K (He.ga K c) "__init__")) = some (.type "function")) && (xfB K (He.ga K c) && decide (PySem.W.findIn K (.ref (He.ga K c)) f = some none))))))))
theorem npB_ok {K : PySem.W.Frag} {c f : Str} (h : npB c f K = true) : NpC K c f := by
  unfold npB at h
  simp only [Bool.and_eq_true, decide_eq_true_eq] at h
  obtain ⟨h1, h2, h3, h4, h5, h6, h7, h8, h9⟩ := h
  exact ⟨⟨oexB_ok h1, h2, h3, h4, h5⟩, h6, h7, xfB_ok h8, h9⟩
/-- what its __init__ does: the field is stored -/
def spNp (K : PySem.W.Frag) (c f : Str) : Sp := fun vs H Q _ => ∃ (a : Addr) (y : V), vs = [.ref a, y] ∧ H a = some (exo a (He.ga K c) none) ∧ ∀ dx, H dx = none → dx ≠ a → Q .non (upd (upd H dx (exd dx [(f, y)])) a (exo a (He.ga K c) (some dx)))
structure CalNp (P : Program) (wd : World) (K : PySem.W.Frag) (mg : Str → Option Value) (base : Heap) (k : Nat) (c f : Str) : Prop where
  ex : ∃ (fd : FuncData) (ps : List Str), mg c = some (.ref (He.ga K c)) ∧ NpC K c f ∧ Binds K fd ps [] ∧ FnOk P wd K mg base (L2.CX P wd) k (He.ma K (He.ga K c) "__init__") fd ps (spNp K c f)
theorem np_fn {P : Program} {wd : World} {K : PySem.W.Frag} {mg : Str → Option Value} {base : Heap} {x qual c f : Str} {params : Arguments} {body : List Stmt} {scope : Scope} {kws : List (Str × V)} {dvs : List V} {fa : Addr} {fd : FuncData} {N ps : List Str} {k : Nat}
    (F : FunD K x qual params body scope dvs kws fa fd) (S : FnScope N ps scope) (T : NpC K c f) (hn : ps.length = 2)
    (hb : ∀ (cdv : Value) (A : Around) (outer : List Env) (s : Shared) (H : Hp) (E : XK), PSs (cxOf (L2.CX P wd) P wd K mg base N qual scope fa cdv A outer s H E) body (tOst K f (tVar 0) (tVar 1)))
    (h0 : ∀ (a b : V), (start N [a, b])[0]? = some (some a) ∧ (start N [a, b])[1]? = some (some b)) :
    FnOk P wd K mg base (L2.CX P wd) (k + 1) fa fd ps (spNp K c f) := by
  refine F.ok S (fun vs H Q E h => ?_) (fun cdv A outer s H vs Q E hr h => ?_)
  · obtain ⟨a, y, rfl, _⟩ := h
    rw [hn]; rfl
  · obtain ⟨a, y, rfl, h1, h2⟩ := h
    obtain ⟨q1, q2⟩ := h0 (.ref a) y
    exact ⟨_, hb cdv A outer s H E, y, q2, .ref a, q1, a, He.ga K c, rfl, T.oex, T.no, .inl ⟨h1, fun dx n ne => h2 dx n ne⟩⟩
/-- raise C(e) -/
def mRaise1 (c : Str) (a : Sl → Mo Da) : Sl → Mo Fl := fun ro => bnd (a ro) fun d st => .exc c [d] st
section
variable {X : Cx} {E : L2.St → XK}
theorem qs_raise1 {P : Program} {wd : World} {K : PySem.W.Frag} {mg : Str → Option Value} {base : Heap} {k : Nat} {c : Str} {e : Expr} {te : TE} {ma : Sl → Mo Da} {p pos pos2 : Pos} (hc : X.calm = true) (tk : Takes X (fun cls d σ H => E σ cls d H)) (F : CalNp P wd K mg base k c "place") (hr : Room (k + 1) X.A) (he : QE X E e te ma)
    (hP : X.prog = P := by rfl) (hw : X.w = wd := by rfl) (hK : X.K = K := by rfl) (hmg : X.mg = mg := by rfl) (hbase : X.base = base := by rfl) (hg : Gl X c := by rfl) (hdb : (c == ("__debug__" : Str)) = false := by decide) (hs : starEach (e :: []) X.env = (false, eval e X.env) :: starEach [] X.env := by rfl) (hpl : (backTo pos (starEach [] X.env)).any (·.1) = false := by rfl) :
    QS X E (.Raise (some (.Call (.Name c p) [e] [] pos)) none pos2) (fun _ σ H => tMkO (He.ga K c) (spNp K c "place") [] (tCons te tNil) σ H fun cls d H' => E σ cls d H') (mRaise1 c ma) := by
  subst hP hw hK hmg hbase
  obtain ⟨fd, ps, h1, T, hb, F⟩ := F.ex
  refine ⟨ps_raise hc tk (pmk_oex T.oex T.ini T.fn F hr hb .nil (passL (X := X)) hg h1 (pa_cons he.pe pa_nil hs) hdb hs hpl), fun w ro σ D en h => ?_⟩
  refine he.se w ro σ _ en ((Run.bind h).mono (fun d w1 x1 p1 m1 k v rv => ?_) fun _ _ _ z => z σ)
  refine ⟨by simp, fun a ha => ⟨a, v, rfl, upd_same, fun dx hdx hne => ⟨rfl, dx, [("place", v)], ?_, ?_, ?_, ?_⟩⟩⟩
  · rw [upd_same]
  · rw [upd_ne hne, upd_same]
  · rw [upd_ne hne] at hdx; exact hdx
  · have hdx' : w1.H dx = none := by rw [upd_ne hne] at hdx; exact hdx
    have eH : upd (L2.del (upd (upd (upd w1.H a (exo a (He.ga X.K c) none)) dx (exd dx [("place", v)])) a (exo a (He.ga X.K c) (some dx))) a) dx (.xd [("place", v)]) = upd w1.H dx (.xd [("place", v)]) := by
      funext b
      by_cases hb1 : b = dx
      · subst hb1; rw [upd_same, upd_same]
      · rw [upd_ne hb1, upd_ne hb1]
        by_cases hb2 : b = a
        · subst hb2; rw [L2.del_same, ha]
        · rw [L2.del_ne hb2, upd_ne hb2, upd_ne hb1, upd_ne hb2]
    rw [eH]
    have m2 : Em X.K (w1.new dx (.xd [("place", v)])) := m1.new hdx'
    have x2 : Ext w1 (w1.new dx (.xd [("place", v)])) := Ext.new m1 hdx'
    exact k w1.io _ x2 m2 σ (some dx) ⟨dx, v, rfl, upd_same, rv.mono m1 x2⟩
end
def mNone (x : Str) (cs : List Str) (K : PySem.W.Frag) : Bool := cs.all fun c => decide (PySem.W.exmOne K (.ref (He.ga K c)) (.ref (He.ga K x)) = some false)
theorem mNone_ok {x : Str} {cs : List Str} {K : PySem.W.Frag} (h : mNone x cs K = true) : ∀ c ∈ cs, PySem.W.exmOne K (.ref (He.ga K c)) (.ref (He.ga K x)) = some false := fun c hc =>
  of_decide_eq_true (List.all_eq_true.mp h c hc)
def tXfK (C : Addr) (f : Str) (te : TE) : TE := fun σ H Q => te σ H fun x H1 => ∃ (a dd : Addr) (fs : List (Str × V)) (v : V), x = .ref a ∧ H1 a = some (XO (.ref C) (some dd) a) ∧ H1 dd = some (.xd fs) ∧ fs.lookup f = some v ∧ Q v H1
theorem pe_xfK {X : Cx} {C : Addr} {e : Expr} {te : TE} {pos : Pos} {n : Str} (T : XfC X.K C) (hno : PySem.W.findIn X.K (.ref C) n = some none) (he : PE X e te) (hb : attributeBase e n X.env (eval e X.env) = eval e X.env := by rfl) :
    PE X (.Attribute e n pos) (tXfK C n te) := by
  refine ⟨fun pins s σ H Q I h => ?_⟩
  refine attr_of hb (thn (he.run pins s σ H _ I h) fun u s1 hh => ?_)
  obtain ⟨x, H1, I1, rx, a, dd, fs, v, ex, hxa, ea, l, q⟩ := hh
  subst ex
  obtain rfl : u = Value.ref a := rx
  obtain ⟨⟨oe, ha, ⟨hz1, hz2⟩, vs, hd⟩, _⟩ := (show ObjOk X.prog X.w H1 s1.heap a (XO (.ref C) (some dd) a) from I1.hok a _ hxa)
  have hx : ObjOk X.prog X.w H1 s1.heap dd (.xd fs) := I1.hok dd _ ea
  obtain ⟨mA, hns, hr⟩ := hx
  obtain ⟨od, ho, hl⟩ := lookIn_ns hns
  obtain ⟨u, hu, ru⟩ := RelO.some_of (v := v) (o := mA n) (by rw [← l]; exact hr n)
  have J : PySem.W.InstAt s1.heap a oe C (some od) := ⟨ha, hz1, by unfold PySem.W.notCls; rw [hd] <;> rfl, by rw [hz2]; exact ho⟩
  exact HandSPX.exc_get I1.kIn J T.ga T.gg T.exC (PySem.W.findObj_own T.hdC hno rfl (by rw [hl, hu])) (handed_of ru) ⟨v, H1, I1.tok _, ru, q⟩
/-- clauses 'except x as n', one behind another; the error is kept -/
def wKeepM (K : PySem.W.Frag) (i : Nat) (Wout : WX) (D : Ends) : List (Value × (Addr → Value → Option Addr → TS)) → WX
  | [] => Wout
  | (c, ts) :: r => fun cls d σ H => ∃ b, PySem.W.exmOne K cls c = some b ∧ (b = true → ∀ a, H a = none → ts a cls d { nx := fun σ' H' => D.nx (σ'.set i none) H', rt := D.rt, bk := fun σ' H' => D.bk (σ'.set i none) H', ct := fun σ' H' => D.ct (σ'.set i none) H' } (σ.set i (some (.ref a))) (upd H a (XO cls d a))) ∧
    (b = false → wKeepM K i Wout D r cls d σ H)
inductive HdsK (X : Cx) (n : Str) : List ExceptHandler → List (Value × (Addr → Value → Option Addr → TS)) → Prop
  | nil : HdsK X n [] []
  | cons {x : Str} {c : Value} {ts : Addr → Value → Option Addr → TS} {b₀ : Stmt} {suite : List Stmt} {np pos' : Pos} {hds : List ExceptHandler} {l : List (Value × (Addr → Value → Option Addr → TS))} (hc : Names X x c)
      (hsu : ∀ (a : Addr) (cls : Value) (d : Option Addr) (pn : List (Addr × Obj)), PSs (X.suite a pn) (b₀ :: suite) (ts a cls d)) (r : HdsK X n hds l) :
      HdsK X n (.ExceptHandler (some (.Name x np)) (some n) (b₀ :: suite) pos' :: hds) ((c, ts) :: l)
section
variable {X : Cx} {n : Str} {i : Nat} {body : List Stmt} {h₀ : ExceptHandler} {hds : List ExceptHandler} {l : List (Value × (Addr → Value → Option Addr → TS))} {pos : Pos} {tb : WX → TS} {Wout : WX}
theorem ps_try_keepM (hs : X.stack = X.env :: X.outer) (hf : X.env.frame = some X.env.locals) (hex : X.ex = []) (hN : X.N.Nodup) (hi : X.N[i]? = some n) (hln : X.env.kindOf n = some .local) (tk : Takes X Wout)
    (hb : ∀ (W : WX) (pn : List (Addr × Obj)) (xe : Value → Shared → Prop), Takes (X.tr pn xe) W → PassesOwn (model X.prog X.w) X.A X.env xe → PSs (X.tr pn xe) body (tb W))
    (hh : HdsK X n (h₀ :: hds) l) :
    PS X (.Try body (h₀ :: hds) [] [] pos) (fun D σ H => tb (wKeepM X.K i Wout D l) D σ H) := by
  refine ⟨fun pins s σ H D I h => ?_⟩
  have ok := I.ok
  have hfr : X.A.frames = some (X.env :: X.outer) := by rw [ok.frames, hs]
  have hloc : Loc X.env.scope n := .inl hln
  refine wpAny_Try_except ?_
  refine wpAny_mono ((hb (wKeepM X.K i Wout D l) (X.pn ++ pins) (fun e s₁ => wpAny (model X.prog X.w) X.A (noteFrame e X.env) (fun _ s₂ => wpAny (model X.prog X.w) X.A (setFlight e none) (fun _ s₃ =>
    wpAny (model X.prog X.w) X.A (handleBy e X.env (h₀ :: hds)) (SP X pins D) X.xe s₃) X.xe s₂) X.xe s₁) (fun u s' xx => ?_) PassesOwn.looking).run [] s σ H D (I.toTry _) h) (fun f s1 hsp => ?_) (fun e s1 he => he)
  · -- the catch
    obtain ⟨a, B, sI, pins', σ', H', cls, d, rfl, J', nb, up, sky, na, os, ag, w⟩ := xx
    have J : Inv X pins σ' H' sI := J'.ofTry ok
    have sky' : Sky B (X.env :: X.outer) a (Zc cls d) X.env.locals s'.heap := by rw [← hs]; exact sky
    show wpAny (model X.prog X.w) X.A (noteFrame (.ref a) X.env) _ _ _
    refine Sky.land Zc.steady hfr hf sky' fun h3 fl3 up3 => ?_
    have J3 : Inv X pins σ' H' { s' with heap := h3 } := J.landed nb fl3.1 (up.trans up3) os ag
    obtain ⟨oe3, vs3, he3, hz3, hd3⟩ := fl3.there
    have notFr : ∀ {h : Heap} {o : Obj} {vs : Array Value}, h.FunFrames B (X.env :: X.outer) → h.get? a = some o → o.data = .fields vs → a ∉ frs (X.env :: X.outer) := fun {h o vs} ff e dd hm => by
      obtain ⟨_, o', e', hnf⟩ := ff.mem hm
      rw [e] at e'; cases e'
      exact hnf _ dd
    have nfr := notFr fl3.2.2.1 he3 hd3
    have nL : a ≠ X.env.locals := fun z => nfr (List.mem_filterMap.mpr ⟨X.env, List.mem_cons_self, by rw [hf, z]⟩)
    have nF : a ∉ X.fs := fun hm => by
      obtain ⟨e, he, q⟩ := List.mem_filterMap.mp hm
      exact nfr (List.mem_filterMap.mpr ⟨e, List.mem_cons_of_mem _ he, q⟩)
    have nI : sI.heap.get? a = none := by
      cases q : sI.heap.get? a with
      | none => rfl
      | some o =>
        have z := nb a o q (by rw [hs]; exact nfr)
        rw [fl3.2.1] at z
        cases z
    have n0 : X.s_0.heap.get? a = none := by
      cases q : X.s_0.heap.get? a with
      | none => rfl
      | some o =>
        obtain ⟨o', z⟩ := J.base.there a o q (by rw [hex]; exact fun z => nomatch z)
        rw [nI] at z
        cases z
    have npin : ∀ p ∈ X.pn ++ pins, p.1 ≠ a := fun p hp z => by
      obtain ⟨e, _⟩ := J.pin p hp
      rw [z, nI] at e
      cases e
    have S3 := J3.suite he3 hd3 na nL nF
    have go : ∀ {hds' : List ExceptHandler} {l' : List (Value × (Addr → Value → Option Addr → TS))}, HdsK X n hds' l' → wKeepM X.K i Wout D l' cls d σ' H' →
        wpAny (model X.prog X.w) X.A (handleBy (.ref a) X.env hds') (SP X pins D) X.xe { s' with heap := h3 } := by
      intro hds' l' hk
      induction hk with
      | nil =>
        intro w
        refine wpAny_handleBy_nil ?_
        obtain ⟨k1, k2, k3, oe, vs, T, oT, ts', he, hz, hd, h1, hr⟩ := id fl3
        unfold PySem.passOn
        refine wpAny_bind (wpAny_field he hd h1 ?_)
        rw [if_neg (show ¬ ((Value.ref T == Value.none) = true) from by simp)]
        have fin : wpAny (model X.prog X.w) X.A (setFlight (.ref a) X.env.frame) (fun _ s4 => wpAny (model X.prog X.w) X.A (throw (.ref a) : Sem Flow) (SP X pins D) X.xe s4) X.xe { s' with heap := h3 } := by
          rw [hf]
          refine HandSPX.setFlight_upZ fl3 fun h4 hh4 up4 => wpAny_throw (tk _ _ ?_)
          exact ⟨a, B, sI, pins, σ', H', cls, d, rfl, J, nb, (up.trans up3).trans up4, .inr (.inr (by rw [hs]; exact hh4)), na, os, ag, w⟩
        first
          | exact wpAny_bind (wpAny_pure (wpAny_bind fin))
          | exact wpAny_bind fin
      | @cons x c ts b₀ suite np pos' hds2 l2 hc hsu r ih =>
        intro w
        obtain ⟨b, hb1, hyes, hno⟩ := w
        refine wpAny_handleBy_cons (codeAny_handlers_test ?_) (by intro q; cases q)
        have LT : PySem.W.Looks (model X.prog X.w) h3 (typeOf (.ref a)) cls := fun A Q E s k q => wpAny_typeOf_ref (k _ _ he3) (by rw [hz3.1]; exact q)
        have LM := PySem.W.exm_one (M := model X.prog X.w) (J3.kIn) LT hb1
        have test : ∀ {Q : Value → Shared → Prop} {E : Value → Shared → Prop}, Q c { s' with heap := h3 } → wpAny (model X.prog X.w) (X.A.mark (some (.ref a))) (eval (.Name x np) X.env) Q E { s' with heap := h3 } := fun {Q E} q => by
          obtain ⟨hg, hdbg, hm | ⟨hm, hv, hnn⟩⟩ := hc
          · exact ld_glob (X := X.suite a ((a, oe3) :: (X.pn ++ pins))) S3 hg hm q hdbg
          · exact ld_blt (X := X.suite a ((a, oe3) :: (X.pn ++ pins))) S3 hg hm hv q hnn hdbg
        refine test (LM.here ?_)
        cases b with
        | true =>
          refine codeAny_handlers_suite_as ?_
          refine HandSPX.lands_againZ fl3 fun h4 fl4 up4 => ?_
          have J4 : Inv X pins σ' H' { s' with heap := h4 } := J.landed nb fl4.1 ((up.trans up3).trans up4) os ag
          obtain ⟨oe4, vs4, he4, hz4, hd4⟩ := fl4.there
          have S4 : Inv (X.suite a (X.pn ++ pins)) [] σ' (upd H' a (XO cls d a)) { s' with heap := h4 } := suite0 (track J4 na n0 nL he4 hd4 npin (xo_ok he4 hz4 hd4)) a
          refine store_ok (X := X.suite a (X.pn ++ pins)) (v := .ref a) S4 hN hi hloc rfl (fun s5 S5 => ?_) (.inr hln)
          refine wpAny_mono ((hsu a cls d (X.pn ++ pins)).run [] s5 _ _ _ S5 (hyes rfl a na)) (fun f s6 hsp => ?_) (fun _ _ z => False.elim z)
          have end_ : ∀ {σ6 : L2.St} {H6 : Hp} {Q : Shared → Prop}, Inv (X.suite a (X.pn ++ pins)) [] σ6 H6 s6 → (∀ s7, Inv X pins (σ6.set i none) H6 s7 → Q s7) →
              wpAny (model X.prog X.w) X.A (do bindName X.env n .none; unbindBehindTheSuite X.env n pos') (fun _ s7 => Q s7) X.xe s6 := fun {σ6 H6 Q} S6 hq => gone_ok (unsuite0 S6 ok) hN hi hln hq
          cases f with
          | next =>
            obtain ⟨σ6, H6, S6, q6⟩ := hsp
            exact end_ S6 fun s7 J7 => ⟨_, _, J7, q6⟩
          | brk =>
            obtain ⟨σ6, H6, S6, q6⟩ := hsp
            exact end_ S6 fun s7 J7 => ⟨_, _, J7, q6⟩
          | cont =>
            obtain ⟨σ6, H6, S6, q6⟩ := hsp
            exact end_ S6 fun s7 J7 => ⟨_, _, J7, q6⟩
          | ret u =>
            obtain ⟨v6, σ6, H6, S6, r6, q6⟩ := hsp
            exact end_ S6 fun s7 J7 => ⟨_, _, _, J7, r6, q6⟩
        | false =>
          show wpAny _ X.A (handleBy (.ref a) X.env hds2) _ _ _
          exact ih (hno rfl)
    exact go hh w
  · cases f with
    | next =>
      obtain ⟨σ', H', J', q⟩ := hsp
      exact wpAny_execs_nil ⟨σ', H', J'.ofTry ok, q⟩
    | brk =>
      obtain ⟨σ', H', J', q⟩ := hsp
      exact ⟨σ', H', J'.ofTry ok, q⟩
    | cont =>
      obtain ⟨σ', H', J', q⟩ := hsp
      exact ⟨σ', H', J'.ofTry ok, q⟩
    | ret u =>
      obtain ⟨v, σ', H', J', r, q⟩ := hsp
      exact ⟨v, σ', H', J'.ofTry ok, r, q⟩
end
def mTry2 (cf word : Str) (cs : List Str) (i jb jm : Nat) (b : Sl → Mo Fl) : Sl → Mo Fl := fun ro st => match b ro st with
  | .exc c as st' => if c = cf ∧ i < ro.length then (match as with
      | [d] => .ok (.nx (((ro.set i none).set jb (some (.tup [.str word, d]))).set jm (some (.han st'.length)))) (st' ++ [.dead])
      | _ => .bad)
    else if c ∈ cs ∧ i < ro.length ∧ as = [] then .ok (.nx (((ro.set i none).set jb (some .non)).set jm (some (.han st'.length)))) (st' ++ [.exn c]) else .bad
  | r => r
section
variable {X : Cx} {E : L2.St → XK} {s : Stmt} {tb : WX → TS} {mb : Sl → Mo Fl} {pos posA posB npA npB_ b1 b2 b3 b4 b5 b6 c1 c2 c3 d1 d2 d3 e1_ e2_ e3 : Pos} {j1 j2 : Nat} {xl : Nat}
theorem qs_try2 {K : PySem.W.Frag} {cs : List Str} {cf cl n nb nm word : Str} (i jb jm : Nat) (hs : X.stack = X.env :: X.outer) (hf : X.env.frame = some X.env.locals) (hex : X.ex = []) (hN : X.N.Nodup) (T : NpC K cf "place") (hff : PySem.W.exmOne K (.ref (He.ga K cf)) (.ref (He.ga K cf)) = some true)
    (hcf : ∀ c ∈ cs, PySem.W.exmOne K (.ref (He.ga K c)) (.ref (He.ga K cf)) = some false) (hcs : ∀ c ∈ cs, PySem.W.exmOne K (.ref (He.ga K c)) (.ref (He.ga K cl)) = some true) (hmf : X.mg cf = some (.ref (He.ga K cf))) (hml : X.mg cl = some (.ref (He.ga K cl)))
    (hb : ∀ (W : WX) (pn : List (Addr × Obj)) (xe : Value → Shared → Prop), Takes (X.tr pn xe) W → QX (X.tr pn xe) (WE W) s (tb W) mb)
    (hi : X.N[i]? = some n := by rfl) (hjb : X.N[jb]? = some nb := by rfl) (hjm : X.N[jm]? = some nm := by rfl) (hij : i ≠ jb := by decide) (him : i ≠ jm := by decide) (hln : X.env.kindOf n = some .local := by rfl) (hlb : Loc X.env.scope nb := by first | exact Or.inl rfl | exact Or.inr rfl) (hlm : Loc X.env.scope nm := by first | exact Or.inl rfl | exact Or.inr rfl)
    (hgf : Gl X cf := by rfl) (hgl : Gl X cl := by rfl) (hdf : (cf == ("__debug__" : Str)) = false := by decide) (hdl : (cl == ("__debug__" : Str)) = false := by decide)
    (hv : Vis X.env.scope n := by first | exact Or.inl rfl | exact Or.inr (Or.inl rfl) | exact Or.inr (Or.inr rfl)) (hd : (n == ("__debug__" : Str)) = false := by decide) (hcd : (n == ("__classdict__" : Str)) = false := by decide)
    (hsw1 : ∀ a : Addr, ∀ pn, swapsWith (.Tuple [.Constant (.str word) j1 b3, .Attribute (.Name n b5) "place" b4] xl b2) (some (.Name nb b1)) b6.line (X.suite a pn).env = pure false := by intro _ _; rfl)
    (hse : ∀ a : Addr, ∀ pn, starEach [.Constant (.str word) j1 b3, .Attribute (.Name n b5) "place" b4] (X.suite a pn).env = (false, eval (.Constant (.str word) j1 b3) (X.suite a pn).env) :: starEach [.Attribute (.Name n b5) "place" b4] (X.suite a pn).env := by intro _ _; rfl)
    (hse2 : ∀ a : Addr, ∀ pn, starEach [.Attribute (.Name n b5) "place" b4] (X.suite a pn).env = (false, eval (.Attribute (.Name n b5) "place" b4) (X.suite a pn).env) :: starEach [] (X.suite a pn).env := by intro _ _; rfl)
    (hab : ∀ a : Addr, ∀ pn, attributeBase (.Name n b5) "place" (X.suite a pn).env (eval (.Name n b5) (X.suite a pn).env) = eval (.Name n b5) (X.suite a pn).env := by intro _ _; rfl)
    (hsw2 : ∀ a : Addr, ∀ pn, swapsWith (.Name n c2) (some (.Name nm c1)) c3.line (X.suite a pn).env = pure false := by intro _ _; rfl)
    (hsw3 : ∀ a : Addr, ∀ pn, swapsWith (.Constant .none j2 d2) (some (.Name nb d1)) d3.line (X.suite a pn).env = pure false := by intro _ _; rfl)
    (hsw4 : ∀ a : Addr, ∀ pn, swapsWith (.Name n e2_) (some (.Name nm e1_)) e3.line (X.suite a pn).env = pure false := by intro _ _; rfl)
    (hfb : X.fn nb = true ∨ X.env.scope.names.lookup nb = some .local := by first | exact .inl rfl | exact .inr rfl | assumption) (hfm : X.fn nm = true ∨ X.env.scope.names.lookup nm = some .local := by first | exact .inl rfl | exact .inr rfl | assumption) (hK : X.K = K := by rfl) :
    QS X E (.Try [s] [.ExceptHandler (some (.Name cf npA)) (some n) [.Assign [.Name nb b1] (.Tuple [.Constant (.str word) j1 b3, .Attribute (.Name n b5) "place" b4] xl b2) b6, .Assign [.Name nm c1] (.Name n c2) c3] posA,
        .ExceptHandler (some (.Name cl npB_)) (some n) [.Assign [.Name nb d1] (.Constant .none j2 d2) d3, .Assign [.Name nm e1_] (.Name n e2_) e3] posB] [] [] pos)
      (fun D σ H => tb (wKeepM K i (fun _ _ _ _ => False) D [(.ref (He.ga K cf), fun _ _ _ => tSeq (tAsg (tTup (tCons (tC (.str word)) (tCons (tXfK (He.ga K cf) "place" (tVar i)) tNil))) (gName jb)) (tAsg (tVar i) (gName jm))), (.ref (He.ga K cl), fun _ _ _ => tSeq (tAsg (tC .non) (gName jb)) (tAsg (tVar i) (gName jm)))]) D σ H) (mTry2 cf word cs i jb jm mb) := by
  subst hK
  refine ⟨ps_try_keepM (tb := tb) hs hf hex hN hi hln (fun _ _ ⟨_, _, _, _, _, _, _, _, _, _, _, _, _, _, _, _, w⟩ => w.elim) (fun W pn xe t po => pss_one (hb W pn xe t).ps)
    (.cons ⟨hgf, hdf, .inl hmf⟩ (fun a cls d pn => pss_cons (ps_set (X := X.suite a pn) hN hjb hlb (pe_tup (pa_cons pe_str (pa_cons (pe_xfK T.xf T.no (pe_var hi hv hd hcd) (hab a pn)) pa_nil (hse2 a pn)) (hse a pn))) (hsw1 a pn) hfb) (pss_one (ps_set (X := X.suite a pn) hN hjm hlm (pe_var hi hv hd hcd) (hsw2 a pn) hfm)))
    (.cons ⟨hgl, hdl, .inl hml⟩ (fun a cls d pn => pss_cons (ps_set (X := X.suite a pn) hN hjb hlb pe_non (hsw3 a pn) hfb) (pss_one (ps_set (X := X.suite a pn) hN hjm hlm (pe_var hi hv hd hcd) (hsw4 a pn) hfm))) .nil)), ?_⟩
  intro w ro σ D e h
  have key := (hb (wKeepM X.K i (fun _ _ _ _ => False) D [(.ref (He.ga X.K cf), fun _ _ _ => tSeq (tAsg (tTup (tCons (tC (.str word)) (tCons (tXfK (He.ga X.K cf) "place" (tVar i)) tNil))) (gName jb)) (tAsg (tVar i) (gName jm))), (.ref (He.ga X.K cl), fun _ _ _ => tSeq (tAsg (tC .non) (gName jb)) (tAsg (tVar i) (gName jm)))]) [] (fun _ _ => True) (fun _ _ _ => trivial)).ss
  refine key w ro σ D e ?_
  unfold mTry2 at h
  cases q : mb ro w.st with
  | bad => rw [q] at h; exact h
  | ok f st' => rw [q] at h; exact h
  | exc c as st' =>
    rw [q] at h
    dsimp only at h
    by_cases hc : c = cf ∧ i < ro.length
    · rw [if_pos hc] at h
      obtain ⟨rfl, hc2⟩ := hc
      match as, h with
      | [d], h =>
        dsimp only at h
        intro io H x1 m1 dd hd'
        obtain ⟨da, v, rfl, hxd, rv⟩ := hd'
        refine ⟨true, hff, fun _ a ha => ?_, fun z => nomatch z⟩
        have hne : da ≠ a := fun z => by rw [z, ha] at hxd; cases hxd
        have m2 : Em X.K ((⟨io, st', H, w.pv⟩ : Wd).push a (XO (.ref (He.ga X.K c)) (some da) a) .dead) := m1.push ha trivial
        have x2 : Ext (⟨io, st', H, w.pv⟩ : Wd) ((⟨io, st', H, w.pv⟩ : Wd).push a (XO (.ref (He.ga X.K c)) (some da) a) .dead) := Ext.push m1 ha
        have hσ : i < σ.length := by rw [e.len]; exact hc2
        have gi : (σ.set i (some (.ref a)))[i]? = some (some (.ref a)) := List.getElem?_set_self hσ
        refine ⟨.ref a, gi, a, da, _, v, rfl, upd_same, by rw [upd_ne hne]; exact hxd, rfl, by simp [sizeLine_eq], fun p hp => ?_⟩
        have hp' : ((⟨io, st', H, w.pv⟩ : Wd).push a (XO (.ref (He.ga X.K c)) (some da) a) .dead).H p = none := hp
        have m3 := m2.new (o := .tup [.str word, v]) hp'
        have x3 := Ext.new (o := .tup [.str word, v]) m2 hp'
        have rt : Rep X.K (((⟨io, st', H, w.pv⟩ : Wd).push a (XO (.ref (He.ga X.K c)) (some da) a) .dead).new p (.tup [.str word, v])) (.ref p) (.tup [.str word, d]) := .tup (.inl (.inl upd_same)) (.cons (.str word) (.cons ((rv.mono m1 x2).mono m2 x3) .nil))
        have e1 : En X.K _ ro σ := ((e.mono x1 m1).mono x2 m2).mono x3 m3
        have e2 := e1.set (i := i) (v := .ref a) (d := .han st'.length) (.han (x3.at (push_at m1)))
        have e3 := e2.set (i := jb) rt
        have gj : (((σ.set i (some (.ref a))).set jb (some (.ref p))))[i]? = some (some (.ref a)) := by rw [List.getElem?_set_ne (Ne.symm hij)]; exact gi
        refine ⟨.ref a, gj, ?_⟩
        have e4 := (e3.set (i := jm) (v := .ref a) (d := .han st'.length) (.han (x3.at (push_at m1)))).unset i
        have el : ((((ro.set i (some (Da.han st'.length))).set jb (some (.tup [.str word, d]))).set jm (some (.han st'.length))).set i none) = ((ro.set i none).set jb (some (.tup [.str word, d]))).set jm (some (.han st'.length)) := by
          rw [List.set_comm _ _ (Ne.symm him), List.set_comm _ _ (Ne.symm hij), List.set_set]
        rw [el] at e4
        exact h _ _ ((x1.trans x2).trans x3) m3 _ e4
      | [], h => exact h.elim
      | _ :: _ :: _, h => exact h.elim
    · rw [if_neg hc] at h
      by_cases hc' : c ∈ cs ∧ i < ro.length ∧ as = []
      · rw [if_pos hc'] at h
        obtain ⟨hc1, hc2, rfl⟩ := hc'
        intro io H x1 m1 dd hd'
        have hdd : dd = none := hd'
        subst hdd
        refine ⟨false, hcf c hc1, (fun z => nomatch z), fun _ => ⟨true, hcs c hc1, fun _ a ha => ?_, fun z => nomatch z⟩⟩
        have m2 : Em X.K ((⟨io, st', H, w.pv⟩ : Wd).push a (XO (.ref (He.ga X.K c)) none a) (.exn c)) := m1.push ha upd_same
        have x2 : Ext (⟨io, st', H, w.pv⟩ : Wd) ((⟨io, st', H, w.pv⟩ : Wd).push a (XO (.ref (He.ga X.K c)) none a) (.exn c)) := Ext.push m1 ha
        have hσ : i < σ.length := by rw [e.len]; exact hc2
        have gi : (σ.set i (some (.ref a)))[i]? = some (some (.ref a)) := List.getElem?_set_self hσ
        have e2 := ((e.mono x1 m1).mono x2 m2).set (i := i) (v := .ref a) (d := .han st'.length) (.han (push_at m1))
        have e3 := e2.set (i := jb) (v := .non) (d := .non) .non
        have gj : (((σ.set i (some (.ref a))).set jb (some .non)))[i]? = some (some (.ref a)) := by rw [List.getElem?_set_ne (Ne.symm hij)]; exact gi
        refine ⟨.ref a, gj, ?_⟩
        have e4 := (e3.set (i := jm) (v := .ref a) (d := .han st'.length) (.han (push_at m1))).unset i
        have el : ((((ro.set i (some (Da.han st'.length))).set jb (some .non)).set jm (some (.han st'.length))).set i none) = ((ro.set i none).set jb (some .non)).set jm (some (.han st'.length)) := by
          rw [List.set_comm _ _ (Ne.symm him), List.set_comm _ _ (Ne.symm hij), List.set_set]
        rw [el] at e4
        exact h _ _ (x1.trans x2) m2 _ e4
      · rw [if_neg hc'] at h
        exact h.elim
end
end CL
namespace CL
open PySem PySem.Spec PyProof.Rows L2
abbrev ZR (h : Heap) (z ti to_ : Addr) (g : Value) (b : Bool) : Prop :=
  h.get? z = some { cls := .type "zip", dict := none, data := .fields #[g, .bool b, .bool false, .ref ti, .ref to_], slots := #[] }
def ZS (h : Heap) (z ti to_ : Addr) : Prop := ∃ (g : Value) (b : Bool), ZR h z ti to_ g b ∧ (g = .none ∨ ∃ q : Addr, g = rawInt q)
section
variable {P : Program} {wd : World} {A : Around} {E : Value → Shared → Prop} {s : Shared} {z ti to_ j1 j2 p1 p2 : Addr} {m1 m2 : Nat} {us vs : Array Value}
theorem zs_free {g : Value} {b : Bool} {Q : Bool → Shared → Prop} (hr : ZR s.heap z ti to_ g b) (hg : g = .none ∨ ∃ q : Addr, g = rawInt q ∧ s.heap.get? q = none) (hq : Q true s) :
    wpAny (model P wd) A (Builtin.SmallTypes.ownedTupleIsFree (.ref z)) Q E s := by
  unfold Builtin.SmallTypes.ownedTupleIsFree
  rcases hg with rfl | ⟨q, rfl, hd⟩
  · exact wpAny_bind (wpAny_field hr rfl (x := Value.none) rfl (wpAny_pure hq))
  · refine wpAny_bind (wpAny_field hr rfl (x := rawInt q) rfl ?_)
    show wpAny _ _ (loadIfAlive ((q : Int).toNat) >>= fun o => _) _ _ s
    rw [Int.toNat_natCast]
    have hl : ∀ (R : Option Obj → Shared → Prop), R none s → wpAny (model P wd) A (loadIfAlive q) R E s := fun R r => by
      have r' : R (s.heap.get? q) s := by rw [hd]; exact r
      exact fun _ _ _ => r'
    refine wpAny_bind (hl _ ?_)
    simp only [Option.isNone_none, if_true]
    exact wpAny_pure hq
theorem zs_item_free {g : Value} {b : Bool} {x y c d : Value} {Q : Value → Shared → Prop} (D : ZipApart z ti to_ j1 j2 p1 p2) (hr : ZR s.heap z ti to_ g b)
    (hg : g = .none ∨ ∃ q : Addr, g = rawInt q ∧ s.heap.get? q = none)
    (ht : IsPair s.heap ti (.ref j1) (.ref j2)) (ho : IsPair s.heap to_ c d) (k1 : s.heap.IsListIter j1 p1 m1) (k2 : s.heap.IsListIter j2 p2 m2) (l1 : s.heap.IsList p1 us) (l2 : s.heap.IsList p2 vs)
    (hx : us[m1]? = some x) (hy : vs[m2]? = some y)
    (hQ : ∀ h', ZS h' z ti to_ → IsPair h' ti (.ref j1) (.ref j2) → (∃ c d, IsPair h' to_ c d) → h'.IsListIter j1 p1 (m1 + 1) → h'.IsListIter j2 p2 (m2 + 1) → IsPair h' s.heap.objs.size x y → h'.objs.size = s.heap.objs.size + 1 →
      (∀ a o, a ≠ z → a ≠ to_ → a ≠ j1 → a ≠ j2 → s.heap.get? a = some o → h'.get? a = some o) → Q (.ref s.heap.objs.size) { s with heap := h' }) :
    wpAny (model P wd) A (Builtin.«zip.__next__» ⟨[.ref z], []⟩) (fun fin s' => ∃ v, fin = .done (.ret v) ∧ Q v s') E s := by
  show wpAny _ _ (field (.ref z) 2 >>= fun o => _) _ _ s
  refine wpAny_bind (wpAny_field hr rfl (x := Value.bool false) rfl ?_)
  show wpAny _ _ (field (.ref z) 3 >>= fun o => _) _ _ s
  refine wpAny_bind (wpAny_field hr rfl (x := Value.ref ti) rfl ?_)
  refine wpAny_bind (wpAny_seqItems ht rfl ?_)
  show wpAny _ _ (Builtin.SmallTypes.ownedTupleIsFree (.ref z) >>= fun o => _) _ _ s
  refine wpAny_bind (zs_free hr hg ?_)
  simp only [if_true]
  refine wpAny_bind (wpAny_rule ?_)
  refine wpAny_bind (wpAny_field hr rfl (x := Value.ref to_) rfl ?_)
  refine wpAny_bind (wpAny_setField_rec hr (by simp) fun a1 r1 e1 => ?_)
  replace r1 : ZR a1 z ti to_ .ellipsis b := r1
  refine wpAny_bind ?_
  simp only [List.zipIdx_cons, List.zipIdx_nil, List.forIn_cons, List.forIn_nil]
  refine wpAny_bind (wpAny_bind (wpAny_onRaise ?_))
  show wpAny _ _ (Builtin.SmallTypes.nextOf (.ref j1) >>= fun o => _) _ _ _
  have k1' := k1.extBut e1.extBut D.i1z
  have l1' := l1.extBut e1.extBut D.l1z
  refine wpAny_bind (wpAny_nextOf_list_item k1' l1' hx fun a2 q1 e2 => wpAny_pure ?_)
  have o2 : IsPair a2 to_ c d := e2.extBut _ _ D.TOi1 (e1.extBut _ _ D.TOz ho)
  refine wpAny_bind (wpAny_seqItems o2 rfl ?_)
  refine wpAny_bind (wpAny_updateSeq_pair o2 fun a3 o3 e3 => ?_)
  replace o3 : IsPair a3 to_ x d := o3
  refine wpAny_bind (wpAny_letGo (wpAny_pure ?_))
  refine wpAny_bind (wpAny_bind (wpAny_onRaise ?_))
  show wpAny _ _ (Builtin.SmallTypes.nextOf (.ref j2) >>= fun o => _) _ _ _
  have k2' := ((k2.extBut e1.extBut D.i2z).extBut e2.extBut D.i12.symm).extBut e3.extBut D.TOi2.symm
  have l2' := ((l2.extBut e1.extBut D.l2z).extBut e2.extBut D.l2i1).extBut e3.extBut D.l2TO
  refine wpAny_bind (wpAny_nextOf_list_item k2' l2' hy fun a4 q2 e4 => wpAny_pure ?_)
  have o4 : IsPair a4 to_ x d := e4.extBut _ _ D.TOi2 o3
  refine wpAny_bind (wpAny_seqItems o4 rfl ?_)
  refine wpAny_bind (wpAny_updateSeq_pair o4 fun a5 o5 e5 => ?_)
  replace o5 : IsPair a5 to_ x y := o5
  refine wpAny_bind (wpAny_letGo (wpAny_pure (wpAny_pure ?_)))
  refine wpAny_bind (wpAny_seqItems o5 rfl ?_)
  refine wpAny_bind (wpAny_newTuple ?_)
  have sz : a5.objs.size = s.heap.objs.size := by rw [e5.1, e4.1, e3.1, e2.1, e1.1]
  have r5 : ZR a5 z ti to_ .ellipsis b := e5.extBut _ _ D.TOz.symm (e4.extBut _ _ D.i2z.symm (e3.extBut _ _ D.TOz.symm (e2.extBut _ _ D.i1z.symm r1)))
  have w5 : ∀ a o, a ≠ z → a ≠ to_ → a ≠ j1 → a ≠ j2 → s.heap.get? a = some o → a5.get? a = some o := fun a o n1 n2 n3 n4 e => e5.extBut _ _ n2 (e4.extBut _ _ n4 (e3.extBut _ _ n2 (e2.extBut _ _ n3 (e1.extBut _ _ n1 e))))
  have q1' : a5.IsListIter j1 p1 (m1 + 1) := ((q1.extBut e3.extBut D.TOi1.symm).extBut e4.extBut D.i12).extBut e5.extBut D.TOi1.symm
  have q2' : a5.IsListIter j2 p2 (m2 + 1) := q2.extBut e5.extBut D.TOi2.symm
  have zl : z < a5.objs.size := Heap.lt_size r5
  show wpAny _ _ (Builtin.SmallTypes.ownedTupleHandOut (.ref z) (.ref a5.objs.size) >>= fun o => _) _ _ _
  refine wpAny_bind ?_
  unfold Builtin.SmallTypes.ownedTupleHandOut
  have r6 : ZR (a5.push { cls := .type "tuple", data := .seq #[x, y] }) z ti to_ .ellipsis b := Heap.get?_push_of_some _ r5
  refine wpAny_bind (wpAny_setField_rec r6 (by simp) fun a7 r7 e7 => ?_)
  replace r7 : ZR a7 z ti to_ (rawInt a5.objs.size) b := r7
  refine wpAny_setField_rec r7 (by simp) fun a8 r8 e8 => ?_
  replace r8 : ZR a8 z ti to_ (rawInt a5.objs.size) false := r8
  have up : ∀ a o, a ≠ z → a5.get? a = some o → a8.get? a = some o := fun a o n1 e => e8.extBut _ _ n1 (e7.extBut _ _ n1 (Heap.get?_push_of_some _ e))
  have t8 : IsPair a8 a5.objs.size x y := e8.extBut _ _ (Nat.ne_of_gt zl) (e7.extBut _ _ (Nat.ne_of_gt zl) (Heap.get?_push_size _ rfl))
  have z8 : a8.objs.size = a5.objs.size + 1 := by rw [e8.1, e7.1, Heap.size_push]
  rw [sz] at t8 z8
  refine wpAny_pure ⟨_, rfl, ?_⟩
  show Q (.ref a5.objs.size) _
  rw [sz]
  exact hQ a8 ⟨_, _, r8, .inr ⟨_, rfl⟩⟩ (up _ _ D.TIz (w5 _ _ D.TIz D.TITO D.TIi1 D.TIi2 ht)) ⟨_, _, up _ _ D.TOz o5⟩ (q1'.at fun o e => up _ o D.i1z e) (q2'.at fun o e => up _ o D.i2z e) t8 z8
    fun a o n1 n2 n3 n4 e => up a o n1 (w5 a o n1 n2 n3 n4 e)
/-- the next of a zip, whatever became of the pair that it gave out -/
theorem zs_item {x y c d : Value} {Q : Value → Shared → Prop} (D : ZipApart z ti to_ j1 j2 p1 p2) (hr : ZS s.heap z ti to_)
    (ht : IsPair s.heap ti (.ref j1) (.ref j2)) (ho : IsPair s.heap to_ c d) (k1 : s.heap.IsListIter j1 p1 m1) (k2 : s.heap.IsListIter j2 p2 m2) (l1 : s.heap.IsList p1 us) (l2 : s.heap.IsList p2 vs)
    (hx : us[m1]? = some x) (hy : vs[m2]? = some y)
    (hQ : ∀ h', ZS h' z ti to_ → IsPair h' ti (.ref j1) (.ref j2) → (∃ c d, IsPair h' to_ c d) → h'.IsListIter j1 p1 (m1 + 1) → h'.IsListIter j2 p2 (m2 + 1) → IsPair h' s.heap.objs.size x y → h'.objs.size = s.heap.objs.size + 1 →
      (∀ a o, a ≠ z → a ≠ to_ → a ≠ j1 → a ≠ j2 → s.heap.get? a = some o → h'.get? a = some o) → Q (.ref s.heap.objs.size) { s with heap := h' }) :
    wpAny (model P wd) A (Builtin.SmallTypes.nextOf (.ref z)) Q E s := by
  obtain ⟨g, b, hr, hg⟩ := hr
  have ty : s.TypeIs (.ref z) "zip" := ⟨_, hr, rfl⟩
  unfold Builtin.SmallTypes.nextOf
  refine wpAny_bind (wpAny_callSpecial?_slot (name := Str.ofString "__next__") ty F.slot_zip_next (wpAny_call_entry F.slot_zip_next ty F.entry_zip_next ?_ (F.args_zip_next_1 _)))
  rcases hg with rfl | ⟨q, rfl⟩
  · exact zs_item_free D hr (.inl rfl) ht ho k1 k2 l1 l2 hx hy fun h' a1 a2 a3 a4 a5 a6 a7 a8 => wpAny_pure (hQ h' a1 a2 a3 a4 a5 a6 a7 a8)
  · cases hl : s.heap.get? q with
    | none => exact zs_item_free D hr (.inr ⟨q, rfl, hl⟩) ht ho k1 k2 l1 l2 hx hy fun h' a1 a2 a3 a4 a5 a6 a7 a8 => wpAny_pure (hQ h' a1 a2 a3 a4 a5 a6 a7 a8)
    | some oq =>
      refine zip_next_item_held D hr hl ht k1 k2 l1 l2 hx hy fun h' b1 b2 b3 b4 b5 b6 => wpAny_pure (hQ h' ⟨_, _, b1, .inr ⟨_, rfl⟩⟩ ?_ ⟨c, d, ?_⟩ b2 b3 b4 b5 fun a o n1 n2 n3 n4 e => b6 a o n1 n3 n4 e)
      · exact b6 _ _ D.TIz D.TIi1 D.TIi2 ht
      · exact b6 _ _ D.TOz D.TOi1 D.TOi2 ho
theorem zs_end_free {g : Value} {b : Bool} {c d : Value} {Q : Fin → Shared → Prop} (hh : A.handled = none) (D : ZipApart z ti to_ j1 j2 p1 p2) (hr : ZR s.heap z ti to_ g b)
    (hg : g = .none ∨ ∃ q : Addr, g = rawInt q ∧ s.heap.get? q = none)
    (ht : IsPair s.heap ti (.ref j1) (.ref j2)) (ho : IsPair s.heap to_ c d) (k1 : s.heap.IsListIter j1 p1 m1) (k2 : s.heap.IsListIter j2 p2 m2) (l1 : s.heap.IsList p1 us) (l2 : s.heap.IsList p2 vs)
    (hend : us[m1]? = none ∨ vs[m2]? = none)
    (hE : ∀ h' e, (∀ a o, a ≠ z → a ≠ to_ → a ≠ j1 → a ≠ j2 → s.heap.get? a = some o → h'.get? a = some o) → (∃ o, h'.get? e = some o ∧ o.cls = .type "StopIteration") → E (.ref e) { s with heap := h' }) :
    wpAny (model P wd) A (Builtin.«zip.__next__» ⟨[.ref z], []⟩) Q E s := by
  show wpAny _ _ (field (.ref z) 2 >>= fun o => _) _ _ s
  refine wpAny_bind (wpAny_field hr rfl (x := Value.bool false) rfl ?_)
  show wpAny _ _ (field (.ref z) 3 >>= fun o => _) _ _ s
  refine wpAny_bind (wpAny_field hr rfl (x := Value.ref ti) rfl ?_)
  refine wpAny_bind (wpAny_seqItems ht rfl ?_)
  show wpAny _ _ (Builtin.SmallTypes.ownedTupleIsFree (.ref z) >>= fun o => _) _ _ s
  refine wpAny_bind (zs_free hr hg ?_)
  simp only [if_true]
  refine wpAny_bind (wpAny_rule ?_)
  refine wpAny_bind (wpAny_field hr rfl (x := Value.ref to_) rfl ?_)
  refine wpAny_bind (wpAny_setField_rec hr (by simp) fun a1 r1 e1 => ?_)
  replace r1 : ZR a1 z ti to_ .ellipsis b := r1
  refine wpAny_bind ?_
  simp only [List.zipIdx_cons, List.zipIdx_nil, List.forIn_cons, List.forIn_nil]
  refine wpAny_bind (wpAny_bind (wpAny_onRaise ?_))
  show wpAny _ _ (Builtin.SmallTypes.nextOf (.ref j1) >>= fun o => _) _ _ _
  have k1' := k1.extBut e1.extBut D.i1z
  have l1' := l1.extBut e1.extBut D.l1z
  cases hx : us[m1]? with
  | none =>
    refine wpAny_bind (wpAny_nextOf_list_end hh k1' l1' hx fun a2 e e2 he => ?_)
    obtain ⟨oe, w1, w2⟩ := he
    have r2 : ZR a2 z ti to_ .ellipsis b := e2 _ _ D.i1z.symm r1
    have ne : e ≠ z := fun q => by subst q; rw [r2] at w1; cases w1; simp at w2
    refine wpAny_setField_rec r2 (by simp) fun a3 _ e3 => hE a3 e (fun a o n1 _ n3 _ q => e3.extBut _ _ n1 (e2 _ _ n3 (e1.extBut _ _ n1 q))) ⟨oe, e3.extBut _ _ ne w1, w2⟩
  | some x =>
    have hy : vs[m2]? = none := by
      rcases hend with q | q
      · rw [hx] at q; cases q
      · exact q
    refine wpAny_bind (wpAny_nextOf_list_item k1' l1' hx fun a2 q1 e2 => wpAny_pure ?_)
    have o2 : IsPair a2 to_ c d := e2.extBut _ _ D.TOi1 (e1.extBut _ _ D.TOz ho)
    refine wpAny_bind (wpAny_seqItems o2 rfl ?_)
    refine wpAny_bind (wpAny_updateSeq_pair o2 fun a3 o3 e3 => ?_)
    refine wpAny_bind (wpAny_letGo (wpAny_pure ?_))
    refine wpAny_bind (wpAny_bind (wpAny_onRaise ?_))
    show wpAny _ _ (Builtin.SmallTypes.nextOf (.ref j2) >>= fun o => _) _ _ _
    have k2' := ((k2.extBut e1.extBut D.i2z).extBut e2.extBut D.i12.symm).extBut e3.extBut D.TOi2.symm
    have l2' := ((l2.extBut e1.extBut D.l2z).extBut e2.extBut D.l2i1).extBut e3.extBut D.l2TO
    refine wpAny_bind (wpAny_nextOf_list_end hh k2' l2' hy fun a4 e e4 he => ?_)
    obtain ⟨oe, w1, w2⟩ := he
    have r4 : ZR a4 z ti to_ .ellipsis b := e4 _ _ D.i2z.symm (e3.extBut _ _ D.TOz.symm (e2.extBut _ _ D.i1z.symm r1))
    have ne : e ≠ z := fun q => by subst q; rw [r4] at w1; cases w1; simp at w2
    refine wpAny_setField_rec r4 (by simp) fun a5 _ e5 => hE a5 e (fun a o n1 n2 n3 n4 q => e5.extBut _ _ n1 (e4 _ _ n4 (e3.extBut _ _ n2 (e2.extBut _ _ n3 (e1.extBut _ _ n1 q))))) ⟨oe, e5.extBut _ _ ne w1, w2⟩
theorem zs_end {c d : Value} {Q : Value → Shared → Prop} (hh : A.handled = none) (D : ZipApart z ti to_ j1 j2 p1 p2) (hr : ZS s.heap z ti to_)
    (ht : IsPair s.heap ti (.ref j1) (.ref j2)) (ho : IsPair s.heap to_ c d) (k1 : s.heap.IsListIter j1 p1 m1) (k2 : s.heap.IsListIter j2 p2 m2) (l1 : s.heap.IsList p1 us) (l2 : s.heap.IsList p2 vs)
    (hend : us[m1]? = none ∨ vs[m2]? = none)
    (hE : ∀ h' e, (∀ a o, a ≠ z → a ≠ to_ → a ≠ j1 → a ≠ j2 → s.heap.get? a = some o → h'.get? a = some o) → (∃ o, h'.get? e = some o ∧ o.cls = .type "StopIteration") → E (.ref e) { s with heap := h' }) :
    wpAny (model P wd) A (Builtin.SmallTypes.nextOf (.ref z)) Q E s := by
  obtain ⟨g, b, hr, hg⟩ := hr
  have ty : s.TypeIs (.ref z) "zip" := ⟨_, hr, rfl⟩
  unfold Builtin.SmallTypes.nextOf
  refine wpAny_bind (wpAny_callSpecial?_slot (name := Str.ofString "__next__") ty F.slot_zip_next (wpAny_call_entry F.slot_zip_next ty F.entry_zip_next ?_ (F.args_zip_next_1 _)))
  rcases hg with rfl | ⟨q, rfl⟩
  · exact zs_end_free hh D hr (.inl rfl) ht ho k1 k2 l1 l2 hend hE
  · cases hl : s.heap.get? q with
    | none => exact zs_end_free hh D hr (.inr ⟨q, rfl, hl⟩) ht ho k1 k2 l1 l2 hend hE
    | some oq => exact zip_next_end_held hh D hr hl ht k1 k2 l1 l2 hend fun h' e w he => hE h' e (fun a o n1 n2 n3 n4 q => w a o n1 n3 n4 q) he
/-- the next of an enumerate, by what the next of the thing within does -/
theorem en_item {e it : Addr} {i : Nat} {old : Value} {Q : Option Value → Shared → Prop} (he : IsEnum s.heap e it i old)
    (hin : wpAny (model P wd) A.in1 (Builtin.SmallTypes.nextOf (.ref it)) (fun x s1 => IsEnum s1.heap e it i old ∧ ∀ h', IsEnumOut h' e it ((i : Int) + 1) x s1.heap.objs.size →
      h'.get? s1.heap.objs.size = some { cls := .type "tuple", data := .seq #[.int i s1.toks, x] } → h'.objs.size = s1.heap.objs.size + 1 →
      (∀ a o, a ≠ e → s1.heap.get? a = some o → h'.get? a = some o) → Q (some (.ref s1.heap.objs.size)) { s1 with heap := h', toks := s1.toks + 1 }) (fun _ _ => False) s) :
    wpAny (model P wd) A (pyNext (.ref e)) Q E s := by
  have ty : s.TypeIs (.ref e) "enumerate" := ⟨_, he, rfl⟩
  unfold pyNext
  refine wpAny_bind (wpAny_attempt (wpAny_callSpecial?_slot (name := Str.ofString "__next__") ty F.slot_enumerate_next (wpAny_call_entry F.slot_enumerate_next ty F.entry_enumerate_next ?_ (F.args_enumerate_next_1 _))))
  show wpAny _ _ (field (.ref e) 2 >>= fun o => _) _ _ s
  refine wpAny_bind (wpAny_field he rfl (x := Value.ref it) rfl ?_)
  refine wpAny_bind (wpAny_mono hin ?_ (fun _ _ q => q.elim))
  rintro x ⟨g1, gg, dd, tk, os⟩ ⟨he1, hQ⟩
  replace he1 : IsEnum g1 e it i old := he1
  dsimp only at hQ
  show wpAny _ _ (field (.ref e) 3 >>= fun o => _) _ _ ⟨g1, gg, dd, tk, os⟩
  refine wpAny_bind (wpAny_field he1 rfl (x := rawInt i) rfl ?_)
  show wpAny _ _ (field (.ref e) 4 >>= fun o => _) _ _ ⟨g1, gg, dd, tk, os⟩
  refine wpAny_bind (wpAny_field he1 rfl (x := Value.none) rfl ?_)
  show wpAny _ _ (mkInt i >>= fun o => _) _ _ ⟨g1, gg, dd, tk, os⟩
  refine wpAny_bind (wpAny_mkInt ?_)
  show wpAny _ _ (setField (.ref e) 3 (rawInt ((i : Int) + 1)) >>= fun o => _) _ _ ⟨g1, gg, dd, tk + 1, os⟩
  refine wpAny_bind (wpAny_setField_rec he1 (by simp) fun g2 he2 e2 => ?_)
  replace he2 : IsEnum g2 e it ((i : Int) + 1) old := he2
  replace e2 : Heap.SameBut e g1 g2 := e2
  show wpAny _ _ (setField (.ref e) 4 .none >>= fun o => _) _ _ ⟨g2, gg, dd, tk + 1, os⟩
  refine wpAny_bind (wpAny_setField_rec he2 (by simp) fun g3 he3 e3 => ?_)
  replace he3 : IsEnum g3 e it ((i : Int) + 1) old := he3
  replace e3 : Heap.SameBut e g2 g3 := e3
  show wpAny _ _ (newTuple [.int i tk, x] >>= fun o => _) _ _ ⟨g3, gg, dd, tk + 1, os⟩
  refine wpAny_bind (wpAny_newTuple ?_)
  have sz : g3.objs.size = g1.objs.size := by rw [e3.1, e2.1]
  have lt : e < g1.objs.size := Heap.lt_size he1
  have he4 : IsEnum (g3.push { cls := .type "tuple", data := .seq #[.int i tk, x] }) e it ((i : Int) + 1) old := Heap.get?_push_of_some _ he3
  have t4 : (g3.push { cls := .type "tuple", data := .seq #[.int i tk, x] }).get? g1.objs.size = some { cls := .type "tuple", data := .seq #[.int i tk, x] } := by
    rw [← sz]; exact Heap.get?_push_size _ rfl
  have z4 : (g3.push { cls := .type "tuple", data := .seq #[.int i tk, x] }).objs.size = g1.objs.size + 1 := by rw [Heap.size_push, sz]
  have w4 : ∀ a o, a ≠ e → g1.get? a = some o → (g3.push { cls := .type "tuple", data := .seq #[.int i tk, x] }).get? a = some o := fun a o n q => Heap.get?_push_of_some _ (e3.extBut a o n (e2.extBut a o n q))
  generalize g3.push { cls := .type "tuple", data := .seq #[.int i tk, x] } = g4 at he4 t4 z4 w4
  show wpAny _ _ (Builtin.SmallTypes.ownedTupleIsFree (.ref e) >>= fun o => _) _ _ ⟨g4, gg, dd, tk + 1, os⟩
  rw [sz]
  refine wpAny_bind ?_
  unfold Builtin.SmallTypes.ownedTupleIsFree
  refine wpAny_bind (wpAny_field he4 rfl (x := Value.none) rfl (wpAny_pure ?_))
  simp only [if_true]
  refine wpAny_bind (wpAny_rule ?_)
  refine wpAny_bind (wpAny_field he4 rfl (x := old) rfl ?_)
  refine wpAny_bind (wpAny_setField_rec he4 (by simp) fun g5 he5 e5 => ?_)
  replace he5 : IsEnum g5 e it ((i : Int) + 1) x := he5
  replace e5 : Heap.SameBut e g4 g5 := e5
  show wpAny _ _ (Builtin.SmallTypes.ownedTupleHandOut (.ref e) (.ref g1.objs.size) >>= fun o => _) _ _ ⟨g5, gg, dd, tk + 1, os⟩
  refine wpAny_bind ?_
  unfold Builtin.SmallTypes.ownedTupleHandOut
  refine wpAny_bind (wpAny_setField_rec he5 (by simp) fun g6 he6 e6 => ?_)
  replace he6 : IsEnumOut g6 e it ((i : Int) + 1) x g1.objs.size := he6
  replace e6 : Heap.SameBut e g5 g6 := e6
  refine wpAny_setField_rec he6 (by simp) fun g7 he7 e7 => ?_
  replace he7 : IsEnumOut g7 e it ((i : Int) + 1) x g1.objs.size := he7
  replace e7 : Heap.SameBut e g6 g7 := e7
  refine wpAny_bind (wpAny_letGo (wpAny_pure ⟨_, rfl, wpAny_pure ?_⟩))
  refine hQ g7 he7 ?_ ?_ ?_
  · exact e7.extBut _ _ (Nat.ne_of_gt lt) (e6.extBut _ _ (Nat.ne_of_gt lt) (e5.extBut _ _ (Nat.ne_of_gt lt) t4))
  · rw [e7.1, e6.1, e5.1, z4]
  · exact fun a o n q => e7.extBut a o n (e6.extBut a o n (e5.extBut a o n (w4 a o n q)))
theorem en_end {e it : Addr} {i : Int} {old : Value} {Q : Option Value → Shared → Prop} (he : IsEnum s.heap e it i old)
    (hin : wpAny (model P wd) A.in1 (Builtin.SmallTypes.nextOf (.ref it)) (fun _ _ => False) (fun v s1 => ∃ h' x, v = .ref x ∧ s1 = { s with heap := h' } ∧ (∃ o, h'.get? x = some o ∧ o.cls = .type "StopIteration") ∧ Q none { s with heap := h' }) s) :
    wpAny (model P wd) A (pyNext (.ref e)) Q E s := by
  have ty : s.TypeIs (.ref e) "enumerate" := ⟨_, he, rfl⟩
  unfold pyNext
  refine wpAny_bind (wpAny_attempt (wpAny_callSpecial?_slot (name := Str.ofString "__next__") ty F.slot_enumerate_next (wpAny_call_entry F.slot_enumerate_next ty F.entry_enumerate_next ?_ (F.args_enumerate_next_1 _))))
  show wpAny _ _ (field (.ref e) 2 >>= fun o => _) _ _ s
  refine wpAny_bind (wpAny_field he rfl (x := Value.ref it) rfl ?_)
  refine wpAny_bind (wpAny_mono hin (fun _ _ q => q.elim) ?_)
  rintro v s1 ⟨h', x, rfl, rfl, ⟨o, w1, w2⟩, q⟩
  refine wpAny_bind (wpAny_isInstance (T := "StopIteration") (b := true) ⟨o, w1, w2⟩ isSubtype_stop ?_)
  exact wpAny_pure q
end
end CL
namespace CL
open PySem PySem.Spec PyProof.Rows L2
theorem ez_new (z ti to_ : Addr) : Meets (Builtin.«enumerate.__new__» ⟨[.type "enumerate", .ref z], []⟩) (fun _ R s => IsZip s.heap z ti to_ .none ∧
    R (.ok (.ret (.ref s.heap.objs.size))) { s with heap := s.heap.push { cls := .type "enumerate", data := .fields #[.none, .bool false, .ref z, rawInt 0, .none, .none] } }) :=
  .of_wp fun prog w A R s h => by
    obtain ⟨hp, g, d, tk, os⟩ := s
    obtain ⟨hz, h⟩ := h
    have hsub := sub_enumerate
    wp_walk using AutoSeq1.wpAny_loadPart' hz
    refine wpAny_stack_any fun st => wpAny_pure ?_
    split
    · rename_i c _ _ _ _ _
      cases (c == Value.type "enumerate") <;> (wp_walk using AutoSeq1.wpAny_loadPart' hz, wpAny_pyIter_zip hz; exact ⟨_, rfl, h⟩)
    · wp_walk using AutoSeq1.wpAny_loadPart' hz, wpAny_pyIter_zip hz
      exact ⟨_, rfl, h⟩
theorem call_ez {prog : Program} {w : World} {A : Around} {E : Value → Shared → Prop} {s : Shared} {z ti to_ : Addr} {Q : Value → Shared → Prop} (hz : IsZip s.heap z ti to_ .none)
    (h : ∀ h', IsEnum h' s.heap.objs.size z 0 .none → (∀ b o, s.heap.get? b = some o → h'.get? b = some o) → Q (.ref s.heap.objs.size) { s with heap := h' }) :
    wpAny (model prog w) A (call (.type "enumerate") [.ref z]) Q E s := by
  refine callType_new F.called_enumerate (by decide) (F.typeCall_enumerate_1 _) (F.newCall_enumerate_1 _) (fun obj => F.args_object_init_2 obj _) F.entry_enumerate_new (ez_new z ti to_) ⟨hz, ?_⟩
  show _ ∧ _
  have he : IsEnum (s.heap.push { cls := .type "enumerate", data := .fields #[.none, .bool false, .ref z, rawInt 0, .none, .none] }) s.heap.objs.size z 0 .none := Heap.get?_push_size _ rfl
  exact ⟨⟨_, he, rfl⟩, h _ he fun b o q => Heap.get?_push_of_some _ q⟩
/-- pairs within pairs -/
def Itn (K : PySem.W.Frag) (a b : Addr) : It :=
  ⟨fun i H => ∃ (xs ys : List V) (x y : V), SqL K H a xs ∧ SqL K H b ys ∧ xs[i]? = some x ∧ ys[i]? = some y,
    fun i H v H' => ∃ T U x y, v = .ref U ∧ H T = none ∧ upd H T (.tup [x, y]) U = none ∧ H' = upd (upd H T (.tup [x, y])) U (.tup [.int (i : Nat), .ref T]) ∧ (∀ xs, SqL K H a xs → xs[i]? = some x) ∧ ∀ ys, SqL K H b ys → ys[i]? = some y,
    fun i H => ∃ xs ys : List V, SqL K H a xs ∧ SqL K H b ys ∧ (xs.length ≤ i ∨ ys.length ≤ i)⟩
theorem fp_upd {X : Cx} {pins : List (Addr × Obj)} {H : Hp} {b T : Addr} {o : HO} (h : FpOk X pins H b) (ne : b ≠ T) : FpOk X pins (upd H T o) b :=
  ⟨by rw [upd_ne ne]; exact h.1, h.2⟩
def EzSt (e z ti to_ j1 j2 a b : Addr) (i : Nat) (h : Heap) : Prop :=
  (∃ old, IsEnum h e z ((i : Nat) : Int) old) ∧ ZS h z ti to_ ∧ IsPair h ti (.ref j1) (.ref j2) ∧ (∃ x y, IsPair h to_ x y) ∧ h.IsListIter j1 a i ∧ h.IsListIter j2 b i
theorem EzSt.at {e z ti to_ j1 j2 a b : Addr} {i : Nat} {h h' : Heap} (st : EzSt e z ti to_ j1 j2 a b i h) (k : ∀ c ∈ [e, z, ti, to_, j1, j2], ∀ o, h.get? c = some o → h'.get? c = some o) : EzSt e z ti to_ j1 j2 a b i h' := by
  obtain ⟨⟨old, he⟩, ⟨g, f, hz, hg⟩, ht, ⟨x, y, ho⟩, h1, h2⟩ := st
  exact ⟨⟨old, k e (by simp) _ he⟩, ⟨g, f, k z (by simp) _ hz, hg⟩, k ti (by simp) _ ht, ⟨x, y, k to_ (by simp) _ ho⟩, h1.at fun o q => k j1 (by simp) o q, h2.at fun o q => k j2 (by simp) o q⟩
theorem turn_ez {P : Program} {w : World} {K : PySem.W.Frag} {elts : List Expr} {kk : Nat} {tpos : Pos} {e z ti to_ j1 j2 a b : Addr} (D : ZipApart z ti to_ j1 j2 a b) (ne : ∀ c ∈ [z, ti, to_, j1, j2], e ≠ c) (nb : b ≠ e) (na : a ≠ e) :
    Turn P w K (.Tuple elts kk tpos) (Itn K a b) [e, z, ti, to_, j1, j2] e (EzSt e z ti to_ j1 j2 a b) where
  mem := by simp
  obj := fun i h st c hc => by
    obtain ⟨⟨old, he⟩, ⟨g, f, hz, hg⟩, ht, ⟨x, y, ho⟩, ⟨o1, e1, _, d1⟩, ⟨o2, e2, _, d2⟩⟩ := st
    have q : c = e ∨ c = z ∨ c = ti ∨ c = to_ ∨ c = j1 ∨ c = j2 := by simpa using hc
    rcases q with q | q | q | q | q | q <;> subst q
    · exact ⟨_, he, fun v z => nomatch z⟩
    · exact ⟨_, hz, fun v z => nomatch z⟩
    · exact ⟨_, ht, fun v z => nomatch z⟩
    · exact ⟨_, ho, fun v z => nomatch z⟩
    · exact ⟨o1, e1, fun v z => by rw [d1] at z; cases z⟩
    · exact ⟨o2, e2, fun v z => by rw [d2] at z; cases z⟩
  keep := fun i h h' st k => st.at k
  item := by
    intro X hP hw hK hc i pins s σ H E I hf st hg
    subst hP hw hK
    obtain ⟨⟨old, he⟩, hz, ht, ⟨c0, d0, ho⟩, h1, h2⟩ := st
    obtain ⟨xs, ys, x, y, qx, qy, hx, hy⟩ := hg
    obtain ⟨us, rv, u1, _⟩ := I.list qx
    obtain ⟨vs, rw', v1, _⟩ := I.list qy
    obtain ⟨u, hu, ru⟩ := rv.get hx
    obtain ⟨v, hv, rv2⟩ := rw'.get hy
    have el : e < s.heap.objs.size := Heap.lt_size he
    have lt : ∀ c ∈ [e, z, ti, to_, j1, j2], c < s.heap.objs.size := fun c hcm => by
      have q : c = e ∨ c = z ∨ c = ti ∨ c = to_ ∨ c = j1 ∨ c = j2 := by simpa using hcm
      rcases q with q | q | q | q | q | q
      · rw [q]; exact el
      · rw [q]; obtain ⟨_, _, q, _⟩ := hz; exact Heap.lt_size q
      · rw [q]; exact Heap.lt_size ht
      · rw [q]; exact Heap.lt_size ho
      · rw [q]; obtain ⟨_, q, _⟩ := h1; exact Heap.lt_size q
      · rw [q]; obtain ⟨_, q, _⟩ := h2; exact Heap.lt_size q
    refine en_item he ?_
    refine zs_item D hz ht ho h1 h2 u1.isList v1.isList (x := u) (y := v) (by simpa using hu) (by simpa using hv) fun g1 z1 t1 o1 i1 i2 hp hs hk => ?_
    have new1 : ObjOk X.prog X.w (upd H s.heap.objs.size (.tup [x, y])) g1 s.heap.objs.size (.tup [x, y]) :=
      ⟨by show 2 ≤ sizeLine; decide, [u, v], .cons ru (.cons rv2 .nil), ⟨_, hp, rfl, _, rfl⟩⟩
    have I1 : Inv X pins σ (upd H s.heap.objs.size (.tup [x, y])) { s with heap := g1 } :=
      I.turnedNew (t' := s.toks) (ch := [z, to_, j1, j2]) (fun c o hb q => hk c o (fun q' => hb (by simp [q'])) (fun q' => hb (by simp [q'])) (fun q' => hb (by simp [q'])) (fun q' => hb (by simp [q'])) q)
        (fun c hcm => hf c (by
          have q : c = z ∨ c = to_ ∨ c = j1 ∨ c = j2 := by simpa using hcm
          rcases q with q | q | q | q <;> simp [q])) (Nat.le_refl _) new1
    have he1 : IsEnum g1 e z i old := hk _ _ (ne z (by simp)) (ne to_ (by simp)) (ne j1 (by simp)) (ne j2 (by simp)) he
    refine ⟨he1, fun g2 ho2 hT hs2 hk2 => ?_⟩
    refine ⟨_, rfl, wpAny_letOwnedTupleGo_enum (s := { s with heap := g2, toks := s.toks + 1 }) ho2 fun g3 he3 sb => ?_⟩
    have el1 : e < g1.objs.size := Heap.lt_size he1
    have hT3 : g3.get? g1.objs.size = some { cls := .type "tuple", data := .seq #[.int i s.toks, .ref s.heap.objs.size] } := (sb.2 _ (Nat.ne_of_gt el1)).trans hT
    have fr2 : upd H s.heap.objs.size (.tup [x, y]) g1.objs.size = none := I1.hok.fresh (Nat.le_refl _)
    have new2 : ObjOk X.prog X.w (upd (upd H s.heap.objs.size (.tup [x, y])) g1.objs.size (.tup [.int (i : Nat), .ref s.heap.objs.size])) g3 g1.objs.size (.tup [.int (i : Nat), .ref s.heap.objs.size]) :=
      ⟨by show 2 ≤ sizeLine; decide, [.int i s.toks, .ref s.heap.objs.size], .cons ⟨_, rfl⟩ (.cons rfl .nil), ⟨_, hT3, rfl, _, rfl⟩⟩
    have ee : e ≠ s.heap.objs.size := Nat.ne_of_lt el
    have I2 := I1.turnedNew (h' := g3) (t' := s.toks + 1) (ch := [e]) (T := g1.objs.size) (fun c o hb q => (sb.2 c (fun q' => hb (by simp [q']))).trans (hk2 c o (fun q' => hb (by simp [q'])) q))
      (fun c hcm => by
        have q : c = e := by simpa using hcm
        rw [q]; exact fp_upd (hf e (by simp)) ee) (Nat.le_refl _) new2
    have up : ∀ c o, c ≠ e → g1.get? c = some o → g3.get? c = some o := fun c o n q => (sb.2 c n).trans (hk2 c o n q)
    refine ⟨.ref g1.objs.size, _, I2, rfl, ⟨_, _, x, y, rfl, I.hok.fresh (Nat.le_refl _), fr2, rfl, fun l hl => by rw [I.list_inj hl qx]; exact hx, fun l hl => by rw [I.list_inj hl qy]; exact hy⟩, ⟨⟨.ref s.heap.objs.size, ?_⟩, ?_, ?_, ?_, ?_, ?_⟩, fun c hcm => ?_⟩
    · have e1 : ((i + 1 : Nat) : Int) = (i : Int) + 1 := by omega
      rw [e1]; exact he3
    · obtain ⟨g, f, q, hq⟩ := z1
      exact ⟨g, f, up _ _ (ne z (by simp)).symm q, hq⟩
    · exact up _ _ (ne ti (by simp)).symm t1
    · obtain ⟨c, d, q⟩ := o1
      exact ⟨c, d, up _ _ (ne to_ (by simp)).symm q⟩
    · exact i1.at fun o q => up _ o (ne j1 (by simp)).symm q
    · exact i2.at fun o q => up _ o (ne j2 (by simp)).symm q
    · have l1 := lt c hcm
      have l2 : c < g1.objs.size := by rw [hs]; exact Nat.lt_succ_of_lt l1
      rw [upd_ne (Nat.ne_of_lt l2), upd_ne (Nat.ne_of_lt l1)]
      exact (hf c hcm).1
  done := by
    intro X hP hw hK hc i pins s σ H E I hf st hg
    subst hP hw hK
    obtain ⟨⟨old, he⟩, hz, ht, ⟨c0, d0, ho⟩, h1, h2⟩ := st
    obtain ⟨xs, ys, qx, qy, hend⟩ := hg
    obtain ⟨us, rv, u1, _⟩ := I.list qx
    obtain ⟨vs, rw', v1, _⟩ := I.list qy
    have n1 := rv.length
    have n2 := rw'.length
    have hn : us.toArray[i]? = none ∨ vs.toArray[i]? = none := by
      rcases hend with q | q
      · exact .inl (by simp; omega)
      · exact .inr (by simp; omega)
    refine en_end he (zs_end (I.ok.hd hc) D hz ht ho h1 h2 u1.isList v1.isList hn fun h' x hk hx => ⟨h', x, rfl, rfl, hx, rfl, ?_⟩)
    exact I.turnedL (t' := s.toks) (ch := [z, to_, j1, j2]) (fun c o hb q => hk c o (fun q' => hb (by simp [q'])) (fun q' => hb (by simp [q'])) (fun q' => hb (by simp [q'])) (fun q' => hb (by simp [q'])) q)
      fun c hcm => hf c (by
        have q : c = z ∨ c = to_ ∨ c = j1 ∨ c = j2 := by simpa using hcm
        rcases q with q | q | q | q <;> simp [q])
  self := fun A i s Q E st h => by
    obtain ⟨⟨old, he⟩, _⟩ := st
    exact wpAny_pyIter_enum he h
def iEz (K : PySem.W.Frag) (ta : TA) : TI := fun σ H R => ta σ H fun vs H1 => ∃ a b xs ys, vs = [.ref a, .ref b] ∧ SqL K H1 a xs ∧ SqL K H1 b ys ∧ R (Itn K a b) H1
theorem pi_ez {X : Cx} {e e2 : Expr} {ta : TA} {p p2 pos pos2 tpos : Pos} {elts : List Expr} {kk : Nat} (hg : Gl X "zip") (hm : X.mg "zip" = none) (hg2 : Gl X "enumerate") (hm2 : X.mg "enumerate" = none) (ha : PA X [e, e2] ta)
    (hs : starEach [e, e2] X.env = (false, eval e X.env) :: starEach [e2] X.env) (hpl : (backTo pos (starEach [e2] X.env)).any (·.1) = false)
    (hs2 : starEach [.Call (.Name "zip" p) [e, e2] [] pos] X.env = [(false, eval (.Call (.Name "zip" p) [e, e2] [] pos) X.env)]) :
    PI X (.Tuple elts kk tpos) (.Call (.Name "enumerate" p2) [.Call (.Name "zip" p) [e, e2] [] pos] [] pos2) (iEz X.K ta) := by
  refine ⟨fun pins s σ H R I h => ?_⟩
  refine Call_ (ld_blt I hg2 hm2 boot_enumerate (PyProof.Rows.callWith_type1 ?_ hs2 rfl))
  rw [hs2]
  refine Calls.spliced_cons ?_
  refine Call_ (ld_blt I hg hm PyProof.Rows.boot_zip (PyProof.Rows.callWith_type1 (thn (ha.run pos pins s σ H _ I h) fun us s1 ⟨vs, H1, I1, r1, q1⟩ => ?_) hs hpl))
  obtain ⟨a, b, xs, ys, ex, qx, qy, q⟩ := q1
  subst ex
  obtain ⟨va, vb, rfl, ra, rb⟩ := vals2 r1
  cases (show va = Value.ref a from ra)
  cases (show vb = Value.ref b from rb)
  obtain ⟨us, rv, u1, _⟩ := I1.list qx
  obtain ⟨vs, rv2, v1, _⟩ := I1.list qy
  have la : a < s1.heap.objs.size := u1.lt
  have lb : b < s1.heap.objs.size := v1.lt
  refine call_zip_2 u1.isList v1.isList fun h1 hz ht ho i1 i2 hs1 hk1 => ?_
  have I2 : Inv X pins σ H1 { s1 with heap := h1 } := I1.kept (t' := s1.toks) hk1
  refine Calls.spliced_nil ?_
  refine call_ez (s := { s1 with heap := h1 }) hz fun h2 he hk2 => wpAny_pyIter_enum (s := { s1 with heap := h2 }) he ?_
  have I3 : Inv X pins σ H1 { s1 with heap := h2 } := I2.kept (t' := s1.toks) hk2
  have sz : h1.objs.size = s1.heap.objs.size + 5 := hs1
  have big : ∀ c ∈ [h1.objs.size, s1.heap.objs.size + 4, s1.heap.objs.size + 2, s1.heap.objs.size + 3, s1.heap.objs.size, s1.heap.objs.size + 1], s1.heap.objs.size ≤ c := fun c hc => by
    simp only [List.mem_cons, List.not_mem_nil, or_false] at hc
    rcases hc with z | z | z | z | z | z <;> (rw [z]; first | exact Nat.le_refl _ | exact Nat.le_add_right _ _ | (rw [sz]; exact Nat.le_add_right _ _))
  refine ⟨h1.objs.size, [h1.objs.size, s1.heap.objs.size + 4, s1.heap.objs.size + 2, s1.heap.objs.size + 3, s1.heap.objs.size, s1.heap.objs.size + 1], _, _, H1, rfl, I3,
    turn_ez (PySem.W.ktu_apart s1.heap.objs.size a b la lb) (fun c hc => ?_) ?_ ?_, ?_, fun c hc => ?_, q⟩
  · simp only [List.mem_cons, List.not_mem_nil, or_false] at hc
    rw [sz]
    rcases hc with z | z | z | z | z <;> rw [z] <;> intro y <;> simp [Nat.add_left_cancel_iff] at y
  · rw [sz]; exact Nat.ne_of_lt (Nat.lt_of_lt_of_le lb (Nat.le_add_right _ _))
  · rw [sz]; exact Nat.ne_of_lt (Nat.lt_of_lt_of_le la (Nat.le_add_right _ _))
  · exact ⟨⟨.none, he⟩, ⟨_, _, hk2 _ _ hz, .inl rfl⟩, hk2 _ _ ht, ⟨_, _, hk2 _ _ ho⟩, i1.at fun o q => hk2 _ o q, i2.at fun o q => hk2 _ o q⟩
  · exact I1.fpOk (big c hc) (I1.hok.fresh (big c hc))
end CL
namespace CL
open PySem PySem.Spec PyProof.Rows L2
theorem q_nev {X : Cx} {E : L2.St → XK} {e : Expr} : QE X E e (fun _ _ _ => False) (fun _ => nop) := ⟨⟨fun _ _ _ _ _ _ h => h.elim⟩, fun _ _ _ _ _ h => h.elim⟩
def enumL (k : Nat) : List Da → List Da
  | [] => []
  | x :: r => .tup [.int k, x] :: enumL (k + 1) r
def zipL : List Da → List Da → List Da
  | x :: r, y :: s => .tup [x, y] :: zipL r s
  | _, _ => []
theorem enumL_length (k : Nat) : ∀ xs : List Da, (enumL k xs).length = xs.length
  | [] => rfl
  | x :: r => by simp [enumL, enumL_length (k + 1) r]
theorem enumL_get : ∀ (xs : List Da) (k i : Nat) (d : Da), (enumL k xs)[i]? = some d → ∃ x, xs[i]? = some x ∧ d = .tup [.int ((k + i : Nat) : Int), x]
  | [], k, i, d, h => by simp [enumL] at h
  | x :: r, k, 0, d, h => by simp [enumL] at h; exact ⟨x, rfl, h.symm⟩
  | x :: r, k, i + 1, d, h => by
    simp only [enumL, List.getElem?_cons_succ] at h
    obtain ⟨y, h1, h2⟩ := enumL_get r (k + 1) i d h
    exact ⟨y, by simpa using h1, by rw [h2]; congr 3; omega⟩
theorem zipL_length : ∀ xs ys : List Da, (zipL xs ys).length = min xs.length ys.length
  | [], ys => by simp [zipL]
  | x :: r, [] => by simp [zipL]
  | x :: r, y :: s => by simp [zipL, zipL_length r s]
theorem zipL_get : ∀ (xs ys : List Da) (i : Nat) (d : Da), (zipL xs ys)[i]? = some d → ∃ x y, xs[i]? = some x ∧ ys[i]? = some y ∧ d = .tup [x, y]
  | [], ys, i, d, h => by simp [zipL] at h
  | x :: r, [], i, d, h => by simp [zipL] at h
  | x :: r, y :: s, 0, d, h => by simp [zipL] at h; exact ⟨x, y, rfl, rfl, h.symm⟩
  | x :: r, y :: s, i + 1, d, h => by
    simp only [zipL, List.getElem?_cons_succ] at h
    obtain ⟨u, v, h1, h2, h3⟩ := zipL_get r s i d h
    exact ⟨u, v, by simpa using h1, by simpa using h2, h3⟩
def srcE : List Da → Mo Src
  | [.lst xs] => ret ⟨enumL 0 xs, none⟩
  | _ => nop
def srcZ : List Da → Mo Src
  | [.lst xs, .lst ys] => ret ⟨zipL xs ys, none⟩
  | _ => nop
def srcEZ : List Da → Mo Src
  | [.lst xs, .lst ys] => ret ⟨enumL 0 (zipL xs ys), none⟩
  | _ => nop
def iE (a : Sl → Mo (List Da)) : Sl → Mo Src := fun ro => bnd (a ro) srcE
def iZ (a : Sl → Mo (List Da)) : Sl → Mo Src := fun ro => bnd (a ro) srcZ
def iEZ (a : Sl → Mo (List Da)) : Sl → Mo Src := fun ro => bnd (a ro) srcEZ
section
variable {K : PySem.W.Frag} {E : L2.St → XK} {tA : TA} {al : Sl → Mo (List Da)} {w : Wd}
theorem lst_still {p : Addr} {vs : List V} {ds : List Da} (m1 : Em K w) (h1 : w.H p = some (.lst vs)) (n1 : ¬ Live w p) (r1 : RepL K w vs ds) {w' : Wd} (x : ExtW w w') : SqL K w'.H p vs ∧ RepL K w' vs ds :=
  ⟨SqL.of (x.keep _ _ h1 n1).1, r1.monoW m1 x⟩
theorem it_enum {p : Addr} {vs : List V} {xs : List Da} (m1 : Em K w) (h1 : w.H p = some (.lst vs)) (n1 : ¬ Live w p) (r1 : RepL K w vs xs) : ItOk K w (Ite K p) ⟨enumL 0 xs, none⟩ := fun w' x m c => by
  obtain ⟨hq, r⟩ := lst_still m1 h1 n1 r1 x
  refine ⟨fun i d hd => ?_, ⟨vs, hq, by rw [enumL_length]; exact Nat.le_of_eq r.length⟩⟩
  obtain ⟨y, hy, rfl⟩ := enumL_get xs 0 i d hd
  obtain ⟨v, hv, rv⟩ := r.get hy
  refine ⟨⟨vs, v, hq, hv⟩, fun u H' hyl => ?_⟩
  obtain ⟨T, z, rfl, hT, rfl, hz⟩ := hyl
  have hz' := hz vs hq
  rw [hv] at hz'
  cases hz'
  refine ⟨w'.new T (.tup [.int (i : Nat), v]), rfl, rfl, rfl, Ext.new m hT, m.new hT, ?_⟩
  rw [Nat.zero_add]
  exact Rep.newTup m hT (.cons (.int _) (.cons rv .nil))
theorem it_zip {p q : Addr} {us vs : List V} {xs ys : List Da} (m1 : Em K w) (h1 : w.H p = some (.lst us)) (n1 : ¬ Live w p) (r1 : RepL K w us xs) (h2 : w.H q = some (.lst vs)) (n2 : ¬ Live w q) (r2 : RepL K w vs ys) : ItOk K w (Itz K p q) ⟨zipL xs ys, none⟩ := fun w' x m c => by
  obtain ⟨hq1, r1⟩ := lst_still m1 h1 n1 r1 x
  obtain ⟨hq2, r2⟩ := lst_still m1 h2 n2 r2 x
  refine ⟨fun i d hd => ?_, ⟨us, vs, hq1, hq2, ?_⟩⟩
  · obtain ⟨y, z, hy, hz, rfl⟩ := zipL_get xs ys i d hd
    obtain ⟨v, hv, rv⟩ := r1.get hy
    obtain ⟨u, hu, ru⟩ := r2.get hz
    refine ⟨⟨us, vs, v, u, hq1, hq2, hv, hu⟩, fun t H' hyl => ?_⟩
    obtain ⟨T, a, b, rfl, hT, rfl, ha, hb⟩ := hyl
    have ha' := ha us hq1
    have hb' := hb vs hq2
    rw [hv] at ha'
    rw [hu] at hb'
    cases ha'
    cases hb'
    exact ⟨w'.new T (.tup [v, u]), rfl, rfl, rfl, Ext.new m hT, m.new hT, Rep.newTup m hT (.cons rv (.cons ru .nil))⟩
  · dsimp only
    rw [zipL_length, r1.length, r2.length]
    omega
theorem it_ez {p q : Addr} {us vs : List V} {xs ys : List Da} (m1 : Em K w) (h1 : w.H p = some (.lst us)) (n1 : ¬ Live w p) (r1 : RepL K w us xs) (h2 : w.H q = some (.lst vs)) (n2 : ¬ Live w q) (r2 : RepL K w vs ys) : ItOk K w (Itn K p q) ⟨enumL 0 (zipL xs ys), none⟩ := fun w' x m c => by
  obtain ⟨hq1, r1⟩ := lst_still m1 h1 n1 r1 x
  obtain ⟨hq2, r2⟩ := lst_still m1 h2 n2 r2 x
  refine ⟨fun i d hd => ?_, ⟨us, vs, hq1, hq2, ?_⟩⟩
  · obtain ⟨yz, h0, rfl⟩ := enumL_get _ 0 i d hd
    obtain ⟨y, z, hy, hz, rfl⟩ := zipL_get xs ys i _ h0
    obtain ⟨v, hv, rv⟩ := r1.get hy
    obtain ⟨u, hu, ru⟩ := r2.get hz
    refine ⟨⟨us, vs, v, u, hq1, hq2, hv, hu⟩, fun t H' hyl => ?_⟩
    obtain ⟨T, U, a, b, rfl, hT, hU, rfl, ha, hb⟩ := hyl
    have ha' := ha us hq1
    have hb' := hb vs hq2
    rw [hv] at ha'
    rw [hu] at hb'
    cases ha'
    cases hb'
    have m2 : Em K (w'.new T (.tup [v, u])) := m.new hT
    have x2 : Ext w' (w'.new T (.tup [v, u])) := Ext.new m hT
    refine ⟨(w'.new T (.tup [v, u])).new U (.tup [.int (i : Nat), .ref T]), rfl, rfl, rfl, x2.trans (Ext.new m2 hU), m2.new hU, ?_⟩
    rw [Nat.zero_add]
    exact Rep.newTup m2 hU (.cons (.int _) (.cons (Rep.newTup m hT (.cons rv (.cons ru .nil))) .nil))
  · dsimp only
    rw [enumL_length, zipL_length, r1.length, r2.length]
    omega
theorem si_enum (ha : SA K E tA al) : SI K E (iEnum K tA) (iE al) := fun w ro σ R e h =>
  ha w ro σ _ e (h.bind.mono (fun ds w1 x1 p1 m1 k vs rv => by
    unfold srcE at k
    split at k
    · rename_i xs
      cases rv with
      | cons r1 r2 =>
        cases r2
        cases r1 with
        | lst h1 n1 r1 => exact ⟨_, _, rfl, SqL.of h1, k.here m1 _ (it_enum m1 h1 n1 r1)⟩
    · exact k.elim) fun _ _ _ z => z)
theorem two_lst {ws : List V} {xs ys : List Da} (rv : RepL K w ws [.lst xs, .lst ys]) : ∃ p q us vs, ws = [.ref p, .ref q] ∧ (w.H p = some (.lst us) ∧ ¬ Live w p ∧ RepL K w us xs) ∧ w.H q = some (.lst vs) ∧ ¬ Live w q ∧ RepL K w vs ys := by
  cases rv with
  | cons r1 r2 =>
    cases r2 with
    | cons r2 r3 =>
      cases r3
      cases r1 with
      | lst h1 n1 r1 =>
        cases r2 with
        | lst h2 n2 r2 => exact ⟨_, _, _, _, rfl, ⟨h1, n1, r1⟩, h2, n2, r2⟩
theorem si_zip (ha : SA K E tA al) : SI K E (iZip K tA) (iZ al) := fun w ro σ R e h =>
  ha w ro σ _ e (h.bind.mono (fun ds w1 x1 p1 m1 k vs rv => by
    unfold srcZ at k
    split at k
    · obtain ⟨p, q, us, vs, rfl, ⟨h1, n1, r1⟩, h2, n2, r2⟩ := two_lst rv
      exact ⟨_, _, _, _, rfl, SqL.of h1, SqL.of h2, k.here m1 _ (it_zip m1 h1 n1 r1 h2 n2 r2)⟩
    · exact k.elim) fun _ _ _ z => z)
theorem si_ez (ha : SA K E tA al) : SI K E (iEz K tA) (iEZ al) := fun w ro σ R e h =>
  ha w ro σ _ e (h.bind.mono (fun ds w1 x1 p1 m1 k vs rv => by
    unfold srcEZ at k
    split at k
    · obtain ⟨p, q, us, vs, rfl, ⟨h1, n1, r1⟩, h2, n2, r2⟩ := two_lst rv
      exact ⟨_, _, _, _, rfl, SqL.of h1, SqL.of h2, k.here m1 _ (it_ez m1 h1 n1 r1 h2 n2 r2)⟩
    · exact k.elim) fun _ _ _ z => z)
end
section
variable {X : Cx} {E : L2.St → XK} {a b c e tg iter : Expr} {es : List Expr} {ta tb tc te : TE} {tA : TA} {ma mb mc : Sl → Mo Da} {al : Sl → Mo (List Da)} {pos p2 : Pos}
theorem qi_enum {K : PySem.W.Frag} {p tpos : Pos} {elts : List Expr} {kk : Nat} (hm : X.mg "enumerate" = none) (h : QA X E [a] tA al) (hg : Gl X "enumerate" := by rfl) (hs : starEach [a] X.env = [(false, eval a X.env)] := by rfl) (hK : X.K = K := by rfl) : QI X E (.Tuple elts kk tpos) (.Call (.Name "enumerate" p) [a] [] pos) (iEnum K tA) (iE al) := by
  subst hK
  exact ⟨pi_enum hg hm h.pa hs, si_enum h.sa⟩
theorem qi_zip {K : PySem.W.Frag} {p tpos : Pos} {elts : List Expr} {kk : Nat} (hm : X.mg "zip" = none) (h : QA X E [a, b] tA al) (hg : Gl X "zip" := by rfl) (hs : starEach [a, b] X.env = (false, eval a X.env) :: starEach [b] X.env := by rfl) (hpl : (backTo pos (starEach [b] X.env)).any (·.1) = false := by rfl) (hK : X.K = K := by rfl) : QI X E (.Tuple elts kk tpos) (.Call (.Name "zip" p) [a, b] [] pos) (iZip K tA) (iZ al) := by
  subst hK
  exact ⟨pi_zip hg hm h.pa hs hpl, si_zip h.sa⟩
theorem qi_ez {K : PySem.W.Frag} {p p3 pos3 tpos : Pos} {elts : List Expr} {kk : Nat} (hm2 : X.mg "enumerate" = none) (hm : X.mg "zip" = none) (h : QA X E [a, b] tA al) (hg : Gl X "zip" := by rfl) (hg2 : Gl X "enumerate" := by rfl) (hs : starEach [a, b] X.env = (false, eval a X.env) :: starEach [b] X.env := by rfl) (hpl : (backTo pos (starEach [b] X.env)).any (·.1) = false := by rfl)
    (hs2 : starEach [.Call (.Name "zip" p) [a, b] [] pos] X.env = [(false, eval (.Call (.Name "zip" p) [a, b] [] pos) X.env)] := by rfl) (hK : X.K = K := by rfl) : QI X E (.Tuple elts kk tpos) (.Call (.Name "enumerate" p3) [.Call (.Name "zip" p) [a, b] [] pos] [] pos3) (iEz K tA) (iEZ al) := by
  subst hK
  exact ⟨pi_ez hg hm hg2 hm2 h.pa hs hpl hs2, si_ez h.sa⟩
end
def tPar3 (i j k : Nat) (ta : TA) : TS := fun D σ H => ta σ H fun vs H1 => ∃ u v w, vs = [u, v, w] ∧ D.nx (((σ.set i (some u)).set j (some v)).set k (some w)) H1
def mPar3 (i j k : Nat) (a : Sl → Mo (List Da)) : Sl → Mo Fl := fun ro => bnd (a ro) fun ds => match ds with
  | [d, e, f] => ret (.nx (((ro.set i (some d)).set j (some e)).set k (some f)))
  | _ => nop
theorem ss_par3 {K : PySem.W.Frag} {E : L2.St → XK} {i j k : Nat} {tA : TA} {al : Sl → Mo (List Da)} (ha : SA K E tA al) : SS K E (tPar3 i j k tA) (mPar3 i j k al) := fun w ro σ D e h =>
  ha w ro σ _ e (h.bind.mono (fun ds w1 x1 p1 m1 q vs rv => by
    split at q
    · cases rv with
      | cons r1 t => cases t with
        | cons r2 t => cases t with
          | cons r3 t =>
            cases t
            exact ⟨_, _, _, rfl, q.here m1 _ (((e.mono x1 m1).set r1 |>.set r2) |>.set r3)⟩
    · exact q.elim) fun _ _ _ z => z σ)
section
variable {X : Cx} {pos : Pos}
theorem ps_par3 {i j k : Nat} {x y z : Str} {a b c : Expr} {ta : TA} {px py pz pt : Pos} {kt k2 pt2} (hc : X.calm = true) (hN : X.N.Nodup) (hi : X.N[i]? = some x) (hj : X.N[j]? = some y) (hk : X.N[k]? = some z) (hij : i ≠ j) (hik : i ≠ k) (hjk : j ≠ k)
    (hx : X.env.scope.names.lookup x = some .local) (hy : X.env.scope.names.lookup y = some .local) (hz : X.env.scope.names.lookup z = some .local) (ha : PA X [a, b, c] ta)
    (hw : swappedStores [.Tuple [.Name x px, .Name y py, .Name z pz] kt pt] (.Tuple [a, b, c] k2 pt2) X.env = pure (some [x, y, z]))
    (hs : swapsWithSole [.Tuple [.Name x px, .Name y py, .Name z pz] kt pt] (.Tuple [a, b, c] k2 pt2) pos.line X.env = pure false) :
    PS X (.Assign [.Tuple [.Name x px, .Name y py, .Name z pz] kt pt] (.Tuple [a, b, c] k2 pt2) pos) (tPar3 i j k ta) := by
  refine ⟨fun pins s σ H D I h => ?_⟩
  rw [exec_Assign_arm]
  refine wpAny_bind (wpAny_standAt ?_)
  rw [hs]
  refine wpAny_bind (wpAny_pure ?_)
  rw [if_neg (by decide)]
  refine wpAny_bind (Tuple_ (thn (ha.run _ pins s σ H _ I h) fun us s1 ⟨vs, H1, I1, r1, u, v, w, e1, q1⟩ => ?_))
  subst e1
  obtain ⟨u1, u2, u3, rfl, ru, rv, rw'⟩ : ∃ u1 u2 u3, us = [u1, u2, u3] ∧ RelV u u1 ∧ RelV v u2 ∧ RelV w u3 := by
    cases r1 with
    | cons p q => cases q with
      | cons p' q => cases q with
        | cons p'' q =>
          cases q
          exact ⟨_, _, _, rfl, p, p', p''⟩
  refine wpAny_newObj_type ?_ (by show 3 ≤ sizeLine; decide)
  have I2 : Inv X pins σ H1 { s1 with heap := s1.heap.push { cls := .type "tuple", data := .seq [u1, u2, u3].toArray } } := I1.kept (t' := s1.toks) fun b o e => Heap.get?_push_of_some _ e
  rw [hw]
  refine wpAny_bind (wpAny_pure ?_)
  show wpAny (model X.prog X.w) X.A (do rule "assign.swapped-stores"; let items ← unpackItems (.ref s1.heap.objs.size) 3 none; assignInOrder [fun v => bindName X.env z v, fun v => bindName X.env y v, fun v => bindName X.env x v] items.reverse; pure Flow.next) _ _ _
  refine wpAny_bind (wpAny_rule (wpAny_bind (unpackItems_tuple (items := #[u1, u2, u3]) (I.ok.hd hc) (IsTup.new s1.heap _) fun h' hx' => ?_)))
  have I3 := I2.kept (h' := h') (t' := s1.toks) fun b o e => hx' b o (Nat.ne_of_lt (Heap.lt_size e)) e
  show wpAny _ _ (assignInOrder [fun v => bindName X.env z v, fun v => bindName X.env y v, fun v => bindName X.env x v] [u3, u2, u1] >>= fun _ => pure Flow.next) _ _ _
  refine wpAny_bind (assignInOrder_cons (wpAny_bindName (store_ok I3 hN hk (.inl hz) rw' (fun s2 I4 => ?_) (.inr hz))))
  refine assignInOrder_cons (wpAny_bindName (store_ok I4 hN hj (.inl hy) rv (fun s3 I5 => ?_) (.inr hy)))
  refine assignInOrder_cons (wpAny_bindName (store_ok I5 hN hi (.inl hx) ru (fun s4 I6 => assignInOrder_nil (wpAny_pure ?_)) (.inr hx)))
  rw [List.set_comm _ _ (Ne.symm hjk), List.set_comm _ _ (Ne.symm hik), List.set_comm _ _ (Ne.symm hij)] at I6
  exact ⟨_, H1, I6, q1⟩
theorem qs_par3 {E : L2.St → XK} {tA : TA} {al : Sl → Mo (List Da)} {a b c : Expr} (i j k : Nat) {x y z : Str} {px py pz pt : Pos} {kt k2 pt2} (hc : X.calm = true) (hN : X.N.Nodup) (ha : QA X E [a, b, c] tA al) (hi : X.N[i]? = some x := by rfl) (hj : X.N[j]? = some y := by rfl) (hk : X.N[k]? = some z := by rfl) (hij : i ≠ j := by decide) (hik : i ≠ k := by decide) (hjk : j ≠ k := by decide)
    (hx : X.env.scope.names.lookup x = some .local := by rfl) (hy : X.env.scope.names.lookup y = some .local := by rfl) (hz : X.env.scope.names.lookup z = some .local := by rfl)
    (hw : swappedStores [.Tuple [.Name x px, .Name y py, .Name z pz] kt pt] (.Tuple [a, b, c] k2 pt2) X.env = pure (some [x, y, z]) := by rfl) (hs : swapsWithSole [.Tuple [.Name x px, .Name y py, .Name z pz] kt pt] (.Tuple [a, b, c] k2 pt2) pos.line X.env = pure false := by rfl) :
    QS X E (.Assign [.Tuple [.Name x px, .Name y py, .Name z pz] kt pt] (.Tuple [a, b, c] k2 pt2) pos) (tPar3 i j k tA) (mPar3 i j k al) := ⟨ps_par3 hc hN hi hj hk hij hik hjk hx hy hz ha.pa hw hs, ss_par3 ha.sa⟩
end
end CL
namespace CL
open PySem PySem.Spec PyProof.Rows L2
def isE (neg : Bool) (d e : Da) : Mo Da := fun st => match lsOf st d, lsOf st e with
  | some xs, some [] => .ok (.bl (if neg then !xs.isEmpty else xs.isEmpty)) st
  | _, _ => .bad
def rE (K : PySem.W.Frag) (neg : Bool) : R2 := fun x y H Q => ∃ l b xs, x = .ref l ∧ y = .ref b ∧ SqL K H l xs ∧ SqL K H b [] ∧ Q (.bl (if neg then !xs.isEmpty else xs.isEmpty)) H
theorem op_isE {X : Cx} (neg : Bool) (hu : X.A.units + 64 < cLine) : OpR X (compareOp (if neg then .NotEq else .Eq)) (rE X.K neg) := by
  intro pins s σ H x y v u Q I rx ry h
  obtain ⟨l, b, xs, rfl, rfl, h1, h2, q⟩ := h
  cases (show v = Value.ref l from rx)
  cases (show u = Value.ref b from ry)
  obtain ⟨us, rv, u1, _⟩ := I.list h1
  obtain ⟨vs, rv2, v1, _⟩ := I.list h2
  have hu' : X.A.units < cLine := by omega
  have n1 := rv.length
  cases rv2
  cases xs with
  | nil =>
    cases rv
    cases neg with
    | true => exact (SeqAt.RcNeAt.lists u1.isList v1.isList rfl hu' (e := fun _ => true) (fun j h1 => absurd h1 (by simp))) X.prog X.w _ _ ⟨.bl false, H, I, rfl, q⟩
    | false => exact SeqAt.eq_listAt u1.isList v1.isList rfl hu' (e := fun _ => true) (fun j h1 => absurd h1 (by simp)) ⟨.bl true, H, I, rfl, q⟩
  | cons z zs =>
    have ne : (us.toArray.size != ([] : List Value).toArray.size) = true := by
      cases us with
      | nil => simp at n1
      | cons p r => rfl
    cases neg with
    | true => exact (SeqAt.RcNeAt.lists_lengths u1.isList v1.isList ne hu') X.prog X.w _ _ ⟨.bl true, H, I, rfl, q⟩
    | false => exact SeqAt.eq_list_lengthsAt u1.isList v1.isList ne hu' ⟨.bl false, H, I, rfl, q⟩
theorem s_isE {K : PySem.W.Frag} {neg : Bool} : S2 K (rE K neg) (isE neg) := fun w x y d e Q ex m rx ry h => by
  unfold isE at h
  split at h
  · rename_i xs hx hy
    obtain ⟨p, vs, rfl, hp, rp⟩ := ls_rep m rx hx
    obtain ⟨q, us, rfl, hq, rq⟩ := ls_rep m ry hy
    cases rq
    refine ⟨p, q, vs, rfl, rfl, SqL.of hp, SqL.of hq, ?_⟩
    have e : vs.isEmpty = xs.isEmpty := by cases rp <;> rfl
    rw [e]
    exact h.here m _ (.bl _)
  · exact h.elim
theorem q_eqE {X : Cx} {K : PySem.W.Frag} (hu : X.A.units + 64 < cLine) (hK : X.K = K := by rfl) : QO X (compareOp .Eq) (rE K false) (isE false) := by subst hK; exact ⟨op_isE false hu, s_isE⟩
theorem q_neE {X : Cx} {K : PySem.W.Frag} (hu : X.A.units + 64 < cLine) (hK : X.K = K := by rfl) : QO X (compareOp .NotEq) (rE K true) (isE true) := by subst hK; exact ⟨op_isE true hu, s_isE⟩
section
variable {X : Cx} {o : Expr} {to : TE} {f : Str} {pos : Pos}
def gFld (K : PySem.W.Frag) (to : TE) (f : Str) : TG := fun v σ H Q => to σ H fun x H2 => ∃ a C dx fs, x = .ref a ∧ H2 a = some (.ins C dx fs) ∧ Cls K C ∧ NoAttr K C f ∧ fs.length < 1000 ∧ Q σ (upd H2 a (.ins C dx (putF f v fs)))
theorem pg_fld (ho : PE X o to) : PG X (.Attribute o f pos) (gFld X.K to f) := by
  refine ⟨fun pins s σ H v u Q I r h => ?_⟩
  show wpAny _ _ (do let ov ← holding [u] (eval o X.env); standAt pos.atName; holding [u, ov] (setAttr ov f u); release [u, ov] []) _ _ _
  refine wpAny_bind (wpAny_holding (thn (ho.run pins s σ H _ I h) fun ov s1 ⟨x, H1, I1, r1, a, C, dx, fs, ex, ea, c, n, l, q1⟩ => ?_))
  subst ex
  obtain rfl : ov = Value.ref a := r1
  refine wpAny_bind (wpAny_standAt (wpAny_bind (wpAny_holding ?_)))
  exact setattr_ok I1 ea c n l r fun s3 I3 => wpAny_release ⟨σ, _, I3, q1⟩
end
def mFlds2 (cs1 : List Str) (f1 : Str) (o1 : Sl → Mo Da) (cs2 : List Str) (f2 : Str) (o2 : Sl → Mo Da) (al : Sl → Mo (List Da)) : Sl → Mo Fl := fun ro => bnd (eTup al ro) fun t => match t with
  | .tup [x, y] => bnd (o1 ro) fun p => bnd (setFD cs1 f1 p x) fun _ => bnd (o2 ro) fun q => bnd (setFD cs2 f2 q y) fun _ => ret (.nx ro)
  | _ => nop
section
variable {K : PySem.W.Frag} {E : L2.St → XK} {tA : TA} {al : Sl → Mo (List Da)} {t1 t2 : TE} {o1 o2 : Sl → Mo Da} {cs1 cs2 : List Str} {f1 f2 : Str}
theorem ss_flds2 (hC1 : ClsF K cs1 f1) (hC2 : ClsF K cs2 f2) (ha : SA K E tA al) (h1 : SE K E t1 o1) (h2 : SE K E t2 o2) :
    SS K E (tAsg (tTup tA) (gTup K 2 (gCons (gFld K t1 f1) (gCons (gFld K t2 f2) gNil)))) (mFlds2 cs1 f1 o1 cs2 f2 o2 al) := fun w ro σ D e h => by
  refine s_tup ha w ro σ _ e (h.bind.mono (fun d w1 x1 p1 m1 k v rv => ?_) fun _ _ _ z => z σ)
  split at k
  · rename_i x y
    cases rv with
    | tup hs rr =>
      cases rr with
      | cons ra rr => cases rr with
        | cons rb rr =>
          cases rr
          refine ⟨_, _, rfl, hs, rfl, _, _, rfl, ?_⟩
          refine h1 w1 ro σ _ (e.mono x1 m1) (k.bind.mono (fun p w2 x2 p2 m2 k2 u ru => ?_) fun _ _ _ z => z σ)
          obtain ⟨a, C, dx, fs, w3, rfl, hH, _, c, n, l, hH3, x3, p3, m3, k3⟩ := setF_run hC1 m2 ru (ra.mono m1 x2) k2.bind
          refine ⟨a, C, dx, fs, rfl, hH, c, n, l, ?_⟩
          rw [← hH3]
          refine ⟨_, _, rfl, h2 w3 ro σ _ (e.mono (x1.trans (x2.trans x3)) m3) (k3.bind.mono (fun p w4 x4 p4 m4 k4 u ru => ?_) fun _ _ _ z => z σ)⟩
          obtain ⟨a, C, dx, fs, w5, rfl, hH, _, c, n, l, hH5, x5, p5, m5, k5⟩ := setF_run hC2 m4 ru (((rb.mono m1 x2).mono m2 x3).mono m3 x4) k4.bind
          refine ⟨a, C, dx, fs, rfl, hH, c, n, l, ?_⟩
          rw [← hH5]
          exact ⟨rfl, k5.here m5 σ (e.mono (x1.trans (x2.trans (x3.trans (x4.trans x5)))) m5)⟩
  · exact k.elim
end
theorem qs_flds2 {X : Cx} {E : L2.St → XK} {K : PySem.W.Frag} {tA : TA} {al : Sl → Mo (List Da)} {t1 t2 : TE} {m1 m2 : Sl → Mo Da} {cs1 cs2 : List Str} {f1 f2 : Str} {o1 o2 a b : Expr} {q1 q2 pt pt2 pos : Pos} {kt k2} (hc : X.calm = true) (hC1 : ClsF K cs1 f1) (hC2 : ClsF K cs2 f2) (h1 : QE X E o1 t1 m1) (h2 : QE X E o2 t2 m2) (ha : QA X E [a, b] tA al)
    (hw : swappedStores [.Tuple [.Attribute o1 f1 q1, .Attribute o2 f2 q2] kt pt] (.Tuple [a, b] k2 pt2) X.env = pure none := by rfl) (hs : swapsWithSole [.Tuple [.Attribute o1 f1 q1, .Attribute o2 f2 q2] kt pt] (.Tuple [a, b] k2 pt2) pos.line X.env = pure false := by rfl)
    (hh1 : (assignEach [.Tuple [.Attribute o1 f1 q1, .Attribute o2 f2 q2] kt pt] X.env).map (·.2) = [assign (.Tuple [.Attribute o1 f1 q1, .Attribute o2 f2 q2] kt pt) X.env] := by rfl)
    (hn : (assignEach [.Attribute o1 f1 q1, .Attribute o2 f2 q2] X.env).length = 2 := by rfl) (hst : (assignEach [.Attribute o1 f1 q1, .Attribute o2 f2 q2] X.env).findIdx? (·.1) = none := by rfl)
    (hg1 : (assignEach [.Attribute o1 f1 q1, .Attribute o2 f2 q2] X.env).map (·.2) = assign (.Attribute o1 f1 q1) X.env :: (assignEach [.Attribute o2 f2 q2] X.env).map (·.2) := by rfl)
    (hg2 : (assignEach [.Attribute o2 f2 q2] X.env).map (·.2) = assign (.Attribute o2 f2 q2) X.env :: (assignEach [] X.env).map (·.2) := by rfl) (hK : X.K = K := by rfl) :
    QS X E (.Assign [.Tuple [.Attribute o1 f1 q1, .Attribute o2 f2 q2] kt pt] (.Tuple [a, b] k2 pt2) pos) (tAsg (tTup tA) (gTup K 2 (gCons (gFld K t1 f1) (gCons (gFld K t2 f2) gNil)))) (mFlds2 cs1 f1 m1 cs2 f2 m2 al) := by
  subst hK
  exact ⟨ps_asg (pe_tup ha.pa) (pg_tup hc (pgs_cons (pg_fld h1.pe) (pgs_cons (pg_fld h2.pe) pgs_nil hg2) hg1) hn hst) hs hw hh1, ss_flds2 hC1 hC2 ha.sa h1.se h2.se⟩
def getL (d k : Da) : Mo Da := fun st => match d, k with
  | .han n, .int j => (match st[n]? with
    | some (.lst xs) => (match atI xs j with
      | some x => .ok x st
      | none => .bad)
    | _ => .bad)
  | _, _ => .bad
def mAugI (o i : Sl → Mo Da) (f : Int → Int → Int) (v : Sl → Mo Da) : Sl → Mo Fl := fun ro => bnd (o ro) fun d => bnd (i ro) fun k => bnd (getL d k) fun x => bnd (v ro) fun y => match x, y with
  | .int p, .int q => bnd (setD d k (.int (f p q))) fun _ => ret (.nx ro)
  | _, _ => nop
theorem get_list {X : Cx} : PGet X (rIxL X.K) := by
  intro pins s σ H x y v u Q I rx ry h
  obtain ⟨p, xs, i, z, rfl, rfl, hq, he, q⟩ := h
  cases (show v = Value.ref p from rx)
  obtain ⟨t, rfl⟩ := ry
  obtain ⟨us, r, u1, _⟩ := I.list hq
  obtain ⟨j, h1, h2, h3, h4, h5⟩ := atI_get he
  obtain ⟨w, ew, rw'⟩ := r.get h2
  have hl := r.length
  have hn := line63
  by_cases h0 : 0 ≤ i
  · have hj : i.toNat = j := by
      rw [seqIndex_of h0 h5] at h1
      exact Option.some.inj h1
    exact wpAny_getItem_list u1.isList h0 (by omega) (by rw [hj]; simpa using ew) ⟨z, H, I, rw', q⟩
  · have hj : (i + (us.toArray.size : Int)).toNat = j := by
      rw [seqIndex_neg (by omega) h4] at h1
      rw [List.size_toArray, ← hl]
      exact Option.some.inj h1
    exact wpAny_getItem_list_neg u1.isList (by omega) (by rw [List.size_toArray]; omega) (by omega) (by rw [hj]; simpa using ew) ⟨z, H, I, rw', q⟩
section
variable {K : PySem.W.Frag} {E : L2.St → XK} {to ti tv : TE} {o i v : Sl → Mo Da} {f : Int → Int → Int}
theorem getL_run {w : Wd} {d k : Da} {x y : V} {ok : Da → Wd → Prop} {ex : Str → List Da → Wd → Prop} (m : Em K w) (rx : Rep K w x d) (ry : Rep K w y k) (h : Run K w (getL d k w.st) ok ex) : ∃ p vs j u z, x = .ref p ∧ y = .int j ∧ SqL K w.H p vs ∧ atI vs j = some u ∧ Rep K w u z ∧ ok z w := by
  unfold getL at h
  split at h
  · rename_i n j
    cases rx with
    | @han p _ hp =>
      cases ry
      split at h
      · rename_i xs hx
        split at h
        · rename_i z hz
          obtain ⟨vs, hH, rl⟩ := m.cell n p _ hp hx
          obtain ⟨u, hu, ru⟩ := at_map rl hz
          exact ⟨p, vs, j, u, z, rfl, rfl, SqL.of hH, hu, ru, h.here m⟩
        · exact h.elim
      · exact h.elim
  · exact h.elim
theorem ss_augI (ho : SE K E to o) (hi : SE K E ti i) (hv : SE K E tv v) : SS K E (tAugS to ti tv (rIxL K) (ipI f) rSetL) (mAugI o i f v) := fun w ro σ D e h =>
  ho w ro σ _ e (h.bind.mono (fun d w1 x1 p1 m1 k1 x rx => hi w1 ro σ _ (e.mono x1 m1) (k1.bind.mono (fun kd w2 x2 p2 m2 k2 y ry => by
    obtain ⟨p, vs, j, u, z, rfl, rfl, hs, hu, ru, k3⟩ := getL_run m2 (rx.mono m1 x2) ry k2.bind
    refine ⟨p, vs, j, u, rfl, rfl, hs, hu, ?_⟩
    refine hv w2 ro σ _ (e.mono (x1.trans x2) m2) (k3.bind.mono (fun yd w3 x3 p3 m3 k4 t rt => ?_) fun _ _ _ z => z σ)
    split at k4
    · have ru3 := ru.mono m2 x3
      cases ru3
      cases rt
      refine ⟨_, _, rfl, rfl, ?_⟩
      have k5 := k4.bind
      refine set_run m3 (rx.mono m1 (x2.trans x3)) (ry.mono m2 x3) (.int _) (k5.mono (fun _ w4 x4 p4 m4 k6 => ?_) fun c as w' z => z)
      exact k6.here m4 σ (e.mono (x1.trans (x2.trans (x3.trans x4))) m4)
    · exact k4.elim) fun _ _ _ z => z σ)) fun _ _ _ z => z σ)
end
theorem qs_augI {X : Cx} {E : L2.St → XK} {K : PySem.W.Frag} {to ti tv : TE} {mo mi mv : Sl → Mo Da} {o i v : Expr} {f : Int → Int → Int} {op : Operator} {tpos pos : Pos} (hp : PIp X op (ipI f)) (ho : QE X E o to mo) (hi : QE X E i ti mi) (hv : QE X E v tv mv)
    (ha : ∀ ov iv new, augStore i ov iv new = (do holding [new, ov, iv] (setItem ov iv new); release [new, ov, iv] []; pure .next) := by intros; rfl) (hK : X.K = K := by rfl) :
    QS X E (.AugAssign (.Subscript o i tpos) op v pos) (tAugS to ti tv (rIxL K) (ipI f) rSetL) (mAugI mo mi f mv) := by
  subst hK
  exact ⟨ps_augS ho.pe hi.pe get_list hv.pe hp set_list ha, ss_augI ho.se hi.se hv.se⟩
def icB (c : Str) (K : PySem.W.Frag) : Bool := decide (PySem.W.findIn K (.ref (He.ga K c)) "__class__" = some (some (.builtin "object.__class__"))) && (decide (PySem.W.specialIn K (.builtin "object.__class__") "__get__" = some (some (.builtin "getset_descriptor.__get__"))) && (decide (PySem.W.takesIn K (.builtin "object.__class__") = some true) && decide (PySem.W.mroIn K (He.ga K c) (.type "object") = some true)))
/-- what is told of C: each class of instances, and that no built-in type is C -/
def icAll (C : Str) (tab : List (Str × Bool)) (K : PySem.W.Frag) : Bool := tab.all (fun p => icB p.1 K && kitB p.1 (.ref (He.ga K C)) p.2 K) && [Tn.int, .bool, .str, .list, .tuple, .non, .dict].all (fun t => decide (PySem.W.kitOne K (.type t.name) (.ref (He.ga K C)) = some false))
structure IcOk (K : PySem.W.Frag) (C : Str) (tab : List (Str × Bool)) : Prop where
  own : ∀ p ∈ tab, Cls K (He.ga K p.1) ∧ icB p.1 K = true ∧ kitB p.1 (.ref (He.ga K C)) p.2 K = true
  blt : ∀ t : Tn, PySem.W.kitOne K (.type t.name) (.ref (He.ga K C)) = some false
theorem icOk_of {K : PySem.W.Frag} {C : Str} {tab : List (Str × Bool)} (h : icAll C tab K = true) (hc : ∀ p ∈ tab, Cls K (He.ga K p.1)) : IcOk K C tab := by
  unfold icAll at h
  obtain ⟨h1, h2⟩ := Bool.and_eq_true_iff.mp h
  rw [List.all_eq_true] at h1 h2
  refine ⟨fun p hp => ⟨hc p hp, Bool.and_eq_true_iff.mp (h1 p hp)⟩, fun t => ?_⟩
  have := h2 t (by cases t <;> simp)
  exact of_decide_eq_true this
def isC (tab : List (Str × Bool)) (d : Da) : Mo Da := fun st => match d with
  | .han n => (match st[n]? with
    | some (.ins c _) => (match tab.lookup c with
      | some b => .ok (.bl b) st
      | none => .bad)
    | _ => (match tyN st d with
      | some _ => .ok (.bl false) st
      | none => .bad))
  | d => (match tyN st d with
    | some _ => .ok (.bl false) st
    | none => .bad)
theorem sx_isC {K : PySem.W.Frag} {C : Str} {tab : List (Str × Bool)} (T : IcOk K C tab) : ∀ (w : Wd) (x : V) (d : Da) (Q : VK) (ex : Str → List Da → Wd → Prop), Em K w → Rep K w x d → Run K w (isC tab d w.st) (OkV K Q) ex → rIsi K [x, .ref (He.ga K C)] w.H Q := fun w x d Q ex m rx h => by
  have blt : ∀ t, tyN w.st d = some t → Run K w (.ok (.bl false) w.st) (OkV K Q) ex → rIsi K [x, .ref (He.ga K C)] w.H Q := fun t ht k =>
    ⟨x, _, _, _, false, rfl, .own _, ty_rep m rx ht, T.blt t, k.here m _ (.bl false)⟩
  unfold isC at h
  split at h
  · rename_i n
    split at h
    · rename_i c fs hx
      split at h
      · rename_i b hb
        cases rx with
        | @han p _ hp =>
          obtain ⟨dx, vfs, hH, rf⟩ := m.cell n p _ hp hx
          obtain ⟨k1, k2, k3⟩ := T.own _ (lookup_mem hb)
          unfold icB at k2
          simp only [Bool.and_eq_true, decide_eq_true_eq] at k2
          obtain ⟨a1, a2, a3, a4⟩ := k2
          exact ⟨_, _, _, _, b, rfl, .own _, .base (.ins hH k1 a1 a2 a3 a4), of_decide_eq_true k3, h.here m _ (.bl b)⟩
      · exact h.elim
    · split at h
      · rename_i t ht
        exact blt t ht h
      · exact h.elim
  · split at h
    · rename_i t ht
      exact blt t ht h
    · exact h.elim
theorem q_isC {X : Cx} {E : L2.St → XK} {a : Expr} {ta : TE} {ma : Sl → Mo Da} {pos : Pos} {K : PySem.W.Frag} {p p3 : Pos} {C : Str} {tab : List (Str × Bool)} (hm : X.mg "isinstance" = none) (hC : X.mg C = some (.ref (He.ga K C))) (T : IcOk K C tab) (ha : QE X E a ta ma) (hg : Gl X "isinstance" := by rfl) (hgC : Gl X C := by rfl) (hd : (C == ("__debug__" : Str)) = false := by decide)
    (hs : starEach (a :: [.Name C p3]) X.env = (false, eval a X.env) :: starEach [.Name C p3] X.env := by rfl) (hs2 : starEach (.Name C p3 :: []) X.env = (false, eval (.Name C p3) X.env) :: starEach [] X.env := by rfl) (hpl : (backTo pos (starEach [.Name C p3] X.env)).any (·.1) = false := by rfl) (hK : X.K = K := by rfl) :
    QE X E (.Call (.Name "isinstance" p) [a, .Name C p3] [] pos) (tCB (rIsi K) (tCons ta (tCons (tC (.ref (He.ga K C))) tNil))) (e1 (isC tab) ma) := by
  subst hK
  exact ⟨pe_callB call_isi hg hm (by decide +kernel) (pa_cons ha.pe (pa_cons (pe_glob hgC hC rfl hd) pa_nil hs2) hs) (by decide) (by decide) hs hpl, fun w ro σ Q e h =>
    ha.se w ro σ _ e (h.bind.mono (fun d w1 x1 p1 m1 k v rv => sx_isC T w1 v d Q _ m1 rv k) fun _ _ _ z => z)⟩
end CL
namespace CL
open PySem PySem.Spec PyProof.Rows L2
def dGet (kvs : List (Key × Da)) (k : Key) : Option Da := match kvs with
  | [] => none
  | (j, d) :: r => if j = k then some d else dGet r k
def dPut (kvs : List (Key × Da)) (k : Key) (d : Da) : List (Key × Da) := match kvs with
  | [] => [(k, d)]
  | (j, x) :: r => if j = k then (j, d) :: r else (j, x) :: dPut r k d
section
variable {K : PySem.W.Frag} {w : Wd}
theorem RepK.get : ∀ {vs : List (Key × V)} {ds : List (Key × Da)} {k : Key} {d : Da}, RepK K w vs ds → dGet ds k = some d → ∃ v, valV vs k = some v ∧ Rep K w v d
  | _, _, k, d, .nil, e => by cases e
  | _, _, k, d, .cons (f := j) h t, e => by
    unfold dGet at e
    by_cases q : j = k
    · rw [if_pos q] at e
      cases e
      exact ⟨_, valV_pos q, h⟩
    · rw [if_neg q] at e
      rw [valV_neg (by exact q)]
      exact t.get e
theorem RepK.keys : ∀ {vs : List (Key × V)} {ds : List (Key × Da)}, RepK K w vs ds → vs.map (·.1) = ds.map (·.1)
  | _, _, .nil => rfl
  | _, _, .cons h t => by simp [t.keys]
theorem RepK.length {vs : List (Key × V)} {ds : List (Key × Da)} (r : RepK K w vs ds) : vs.length = ds.length := by
  have := congrArg List.length r.keys
  simpa using this
theorem map_out {α : Type} : ∀ (vs : List (Key × α)) (k : Key) (v : α), k ∉ vs.map (·.1) → vs.map (fun kv => if kv.1 = k then (kv.1, v) else kv) = vs
  | [], _, _, _ => rfl
  | (j, x) :: r, k, v, h => by
    have h1 : j ≠ k := fun z => h (by simp [z])
    have h2 : k ∉ r.map (·.1) := fun z => h (by rw [List.map_cons]; exact List.mem_cons_of_mem _ z)
    simp [h1, map_out r k v h2]
theorem RepK.put {x : V} {d : Da} {k : Key} (hx : Rep K w x d) : ∀ {vs : List (Key × V)} {ds : List (Key × Da)}, RepK K w vs ds → (ds.map (·.1)).Nodup → RepK K w (putK vs k x) (dPut ds k d)
  | _, _, .nil, _ => by
    unfold putK dPut
    exact .cons hx .nil
  | _, _, .cons (f := j) (vs := vs) (ds := ds) (v := v) h t, nd => by
    have nd2 : (ds.map (·.1)).Nodup := by simp at nd; simpa using nd.2
    unfold dPut
    by_cases q : j = k
    · rw [if_pos q]
      unfold putK
      rw [if_pos (by simp [q])]
      have out : k ∉ vs.map (·.1) := by
        rw [t.keys, ← q]
        simp at nd
        simpa using nd.1
      rw [List.map_cons, map_out vs k x out, if_pos q]
      exact .cons hx t
    · rw [if_neg q]
      have ih := RepK.put (k := k) hx t nd2
      unfold putK at ih ⊢
      have ea : ((j, v) :: vs).any (fun kv => decide (kv.1 = k)) = vs.any (fun kv => decide (kv.1 = k)) := by simp [q]
      rw [ea]
      split
      · rename_i ha
        rw [if_pos ha] at ih
        rw [List.map_cons, if_neg q]
        exact .cons h ih
      · rename_i ha
        rw [if_neg ha] at ih
        exact .cons h ih
end
def eDict : Sl → Mo Da := fun _ st => .ok (.han st.length) (st ++ [.dK []])
def getK (d k : Da) : Mo Da := fun st => match d, k with
  | .han n, .int i => (match st[n]? with
    | some (.dK kvs) => (match dGet kvs (.inl i) with
      | some x => .ok x st
      | none => .bad)
    | _ => .bad)
  | _, _ => .bad
def setK (d k x : Da) : Mo Unit := fun st => match d, k with
  | .han n, .int i => (match st[n]? with
    | some (.dK kvs) => if kvs.length < szD ∧ (kvs.map (·.1)).Nodup then .ok () (st.set n (.dK (dPut kvs (.inl i) x))) else .bad
    | _ => .bad)
  | _, _ => .bad
def mPutK (v o i : Sl → Mo Da) : Sl → Mo Fl := fun ro => bnd (v ro) fun x => bnd (o ro) fun d => bnd (i ro) fun k => bnd (setK d k x) fun _ => ret (.nx ro)
section
variable {K : PySem.W.Frag} {E : L2.St → XK} {to ti tv : TE} {o i v : Sl → Mo Da}
theorem s_dict : SE K E tDNewK eDict := fun w ro σ Q e h p hp =>
  Run.at (w' := w.push p (.dK []) (.dK [])) h (Ext.push e.emb hp) (e.emb.push hp ⟨[], upd_same, .nil⟩) rfl rfl _ (.han (push_at e.emb))
theorem s_getK (ho : SE K E to o) (hi : SE K E ti i) : SE K E (tDGet to ti) (e2 getK o i) := fun w ro σ Q e h =>
  ho w ro σ _ e (h.bind.mono (fun d w1 x1 p1 m1 k1 x rx => hi w1 ro σ _ (e.mono x1 m1) (k1.bind.mono (fun kd w2 x2 p2 m2 k2 y ry => by
    unfold getK at k2
    have rx2 := rx.mono m1 x2
    split at k2
    · rename_i n j
      cases rx2 with
      | @han p _ hp =>
        cases ry
        split at k2
        · rename_i kvs hk
          split at k2
          · rename_i z hz
            obtain ⟨vs, hH, rk⟩ := m2.cell n p _ hp hk
            obtain ⟨u, hu, ru⟩ := rk.get hz
            exact ⟨p, u, rfl, by have := DGet.k (k := Sum.inl j) hH; rw [hu] at this; exact this, k2.here m2 u ru⟩
          · exact k2.elim
        · exact k2.elim
    · exact k2.elim) fun _ _ _ z => z)) fun _ _ _ z => z)
theorem ss_putK (hv : SE K E tv v) (ho : SE K E to o) (hi : SE K E ti i) : SS K E (sDPut to ti tv) (mPutK v o i) := fun w ro σ D e h =>
  hv w ro σ _ e (h.bind.mono (fun x w1 x1 p1 m1 k1 u ru => ho w1 ro σ _ (e.mono x1 m1) (k1.bind.mono (fun d w2 x2 p2 m2 k2 y ry => hi w2 ro σ _ (e.mono (x1.trans x2) m2) (k2.bind.mono (fun kd w3 x3 p3 m3 k3 z rz => by
    have k4 := k3.bind
    unfold setK at k4
    have ry3 := ry.mono m2 x3
    split at k4
    · rename_i n j
      cases ry3 with
      | @han p _ hp =>
        cases rz
        split at k4
        · rename_i kvs hk
          split at k4
          · rename_i hl
            obtain ⟨vs, hH, rk⟩ := m3.cell n p _ hp hk
            have x4 : Ext w3 (w3.put n p (.dK (putK vs (.inl j) u)) (.dK (dPut kvs (.inl j) x))) := Ext.put m3 hp hk (by intro z; cases z)
            have m4 : Em K (w3.put n p (.dK (putK vs (.inl j) u)) (.dK (dPut kvs (.inl j) x))) := m3.put hp hk (by intro z; cases z) ⟨_, upd_same, (RepK.put (ru.mono m1 (x2.trans x3)) rk hl.2).mono m3 x4⟩
            refine ⟨p, _, rfl, DPut.k (k := Sum.inl j) hH (by rw [rk.length]; exact szD_lt hl.1), ?_⟩
            exact (Run.at k4 x4 m4 rfl rfl).here m4 σ (e.mono (x1.trans (x2.trans (x3.trans x4))) m4)
          · exact k4.elim
        · exact k4.elim
    · exact k4.elim) fun _ _ _ z => z σ)) fun _ _ _ z => z σ)) fun _ _ _ z => z σ)
end
section
variable {X : Cx} {E : L2.St → XK} {to ti tv : TE} {o i v : Expr} {mo mi mv : Sl → Mo Da} {pos pos' : Pos}
theorem q_dict : QE X E (.Dict [] [] pos) tDNewK eDict := ⟨pe_dnewK, s_dict⟩
theorem q_getK (hu : X.A.units + 65 < cLine) (ho : QE X E o to mo) (hi : QE X E i ti mi) (hs : NoSl i := by exact fun _ _ => rfl) : QE X E (.Subscript o i pos) (tDGet to ti) (e2 getK mo mi) := ⟨pe_dget (by omega) ho.pe hi.pe hs, s_getK ho.se hi.se⟩
theorem qs_putK (hu : X.A.units + 65 < cLine) (hv : QE X E v tv mv) (ho : QE X E o to mo) (hi : QE X E i ti mi) (hs : swapsWith v (some (.Subscript o i pos')) pos.line X.env = pure false := by rfl) : QS X E (.Assign [.Subscript o i pos'] v pos) (sDPut to ti tv) (mPutK mv mo mi) := ⟨ps_dput (by omega) ho.pe hi.pe hv.pe hs, ss_putK hv.se ho.se hi.se⟩
end
def fzFs : List (Str × Da) → Store → Option (List (Str × Da) × Store)
  | [], st => some ([], st)
  | (f, d) :: r, st => match d with
    | .han n => (match st[n]? with
      | some (.lst ds) => (match fzFs r (st.set n .dead) with
        | some (r', st') => some ((f, .lst ds) :: r', st')
        | none => none)
      | _ => (match fzFs r st with
        | some (r', st') => some ((f, d) :: r', st')
        | none => none))
    | _ => (match fzFs r st with
      | some (r', st') => some ((f, d) :: r', st')
      | none => none)
def fzO (d : Da) : Mo Da := fun st => match d with
  | .han n => (match st[n]? with
    | some (.ins c fs) => (match fzFs fs st with
      | some (fs', st') => (match st'[n]? with
        | some (.ins c' fs2) => if beqF fs2 fs = true ∧ c' = c then .ok d (st'.set n (.ins c fs')) else .bad
        | _ => .bad)
      | none => .bad)
    | _ => .bad)
  | _ => .bad
where beqF : List (Str × Da) → List (Str × Da) → Bool
  | [], [] => true
  | (f, x) :: r, (g, y) :: s => decide (f = g) && (beqD x y && beqF r s)
  | _, _ => false
theorem beqF_eq : ∀ a b : List (Str × Da), fzO.beqF a b = true → a = b
  | [], [], _ => rfl
  | [], _ :: _, h => by unfold fzO.beqF at h; cases h
  | _ :: _, [], h => by unfold fzO.beqF at h; cases h
  | (f, x) :: r, (g, y) :: s, h => by
    unfold fzO.beqF at h
    simp only [Bool.and_eq_true, decide_eq_true_eq] at h
    obtain ⟨rfl, h2, h3⟩ := h
    rw [beqD_eq _ _ h2, beqF_eq r s h3]
theorem fzFs_run {K : PySem.W.Frag} : ∀ (fs : List (Str × Da)) (w : Wd) (vs : List (Str × V)) (fs' : List (Str × Da)) (st' : Store), Em K w → RepF K w vs fs → fzFs fs w.st = some (fs', st') →
    ∃ w' : Wd, w'.io = w.io ∧ w'.st = st' ∧ w'.H = w.H ∧ w'.pv = w.pv ∧ Ext w w' ∧ Em K w' ∧ RepF K w' vs fs'
  | [], w, vs, fs', st', m, r, h => by
    cases h
    cases r
    exact ⟨w, rfl, rfl, rfl, rfl, Ext.refl w, m, .nil⟩
  | (f, d) :: rest, w, vs, fs', st', m, r, h => by
    cases r with
    | @cons _ v vs' _ _ rv rr =>
      have keep : ∀ (r' : List (Str × Da)) (s' : Store), fzFs rest w.st = some (r', s') → fs' = (f, d) :: r' → st' = s' → ∃ w' : Wd, w'.io = w.io ∧ w'.st = st' ∧ w'.H = w.H ∧ w'.pv = w.pv ∧ Ext w w' ∧ Em K w' ∧ RepF K w' ((f, v) :: vs') fs' := fun r' s' h1 h2 h3 => by
        subst h2 h3
        obtain ⟨w', a1, a2, a3, a4, a5, a6, a7⟩ := fzFs_run rest w vs' r' st' m rr h1
        exact ⟨w', a1, a2, a3, a4, a5, a6, .cons (rv.mono m a5) a7⟩
      unfold fzFs at h
      split at h
      · rename_i n
        split at h
        · rename_i ds hx
          split at h
          · rename_i r' s' h1
            cases h
            cases rv with
            | @han p _ hp =>
              obtain ⟨us, hH, rl⟩ := m.cell n p _ hp hx
              have m1 : Em K (w.kill n) := m.kill
              have x1 : Ext w (w.kill n) := Ext.kill
              obtain ⟨w', a1, a2, a3, a4, a5, a6, a7⟩ := fzFs_run rest (w.kill n) vs' r' st' m1 (rr.mono m x1) h1
              exact ⟨w', a1, a2, a3, a4, x1.trans a5, a6, .cons ((Rep.killed m hp hH rl).mono m1 a5) a7⟩
          · cases h
        · split at h
          · rename_i r' s' h1
            cases h
            exact keep r' _ h1 rfl rfl
          · cases h
      · split at h
        · rename_i r' s' h1
          cases h
          exact keep r' _ h1 rfl rfl
        · cases h
def eFF (a : Sl → Mo Da) : Sl → Mo Da := fun ro => bnd (a ro) fzO
theorem s_FF {K : PySem.W.Frag} {E : L2.St → XK} {te : TE} {a : Sl → Mo Da} (ha : SE K E te a) : SE K E te (eFF a) := fun w ro σ Q e h =>
  ha w ro σ _ e (h.bind.mono (fun d w1 x1 p1 m1 k v rv => by
    unfold fzO at k
    split at k
    · rename_i n
      split at k
      · rename_i c fs hx
        split at k
        · rename_i fs' st' hf
          split at k
          · rename_i c' fs2 hx2
            split at k
            · rename_i hb
              obtain ⟨hb, rfl⟩ := hb
              have hb := beqF_eq _ _ hb
              subst hb
              cases rv with
              | @han p _ hp =>
                obtain ⟨dx, vfs, hH, rf⟩ := m1.cell n p _ hp hx
                obtain ⟨w2, a1, a2, a3, a4, a5, a6, a7⟩ := fzFs_run _ w1 vfs fs' st' m1 rf hf
                have hp2 : w2.io[n]? = some p := by rw [a1]; exact hp
                have hx2' : w2.st[n]? = some (.ins c' fs2) := by rw [a2]; exact hx2
                have hu : upd w2.H p (.ins (He.ga K c') dx vfs) = w2.H := by
                  funext b
                  by_cases z : b = p
                  · rw [z, upd_same, a3, hH]
                  · rw [upd_ne z]
                have x3 : Ext w2 (w2.put n p (.ins (He.ga K c') dx vfs) (.ins c' fs')) := Ext.put a6 hp2 hx2' (by intro z; cases z)
                have m3 : Em K (w2.put n p (.ins (He.ga K c') dx vfs) (.ins c' fs')) := a6.put hp2 hx2' (by intro z; cases z) ⟨dx, vfs, upd_same, a7.mono a6 x3⟩
                have q := Run.at k (a5.trans x3) m3 (by show w2.st.set n _ = _; rw [a2]) (by show w2.pv = _; rw [a4]) (.ref p) (.han (x3.at hp2))
                have eH : (w2.put n p (.ins (He.ga K c') dx vfs) (.ins c' fs')).H = w1.H := by
                  show upd w2.H p _ = _
                  rw [hu, a3]
                rw [eH] at q
                exact q
            · exact k.elim
          · exact k.elim
        · exact k.elim
      · exact k.elim
    · exact k.elim) fun _ _ _ z => z)
theorem mem2 {K : PySem.W.Frag} {x : Str} {b : Bool} {tab : List (Str × Bool)} (h : Cls K (He.ga K x)) (t : ∀ p ∈ tab, Cls K (He.ga K p.1)) : ∀ p ∈ (x, b) :: tab, Cls K (He.ga K p.1) := fun p hp => by
  rcases List.mem_cons.mp hp with rfl | hp
  · exact h
  · exact t p hp
theorem q_FF {X : Cx} {E : L2.St → XK} {e : Expr} {te : TE} {ma : Sl → Mo Da} (h : QE X E e te ma) : QE X E e te (eFF ma) := ⟨h.pe, s_FF h.se⟩
end CL
namespace CL
open PySem PySem.Spec L2
section
end
end CL
namespace CL
open PySem PySem.Spec PyProof.Rows L2
/-- a law's walk by facts of the head; the law may call defs that raise -/
theorem walkE {l : PySem.W.OpenLaw} {n k : Nat} {qq : Program} {loose : List Str} {XP : (Str → Option Value) → Heap → Prop} {YP : World → Heap → Prop} {d : DefRec} {x : Str}
    (hn : l.most = some n) (hn2 : n ≤ sizeLine) (hdf : d.params.defaults = []) (hr : Room k callerA)
    (F : ∀ (w : World) (mg : Str → Option Value) (fa : Addr) (h : Heap), YP w h → h.Ns mainGlobals mg → mg d.name = some (.ref fa) →
      ∃ (K : PySem.W.Frag) (fd : FuncData) (sp : Sp), K.In h ∧ (∀ (s : Shared) (u : Value), BindsTo s fd ⟨[u], []⟩ [(x, u)]) ∧
        (∀ (H : Hp) (a : Addr) (ns : List Int), ns.length ≤ n → Only H → SqL K H a (ns.map V.int) → sp [.ref a] H (fun v _ => v = .bl true) fun _ _ _ => False) ∧
        ∀ base : Heap, K.In base → base.Ns mainGlobals mg → FnOk l.prog w K mg base (L2.CX l.prog w) k fa fd [x] sp) :
    PySem.W.WalkO qq loose XP YP l.row.toRowW d [] (fun f vs => PySem.call f vs) := by
  refine Att.attach_call hn hdf fun w s0 s1 mg mb fa o pm cd doc a vs ns G Y ho hd hcd hmg hobj hints hlen hg => ?_
  obtain ⟨K, fd, sp, KX, hb, hsp, hF⟩ := F w mg fa _ Y G.T.g hmg
  refine law_call KX G.T.g G.T.b G.T.builtins G.T.nolimit hg hobj hints (Nat.le_trans hlen hn2) hr hF hb (fun H hO hS => hsp H a ns hlen hO hS) fun H e s' z => ?_
  obtain ⟨_, _, _, _, _, _, _, _, _, _, _, _, z⟩ := z
  exact z
theorem repL_ints {K : PySem.W.Frag} {w : Wd} : ∀ ns : List Int, RepL K w (ns.map V.int) (ns.map Da.int)
  | [] => .nil
  | n :: r => .cons (.int n) (repL_ints r)
theorem law_start {K : PySem.W.Frag} {H : Hp} {a : Addr} {ns : List Int} {f : List Da → Mo Da} (hO : Only H) (hS : SqL K H a (ns.map V.int)) (h : ∃ st', f [.fro (ns.map Da.int)] [] = .ok (.bl true) st') :
    SpOf K 1 f [.ref a] H (fun v _ => v = .bl true) (fun _ _ _ => False) := by
  obtain ⟨st', h⟩ := h
  refine ⟨⟨[], [], H, []⟩, [.fro (ns.map Da.int)], rfl, ⟨rfl, List.nodup_nil, fun a h => absurd h (by simp), fun n a c h => absurd h (by simp), fun a h => absurd h (by simp)⟩, .cons (.fro ?_ (repL_ints ns)) .nil, rfl, ?_⟩
  · rcases hS with (hS | hS) | hS
    · rcases hO a with z | ⟨o, xs, z⟩
      · rw [z] at hS; cases hS
      · rw [z] at hS; cases hS
    · exact .inl hS
    · exact .inr hS
  · show Run K _ (f [.fro (ns.map Da.int)] []) _ _
    rw [h]
    intro io H' x m v r
    exact rep_bl r
end CL
noncomputable section
namespace CL
open PySem PySem.Spec L2
def frcL {α : Type} : List Nat → (List Nat → α) → α
  | [], k => k []
  | a :: r, k => HandSHeadRun.frNat a fun a => frcL r fun r => k (a :: r)
theorem frcL_eq {α : Type} : ∀ (l : List Nat) (k : List Nat → α), frcL l k = k l
  | [], _ => rfl
  | a :: r, k => by
    unfold frcL
    rw [HandSHeadRun.frNat_eq, frcL_eq r]
def frcO {α : Type} (o : Obj) (k : Obj → α) : α := match o with
  | ⟨c, d, t, s⟩ => k ⟨c, d, t, s⟩
theorem frcO_eq {α : Type} (o : Obj) (k : Obj → α) : frcO o k = k o := by cases o; rfl
def frcK {α : Type} : PySem.W.Frag → (PySem.W.Frag → α) → α
  | [], k => k []
  | (a, o) :: r, k => HandSHeadRun.frNat a fun a => frcO o fun o => frcK r fun r => k ((a, o) :: r)
theorem frcK_eq {α : Type} : ∀ (l : PySem.W.Frag) (k : PySem.W.Frag → α), frcK l k = k l
  | [], _ => rfl
  | (a, o) :: r, k => by
    unfold frcK
    rw [HandSHeadRun.frNat_eq, frcO_eq, frcK_eq r]
/-- what an object names that we need -/
def refsS (o : Obj) : List Addr := match o.data with
  | .seq its _ => its.toList.flatMap He.refV
  | .dict es _ => es.toList.flatMap fun e => He.refV e.val
  | .func fd => He.refV fd.code ++ (He.refV fd.defaults ++ He.refV fd.kwdefaults)
  | .cls cd => [cd.ns]
  | _ => []
def nextS (g : Addr → Option Obj) (as : List Addr) : List Addr := as.flatMap fun a => match g a with
  | some o => refsS o
  | none => []
/-- level by level -/
def lvS (g : Addr → Option Obj) : Nat → List Addr → List Addr
  | 0, as => as
  | n + 1, as => as ++ lvS g n (nextS g as)
def lvF {α : Type} (g : Addr → Option Obj) : Nat → List Addr → (List Addr → α) → α
  | 0, as, k => k as
  | n + 1, as, k => frcL (nextS g as) fun bs => lvF g n bs fun cs => k (as ++ cs)
theorem lvF_eq {α : Type} (g : Addr → Option Obj) : ∀ (n : Nat) (as : List Addr) (k : List Addr → α), lvF g n as k = k (lvS g n as)
  | 0, _, _ => rfl
  | n + 1, as, k => by
    unfold lvF
    rw [frcL_eq, lvF_eq g n] <;> rfl
def KS (g : Addr → Option Obj) (n : Nat) : PySem.W.Frag := He.frT g (lvS g n [mainGlobals])
def obsS (n : Nat) (fa : List He.Fa) (fn : List He.DefD) (ex : PySem.W.Frag → Bool) (g : Addr → Option Obj) : He.AlX := (He.obsT fa fn [] (KS g n), ex (KS g n))
theorem saysS_of {n : Nat} {fa : List He.Fa} {fn : List He.DefD} {ex : PySem.W.Frag → Bool} {w : World} {h : Heap} (e : obsS n fa fn ex h.get? = He.valX fn [] w) : He.SaysX fa fn [] [] ex w h (KS h.get? n) :=
  ⟨congrArg (fun z : He.AlX => z.1) e, congrArg (fun z : He.AlX => z.2) e, fun p hp => absurd hp (by simp), fun p hp => absurd hp (by simp), fun p hp => absurd hp (by simp)⟩
def hookS (n : Nat) (fa : List He.Fa) (fn : List He.DefD) (ex : PySem.W.Frag → Bool) : PySem.W.Hook where
  α := He.AlX
  obs := fun s => obsS n fa fn ex s.heap.get?
  val := fun w => He.valX fn [] w
  says := fun w h => ∃ K : PySem.W.Frag, K.In h ∧ He.SaysX fa fn [] [] ex w h K
  of := fun _ _ e => ⟨_, He.frT_in, saysS_of e⟩
  keeps := fun _ _ _ ⟨K, hK, c⟩ k => ⟨K, PySem.W.Frag.In.keeps hK k, ⟨c.t, c.more, c.hd, c.out, fun p hp => k _ _ (c.empty p hp)⟩⟩
def obF (n : Nat) (fa : List He.Fa) (fn : List He.DefD) (ex : PySem.W.Frag → Bool) (s : PySem.W.SharedT) : He.AlX :=
  lvF (HandSHeadRun.getT s) n [mainGlobals] fun as => frcK (He.frT (HandSHeadRun.getT s) as) fun K => (He.obsT fa fn [] K, ex K)
theorem obF_eq (n : Nat) (fa : List He.Fa) (fn : List He.DefD) (ex : PySem.W.Frag → Bool) (s : PySem.W.SharedT) : obF n fa fn ex s = (hookS n fa fn ex).obs s.abs := by
  show _ = obsS n fa fn ex s.abs.heap.get?
  have e : HandSHeadRun.getT s = s.abs.heap.get? := funext (HandSHeadRun.getT_eq s)
  rw [← e]
  unfold obF
  rw [lvF_eq, frcK_eq] <;> rfl
open HandSHeadRun PySem.W in
theorem run_of {r : OpenRow} {q : Program} {H : Hook} {ob : SharedT → H.α} {M : Nat} {loose : List PySem.Str} {w : World}
    (h1 : ∀ os : OsState, (endF (stepQ (denQ tabQ) r.prog w) M r.prog w os).map (fun s => looksF r.prog (boot_heap w.params) s.abs) = some true)
    (h2 : ∀ os : OsState, (endF (stepQ (denQ tabQ) r.prog w) M r.prog w os).map (fun s => seenQ q loose (importedModules r.prog.main.body) (fun s => xlAt q [] s && recOk r.toRowW.records s) s.abs) = some (openGood q loose))
    (h3 : ∀ os : OsState, (endF (stepQ (denQ tabQ) r.prog w) M r.prog w os).map (fun s => ob s) = some (H.val w)) : RunEq r q H ob M loose w := by
  intro os
  obtain ⟨s, hs, e1⟩ := Option.map_eq_some_iff.mp (h1 os)
  have e2 := h2 os
  have e3 := h3 os
  rw [hs] at e2 e3 ⊢
  have e2 := Option.some.inj e2
  have e3 := Option.some.inj e3
  exact congrArg some (Prod.ext e1 (Prod.ext e2 e3))
end CL
namespace CL
open PySem PySem.Spec L2
def top (i : Nat) : Stmt := PySem.Challenge.pw_coldlanes_k14_others_refused.main.body.getD i (.Pass ⟨0, 0, 0, 0⟩)
abbrev S_Block___init__ : Stmt := inCls (top 34) 0
abbrev NN_Block___init__ : List Str := ["self", "label", "warmth", "goal"]
theorem sc_Block___init__ : FnScope NN_Block___init__ ["self", "label", "warmth", "goal"] (defScope S_Block___init__) := ⟨rfl, rfl, rfl, by decide +kernel, rfl, by decide +kernel, by decide +kernel⟩
abbrev S_Code___init__ : Stmt := inCls (top 42) 0
abbrev NN_Code___init__ : List Str := ["self", "boxes"]
theorem sc_Code___init__ : FnScope NN_Code___init__ ["self", "boxes"] (defScope S_Code___init__) := ⟨rfl, rfl, rfl, by decide +kernel, rfl, by decide +kernel, by decide +kernel⟩
abbrev S_Code_size : Stmt := inCls (top 42) 8
abbrev NN_Code_size : List Str := ["self"]
theorem sc_Code_size : FnScope NN_Code_size ["self"] (defScope S_Code_size) := ⟨rfl, rfl, rfl, by decide +kernel, rfl, by decide +kernel, by decide +kernel⟩
abbrev S_Frame___init__ : Stmt := inCls (top 63) 0
abbrev NN_Frame___init__ : List Str := ["self", "place", "boxes"]
theorem sc_Frame___init__ : FnScope NN_Frame___init__ ["self", "place", "boxes"] (defScope S_Frame___init__) := ⟨rfl, rfl, rfl, by decide +kernel, rfl, by decide +kernel, by decide +kernel⟩
abbrev S_Machine_depth : Stmt := inCls (top 64) 11
abbrev NN_Machine_depth : List Str := ["self"]
theorem sc_Machine_depth : FnScope NN_Machine_depth ["self"] (defScope S_Machine_depth) := ⟨rfl, rfl, rfl, by decide +kernel, rfl, by decide +kernel, by decide +kernel⟩
abbrev S_Machine_instruction : Stmt := inCls (top 64) 1
abbrev NN_Machine_instruction : List Str := ["self"]
theorem sc_Machine_instruction : FnScope NN_Machine_instruction ["self"] (defScope S_Machine_instruction) := ⟨rfl, rfl, rfl, by decide +kernel, rfl, by decide +kernel, by decide +kernel⟩
abbrev S_Machine_outcome : Stmt := inCls (top 64) 9
abbrev NN_Machine_outcome : List Str := ["self"]
theorem sc_Machine_outcome : FnScope NN_Machine_outcome ["self"] (defScope S_Machine_outcome) := ⟨rfl, rfl, rfl, by decide +kernel, rfl, by decide +kernel, by decide +kernel⟩
abbrev S_Machine_returned : Stmt := inCls (top 64) 6
abbrev NN_Machine_returned : List Str := ["self", "number"]
theorem sc_Machine_returned : FnScope NN_Machine_returned ["self", "number"] (defScope S_Machine_returned) := ⟨rfl, rfl, rfl, by decide +kernel, rfl, by decide +kernel, by decide +kernel⟩
abbrev S_Machine_steps : Stmt := inCls (top 64) 10
abbrev NN_Machine_steps : List Str := ["self"]
theorem sc_Machine_steps : FnScope NN_Machine_steps ["self"] (defScope S_Machine_steps) := ⟨rfl, rfl, rfl, by decide +kernel, rfl, by decide +kernel, by decide +kernel⟩
abbrev S_Machine_where : Stmt := inCls (top 64) 14
abbrev NN_Machine_where : List Str := ["self"]
theorem sc_Machine_where : FnScope NN_Machine_where ["self"] (defScope S_Machine_where) := ⟨rfl, rfl, rfl, by decide +kernel, rfl, by decide +kernel, by decide +kernel⟩
abbrev S_Maker_begin : Stmt := inCls (top 35) 3
abbrev NN_Maker_begin : List Str := ["self", "label", "warmth"]
theorem sc_Maker_begin : FnScope NN_Maker_begin ["self", "label", "warmth"] (defScope S_Maker_begin) := ⟨rfl, rfl, rfl, by decide +kernel, rfl, by decide +kernel, by decide +kernel⟩
abbrev S_Maker_caught : Stmt := inCls (top 35) 14
abbrev NN_Maker_caught : List Str := ["self", "label"]
theorem sc_Maker_caught : FnScope NN_Maker_caught ["self", "label"] (defScope S_Maker_caught) := ⟨rfl, rfl, rfl, by decide +kernel, rfl, by decide +kernel, by decide +kernel⟩
abbrev S_Maker_new_box : Stmt := inCls (top 35) 2
abbrev NN_Maker_new_box : List Str := ["self"]
theorem sc_Maker_new_box : FnScope NN_Maker_new_box ["self"] (defScope S_Maker_new_box) := ⟨rfl, rfl, rfl, by decide +kernel, rfl, by decide +kernel, by decide +kernel⟩
abbrev S_Maker_new_label : Stmt := inCls (top 35) 1
abbrev NN_Maker_new_label : List Str := ["self"]
theorem sc_Maker_new_label : FnScope NN_Maker_new_label ["self"] (defScope S_Maker_new_label) := ⟨rfl, rfl, rfl, by decide +kernel, rfl, by decide +kernel, by decide +kernel⟩
abbrev S_NoPlace___init__ : Stmt := inCls (top 7) 0
abbrev NN_NoPlace___init__ : List Str := ["self", "place"]
theorem sc_NoPlace___init__ : FnScope NN_NoPlace___init__ ["self", "place"] (defScope S_NoPlace___init__) := ⟨rfl, rfl, rfl, by decide +kernel, rfl, by decide +kernel, by decide +kernel⟩
abbrev S__law_refusal : Stmt := top 74
abbrev NN__law_refusal : List Str := ["caught", "kinds"]
theorem sc__law_refusal : FnScope NN__law_refusal ["caught"] (defScope S__law_refusal) := ⟨rfl, rfl, rfl, by decide +kernel, rfl, by decide +kernel, by decide +kernel⟩
abbrev S__law_town : Stmt := top 73
abbrev NN__law_town : List Str := ["script"]
theorem sc__law_town : FnScope NN__law_town ["script"] (defScope S__law_town) := ⟨rfl, rfl, rfl, by decide +kernel, rfl, by decide +kernel, by decide +kernel⟩
abbrev S_can_throw : Stmt := top 38
abbrev NN_can_throw : List Str := ["instruction", "word", "what", "more"]
theorem sc_can_throw : FnScope NN_can_throw ["instruction"] (defScope S_can_throw) := ⟨rfl, rfl, rfl, by decide +kernel, rfl, by decide +kernel, by decide +kernel⟩
abbrev S_chains_of : Stmt := top 59
abbrev NN_chains_of : List Str := ["table", "found", "begin", "end", "chain"]
theorem sc_chains_of : FnScope NN_chains_of ["table"] (defScope S_chains_of) := ⟨rfl, rfl, rfl, by decide +kernel, rfl, by decide +kernel, by decide +kernel⟩
abbrev S_change_of : Stmt := top 37
abbrev NN_change_of : List Str := ["word", "more"]
theorem sc_change_of : FnScope NN_change_of ["word", "more"] (defScope S_change_of) := ⟨rfl, rfl, rfl, by decide +kernel, rfl, by decide +kernel, by decide +kernel⟩
abbrev S_Maker_put : Stmt := inCls (top 35) 4
abbrev NN_Maker_put : List Str := ["self", "word", "what", "more"]
theorem sc_Maker_put : FnScope NN_Maker_put ["self", "word", "what", "more"] (defScope S_Maker_put) := ⟨rfl, rfl, rfl, by decide +kernel, rfl, by decide +kernel, by decide +kernel⟩
abbrev S_Maker_worth : Stmt := inCls (top 35) 5
abbrev NN_Maker_worth : List Str := ["self", "thing"]
theorem sc_Maker_worth : FnScope NN_Maker_worth ["self", "thing"] (defScope S_Maker_worth) := ⟨rfl, rfl, rfl, by decide +kernel, rfl, by decide +kernel, by decide +kernel⟩
abbrev S_Maker_attempt : Stmt := inCls (top 35) 13
abbrev NN_Maker_attempt : List Str := ["self", "row", "word", "body", "handlers", "last", "outer", "warmth", "after", "clean", "goals", "inner", "path", "last_path", "k", "one", "goal", "box", "kind"]
theorem sc_Maker_attempt : FnScope NN_Maker_attempt ["self", "row"] (defScope S_Maker_attempt) := ⟨rfl, rfl, rfl, by decide +kernel, rfl, by decide +kernel, by decide +kernel⟩
abbrev S_Maker_body : Stmt := inCls (top 35) 6
abbrev NN_Maker_body : List Str := ["self", "rows", "path", "kept", "k", "row"]
theorem sc_Maker_body : FnScope NN_Maker_body ["self", "rows", "path"] (defScope S_Maker_body) := ⟨rfl, rfl, rfl, by decide +kernel, rfl, by decide +kernel, by decide +kernel⟩
abbrev S_Maker_choice : Stmt := inCls (top 35) 8
abbrev NN_Maker_choice : List Str := ["self", "row", "other", "after"]
theorem sc_Maker_choice : FnScope NN_Maker_choice ["self", "row"] (defScope S_Maker_choice) := ⟨rfl, rfl, rfl, by decide +kernel, rfl, by decide +kernel, by decide +kernel⟩
abbrev S_Maker_leave_all : Stmt := inCls (top 35) 11
abbrev NN_Maker_leave_all : List Str := ["self", "worth", "box"]
theorem sc_Maker_leave_all : FnScope NN_Maker_leave_all ["self", "worth"] (defScope S_Maker_leave_all) := ⟨rfl, rfl, rfl, by decide +kernel, rfl, by decide +kernel, by decide +kernel⟩
abbrev S_Maker_leave_loop : Stmt := inCls (top 35) 10
abbrev NN_Maker_leave_loop : List Str := ["self", "at", "goal", "k"]
theorem sc_Maker_leave_loop : FnScope NN_Maker_leave_loop ["self"] (defScope S_Maker_leave_loop) := ⟨rfl, rfl, rfl, by decide +kernel, rfl, by decide +kernel, by decide +kernel⟩
abbrev S_Maker_leave_to : Stmt := inCls (top 35) 12
abbrev NN_Maker_leave_to : List Str := ["self", "floor", "kept", "chain", "at"]
theorem sc_Maker_leave_to : FnScope NN_Maker_leave_to ["self", "floor"] (defScope S_Maker_leave_to) := ⟨rfl, rfl, rfl, by decide +kernel, rfl, by decide +kernel, by decide +kernel⟩
abbrev S_Maker_loop : Stmt := inCls (top 35) 9
abbrev NN_Maker_loop : List Str := ["self", "row", "box", "again", "after", "warmth"]
theorem sc_Maker_loop : FnScope NN_Maker_loop ["self", "row"] (defScope S_Maker_loop) := ⟨rfl, rfl, rfl, by decide +kernel, rfl, by decide +kernel, by decide +kernel⟩
abbrev S_Maker_put_end : Stmt := inCls (top 35) 15
abbrev NN_Maker_put_end : List Str := ["self", "last", "outer", "path", "kept", "chain"]
theorem sc_Maker_put_end : FnScope NN_Maker_put_end ["self", "last", "outer", "path"] (defScope S_Maker_put_end) := ⟨rfl, rfl, rfl, by decide +kernel, rfl, by decide +kernel, by decide +kernel⟩
abbrev S_Maker_row : Stmt := inCls (top 35) 7
abbrev NN_Maker_row : List Str := ["self", "row", "word", "one"]
theorem sc_Maker_row : FnScope NN_Maker_row ["self", "row"] (defScope S_Maker_row) := ⟨rfl, rfl, rfl, by decide +kernel, rfl, by decide +kernel, by decide +kernel⟩
abbrev S_Maker_function : Stmt := inCls (top 35) 16
abbrev NN_Maker_function : List Str := ["self", "goal", "label"]
theorem sc_Maker_function : FnScope NN_Maker_function ["self", "goal"] (defScope S_Maker_function) := ⟨rfl, rfl, rfl, by decide +kernel, rfl, by decide +kernel, by decide +kernel⟩
abbrev S_falls : Stmt := top 44
abbrev NN_falls : List Str := ["block"]
theorem sc_falls : FnScope NN_falls ["block"] (defScope S_falls) := ⟨rfl, rfl, rfl, by decide +kernel, rfl, by decide +kernel, by decide +kernel⟩
abbrev S_found_in : Stmt := top 57
abbrev NN_found_in : List Str := ["table", "place", "low", "high", "half"]
theorem sc_found_in : FnScope NN_found_in ["table", "place"] (defScope S_found_in) := ⟨rfl, rfl, rfl, by decide +kernel, rfl, by decide +kernel, by decide +kernel⟩
abbrev S_Machine_search : Stmt := inCls (top 64) 3
abbrev NN_Machine_search : List Str := ["self", "kind", "at", "own", "goal", "clean"]
theorem sc_Machine_search : FnScope NN_Machine_search ["self", "kind"] (defScope S_Machine_search) := ⟨rfl, rfl, rfl, by decide +kernel, rfl, by decide +kernel, by decide +kernel⟩
abbrev S_Machine_thrown : Stmt := inCls (top 64) 4
abbrev NN_Machine_thrown : List Str := ["self", "kind", "number", "frame", "own", "goal", "clean"]
theorem sc_Machine_thrown : FnScope NN_Machine_thrown ["self", "kind", "number"] (defScope S_Machine_thrown) := ⟨rfl, rfl, rfl, by decide +kernel, rfl, by decide +kernel, by decide +kernel⟩
abbrev S_is_whole : Stmt := top 11
abbrev NN_is_whole : List Str := ["thing", "low", "high"]
theorem sc_is_whole : FnScope NN_is_whole ["thing", "low", "high"] (defScope S_is_whole) := ⟨rfl, rfl, rfl, by decide +kernel, rfl, by decide +kernel, by decide +kernel⟩
abbrev S_Code_look_place : Stmt := inCls (top 42) 1
abbrev NN_Code_look_place : List Str := ["self", "place"]
theorem sc_Code_look_place : FnScope NN_Code_look_place ["self", "place"] (defScope S_Code_look_place) := ⟨rfl, rfl, rfl, by decide +kernel, rfl, by decide +kernel, by decide +kernel⟩
abbrev S_Code_caught_by : Stmt := inCls (top 42) 3
abbrev NN_Code_caught_by : List Str := ["self", "place"]
theorem sc_Code_caught_by : FnScope NN_Code_caught_by ["self", "place"] (defScope S_Code_caught_by) := ⟨rfl, rfl, rfl, by decide +kernel, rfl, by decide +kernel, by decide +kernel⟩
abbrev S_is_chain : Stmt := top 54
abbrev NN_is_chain : List Str := ["chain", "one"]
theorem sc_is_chain : FnScope NN_is_chain ["chain"] (defScope S_is_chain) := ⟨rfl, rfl, rfl, by decide +kernel, rfl, by decide +kernel, by decide +kernel⟩
abbrev S_is_order : Stmt := top 47
abbrev NN_is_order : List Str := ["order", "many", "one"]
theorem sc_is_order : FnScope NN_is_order ["order", "many"] (defScope S_is_order) := ⟨rfl, rfl, rfl, by decide +kernel, rfl, by decide +kernel, by decide +kernel⟩
abbrev S_is_table : Stmt := top 53
abbrev NN_is_table : List Str := ["table", "at", "row", "one"]
theorem sc_is_table : FnScope NN_is_table ["table"] (defScope S_is_table) := ⟨rfl, rfl, rfl, by decide +kernel, rfl, by decide +kernel, by decide +kernel⟩
abbrev S_is_worth : Stmt := top 23
abbrev NN_is_worth : List Str := ["thing", "deep"]
theorem sc_is_worth : FnScope NN_is_worth ["thing", "deep"] (defScope S_is_worth) := ⟨rfl, rfl, rfl, by decide +kernel, rfl, by decide +kernel, by decide +kernel⟩
abbrev S_is_call : Stmt := top 26
abbrev NN_is_call : List Str := ["row", "place", "index", "many", "word", "box", "goal", "worths", "one"]
theorem sc_is_call : FnScope NN_is_call ["row", "place"] (defScope S_is_call) := ⟨rfl, rfl, rfl, by decide +kernel, rfl, by decide +kernel, by decide +kernel⟩
abbrev S_is_body : Stmt := top 24
abbrev NN_is_body : List Str := ["thing", "place", "deep", "looped", "row"]
theorem sc_is_body : FnScope NN_is_body ["thing", "place", "deep", "looped"] (defScope S_is_body) := ⟨rfl, rfl, rfl, by decide +kernel, rfl, by decide +kernel, by decide +kernel⟩
abbrev S_is_row : Stmt := top 25
abbrev NN_is_row : List Str := ["row", "place", "deep", "looped", "word", "one"]
theorem sc_is_row : FnScope NN_is_row ["row", "place", "deep", "looped"] (defScope S_is_row) := ⟨rfl, rfl, rfl, by decide +kernel, rfl, by decide +kernel, by decide +kernel⟩
abbrev S_is_try : Stmt := top 27
abbrev NN_is_try : List Str := ["row", "place", "deep", "looped", "word", "body", "handlers", "last", "one"]
theorem sc_is_try : FnScope NN_is_try ["row", "place", "deep", "looped"] (defScope S_is_try) := ⟨rfl, rfl, rfl, by decide +kernel, rfl, by decide +kernel, by decide +kernel⟩
abbrev S_is_program : Stmt := top 28
abbrev NN_is_program : List Str := ["thing", "many", "one", "k"]
theorem sc_is_program : FnScope NN_is_program ["thing"] (defScope S_is_program) := ⟨rfl, rfl, rfl, by decide +kernel, rfl, by decide +kernel, by decide +kernel⟩
abbrev S_look_code : Stmt := top 51
abbrev NN_look_code : List Str := ["code"]
theorem sc_look_code : FnScope NN_look_code ["code"] (defScope S_look_code) := ⟨rfl, rfl, rfl, by decide +kernel, rfl, by decide +kernel, by decide +kernel⟩
abbrev S_listing : Stmt := top 69
abbrev NN_listing : List Str := ["code", "found", "place", "word", "what", "more", "rest", "one"]
theorem sc_listing : FnScope NN_listing ["code"] (defScope S_listing) := ⟨rfl, rfl, rfl, by decide +kernel, rfl, by decide +kernel, by decide +kernel⟩
abbrev S_look_number : Stmt := top 12
abbrev NN_look_number : List Str := ["thing", "low", "high"]
theorem sc_look_number : FnScope NN_look_number ["thing", "low", "high"] (defScope S_look_number) := ⟨rfl, rfl, rfl, by decide +kernel, rfl, by decide +kernel, by decide +kernel⟩
abbrev S_look_program : Stmt := top 29
abbrev NN_look_program : List Str := ["thing"]
theorem sc_look_program : FnScope NN_look_program ["thing"] (defScope S_look_program) := ⟨rfl, rfl, rfl, by decide +kernel, rfl, by decide +kernel, by decide +kernel⟩
abbrev S_Maker___init__ : Stmt := inCls (top 35) 0
abbrev NN_Maker___init__ : List Str := ["self", "program"]
theorem sc_Maker___init__ : FnScope NN_Maker___init__ ["self", "program"] (defScope S_Maker___init__) := ⟨rfl, rfl, rfl, by decide +kernel, rfl, by decide +kernel, by decide +kernel⟩
abbrev S_look_table : Stmt := top 55
abbrev NN_look_table : List Str := ["table"]
theorem sc_look_table : FnScope NN_look_table ["table"] (defScope S_look_table) := ⟨rfl, rfl, rfl, by decide +kernel, rfl, by decide +kernel, by decide +kernel⟩
abbrev S_found_at : Stmt := top 56
abbrev NN_found_at : List Str := ["table", "place"]
theorem sc_found_at : FnScope NN_found_at ["table", "place"] (defScope S_found_at) := ⟨rfl, rfl, rfl, by decide +kernel, rfl, by decide +kernel, by decide +kernel⟩
abbrev S_made : Stmt := top 36
abbrev NN_made : List Str := ["program", "maker", "entries", "goal"]
theorem sc_made : FnScope NN_made ["program"] (defScope S_made) := ⟨rfl, rfl, rfl, by decide +kernel, rfl, by decide +kernel, by decide +kernel⟩
abbrev S_orders : Stmt := top 43
abbrev NN_orders : List Str := ["blocks", "hot", "cold", "k"]
theorem sc_orders : FnScope NN_orders ["blocks"] (defScope S_orders) := ⟨rfl, rfl, rfl, by decide +kernel, rfl, by decide +kernel, by decide +kernel⟩
abbrev S_packed : Stmt := top 60
abbrev NN_packed : List Str := ["table", "chains", "found", "chain", "at", "begin", "end", "kind", "goal", "clean", "sign"]
theorem sc_packed : FnScope NN_packed ["table"] (defScope S_packed) := ⟨rfl, rfl, rfl, by decide +kernel, rfl, by decide +kernel, by decide +kernel⟩
abbrev S_ranges : Stmt := top 52
abbrev NN_ranges : List Str := ["code", "found", "last", "place", "chain"]
theorem sc_ranges : FnScope NN_ranges ["code"] (defScope S_ranges) := ⟨rfl, rfl, rfl, by decide +kernel, rfl, by decide +kernel, by decide +kernel⟩
abbrev S_Machine___init__ : Stmt := inCls (top 64) 0
abbrev NN_Machine___init__ : List Str := ["self", "code", "table", "goal", "worths", "fine", "one"]
theorem sc_Machine___init__ : FnScope NN_Machine___init__ ["self", "code", "table", "goal", "worths"] (defScope S_Machine___init__) := ⟨rfl, rfl, rfl, by decide +kernel, rfl, by decide +kernel, by decide +kernel⟩
abbrev S_reckoned : Stmt := top 30
abbrev NN_reckoned : List Str := ["sign", "one", "other"]
theorem sc_reckoned : FnScope NN_reckoned ["sign", "one", "other"] (defScope S_reckoned) := ⟨rfl, rfl, rfl, by decide +kernel, rfl, by decide +kernel, by decide +kernel⟩
abbrev S_Machine_plain : Stmt := inCls (top 64) 7
abbrev NN_Machine_plain : List Str := ["self", "frame", "word", "what", "more", "stack", "other"]
theorem sc_Machine_plain : FnScope NN_Machine_plain ["self", "frame", "word", "what", "more"] (defScope S_Machine_plain) := ⟨rfl, rfl, rfl, by decide +kernel, rfl, by decide +kernel, by decide +kernel⟩
abbrev S_Machine_throws : Stmt := inCls (top 64) 2
abbrev NN_Machine_throws : List Str := ["self", "word", "what", "more", "frame"]
theorem sc_Machine_throws : FnScope NN_Machine_throws ["self"] (defScope S_Machine_throws) := ⟨rfl, rfl, rfl, by decide +kernel, rfl, by decide +kernel, by decide +kernel⟩
abbrev S_Machine_step : Stmt := inCls (top 64) 5
abbrev NN_Machine_step : List Str := ["self", "word", "what", "more", "thrown", "frame", "own"]
theorem sc_Machine_step : FnScope NN_Machine_step ["self"] (defScope S_Machine_step) := ⟨rfl, rfl, rfl, by decide +kernel, rfl, by decide +kernel, by decide +kernel⟩
abbrev S_Machine_run : Stmt := inCls (top 64) 8
abbrev NN_Machine_run : List Str := ["self", "most"]
theorem sc_Machine_run : FnScope NN_Machine_run ["self", "most"] (defScope S_Machine_run) := ⟨rfl, rfl, rfl, by decide +kernel, rfl, by decide +kernel, by decide +kernel⟩
abbrev S__law_over : Stmt := top 76
abbrev NN__law_over : List Str := ["kind", "machine"]
theorem sc__law_over : FnScope NN__law_over ["kind", "machine"] (defScope S__law_over) := ⟨rfl, rfl, rfl, by decide +kernel, rfl, by decide +kernel, by decide +kernel⟩
abbrev S_done : Stmt := top 65
abbrev NN_done : List Str := ["code", "table", "most", "goal", "worths", "machine"]
theorem sc_done : FnScope NN_done ["code", "table", "most", "goal", "worths"] (defScope S_done) := ⟨rfl, rfl, rfl, by decide +kernel, rfl, by decide +kernel, by decide +kernel⟩
abbrev S_settle : Stmt := top 48
abbrev NN_settle : List Str := ["code", "entries", "place", "word", "what", "more", "found", "chain", "label", "kind", "goal", "clean"]
theorem sc_settle : FnScope NN_settle ["code", "entries"] (defScope S_settle) := ⟨rfl, rfl, rfl, by decide +kernel, rfl, by decide +kernel, by decide +kernel⟩
abbrev S_table_text : Stmt := top 71
abbrev NN_table_text : List Str := ["table", "rows", "begin", "end", "chain", "one"]
theorem sc_table_text : FnScope NN_table_text ["table"] (defScope S_table_text) := ⟨rfl, rfl, rfl, by decide +kernel, rfl, by decide +kernel, by decide +kernel⟩
abbrev S__law_does : Stmt := top 75
abbrev NN__law_does : List Str := ["kind", "one", "two"]
theorem sc__law_does : FnScope NN__law_does ["kind", "one", "two"] (defScope S__law_does) := ⟨rfl, rfl, rfl, by decide +kernel, rfl, by decide +kernel, by decide +kernel⟩
abbrev S__law_asked : Stmt := top 77
abbrev NN__law_asked : List Str := ["kind", "one", "two", "caught", "bears", "e"]
theorem sc__law_asked : FnScope NN__law_asked ["kind", "one", "two"] (defScope S__law_asked) := ⟨rfl, rfl, rfl, by decide +kernel, rfl, by decide +kernel, by decide +kernel⟩
abbrev S_with_jumps : Stmt := top 45
abbrev NN_with_jumps : List Str := ["blocks", "order", "found", "at", "k", "rows", "following"]
theorem sc_with_jumps : FnScope NN_with_jumps ["blocks", "order"] (defScope S_with_jumps) := ⟨rfl, rfl, rfl, by decide +kernel, rfl, by decide +kernel, by decide +kernel⟩
abbrev S_laid : Stmt := top 46
abbrev NN_laid : List Str := ["program", "order", "blocks", "entries", "boxes", "best", "hot", "code", "chosen", "placed", "at", "block", "rows", "instruction", "chain", "path", "height", "one"]
theorem sc_laid : FnScope NN_laid ["program", "order"] (defScope S_laid) := ⟨rfl, rfl, rfl, by decide +kernel, rfl, by decide +kernel, by decide +kernel⟩
abbrev S_steps_of : Stmt := top 67
abbrev NN_steps_of : List Str := ["program", "order", "machine"]
theorem sc_steps_of : FnScope NN_steps_of ["program", "order"] (defScope S_steps_of) := ⟨rfl, rfl, rfl, by decide +kernel, rfl, by decide +kernel, by decide +kernel⟩
abbrev S_law : Stmt := top 78
abbrev NN_law : List Str := ["script", "town", "code", "chain", "odd", "bad", "machine", "need", "found", "kind"]
theorem sc_law : FnScope NN_law ["script"] (defScope S_law) := ⟨rfl, rfl, rfl, by decide +kernel, rfl, by decide +kernel, by decide +kernel⟩
end CL
namespace CL
open PySem PySem.Spec L2
def hd_Block___init__ : He.DefD := ⟨("Block", some "__init__"), "__init__", "Block.__init__", defArgs S_Block___init__, defBody S_Block___init__, defScope S_Block___init__, [], []⟩
def hd_Code___init__ : He.DefD := ⟨("Code", some "__init__"), "__init__", "Code.__init__", defArgs S_Code___init__, defBody S_Code___init__, defScope S_Code___init__, [], []⟩
def hd_Code_size : He.DefD := ⟨("Code", some "size"), "size", "Code.size", defArgs S_Code_size, defBody S_Code_size, defScope S_Code_size, [], []⟩
def hd_Frame___init__ : He.DefD := ⟨("Frame", some "__init__"), "__init__", "Frame.__init__", defArgs S_Frame___init__, defBody S_Frame___init__, defScope S_Frame___init__, [], []⟩
def hd_Machine_depth : He.DefD := ⟨("Machine", some "depth"), "depth", "Machine.depth", defArgs S_Machine_depth, defBody S_Machine_depth, defScope S_Machine_depth, [], []⟩
def hd_Machine_instruction : He.DefD := ⟨("Machine", some "instruction"), "instruction", "Machine.instruction", defArgs S_Machine_instruction, defBody S_Machine_instruction, defScope S_Machine_instruction, [], []⟩
def hd_Machine_outcome : He.DefD := ⟨("Machine", some "outcome"), "outcome", "Machine.outcome", defArgs S_Machine_outcome, defBody S_Machine_outcome, defScope S_Machine_outcome, [], []⟩
def hd_Machine_returned : He.DefD := ⟨("Machine", some "returned"), "returned", "Machine.returned", defArgs S_Machine_returned, defBody S_Machine_returned, defScope S_Machine_returned, [], []⟩
def hd_Machine_steps : He.DefD := ⟨("Machine", some "steps"), "steps", "Machine.steps", defArgs S_Machine_steps, defBody S_Machine_steps, defScope S_Machine_steps, [], []⟩
def hd_Machine_where : He.DefD := ⟨("Machine", some "where"), "where", "Machine.where", defArgs S_Machine_where, defBody S_Machine_where, defScope S_Machine_where, [], []⟩
def hd_Maker_begin : He.DefD := ⟨("Maker", some "begin"), "begin", "Maker.begin", defArgs S_Maker_begin, defBody S_Maker_begin, defScope S_Maker_begin, [], []⟩
def hd_Maker_caught : He.DefD := ⟨("Maker", some "caught"), "caught", "Maker.caught", defArgs S_Maker_caught, defBody S_Maker_caught, defScope S_Maker_caught, [], []⟩
def hd_Maker_new_box : He.DefD := ⟨("Maker", some "new_box"), "new_box", "Maker.new_box", defArgs S_Maker_new_box, defBody S_Maker_new_box, defScope S_Maker_new_box, [], []⟩
def hd_Maker_new_label : He.DefD := ⟨("Maker", some "new_label"), "new_label", "Maker.new_label", defArgs S_Maker_new_label, defBody S_Maker_new_label, defScope S_Maker_new_label, [], []⟩
def hd_NoPlace___init__ : He.DefD := ⟨("NoPlace", some "__init__"), "__init__", "NoPlace.__init__", defArgs S_NoPlace___init__, defBody S_NoPlace___init__, defScope S_NoPlace___init__, [], []⟩
def hd__law_refusal : He.DefD := ⟨("_law_refusal", none), "_law_refusal", "_law_refusal", defArgs S__law_refusal, defBody S__law_refusal, defScope S__law_refusal, [], []⟩
def hd__law_town : He.DefD := ⟨("_law_town", none), "_law_town", "_law_town", defArgs S__law_town, defBody S__law_town, defScope S__law_town, [], []⟩
def hd_can_throw : He.DefD := ⟨("can_throw", none), "can_throw", "can_throw", defArgs S_can_throw, defBody S_can_throw, defScope S_can_throw, [], []⟩
def hd_chains_of : He.DefD := ⟨("chains_of", none), "chains_of", "chains_of", defArgs S_chains_of, defBody S_chains_of, defScope S_chains_of, [], []⟩
def hd_change_of : He.DefD := ⟨("change_of", none), "change_of", "change_of", defArgs S_change_of, defBody S_change_of, defScope S_change_of, [], []⟩
def hd_Maker_put : He.DefD := ⟨("Maker", some "put"), "put", "Maker.put", defArgs S_Maker_put, defBody S_Maker_put, defScope S_Maker_put, [], [("what", (.non)), ("more", (.non))]⟩
def hd_Maker_worth : He.DefD := ⟨("Maker", some "worth"), "worth", "Maker.worth", defArgs S_Maker_worth, defBody S_Maker_worth, defScope S_Maker_worth, [], []⟩
def hd_Maker_attempt : He.DefD := ⟨("Maker", some "attempt"), "attempt", "Maker.attempt", defArgs S_Maker_attempt, defBody S_Maker_attempt, defScope S_Maker_attempt, [], []⟩
def hd_Maker_body : He.DefD := ⟨("Maker", some "body"), "body", "Maker.body", defArgs S_Maker_body, defBody S_Maker_body, defScope S_Maker_body, [], []⟩
def hd_Maker_choice : He.DefD := ⟨("Maker", some "choice"), "choice", "Maker.choice", defArgs S_Maker_choice, defBody S_Maker_choice, defScope S_Maker_choice, [], []⟩
def hd_Maker_leave_all : He.DefD := ⟨("Maker", some "leave_all"), "leave_all", "Maker.leave_all", defArgs S_Maker_leave_all, defBody S_Maker_leave_all, defScope S_Maker_leave_all, [], []⟩
def hd_Maker_leave_loop : He.DefD := ⟨("Maker", some "leave_loop"), "leave_loop", "Maker.leave_loop", defArgs S_Maker_leave_loop, defBody S_Maker_leave_loop, defScope S_Maker_leave_loop, [], []⟩
def hd_Maker_leave_to : He.DefD := ⟨("Maker", some "leave_to"), "leave_to", "Maker.leave_to", defArgs S_Maker_leave_to, defBody S_Maker_leave_to, defScope S_Maker_leave_to, [], []⟩
def hd_Maker_loop : He.DefD := ⟨("Maker", some "loop"), "loop", "Maker.loop", defArgs S_Maker_loop, defBody S_Maker_loop, defScope S_Maker_loop, [], []⟩
def hd_Maker_put_end : He.DefD := ⟨("Maker", some "put_end"), "put_end", "Maker.put_end", defArgs S_Maker_put_end, defBody S_Maker_put_end, defScope S_Maker_put_end, [], []⟩
def hd_Maker_row : He.DefD := ⟨("Maker", some "row"), "row", "Maker.row", defArgs S_Maker_row, defBody S_Maker_row, defScope S_Maker_row, [], []⟩
def hd_Maker_function : He.DefD := ⟨("Maker", some "function"), "function", "Maker.function", defArgs S_Maker_function, defBody S_Maker_function, defScope S_Maker_function, [], []⟩
def hd_falls : He.DefD := ⟨("falls", none), "falls", "falls", defArgs S_falls, defBody S_falls, defScope S_falls, [], []⟩
def hd_found_in : He.DefD := ⟨("found_in", none), "found_in", "found_in", defArgs S_found_in, defBody S_found_in, defScope S_found_in, [], []⟩
def hd_Machine_search : He.DefD := ⟨("Machine", some "search"), "search", "Machine.search", defArgs S_Machine_search, defBody S_Machine_search, defScope S_Machine_search, [], []⟩
def hd_Machine_thrown : He.DefD := ⟨("Machine", some "thrown"), "thrown", "Machine.thrown", defArgs S_Machine_thrown, defBody S_Machine_thrown, defScope S_Machine_thrown, [], []⟩
def hd_is_whole : He.DefD := ⟨("is_whole", none), "is_whole", "is_whole", defArgs S_is_whole, defBody S_is_whole, defScope S_is_whole, [], []⟩
def hd_Code_look_place : He.DefD := ⟨("Code", some "look_place"), "look_place", "Code.look_place", defArgs S_Code_look_place, defBody S_Code_look_place, defScope S_Code_look_place, [], []⟩
def hd_Code_caught_by : He.DefD := ⟨("Code", some "caught_by"), "caught_by", "Code.caught_by", defArgs S_Code_caught_by, defBody S_Code_caught_by, defScope S_Code_caught_by, [], []⟩
def hd_is_chain : He.DefD := ⟨("is_chain", none), "is_chain", "is_chain", defArgs S_is_chain, defBody S_is_chain, defScope S_is_chain, [], []⟩
def hd_is_order : He.DefD := ⟨("is_order", none), "is_order", "is_order", defArgs S_is_order, defBody S_is_order, defScope S_is_order, [], []⟩
def hd_is_table : He.DefD := ⟨("is_table", none), "is_table", "is_table", defArgs S_is_table, defBody S_is_table, defScope S_is_table, [], []⟩
def hd_is_worth : He.DefD := ⟨("is_worth", none), "is_worth", "is_worth", defArgs S_is_worth, defBody S_is_worth, defScope S_is_worth, [(.int 0)], []⟩
def hd_is_call : He.DefD := ⟨("is_call", none), "is_call", "is_call", defArgs S_is_call, defBody S_is_call, defScope S_is_call, [], []⟩
def hd_is_body : He.DefD := ⟨("is_body", none), "is_body", "is_body", defArgs S_is_body, defBody S_is_body, defScope S_is_body, [], []⟩
def hd_is_row : He.DefD := ⟨("is_row", none), "is_row", "is_row", defArgs S_is_row, defBody S_is_row, defScope S_is_row, [], []⟩
def hd_is_try : He.DefD := ⟨("is_try", none), "is_try", "is_try", defArgs S_is_try, defBody S_is_try, defScope S_is_try, [], []⟩
def hd_is_program : He.DefD := ⟨("is_program", none), "is_program", "is_program", defArgs S_is_program, defBody S_is_program, defScope S_is_program, [], []⟩
def hd_look_code : He.DefD := ⟨("look_code", none), "look_code", "look_code", defArgs S_look_code, defBody S_look_code, defScope S_look_code, [], []⟩
def hd_listing : He.DefD := ⟨("listing", none), "listing", "listing", defArgs S_listing, defBody S_listing, defScope S_listing, [], []⟩
def hd_look_number : He.DefD := ⟨("look_number", none), "look_number", "look_number", defArgs S_look_number, defBody S_look_number, defScope S_look_number, [], []⟩
def hd_look_program : He.DefD := ⟨("look_program", none), "look_program", "look_program", defArgs S_look_program, defBody S_look_program, defScope S_look_program, [], []⟩
def hd_Maker___init__ : He.DefD := ⟨("Maker", some "__init__"), "__init__", "Maker.__init__", defArgs S_Maker___init__, defBody S_Maker___init__, defScope S_Maker___init__, [], []⟩
def hd_look_table : He.DefD := ⟨("look_table", none), "look_table", "look_table", defArgs S_look_table, defBody S_look_table, defScope S_look_table, [], []⟩
def hd_found_at : He.DefD := ⟨("found_at", none), "found_at", "found_at", defArgs S_found_at, defBody S_found_at, defScope S_found_at, [], []⟩
def hd_made : He.DefD := ⟨("made", none), "made", "made", defArgs S_made, defBody S_made, defScope S_made, [], []⟩
def hd_orders : He.DefD := ⟨("orders", none), "orders", "orders", defArgs S_orders, defBody S_orders, defScope S_orders, [], []⟩
def hd_packed : He.DefD := ⟨("packed", none), "packed", "packed", defArgs S_packed, defBody S_packed, defScope S_packed, [], []⟩
def hd_ranges : He.DefD := ⟨("ranges", none), "ranges", "ranges", defArgs S_ranges, defBody S_ranges, defScope S_ranges, [], []⟩
def hd_Machine___init__ : He.DefD := ⟨("Machine", some "__init__"), "__init__", "Machine.__init__", defArgs S_Machine___init__, defBody S_Machine___init__, defScope S_Machine___init__, [], [("table", (.non)), ("goal", (.int 0)), ("worths", (.adr (kwA ("Machine", some "__init__") "worths")))]⟩
def hd_reckoned : He.DefD := ⟨("reckoned", none), "reckoned", "reckoned", defArgs S_reckoned, defBody S_reckoned, defScope S_reckoned, [], []⟩
def hd_Machine_plain : He.DefD := ⟨("Machine", some "plain"), "plain", "Machine.plain", defArgs S_Machine_plain, defBody S_Machine_plain, defScope S_Machine_plain, [], []⟩
def hd_Machine_throws : He.DefD := ⟨("Machine", some "throws"), "throws", "Machine.throws", defArgs S_Machine_throws, defBody S_Machine_throws, defScope S_Machine_throws, [], []⟩
def hd_Machine_step : He.DefD := ⟨("Machine", some "step"), "step", "Machine.step", defArgs S_Machine_step, defBody S_Machine_step, defScope S_Machine_step, [], []⟩
def hd_Machine_run : He.DefD := ⟨("Machine", some "run"), "run", "Machine.run", defArgs S_Machine_run, defBody S_Machine_run, defScope S_Machine_run, [], [("most", (.int 100000))]⟩
def hd__law_over : He.DefD := ⟨("_law_over", none), "_law_over", "_law_over", defArgs S__law_over, defBody S__law_over, defScope S__law_over, [], []⟩
def hd_done : He.DefD := ⟨("done", none), "done", "done", defArgs S_done, defBody S_done, defScope S_done, [], [("table", (.non)), ("most", (.int 100000)), ("goal", (.int 0)), ("worths", (.adr (kwA ("done", none) "worths")))]⟩
def hd_settle : He.DefD := ⟨("settle", none), "settle", "settle", defArgs S_settle, defBody S_settle, defScope S_settle, [], []⟩
def hd_table_text : He.DefD := ⟨("table_text", none), "table_text", "table_text", defArgs S_table_text, defBody S_table_text, defScope S_table_text, [], []⟩
def hd__law_does : He.DefD := ⟨("_law_does", none), "_law_does", "_law_does", defArgs S__law_does, defBody S__law_does, defScope S__law_does, [], []⟩
def hd__law_asked : He.DefD := ⟨("_law_asked", none), "_law_asked", "_law_asked", defArgs S__law_asked, defBody S__law_asked, defScope S__law_asked, [], []⟩
def hd_with_jumps : He.DefD := ⟨("with_jumps", none), "with_jumps", "with_jumps", defArgs S_with_jumps, defBody S_with_jumps, defScope S_with_jumps, [], []⟩
def hd_laid : He.DefD := ⟨("laid", none), "laid", "laid", defArgs S_laid, defBody S_laid, defScope S_laid, [], [("order", (.non))]⟩
def hd_steps_of : He.DefD := ⟨("steps_of", none), "steps_of", "steps_of", defArgs S_steps_of, defBody S_steps_of, defScope S_steps_of, [], [("order", (.non))]⟩
def hd_law : He.DefD := ⟨("law", none), "law", "law", defArgs S_law, defBody S_law, defScope S_law, [], []⟩
def hfn : List He.DefD := [hd_Block___init__, hd_Code___init__, hd_Code_size, hd_Frame___init__, hd_Machine_depth, hd_Machine_instruction, hd_Machine_outcome, hd_Machine_returned, hd_Machine_steps, hd_Machine_where, hd_Maker_begin, hd_Maker_caught, hd_Maker_new_box, hd_Maker_new_label, hd_NoPlace___init__, hd__law_refusal, hd__law_town, hd_can_throw, hd_chains_of, hd_change_of, hd_Maker_put, hd_Maker_worth, hd_Maker_attempt, hd_Maker_body, hd_Maker_choice, hd_Maker_leave_all, hd_Maker_leave_loop, hd_Maker_leave_to, hd_Maker_loop, hd_Maker_put_end, hd_Maker_row, hd_Maker_function, hd_falls, hd_found_in, hd_Machine_search, hd_Machine_thrown, hd_is_whole, hd_Code_look_place, hd_Code_caught_by, hd_is_chain, hd_is_order, hd_is_table, hd_is_worth, hd_is_call, hd_is_body, hd_is_row, hd_is_try, hd_is_program, hd_look_code, hd_listing, hd_look_number, hd_look_program, hd_Maker___init__, hd_look_table, hd_found_at, hd_made, hd_orders, hd_packed, hd_ranges, hd_Machine___init__, hd_reckoned, hd_Machine_plain, hd_Machine_throws, hd_Machine_step, hd_Machine_run, hd__law_over, hd_done, hd_settle, hd_table_text, hd__law_does, hd__law_asked, hd_with_jumps, hd_laid, hd_steps_of, hd_law]
def hfa0 : List He.Fa := [.glo "_law_refusal", .glo "_law_town", .glo "can_throw", .glo "chains_of", .glo "change_of", .glo "falls", .glo "found_in", .glo "is_whole", .glo "is_chain", .glo "is_order", .glo "is_table", .glo "is_worth", .glo "is_call", .glo "is_body", .glo "is_row", .glo "is_try", .glo "is_program", .glo "look_code", .glo "listing", .glo "look_number", .glo "look_program", .glo "look_table", .glo "found_at", .glo "made", .glo "orders"]
def hfa1 : List He.Fa := [.glo "packed", .glo "ranges", .glo "reckoned", .glo "_law_over", .glo "done", .glo "settle", .glo "table_text", .glo "_law_does", .glo "_law_asked", .glo "with_jumps", .glo "laid", .glo "steps_of", .glo "law", .free "ValueError", .free "all", .free "bool", .free "enumerate", .free "int", .free "isinstance", .free "len", .free "list", .free "max", .free "range", .free "sorted", .free "str"]
def hfa2 : List He.Fa := [.free "tuple", .free "zip", .glo "Block", .mkr "Block", .glo "Code", .mkr "Code", .cls "Code", .meth "Code" "size", .glo "Frame", .mkr "Frame", .cls "Machine", .meth "Machine" "depth", .meth "Machine" "instruction", .meth "Machine" "outcome", .meth "Machine" "returned", .meth "Machine" "steps", .meth "Machine" "where", .cls "Maker", .meth "Maker" "begin", .meth "Maker" "caught", .meth "Maker" "new_box", .meth "Maker" "new_label", .glo "NoPlace", .meth "Maker" "put", .meth "Maker" "worth"]
def hfa3 : List He.Fa := [.meth "Maker" "attempt", .meth "Maker" "body", .meth "Maker" "choice", .meth "Maker" "leave_all", .meth "Maker" "leave_loop", .meth "Maker" "leave_to", .meth "Maker" "loop", .meth "Maker" "put_end", .meth "Maker" "row", .meth "Maker" "function", .meth "Machine" "search", .meth "Machine" "thrown", .meth "Code" "look_place", .meth "Code" "caught_by", .glo "Maker", .mkr "Maker", .glo "Machine", .mkr "Machine", .meth "Machine" "plain", .meth "Machine" "throws", .meth "Machine" "step", .meth "Machine" "run", .glo "BadNumber", .glo "BadOrder", .glo "BadTable"]
def hfa4 : List He.Fa := [.glo "BadText", .glo "BadTree", .glo "LaneError", .glo "Over", .glo "Stuck", .cls "Block", .cls "Frame", .exc "BadNumber", .exc "BadOrder", .exc "BadTable", .exc "BadTree", .exc "Over", .exc "Stuck", .noat "Machine" "frames", .noat "Machine" "end", .noat "Machine" "many", .noat "Frame" "stack", .noat "Machine" "code", .noat "Code" "boxes", .noat "Frame" "boxes", .noat "Frame" "place", .noat "Machine" "tells", .noat "Frame" "kind", .noat "Machine" "table", .noat "Block" "rows"]
def hfa5 : List He.Fa := [.noat "Code" "rows", .noat "Code" "warm", .noat "Code" "starts", .noat "Block" "label", .noat "Code" "catchers", .noat "Code" "paths", .noat "Code" "heights", .noat "Code" "owners", .noat "Block" "goal", .noat "Maker" "goal", .noat "Code" "many", .noat "Code" "entries", .noat "Block" "warmth", .noat "Maker" "spare", .noat "Maker" "blocks", .noat "Maker" "chain", .noat "Maker" "leaves", .noat "Maker" "path", .noat "Maker" "program", .noat "Maker" "now", .noat "Maker" "tall", .noat "Maker" "labels", .int "MOST_VALUE" 999, .int "BOXES" 8, .int "KINDS" 5]
def hfa6 : List He.Fa := [.int "FAULT" 0, .int "MOST_FUNCTIONS" 5, .int "MOST_ROWS" 8, .int "MOST_DEEP" 6, .glo "SIGNS", .glo "LONGS", .str "HOT" "hot", .str "COLD" "cold", .glo "ENDS", .glo "GOALS", .int "MOST_PLACE" 100000, .int "MOST_STEPS" 100000]
def hfa : List He.Fa := hfa0 ++ hfa1 ++ hfa2 ++ hfa3 ++ hfa4 ++ hfa5 ++ hfa6
def hex (K : PySem.W.Frag) : Bool := dB K (.ref (He.ga K "SIGNS")) (.tup [(.str "+"), (.str "-"), (.str "*"), (.str "/")]) && (dB K (.ref (He.ga K "LONGS")) (.tup [(.tup [(.str "set"), (.int 3)]), (.tup [(.str "out"), (.int 2)]), (.tup [(.str "throw"), (.int 3)]), (.tup [(.str "call"), (.int 4)]), (.tup [(.str "if"), (.int 4)]), (.tup [(.str "loop"), (.int 3)]), (.tup [(.str "break"), (.int 1)]), (.tup [(.str "return"), (.int 2)]), (.tup [(.str "try"), (.int 4)])]) && (dB K (.ref (He.ga K "ENDS")) (.tup [(.str "jump"), (.str "return"), (.str "throw"), (.str "rethrow")]) && (dB K (.ref (He.ga K "GOALS")) (.tup [(.str "jump"), (.str "unless")]) && (dB K (.ref (kwA ("Machine", some "__init__") "worths" K)) (.tup []) && (dB K (.ref (kwA ("done", none) "worths" K)) (.tup []) && (mAll "LaneError" ["LaneError", "BadNumber", "BadTree", "BadOrder", "BadTable", "Stuck", "Over", "BadText"] K && (kAll (fun K => .ref (He.ga K "BadNumber")) [("LaneError", false), ("BadNumber", true), ("BadTree", false), ("BadOrder", false), ("BadTable", false), ("Stuck", false), ("Over", false), ("BadText", false)] K && (kAll (fun K => .ref (He.ga K "BadOrder")) [("LaneError", false), ("BadNumber", false), ("BadTree", false), ("BadOrder", true), ("BadTable", false), ("Stuck", false), ("Over", false), ("BadText", false)] K && (kAll (fun K => .ref (He.ga K "BadTable")) [("LaneError", false), ("BadNumber", false), ("BadTree", false), ("BadOrder", false), ("BadTable", true), ("Stuck", false), ("Over", false), ("BadText", false)] K && (kAll (fun K => .ref (He.ga K "BadText")) [("LaneError", false), ("BadNumber", false), ("BadTree", false), ("BadOrder", false), ("BadTable", false), ("Stuck", false), ("Over", false), ("BadText", true)] K && (kAll (fun K => .ref (He.ga K "BadTree")) [("LaneError", false), ("BadNumber", false), ("BadTree", true), ("BadOrder", false), ("BadTable", false), ("Stuck", false), ("Over", false), ("BadText", false)] K && (kAll (fun K => .ref (He.ga K "LaneError")) [("LaneError", true), ("BadNumber", true), ("BadTree", true), ("BadOrder", true), ("BadTable", true), ("Stuck", true), ("Over", true), ("BadText", true)] K && (kAll (fun K => .ref (He.ga K "NoPlace")) [("LaneError", false), ("BadNumber", false), ("BadTree", false), ("BadOrder", false), ("BadTable", false), ("Stuck", false), ("Over", false), ("BadText", false)] K && (kAll (fun K => .ref (He.ga K "Over")) [("LaneError", false), ("BadNumber", false), ("BadTree", false), ("BadOrder", false), ("BadTable", false), ("Stuck", false), ("Over", true), ("BadText", false)] K && (kAll (fun K => .ref (He.ga K "Stuck")) [("LaneError", false), ("BadNumber", false), ("BadTree", false), ("BadOrder", false), ("BadTable", false), ("Stuck", true), ("Over", false), ("BadText", false)] K && (kAll (fun _ => .type "ValueError") [("LaneError", true), ("BadNumber", true), ("BadTree", true), ("BadOrder", true), ("BadTable", true), ("Stuck", true), ("Over", true), ("BadText", true)] K && (npB "NoPlace" "place" K && (decide (PySem.W.exmOne K (.ref (He.ga K "NoPlace")) (.ref (He.ga K "NoPlace")) = some true) && (mNone "NoPlace" ["LaneError", "BadNumber", "BadTree", "BadOrder", "BadTable", "Stuck", "Over", "BadText"] K && (icAll "Code" [("Block", false), ("Maker", false), ("Code", true), ("Frame", false), ("Machine", false)] K && (true)))))))))))))))))))))
abbrev RR : PySem.W.OpenRow := PySem.W.OpenLaw.row PySem.Challenge.rw_coldlanes_k14_others_refused
noncomputable abbrev hk : PySem.W.Hook := hookS 5 hfa hfn hex
noncomputable def hob (s : PySem.W.SharedT) : He.AlX := obF 5 hfa hfn hex s
theorem hob_eq (s : PySem.W.SharedT) : hob s = hk.obs s.abs := obF_eq 5 hfa hfn hex s
def loose0 : List PySem.Str := ["_wall", "LaneError", "BadNumber", "BadTree", "BadOrder", "BadTable", "NoPlace", "Stuck", "Over", "BadText", "is_whole", "look_number", "MOST_VALUE", "BOXES", "KINDS", "FAULT", "MOST_FUNCTIONS", "MOST_ROWS", "MOST_DEEP", "SIGNS", "LONGS", "is_worth", "is_body", "is_row", "is_call", "is_try", "is_program", "look_program", "reckoned", "HOT"]
def loose1 : List PySem.Str := ["COLD", "Block", "Maker", "made", "change_of", "can_throw", "ENDS", "GOALS", "Code", "orders", "falls", "with_jumps", "laid", "is_order", "settle", "MOST_PLACE", "look_code", "ranges", "is_table", "is_chain", "look_table", "found_at", "found_in", "small", "chains_of", "packed", "MOST_STEPS", "Frame", "Machine", "done"]
def loose2 : List PySem.Str := ["steps_of", "listing", "catcher_text", "table_text", "_law_town", "_law_refusal", "_law_does", "_law_over", "_law_asked"]
def loose : List PySem.Str := loose0 ++ loose1 ++ loose2
theorem hr1 (w : World) (os : OsState) : (HandSHeadRun.endF (HandSHeadRun.stepQ (HandSHeadRun.denQ HandSHeadRun.tabQ) RR.prog w) 12000 RR.prog w os).map (fun s => HandSHeadRun.looksF RR.prog (PySem.W.boot_heap w.params) s.abs) = some true := by
  kernel_rfl
theorem hr2 (w : World) (os : OsState) : (HandSHeadRun.endF (HandSHeadRun.stepQ (HandSHeadRun.denQ HandSHeadRun.tabQ) RR.prog w) 12000 RR.prog w os).map (fun s => HandSHeadRun.seenQ (PySem.W.view RR.prog [78]) loose (importedModules RR.prog.main.body) (fun s => PySem.W.xlAt (PySem.W.view RR.prog [78]) [] s && PySem.W.recOk RR.toRowW.records s) s.abs) = some (PySem.W.openGood (PySem.W.view RR.prog [78]) loose) := by
  kernel_rfl
theorem hr3 (w : World) (os : OsState) : (HandSHeadRun.endF (HandSHeadRun.stepQ (HandSHeadRun.denQ HandSHeadRun.tabQ) RR.prog w) 12000 RR.prog w os).map (fun s => hob s) = some (hk.val w) := by
  kernel_rfl
theorem hrun (w : World) : HandSHeadRun.RunEq RR (PySem.W.view RR.prog [78]) hk hob 12000 loose w := run_of (hr1 w) (hr2 w) (hr3 w)
end CL
namespace CL
open PySem PySem.Spec L2
def g_Maker_put_word_ {α : Type} (us ms ws : List α) : List α := us ++ (match ms, ws with | [m0, m1], [w0] => [w0, m0, m1] | _, _ => [])
def gD_Maker_put_word (ds es : List Da) : List Da := g_Maker_put_word_ ds [(.non), (.non)] es
def g_Maker_put_word_what_ {α : Type} (us ms ws : List α) : List α := us ++ (match ms, ws with | [m0], [w0, w1] => [w0, w1, m0] | _, _ => [])
def gD_Maker_put_word_what (ds es : List Da) : List Da := g_Maker_put_word_what_ ds [(.non)] es
def g_Maker_put_word_what_more_ {α : Type} (us ms ws : List α) : List α := us ++ (match ms, ws with | [], [w0, w1, w2] => [w0, w1, w2] | _, _ => [])
def gD_Maker_put_word_what_more (ds es : List Da) : List Da := g_Maker_put_word_what_more_ ds [] es
def m_Block___init__ : Sl → Mo Fl := (mSeq (mFld ["Block"] "label" (eVar 1) (eVar 0)) (mSeq (mFld ["Block"] "warmth" (eVar 2) (eVar 0)) (mSeq (mFld ["Block"] "goal" (eVar 3) (eVar 0)) (mFld ["Block"] "rows" (eH (lDisp aNil)) (eVar 0)))))
def f_Block___init__ : List Da → Mo Da := fnM 4 m_Block___init__
def m_Code___init__ : Sl → Mo Fl := (mSeq (mFld ["Code"] "rows" (eH (lDisp aNil)) (eVar 0)) (mSeq (mFld ["Code"] "catchers" (eH (lDisp aNil)) (eVar 0)) (mSeq (mFld ["Code"] "paths" (eH (lDisp aNil)) (eVar 0)) (mSeq (mFld ["Code"] "heights" (eH (lDisp aNil)) (eVar 0)) (mSeq (mFld ["Code"] "owners" (eH (lDisp aNil)) (eVar 0)) (mSeq (mFld ["Code"] "many" (eL (lDisp aNil)) (eVar 0)) (mSeq (mFld ["Code"] "entries" (eL (lDisp aNil)) (eVar 0)) (mSeq (mFld ["Code"] "starts" eDict (eVar 0)) (mSeq (mFld ["Code"] "boxes" (eVar 1) (eVar 0)) (mFld ["Code"] "warm" (eC (.int 0)) (eVar 0)))))))))))
def f_Code___init__ : List Da → Mo Da := fnM 2 m_Code___init__
def m_Maker_begin (g_Block___init__ : List Da → Mo Da) : Sl → Mo Fl := (mSeq (mFld ["Maker"] "now" (eMake "Block" (fun ds => ar 4 g_Block___init__ ds) (fun ro => bnd ((aCons (eVar 1) (aCons (eVar 2) (aCons (eFld ["Maker"] "goal" (eVar 0)) aNil))) ro) fun ds => ret (ds ++ []))) (eVar 0)) (mSeq (mFld ["Maker"] "tall" (eC (.int 0)) (eVar 0)) (mExpr (eApp (eFld ["Maker"] "blocks" (eVar 0)) (eFld ["Maker"] "now" (eVar 0))))))
def f_Maker_begin : List Da → Mo Da := fnM 3 (m_Maker_begin f_Block___init__)
def m_Maker_caught (g_Maker_begin : List Da → Mo Da) : Sl → Mo Fl := (mSeq (mExpr (eMeth "Maker" "begin" (fun ds => ar 3 g_Maker_begin (ds ++ [])) (eVar 0) (aCons (eVar 1) (aCons (eC (.str "cold")) aNil)))) (mFld ["Maker"] "tall" (eC (.int 1)) (eVar 0)))
def f_Maker_caught : List Da → Mo Da := fnM 2 (m_Maker_caught f_Maker_begin)
def m_Maker_new_box : Sl → Mo Fl := (mSeq (mFldAug "Maker" "spare" (fun i j => i + j) (eVar 0) (eC (.int 1))) (mRet (e2 subD (eFld ["Maker"] "spare" (eVar 0)) (eC (.int 1)))))
def f_Maker_new_box : List Da → Mo Da := fnM 1 m_Maker_new_box
def m_Maker_new_label : Sl → Mo Fl := (mSeq (mFldAug "Maker" "labels" (fun i j => i + j) (eVar 0) (eC (.int 1))) (mRet (e2 subD (eFld ["Maker"] "labels" (eVar 0)) (eC (.int 1)))))
def f_Maker_new_label : List Da → Mo Da := fnM 1 m_Maker_new_label
def m_change_of : Sl → Mo Fl := (mSeq (mIf (tst (e2 (inU false) (eVar 0) (eTup (aCons (eC (.str "push")) (aCons (eC (.str "load")) aNil))))) (mRet (eC (.int 1))) mNil) (mSeq (mIf (tst (e2 eqD (eVar 0) (eC (.str "call")))) (mRet (e2 subD (eC (.int 1)) (eVar 1))) mNil) (mRet (eIf (tst (e2 (inU false) (eVar 0) (eTup (aCons (eC (.str "store")) (aCons (eC (.str "sign")) (aCons (eC (.str "out")) (aCons (eC (.str "unless")) (aCons (eC (.str "keep")) (aCons (eC (.str "throw")) (aCons (eC (.str "return")) aNil)))))))))) (e1 negD (eC (.int 1))) (eC (.int 0))))))
def f_change_of : List Da → Mo Da := fnM 2 m_change_of
def m_Maker_put (g_change_of : List Da → Mo Da) : Sl → Mo Fl := (mSeq (mExpr (eApp (eFld ["Block", "Code"] "rows" (eFld ["Maker"] "now" (eVar 0))) (eTup (aCons (eTup (aCons (eVar 1) (aCons (eVar 2) (aCons (eVar 3) aNil)))) (aCons (eFld ["Maker"] "chain" (eVar 0)) (aCons (eFld ["Maker"] "path" (eVar 0)) (aCons (eFld ["Maker"] "tall" (eVar 0)) aNil))))))) (mFldAug "Maker" "tall" (fun i j => i + j) (eVar 0) (eCall (fun ds => ar 2 g_change_of (ds ++ [])) (aCons (eVar 1) (aCons (eVar 3) aNil)))))
def f_Maker_put : List Da → Mo Da := fnM 4 (m_Maker_put f_change_of)
def m_Maker_worth (g_Maker_put g_Maker_worth : List Da → Mo Da) : Sl → Mo Fl := (mIf (tst (e1 (isT .int) (eVar 1))) (mExpr (eMethK "Maker" "put" (fun ds => ar 4 g_Maker_put ds) 0 2 gD_Maker_put_word_what (eVar 0) aNil (aCons (eC (.str "push")) (aCons (eVar 1) aNil)))) (mIf (tst (e2 eqD (e2 ixD (eVar 1) (eC (.int 0))) (eC (.str "box")))) (mExpr (eMethK "Maker" "put" (fun ds => ar 4 g_Maker_put ds) 0 2 gD_Maker_put_word_what (eVar 0) aNil (aCons (eC (.str "load")) (aCons (e2 ixD (eVar 1) (eC (.int 1))) aNil)))) (mSeq (mExpr (eMeth "Maker" "worth" (fun ds => ar 2 g_Maker_worth (ds ++ [])) (eVar 0) (aCons (e2 ixD (eVar 1) (eC (.int 1))) aNil))) (mSeq (mExpr (eMeth "Maker" "worth" (fun ds => ar 2 g_Maker_worth (ds ++ [])) (eVar 0) (aCons (e2 ixD (eVar 1) (eC (.int 2))) aNil))) (mExpr (eMethK "Maker" "put" (fun ds => ar 4 g_Maker_put ds) 0 2 gD_Maker_put_word_what (eVar 0) aNil (aCons (eC (.str "sign")) (aCons (e2 ixD (eVar 1) (eC (.int 0))) aNil))))))))
def F_Maker_worth : Nat → Nat → List Da → Mo Da
  | 0, _ => fun _ => nop
  | n + 1, _ => fnM 2 (m_Maker_worth f_Maker_put (F_Maker_worth n 0))
def f_Maker_worth (n : Nat) : List Da → Mo Da := F_Maker_worth n 0
def m_Maker_attempt (g_Maker_new_label g_Maker_body g_Maker_put_end g_Maker_put g_Maker_caught g_Maker_new_box g_Maker_begin : List Da → Mo Da) : Sl → Mo Fl := (mSeq (mTgt (gT 4 (gsC (gN 2) (gsC (gN 3) (gsC (gN 4) (gsC (gN 5) gsN))))) (eVar 1)) (mSeq (mPar 6 7 (aCons (eFld ["Maker"] "chain" (eVar 0)) (aCons (eFld ["Block"] "warmth" (eFld ["Maker"] "now" (eVar 0))) aNil))) (mSeq (mSet 8 (eMeth "Maker" "new_label" (fun ds => ar 1 g_Maker_new_label (ds ++ [])) (eVar 0) aNil)) (mSeq (mSet 9 (eIf (tst (e2 (isB false) (eVar 5) (eC (.non)))) (eC (.non)) (eMeth "Maker" "new_label" (fun ds => ar 1 g_Maker_new_label (ds ++ [])) (eVar 0) aNil))) (mSeq (mSet 10 (eL (lComp (iV (eVar 4)) (gN 15) tYes_ (eMeth "Maker" "new_label" (fun ds => ar 1 g_Maker_new_label (ds ++ [])) (eVar 0) aNil) [15]))) (mSeq (mSet 11 (eIf (tst (e2 (isB false) (eVar 9) (eC (.non)))) (eVar 6) (e2 addD (eTup (aCons (eTup (aCons (eC (.non)) (aCons (eVar 9) (aCons (eC (.bl true)) aNil)))) aNil)) (eVar 6)))) (mSeq (mSet 12 (eFld ["Maker"] "path" (eVar 0))) (mSeq (mSet 13 (e2 addD (eVar 12) (eTup (aCons (e2 addD (eC (.int 1)) (eCall (one lenD) (aCons (eVar 4) aNil))) aNil)))) (mSeq (mIf (tst (e2 (isB true) (eVar 5) (eC (.non)))) (mExpr (eApp (eFld ["Maker"] "leaves" (eVar 0)) (eTup (aCons (eC (.str "end")) (aCons (eVar 5) (aCons (eVar 6) (aCons (eVar 13) aNil))))))) mNil) (mSeq (mFld ["Maker"] "chain" (e2 addD (eCall (one tupleD) (aCons (eL (lComp (iZ (aCons (eVar 4) (aCons (eVar 10) aNil))) (gT 2 (gsC (gN 15) (gsC (gN 16) gsN))) tYes_ (eTup (aCons (e2 ixD (eVar 15) (eC (.int 0))) (aCons (eVar 16) (aCons (eC (.bl false)) aNil)))) [15, 16])) aNil)) (eVar 11)) (eVar 0)) (mSeq (mExpr (eMeth "Maker" "body" (fun ds => ar 3 g_Maker_body (ds ++ [])) (eVar 0) (aCons (eVar 3) (aCons (e2 addD (eVar 12) (eTup (aCons (eC (.int 0)) aNil))) aNil)))) (mSeq (mFld ["Maker"] "chain" (eVar 11) (eVar 0)) (mSeq (mExpr (eMeth "Maker" "put_end" (fun ds => ar 4 g_Maker_put_end (ds ++ [])) (eVar 0) (aCons (eVar 5) (aCons (eVar 6) (aCons (eVar 13) aNil))))) (mSeq (mExpr (eMethK "Maker" "put" (fun ds => ar 4 g_Maker_put ds) 0 2 gD_Maker_put_word_what (eVar 0) aNil (aCons (eC (.str "jump")) (aCons (eVar 8) aNil)))) (mSeq (mFor (iEZ (aCons (eVar 4) (aCons (eVar 10) aNil))) (gT 2 (gsC (gN 14) (gsC (gT 2 (gsC (gN 15) (gsC (gN 16) gsN))) gsN))) (mSeq (mExpr (eMeth "Maker" "caught" (fun ds => ar 2 g_Maker_caught (ds ++ [])) (eVar 0) (aCons (eVar 16) aNil))) (mSeq (mFld ["Maker"] "chain" (eVar 11) (eVar 0)) (mSeq (mExpr (eMethK "Maker" "put" (fun ds => ar 4 g_Maker_put ds) 0 2 gD_Maker_put_word_what (eVar 0) aNil (aCons (eC (.str "store")) (aCons (e2 ixD (eVar 15) (eC (.int 1))) aNil)))) (mSeq (mExpr (eMeth "Maker" "body" (fun ds => ar 3 g_Maker_body (ds ++ [])) (eVar 0) (aCons (e2 ixD (eVar 15) (eC (.int 2))) (aCons (e2 addD (eVar 12) (eTup (aCons (e2 addD (eC (.int 1)) (eVar 14)) aNil))) aNil)))) (mSeq (mExpr (eMeth "Maker" "put_end" (fun ds => ar 4 g_Maker_put_end (ds ++ [])) (eVar 0) (aCons (eVar 5) (aCons (eVar 6) (aCons (eVar 13) aNil))))) (mExpr (eMethK "Maker" "put" (fun ds => ar 4 g_Maker_put ds) 0 2 gD_Maker_put_word_what (eVar 0) aNil (aCons (eC (.str "jump")) (aCons (eVar 8) aNil)))))))))) (mSeq (mIf (tst (e2 (isB true) (eVar 5) (eC (.non)))) (mSeq (mExpr (ePop (eFld ["Maker"] "leaves" (eVar 0)))) (mSeq (mExpr (eMeth "Maker" "caught" (fun ds => ar 2 g_Maker_caught (ds ++ [])) (eVar 0) (aCons (eVar 9) aNil))) (mSeq (mFld ["Maker"] "chain" (eVar 6) (eVar 0)) (mSeq (mPar 17 18 (aCons (eMeth "Maker" "new_box" (fun ds => ar 1 g_Maker_new_box (ds ++ [])) (eVar 0) aNil) (aCons (eMeth "Maker" "new_box" (fun ds => ar 1 g_Maker_new_box (ds ++ [])) (eVar 0) aNil) aNil))) (mSeq (mExpr (eMethK "Maker" "put" (fun ds => ar 4 g_Maker_put ds) 0 3 gD_Maker_put_word_what_more (eVar 0) aNil (aCons (eC (.str "keep")) (aCons (eVar 17) (aCons (eVar 18) aNil))))) (mSeq (mExpr (eMeth "Maker" "body" (fun ds => ar 3 g_Maker_body (ds ++ [])) (eVar 0) (aCons (eVar 5) (aCons (eVar 13) aNil)))) (mExpr (eMethK "Maker" "put" (fun ds => ar 4 g_Maker_put ds) 0 3 gD_Maker_put_word_what_more (eVar 0) aNil (aCons (eC (.str "rethrow")) (aCons (eVar 17) (aCons (eVar 18) aNil))))))))))) mNil) (mSeq (mFld ["Maker"] "chain" (eVar 6) (eVar 0)) (mExpr (eMeth "Maker" "begin" (fun ds => ar 3 g_Maker_begin (ds ++ [])) (eVar 0) (aCons (eVar 8) (aCons (eVar 7) aNil)))))))))))))))))))))
def m_Maker_body (g_Maker_row : List Da → Mo Da) : Sl → Mo Fl := (mSeq (mSet 3 (eFld ["Maker"] "path" (eVar 0))) (mSeq (mFor (iE (aCons (eVar 1) aNil)) (gT 2 (gsC (gN 4) (gsC (gN 5) gsN))) (mSeq (mFld ["Maker"] "path" (e2 addD (eVar 2) (eTup (aCons (eVar 4) aNil))) (eVar 0)) (mExpr (eMeth "Maker" "row" (fun ds => ar 2 g_Maker_row (ds ++ [])) (eVar 0) (aCons (eVar 5) aNil))))) (mFld ["Maker"] "path" (eVar 3) (eVar 0))))
def m_Maker_choice (g_Maker_new_label g_Maker_worth g_Maker_put g_Maker_body g_Maker_begin : List Da → Mo Da) : Sl → Mo Fl := (mSeq (mPar 2 3 (aCons (eMeth "Maker" "new_label" (fun ds => ar 1 g_Maker_new_label (ds ++ [])) (eVar 0) aNil) (aCons (eMeth "Maker" "new_label" (fun ds => ar 1 g_Maker_new_label (ds ++ [])) (eVar 0) aNil) aNil))) (mSeq (mExpr (eMeth "Maker" "worth" (fun ds => ar 2 g_Maker_worth (ds ++ [])) (eVar 0) (aCons (e2 ixD (eVar 1) (eC (.int 1))) aNil))) (mSeq (mExpr (eMethK "Maker" "put" (fun ds => ar 4 g_Maker_put ds) 0 2 gD_Maker_put_word_what (eVar 0) aNil (aCons (eC (.str "unless")) (aCons (eVar 2) aNil)))) (mSeq (mExpr (eMeth "Maker" "body" (fun ds => ar 3 g_Maker_body (ds ++ [])) (eVar 0) (aCons (e2 ixD (eVar 1) (eC (.int 2))) (aCons (e2 addD (eFld ["Maker"] "path" (eVar 0)) (eTup (aCons (eC (.int 0)) aNil))) aNil)))) (mSeq (mExpr (eMethK "Maker" "put" (fun ds => ar 4 g_Maker_put ds) 0 2 gD_Maker_put_word_what (eVar 0) aNil (aCons (eC (.str "jump")) (aCons (eVar 3) aNil)))) (mSeq (mExpr (eMeth "Maker" "begin" (fun ds => ar 3 g_Maker_begin (ds ++ [])) (eVar 0) (aCons (eVar 2) (aCons (eFld ["Block"] "warmth" (eFld ["Maker"] "now" (eVar 0))) aNil)))) (mSeq (mExpr (eMeth "Maker" "body" (fun ds => ar 3 g_Maker_body (ds ++ [])) (eVar 0) (aCons (e2 ixD (eVar 1) (eC (.int 3))) (aCons (e2 addD (eFld ["Maker"] "path" (eVar 0)) (eTup (aCons (eC (.int 1)) aNil))) aNil)))) (mExpr (eMeth "Maker" "begin" (fun ds => ar 3 g_Maker_begin (ds ++ [])) (eVar 0) (aCons (eVar 3) (aCons (eFld ["Block"] "warmth" (eFld ["Maker"] "now" (eVar 0))) aNil)))))))))))
def m_Maker_leave_all (g_Maker_new_box g_Maker_worth g_Maker_put g_Maker_leave_to g_Maker_begin g_Maker_new_label : List Da → Mo Da) : Sl → Mo Fl := (mSeq (mSet 2 (eMeth "Maker" "new_box" (fun ds => ar 1 g_Maker_new_box (ds ++ [])) (eVar 0) aNil)) (mSeq (mExpr (eMeth "Maker" "worth" (fun ds => ar 2 g_Maker_worth (ds ++ [])) (eVar 0) (aCons (eVar 1) aNil))) (mSeq (mExpr (eMethK "Maker" "put" (fun ds => ar 4 g_Maker_put ds) 0 2 gD_Maker_put_word_what (eVar 0) aNil (aCons (eC (.str "store")) (aCons (eVar 2) aNil)))) (mSeq (mExpr (eMeth "Maker" "leave_to" (fun ds => ar 2 g_Maker_leave_to (ds ++ [])) (eVar 0) (aCons (eC (.int 0)) aNil))) (mSeq (mExpr (eMethK "Maker" "put" (fun ds => ar 4 g_Maker_put ds) 0 2 gD_Maker_put_word_what (eVar 0) aNil (aCons (eC (.str "load")) (aCons (eVar 2) aNil)))) (mSeq (mExpr (eMethK "Maker" "put" (fun ds => ar 4 g_Maker_put ds) 0 1 gD_Maker_put_word (eVar 0) aNil (aCons (eC (.str "return")) aNil))) (mExpr (eMeth "Maker" "begin" (fun ds => ar 3 g_Maker_begin (ds ++ [])) (eVar 0) (aCons (eMeth "Maker" "new_label" (fun ds => ar 1 g_Maker_new_label (ds ++ [])) (eVar 0) aNil) (aCons (eFld ["Block"] "warmth" (eFld ["Maker"] "now" (eVar 0))) aNil))))))))))
def m_Maker_leave_loop (g_Maker_leave_to g_Maker_put g_Maker_begin g_Maker_new_label : List Da → Mo Da) : Sl → Mo Fl := (mSeq (mSet 1 (eCall (one max1) (aCons (eL (lComp (iR1 (aCons (eCall (one lenD) (aCons (eFld ["Maker"] "leaves" (eVar 0)) aNil)) aNil)) (gN 3) (tst (e2 eqD (e2 ixD (e2 ixD (eFld ["Maker"] "leaves" (eVar 0)) (eVar 3)) (eC (.int 0))) (eC (.str "loop")))) (eVar 3) [3])) aNil))) (mSeq (mSet 2 (e2 ixD (e2 ixD (eFld ["Maker"] "leaves" (eVar 0)) (eVar 1)) (eC (.int 1)))) (mSeq (mExpr (eMeth "Maker" "leave_to" (fun ds => ar 2 g_Maker_leave_to (ds ++ [])) (eVar 0) (aCons (e2 addD (eVar 1) (eC (.int 1))) aNil))) (mSeq (mExpr (eMethK "Maker" "put" (fun ds => ar 4 g_Maker_put ds) 0 2 gD_Maker_put_word_what (eVar 0) aNil (aCons (eC (.str "jump")) (aCons (eVar 2) aNil)))) (mExpr (eMeth "Maker" "begin" (fun ds => ar 3 g_Maker_begin (ds ++ [])) (eVar 0) (aCons (eMeth "Maker" "new_label" (fun ds => ar 1 g_Maker_new_label (ds ++ [])) (eVar 0) aNil) (aCons (eFld ["Block"] "warmth" (eFld ["Maker"] "now" (eVar 0))) aNil))))))))
def m_Maker_leave_to (g_Maker_body : List Da → Mo Da) : Sl → Mo Fl := (mSeq (mPar 2 3 (aCons (eFld ["Maker"] "leaves" (eVar 0)) (aCons (eFld ["Maker"] "chain" (eVar 0)) aNil))) (mSeq (mFor (iR3 (aCons (e2 subD (eCall (one lenD) (aCons (eVar 2) aNil)) (eC (.int 1))) (aCons (e2 subD (eVar 1) (eC (.int 1))) (aCons (e1 negD (eC (.int 1))) aNil)))) (gN 4) (mIf (tst (e2 eqD (e2 ixD (e2 ixD (eVar 2) (eVar 4)) (eC (.int 0))) (eC (.str "end")))) (mSeq (mFld ["Maker"] "leaves" (eH (lSl (eVar 2) noP (soP (eVar 4)))) (eVar 0)) (mSeq (mFld ["Maker"] "chain" (e2 ixD (e2 ixD (eVar 2) (eVar 4)) (eC (.int 2))) (eVar 0)) (mExpr (eMeth "Maker" "body" (fun ds => ar 3 g_Maker_body (ds ++ [])) (eVar 0) (aCons (e2 ixD (e2 ixD (eVar 2) (eVar 4)) (eC (.int 1))) (aCons (e2 ixD (e2 ixD (eVar 2) (eVar 4)) (eC (.int 3))) aNil)))))) mNil)) (mFlds2 ["Maker"] "leaves" (eVar 0) ["Maker"] "chain" (eVar 0) (aCons (eVar 2) (aCons (eVar 3) aNil)))))
def m_Maker_loop (g_Maker_new_label g_Maker_new_box g_Maker_put g_Maker_begin g_Maker_body : List Da → Mo Da) : Sl → Mo Fl := (mSeq (mPar3 2 3 4 (aCons (eMeth "Maker" "new_box" (fun ds => ar 1 g_Maker_new_box (ds ++ [])) (eVar 0) aNil) (aCons (eMeth "Maker" "new_label" (fun ds => ar 1 g_Maker_new_label (ds ++ [])) (eVar 0) aNil) (aCons (eMeth "Maker" "new_label" (fun ds => ar 1 g_Maker_new_label (ds ++ [])) (eVar 0) aNil) aNil)))) (mSeq (mExpr (eMethK "Maker" "put" (fun ds => ar 4 g_Maker_put ds) 0 2 gD_Maker_put_word_what (eVar 0) aNil (aCons (eC (.str "push")) (aCons (e2 ixD (eVar 1) (eC (.int 1))) aNil)))) (mSeq (mExpr (eMethK "Maker" "put" (fun ds => ar 4 g_Maker_put ds) 0 2 gD_Maker_put_word_what (eVar 0) aNil (aCons (eC (.str "store")) (aCons (eVar 2) aNil)))) (mSeq (mSet 5 (eFld ["Block"] "warmth" (eFld ["Maker"] "now" (eVar 0)))) (mSeq (mExpr (eMeth "Maker" "begin" (fun ds => ar 3 g_Maker_begin (ds ++ [])) (eVar 0) (aCons (eVar 3) (aCons (eVar 5) aNil)))) (mSeq (mExpr (eApp (eFld ["Maker"] "leaves" (eVar 0)) (eTup (aCons (eC (.str "loop")) (aCons (eVar 4) (aCons (eFld ["Maker"] "chain" (eVar 0)) (aCons (eTup aNil) aNil))))))) (mSeq (mExpr (eMeth "Maker" "body" (fun ds => ar 3 g_Maker_body (ds ++ [])) (eVar 0) (aCons (e2 ixD (eVar 1) (eC (.int 2))) (aCons (e2 addD (eFld ["Maker"] "path" (eVar 0)) (eTup (aCons (eC (.int 0)) aNil))) aNil)))) (mSeq (mExpr (ePop (eFld ["Maker"] "leaves" (eVar 0)))) (mSeq (mExpr (eMethK "Maker" "put" (fun ds => ar 4 g_Maker_put ds) 0 2 gD_Maker_put_word_what (eVar 0) aNil (aCons (eC (.str "count")) (aCons (eVar 2) aNil)))) (mSeq (mExpr (eMethK "Maker" "put" (fun ds => ar 4 g_Maker_put ds) 0 2 gD_Maker_put_word_what (eVar 0) aNil (aCons (eC (.str "load")) (aCons (eVar 2) aNil)))) (mSeq (mExpr (eMethK "Maker" "put" (fun ds => ar 4 g_Maker_put ds) 0 2 gD_Maker_put_word_what (eVar 0) aNil (aCons (eC (.str "unless")) (aCons (eVar 4) aNil)))) (mSeq (mExpr (eMethK "Maker" "put" (fun ds => ar 4 g_Maker_put ds) 0 2 gD_Maker_put_word_what (eVar 0) aNil (aCons (eC (.str "jump")) (aCons (eVar 3) aNil)))) (mExpr (eMeth "Maker" "begin" (fun ds => ar 3 g_Maker_begin (ds ++ [])) (eVar 0) (aCons (eVar 4) (aCons (eVar 5) aNil))))))))))))))))
def m_Maker_put_end (g_Maker_body : List Da → Mo Da) : Sl → Mo Fl := (mIf (tst (e2 (isB true) (eVar 1) (eC (.non)))) (mSeq (mPar 4 5 (aCons (eFld ["Maker"] "leaves" (eVar 0)) (aCons (eFld ["Maker"] "chain" (eVar 0)) aNil))) (mSeq (mFlds2 ["Maker"] "leaves" (eVar 0) ["Maker"] "chain" (eVar 0) (aCons (eH (lSl (eVar 4) noP (soP (e1 negD (eC (.int 1)))))) (aCons (eVar 2) aNil))) (mSeq (mExpr (eMeth "Maker" "body" (fun ds => ar 3 g_Maker_body (ds ++ [])) (eVar 0) (aCons (eVar 1) (aCons (eVar 3) aNil)))) (mFlds2 ["Maker"] "leaves" (eVar 0) ["Maker"] "chain" (eVar 0) (aCons (eVar 4) (aCons (eVar 5) aNil)))))) mNil)
def m_Maker_row (g_Maker_worth g_Maker_put g_Maker_leave_all g_Maker_leave_loop g_Maker_choice g_Maker_loop g_Maker_attempt : List Da → Mo Da) : Sl → Mo Fl := (mSeq (mSet 2 (e2 ixD (eVar 1) (eC (.int 0)))) (mIf (tst (e2 (inU false) (eVar 2) (eTup (aCons (eC (.str "set")) (aCons (eC (.str "throw")) aNil))))) (mSeq (mExpr (eMeth "Maker" "worth" (fun ds => ar 2 g_Maker_worth (ds ++ [])) (eVar 0) (aCons (e2 ixD (eVar 1) (eC (.int 2))) aNil))) (mExpr (eMethK "Maker" "put" (fun ds => ar 4 g_Maker_put ds) 0 2 gD_Maker_put_word_what (eVar 0) aNil (aCons (eIf (tst (e2 eqD (eVar 2) (eC (.str "set")))) (eC (.str "store")) (eC (.str "throw"))) (aCons (e2 ixD (eVar 1) (eC (.int 1))) aNil))))) (mIf (tst (e2 eqD (eVar 2) (eC (.str "out")))) (mSeq (mExpr (eMeth "Maker" "worth" (fun ds => ar 2 g_Maker_worth (ds ++ [])) (eVar 0) (aCons (e2 ixD (eVar 1) (eC (.int 1))) aNil))) (mExpr (eMethK "Maker" "put" (fun ds => ar 4 g_Maker_put ds) 0 1 gD_Maker_put_word (eVar 0) aNil (aCons (eC (.str "out")) aNil)))) (mIf (tst (e2 eqD (eVar 2) (eC (.str "return")))) (mExpr (eMeth "Maker" "leave_all" (fun ds => ar 2 g_Maker_leave_all (ds ++ [])) (eVar 0) (aCons (e2 ixD (eVar 1) (eC (.int 1))) aNil))) (mIf (tst (e2 eqD (eVar 2) (eC (.str "break")))) (mExpr (eMeth "Maker" "leave_loop" (fun ds => ar 1 g_Maker_leave_loop (ds ++ [])) (eVar 0) aNil)) (mIf (tst (e2 eqD (eVar 2) (eC (.str "call")))) (mSeq (mFor (iV (e2 ixD (eVar 1) (eC (.int 3)))) (gN 3) (mExpr (eMeth "Maker" "worth" (fun ds => ar 2 g_Maker_worth (ds ++ [])) (eVar 0) (aCons (eVar 3) aNil)))) (mSeq (mExpr (eMethK "Maker" "put" (fun ds => ar 4 g_Maker_put ds) 0 3 gD_Maker_put_word_what_more (eVar 0) aNil (aCons (eC (.str "call")) (aCons (e2 ixD (eVar 1) (eC (.int 2))) (aCons (eCall (one lenD) (aCons (e2 ixD (eVar 1) (eC (.int 3))) aNil)) aNil))))) (mExpr (eMethK "Maker" "put" (fun ds => ar 4 g_Maker_put ds) 0 2 gD_Maker_put_word_what (eVar 0) aNil (aCons (eC (.str "store")) (aCons (e2 ixD (eVar 1) (eC (.int 1))) aNil)))))) (mIf (tst (e2 eqD (eVar 2) (eC (.str "if")))) (mExpr (eMeth "Maker" "choice" (fun ds => ar 2 g_Maker_choice (ds ++ [])) (eVar 0) (aCons (eVar 1) aNil))) (mIf (tst (e2 eqD (eVar 2) (eC (.str "loop")))) (mExpr (eMeth "Maker" "loop" (fun ds => ar 2 g_Maker_loop (ds ++ [])) (eVar 0) (aCons (eVar 1) aNil))) (mExpr (eMeth "Maker" "attempt" (fun ds => ar 2 g_Maker_attempt (ds ++ [])) (eVar 0) (aCons (eVar 1) aNil)))))))))))
def F_Maker_attempt : Nat → Nat → List Da → Mo Da
  | 0, _ => fun _ => nop
  | n + 1, 0 => fnM 19 (m_Maker_attempt f_Maker_new_label (F_Maker_attempt n 1) (F_Maker_attempt n 7) f_Maker_put f_Maker_caught f_Maker_new_box f_Maker_begin)
  | n + 1, 1 => fnM 6 (m_Maker_body (F_Maker_attempt n 8))
  | n + 1, 2 => fnM 4 (m_Maker_choice f_Maker_new_label (f_Maker_worth 10) f_Maker_put (F_Maker_attempt n 1) f_Maker_begin)
  | n + 1, 3 => fnM 3 (m_Maker_leave_all f_Maker_new_box (f_Maker_worth 10) f_Maker_put (F_Maker_attempt n 5) f_Maker_begin f_Maker_new_label)
  | n + 1, 4 => fnM 4 (m_Maker_leave_loop (F_Maker_attempt n 5) f_Maker_put f_Maker_begin f_Maker_new_label)
  | n + 1, 5 => fnM 5 (m_Maker_leave_to (F_Maker_attempt n 1))
  | n + 1, 6 => fnM 6 (m_Maker_loop f_Maker_new_label f_Maker_new_box f_Maker_put f_Maker_begin (F_Maker_attempt n 1))
  | n + 1, 7 => fnM 6 (m_Maker_put_end (F_Maker_attempt n 1))
  | n + 1, _ => fnM 4 (m_Maker_row (f_Maker_worth 10) f_Maker_put (F_Maker_attempt n 3) (F_Maker_attempt n 4) (F_Maker_attempt n 2) (F_Maker_attempt n 6) (F_Maker_attempt n 0))
def f_Maker_attempt (n : Nat) : List Da → Mo Da := F_Maker_attempt n 0
def f_Maker_body (n : Nat) : List Da → Mo Da := F_Maker_attempt n 1
def f_Maker_choice (n : Nat) : List Da → Mo Da := F_Maker_attempt n 2
def f_Maker_leave_all (n : Nat) : List Da → Mo Da := F_Maker_attempt n 3
def f_Maker_leave_loop (n : Nat) : List Da → Mo Da := F_Maker_attempt n 4
def f_Maker_leave_to (n : Nat) : List Da → Mo Da := F_Maker_attempt n 5
def f_Maker_loop (n : Nat) : List Da → Mo Da := F_Maker_attempt n 6
def f_Maker_put_end (n : Nat) : List Da → Mo Da := F_Maker_attempt n 7
def f_Maker_row (n : Nat) : List Da → Mo Da := F_Maker_attempt n 8
def m_Maker_function (g_Maker_new_label g_Maker_begin g_Maker_body g_Maker_put : List Da → Mo Da) : Sl → Mo Fl := (mSeq (mSet 2 (eMeth "Maker" "new_label" (fun ds => ar 1 g_Maker_new_label (ds ++ [])) (eVar 0) aNil)) (mSeq (mFld ["Maker"] "goal" (eVar 1) (eVar 0)) (mSeq (mExpr (eMeth "Maker" "begin" (fun ds => ar 3 g_Maker_begin (ds ++ [])) (eVar 0) (aCons (eVar 2) (aCons (eC (.str "hot")) aNil)))) (mSeq (mFld ["Maker"] "chain" (eTup aNil) (eVar 0)) (mSeq (mFld ["Maker"] "leaves" (eH (lDisp aNil)) (eVar 0)) (mSeq (mFld ["Maker"] "path" (eTup (aCons (eVar 1) aNil)) (eVar 0)) (mSeq (mExpr (eMeth "Maker" "body" (fun ds => ar 3 g_Maker_body (ds ++ [])) (eVar 0) (aCons (e2 ixD (e2 ixD (eFld ["Maker"] "program" (eVar 0)) (eVar 1)) (eC (.int 1))) (aCons (eTup (aCons (eVar 1) aNil)) aNil)))) (mSeq (mExpr (eMethK "Maker" "put" (fun ds => ar 4 g_Maker_put ds) 0 2 gD_Maker_put_word_what (eVar 0) aNil (aCons (eC (.str "push")) (aCons (eC (.int 0)) aNil)))) (mSeq (mExpr (eMethK "Maker" "put" (fun ds => ar 4 g_Maker_put ds) 0 1 gD_Maker_put_word (eVar 0) aNil (aCons (eC (.str "return")) aNil))) (mRet (eVar 2)))))))))))
def f_Maker_function : List Da → Mo Da := fnM 3 (m_Maker_function f_Maker_new_label f_Maker_begin (f_Maker_body 100) f_Maker_put)
def m_falls : Sl → Mo Fl := (mRet (vOr (e2 (isE false) (eFld ["Block", "Code"] "rows" (eVar 0)) (eL (lDisp aNil))) (e2 (inU true) (e2 ixD (e2 ixD (e2 ixD (eFld ["Block", "Code"] "rows" (eVar 0)) (e1 negD (eC (.int 1)))) (eC (.int 0))) (eC (.int 0))) (eC (.tup [(.str "jump"), (.str "return"), (.str "throw"), (.str "rethrow")])))))
def f_falls : List Da → Mo Da := fnM 1 m_falls
def m_is_whole : Sl → Mo Fl := (mRet (vAnd (e1 (isT .int) (eVar 0)) (vAnd (vNot (e1 (isT .bool) (eVar 0))) (eChain leD leD (eVar 1) (eVar 0) (eVar 2)))))
def f_is_whole : List Da → Mo Da := fnM 3 m_is_whole
def m_is_worth (g_is_whole g_is_worth : List Da → Mo Da) : Sl → Mo Fl := (mSeq (mIf (tst (e2 gtD (eVar 1) (eC (.int 6)))) (mRet (eC (.bl false))) mNil) (mSeq (mIf (tst (eCall (fun ds => ar 3 g_is_whole (ds ++ [])) (aCons (eVar 0) (aCons (eC (.int 0)) (aCons (eC (.int 999)) aNil))))) (mRet (eC (.bl true))) mNil) (mSeq (mIf (tNot_ (tst (e1 (isT .tuple) (eVar 0)))) (mRet (eC (.bl false))) mNil) (mSeq (mIf (tst (e2 eqD (eCall (one lenD) (aCons (eVar 0) aNil)) (eC (.int 2)))) (mRet (vAnd (e2 eqD (e2 ixD (eVar 0) (eC (.int 0))) (eC (.str "box"))) (eCall (fun ds => ar 3 g_is_whole (ds ++ [])) (aCons (e2 ixD (eVar 0) (eC (.int 1))) (aCons (eC (.int 0)) (aCons (e2 subD (eC (.int 8)) (eC (.int 1))) aNil)))))) mNil) (mSeq (mIf (tOr_ (tst (e2 neD (eCall (one lenD) (aCons (eVar 0) aNil)) (eC (.int 3)))) (tOr_ (tNot_ (tst (e1 (isT .str) (e2 ixD (eVar 0) (eC (.int 0)))))) (tst (e2 (inU true) (e2 ixD (eVar 0) (eC (.int 0))) (eC (.tup [(.str "+"), (.str "-"), (.str "*"), (.str "/")])))))) (mRet (eC (.bl false))) mNil) (mRet (vAnd (eCall (fun ds => ar 2 g_is_worth (ds ++ [])) (aCons (e2 ixD (eVar 0) (eC (.int 1))) (aCons (e2 addD (eVar 1) (eC (.int 1))) aNil))) (eCall (fun ds => ar 2 g_is_worth (ds ++ [])) (aCons (e2 ixD (eVar 0) (eC (.int 2))) (aCons (e2 addD (eVar 1) (eC (.int 1))) aNil))))))))))
def F_is_worth : Nat → Nat → List Da → Mo Da
  | 0, _ => fun _ => nop
  | n + 1, _ => fnM 2 (m_is_worth f_is_whole (F_is_worth n 0))
def f_is_worth (n : Nat) : List Da → Mo Da := F_is_worth n 0
def m_is_call (g_is_whole g_is_worth : List Da → Mo Da) : Sl → Mo Fl := (mSeq (mTgt (gT 2 (gsC (gN 2) (gsC (gN 3) gsN))) (eVar 1)) (mSeq (mTgt (gT 4 (gsC (gN 4) (gsC (gN 5) (gsC (gN 6) (gsC (gN 7) gsN))))) (eVar 0)) (mSeq (mIf (tOr_ (tNot_ (tst (eCall (fun ds => ar 3 g_is_whole (ds ++ [])) (aCons (eVar 5) (aCons (eC (.int 0)) (aCons (e2 subD (eC (.int 8)) (eC (.int 1))) aNil)))))) (tOr_ (tNot_ (tst (eCall (fun ds => ar 3 g_is_whole (ds ++ [])) (aCons (eVar 6) (aCons (e2 addD (eVar 2) (eC (.int 1))) (aCons (e2 subD (eCall (one lenD) (aCons (eVar 3) aNil)) (eC (.int 1))) aNil)))))) (tNot_ (tst (e1 (isT .list) (eVar 7)))))) (mRet (eC (.bl false))) mNil) (mRet (vAnd (e2 eqD (eCall (one lenD) (aCons (eVar 7) aNil)) (e2 ixD (eVar 3) (eVar 6))) (eCall (one allD) (aCons (eL (lComp (iV (eVar 7)) (gN 8) tYes_ (eCall (fun ds => ar 2 g_is_worth (ds ++ [(.int 0)])) (aCons (eVar 8) aNil)) [8])) aNil)))))))
def f_is_call : List Da → Mo Da := fnM 9 (m_is_call f_is_whole (f_is_worth 10))
def m_is_body (g_is_row : List Da → Mo Da) : Sl → Mo Fl := (mSeq (mIf (tOr_ (tNot_ (tst (e1 (isT .list) (eVar 0)))) (tOr_ (tst (e2 gtD (eCall (one lenD) (aCons (eVar 0) aNil)) (eC (.int 8)))) (tst (e2 gtD (eVar 2) (eC (.int 6)))))) (mRet (eC (.bl false))) mNil) (mRet (eCall (one allD) (aCons (eL (lComp (iV (eVar 0)) (gN 4) tYes_ (eCall (fun ds => ar 4 g_is_row (ds ++ [])) (aCons (eVar 4) (aCons (eVar 1) (aCons (eVar 2) (aCons (eVar 3) aNil))))) [4])) aNil))))
def m_is_row (g_is_worth g_is_whole g_is_call g_is_body g_is_try : List Da → Mo Da) : Sl → Mo Fl := (mSeq (mIf (tOr_ (tNot_ (tst (e1 (isT .tuple) (eVar 0)))) (tOr_ (tst (e2 eqD (eVar 0) (eTup aNil))) (tOr_ (tNot_ (tst (e1 (isT .str) (e2 ixD (eVar 0) (eC (.int 0)))))) (tst (e2 (inU true) (eTup (aCons (e2 ixD (eVar 0) (eC (.int 0))) (aCons (eCall (one lenD) (aCons (eVar 0) aNil)) aNil))) (eC (.tup [(.tup [(.str "set"), (.int 3)]), (.tup [(.str "out"), (.int 2)]), (.tup [(.str "throw"), (.int 3)]), (.tup [(.str "call"), (.int 4)]), (.tup [(.str "if"), (.int 4)]), (.tup [(.str "loop"), (.int 3)]), (.tup [(.str "break"), (.int 1)]), (.tup [(.str "return"), (.int 2)]), (.tup [(.str "try"), (.int 4)])]))))))) (mRet (eC (.bl false))) mNil) (mSeq (mSet 4 (e2 ixD (eVar 0) (eC (.int 0)))) (mSeq (mIf (tst (e2 (inU false) (eVar 4) (eTup (aCons (eC (.str "out")) (aCons (eC (.str "return")) aNil))))) (mRet (eCall (fun ds => ar 2 g_is_worth (ds ++ [(.int 0)])) (aCons (e2 ixD (eVar 0) (eC (.int 1))) aNil))) mNil) (mSeq (mIf (tst (e2 eqD (eVar 4) (eC (.str "set")))) (mRet (vAnd (eCall (fun ds => ar 3 g_is_whole (ds ++ [])) (aCons (e2 ixD (eVar 0) (eC (.int 1))) (aCons (eC (.int 0)) (aCons (e2 subD (eC (.int 8)) (eC (.int 1))) aNil)))) (eCall (fun ds => ar 2 g_is_worth (ds ++ [(.int 0)])) (aCons (e2 ixD (eVar 0) (eC (.int 2))) aNil)))) mNil) (mSeq (mIf (tst (e2 eqD (eVar 4) (eC (.str "throw")))) (mRet (vAnd (eCall (fun ds => ar 3 g_is_whole (ds ++ [])) (aCons (e2 ixD (eVar 0) (eC (.int 1))) (aCons (eC (.int 1)) (aCons (e2 subD (eC (.int 5)) (eC (.int 1))) aNil)))) (eCall (fun ds => ar 2 g_is_worth (ds ++ [(.int 0)])) (aCons (e2 ixD (eVar 0) (eC (.int 2))) aNil)))) mNil) (mSeq (mIf (tst (e2 eqD (eVar 4) (eC (.str "call")))) (mRet (eCall (fun ds => ar 2 g_is_call (ds ++ [])) (aCons (eVar 0) (aCons (eVar 1) aNil)))) mNil) (mSeq (mIf (tst (e2 eqD (eVar 4) (eC (.str "if")))) (mRet (vAnd (eCall (fun ds => ar 2 g_is_worth (ds ++ [(.int 0)])) (aCons (e2 ixD (eVar 0) (eC (.int 1))) aNil)) (eCall (one allD) (aCons (eL (lComp (iV (eSl slA (eVar 0) (soP (eC (.int 2))) noP)) (gN 5) tYes_ (eCall (fun ds => ar 4 g_is_body (ds ++ [])) (aCons (eVar 5) (aCons (eVar 1) (aCons (e2 addD (eVar 2) (eC (.int 1))) (aCons (eVar 3) aNil))))) [5])) aNil)))) mNil) (mSeq (mIf (tst (e2 eqD (eVar 4) (eC (.str "loop")))) (mRet (vAnd (eCall (fun ds => ar 3 g_is_whole (ds ++ [])) (aCons (e2 ixD (eVar 0) (eC (.int 1))) (aCons (eC (.int 1)) (aCons (eC (.int 4)) aNil)))) (eCall (fun ds => ar 4 g_is_body (ds ++ [])) (aCons (e2 ixD (eVar 0) (eC (.int 2))) (aCons (eVar 1) (aCons (e2 addD (eVar 2) (eC (.int 1))) (aCons (eC (.bl true)) aNil))))))) mNil) (mSeq (mIf (tst (e2 eqD (eVar 4) (eC (.str "break")))) (mRet (eVar 3)) mNil) (mRet (eCall (fun ds => ar 4 g_is_try (ds ++ [])) (aCons (eVar 0) (aCons (eVar 1) (aCons (eVar 2) (aCons (eVar 3) aNil)))))))))))))))
def m_is_try (g_is_body g_is_whole : List Da → Mo Da) : Sl → Mo Fl := (mSeq (mTgt (gT 4 (gsC (gN 4) (gsC (gN 5) (gsC (gN 6) (gsC (gN 7) gsN))))) (eVar 0)) (mSeq (mIf (tOr_ (tNot_ (tst (eCall (fun ds => ar 4 g_is_body (ds ++ [])) (aCons (eVar 5) (aCons (eVar 1) (aCons (e2 addD (eVar 2) (eC (.int 1))) (aCons (eVar 3) aNil))))))) (tOr_ (tNot_ (tst (e1 (isT .list) (eVar 6)))) (tst (e2 gtD (eCall (one lenD) (aCons (eVar 6) aNil)) (eC (.int 4)))))) (mRet (eC (.bl false))) mNil) (mSeq (mFor (iV (eVar 6)) (gN 8) (mSeq (mIf (tOr_ (tNot_ (tst (e1 (isT .tuple) (eVar 8)))) (tOr_ (tst (e2 neD (eCall (one lenD) (aCons (eVar 8) aNil)) (eC (.int 3)))) (tAnd_ (tst (e2 (isB true) (e2 ixD (eVar 8) (eC (.int 0))) (eC (.non)))) (tNot_ (tst (eCall (fun ds => ar 3 g_is_whole (ds ++ [])) (aCons (e2 ixD (eVar 8) (eC (.int 0))) (aCons (eC (.int 0)) (aCons (e2 subD (eC (.int 5)) (eC (.int 1))) aNil))))))))) (mRet (eC (.bl false))) mNil) (mIf (tOr_ (tNot_ (tst (eCall (fun ds => ar 3 g_is_whole (ds ++ [])) (aCons (e2 ixD (eVar 8) (eC (.int 1))) (aCons (eC (.int 0)) (aCons (e2 subD (eC (.int 8)) (eC (.int 1))) aNil)))))) (tNot_ (tst (eCall (fun ds => ar 4 g_is_body (ds ++ [])) (aCons (e2 ixD (eVar 8) (eC (.int 2))) (aCons (eVar 1) (aCons (e2 addD (eVar 2) (eC (.int 1))) (aCons (eVar 3) aNil)))))))) (mRet (eC (.bl false))) mNil))) (mRet (vOr (e2 (isB false) (eVar 7) (eC (.non))) (eCall (fun ds => ar 4 g_is_body (ds ++ [])) (aCons (eVar 7) (aCons (eVar 1) (aCons (e2 addD (eVar 2) (eC (.int 1))) (aCons (eVar 3) aNil))))))))))
def F_is_body : Nat → Nat → List Da → Mo Da
  | 0, _ => fun _ => nop
  | n + 1, 0 => fnM 5 (m_is_body (F_is_body n 1))
  | n + 1, 1 => fnM 6 (m_is_row (f_is_worth 10) f_is_whole f_is_call (F_is_body n 0) (F_is_body n 2))
  | n + 1, _ => fnM 9 (m_is_try (F_is_body n 0) f_is_whole)
def f_is_body (n : Nat) : List Da → Mo Da := F_is_body n 0
def f_is_row (n : Nat) : List Da → Mo Da := F_is_body n 1
def f_is_try (n : Nat) : List Da → Mo Da := F_is_body n 2
def m_is_program (g_is_whole g_is_body : List Da → Mo Da) : Sl → Mo Fl := (mSeq (mIf (tOr_ (tNot_ (tst (e1 (isT .list) (eVar 0)))) (tNot_ (tst (eChain leD leD (eC (.int 1)) (eCall (one lenD) (aCons (eVar 0) aNil)) (eC (.int 5)))))) (mRet (eC (.bl false))) mNil) (mSeq (mIf (tNot_ (tst (eCall (one allD) (aCons (eL (lComp (iV (eVar 0)) (gN 2) tYes_ (vAnd (e1 (isT .tuple) (eVar 2)) (vAnd (e2 eqD (eCall (one lenD) (aCons (eVar 2) aNil)) (eC (.int 2))) (eCall (fun ds => ar 3 g_is_whole (ds ++ [])) (aCons (e2 ixD (eVar 2) (eC (.int 0))) (aCons (eC (.int 0)) (aCons (eC (.int 3)) aNil)))))) [2])) aNil)))) (mRet (eC (.bl false))) mNil) (mSeq (mSet 1 (eL (lComp (iV (eVar 0)) (gN 2) tYes_ (e2 ixD (eVar 2) (eC (.int 0))) [2]))) (mRet (vAnd (e2 eqD (e2 ixD (eVar 1) (eC (.int 0))) (eC (.int 0))) (eCall (one allD) (aCons (eL (lComp (iR1 (aCons (eCall (one lenD) (aCons (eVar 0) aNil)) aNil)) (gN 3) tYes_ (eCall (fun ds => ar 4 g_is_body (ds ++ [])) (aCons (e2 ixD (e2 ixD (eVar 0) (eVar 3)) (eC (.int 1))) (aCons (eTup (aCons (eVar 3) (aCons (eVar 1) aNil))) (aCons (eC (.int 0)) (aCons (eC (.bl false)) aNil))))) [3])) aNil)))))))
def f_is_program : List Da → Mo Da := fnM 4 (m_is_program f_is_whole (f_is_body 30))
def m_look_program (g_is_program : List Da → Mo Da) : Sl → Mo Fl := (mIf (tNot_ (tst (eCall (fun ds => ar 1 g_is_program (ds ++ [])) (aCons (eVar 0) aNil)))) (mRaise "BadTree") mNil)
def f_look_program : List Da → Mo Da := fnM 1 (m_look_program f_is_program)
def m_Maker___init__ (g_look_program : List Da → Mo Da) : Sl → Mo Fl := (mSeq (mExpr (eCall (fun ds => ar 1 g_look_program (ds ++ [])) (aCons (eVar 1) aNil))) (mSeq (mFld ["Maker"] "program" (eVar 1) (eVar 0)) (mSeq (mFld ["Maker"] "blocks" (eH (lDisp aNil)) (eVar 0)) (mSeq (mFld ["Maker"] "now" (eC (.non)) (eVar 0)) (mSeq (mFld ["Maker"] "chain" (eTup aNil) (eVar 0)) (mSeq (mFld ["Maker"] "leaves" (eH (lDisp aNil)) (eVar 0)) (mSeq (mFld ["Maker"] "labels" (eC (.int 0)) (eVar 0)) (mSeq (mFld ["Maker"] "spare" (eC (.int 8)) (eVar 0)) (mSeq (mFld ["Maker"] "goal" (eC (.int 0)) (eVar 0)) (mSeq (mFld ["Maker"] "path" (eTup aNil) (eVar 0)) (mFld ["Maker"] "tall" (eC (.int 0)) (eVar 0))))))))))))
def f_Maker___init__ : List Da → Mo Da := fnM 2 (m_Maker___init__ f_look_program)
def m_made (g_Maker___init__ g_Maker_function : List Da → Mo Da) : Sl → Mo Fl := (mSeq (mSet 1 (eMake "Maker" (fun ds => ar 2 g_Maker___init__ ds) (fun ro => bnd ((aCons (eVar 0) aNil) ro) fun ds => ret (ds ++ [])))) (mSeq (mSet 2 (eL (lComp (iR1 (aCons (eCall (one lenD) (aCons (eVar 0) aNil)) aNil)) (gN 3) tYes_ (eMeth "Maker" "function" (fun ds => ar 2 g_Maker_function (ds ++ [])) (eVar 1) (aCons (eVar 3) aNil)) [3]))) (mRet (eTup (aCons (eFld ["Maker"] "blocks" (eVar 1)) (aCons (eVar 2) (aCons (eFld ["Maker"] "spare" (eVar 1)) aNil)))))))
def f_made : List Da → Mo Da := fnM 4 (m_made f_Maker___init__ f_Maker_function)
def m_orders : Sl → Mo Fl := (mSeq (mSet 1 (eL (lComp (iR1 (aCons (eCall (one lenD) (aCons (eVar 0) aNil)) aNil)) (gN 3) (tst (e2 eqD (eFld ["Block"] "warmth" (e2 ixD (eVar 0) (eVar 3))) (eC (.str "hot")))) (eVar 3) [3]))) (mSeq (mSet 2 (eL (lComp (iR1 (aCons (eCall (one lenD) (aCons (eVar 0) aNil)) aNil)) (gN 3) (tst (e2 eqD (eFld ["Block"] "warmth" (e2 ixD (eVar 0) (eVar 3))) (eC (.str "cold")))) (eVar 3) [3]))) (mRet (eTup (aCons (e2 addD (eVar 1) (eVar 2)) (aCons (eCall (one lenD) (aCons (eVar 1) aNil)) aNil))))))
def f_orders : List Da → Mo Da := fnM 4 m_orders
def m_settle : Sl → Mo Fl := (mSeq (mFld ["Code"] "entries" (eL (lComp (iV (eVar 1)) (gN 8) tYes_ (e2 getK (eFld ["Code"] "starts" (eVar 0)) (eVar 8)) [8])) (eVar 0)) (mSeq (mFor (iE (aCons (eL (lCall (one listD) (aCons (eFld ["Code"] "rows" (eVar 0)) aNil))) aNil)) (gT 2 (gsC (gN 2) (gsC (gT 3 (gsC (gN 3) (gsC (gN 4) (gsC (gN 5) gsN)))) gsN))) (mIf (tst (e2 (inU false) (eVar 3) (eC (.tup [(.str "jump"), (.str "unless")])))) (mSetI (eTup (aCons (eVar 3) (aCons (e2 getK (eFld ["Code"] "starts" (eVar 0)) (eVar 4)) (aCons (eVar 5) aNil)))) (eFld ["Code"] "rows" (eVar 0)) (eVar 2)) (mIf (tst (e2 eqD (eVar 3) (eC (.str "call")))) (mSetI (eTup (aCons (eVar 3) (aCons (e2 ixD (eFld ["Code"] "entries" (eVar 0)) (eVar 4)) (aCons (eVar 5) aNil)))) (eFld ["Code"] "rows" (eVar 0)) (eVar 2)) mNil))) (mSeq (mSet 6 (eH (lDisp aNil))) (mSeq (mFor (iV (eFld ["Code"] "catchers" (eVar 0))) (gN 7) (mExpr (eApp (eVar 6) (eCall (one tupleD) (aCons (eL (lComp (iV (eVar 7)) (gT 3 (gsC (gN 9) (gsC (gN 10) (gsC (gN 11) gsN)))) tYes_ (eTup (aCons (eVar 9) (aCons (e2 getK (eFld ["Code"] "starts" (eVar 0)) (eVar 10)) (aCons (eVar 11) aNil)))) [9, 10, 11])) aNil))))) (mFld ["Code"] "catchers" (eVar 6) (eVar 0))))))
def f_settle : List Da → Mo Da := fnM 12 m_settle
def m_with_jumps (g_falls : List Da → Mo Da) : Sl → Mo Fl := (mSeq (mSet 2 (eH (lDisp aNil))) (mSeq (mFor (iE (aCons (eVar 1) aNil)) (gT 2 (gsC (gN 3) (gsC (gN 4) gsN))) (mSeq (mSet 5 (eH (lCall (one listD) (aCons (eFld ["Block", "Code"] "rows" (e2 ixD (eVar 0) (eVar 4))) aNil)))) (mSeq (mSet 6 (eIf (tst (e2 ltD (e2 addD (eVar 3) (eC (.int 1))) (eCall (one lenD) (aCons (eVar 1) aNil)))) (eFld ["Block"] "label" (e2 ixD (eVar 0) (e2 ixD (eVar 1) (e2 addD (eVar 3) (eC (.int 1)))))) (eC (.non)))) (mSeq (mIf (tAnd_ (tst (eCall (fun ds => ar 1 g_falls (ds ++ [])) (aCons (e2 ixD (eVar 0) (eVar 4)) aNil))) (tst (e2 neD (eFld ["Block"] "label" (e2 ixD (eVar 0) (e2 addD (eVar 4) (eC (.int 1))))) (eVar 6)))) (mExpr (eApp (eVar 5) (eTup (aCons (eTup (aCons (eC (.str "jump")) (aCons (eFld ["Block"] "label" (e2 ixD (eVar 0) (e2 addD (eVar 4) (eC (.int 1))))) (aCons (eC (.non)) aNil)))) (aCons (eTup aNil) (aCons (eTup (aCons (eFld ["Block", "Maker"] "goal" (e2 ixD (eVar 0) (eVar 4))) aNil)) (aCons (eC (.int 0)) aNil))))))) mNil) (mSeq (mIf (tAnd_ (tst (e2 (isE true) (eVar 5) (eL (lDisp aNil)))) (tAnd_ (tst (e2 eqD (e2 ixD (e2 ixD (e2 ixD (eVar 5) (e1 negD (eC (.int 1)))) (eC (.int 0))) (eC (.int 0))) (eC (.str "jump")))) (tst (e2 eqD (e2 ixD (e2 ixD (e2 ixD (eVar 5) (e1 negD (eC (.int 1)))) (eC (.int 0))) (eC (.int 1))) (eVar 6))))) (mExpr (ePop (eVar 5))) mNil) (mExpr (eApp (eVar 2) (eTup (aCons (e2 ixD (eVar 0) (eVar 4)) (aCons (eF (eVar 5)) aNil)))))))))) (mRet (eF (eVar 2)))))
def f_with_jumps : List Da → Mo Da := fnM 7 (m_with_jumps f_falls)
end CL
namespace CL
open PySem PySem.Spec L2
def rgL (d : Da) : Mo (List Da) := fun st => match d with
  | .int n => if n ≤ 500000 ∧ -1000000 ≤ n then .ok (rngL 0 n.toNat) st else .bad
  | _ => .bad
def lRg (a : Sl → Mo Da) : Sl → Mo (List Da) := fun ro => bnd (a ro) rgL
section
variable {X : Cx} {E : St → XK} {e : Expr} {ta : TE} {a : Sl → Mo Da} {tA : TA} {al : Sl → Mo (List Da)} {pos pos2 : Pos}
theorem ql_listRg {p p2 : Pos} (hc : X.calm = true) (hm : X.mg "list" = none) (hm2 : X.mg "range" = none) (ha : QE X E e ta a) (hg : Gl X "list" := by rfl) (hg2 : Gl X "range" := by rfl)
    (na : starEach [e] X.env = (false, eval e X.env) :: starEach [] X.env := by rfl) (na2 : starEach [.Call (.Name "range" p2) [e] [] pos2] X.env = (false, eval (.Call (.Name "range" p2) [e] [] pos2) X.env) :: starEach [] X.env := by rfl) :
    QL X E (.Call (.Name "list" p) [.Call (.Name "range" p2) [e] [] pos2] [] pos) (tLstRg (tRg1 ta)) (lRg a) := by
  refine ⟨pe_listRg hc hg hm (prg_1 hg2 hm2 ha.pe na) na2, fun w ro σ Q en h => ?_⟩
  refine ha.se w ro σ _ en (h.bind.mono (fun d w1 x1 p1 m1 k v rv => ?_) fun _ _ _ z => z)
  unfold rgL at k
  split at k
  · rename_i n
    split at k
    · rename_i hn
      cases rep_int rv
      refine ⟨n, rfl, ⟨by decide, by decide, by omega, by omega, by omega⟩, fun q hq => ?_⟩
      have hr : RepL X.K w1 (rgV 0 n) (rngL 0 n.toNat) := by
        unfold rgV rngL
        rw [Int.sub_zero]
        generalize List.range n.toNat = l
        induction l with
        | nil => exact .nil
        | cons i l ih => exact .cons (.int _) ih
      exact okL_fresh m1 k rfl hq hr
    · exact k.elim
  · exact k.elim
def srtI (l : List Int) : List Int := l.mergeSort (fun a b => decide (a ≤ b))
theorem srtI_perm (l : List Int) : (srtI l).Perm l := List.mergeSort_perm l _
theorem srtI_up (l : List Int) : (srtI l).Pairwise (· ≤ ·) := by
  have := List.pairwise_mergeSort (le := fun a b : Int => decide (a ≤ b)) (fun a b c h1 h2 => by simp only [decide_eq_true_eq] at *; omega) (fun a b => by simp only [Bool.or_eq_true, decide_eq_true_eq]; omega) l
  exact this.imp fun h => by simpa using h
theorem srtI_uniq : ∀ {a b : List Int}, a.Perm b → a.Pairwise (· ≤ ·) → b.Pairwise (· ≤ ·) → a = b := fun p h1 h2 => List.Perm.eq_of_pairwise (fun x y _ _ h1 h2 => by omega) h1 h2 p
def sortI (d : Da) : Mo (List Da) := fun st => match lsOf st d with
  | some xs => (match intsOf xs with
    | some ns => .ok ((srtI ns).map Da.int) st
    | none => .bad)
  | none => .bad
theorem ql_sortedI {K : PySem.W.Frag} {p : Pos} (hm : X.mg "sorted" = none) (ha : QA X E [e] tA al) (hg : Gl X "sorted" := by rfl) (he : starEach (e :: []) X.env = (false, eval e X.env) :: starEach [] X.env := by rfl) (hpl : (backTo pos (starEach [] X.env)).any (·.1) = false := by rfl) (hK : X.K = K := by rfl) :
    QL X E (.Call (.Name "sorted" p) [e] [] pos) (tCB (rSortedI K) tA) (lCall (one sortI) al) := by
  subst hK
  refine ⟨pe_callB cr_sortedI hg hm (by decide +kernel) ha.pa (by decide) (by decide) he hpl, fun w ro σ Q en h => ?_⟩
  refine ha.sa w ro σ _ en (h.bind.mono (fun ds w1 x1 p1 m1 k vs rvs => ?_) fun _ _ _ z => z)
  obtain ⟨v, d, rfl, rfl, rv, k⟩ := one_rep rvs k
  unfold sortI at k
  split at k
  · rename_i xs hx
    split at k
    · rename_i ns hn
      obtain ⟨a, us, rfl, hH, rl⟩ := ls_rep m1 rv hx
      have eu := ints_rep rl hn
      subst eu
      refine ⟨a, ns, rfl, SqL.of hH, fun ns' p3 h1 h2 hp3 => ?_⟩
      have e2 : ns' = srtI ns := srtI_uniq (h1.trans (srtI_perm ns).symm) h2 (srtI_up ns)
      subst e2
      exact okL_fresh m1 k rfl hp3 (repL_intsOf _)
    · exact k.elim
  · exact k.elim
end
end CL
namespace CL
open PySem PySem.Spec L2
def m_is_order (g_is_whole : List Da → Mo Da) : Sl → Mo Fl := (mRet (vAnd (eCall (one allD) (aCons (eL (lComp (iV (eVar 0)) (gN 2) tYes_ (eCall (fun ds => ar 3 g_is_whole (ds ++ [])) (aCons (eVar 2) (aCons (eC (.int 0)) (aCons (e2 subD (eVar 1) (eC (.int 1))) aNil)))) [2])) aNil)) (e2 eqD (eL (lCall (one sortI) (aCons (eVar 0) aNil))) (eL (lRg (eVar 1))))))
def f_is_order : List Da → Mo Da := fnM 3 (m_is_order f_is_whole)
def m_laid (g_made g_orders g_is_order g_Code___init__ g_with_jumps g_settle : List Da → Mo Da) : Sl → Mo Fl := (mSeq (mTgt (gT 3 (gsC (gN 2) (gsC (gN 3) (gsC (gN 4) gsN)))) (eCall (fun ds => ar 1 g_made (ds ++ [])) (aCons (eVar 0) aNil))) (mSeq (mTgt (gT 2 (gsC (gN 5) (gsC (gN 6) gsN))) (eCall (fun ds => ar 1 g_orders (ds ++ [])) (aCons (eVar 2) aNil))) (mSeq (mIf (tAnd_ (tst (e2 (isB true) (eVar 1) (eC (.non)))) (tOr_ (tNot_ (tst (e1 (isT .list) (eVar 1)))) (tNot_ (tst (eCall (fun ds => ar 2 g_is_order (ds ++ [])) (aCons (eVar 1) (aCons (eCall (one lenD) (aCons (eVar 2) aNil)) aNil))))))) (mRaise "BadOrder") mNil) (mSeq (mSet 7 (eMake "Code" (fun ds => ar 2 g_Code___init__ ds) (fun ro => bnd ((aCons (eVar 4) aNil) ro) fun ds => ret (ds ++ [])))) (mSeq (mSet 8 (eIf (tst (e2 (isB false) (eVar 1) (eC (.non)))) (eVar 5) (eL (lCall (one listD) (aCons (eVar 1) aNil))))) (mSeq (mSet 9 (eCall (fun ds => ar 2 g_with_jumps (ds ++ [])) (aCons (eVar 2) (aCons (eVar 8) aNil)))) (mSeq (mFor (iE (aCons (eVar 9) aNil)) (gT 2 (gsC (gN 10) (gsC (gT 2 (gsC (gN 11) (gsC (gN 12) gsN))) gsN))) (mSeq (mIf (tst (e2 eqD (eVar 10) (eVar 6))) (mFld ["Code"] "warm" (eCall (one lenD) (aCons (eFld ["Code"] "rows" (eVar 7)) aNil)) (eVar 7)) mNil) (mSeq (mPutK (eCall (one lenD) (aCons (eFld ["Code"] "rows" (eVar 7)) aNil)) (eFld ["Code"] "starts" (eVar 7)) (eFld ["Block"] "label" (eVar 11))) (mFor (iV (eVar 12)) (gT 4 (gsC (gN 13) (gsC (gN 14) (gsC (gN 15) (gsC (gN 16) gsN))))) (mSeq (mExpr (eApp (eFld ["Code"] "rows" (eVar 7)) (eVar 13))) (mSeq (mExpr (eApp (eFld ["Code"] "catchers" (eVar 7)) (eVar 14))) (mSeq (mExpr (eApp (eFld ["Code"] "paths" (eVar 7)) (eVar 15))) (mSeq (mExpr (eApp (eFld ["Code"] "heights" (eVar 7)) (eVar 16))) (mExpr (eApp (eFld ["Code"] "owners" (eVar 7)) (eFld ["Block", "Maker"] "goal" (eVar 11)))))))))))) (mSeq (mIf (tOr_ (tst (e2 (isB true) (eVar 1) (eC (.non)))) (tst (e2 eqD (eVar 6) (eCall (one lenD) (aCons (eVar 9) aNil))))) (mFld ["Code"] "warm" (eCall (one lenD) (aCons (eFld ["Code"] "rows" (eVar 7)) aNil)) (eVar 7)) mNil) (mSeq (mFld ["Code"] "many" (eL (lComp (iV (eVar 0)) (gN 17) tYes_ (e2 ixD (eVar 17) (eC (.int 0))) [17])) (eVar 7)) (mSeq (mExpr (eCall (fun ds => ar 2 g_settle (ds ++ [])) (aCons (eVar 7) (aCons (eVar 3) aNil)))) (mRet (eFF (eVar 7)))))))))))))
def f_laid : List Da → Mo Da := fnM 18 (m_laid f_made f_orders f_is_order f_Code___init__ f_with_jumps f_settle)
end CL
namespace CL
open PySem PySem.Spec L2
def m_look_number (g_is_whole : List Da → Mo Da) : Sl → Mo Fl := (mIf (tNot_ (tst (eCall (fun ds => ar 3 g_is_whole (ds ++ [])) (aCons (eVar 0) (aCons (eVar 1) (aCons (eVar 2) aNil)))))) (mRaise "BadNumber") mNil)
def f_look_number : List Da → Mo Da := fnM 3 (m_look_number f_is_whole)
def m_reckoned : Sl → Mo Fl := (mSeq (mIf (tst (e2 eqD (eVar 0) (eC (.str "+")))) (mRet (e2 modD (e2 addD (eVar 1) (eVar 2)) (e2 addD (eC (.int 999)) (eC (.int 1))))) mNil) (mSeq (mIf (tst (e2 eqD (eVar 0) (eC (.str "-")))) (mRet (e2 modD (e2 subD (eVar 1) (eVar 2)) (e2 addD (eC (.int 999)) (eC (.int 1))))) mNil) (mSeq (mIf (tst (e2 eqD (eVar 0) (eC (.str "*")))) (mRet (e2 modD (e2 mulD (eVar 1) (eVar 2)) (e2 addD (eC (.int 999)) (eC (.int 1))))) mNil) (mRet (eIf (tst (e2 eqD (eVar 2) (eC (.int 0)))) (eC (.non)) (e2 fdivD (eVar 1) (eVar 2)))))))
def f_reckoned : List Da → Mo Da := fnM 3 m_reckoned
end CL
namespace CL
open PySem PySem.Spec L2
def m_found_in : Sl → Mo Fl := (mSeq (mPar 2 3 (aCons (eC (.int 0)) (aCons (eCall (one lenD) (aCons (eVar 0) aNil)) aNil))) (mSeq (whileF (tst (e2 ltD (eVar 2) (eVar 3))) (mSeq (mSet 4 (e2 fdivD (e2 addD (eVar 2) (eVar 3)) (eC (.int 2)))) (mIf (tst (e2 leD (e2 ixD (e2 ixD (eVar 0) (eVar 4)) (eC (.int 1))) (eVar 1))) (mSet 2 (e2 addD (eVar 4) (eC (.int 1)))) (mSet 3 (eVar 4)))) 1000000) (mRet (eIf (tAnd_ (tst (e2 ltD (eVar 2) (eCall (one lenD) (aCons (eVar 0) aNil)))) (tst (e2 leD (e2 ixD (e2 ixD (eVar 0) (eVar 2)) (eC (.int 0))) (eVar 1)))) (e2 ixD (e2 ixD (eVar 0) (eVar 2)) (eC (.int 2))) (eTup aNil)))))
def f_found_in : List Da → Mo Da := fnM 5 m_found_in
def m_is_chain (g_is_whole : List Da → Mo Da) : Sl → Mo Fl := (mSeq (mIf (tOr_ (tNot_ (tst (e1 (isT .tuple) (eVar 0)))) (tst (e2 eqD (eVar 0) (eTup aNil)))) (mRet (eC (.bl false))) mNil) (mSeq (mFor (iV (eVar 0)) (gN 1) (mSeq (mIf (tOr_ (tNot_ (tst (e1 (isT .tuple) (eVar 1)))) (tOr_ (tst (e2 neD (eCall (one lenD) (aCons (eVar 1) aNil)) (eC (.int 3)))) (tNot_ (tst (eCall (fun ds => ar 3 g_is_whole (ds ++ [])) (aCons (e2 ixD (eVar 1) (eC (.int 1))) (aCons (eC (.int 0)) (aCons (eC (.int 100000)) aNil)))))))) (mRet (eC (.bl false))) mNil) (mIf (tOr_ (tAnd_ (tst (e2 (isB true) (e2 ixD (eVar 1) (eC (.int 0))) (eC (.non)))) (tNot_ (tst (eCall (fun ds => ar 3 g_is_whole (ds ++ [])) (aCons (e2 ixD (eVar 1) (eC (.int 0))) (aCons (eC (.int 0)) (aCons (e2 subD (eC (.int 5)) (eC (.int 1))) aNil))))))) (tNot_ (tst (e1 (isT .bool) (e2 ixD (eVar 1) (eC (.int 2))))))) (mRet (eC (.bl false))) mNil))) (mRet (eC (.bl true)))))
def f_is_chain : List Da → Mo Da := fnM 2 (m_is_chain f_is_whole)
def m_is_table (g_is_chain g_is_whole : List Da → Mo Da) : Sl → Mo Fl := (mSeq (mIf (tNot_ (tst (e1 (isT .list) (eVar 0)))) (mRet (eC (.bl false))) mNil) (mSeq (mSet 1 (eC (.int 0))) (mSeq (mFor (iV (eVar 0)) (gN 2) (mSeq (mIf (tOr_ (tNot_ (tst (e1 (isT .tuple) (eVar 2)))) (tOr_ (tst (e2 neD (eCall (one lenD) (aCons (eVar 2) aNil)) (eC (.int 3)))) (tNot_ (tst (eCall (fun ds => ar 1 g_is_chain (ds ++ [])) (aCons (e2 ixD (eVar 2) (eC (.int 2))) aNil)))))) (mRet (eC (.bl false))) mNil) (mSeq (mIf (tOr_ (tNot_ (tst (eCall (one allD) (aCons (eL (lComp (iV (eSl slA (eVar 2) noP (soP (eC (.int 2))))) (gN 3) tYes_ (eCall (fun ds => ar 3 g_is_whole (ds ++ [])) (aCons (eVar 3) (aCons (eC (.int 0)) (aCons (eC (.int 100000)) aNil)))) [3])) aNil)))) (tOr_ (tst (e2 ltD (e2 ixD (eVar 2) (eC (.int 0))) (eVar 1))) (tst (e2 leD (e2 ixD (eVar 2) (eC (.int 1))) (e2 ixD (eVar 2) (eC (.int 0))))))) (mRet (eC (.bl false))) mNil) (mSet 1 (e2 ixD (eVar 2) (eC (.int 1))))))) (mRet (eC (.bl true))))))
def f_is_table : List Da → Mo Da := fnM 4 (m_is_table f_is_chain f_is_whole)
def m_look_table (g_is_table : List Da → Mo Da) : Sl → Mo Fl := (mIf (tNot_ (tst (eCall (fun ds => ar 1 g_is_table (ds ++ [])) (aCons (eVar 0) aNil)))) (mRaise "BadTable") mNil)
def f_look_table : List Da → Mo Da := fnM 1 (m_look_table f_is_table)
end CL
namespace CL
open PySem PySem.Spec L2
def m_can_throw : Sl → Mo Fl := (mSeq (mTgt (gT 3 (gsC (gN 1) (gsC (gN 2) (gsC (gN 3) gsN)))) (eVar 0)) (mRet (vOr (e2 (inU false) (eVar 1) (eTup (aCons (eC (.str "throw")) (aCons (eC (.str "rethrow")) (aCons (eC (.str "call")) aNil))))) (vAnd (e2 eqD (eVar 1) (eC (.str "sign"))) (e2 eqD (eVar 2) (e2 ixD (eC (.tup [(.str "+"), (.str "-"), (.str "*"), (.str "/")])) (eC (.int 3))))))))
def f_can_throw : List Da → Mo Da := fnM 4 m_can_throw
def m_look_code : Sl → Mo Fl := (mIf (tNot_ (tst (e1 (isC [("Block", false), ("Maker", false), ("Code", true), ("Frame", false), ("Machine", false)]) (eVar 0)))) (mRaise "BadTable") mNil)
def f_look_code : List Da → Mo Da := fnM 1 m_look_code
def m_ranges (g_look_code g_can_throw : List Da → Mo Da) : Sl → Mo Fl := (mSeq (mExpr (eCall (fun ds => ar 1 g_look_code (ds ++ [])) (aCons (eVar 0) aNil))) (mSeq (mSet 1 (eH (lDisp aNil))) (mSeq (mSet 2 (eTup aNil)) (mSeq (mFor (iR1 (aCons (eCall (one lenD) (aCons (eFld ["Code"] "rows" (eVar 0)) aNil)) aNil)) (gN 3) (mIf (tst (eCall (fun ds => ar 1 g_can_throw (ds ++ [])) (aCons (e2 ixD (eFld ["Code"] "rows" (eVar 0)) (eVar 3)) aNil))) (mSeq (mSet 4 (e2 ixD (eFld ["Code"] "catchers" (eVar 0)) (eVar 3))) (mSeq (mIf (tAnd_ (tst (e2 neD (eVar 4) (eTup aNil))) (tst (e2 eqD (eVar 4) (eVar 2)))) (mSetI (eTup (aCons (e2 ixD (e2 ixD (eVar 1) (e1 negD (eC (.int 1)))) (eC (.int 0))) (aCons (e2 addD (eVar 3) (eC (.int 1))) (aCons (eVar 4) aNil)))) (eVar 1) (e1 negD (eC (.int 1)))) (mIf (tst (e2 neD (eVar 4) (eTup aNil))) (mExpr (eApp (eVar 1) (eTup (aCons (eVar 3) (aCons (e2 addD (eVar 3) (eC (.int 1))) (aCons (eVar 4) aNil)))))) mNil)) (mSet 2 (eVar 4)))) mNil)) (mRet (eF (eVar 1)))))))
def f_ranges : List Da → Mo Da := fnM 5 (m_ranges f_look_code f_can_throw)
end CL
namespace CL
open PySem PySem.Spec L2
def m_Frame___init__ : Sl → Mo Fl := (mSeq (mFld ["Frame"] "place" (eVar 1) (eVar 0)) (mSeq (mFld ["Frame"] "boxes" (eVar 2) (eVar 0)) (mSeq (mFld ["Frame"] "stack" (eH (lDisp aNil)) (eVar 0)) (mFld ["Frame"] "kind" (eC (.int 0)) (eVar 0)))))
def f_Frame___init__ : List Da → Mo Da := fnM 3 m_Frame___init__
def m_Machine_instruction : Sl → Mo Fl := (mSeq (mIf (tst (e2 (isB true) (eFld ["Machine"] "end" (eVar 0)) (eC (.non)))) (mRaise "Over") mNil) (mRet (e2 ixD (eFld ["Block", "Code"] "rows" (eFld ["Machine"] "code" (eVar 0))) (eFld ["Frame"] "place" (e2 ixD (eFld ["Machine"] "frames" (eVar 0)) (e1 negD (eC (.int 1))))))))
def f_Machine_instruction : List Da → Mo Da := fnM 1 m_Machine_instruction
def m_Machine_returned : Sl → Mo Fl := (mSeq (mExpr (ePop (eFld ["Machine"] "frames" (eVar 0)))) (mIf (tst (e2 (isE false) (eFld ["Machine"] "frames" (eVar 0)) (eL (lDisp aNil)))) (mFld ["Machine"] "end" (eTup (aCons (eC (.str "return")) (aCons (eVar 1) aNil))) (eVar 0)) (mSeq (mExpr (eApp (eFld ["Frame"] "stack" (e2 ixD (eFld ["Machine"] "frames" (eVar 0)) (e1 negD (eC (.int 1))))) (eVar 1))) (mFldAug "Frame" "place" (fun i j => i + j) (e2 ixD (eFld ["Machine"] "frames" (eVar 0)) (e1 negD (eC (.int 1)))) (eC (.int 1))))))
def f_Machine_returned : List Da → Mo Da := fnM 2 m_Machine_returned
def m_Machine_thrown (g_found_in : List Da → Mo Da) : Sl → Mo Fl := (mSeq (whileF (tst (e2 (isE true) (eFld ["Machine"] "frames" (eVar 0)) (eL (lDisp aNil)))) (mSeq (mSet 3 (e2 ixD (eFld ["Machine"] "frames" (eVar 0)) (e1 negD (eC (.int 1))))) (mSeq (mFor (iV (eCall (fun ds => ar 2 g_found_in (ds ++ [])) (aCons (eFld ["Machine"] "table" (eVar 0)) (aCons (eFld ["Frame"] "place" (eVar 3)) aNil)))) (gT 3 (gsC (gN 4) (gsC (gN 5) (gsC (gN 6) gsN)))) (mIf (tOr_ (tst (e2 (isB false) (eVar 4) (eC (.non)))) (tst (e2 eqD (eVar 4) (eVar 1)))) (mSeq (mFld ["Frame"] "stack" (eH (lDisp (aCons (eVar 2) aNil))) (eVar 3)) (mSeq (mFld ["Frame"] "kind" (eVar 1) (eVar 3)) (mSeq (mFld ["Frame"] "place" (eVar 5) (eVar 3)) mRetN))) mNil)) (mExpr (ePop (eFld ["Machine"] "frames" (eVar 0)))))) 1000000) (mFld ["Machine"] "end" (eTup (aCons (eC (.str "throw")) (aCons (eVar 1) (aCons (eVar 2) aNil)))) (eVar 0)))
def f_Machine_thrown : List Da → Mo Da := fnM 7 (m_Machine_thrown f_found_in)
def m_Machine___init__ (g_look_code g_look_table g_look_number g_is_whole g_ranges g_Frame___init__ : List Da → Mo Da) : Sl → Mo Fl := (mSeq (mExpr (eCall (fun ds => ar 1 g_look_code (ds ++ [])) (aCons (eVar 1) aNil))) (mSeq (mIf (tst (e2 (isB true) (eVar 2) (eC (.non)))) (mExpr (eCall (fun ds => ar 1 g_look_table (ds ++ [])) (aCons (eVar 2) aNil))) mNil) (mSeq (mExpr (eCall (fun ds => ar 3 g_look_number (ds ++ [])) (aCons (eVar 3) (aCons (eC (.int 0)) (aCons (e2 subD (eCall (one lenD) (aCons (eFld ["Code"] "entries" (eVar 1)) aNil)) (eC (.int 1))) aNil))))) (mSeq (mSet 5 (vAnd (e1 (isTT [.list, .tuple]) (eVar 4)) (e2 eqD (eCall (one lenD) (aCons (eVar 4) aNil)) (e2 ixD (eFld ["Code"] "many" (eVar 1)) (eVar 3))))) (mSeq (mIf (tOr_ (tNot_ (tst (eVar 5))) (tNot_ (tst (eCall (one allD) (aCons (eL (lComp (iV (eVar 4)) (gN 6) tYes_ (eCall (fun ds => ar 3 g_is_whole (ds ++ [])) (aCons (eVar 6) (aCons (eC (.int 0)) (aCons (eC (.int 999)) aNil)))) [6])) aNil))))) (mRaise "BadNumber") mNil) (mSeq (mFld ["Machine"] "code" (eVar 1) (eVar 0)) (mSeq (mFld ["Machine"] "table" (eIf (tst (e2 (isB false) (eVar 2) (eC (.non)))) (eCall (fun ds => ar 1 g_ranges (ds ++ [])) (aCons (eVar 1) aNil)) (eL (lCall (one listD) (aCons (eVar 2) aNil)))) (eVar 0)) (mSeq (mFld ["Machine"] "frames" (eH (lDisp (aCons (eMake "Frame" (fun ds => ar 3 g_Frame___init__ ds) (fun ro => bnd ((aCons (e2 ixD (eFld ["Code"] "entries" (eVar 1)) (eVar 3)) (aCons (eH (l2 catL (eL (lCall (one listD) (aCons (eVar 4) aNil))) (eL (l2 repL (eL (lDisp (aCons (eC (.int 0)) aNil))) (e2 subD (e2 addD (eFld ["Code"] "boxes" (eVar 1)) (eC (.int 1))) (eCall (one lenD) (aCons (eVar 4) aNil))))))) aNil)) ro) fun ds => ret (ds ++ []))) aNil))) (eVar 0)) (mSeq (mFld ["Machine"] "tells" (eH (lDisp aNil)) (eVar 0)) (mSeq (mFld ["Machine"] "end" (eC (.non)) (eVar 0)) (mFld ["Machine"] "many" (eC (.int 0)) (eVar 0))))))))))))
def f_Machine___init__ : List Da → Mo Da := fnM 7 (m_Machine___init__ f_look_code f_look_table f_look_number f_is_whole f_ranges f_Frame___init__)
def m_Machine_plain (g_reckoned : List Da → Mo Da) : Sl → Mo Fl := (mSeq (mSet 5 (eFld ["Frame"] "stack" (eVar 1))) (mIf (tst (e2 eqD (eVar 2) (eC (.str "push")))) (mExpr (eApp (eVar 5) (eVar 3))) (mIf (tst (e2 eqD (eVar 2) (eC (.str "load")))) (mExpr (eApp (eVar 5) (e2 ixD (eFld ["Code", "Frame"] "boxes" (eVar 1)) (eVar 3)))) (mIf (tst (e2 eqD (eVar 2) (eC (.str "store")))) (mSetI (ePop (eVar 5)) (eFld ["Code", "Frame"] "boxes" (eVar 1)) (eVar 3)) (mIf (tst (e2 eqD (eVar 2) (eC (.str "out")))) (mExpr (eApp (eFld ["Machine"] "tells" (eVar 0)) (ePop (eVar 5)))) (mIf (tst (e2 eqD (eVar 2) (eC (.str "count")))) (mAugI (eFld ["Code", "Frame"] "boxes" (eVar 1)) (eVar 3) (fun i j => i - j) (eC (.int 1))) (mIf (tst (e2 eqD (eVar 2) (eC (.str "keep")))) (mSeq (mSetI (ePop (eVar 5)) (eFld ["Code", "Frame"] "boxes" (eVar 1)) (eVar 3)) (mSetI (eFld ["Frame"] "kind" (eVar 1)) (eFld ["Code", "Frame"] "boxes" (eVar 1)) (eVar 4))) (mSeq (mSet 6 (ePop (eVar 5))) (mExpr (eApp (eVar 5) (eCall (fun ds => ar 3 g_reckoned (ds ++ [])) (aCons (eVar 3) (aCons (ePop (eVar 5)) (aCons (eVar 6) aNil))))))))))))))
def f_Machine_plain : List Da → Mo Da := fnM 7 (m_Machine_plain f_reckoned)
def m_Machine_throws (g_Machine_instruction g_reckoned : List Da → Mo Da) : Sl → Mo Fl := (mSeq (mTgt (gT 3 (gsC (gN 1) (gsC (gN 2) (gsC (gN 3) gsN)))) (eMeth "Machine" "instruction" (fun ds => ar 1 g_Machine_instruction (ds ++ [])) (eVar 0) aNil)) (mSeq (mSet 4 (e2 ixD (eFld ["Machine"] "frames" (eVar 0)) (e1 negD (eC (.int 1))))) (mSeq (mIf (tst (e2 eqD (eVar 1) (eC (.str "throw")))) (mRet (eTup (aCons (eVar 2) (aCons (e2 ixD (eFld ["Frame"] "stack" (eVar 4)) (e1 negD (eC (.int 1)))) aNil)))) mNil) (mSeq (mIf (tst (e2 eqD (eVar 1) (eC (.str "rethrow")))) (mRet (eTup (aCons (e2 ixD (eFld ["Code", "Frame"] "boxes" (eVar 4)) (eVar 3)) (aCons (e2 ixD (eFld ["Code", "Frame"] "boxes" (eVar 4)) (eVar 2)) aNil)))) mNil) (mSeq (mIf (tAnd_ (tst (e2 eqD (eVar 1) (eC (.str "sign")))) (tst (e2 (isB false) (eCall (fun ds => ar 3 g_reckoned (ds ++ [])) (aCons (eVar 2) (aCons (e2 ixD (eFld ["Frame"] "stack" (eVar 4)) (e1 negD (eC (.int 2)))) (aCons (e2 ixD (eFld ["Frame"] "stack" (eVar 4)) (e1 negD (eC (.int 1)))) aNil)))) (eC (.non))))) (mRet (eTup (aCons (eC (.int 0)) (aCons (e2 ixD (eFld ["Frame"] "stack" (eVar 4)) (e1 negD (eC (.int 2)))) aNil)))) mNil) (mRet (eC (.non))))))))
def f_Machine_throws : List Da → Mo Da := fnM 5 (m_Machine_throws f_Machine_instruction f_reckoned)
def m_Machine_step (g_Machine_instruction g_Machine_throws g_Machine_thrown g_Frame___init__ g_Machine_returned g_Machine_plain : List Da → Mo Da) : Sl → Mo Fl := (mSeq (mTgt (gT 3 (gsC (gN 1) (gsC (gN 2) (gsC (gN 3) gsN)))) (eMeth "Machine" "instruction" (fun ds => ar 1 g_Machine_instruction (ds ++ [])) (eVar 0) aNil)) (mSeq (mFldAug "Machine" "many" (fun i j => i + j) (eVar 0) (eC (.int 1))) (mSeq (mSet 4 (eMeth "Machine" "throws" (fun ds => ar 1 g_Machine_throws (ds ++ [])) (eVar 0) aNil)) (mSeq (mIf (tst (e2 (isB true) (eVar 4) (eC (.non)))) (mSeq (mExpr (eMeth "Machine" "thrown" (fun ds => ar 3 g_Machine_thrown (ds ++ [])) (eVar 0) (aCons (e2 ixD (eVar 4) (eC (.int 0))) (aCons (e2 ixD (eVar 4) (eC (.int 1))) aNil)))) mRetN) mNil) (mSeq (mSet 5 (e2 ixD (eFld ["Machine"] "frames" (eVar 0)) (e1 negD (eC (.int 1))))) (mIf (tst (e2 eqD (eVar 1) (eC (.str "call")))) (mSeq (mSet 6 (eSl slA (eFld ["Frame"] "stack" (eVar 5)) (soP (e2 subD (eCall (one lenD) (aCons (eFld ["Frame"] "stack" (eVar 5)) aNil)) (eVar 3))) noP)) (mSeq (mFld ["Frame"] "stack" (eH (lSl (eFld ["Frame"] "stack" (eVar 5)) noP (soP (e2 subD (eCall (one lenD) (aCons (eFld ["Frame"] "stack" (eVar 5)) aNil)) (eVar 3))))) (eVar 5)) (mExpr (eApp (eFld ["Machine"] "frames" (eVar 0)) (eMake "Frame" (fun ds => ar 3 g_Frame___init__ ds) (fun ro => bnd ((aCons (eVar 2) (aCons (eH (l2 catL (eVar 6) (eL (l2 repL (eL (lDisp (aCons (eC (.int 0)) aNil))) (e2 subD (e2 addD (eFld ["Code", "Frame"] "boxes" (eFld ["Machine"] "code" (eVar 0))) (eC (.int 1))) (eVar 3)))))) aNil)) ro) fun ds => ret (ds ++ []))))))) (mIf (tst (e2 eqD (eVar 1) (eC (.str "return")))) (mExpr (eMeth "Machine" "returned" (fun ds => ar 2 g_Machine_returned (ds ++ [])) (eVar 0) (aCons (ePop (eFld ["Frame"] "stack" (eVar 5))) aNil))) (mIf (tst (e2 eqD (eVar 1) (eC (.str "jump")))) (mFld ["Frame"] "place" (eVar 2) (eVar 5)) (mIf (tst (e2 eqD (eVar 1) (eC (.str "unless")))) (mFld ["Frame"] "place" (eIf (tst (e2 eqD (ePop (eFld ["Frame"] "stack" (eVar 5))) (eC (.int 0)))) (eVar 2) (e2 addD (eFld ["Frame"] "place" (eVar 5)) (eC (.int 1)))) (eVar 5)) (mSeq (mExpr (eMeth "Machine" "plain" (fun ds => ar 5 g_Machine_plain (ds ++ [])) (eVar 0) (aCons (eVar 5) (aCons (eVar 1) (aCons (eVar 2) (aCons (eVar 3) aNil)))))) (mFldAug "Frame" "place" (fun i j => i + j) (eVar 5) (eC (.int 1)))))))))))))
def f_Machine_step : List Da → Mo Da := fnM 7 (m_Machine_step f_Machine_instruction f_Machine_throws f_Machine_thrown f_Frame___init__ f_Machine_returned f_Machine_plain)
end CL
namespace CL
open PySem PySem.Spec L2
def m__law_town : Sl → Mo Fl := (mRet (eH (lDisp (aCons (eIf (tst (e2 neD (eVar 0) (eL (lDisp aNil)))) (eH (lCall (one listD) (aCons (eVar 0) aNil))) (eH (lDisp (aCons (eC (.int 0)) aNil)))) (aCons (eC (.int 0)) aNil)))))
def f__law_town : List Da → Mo Da := fnM 1 m__law_town
end CL
namespace CL
open PySem PySem.Spec L2
def g_Machine___init___table_ {α : Type} (us ms ws : List α) : List α := us ++ (match ms, ws with | [m0, m1], [w0] => [w0, m0, m1] | _, _ => [])
def gD_Machine___init___table (ds es : List Da) : List Da := g_Machine___init___table_ ds [(.int 0), (.tup [])] es
end CL
namespace CL
open PySem PySem.Spec L2
def g_Machine___init___table_goal_worths_ {α : Type} (us ms ws : List α) : List α := us ++ (match ms, ws with | [], [w0, w1, w2] => [w0, w1, w2] | _, _ => [])
def gD_Machine___init___table_goal_worths (ds es : List Da) : List Da := g_Machine___init___table_goal_worths_ ds [] es
end CL
namespace CL
open PySem PySem.Spec L2
def g_Machine_run_most_ {α : Type} (us ms ws : List α) : List α := us ++ (match ms, ws with | [], [w0] => [w0] | _, _ => [])
def gD_Machine_run_most (ds es : List Da) : List Da := g_Machine_run_most_ ds [] es
end CL
namespace CL
open PySem PySem.Spec L2
def g_done_table_ {α : Type} (us ms ws : List α) : List α := us ++ (match ms, ws with | [m0, m1, m2], [w0] => [w0, m0, m1, m2] | _, _ => [])
def gD_done_table (ds es : List Da) : List Da := g_done_table_ ds [(.int 100000), (.int 0), (.tup [])] es
end CL
namespace CL
open PySem PySem.Spec L2
def g_laid_order_ {α : Type} (us ms ws : List α) : List α := us ++ (match ms, ws with | [], [w0] => [w0] | _, _ => [])
def gD_laid_order (ds es : List Da) : List Da := g_laid_order_ ds [] es
end CL
namespace CL
open PySem PySem.Spec L2
def m_Code_look_place (g_is_whole : List Da → Mo Da) : Sl → Mo Fl := (mIf (tNot_ (tst (eCall (fun ds => ar 3 g_is_whole (ds ++ [])) (aCons (eVar 1) (aCons (eC (.int 0)) (aCons (e2 subD (eCall (one lenD) (aCons (eFld ["Code"] "rows" (eVar 0)) aNil)) (eC (.int 1))) aNil)))))) (mRaise1 "NoPlace" (eVar 1)) mNil)
def f_Code_look_place : List Da → Mo Da := fnM 2 (m_Code_look_place f_is_whole)
end CL
namespace CL
open PySem PySem.Spec L2
def m_Code_caught_by (g_Code_look_place : List Da → Mo Da) : Sl → Mo Fl := (mSeq (mExpr (eMeth "Code" "look_place" (fun ds => ar 2 g_Code_look_place (ds ++ [])) (eVar 0) (aCons (eVar 1) aNil))) (mRet (e2 ixD (eFld ["Code"] "catchers" (eVar 0)) (eVar 1))))
def f_Code_caught_by : List Da → Mo Da := fnM 2 (m_Code_caught_by f_Code_look_place)
end CL
namespace CL
open PySem PySem.Spec L2
def m_Code_size : Sl → Mo Fl := (mRet (eTup (aCons (eCall (one lenD) (aCons (eFld ["Code"] "rows" (eVar 0)) aNil)) (aCons (eFld ["Code"] "warm" (eVar 0)) aNil))))
def f_Code_size : List Da → Mo Da := fnM 1 m_Code_size
end CL
namespace CL
open PySem PySem.Spec L2
def m_Machine_depth : Sl → Mo Fl := (mRet (eCall (one lenD) (aCons (eFld ["Machine"] "frames" (eVar 0)) aNil)))
def f_Machine_depth : List Da → Mo Da := fnM 1 m_Machine_depth
end CL
namespace CL
open PySem PySem.Spec L2
def m_Machine_outcome : Sl → Mo Fl := (mRet (eTup (aCons (eFld ["Machine"] "end" (eVar 0)) (aCons (eH (lCall (one listD) (aCons (eFld ["Machine"] "tells" (eVar 0)) aNil))) aNil))))
def f_Machine_outcome : List Da → Mo Da := fnM 1 m_Machine_outcome
end CL
namespace CL
open PySem PySem.Spec L2
def m_Machine_run (g_look_number g_Machine_step : List Da → Mo Da) : Sl → Mo Fl := (mSeq (mExpr (eCall (fun ds => ar 3 g_look_number (ds ++ [])) (aCons (eVar 1) (aCons (eC (.int 0)) (aCons (eC (.int 100000)) aNil))))) (mSeq (whileF (tst (e2 (isB false) (eFld ["Machine"] "end" (eVar 0)) (eC (.non)))) (mSeq (mIf (tst (e2 geD (eFld ["Machine"] "many" (eVar 0)) (eVar 1))) (mRaise "Stuck") mNil) (mExpr (eMeth "Machine" "step" (fun ds => ar 1 g_Machine_step (ds ++ [])) (eVar 0) aNil))) 1000000) (mRet (eFld ["Machine"] "many" (eVar 0)))))
def f_Machine_run : List Da → Mo Da := fnM 2 (m_Machine_run f_look_number f_Machine_step)
end CL
namespace CL
open PySem PySem.Spec L2
def m_Machine_search (g_Machine_instruction g_found_in : List Da → Mo Da) : Sl → Mo Fl := (mSeq (mExpr (eMeth "Machine" "instruction" (fun ds => ar 1 g_Machine_instruction (ds ++ [])) (eVar 0) aNil)) (mSeq (mFor (iR3 (aCons (e2 subD (eCall (one lenD) (aCons (eFld ["Machine"] "frames" (eVar 0)) aNil)) (eC (.int 1))) (aCons (e1 negD (eC (.int 1))) (aCons (e1 negD (eC (.int 1))) aNil)))) (gN 2) (mFor (iV (eCall (fun ds => ar 2 g_found_in (ds ++ [])) (aCons (eFld ["Machine"] "table" (eVar 0)) (aCons (eFld ["Frame"] "place" (e2 ixD (eFld ["Machine"] "frames" (eVar 0)) (eVar 2))) aNil)))) (gT 3 (gsC (gN 3) (gsC (gN 4) (gsC (gN 5) gsN)))) (mIf (tAnd_ (tNot_ (tst (eVar 5))) (tOr_ (tst (e2 (isB false) (eVar 3) (eC (.non)))) (tst (e2 eqD (eVar 3) (eVar 1))))) (mRet (eTup (aCons (eVar 2) (aCons (eVar 4) aNil)))) mNil))) (mRet (eC (.non)))))
def f_Machine_search : List Da → Mo Da := fnM 6 (m_Machine_search f_Machine_instruction f_found_in)
end CL
namespace CL
open PySem PySem.Spec L2
def m_Machine_steps : Sl → Mo Fl := (mRet (eFld ["Machine"] "many" (eVar 0)))
def f_Machine_steps : List Da → Mo Da := fnM 1 m_Machine_steps
end CL
namespace CL
open PySem PySem.Spec L2
def m_Machine_where (g_Machine_instruction : List Da → Mo Da) : Sl → Mo Fl := (mSeq (mExpr (eMeth "Machine" "instruction" (fun ds => ar 1 g_Machine_instruction (ds ++ [])) (eVar 0) aNil)) (mRet (eFld ["Frame"] "place" (e2 ixD (eFld ["Machine"] "frames" (eVar 0)) (e1 negD (eC (.int 1)))))))
def f_Machine_where : List Da → Mo Da := fnM 1 (m_Machine_where f_Machine_instruction)
end CL
namespace CL
open PySem PySem.Spec L2
def m__law_over (g_Machine_step g_Machine_where g_Machine_throws g_Machine_search : List Da → Mo Da) : Sl → Mo Fl := (mSeq (mIf (tst (e2 eqD (eVar 0) (eC (.int 9)))) (mRet (eMeth "Machine" "step" (fun ds => ar 1 g_Machine_step (ds ++ [])) (eVar 1) aNil)) mNil) (mSeq (mIf (tst (e2 eqD (eVar 0) (eC (.int 10)))) (mRet (eMeth "Machine" "where" (fun ds => ar 1 g_Machine_where (ds ++ [])) (eVar 1) aNil)) mNil) (mRet (eIf (tst (e2 eqD (eVar 0) (eC (.int 11)))) (eMeth "Machine" "throws" (fun ds => ar 1 g_Machine_throws (ds ++ [])) (eVar 1) aNil) (eMeth "Machine" "search" (fun ds => ar 2 g_Machine_search (ds ++ [])) (eVar 1) (aCons (eC (.int 0)) aNil))))))
def f__law_over : List Da → Mo Da := fnM 2 (m__law_over f_Machine_step f_Machine_where f_Machine_throws f_Machine_search)
end CL
namespace CL
open PySem PySem.Spec L2
def m_done (g_Machine___init__ g_Machine_run g_Machine_outcome : List Da → Mo Da) : Sl → Mo Fl := (mSeq (mSet 5 (eMakeK "Machine" (fun ds => ar 5 g_Machine___init__ ds) 1 3 gD_Machine___init___table_goal_worths (aCons (eVar 0) aNil) (aCons (eVar 1) (aCons (eVar 3) (aCons (eVar 4) aNil))))) (mSeq (mExpr (eMethK "Machine" "run" (fun ds => ar 2 g_Machine_run ds) 0 1 gD_Machine_run_most (eVar 5) aNil (aCons (eVar 2) aNil))) (mRet (eMeth "Machine" "outcome" (fun ds => ar 1 g_Machine_outcome (ds ++ [])) (eVar 5) aNil))))
def f_done : List Da → Mo Da := fnM 6 (m_done f_Machine___init__ f_Machine_run f_Machine_outcome)
end CL
namespace CL
open PySem PySem.Spec L2
def m_found_at (g_look_table g_is_whole g_found_in : List Da → Mo Da) : Sl → Mo Fl := (mSeq (mExpr (eCall (fun ds => ar 1 g_look_table (ds ++ [])) (aCons (eVar 0) aNil))) (mSeq (mIf (tNot_ (tst (eCall (fun ds => ar 3 g_is_whole (ds ++ [])) (aCons (eVar 1) (aCons (eC (.int 0)) (aCons (eC (.int 100000)) aNil)))))) (mRaise "BadTable") mNil) (mRet (eCall (fun ds => ar 2 g_found_in (ds ++ [])) (aCons (eVar 0) (aCons (eVar 1) aNil))))))
def f_found_at : List Da → Mo Da := fnM 2 (m_found_at f_look_table f_is_whole f_found_in)
end CL
namespace CL
open PySem PySem.Spec L2
def m_listing (g_look_code : List Da → Mo Da) : Sl → Mo Fl := (mSeq (mExpr (eCall (fun ds => ar 1 g_look_code (ds ++ [])) (aCons (eVar 0) aNil))) (mSeq (mSet 1 (eH (lDisp aNil))) (mSeq (mFor (iE (aCons (eFld ["Code"] "rows" (eVar 0)) aNil)) (gT 2 (gsC (gN 2) (gsC (gT 3 (gsC (gN 3) (gsC (gN 4) (gsC (gN 5) gsN)))) gsN))) (mSeq (mSet 6 (eL (lComp (iV (eTup (aCons (eVar 4) (aCons (eVar 5) aNil)))) (gN 7) (tst (e2 (isB true) (eVar 7) (eC (.non)))) (fun _ => nop) [7]))) (mExpr (eApp (eVar 1) (fun _ => nop))))) (mRet (eF (eVar 1))))))
def f_listing : List Da → Mo Da := fnM 8 (m_listing f_look_code)
end CL
namespace CL
open PySem PySem.Spec L2
def m_chains_of : Sl → Mo Fl := (mSeq (mSet 1 (eH (lDisp aNil))) (mSeq (mFor (iV (eVar 0)) (gT 3 (gsC (gN 2) (gsC (gN 3) (gsC (gN 4) gsN)))) (mIf (tst (e2 (inU true) (eVar 4) (eVar 1))) (mExpr (eApp (eVar 1) (eVar 4))) mNil)) (mRet (eF (eVar 1)))))
def f_chains_of : List Da → Mo Da := fnM 5 m_chains_of
end CL
namespace CL
open PySem PySem.Spec L2
def m_packed (g_look_table g_chains_of : List Da → Mo Da) : Sl → Mo Fl := (mSeq (mExpr (eCall (fun ds => ar 1 g_look_table (ds ++ [])) (aCons (eVar 0) aNil))) (mSeq (mSet 1 (eCall (fun ds => ar 1 g_chains_of (ds ++ [])) (aCons (eVar 0) aNil))) (mSeq (mSet 2 (fun _ => nop)) (mSeq (mFor (iV (eVar 1)) (gN 3) (mSeq (mAug 2 (fun i j => i + j) (fun _ => nop)) (mFor (iV (eVar 3)) (gT 3 (gsC (gN 7) (gsC (gN 8) (gsC (gN 9) gsN)))) (mSeq (mSet 10 (eIf (tst (e2 (isB false) (eVar 7) (eC (.non)))) (eC (.int 0)) (e2 addD (eVar 7) (eC (.int 1))))) (mAug 2 (fun i j => i + j) (fun _ => nop)))))) (mSeq (mAug 2 (fun i j => i + j) (fun _ => nop)) (mSeq (mSet 4 (eC (.int 0))) (mSeq (mFor (iV (eVar 0)) (gT 3 (gsC (gN 5) (gsC (gN 6) (gsC (gN 3) gsN)))) (mSeq (mAug 2 (fun i j => i + j) (fun _ => nop)) (mSet 4 (eVar 6)))) (mRet (eVar 2)))))))))
def f_packed : List Da → Mo Da := fnM 11 (m_packed f_look_table f_chains_of)
end CL
namespace CL
open PySem PySem.Spec L2
def m_table_text (g_look_table : List Da → Mo Da) : Sl → Mo Fl := (mSeq (mExpr (eCall (fun ds => ar 1 g_look_table (ds ++ [])) (aCons (eVar 0) aNil))) (mSeq (mSet 1 (eH (lDisp aNil))) (mSeq (mFor (iV (eVar 0)) (gT 3 (gsC (gN 2) (gsC (gN 3) (gsC (gN 4) gsN)))) (mExpr (eApp (eVar 1) (fun _ => nop)))) (mRet (fun _ => nop)))))
def f_table_text : List Da → Mo Da := fnM 6 (m_table_text f_look_table)
end CL
namespace CL
open PySem PySem.Spec L2
def m__law_does (g_Machine___init__ g_done g_ranges g_listing g_found_at g_packed g_table_text g_Machine_run g_Code_caught_by g__law_over : List Da → Mo Da) : Sl → Mo Fl := (mSeq (mIf (tst (e2 eqD (eVar 0) (eC (.int 0)))) (mRet (eMakeK "Machine" (fun ds => ar 5 g_Machine___init__ ds) 1 1 gD_Machine___init___table (aCons (eVar 1) aNil) (aCons (eVar 2) aNil))) mNil) (mSeq (mIf (tst (e2 eqD (eVar 0) (eC (.int 1)))) (mRet (eCallK (fun ds => ar 5 g_done ds) 1 1 gD_done_table (aCons (eVar 1) aNil) (aCons (eVar 2) aNil))) mNil) (mSeq (mIf (tst (e2 eqD (eVar 0) (eC (.int 2)))) (mRet (eCall (fun ds => ar 1 g_ranges (ds ++ [])) (aCons (eVar 1) aNil))) mNil) (mSeq (mIf (tst (e2 eqD (eVar 0) (eC (.int 3)))) (mRet (eCall (fun ds => ar 1 g_listing (ds ++ [])) (aCons (eVar 1) aNil))) mNil) (mSeq (mIf (tst (e2 eqD (eVar 0) (eC (.int 4)))) (mRet (eCall (fun ds => ar 2 g_found_at (ds ++ [])) (aCons (eVar 1) (aCons (eVar 2) aNil)))) mNil) (mSeq (mIf (tst (e2 eqD (eVar 0) (eC (.int 5)))) (mRet (eCall (fun ds => ar 1 g_packed (ds ++ [])) (aCons (eVar 1) aNil))) mNil) (mSeq (mIf (tst (e2 eqD (eVar 0) (eC (.int 6)))) (mRet (eCall (fun ds => ar 1 g_table_text (ds ++ [])) (aCons (eVar 1) aNil))) mNil) (mSeq (mIf (tst (e2 eqD (eVar 0) (eC (.int 7)))) (mRet (eMethK "Machine" "run" (fun ds => ar 2 g_Machine_run ds) 0 1 gD_Machine_run_most (eVar 1) aNil (aCons (eVar 2) aNil))) mNil) (mRet (eIf (tst (e2 eqD (eVar 0) (eC (.int 8)))) (eMeth "Code" "caught_by" (fun ds => ar 2 g_Code_caught_by (ds ++ [])) (eVar 1) (aCons (eVar 2) aNil)) (eCall (fun ds => ar 2 g__law_over (ds ++ [])) (aCons (eVar 0) (aCons (eVar 1) aNil)))))))))))))
def f__law_does : List Da → Mo Da := fnM 3 (m__law_does f_Machine___init__ f_done f_ranges f_listing f_found_at f_packed f_table_text f_Machine_run f_Code_caught_by f__law_over)
end CL
namespace CL
open PySem PySem.Spec L2
def m__law_refusal : Sl → Mo Fl := (mSeq (mSet 1 (eL (lDisp (aCons (e1 (isX [("LaneError", false), ("BadNumber", true), ("BadTree", false), ("BadOrder", false), ("BadTable", false), ("Stuck", false), ("Over", false), ("BadText", false)]) (eVar 0)) (aCons (e1 (isX [("LaneError", false), ("BadNumber", false), ("BadTree", true), ("BadOrder", false), ("BadTable", false), ("Stuck", false), ("Over", false), ("BadText", false)]) (eVar 0)) (aCons (e1 (isX [("LaneError", false), ("BadNumber", false), ("BadTree", false), ("BadOrder", true), ("BadTable", false), ("Stuck", false), ("Over", false), ("BadText", false)]) (eVar 0)) aNil)))))) (mSeq (mSet 1 (eL (l2 catL (eVar 1) (eL (lDisp (aCons (e1 (isX [("LaneError", false), ("BadNumber", false), ("BadTree", false), ("BadOrder", false), ("BadTable", true), ("Stuck", false), ("Over", false), ("BadText", false)]) (eVar 0)) (aCons (e1 (isX [("LaneError", false), ("BadNumber", false), ("BadTree", false), ("BadOrder", false), ("BadTable", false), ("Stuck", false), ("Over", false), ("BadText", false)]) (eVar 0)) (aCons (e1 (isX [("LaneError", false), ("BadNumber", false), ("BadTree", false), ("BadOrder", false), ("BadTable", false), ("Stuck", true), ("Over", false), ("BadText", false)]) (eVar 0)) aNil)))))))) (mSeq (mSet 1 (eL (l2 catL (eVar 1) (eL (lDisp (aCons (e1 (isX [("LaneError", false), ("BadNumber", false), ("BadTree", false), ("BadOrder", false), ("BadTable", false), ("Stuck", false), ("Over", true), ("BadText", false)]) (eVar 0)) (aCons (e1 (isX [("LaneError", false), ("BadNumber", false), ("BadTree", false), ("BadOrder", false), ("BadTable", false), ("Stuck", false), ("Over", false), ("BadText", true)]) (eVar 0)) aNil))))))) (mSeq (mIf (tOr_ (tst (e2 neD (eCount (eVar 1) (eC (.bl true))) (eC (.int 1)))) (tOr_ (tNot_ (tst (e1 (isX [("LaneError", true), ("BadNumber", true), ("BadTree", true), ("BadOrder", true), ("BadTable", true), ("Stuck", true), ("Over", true), ("BadText", true)]) (eVar 0)))) (tNot_ (tst (e1 (isX [("LaneError", true), ("BadNumber", true), ("BadTree", true), ("BadOrder", true), ("BadTable", true), ("Stuck", true), ("Over", true), ("BadText", true)]) (eVar 0)))))) (mRet (eC (.str "odd"))) mNil) (mRet (e2 ixD (eL (lDisp (aCons (eC (.str "number")) (aCons (eC (.str "tree")) (aCons (eC (.str "order")) (aCons (eC (.str "table")) (aCons (eC (.str "place")) (aCons (eC (.str "stuck")) (aCons (eC (.str "over")) (aCons (eC (.str "text")) aNil)))))))))) (eIndex (eVar 1) (eC (.bl true)))))))))
def f__law_refusal : List Da → Mo Da := fnM 2 m__law_refusal
end CL
namespace CL
open PySem PySem.Spec L2
def m__law_asked (g__law_does g__law_refusal : List Da → Mo Da) : Sl → Mo Fl := (mSeq (mSet 3 (eC (.non))) (mSeq (mSet 4 (eC (.non))) (mSeq (mTry2 "NoPlace" "place" ["LaneError", "BadNumber", "BadTree", "BadOrder", "BadTable", "Stuck", "Over", "BadText"] 5 4 3 (mExpr (eCall (fun ds => ar 3 g__law_does (ds ++ [])) (aCons (eVar 0) (aCons (eVar 1) (aCons (eVar 2) aNil)))))) (mRet (eIf (tst (e2 (isB false) (eVar 3) (eC (.non)))) (eC (.str "told")) (eIf (tst (e2 (isB false) (eVar 4) (eC (.non)))) (eCall (fun ds => ar 1 g__law_refusal (ds ++ [])) (aCons (eVar 3) aNil)) (eVar 4)))))))
def f__law_asked : List Da → Mo Da := fnM 6 (m__law_asked f__law_does f__law_refusal)
end CL
namespace CL
open PySem PySem.Spec L2
def m_steps_of (g_Machine___init__ g_laid g_Machine_run : List Da → Mo Da) : Sl → Mo Fl := (mSeq (mSet 2 (eMake "Machine" (fun ds => ar 5 g_Machine___init__ ds) (fun ro => bnd ((aCons (eCallK (fun ds => ar 2 g_laid ds) 1 1 gD_laid_order (aCons (eVar 0) aNil) (aCons (eVar 1) aNil)) aNil) ro) fun ds => ret (ds ++ [(.non), (.int 0), (.tup [])])))) (mRet (eMeth "Machine" "run" (fun ds => ar 2 g_Machine_run (ds ++ [(.int 100000)])) (eVar 2) aNil)))
def f_steps_of : List Da → Mo Da := fnM 3 (m_steps_of f_Machine___init__ f_laid f_Machine_run)
end CL
namespace CL
open PySem PySem.Spec L2
def m_law (g__law_town g_laid g__law_asked g_Machine___init__ g_Code_size g_steps_of g_Machine_steps g_Machine_outcome g_Machine_run g_Machine_depth : List Da → Mo Da) : Sl → Mo Fl := (mSeq (mSet 1 (eCall (fun ds => ar 1 g__law_town (ds ++ [])) (aCons (eVar 0) aNil))) (mSeq (mSet 2 (eCall (fun ds => ar 2 g_laid (ds ++ [(.non)])) (aCons (eL (lDisp (aCons (eTup (aCons (eC (.int 0)) (aCons (eL (lDisp (aCons (eTup (aCons (eC (.str "loop")) (aCons (eC (.int 4)) (aCons (eL (lDisp (aCons (eTup (aCons (eC (.str "out")) (aCons (eC (.int 1)) aNil))) aNil))) aNil)))) aNil))) aNil))) aNil))) aNil))) (mSeq (mSet 3 (eTup (aCons (eTup (aCons (eC (.non)) (aCons (eC (.int 5)) (aCons (eC (.bl false)) aNil)))) aNil))) (mSeq (mSet 4 (eL (lDisp (aCons (eC (.int 5)) (aCons (eTup aNil) (aCons (eL (lDisp (aCons (eTup (aCons (eC (.int 0)) (aCons (eC (.int 1)) aNil))) aNil))) (aCons (eL (lDisp (aCons (eL (lDisp (aCons (eC (.int 0)) (aCons (eC (.int 1)) (aCons (eVar 3) aNil))))) aNil))) (aCons (eL (lDisp (aCons (eTup (aCons (eC (.int 1)) (aCons (eC (.int 1)) (aCons (eVar 3) aNil)))) aNil))) (aCons (eL (lDisp (aCons (eTup (aCons (eC (.int 0)) (aCons (eC (.int 2)) (aCons (eVar 3) aNil)))) (aCons (eTup (aCons (eC (.int 1)) (aCons (eC (.int 3)) (aCons (eVar 3) aNil)))) aNil)))) (aCons (eL (lDisp (aCons (eTup (aCons (eC (.int 0)) (aCons (eC (.int 1)) (aCons (eTup aNil) aNil)))) aNil))) (aCons (eL (lDisp (aCons (eTup (aCons (eC (.int 0)) (aCons (eC (.int 1)) (aCons (eTup (aCons (eTup (aCons (eC (.int 5)) (aCons (eC (.int 0)) (aCons (eC (.bl false)) aNil)))) aNil)) aNil)))) aNil))) aNil))))))))))) (mSeq (mSet 4 (eL (l2 catL (eVar 4) (eL (lDisp (aCons (eL (lDisp (aCons (eTup (aCons (eC (.int 0)) (aCons (eC (.int 1)) (aCons (eTup (aCons (eTup (aCons (eC (.non)) (aCons (eC (.int 5)) (aCons (eC (.int 1)) aNil)))) aNil)) aNil)))) aNil))) (aCons (eL (lDisp (aCons (eTup (aCons (eC (.int 0)) (aCons (eC (.int 100001)) (aCons (eVar 3) aNil)))) aNil))) (aCons (eL (lDisp (aCons (eTup (aCons (eC (.bl true)) (aCons (eC (.int 2)) (aCons (eVar 3) aNil)))) aNil))) (aCons (eL (lDisp (aCons (eTup (aCons (eC (.int 0)) (aCons (eC (.int 1)) (aCons (eL (lDisp (aCons (eTup (aCons (eC (.non)) (aCons (eC (.int 5)) (aCons (eC (.bl false)) aNil)))) aNil))) aNil)))) aNil))) (aCons (eL (lDisp (aCons (eTup (aCons (eC (.int 0)) (aCons (eC (.int 1)) (aCons (eTup (aCons (eTup (aCons (eC (.non)) (aCons (eC (.int 5)) aNil))) aNil)) aNil)))) aNil))) aNil)))))))))) (mSeq (mFor (iV (eVar 4)) (gN 5) (mIf (tst (e2 neD (eL (l2 catL (eL (lComp (iR1 (aCons (eC (.int 2)) aNil)) (gN 9) tYes_ (eCall (fun ds => ar 3 g__law_asked (ds ++ [])) (aCons (eVar 9) (aCons (eVar 2) (aCons (eVar 5) aNil)))) [9])) (eL (lComp (iV (eL (lDisp (aCons (eC (.int 4)) (aCons (eC (.int 5)) (aCons (eC (.int 6)) aNil)))))) (gN 9) tYes_ (eCall (fun ds => ar 3 g__law_asked (ds ++ [])) (aCons (eVar 9) (aCons (eVar 5) (aCons (eC (.int 0)) aNil)))) [9])))) (eL (l2 repL (eL (lDisp (aCons (eC (.str "table")) aNil))) (eC (.int 5)))))) (mRet (eC (.bl false))) mNil)) (mSeq (mFor (iV (eL (lDisp (aCons (eC (.non)) (aCons (eC (.int 5)) (aCons (eL (lDisp aNil)) (aCons (eC (.str "code")) (aCons (eL (lDisp (aCons (eTup (aCons (eC (.int 0)) (aCons (eL (lDisp aNil)) aNil))) aNil))) aNil)))))))) (gN 5) (mIf (tst (e2 neD (eL (lComp (iR1 (aCons (eC (.int 4)) aNil)) (gN 9) tYes_ (eCall (fun ds => ar 3 g__law_asked (ds ++ [])) (aCons (eVar 9) (aCons (eVar 5) (aCons (eL (lDisp (aCons (eC (.int 5)) aNil))) aNil)))) [9])) (eL (l2 repL (eL (lDisp (aCons (eC (.str "table")) aNil))) (eC (.int 4)))))) (mRet (eC (.bl false))) mNil)) (mSeq (mFor (iV (eL (lDisp (aCons (e2 subD (eC (.int 0)) (eC (.int 1))) (aCons (eC (.int 100001)) (aCons (eC (.bl true)) (aCons (eC (.non)) (aCons (eC (.str "5")) aNil)))))))) (gN 5) (mIf (tOr_ (tst (e2 neD (eCall (fun ds => ar 3 g__law_asked (ds ++ [])) (aCons (eC (.int 4)) (aCons (eL (lDisp aNil)) (aCons (eVar 5) aNil)))) (eC (.str "table")))) (tst (e2 neD (eCall (fun ds => ar 3 g__law_asked (ds ++ [])) (aCons (eC (.int 7)) (aCons (eMake "Machine" (fun ds => ar 5 g_Machine___init__ ds) (fun ro => bnd ((aCons (eVar 2) aNil) ro) fun ds => ret (ds ++ [(.non), (.int 0), (.tup [])]))) (aCons (eVar 5) aNil)))) (eC (.str "number"))))) (mRet (eC (.bl false))) mNil)) (mSeq (mFor (iV (eL (lDisp (aCons (e2 subD (eC (.int 0)) (eC (.int 1))) (aCons (e2 ixD (eMeth "Code" "size" (fun ds => ar 1 g_Code_size (ds ++ [])) (eVar 2) aNil) (eC (.int 0))) (aCons (eC (.bl true)) (aCons (eC (.non)) (aCons (eC (.str "0")) aNil)))))))) (gN 5) (mIf (tst (e2 neD (eCall (fun ds => ar 3 g__law_asked (ds ++ [])) (aCons (eC (.int 8)) (aCons (eVar 2) (aCons (eVar 5) aNil)))) (eTup (aCons (eC (.str "place")) (aCons (eVar 5) aNil))))) (mRet (eC (.bl false))) mNil)) (mSeq (mSet 6 (eMake "Machine" (fun ds => ar 5 g_Machine___init__ ds) (fun ro => bnd ((aCons (eVar 2) aNil) ro) fun ds => ret (ds ++ [(.non), (.int 0), (.tup [])])))) (mSeq (mSet 7 (eCall (fun ds => ar 2 g_steps_of (ds ++ [(.non)])) (aCons (eL (lDisp (aCons (eTup (aCons (eC (.int 0)) (aCons (eL (lDisp (aCons (eTup (aCons (eC (.str "loop")) (aCons (eC (.int 4)) (aCons (eL (lDisp (aCons (eTup (aCons (eC (.str "out")) (aCons (eC (.int 1)) aNil))) aNil))) aNil)))) aNil))) aNil))) aNil))) aNil))) (mSeq (mIf (tOr_ (tst (e2 neD (eCall (fun ds => ar 3 g__law_asked (ds ++ [])) (aCons (eC (.int 7)) (aCons (eVar 6) (aCons (e2 subD (eVar 7) (eC (.int 1))) aNil)))) (eC (.str "stuck")))) (tOr_ (tst (e2 neD (eMeth "Machine" "steps" (fun ds => ar 1 g_Machine_steps (ds ++ [])) (eVar 6) aNil) (e2 subD (eVar 7) (eC (.int 1))))) (tst (e2 (isB true) (e2 ixD (eMeth "Machine" "outcome" (fun ds => ar 1 g_Machine_outcome (ds ++ [])) (eVar 6) aNil) (eC (.int 0))) (eC (.non)))))) (mRet (eC (.bl false))) mNil) (mSeq (mIf (tOr_ (tst (e2 neD (eCall (fun ds => ar 3 g__law_asked (ds ++ [])) (aCons (eC (.int 7)) (aCons (eVar 6) (aCons (e2 subD (eVar 7) (eC (.int 1))) aNil)))) (eC (.str "stuck")))) (tOr_ (tst (e2 neD (eMethK "Machine" "run" (fun ds => ar 2 g_Machine_run ds) 0 1 gD_Machine_run_most (eVar 6) aNil (aCons (eVar 7) aNil)) (eVar 7))) (tst (e2 neD (eMeth "Machine" "outcome" (fun ds => ar 1 g_Machine_outcome (ds ++ [])) (eVar 6) aNil) (eTup (aCons (eTup (aCons (eC (.str "return")) (aCons (eC (.int 0)) aNil))) (aCons (eL (lDisp (aCons (eC (.int 1)) (aCons (eC (.int 1)) (aCons (eC (.int 1)) (aCons (eC (.int 1)) aNil)))))) aNil))))))) (mRet (eC (.bl false))) mNil) (mSeq (mSet 8 (eL (lComp (iR2 (aCons (eC (.int 9)) (aCons (eC (.int 13)) aNil))) (gN 9) tYes_ (eCall (fun ds => ar 3 g__law_asked (ds ++ [])) (aCons (eVar 9) (aCons (eVar 6) (aCons (eC (.int 0)) aNil)))) [9]))) (mRet (vAnd (e2 eqD (eVar 8) (eL (l2 repL (eL (lDisp (aCons (eC (.str "over")) aNil))) (eC (.int 4))))) (vAnd (e2 eqD (eMeth "Machine" "run" (fun ds => ar 2 g_Machine_run (ds ++ [(.int 100000)])) (eVar 6) aNil) (eVar 7)) (vAnd (e2 eqD (eMeth "Machine" "depth" (fun ds => ar 1 g_Machine_depth (ds ++ [])) (eVar 6) aNil) (eC (.int 0))) (e2 eqD (eCall (fun ds => ar 3 g__law_asked (ds ++ [])) (aCons (eC (.int 7)) (aCons (eMake "Machine" (fun ds => ar 5 g_Machine___init__ ds) (fun ro => bnd ((aCons (eVar 2) aNil) ro) fun ds => ret (ds ++ [(.non), (.int 0), (.tup [])]))) (aCons (eC (.int 0)) aNil)))) (eC (.str "stuck")))))))))))))))))))))
def f_law : List Da → Mo Da := fnM 10 (m_law f__law_town f_laid f__law_asked f_Machine___init__ f_Code_size f_steps_of f_Machine_steps f_Machine_outcome f_Machine_run f_Machine_depth)
end CL
namespace CL
open PySem PySem.Spec L2
end CL
namespace CL
open PySem PySem.Spec L2
structure Tx (K : PySem.W.Frag) (mg : Str → Option Value) : Prop where
  n_ValueError : mg "ValueError" = none
  n_all : mg "all" = none
  n_bool : mg "bool" = none
  n_enumerate : mg "enumerate" = none
  n_int : mg "int" = none
  n_isinstance : mg "isinstance" = none
  n_len : mg "len" = none
  n_list : mg "list" = none
  n_max : mg "max" = none
  n_range : mg "range" = none
  n_sorted : mg "sorted" = none
  n_str : mg "str" = none
  n_tuple : mg "tuple" = none
  n_zip : mg "zip" = none
  c_MOST_VALUE : ∃ t, mg "MOST_VALUE" = some (.int 999 t)
  c_BOXES : ∃ t, mg "BOXES" = some (.int 8 t)
  c_KINDS : ∃ t, mg "KINDS" = some (.int 5 t)
  c_FAULT : ∃ t, mg "FAULT" = some (.int 0 t)
  c_MOST_FUNCTIONS : ∃ t, mg "MOST_FUNCTIONS" = some (.int 5 t)
  c_MOST_ROWS : ∃ t, mg "MOST_ROWS" = some (.int 8 t)
  c_MOST_DEEP : ∃ t, mg "MOST_DEEP" = some (.int 6 t)
  c_SIGNS : mg "SIGNS" = some (.ref (He.ga K "SIGNS"))
  r_SIGNS : ∀ w, Em K w → Rep K w (.ref (He.ga K "SIGNS")) (.tup [(.str "+"), (.str "-"), (.str "*"), (.str "/")])
  c_LONGS : mg "LONGS" = some (.ref (He.ga K "LONGS"))
  r_LONGS : ∀ w, Em K w → Rep K w (.ref (He.ga K "LONGS")) (.tup [(.tup [(.str "set"), (.int 3)]), (.tup [(.str "out"), (.int 2)]), (.tup [(.str "throw"), (.int 3)]), (.tup [(.str "call"), (.int 4)]), (.tup [(.str "if"), (.int 4)]), (.tup [(.str "loop"), (.int 3)]), (.tup [(.str "break"), (.int 1)]), (.tup [(.str "return"), (.int 2)]), (.tup [(.str "try"), (.int 4)])])
  c_HOT : ∃ t, mg "HOT" = some (.str "hot" t)
  c_COLD : ∃ t, mg "COLD" = some (.str "cold" t)
  c_ENDS : mg "ENDS" = some (.ref (He.ga K "ENDS"))
  r_ENDS : ∀ w, Em K w → Rep K w (.ref (He.ga K "ENDS")) (.tup [(.str "jump"), (.str "return"), (.str "throw"), (.str "rethrow")])
  c_GOALS : mg "GOALS" = some (.ref (He.ga K "GOALS"))
  r_GOALS : ∀ w, Em K w → Rep K w (.ref (He.ga K "GOALS")) (.tup [(.str "jump"), (.str "unless")])
  c_MOST_PLACE : ∃ t, mg "MOST_PLACE" = some (.int 100000 t)
  c_MOST_STEPS : ∃ t, mg "MOST_STEPS" = some (.int 100000 t)
  w_Machine___init___worths : ∀ w, Em K w → Rep K w (.ref (kwA ("Machine", some "__init__") "worths" K)) (.tup [])
  w_done_worths : ∀ w, Em K w → Rep K w (.ref (kwA ("done", none) "worths" K)) (.tup [])
  g_BadNumber : mg "BadNumber" = some (.ref (He.ga K "BadNumber"))
  g_BadOrder : mg "BadOrder" = some (.ref (He.ga K "BadOrder"))
  g_BadTable : mg "BadTable" = some (.ref (He.ga K "BadTable"))
  g_BadText : mg "BadText" = some (.ref (He.ga K "BadText"))
  g_BadTree : mg "BadTree" = some (.ref (He.ga K "BadTree"))
  g_LaneError : mg "LaneError" = some (.ref (He.ga K "LaneError"))
  g_NoPlace : mg "NoPlace" = some (.ref (He.ga K "NoPlace"))
  g_Over : mg "Over" = some (.ref (He.ga K "Over"))
  g_Stuck : mg "Stuck" = some (.ref (He.ga K "Stuck"))
  x_BadNumber : (He.Fa.exc "BadNumber").ok K = true
  x_BadOrder : (He.Fa.exc "BadOrder").ok K = true
  x_BadTable : (He.Fa.exc "BadTable").ok K = true
  x_BadTree : (He.Fa.exc "BadTree").ok K = true
  x_Over : (He.Fa.exc "Over").ok K = true
  x_Stuck : (He.Fa.exc "Stuck").ok K = true
  m_LaneError : ∀ c ∈ (["LaneError", "BadNumber", "BadTree", "BadOrder", "BadTable", "Stuck", "Over", "BadText"] : List Str), PySem.W.exmOne K (.ref (He.ga K c)) (.ref (He.ga K "LaneError")) = some true
  mf_NoPlace : PySem.W.exmOne K (.ref (He.ga K "NoPlace")) (.ref (He.ga K "NoPlace")) = some true
  mn_NoPlace : ∀ c ∈ (["LaneError", "BadNumber", "BadTree", "BadOrder", "BadTable", "Stuck", "Over", "BadText"] : List Str), PySem.W.exmOne K (.ref (He.ga K c)) (.ref (He.ga K "NoPlace")) = some false
  k_BadNumber : ∀ p ∈ ([("LaneError", false), ("BadNumber", true), ("BadTree", false), ("BadOrder", false), ("BadTable", false), ("Stuck", false), ("Over", false), ("BadText", false)] : List (Str × Bool)), exB p.1 K = true ∧ kitB p.1 (.ref (He.ga K "BadNumber")) p.2 K = true
  k_BadOrder : ∀ p ∈ ([("LaneError", false), ("BadNumber", false), ("BadTree", false), ("BadOrder", true), ("BadTable", false), ("Stuck", false), ("Over", false), ("BadText", false)] : List (Str × Bool)), exB p.1 K = true ∧ kitB p.1 (.ref (He.ga K "BadOrder")) p.2 K = true
  k_BadTable : ∀ p ∈ ([("LaneError", false), ("BadNumber", false), ("BadTree", false), ("BadOrder", false), ("BadTable", true), ("Stuck", false), ("Over", false), ("BadText", false)] : List (Str × Bool)), exB p.1 K = true ∧ kitB p.1 (.ref (He.ga K "BadTable")) p.2 K = true
  k_BadText : ∀ p ∈ ([("LaneError", false), ("BadNumber", false), ("BadTree", false), ("BadOrder", false), ("BadTable", false), ("Stuck", false), ("Over", false), ("BadText", true)] : List (Str × Bool)), exB p.1 K = true ∧ kitB p.1 (.ref (He.ga K "BadText")) p.2 K = true
  k_BadTree : ∀ p ∈ ([("LaneError", false), ("BadNumber", false), ("BadTree", true), ("BadOrder", false), ("BadTable", false), ("Stuck", false), ("Over", false), ("BadText", false)] : List (Str × Bool)), exB p.1 K = true ∧ kitB p.1 (.ref (He.ga K "BadTree")) p.2 K = true
  k_LaneError : ∀ p ∈ ([("LaneError", true), ("BadNumber", true), ("BadTree", true), ("BadOrder", true), ("BadTable", true), ("Stuck", true), ("Over", true), ("BadText", true)] : List (Str × Bool)), exB p.1 K = true ∧ kitB p.1 (.ref (He.ga K "LaneError")) p.2 K = true
  k_NoPlace : ∀ p ∈ ([("LaneError", false), ("BadNumber", false), ("BadTree", false), ("BadOrder", false), ("BadTable", false), ("Stuck", false), ("Over", false), ("BadText", false)] : List (Str × Bool)), exB p.1 K = true ∧ kitB p.1 (.ref (He.ga K "NoPlace")) p.2 K = true
  k_Over : ∀ p ∈ ([("LaneError", false), ("BadNumber", false), ("BadTree", false), ("BadOrder", false), ("BadTable", false), ("Stuck", false), ("Over", true), ("BadText", false)] : List (Str × Bool)), exB p.1 K = true ∧ kitB p.1 (.ref (He.ga K "Over")) p.2 K = true
  k_Stuck : ∀ p ∈ ([("LaneError", false), ("BadNumber", false), ("BadTree", false), ("BadOrder", false), ("BadTable", false), ("Stuck", true), ("Over", false), ("BadText", false)] : List (Str × Bool)), exB p.1 K = true ∧ kitB p.1 (.ref (He.ga K "Stuck")) p.2 K = true
  k_ValueError : ∀ p ∈ ([("LaneError", true), ("BadNumber", true), ("BadTree", true), ("BadOrder", true), ("BadTable", true), ("Stuck", true), ("Over", true), ("BadText", true)] : List (Str × Bool)), exB p.1 K = true ∧ kitB p.1 (.type "ValueError") p.2 K = true
  gc_Code : mg "Code" = some (.ref (He.ga K "Code"))
  ic_Code : IcOk K "Code" [("Block", false), ("Maker", false), ("Code", true), ("Frame", false), ("Machine", false)]
  q_Machine_frames : ClsF K ["Machine"] "frames"
  q_Machine_end : ClsF K ["Machine"] "end"
  q_Machine_many : ClsF K ["Machine"] "many"
  q_Frame_stack : ClsF K ["Frame"] "stack"
  q_Machine_code : ClsF K ["Machine"] "code"
  q_Code_Frame_boxes : ClsF K ["Code", "Frame"] "boxes"
  q_Frame_place : ClsF K ["Frame"] "place"
  q_Machine_tells : ClsF K ["Machine"] "tells"
  q_Frame_kind : ClsF K ["Frame"] "kind"
  q_Frame_boxes : ClsF K ["Frame"] "boxes"
  q_Machine_table : ClsF K ["Machine"] "table"
  q_Block_Code_rows : ClsF K ["Block", "Code"] "rows"
  q_Code_rows : ClsF K ["Code"] "rows"
  q_Code_warm : ClsF K ["Code"] "warm"
  q_Code_starts : ClsF K ["Code"] "starts"
  q_Block_label : ClsF K ["Block"] "label"
  q_Code_catchers : ClsF K ["Code"] "catchers"
  q_Code_paths : ClsF K ["Code"] "paths"
  q_Code_heights : ClsF K ["Code"] "heights"
  q_Code_owners : ClsF K ["Code"] "owners"
  q_Block_Maker_goal : ClsF K ["Block", "Maker"] "goal"
  q_Code_many : ClsF K ["Code"] "many"
  q_Code_entries : ClsF K ["Code"] "entries"
  q_Code_boxes : ClsF K ["Code"] "boxes"
  q_Block_warmth : ClsF K ["Block"] "warmth"
  q_Maker_spare : ClsF K ["Maker"] "spare"
  q_Maker_blocks : ClsF K ["Maker"] "blocks"
  q_Maker_goal : ClsF K ["Maker"] "goal"
  q_Maker_chain : ClsF K ["Maker"] "chain"
  q_Maker_leaves : ClsF K ["Maker"] "leaves"
  q_Maker_path : ClsF K ["Maker"] "path"
  q_Maker_program : ClsF K ["Maker"] "program"
  q_Maker_now : ClsF K ["Maker"] "now"
  q_Maker_tall : ClsF K ["Maker"] "tall"
  q_Block_goal : ClsF K ["Block"] "goal"
  q_Block_rows : ClsF K ["Block"] "rows"
  q_Maker_labels : ClsF K ["Maker"] "labels"
  d_Block___init__ : (mg "Block" = some (.ref (He.ga K "Block")) ∧ Mk K (He.ga K "Block") (He.ma K (He.ga K "Block") "__init__")) ∧ ∃ fd, FunD K "__init__" "Block.__init__" (defArgs S_Block___init__) (defBody S_Block___init__) (defScope S_Block___init__) [] [] (He.ma K (He.ga K "Block") "__init__") fd
  d_Code___init__ : (mg "Code" = some (.ref (He.ga K "Code")) ∧ Mk K (He.ga K "Code") (He.ma K (He.ga K "Code") "__init__")) ∧ ∃ fd, FunD K "__init__" "Code.__init__" (defArgs S_Code___init__) (defBody S_Code___init__) (defScope S_Code___init__) [] [] (He.ma K (He.ga K "Code") "__init__") fd
  d_Code_size : (Cls K (He.ga K "Code") ∧ Meth K (He.ga K "Code") "size" (He.ma K (He.ga K "Code") "size")) ∧ ∃ fd, FunD K "size" "Code.size" (defArgs S_Code_size) (defBody S_Code_size) (defScope S_Code_size) [] [] (He.ma K (He.ga K "Code") "size") fd
  d_Frame___init__ : (mg "Frame" = some (.ref (He.ga K "Frame")) ∧ Mk K (He.ga K "Frame") (He.ma K (He.ga K "Frame") "__init__")) ∧ ∃ fd, FunD K "__init__" "Frame.__init__" (defArgs S_Frame___init__) (defBody S_Frame___init__) (defScope S_Frame___init__) [] [] (He.ma K (He.ga K "Frame") "__init__") fd
  d_Machine_depth : (Cls K (He.ga K "Machine") ∧ Meth K (He.ga K "Machine") "depth" (He.ma K (He.ga K "Machine") "depth")) ∧ ∃ fd, FunD K "depth" "Machine.depth" (defArgs S_Machine_depth) (defBody S_Machine_depth) (defScope S_Machine_depth) [] [] (He.ma K (He.ga K "Machine") "depth") fd
  d_Machine_instruction : (Cls K (He.ga K "Machine") ∧ Meth K (He.ga K "Machine") "instruction" (He.ma K (He.ga K "Machine") "instruction")) ∧ ∃ fd, FunD K "instruction" "Machine.instruction" (defArgs S_Machine_instruction) (defBody S_Machine_instruction) (defScope S_Machine_instruction) [] [] (He.ma K (He.ga K "Machine") "instruction") fd
  d_Machine_outcome : (Cls K (He.ga K "Machine") ∧ Meth K (He.ga K "Machine") "outcome" (He.ma K (He.ga K "Machine") "outcome")) ∧ ∃ fd, FunD K "outcome" "Machine.outcome" (defArgs S_Machine_outcome) (defBody S_Machine_outcome) (defScope S_Machine_outcome) [] [] (He.ma K (He.ga K "Machine") "outcome") fd
  d_Machine_returned : (Cls K (He.ga K "Machine") ∧ Meth K (He.ga K "Machine") "returned" (He.ma K (He.ga K "Machine") "returned")) ∧ ∃ fd, FunD K "returned" "Machine.returned" (defArgs S_Machine_returned) (defBody S_Machine_returned) (defScope S_Machine_returned) [] [] (He.ma K (He.ga K "Machine") "returned") fd
  d_Machine_steps : (Cls K (He.ga K "Machine") ∧ Meth K (He.ga K "Machine") "steps" (He.ma K (He.ga K "Machine") "steps")) ∧ ∃ fd, FunD K "steps" "Machine.steps" (defArgs S_Machine_steps) (defBody S_Machine_steps) (defScope S_Machine_steps) [] [] (He.ma K (He.ga K "Machine") "steps") fd
  d_Machine_where : (Cls K (He.ga K "Machine") ∧ Meth K (He.ga K "Machine") "where" (He.ma K (He.ga K "Machine") "where")) ∧ ∃ fd, FunD K "where" "Machine.where" (defArgs S_Machine_where) (defBody S_Machine_where) (defScope S_Machine_where) [] [] (He.ma K (He.ga K "Machine") "where") fd
  d_Maker_begin : (Cls K (He.ga K "Maker") ∧ Meth K (He.ga K "Maker") "begin" (He.ma K (He.ga K "Maker") "begin")) ∧ ∃ fd, FunD K "begin" "Maker.begin" (defArgs S_Maker_begin) (defBody S_Maker_begin) (defScope S_Maker_begin) [] [] (He.ma K (He.ga K "Maker") "begin") fd
  d_Maker_caught : (Cls K (He.ga K "Maker") ∧ Meth K (He.ga K "Maker") "caught" (He.ma K (He.ga K "Maker") "caught")) ∧ ∃ fd, FunD K "caught" "Maker.caught" (defArgs S_Maker_caught) (defBody S_Maker_caught) (defScope S_Maker_caught) [] [] (He.ma K (He.ga K "Maker") "caught") fd
  d_Maker_new_box : (Cls K (He.ga K "Maker") ∧ Meth K (He.ga K "Maker") "new_box" (He.ma K (He.ga K "Maker") "new_box")) ∧ ∃ fd, FunD K "new_box" "Maker.new_box" (defArgs S_Maker_new_box) (defBody S_Maker_new_box) (defScope S_Maker_new_box) [] [] (He.ma K (He.ga K "Maker") "new_box") fd
  d_Maker_new_label : (Cls K (He.ga K "Maker") ∧ Meth K (He.ga K "Maker") "new_label" (He.ma K (He.ga K "Maker") "new_label")) ∧ ∃ fd, FunD K "new_label" "Maker.new_label" (defArgs S_Maker_new_label) (defBody S_Maker_new_label) (defScope S_Maker_new_label) [] [] (He.ma K (He.ga K "Maker") "new_label") fd
  d_NoPlace___init__ : (mg "NoPlace" = some (.ref (He.ga K "NoPlace")) ∧ NpC K "NoPlace" "place") ∧ ∃ fd, FunD K "__init__" "NoPlace.__init__" (defArgs S_NoPlace___init__) (defBody S_NoPlace___init__) (defScope S_NoPlace___init__) [] [] (He.ma K (He.ga K "NoPlace") "__init__") fd
  d__law_refusal : mg "_law_refusal" = some (.ref (He.ga K "_law_refusal")) ∧ ∃ fd, FunD K "_law_refusal" "_law_refusal" (defArgs S__law_refusal) (defBody S__law_refusal) (defScope S__law_refusal) [] [] (He.ga K "_law_refusal") fd
  d__law_town : mg "_law_town" = some (.ref (He.ga K "_law_town")) ∧ ∃ fd, FunD K "_law_town" "_law_town" (defArgs S__law_town) (defBody S__law_town) (defScope S__law_town) [] [] (He.ga K "_law_town") fd
  d_can_throw : mg "can_throw" = some (.ref (He.ga K "can_throw")) ∧ ∃ fd, FunD K "can_throw" "can_throw" (defArgs S_can_throw) (defBody S_can_throw) (defScope S_can_throw) [] [] (He.ga K "can_throw") fd
  d_chains_of : mg "chains_of" = some (.ref (He.ga K "chains_of")) ∧ ∃ fd, FunD K "chains_of" "chains_of" (defArgs S_chains_of) (defBody S_chains_of) (defScope S_chains_of) [] [] (He.ga K "chains_of") fd
  d_change_of : mg "change_of" = some (.ref (He.ga K "change_of")) ∧ ∃ fd, FunD K "change_of" "change_of" (defArgs S_change_of) (defBody S_change_of) (defScope S_change_of) [] [] (He.ga K "change_of") fd
  d_Maker_put : (Cls K (He.ga K "Maker") ∧ Meth K (He.ga K "Maker") "put" (He.ma K (He.ga K "Maker") "put")) ∧ ∃ fd, FunD K "put" "Maker.put" (defArgs S_Maker_put) (defBody S_Maker_put) (defScope S_Maker_put) [] [("what", (.non)), ("more", (.non))] (He.ma K (He.ga K "Maker") "put") fd
  d_Maker_worth : (Cls K (He.ga K "Maker") ∧ Meth K (He.ga K "Maker") "worth" (He.ma K (He.ga K "Maker") "worth")) ∧ ∃ fd, FunD K "worth" "Maker.worth" (defArgs S_Maker_worth) (defBody S_Maker_worth) (defScope S_Maker_worth) [] [] (He.ma K (He.ga K "Maker") "worth") fd
  d_Maker_attempt : (Cls K (He.ga K "Maker") ∧ Meth K (He.ga K "Maker") "attempt" (He.ma K (He.ga K "Maker") "attempt")) ∧ ∃ fd, FunD K "attempt" "Maker.attempt" (defArgs S_Maker_attempt) (defBody S_Maker_attempt) (defScope S_Maker_attempt) [] [] (He.ma K (He.ga K "Maker") "attempt") fd
  d_Maker_body : (Cls K (He.ga K "Maker") ∧ Meth K (He.ga K "Maker") "body" (He.ma K (He.ga K "Maker") "body")) ∧ ∃ fd, FunD K "body" "Maker.body" (defArgs S_Maker_body) (defBody S_Maker_body) (defScope S_Maker_body) [] [] (He.ma K (He.ga K "Maker") "body") fd
  d_Maker_choice : (Cls K (He.ga K "Maker") ∧ Meth K (He.ga K "Maker") "choice" (He.ma K (He.ga K "Maker") "choice")) ∧ ∃ fd, FunD K "choice" "Maker.choice" (defArgs S_Maker_choice) (defBody S_Maker_choice) (defScope S_Maker_choice) [] [] (He.ma K (He.ga K "Maker") "choice") fd
  d_Maker_leave_all : (Cls K (He.ga K "Maker") ∧ Meth K (He.ga K "Maker") "leave_all" (He.ma K (He.ga K "Maker") "leave_all")) ∧ ∃ fd, FunD K "leave_all" "Maker.leave_all" (defArgs S_Maker_leave_all) (defBody S_Maker_leave_all) (defScope S_Maker_leave_all) [] [] (He.ma K (He.ga K "Maker") "leave_all") fd
  d_Maker_leave_loop : (Cls K (He.ga K "Maker") ∧ Meth K (He.ga K "Maker") "leave_loop" (He.ma K (He.ga K "Maker") "leave_loop")) ∧ ∃ fd, FunD K "leave_loop" "Maker.leave_loop" (defArgs S_Maker_leave_loop) (defBody S_Maker_leave_loop) (defScope S_Maker_leave_loop) [] [] (He.ma K (He.ga K "Maker") "leave_loop") fd
  d_Maker_leave_to : (Cls K (He.ga K "Maker") ∧ Meth K (He.ga K "Maker") "leave_to" (He.ma K (He.ga K "Maker") "leave_to")) ∧ ∃ fd, FunD K "leave_to" "Maker.leave_to" (defArgs S_Maker_leave_to) (defBody S_Maker_leave_to) (defScope S_Maker_leave_to) [] [] (He.ma K (He.ga K "Maker") "leave_to") fd
  d_Maker_loop : (Cls K (He.ga K "Maker") ∧ Meth K (He.ga K "Maker") "loop" (He.ma K (He.ga K "Maker") "loop")) ∧ ∃ fd, FunD K "loop" "Maker.loop" (defArgs S_Maker_loop) (defBody S_Maker_loop) (defScope S_Maker_loop) [] [] (He.ma K (He.ga K "Maker") "loop") fd
  d_Maker_put_end : (Cls K (He.ga K "Maker") ∧ Meth K (He.ga K "Maker") "put_end" (He.ma K (He.ga K "Maker") "put_end")) ∧ ∃ fd, FunD K "put_end" "Maker.put_end" (defArgs S_Maker_put_end) (defBody S_Maker_put_end) (defScope S_Maker_put_end) [] [] (He.ma K (He.ga K "Maker") "put_end") fd
  d_Maker_row : (Cls K (He.ga K "Maker") ∧ Meth K (He.ga K "Maker") "row" (He.ma K (He.ga K "Maker") "row")) ∧ ∃ fd, FunD K "row" "Maker.row" (defArgs S_Maker_row) (defBody S_Maker_row) (defScope S_Maker_row) [] [] (He.ma K (He.ga K "Maker") "row") fd
  d_Maker_function : (Cls K (He.ga K "Maker") ∧ Meth K (He.ga K "Maker") "function" (He.ma K (He.ga K "Maker") "function")) ∧ ∃ fd, FunD K "function" "Maker.function" (defArgs S_Maker_function) (defBody S_Maker_function) (defScope S_Maker_function) [] [] (He.ma K (He.ga K "Maker") "function") fd
  d_falls : mg "falls" = some (.ref (He.ga K "falls")) ∧ ∃ fd, FunD K "falls" "falls" (defArgs S_falls) (defBody S_falls) (defScope S_falls) [] [] (He.ga K "falls") fd
  d_found_in : mg "found_in" = some (.ref (He.ga K "found_in")) ∧ ∃ fd, FunD K "found_in" "found_in" (defArgs S_found_in) (defBody S_found_in) (defScope S_found_in) [] [] (He.ga K "found_in") fd
  d_Machine_search : (Cls K (He.ga K "Machine") ∧ Meth K (He.ga K "Machine") "search" (He.ma K (He.ga K "Machine") "search")) ∧ ∃ fd, FunD K "search" "Machine.search" (defArgs S_Machine_search) (defBody S_Machine_search) (defScope S_Machine_search) [] [] (He.ma K (He.ga K "Machine") "search") fd
  d_Machine_thrown : (Cls K (He.ga K "Machine") ∧ Meth K (He.ga K "Machine") "thrown" (He.ma K (He.ga K "Machine") "thrown")) ∧ ∃ fd, FunD K "thrown" "Machine.thrown" (defArgs S_Machine_thrown) (defBody S_Machine_thrown) (defScope S_Machine_thrown) [] [] (He.ma K (He.ga K "Machine") "thrown") fd
  d_is_whole : mg "is_whole" = some (.ref (He.ga K "is_whole")) ∧ ∃ fd, FunD K "is_whole" "is_whole" (defArgs S_is_whole) (defBody S_is_whole) (defScope S_is_whole) [] [] (He.ga K "is_whole") fd
  d_Code_look_place : (Cls K (He.ga K "Code") ∧ Meth K (He.ga K "Code") "look_place" (He.ma K (He.ga K "Code") "look_place")) ∧ ∃ fd, FunD K "look_place" "Code.look_place" (defArgs S_Code_look_place) (defBody S_Code_look_place) (defScope S_Code_look_place) [] [] (He.ma K (He.ga K "Code") "look_place") fd
  d_Code_caught_by : (Cls K (He.ga K "Code") ∧ Meth K (He.ga K "Code") "caught_by" (He.ma K (He.ga K "Code") "caught_by")) ∧ ∃ fd, FunD K "caught_by" "Code.caught_by" (defArgs S_Code_caught_by) (defBody S_Code_caught_by) (defScope S_Code_caught_by) [] [] (He.ma K (He.ga K "Code") "caught_by") fd
  d_is_chain : mg "is_chain" = some (.ref (He.ga K "is_chain")) ∧ ∃ fd, FunD K "is_chain" "is_chain" (defArgs S_is_chain) (defBody S_is_chain) (defScope S_is_chain) [] [] (He.ga K "is_chain") fd
  d_is_order : mg "is_order" = some (.ref (He.ga K "is_order")) ∧ ∃ fd, FunD K "is_order" "is_order" (defArgs S_is_order) (defBody S_is_order) (defScope S_is_order) [] [] (He.ga K "is_order") fd
  d_is_table : mg "is_table" = some (.ref (He.ga K "is_table")) ∧ ∃ fd, FunD K "is_table" "is_table" (defArgs S_is_table) (defBody S_is_table) (defScope S_is_table) [] [] (He.ga K "is_table") fd
  d_is_worth : mg "is_worth" = some (.ref (He.ga K "is_worth")) ∧ ∃ fd, FunD K "is_worth" "is_worth" (defArgs S_is_worth) (defBody S_is_worth) (defScope S_is_worth) [(.int 0)] [] (He.ga K "is_worth") fd
  d_is_call : mg "is_call" = some (.ref (He.ga K "is_call")) ∧ ∃ fd, FunD K "is_call" "is_call" (defArgs S_is_call) (defBody S_is_call) (defScope S_is_call) [] [] (He.ga K "is_call") fd
  d_is_body : mg "is_body" = some (.ref (He.ga K "is_body")) ∧ ∃ fd, FunD K "is_body" "is_body" (defArgs S_is_body) (defBody S_is_body) (defScope S_is_body) [] [] (He.ga K "is_body") fd
  d_is_row : mg "is_row" = some (.ref (He.ga K "is_row")) ∧ ∃ fd, FunD K "is_row" "is_row" (defArgs S_is_row) (defBody S_is_row) (defScope S_is_row) [] [] (He.ga K "is_row") fd
  d_is_try : mg "is_try" = some (.ref (He.ga K "is_try")) ∧ ∃ fd, FunD K "is_try" "is_try" (defArgs S_is_try) (defBody S_is_try) (defScope S_is_try) [] [] (He.ga K "is_try") fd
  d_is_program : mg "is_program" = some (.ref (He.ga K "is_program")) ∧ ∃ fd, FunD K "is_program" "is_program" (defArgs S_is_program) (defBody S_is_program) (defScope S_is_program) [] [] (He.ga K "is_program") fd
  d_look_code : mg "look_code" = some (.ref (He.ga K "look_code")) ∧ ∃ fd, FunD K "look_code" "look_code" (defArgs S_look_code) (defBody S_look_code) (defScope S_look_code) [] [] (He.ga K "look_code") fd
  d_listing : mg "listing" = some (.ref (He.ga K "listing")) ∧ ∃ fd, FunD K "listing" "listing" (defArgs S_listing) (defBody S_listing) (defScope S_listing) [] [] (He.ga K "listing") fd
  d_look_number : mg "look_number" = some (.ref (He.ga K "look_number")) ∧ ∃ fd, FunD K "look_number" "look_number" (defArgs S_look_number) (defBody S_look_number) (defScope S_look_number) [] [] (He.ga K "look_number") fd
  d_look_program : mg "look_program" = some (.ref (He.ga K "look_program")) ∧ ∃ fd, FunD K "look_program" "look_program" (defArgs S_look_program) (defBody S_look_program) (defScope S_look_program) [] [] (He.ga K "look_program") fd
  d_Maker___init__ : (mg "Maker" = some (.ref (He.ga K "Maker")) ∧ Mk K (He.ga K "Maker") (He.ma K (He.ga K "Maker") "__init__")) ∧ ∃ fd, FunD K "__init__" "Maker.__init__" (defArgs S_Maker___init__) (defBody S_Maker___init__) (defScope S_Maker___init__) [] [] (He.ma K (He.ga K "Maker") "__init__") fd
  d_look_table : mg "look_table" = some (.ref (He.ga K "look_table")) ∧ ∃ fd, FunD K "look_table" "look_table" (defArgs S_look_table) (defBody S_look_table) (defScope S_look_table) [] [] (He.ga K "look_table") fd
  d_found_at : mg "found_at" = some (.ref (He.ga K "found_at")) ∧ ∃ fd, FunD K "found_at" "found_at" (defArgs S_found_at) (defBody S_found_at) (defScope S_found_at) [] [] (He.ga K "found_at") fd
  d_made : mg "made" = some (.ref (He.ga K "made")) ∧ ∃ fd, FunD K "made" "made" (defArgs S_made) (defBody S_made) (defScope S_made) [] [] (He.ga K "made") fd
  d_orders : mg "orders" = some (.ref (He.ga K "orders")) ∧ ∃ fd, FunD K "orders" "orders" (defArgs S_orders) (defBody S_orders) (defScope S_orders) [] [] (He.ga K "orders") fd
  d_packed : mg "packed" = some (.ref (He.ga K "packed")) ∧ ∃ fd, FunD K "packed" "packed" (defArgs S_packed) (defBody S_packed) (defScope S_packed) [] [] (He.ga K "packed") fd
  d_ranges : mg "ranges" = some (.ref (He.ga K "ranges")) ∧ ∃ fd, FunD K "ranges" "ranges" (defArgs S_ranges) (defBody S_ranges) (defScope S_ranges) [] [] (He.ga K "ranges") fd
  d_Machine___init__ : (mg "Machine" = some (.ref (He.ga K "Machine")) ∧ Mk K (He.ga K "Machine") (He.ma K (He.ga K "Machine") "__init__")) ∧ ∃ fd, FunD K "__init__" "Machine.__init__" (defArgs S_Machine___init__) (defBody S_Machine___init__) (defScope S_Machine___init__) [] [("table", (.non)), ("goal", (.int 0)), ("worths", (.ref (kwA ("Machine", some "__init__") "worths" K)))] (He.ma K (He.ga K "Machine") "__init__") fd
  d_reckoned : mg "reckoned" = some (.ref (He.ga K "reckoned")) ∧ ∃ fd, FunD K "reckoned" "reckoned" (defArgs S_reckoned) (defBody S_reckoned) (defScope S_reckoned) [] [] (He.ga K "reckoned") fd
  d_Machine_plain : (Cls K (He.ga K "Machine") ∧ Meth K (He.ga K "Machine") "plain" (He.ma K (He.ga K "Machine") "plain")) ∧ ∃ fd, FunD K "plain" "Machine.plain" (defArgs S_Machine_plain) (defBody S_Machine_plain) (defScope S_Machine_plain) [] [] (He.ma K (He.ga K "Machine") "plain") fd
  d_Machine_throws : (Cls K (He.ga K "Machine") ∧ Meth K (He.ga K "Machine") "throws" (He.ma K (He.ga K "Machine") "throws")) ∧ ∃ fd, FunD K "throws" "Machine.throws" (defArgs S_Machine_throws) (defBody S_Machine_throws) (defScope S_Machine_throws) [] [] (He.ma K (He.ga K "Machine") "throws") fd
  d_Machine_step : (Cls K (He.ga K "Machine") ∧ Meth K (He.ga K "Machine") "step" (He.ma K (He.ga K "Machine") "step")) ∧ ∃ fd, FunD K "step" "Machine.step" (defArgs S_Machine_step) (defBody S_Machine_step) (defScope S_Machine_step) [] [] (He.ma K (He.ga K "Machine") "step") fd
  d_Machine_run : (Cls K (He.ga K "Machine") ∧ Meth K (He.ga K "Machine") "run" (He.ma K (He.ga K "Machine") "run")) ∧ ∃ fd, FunD K "run" "Machine.run" (defArgs S_Machine_run) (defBody S_Machine_run) (defScope S_Machine_run) [] [("most", (.int 100000))] (He.ma K (He.ga K "Machine") "run") fd
  d__law_over : mg "_law_over" = some (.ref (He.ga K "_law_over")) ∧ ∃ fd, FunD K "_law_over" "_law_over" (defArgs S__law_over) (defBody S__law_over) (defScope S__law_over) [] [] (He.ga K "_law_over") fd
  d_done : mg "done" = some (.ref (He.ga K "done")) ∧ ∃ fd, FunD K "done" "done" (defArgs S_done) (defBody S_done) (defScope S_done) [] [("table", (.non)), ("most", (.int 100000)), ("goal", (.int 0)), ("worths", (.ref (kwA ("done", none) "worths" K)))] (He.ga K "done") fd
  d_settle : mg "settle" = some (.ref (He.ga K "settle")) ∧ ∃ fd, FunD K "settle" "settle" (defArgs S_settle) (defBody S_settle) (defScope S_settle) [] [] (He.ga K "settle") fd
  d_table_text : mg "table_text" = some (.ref (He.ga K "table_text")) ∧ ∃ fd, FunD K "table_text" "table_text" (defArgs S_table_text) (defBody S_table_text) (defScope S_table_text) [] [] (He.ga K "table_text") fd
  d__law_does : mg "_law_does" = some (.ref (He.ga K "_law_does")) ∧ ∃ fd, FunD K "_law_does" "_law_does" (defArgs S__law_does) (defBody S__law_does) (defScope S__law_does) [] [] (He.ga K "_law_does") fd
  d__law_asked : mg "_law_asked" = some (.ref (He.ga K "_law_asked")) ∧ ∃ fd, FunD K "_law_asked" "_law_asked" (defArgs S__law_asked) (defBody S__law_asked) (defScope S__law_asked) [] [] (He.ga K "_law_asked") fd
  d_with_jumps : mg "with_jumps" = some (.ref (He.ga K "with_jumps")) ∧ ∃ fd, FunD K "with_jumps" "with_jumps" (defArgs S_with_jumps) (defBody S_with_jumps) (defScope S_with_jumps) [] [] (He.ga K "with_jumps") fd
  d_laid : mg "laid" = some (.ref (He.ga K "laid")) ∧ ∃ fd, FunD K "laid" "laid" (defArgs S_laid) (defBody S_laid) (defScope S_laid) [] [("order", (.non))] (He.ga K "laid") fd
  d_steps_of : mg "steps_of" = some (.ref (He.ga K "steps_of")) ∧ ∃ fd, FunD K "steps_of" "steps_of" (defArgs S_steps_of) (defBody S_steps_of) (defScope S_steps_of) [] [("order", (.non))] (He.ga K "steps_of") fd
  d_law : mg "law" = some (.ref (He.ga K "law")) ∧ ∃ fd, FunD K "law" "law" (defArgs S_law) (defBody S_law) (defScope S_law) [] [] (He.ga K "law") fd
def gV_Machine___init___table (K : PySem.W.Frag) (ds es : List V) : List V := g_Machine___init___table_ ds [(.int 0), (.ref (kwA ("Machine", some "__init__") "worths" K))] es
def gV_Machine___init___table_goal_worths (K : PySem.W.Frag) (ds es : List V) : List V := g_Machine___init___table_goal_worths_ ds [] es
def gV_Machine_run_most (K : PySem.W.Frag) (ds es : List V) : List V := g_Machine_run_most_ ds [] es
def gV_Maker_put_word (K : PySem.W.Frag) (ds es : List V) : List V := g_Maker_put_word_ ds [(.non), (.non)] es
def gV_Maker_put_word_what (K : PySem.W.Frag) (ds es : List V) : List V := g_Maker_put_word_what_ ds [(.non)] es
def gV_Maker_put_word_what_more (K : PySem.W.Frag) (ds es : List V) : List V := g_Maker_put_word_what_more_ ds [] es
def gV_done_table (K : PySem.W.Frag) (ds es : List V) : List V := g_done_table_ ds [(.int 100000), (.int 0), (.ref (kwA ("done", none) "worths" K))] es
def gV_laid_order (K : PySem.W.Frag) (ds es : List V) : List V := g_laid_order_ ds [] es
section
variable {P : Program} {wd : World} {K : PySem.W.Frag} {mg : Str → Option Value} {base : Heap}
theorem okf_Block___init__ (T : Tx K mg) {fd : FuncData} (F : FunD K "__init__" "Block.__init__" (defArgs S_Block___init__) (defBody S_Block___init__) (defScope S_Block___init__) [] [] (He.ma K (He.ga K "Block") "__init__") fd)   : FnOk P wd K mg base (L2.CX P wd) (1) (He.ma K (He.ga K "Block") "__init__") fd ["self", "label", "warmth", "goal"] (SpOf K 4 f_Block___init__) := by
  refine ok_of F sc_Block___init__ rfl rfl fun cdv A outer s H E hr => ?_
  have nd := sc_Block___init__.nd
  have tk : Takes (cxOf (L2.CX P wd) P wd K mg base NN_Block___init__ "Block.__init__" (defScope S_Block___init__) (He.ma K (He.ga K "Block") "__init__") cdv A outer s H E) (fun cls d _ H => E cls d H) := takes_of rfl rfl rfl rfl
  have hx : ∀ σ, PassesAt (L2.CX P wd) (cxOf (L2.CX P wd) P wd K mg base NN_Block___init__ "Block.__init__" (defScope S_Block___init__) (He.ma K (He.ga K "Block") "__init__") cdv A outer s H E) σ E := fun σ => passAt (W := fun cls d _ H => E cls d H) (takes_of rfl rfl rfl rfl) σ
  have hx0 : ∀ {X : Cx} (σ : L2.St), PassesAt (L2.CX X.prog X.w) X σ E0 := fun σ pins H s e s' I c => passL pins σ H s e s' I c
  have po : PassesOwn (model P wd) (cxOf (L2.CX P wd) P wd K mg base NN_Block___init__ "Block.__init__" (defScope S_Block___init__) (He.ma K (He.ga K "Block") "__init__") cdv A outer s H E).A (cxOf (L2.CX P wd) P wd K mg base NN_Block___init__ "Block.__init__" (defScope S_Block___init__) (He.ma K (He.ga K "Block") "__init__") cdv A outer s H E).env (cxOf (L2.CX P wd) P wd K mg base NN_Block___init__ "Block.__init__" (defScope S_Block___init__) (He.ma K (He.ga K "Block") "__init__") cdv A outer s H E).xe := passes_of rfl
  have qq : QB (cxOf (L2.CX P wd) P wd K mg base NN_Block___init__ "Block.__init__" (defScope S_Block___init__) (He.ma K (He.ga K "Block") "__init__") cdv A outer s H E) (fun _ => E) (defBody S_Block___init__) _ (m_Block___init__ ) :=
  (qb_cons (qs_fld T.q_Block_label (q_var 1) (q_var 0))
  (qb_cons (qs_fld T.q_Block_warmth (q_var 2) (q_var 0))
  (qb_cons (qs_fld T.q_Block_goal (q_var 3) (q_var 0))
  (qb_one (qs_fld T.q_Block_rows (q_H (ql_disp qa_nil)) (q_var 0))))))
  exact ⟨_, qq.ps, qq.ss⟩
theorem ok_Block___init__ (T : Tx K mg)   : CalC P wd K mg base (1) "Block" 4 f_Block___init__ [] := by
  obtain ⟨⟨h1, h2⟩, fd, F⟩ := T.d_Block___init__
  exact ⟨⟨_, fd, _, [], h1, h2, F.bindsN (ps := ["self", "label", "warmth", "goal"]) fun _ _ _ _ _ _ us hl => match us, hl with | [_, _, _, _], _ => rfl, .nil, okf_Block___init__ T F  ⟩⟩
theorem okf_Code___init__ (T : Tx K mg) {fd : FuncData} (F : FunD K "__init__" "Code.__init__" (defArgs S_Code___init__) (defBody S_Code___init__) (defScope S_Code___init__) [] [] (He.ma K (He.ga K "Code") "__init__") fd)   : FnOk P wd K mg base (L2.CX P wd) (1) (He.ma K (He.ga K "Code") "__init__") fd ["self", "boxes"] (SpOf K 2 f_Code___init__) := by
  refine ok_of F sc_Code___init__ rfl rfl fun cdv A outer s H E hr => ?_
  have nd := sc_Code___init__.nd
  have tk : Takes (cxOf (L2.CX P wd) P wd K mg base NN_Code___init__ "Code.__init__" (defScope S_Code___init__) (He.ma K (He.ga K "Code") "__init__") cdv A outer s H E) (fun cls d _ H => E cls d H) := takes_of rfl rfl rfl rfl
  have hx : ∀ σ, PassesAt (L2.CX P wd) (cxOf (L2.CX P wd) P wd K mg base NN_Code___init__ "Code.__init__" (defScope S_Code___init__) (He.ma K (He.ga K "Code") "__init__") cdv A outer s H E) σ E := fun σ => passAt (W := fun cls d _ H => E cls d H) (takes_of rfl rfl rfl rfl) σ
  have hx0 : ∀ {X : Cx} (σ : L2.St), PassesAt (L2.CX X.prog X.w) X σ E0 := fun σ pins H s e s' I c => passL pins σ H s e s' I c
  have po : PassesOwn (model P wd) (cxOf (L2.CX P wd) P wd K mg base NN_Code___init__ "Code.__init__" (defScope S_Code___init__) (He.ma K (He.ga K "Code") "__init__") cdv A outer s H E).A (cxOf (L2.CX P wd) P wd K mg base NN_Code___init__ "Code.__init__" (defScope S_Code___init__) (He.ma K (He.ga K "Code") "__init__") cdv A outer s H E).env (cxOf (L2.CX P wd) P wd K mg base NN_Code___init__ "Code.__init__" (defScope S_Code___init__) (He.ma K (He.ga K "Code") "__init__") cdv A outer s H E).xe := passes_of rfl
  have qq : QB (cxOf (L2.CX P wd) P wd K mg base NN_Code___init__ "Code.__init__" (defScope S_Code___init__) (He.ma K (He.ga K "Code") "__init__") cdv A outer s H E) (fun _ => E) (defBody S_Code___init__) _ (m_Code___init__ ) :=
  (qb_cons (qs_fld T.q_Code_rows (q_H (ql_disp qa_nil)) (q_var 0))
  (qb_cons (qs_fld T.q_Code_catchers (q_H (ql_disp qa_nil)) (q_var 0))
  (qb_cons (qs_fld T.q_Code_paths (q_H (ql_disp qa_nil)) (q_var 0))
  (qb_cons (qs_fld T.q_Code_heights (q_H (ql_disp qa_nil)) (q_var 0))
  (qb_cons (qs_fld T.q_Code_owners (q_H (ql_disp qa_nil)) (q_var 0))
  (qb_cons (qs_fld T.q_Code_many (q_L (ql_disp qa_nil)) (q_var 0))
  (qb_cons (qs_fld T.q_Code_entries (q_L (ql_disp qa_nil)) (q_var 0))
  (qb_cons (qs_fld T.q_Code_starts q_dict (q_var 0))
  (qb_cons (qs_fld T.q_Code_boxes (q_var 1) (q_var 0))
  (qb_one (qs_fld T.q_Code_warm q_int (q_var 0))))))))))))
  exact ⟨_, qq.ps, qq.ss⟩
theorem ok_Code___init__ (T : Tx K mg)   : CalC P wd K mg base (1) "Code" 2 f_Code___init__ [] := by
  obtain ⟨⟨h1, h2⟩, fd, F⟩ := T.d_Code___init__
  exact ⟨⟨_, fd, _, [], h1, h2, F.bindsN (ps := ["self", "boxes"]) fun _ _ _ _ _ _ us hl => match us, hl with | [_, _], _ => rfl, .nil, okf_Code___init__ T F  ⟩⟩
theorem okf_Code_size (T : Tx K mg) {fd : FuncData} (F : FunD K "size" "Code.size" (defArgs S_Code_size) (defBody S_Code_size) (defScope S_Code_size) [] [] (He.ma K (He.ga K "Code") "size") fd)   : FnOk P wd K mg base (L2.CX P wd) (1) (He.ma K (He.ga K "Code") "size") fd ["self"] (SpOf K 1 f_Code_size) := by
  refine ok_of F sc_Code_size rfl rfl fun cdv A outer s H E hr => ?_
  have nd := sc_Code_size.nd
  have tk : Takes (cxOf (L2.CX P wd) P wd K mg base NN_Code_size "Code.size" (defScope S_Code_size) (He.ma K (He.ga K "Code") "size") cdv A outer s H E) (fun cls d _ H => E cls d H) := takes_of rfl rfl rfl rfl
  have hx : ∀ σ, PassesAt (L2.CX P wd) (cxOf (L2.CX P wd) P wd K mg base NN_Code_size "Code.size" (defScope S_Code_size) (He.ma K (He.ga K "Code") "size") cdv A outer s H E) σ E := fun σ => passAt (W := fun cls d _ H => E cls d H) (takes_of rfl rfl rfl rfl) σ
  have hx0 : ∀ {X : Cx} (σ : L2.St), PassesAt (L2.CX X.prog X.w) X σ E0 := fun σ pins H s e s' I c => passL pins σ H s e s' I c
  have po : PassesOwn (model P wd) (cxOf (L2.CX P wd) P wd K mg base NN_Code_size "Code.size" (defScope S_Code_size) (He.ma K (He.ga K "Code") "size") cdv A outer s H E).A (cxOf (L2.CX P wd) P wd K mg base NN_Code_size "Code.size" (defScope S_Code_size) (He.ma K (He.ga K "Code") "size") cdv A outer s H E).env (cxOf (L2.CX P wd) P wd K mg base NN_Code_size "Code.size" (defScope S_Code_size) (He.ma K (He.ga K "Code") "size") cdv A outer s H E).xe := passes_of rfl
  have qq : QB (cxOf (L2.CX P wd) P wd K mg base NN_Code_size "Code.size" (defScope S_Code_size) (He.ma K (He.ga K "Code") "size") cdv A outer s H E) (fun _ => E) (defBody S_Code_size) _ (m_Code_size ) :=
  (qb_one (qs_ret (q_tup (qa_cons (q_len T.n_len (qa_cons (q_fld T.q_Code_rows (q_var 0)) qa_nil)) (qa_cons (q_fld T.q_Code_warm (q_var 0)) qa_nil)))))
  exact ⟨_, qq.ps, qq.ss⟩
theorem ok_Code_size (T : Tx K mg)   : CalM P wd K mg base (1) "Code" "size" 1 f_Code_size [] := by
  obtain ⟨⟨h1, h2⟩, fd, F⟩ := T.d_Code_size
  exact ⟨⟨_, fd, _, [], h1, h2, F.bindsN (ps := ["self"]) fun _ _ _ _ _ _ us hl => match us, hl with | [_], _ => rfl, .nil, okf_Code_size T F  ⟩⟩
theorem okf_Frame___init__ (T : Tx K mg) {fd : FuncData} (F : FunD K "__init__" "Frame.__init__" (defArgs S_Frame___init__) (defBody S_Frame___init__) (defScope S_Frame___init__) [] [] (He.ma K (He.ga K "Frame") "__init__") fd)   : FnOk P wd K mg base (L2.CX P wd) (1) (He.ma K (He.ga K "Frame") "__init__") fd ["self", "place", "boxes"] (SpOf K 3 f_Frame___init__) := by
  refine ok_of F sc_Frame___init__ rfl rfl fun cdv A outer s H E hr => ?_
  have nd := sc_Frame___init__.nd
  have tk : Takes (cxOf (L2.CX P wd) P wd K mg base NN_Frame___init__ "Frame.__init__" (defScope S_Frame___init__) (He.ma K (He.ga K "Frame") "__init__") cdv A outer s H E) (fun cls d _ H => E cls d H) := takes_of rfl rfl rfl rfl
  have hx : ∀ σ, PassesAt (L2.CX P wd) (cxOf (L2.CX P wd) P wd K mg base NN_Frame___init__ "Frame.__init__" (defScope S_Frame___init__) (He.ma K (He.ga K "Frame") "__init__") cdv A outer s H E) σ E := fun σ => passAt (W := fun cls d _ H => E cls d H) (takes_of rfl rfl rfl rfl) σ
  have hx0 : ∀ {X : Cx} (σ : L2.St), PassesAt (L2.CX X.prog X.w) X σ E0 := fun σ pins H s e s' I c => passL pins σ H s e s' I c
  have po : PassesOwn (model P wd) (cxOf (L2.CX P wd) P wd K mg base NN_Frame___init__ "Frame.__init__" (defScope S_Frame___init__) (He.ma K (He.ga K "Frame") "__init__") cdv A outer s H E).A (cxOf (L2.CX P wd) P wd K mg base NN_Frame___init__ "Frame.__init__" (defScope S_Frame___init__) (He.ma K (He.ga K "Frame") "__init__") cdv A outer s H E).env (cxOf (L2.CX P wd) P wd K mg base NN_Frame___init__ "Frame.__init__" (defScope S_Frame___init__) (He.ma K (He.ga K "Frame") "__init__") cdv A outer s H E).xe := passes_of rfl
  have qq : QB (cxOf (L2.CX P wd) P wd K mg base NN_Frame___init__ "Frame.__init__" (defScope S_Frame___init__) (He.ma K (He.ga K "Frame") "__init__") cdv A outer s H E) (fun _ => E) (defBody S_Frame___init__) _ (m_Frame___init__ ) :=
  (qb_cons (qs_fld T.q_Frame_place (q_var 1) (q_var 0))
  (qb_cons (qs_fld T.q_Frame_boxes (q_var 2) (q_var 0))
  (qb_cons (qs_fld T.q_Frame_stack (q_H (ql_disp qa_nil)) (q_var 0))
  (qb_one (qs_fld T.q_Frame_kind q_int (q_var 0))))))
  exact ⟨_, qq.ps, qq.ss⟩
theorem ok_Frame___init__ (T : Tx K mg)   : CalC P wd K mg base (1) "Frame" 3 f_Frame___init__ [] := by
  obtain ⟨⟨h1, h2⟩, fd, F⟩ := T.d_Frame___init__
  exact ⟨⟨_, fd, _, [], h1, h2, F.bindsN (ps := ["self", "place", "boxes"]) fun _ _ _ _ _ _ us hl => match us, hl with | [_, _, _], _ => rfl, .nil, okf_Frame___init__ T F  ⟩⟩
theorem okf_Machine_depth (T : Tx K mg) {fd : FuncData} (F : FunD K "depth" "Machine.depth" (defArgs S_Machine_depth) (defBody S_Machine_depth) (defScope S_Machine_depth) [] [] (He.ma K (He.ga K "Machine") "depth") fd)   : FnOk P wd K mg base (L2.CX P wd) (1) (He.ma K (He.ga K "Machine") "depth") fd ["self"] (SpOf K 1 f_Machine_depth) := by
  refine ok_of F sc_Machine_depth rfl rfl fun cdv A outer s H E hr => ?_
  have nd := sc_Machine_depth.nd
  have tk : Takes (cxOf (L2.CX P wd) P wd K mg base NN_Machine_depth "Machine.depth" (defScope S_Machine_depth) (He.ma K (He.ga K "Machine") "depth") cdv A outer s H E) (fun cls d _ H => E cls d H) := takes_of rfl rfl rfl rfl
  have hx : ∀ σ, PassesAt (L2.CX P wd) (cxOf (L2.CX P wd) P wd K mg base NN_Machine_depth "Machine.depth" (defScope S_Machine_depth) (He.ma K (He.ga K "Machine") "depth") cdv A outer s H E) σ E := fun σ => passAt (W := fun cls d _ H => E cls d H) (takes_of rfl rfl rfl rfl) σ
  have hx0 : ∀ {X : Cx} (σ : L2.St), PassesAt (L2.CX X.prog X.w) X σ E0 := fun σ pins H s e s' I c => passL pins σ H s e s' I c
  have po : PassesOwn (model P wd) (cxOf (L2.CX P wd) P wd K mg base NN_Machine_depth "Machine.depth" (defScope S_Machine_depth) (He.ma K (He.ga K "Machine") "depth") cdv A outer s H E).A (cxOf (L2.CX P wd) P wd K mg base NN_Machine_depth "Machine.depth" (defScope S_Machine_depth) (He.ma K (He.ga K "Machine") "depth") cdv A outer s H E).env (cxOf (L2.CX P wd) P wd K mg base NN_Machine_depth "Machine.depth" (defScope S_Machine_depth) (He.ma K (He.ga K "Machine") "depth") cdv A outer s H E).xe := passes_of rfl
  have qq : QB (cxOf (L2.CX P wd) P wd K mg base NN_Machine_depth "Machine.depth" (defScope S_Machine_depth) (He.ma K (He.ga K "Machine") "depth") cdv A outer s H E) (fun _ => E) (defBody S_Machine_depth) _ (m_Machine_depth ) :=
  (qb_one (qs_ret (q_len T.n_len (qa_cons (q_fld T.q_Machine_frames (q_var 0)) qa_nil))))
  exact ⟨_, qq.ps, qq.ss⟩
theorem ok_Machine_depth (T : Tx K mg)   : CalM P wd K mg base (1) "Machine" "depth" 1 f_Machine_depth [] := by
  obtain ⟨⟨h1, h2⟩, fd, F⟩ := T.d_Machine_depth
  exact ⟨⟨_, fd, _, [], h1, h2, F.bindsN (ps := ["self"]) fun _ _ _ _ _ _ us hl => match us, hl with | [_], _ => rfl, .nil, okf_Machine_depth T F  ⟩⟩
theorem okf_Machine_instruction (T : Tx K mg) {fd : FuncData} (F : FunD K "instruction" "Machine.instruction" (defArgs S_Machine_instruction) (defBody S_Machine_instruction) (defScope S_Machine_instruction) [] [] (He.ma K (He.ga K "Machine") "instruction") fd)   : FnOk P wd K mg base (L2.CX P wd) (1) (He.ma K (He.ga K "Machine") "instruction") fd ["self"] (SpOf K 1 f_Machine_instruction) := by
  refine ok_of F sc_Machine_instruction rfl rfl fun cdv A outer s H E hr => ?_
  have nd := sc_Machine_instruction.nd
  have tk : Takes (cxOf (L2.CX P wd) P wd K mg base NN_Machine_instruction "Machine.instruction" (defScope S_Machine_instruction) (He.ma K (He.ga K "Machine") "instruction") cdv A outer s H E) (fun cls d _ H => E cls d H) := takes_of rfl rfl rfl rfl
  have hx : ∀ σ, PassesAt (L2.CX P wd) (cxOf (L2.CX P wd) P wd K mg base NN_Machine_instruction "Machine.instruction" (defScope S_Machine_instruction) (He.ma K (He.ga K "Machine") "instruction") cdv A outer s H E) σ E := fun σ => passAt (W := fun cls d _ H => E cls d H) (takes_of rfl rfl rfl rfl) σ
  have hx0 : ∀ {X : Cx} (σ : L2.St), PassesAt (L2.CX X.prog X.w) X σ E0 := fun σ pins H s e s' I c => passL pins σ H s e s' I c
  have po : PassesOwn (model P wd) (cxOf (L2.CX P wd) P wd K mg base NN_Machine_instruction "Machine.instruction" (defScope S_Machine_instruction) (He.ma K (He.ga K "Machine") "instruction") cdv A outer s H E).A (cxOf (L2.CX P wd) P wd K mg base NN_Machine_instruction "Machine.instruction" (defScope S_Machine_instruction) (He.ma K (He.ga K "Machine") "instruction") cdv A outer s H E).env (cxOf (L2.CX P wd) P wd K mg base NN_Machine_instruction "Machine.instruction" (defScope S_Machine_instruction) (He.ma K (He.ga K "Machine") "instruction") cdv A outer s H E).xe := passes_of rfl
  have qq : QB (cxOf (L2.CX P wd) P wd K mg base NN_Machine_instruction "Machine.instruction" (defScope S_Machine_instruction) (He.ma K (He.ga K "Machine") "instruction") cdv A outer s H E) (fun _ => E) (defBody S_Machine_instruction) _ (m_Machine_instruction ) :=
  (qb_cons (qs_if (qt_cmp q_isNot (q_fld T.q_Machine_end (q_var 0)) q_non) (qb_one (qs_raise rfl tk T.x_Over T.g_Over)) qb_nil)
  (qb_one (qs_ret (q_sub1 (q_fld T.q_Block_Code_rows (q_fld T.q_Machine_code (q_var 0))) (q_fld T.q_Frame_place (q_sub1 (q_fld T.q_Machine_frames (q_var 0)) (q_neg q_int)))))))
  exact ⟨_, qq.ps, qq.ss⟩
theorem ok_Machine_instruction (T : Tx K mg)   : CalM P wd K mg base (1) "Machine" "instruction" 1 f_Machine_instruction [] := by
  obtain ⟨⟨h1, h2⟩, fd, F⟩ := T.d_Machine_instruction
  exact ⟨⟨_, fd, _, [], h1, h2, F.bindsN (ps := ["self"]) fun _ _ _ _ _ _ us hl => match us, hl with | [_], _ => rfl, .nil, okf_Machine_instruction T F  ⟩⟩
theorem okf_Machine_outcome (T : Tx K mg) {fd : FuncData} (F : FunD K "outcome" "Machine.outcome" (defArgs S_Machine_outcome) (defBody S_Machine_outcome) (defScope S_Machine_outcome) [] [] (He.ma K (He.ga K "Machine") "outcome") fd)   : FnOk P wd K mg base (L2.CX P wd) (1) (He.ma K (He.ga K "Machine") "outcome") fd ["self"] (SpOf K 1 f_Machine_outcome) := by
  refine ok_of F sc_Machine_outcome rfl rfl fun cdv A outer s H E hr => ?_
  have nd := sc_Machine_outcome.nd
  have tk : Takes (cxOf (L2.CX P wd) P wd K mg base NN_Machine_outcome "Machine.outcome" (defScope S_Machine_outcome) (He.ma K (He.ga K "Machine") "outcome") cdv A outer s H E) (fun cls d _ H => E cls d H) := takes_of rfl rfl rfl rfl
  have hx : ∀ σ, PassesAt (L2.CX P wd) (cxOf (L2.CX P wd) P wd K mg base NN_Machine_outcome "Machine.outcome" (defScope S_Machine_outcome) (He.ma K (He.ga K "Machine") "outcome") cdv A outer s H E) σ E := fun σ => passAt (W := fun cls d _ H => E cls d H) (takes_of rfl rfl rfl rfl) σ
  have hx0 : ∀ {X : Cx} (σ : L2.St), PassesAt (L2.CX X.prog X.w) X σ E0 := fun σ pins H s e s' I c => passL pins σ H s e s' I c
  have po : PassesOwn (model P wd) (cxOf (L2.CX P wd) P wd K mg base NN_Machine_outcome "Machine.outcome" (defScope S_Machine_outcome) (He.ma K (He.ga K "Machine") "outcome") cdv A outer s H E).A (cxOf (L2.CX P wd) P wd K mg base NN_Machine_outcome "Machine.outcome" (defScope S_Machine_outcome) (He.ma K (He.ga K "Machine") "outcome") cdv A outer s H E).env (cxOf (L2.CX P wd) P wd K mg base NN_Machine_outcome "Machine.outcome" (defScope S_Machine_outcome) (He.ma K (He.ga K "Machine") "outcome") cdv A outer s H E).xe := passes_of rfl
  have qq : QB (cxOf (L2.CX P wd) P wd K mg base NN_Machine_outcome "Machine.outcome" (defScope S_Machine_outcome) (He.ma K (He.ga K "Machine") "outcome") cdv A outer s H E) (fun _ => E) (defBody S_Machine_outcome) _ (m_Machine_outcome ) :=
  (qb_one (qs_ret (q_tup (qa_cons (q_fld T.q_Machine_end (q_var 0)) (qa_cons (q_H (ql_listOf T.n_list (qa_cons (q_fld T.q_Machine_tells (q_var 0)) qa_nil))) qa_nil)))))
  exact ⟨_, qq.ps, qq.ss⟩
theorem ok_Machine_outcome (T : Tx K mg)   : CalM P wd K mg base (1) "Machine" "outcome" 1 f_Machine_outcome [] := by
  obtain ⟨⟨h1, h2⟩, fd, F⟩ := T.d_Machine_outcome
  exact ⟨⟨_, fd, _, [], h1, h2, F.bindsN (ps := ["self"]) fun _ _ _ _ _ _ us hl => match us, hl with | [_], _ => rfl, .nil, okf_Machine_outcome T F  ⟩⟩
theorem okf_Machine_returned (T : Tx K mg) {fd : FuncData} (F : FunD K "returned" "Machine.returned" (defArgs S_Machine_returned) (defBody S_Machine_returned) (defScope S_Machine_returned) [] [] (He.ma K (He.ga K "Machine") "returned") fd)   : FnOk P wd K mg base (L2.CX P wd) (1) (He.ma K (He.ga K "Machine") "returned") fd ["self", "number"] (SpOf K 2 f_Machine_returned) := by
  refine ok_of F sc_Machine_returned rfl rfl fun cdv A outer s H E hr => ?_
  have nd := sc_Machine_returned.nd
  have tk : Takes (cxOf (L2.CX P wd) P wd K mg base NN_Machine_returned "Machine.returned" (defScope S_Machine_returned) (He.ma K (He.ga K "Machine") "returned") cdv A outer s H E) (fun cls d _ H => E cls d H) := takes_of rfl rfl rfl rfl
  have hx : ∀ σ, PassesAt (L2.CX P wd) (cxOf (L2.CX P wd) P wd K mg base NN_Machine_returned "Machine.returned" (defScope S_Machine_returned) (He.ma K (He.ga K "Machine") "returned") cdv A outer s H E) σ E := fun σ => passAt (W := fun cls d _ H => E cls d H) (takes_of rfl rfl rfl rfl) σ
  have hx0 : ∀ {X : Cx} (σ : L2.St), PassesAt (L2.CX X.prog X.w) X σ E0 := fun σ pins H s e s' I c => passL pins σ H s e s' I c
  have po : PassesOwn (model P wd) (cxOf (L2.CX P wd) P wd K mg base NN_Machine_returned "Machine.returned" (defScope S_Machine_returned) (He.ma K (He.ga K "Machine") "returned") cdv A outer s H E).A (cxOf (L2.CX P wd) P wd K mg base NN_Machine_returned "Machine.returned" (defScope S_Machine_returned) (He.ma K (He.ga K "Machine") "returned") cdv A outer s H E).env (cxOf (L2.CX P wd) P wd K mg base NN_Machine_returned "Machine.returned" (defScope S_Machine_returned) (He.ma K (He.ga K "Machine") "returned") cdv A outer s H E).xe := passes_of rfl
  have qq : QB (cxOf (L2.CX P wd) P wd K mg base NN_Machine_returned "Machine.returned" (defScope S_Machine_returned) (He.ma K (He.ga K "Machine") "returned") cdv A outer s H E) (fun _ => E) (defBody S_Machine_returned) _ (m_Machine_returned ) :=
  (qb_cons (qs_expr (q_pop (q_fld T.q_Machine_frames (q_var 0))))
  (qb_one (qs_if (qt_cmp (q_eqE hr.units) (q_fld T.q_Machine_frames (q_var 0)) (q_L (ql_disp qa_nil))) (qb_one (qs_fld T.q_Machine_end (q_tup (qa_cons q_str (qa_cons (q_var 1) qa_nil))) (q_var 0))) (qb_cons (qs_expr (q_app (q_fld T.q_Frame_stack (q_sub1 (q_fld T.q_Machine_frames (q_var 0)) (q_neg q_int))) (q_var 1)))
  (qb_one (qs_fldadd T.q_Frame_place (q_sub1 (q_fld T.q_Machine_frames (q_var 0)) (q_neg q_int)) q_int))))))
  exact ⟨_, qq.ps, qq.ss⟩
theorem ok_Machine_returned (T : Tx K mg)   : CalM P wd K mg base (1) "Machine" "returned" 2 f_Machine_returned [] := by
  obtain ⟨⟨h1, h2⟩, fd, F⟩ := T.d_Machine_returned
  exact ⟨⟨_, fd, _, [], h1, h2, F.bindsN (ps := ["self", "number"]) fun _ _ _ _ _ _ us hl => match us, hl with | [_, _], _ => rfl, .nil, okf_Machine_returned T F  ⟩⟩
theorem okf_Machine_steps (T : Tx K mg) {fd : FuncData} (F : FunD K "steps" "Machine.steps" (defArgs S_Machine_steps) (defBody S_Machine_steps) (defScope S_Machine_steps) [] [] (He.ma K (He.ga K "Machine") "steps") fd)   : FnOk P wd K mg base (L2.CX P wd) (1) (He.ma K (He.ga K "Machine") "steps") fd ["self"] (SpOf K 1 f_Machine_steps) := by
  refine ok_of F sc_Machine_steps rfl rfl fun cdv A outer s H E hr => ?_
  have nd := sc_Machine_steps.nd
  have tk : Takes (cxOf (L2.CX P wd) P wd K mg base NN_Machine_steps "Machine.steps" (defScope S_Machine_steps) (He.ma K (He.ga K "Machine") "steps") cdv A outer s H E) (fun cls d _ H => E cls d H) := takes_of rfl rfl rfl rfl
  have hx : ∀ σ, PassesAt (L2.CX P wd) (cxOf (L2.CX P wd) P wd K mg base NN_Machine_steps "Machine.steps" (defScope S_Machine_steps) (He.ma K (He.ga K "Machine") "steps") cdv A outer s H E) σ E := fun σ => passAt (W := fun cls d _ H => E cls d H) (takes_of rfl rfl rfl rfl) σ
  have hx0 : ∀ {X : Cx} (σ : L2.St), PassesAt (L2.CX X.prog X.w) X σ E0 := fun σ pins H s e s' I c => passL pins σ H s e s' I c
  have po : PassesOwn (model P wd) (cxOf (L2.CX P wd) P wd K mg base NN_Machine_steps "Machine.steps" (defScope S_Machine_steps) (He.ma K (He.ga K "Machine") "steps") cdv A outer s H E).A (cxOf (L2.CX P wd) P wd K mg base NN_Machine_steps "Machine.steps" (defScope S_Machine_steps) (He.ma K (He.ga K "Machine") "steps") cdv A outer s H E).env (cxOf (L2.CX P wd) P wd K mg base NN_Machine_steps "Machine.steps" (defScope S_Machine_steps) (He.ma K (He.ga K "Machine") "steps") cdv A outer s H E).xe := passes_of rfl
  have qq : QB (cxOf (L2.CX P wd) P wd K mg base NN_Machine_steps "Machine.steps" (defScope S_Machine_steps) (He.ma K (He.ga K "Machine") "steps") cdv A outer s H E) (fun _ => E) (defBody S_Machine_steps) _ (m_Machine_steps ) :=
  (qb_one (qs_ret (q_fld T.q_Machine_many (q_var 0))))
  exact ⟨_, qq.ps, qq.ss⟩
theorem ok_Machine_steps (T : Tx K mg)   : CalM P wd K mg base (1) "Machine" "steps" 1 f_Machine_steps [] := by
  obtain ⟨⟨h1, h2⟩, fd, F⟩ := T.d_Machine_steps
  exact ⟨⟨_, fd, _, [], h1, h2, F.bindsN (ps := ["self"]) fun _ _ _ _ _ _ us hl => match us, hl with | [_], _ => rfl, .nil, okf_Machine_steps T F  ⟩⟩
theorem okf_Machine_where (T : Tx K mg) {fd : FuncData} (F : FunD K "where" "Machine.where" (defArgs S_Machine_where) (defBody S_Machine_where) (defScope S_Machine_where) [] [] (He.ma K (He.ga K "Machine") "where") fd)  (C_Machine_instruction : CalM P wd K mg base 1 "Machine" "instruction" 1 f_Machine_instruction []) : FnOk P wd K mg base (L2.CX P wd) (2) (He.ma K (He.ga K "Machine") "where") fd ["self"] (SpOf K 1 f_Machine_where) := by
  refine ok_of F sc_Machine_where rfl rfl fun cdv A outer s H E hr => ?_
  have nd := sc_Machine_where.nd
  have tk : Takes (cxOf (L2.CX P wd) P wd K mg base NN_Machine_where "Machine.where" (defScope S_Machine_where) (He.ma K (He.ga K "Machine") "where") cdv A outer s H E) (fun cls d _ H => E cls d H) := takes_of rfl rfl rfl rfl
  have hx : ∀ σ, PassesAt (L2.CX P wd) (cxOf (L2.CX P wd) P wd K mg base NN_Machine_where "Machine.where" (defScope S_Machine_where) (He.ma K (He.ga K "Machine") "where") cdv A outer s H E) σ E := fun σ => passAt (W := fun cls d _ H => E cls d H) (takes_of rfl rfl rfl rfl) σ
  have hx0 : ∀ {X : Cx} (σ : L2.St), PassesAt (L2.CX X.prog X.w) X σ E0 := fun σ pins H s e s' I c => passL pins σ H s e s' I c
  have po : PassesOwn (model P wd) (cxOf (L2.CX P wd) P wd K mg base NN_Machine_where "Machine.where" (defScope S_Machine_where) (He.ma K (He.ga K "Machine") "where") cdv A outer s H E).A (cxOf (L2.CX P wd) P wd K mg base NN_Machine_where "Machine.where" (defScope S_Machine_where) (He.ma K (He.ga K "Machine") "where") cdv A outer s H E).env (cxOf (L2.CX P wd) P wd K mg base NN_Machine_where "Machine.where" (defScope S_Machine_where) (He.ma K (He.ga K "Machine") "where") cdv A outer s H E).xe := passes_of rfl
  have qq : QB (cxOf (L2.CX P wd) P wd K mg base NN_Machine_where "Machine.where" (defScope S_Machine_where) (He.ma K (He.ga K "Machine") "where") cdv A outer s H E) (fun _ => E) (defBody S_Machine_where) _ (m_Machine_where f_Machine_instruction) :=
  (qb_cons (qs_expr (q_meth0 C_Machine_instruction (hr.mono (by omega)) hx (q_var 0)))
  (qb_one (qs_ret (q_fld T.q_Frame_place (q_sub1 (q_fld T.q_Machine_frames (q_var 0)) (q_neg q_int))))))
  exact ⟨_, qq.ps, qq.ss⟩
theorem ok_Machine_where (T : Tx K mg)  (C_Machine_instruction : CalM P wd K mg base 1 "Machine" "instruction" 1 f_Machine_instruction []) : CalM P wd K mg base (2) "Machine" "where" 1 f_Machine_where [] := by
  obtain ⟨⟨h1, h2⟩, fd, F⟩ := T.d_Machine_where
  exact ⟨⟨_, fd, _, [], h1, h2, F.bindsN (ps := ["self"]) fun _ _ _ _ _ _ us hl => match us, hl with | [_], _ => rfl, .nil, okf_Machine_where T F  C_Machine_instruction⟩⟩
theorem okf_Maker_begin (T : Tx K mg) {fd : FuncData} (F : FunD K "begin" "Maker.begin" (defArgs S_Maker_begin) (defBody S_Maker_begin) (defScope S_Maker_begin) [] [] (He.ma K (He.ga K "Maker") "begin") fd)  (C_Block___init__ : CalC P wd K mg base 1 "Block" 4 f_Block___init__ []) : FnOk P wd K mg base (L2.CX P wd) (3) (He.ma K (He.ga K "Maker") "begin") fd ["self", "label", "warmth"] (SpOf K 3 f_Maker_begin) := by
  refine ok_of F sc_Maker_begin rfl rfl fun cdv A outer s H E hr => ?_
  have nd := sc_Maker_begin.nd
  have tk : Takes (cxOf (L2.CX P wd) P wd K mg base NN_Maker_begin "Maker.begin" (defScope S_Maker_begin) (He.ma K (He.ga K "Maker") "begin") cdv A outer s H E) (fun cls d _ H => E cls d H) := takes_of rfl rfl rfl rfl
  have hx : ∀ σ, PassesAt (L2.CX P wd) (cxOf (L2.CX P wd) P wd K mg base NN_Maker_begin "Maker.begin" (defScope S_Maker_begin) (He.ma K (He.ga K "Maker") "begin") cdv A outer s H E) σ E := fun σ => passAt (W := fun cls d _ H => E cls d H) (takes_of rfl rfl rfl rfl) σ
  have hx0 : ∀ {X : Cx} (σ : L2.St), PassesAt (L2.CX X.prog X.w) X σ E0 := fun σ pins H s e s' I c => passL pins σ H s e s' I c
  have po : PassesOwn (model P wd) (cxOf (L2.CX P wd) P wd K mg base NN_Maker_begin "Maker.begin" (defScope S_Maker_begin) (He.ma K (He.ga K "Maker") "begin") cdv A outer s H E).A (cxOf (L2.CX P wd) P wd K mg base NN_Maker_begin "Maker.begin" (defScope S_Maker_begin) (He.ma K (He.ga K "Maker") "begin") cdv A outer s H E).env (cxOf (L2.CX P wd) P wd K mg base NN_Maker_begin "Maker.begin" (defScope S_Maker_begin) (He.ma K (He.ga K "Maker") "begin") cdv A outer s H E).xe := passes_of rfl
  have qq : QB (cxOf (L2.CX P wd) P wd K mg base NN_Maker_begin "Maker.begin" (defScope S_Maker_begin) (He.ma K (He.ga K "Maker") "begin") cdv A outer s H E) (fun _ => E) (defBody S_Maker_begin) _ (m_Maker_begin f_Block___init__) :=
  (qb_cons (qs_fld T.q_Maker_now (q_make C_Block___init__ (hr.mono (by omega)) hx (qa_cons (q_var 1) (qa_cons (q_var 2) (qa_cons (q_fld T.q_Maker_goal (q_var 0)) qa_nil)))) (q_var 0))
  (qb_cons (qs_fld T.q_Maker_tall q_int (q_var 0))
  (qb_one (qs_expr (q_app (q_fld T.q_Maker_blocks (q_var 0)) (q_fld T.q_Maker_now (q_var 0)))))))
  exact ⟨_, qq.ps, qq.ss⟩
theorem ok_Maker_begin (T : Tx K mg)  (C_Block___init__ : CalC P wd K mg base 1 "Block" 4 f_Block___init__ []) : CalM P wd K mg base (3) "Maker" "begin" 3 f_Maker_begin [] := by
  obtain ⟨⟨h1, h2⟩, fd, F⟩ := T.d_Maker_begin
  exact ⟨⟨_, fd, _, [], h1, h2, F.bindsN (ps := ["self", "label", "warmth"]) fun _ _ _ _ _ _ us hl => match us, hl with | [_, _, _], _ => rfl, .nil, okf_Maker_begin T F  C_Block___init__⟩⟩
theorem okf_Maker_caught (T : Tx K mg) {fd : FuncData} (F : FunD K "caught" "Maker.caught" (defArgs S_Maker_caught) (defBody S_Maker_caught) (defScope S_Maker_caught) [] [] (He.ma K (He.ga K "Maker") "caught") fd)  (C_Maker_begin : CalM P wd K mg base 3 "Maker" "begin" 3 f_Maker_begin []) : FnOk P wd K mg base (L2.CX P wd) (4) (He.ma K (He.ga K "Maker") "caught") fd ["self", "label"] (SpOf K 2 f_Maker_caught) := by
  refine ok_of F sc_Maker_caught rfl rfl fun cdv A outer s H E hr => ?_
  have nd := sc_Maker_caught.nd
  have tk : Takes (cxOf (L2.CX P wd) P wd K mg base NN_Maker_caught "Maker.caught" (defScope S_Maker_caught) (He.ma K (He.ga K "Maker") "caught") cdv A outer s H E) (fun cls d _ H => E cls d H) := takes_of rfl rfl rfl rfl
  have hx : ∀ σ, PassesAt (L2.CX P wd) (cxOf (L2.CX P wd) P wd K mg base NN_Maker_caught "Maker.caught" (defScope S_Maker_caught) (He.ma K (He.ga K "Maker") "caught") cdv A outer s H E) σ E := fun σ => passAt (W := fun cls d _ H => E cls d H) (takes_of rfl rfl rfl rfl) σ
  have hx0 : ∀ {X : Cx} (σ : L2.St), PassesAt (L2.CX X.prog X.w) X σ E0 := fun σ pins H s e s' I c => passL pins σ H s e s' I c
  have po : PassesOwn (model P wd) (cxOf (L2.CX P wd) P wd K mg base NN_Maker_caught "Maker.caught" (defScope S_Maker_caught) (He.ma K (He.ga K "Maker") "caught") cdv A outer s H E).A (cxOf (L2.CX P wd) P wd K mg base NN_Maker_caught "Maker.caught" (defScope S_Maker_caught) (He.ma K (He.ga K "Maker") "caught") cdv A outer s H E).env (cxOf (L2.CX P wd) P wd K mg base NN_Maker_caught "Maker.caught" (defScope S_Maker_caught) (He.ma K (He.ga K "Maker") "caught") cdv A outer s H E).xe := passes_of rfl
  have qq : QB (cxOf (L2.CX P wd) P wd K mg base NN_Maker_caught "Maker.caught" (defScope S_Maker_caught) (He.ma K (He.ga K "Maker") "caught") cdv A outer s H E) (fun _ => E) (defBody S_Maker_caught) _ (m_Maker_caught f_Maker_begin) :=
  (qb_cons (qs_expr (q_meth C_Maker_begin (hr.mono (by omega)) hx (q_var 0) (qa_cons (q_var 1) (qa_cons (q_gstr T.c_COLD) qa_nil))))
  (qb_one (qs_fld T.q_Maker_tall q_int (q_var 0))))
  exact ⟨_, qq.ps, qq.ss⟩
theorem ok_Maker_caught (T : Tx K mg)  (C_Maker_begin : CalM P wd K mg base 3 "Maker" "begin" 3 f_Maker_begin []) : CalM P wd K mg base (4) "Maker" "caught" 2 f_Maker_caught [] := by
  obtain ⟨⟨h1, h2⟩, fd, F⟩ := T.d_Maker_caught
  exact ⟨⟨_, fd, _, [], h1, h2, F.bindsN (ps := ["self", "label"]) fun _ _ _ _ _ _ us hl => match us, hl with | [_, _], _ => rfl, .nil, okf_Maker_caught T F  C_Maker_begin⟩⟩
theorem okf_Maker_new_box (T : Tx K mg) {fd : FuncData} (F : FunD K "new_box" "Maker.new_box" (defArgs S_Maker_new_box) (defBody S_Maker_new_box) (defScope S_Maker_new_box) [] [] (He.ma K (He.ga K "Maker") "new_box") fd)   : FnOk P wd K mg base (L2.CX P wd) (1) (He.ma K (He.ga K "Maker") "new_box") fd ["self"] (SpOf K 1 f_Maker_new_box) := by
  refine ok_of F sc_Maker_new_box rfl rfl fun cdv A outer s H E hr => ?_
  have nd := sc_Maker_new_box.nd
  have tk : Takes (cxOf (L2.CX P wd) P wd K mg base NN_Maker_new_box "Maker.new_box" (defScope S_Maker_new_box) (He.ma K (He.ga K "Maker") "new_box") cdv A outer s H E) (fun cls d _ H => E cls d H) := takes_of rfl rfl rfl rfl
  have hx : ∀ σ, PassesAt (L2.CX P wd) (cxOf (L2.CX P wd) P wd K mg base NN_Maker_new_box "Maker.new_box" (defScope S_Maker_new_box) (He.ma K (He.ga K "Maker") "new_box") cdv A outer s H E) σ E := fun σ => passAt (W := fun cls d _ H => E cls d H) (takes_of rfl rfl rfl rfl) σ
  have hx0 : ∀ {X : Cx} (σ : L2.St), PassesAt (L2.CX X.prog X.w) X σ E0 := fun σ pins H s e s' I c => passL pins σ H s e s' I c
  have po : PassesOwn (model P wd) (cxOf (L2.CX P wd) P wd K mg base NN_Maker_new_box "Maker.new_box" (defScope S_Maker_new_box) (He.ma K (He.ga K "Maker") "new_box") cdv A outer s H E).A (cxOf (L2.CX P wd) P wd K mg base NN_Maker_new_box "Maker.new_box" (defScope S_Maker_new_box) (He.ma K (He.ga K "Maker") "new_box") cdv A outer s H E).env (cxOf (L2.CX P wd) P wd K mg base NN_Maker_new_box "Maker.new_box" (defScope S_Maker_new_box) (He.ma K (He.ga K "Maker") "new_box") cdv A outer s H E).xe := passes_of rfl
  have qq : QB (cxOf (L2.CX P wd) P wd K mg base NN_Maker_new_box "Maker.new_box" (defScope S_Maker_new_box) (He.ma K (He.ga K "Maker") "new_box") cdv A outer s H E) (fun _ => E) (defBody S_Maker_new_box) _ (m_Maker_new_box ) :=
  (qb_cons (qs_fldadd T.q_Maker_spare (q_var 0) q_int)
  (qb_one (qs_ret (q_op q_sub (q_fld T.q_Maker_spare (q_var 0)) q_int))))
  exact ⟨_, qq.ps, qq.ss⟩
theorem ok_Maker_new_box (T : Tx K mg)   : CalM P wd K mg base (1) "Maker" "new_box" 1 f_Maker_new_box [] := by
  obtain ⟨⟨h1, h2⟩, fd, F⟩ := T.d_Maker_new_box
  exact ⟨⟨_, fd, _, [], h1, h2, F.bindsN (ps := ["self"]) fun _ _ _ _ _ _ us hl => match us, hl with | [_], _ => rfl, .nil, okf_Maker_new_box T F  ⟩⟩
theorem okf_Maker_new_label (T : Tx K mg) {fd : FuncData} (F : FunD K "new_label" "Maker.new_label" (defArgs S_Maker_new_label) (defBody S_Maker_new_label) (defScope S_Maker_new_label) [] [] (He.ma K (He.ga K "Maker") "new_label") fd)   : FnOk P wd K mg base (L2.CX P wd) (1) (He.ma K (He.ga K "Maker") "new_label") fd ["self"] (SpOf K 1 f_Maker_new_label) := by
  refine ok_of F sc_Maker_new_label rfl rfl fun cdv A outer s H E hr => ?_
  have nd := sc_Maker_new_label.nd
  have tk : Takes (cxOf (L2.CX P wd) P wd K mg base NN_Maker_new_label "Maker.new_label" (defScope S_Maker_new_label) (He.ma K (He.ga K "Maker") "new_label") cdv A outer s H E) (fun cls d _ H => E cls d H) := takes_of rfl rfl rfl rfl
  have hx : ∀ σ, PassesAt (L2.CX P wd) (cxOf (L2.CX P wd) P wd K mg base NN_Maker_new_label "Maker.new_label" (defScope S_Maker_new_label) (He.ma K (He.ga K "Maker") "new_label") cdv A outer s H E) σ E := fun σ => passAt (W := fun cls d _ H => E cls d H) (takes_of rfl rfl rfl rfl) σ
  have hx0 : ∀ {X : Cx} (σ : L2.St), PassesAt (L2.CX X.prog X.w) X σ E0 := fun σ pins H s e s' I c => passL pins σ H s e s' I c
  have po : PassesOwn (model P wd) (cxOf (L2.CX P wd) P wd K mg base NN_Maker_new_label "Maker.new_label" (defScope S_Maker_new_label) (He.ma K (He.ga K "Maker") "new_label") cdv A outer s H E).A (cxOf (L2.CX P wd) P wd K mg base NN_Maker_new_label "Maker.new_label" (defScope S_Maker_new_label) (He.ma K (He.ga K "Maker") "new_label") cdv A outer s H E).env (cxOf (L2.CX P wd) P wd K mg base NN_Maker_new_label "Maker.new_label" (defScope S_Maker_new_label) (He.ma K (He.ga K "Maker") "new_label") cdv A outer s H E).xe := passes_of rfl
  have qq : QB (cxOf (L2.CX P wd) P wd K mg base NN_Maker_new_label "Maker.new_label" (defScope S_Maker_new_label) (He.ma K (He.ga K "Maker") "new_label") cdv A outer s H E) (fun _ => E) (defBody S_Maker_new_label) _ (m_Maker_new_label ) :=
  (qb_cons (qs_fldadd T.q_Maker_labels (q_var 0) q_int)
  (qb_one (qs_ret (q_op q_sub (q_fld T.q_Maker_labels (q_var 0)) q_int))))
  exact ⟨_, qq.ps, qq.ss⟩
theorem ok_Maker_new_label (T : Tx K mg)   : CalM P wd K mg base (1) "Maker" "new_label" 1 f_Maker_new_label [] := by
  obtain ⟨⟨h1, h2⟩, fd, F⟩ := T.d_Maker_new_label
  exact ⟨⟨_, fd, _, [], h1, h2, F.bindsN (ps := ["self"]) fun _ _ _ _ _ _ us hl => match us, hl with | [_], _ => rfl, .nil, okf_Maker_new_label T F  ⟩⟩
theorem ok_NoPlace___init__ (T : Tx K mg) : CalNp P wd K mg base (1) "NoPlace" "place" := by
  obtain ⟨⟨h1, h2⟩, fd, F⟩ := T.d_NoPlace___init__
  exact ⟨fd, ["self", "place"], h1, h2, F.bindsN (ps := ["self", "place"]) fun _ _ _ _ _ _ us hl => match us, hl with | [_, _], _ => rfl, np_fn F sc_NoPlace___init__ h2 rfl (fun cdv A outer s H E => pss_one (ps_ost (q_var (E := fun _ _ _ _ => False) 0).pe (q_var (E := fun _ _ _ _ => False) 1).pe)) (fun a b => ⟨rfl, rfl⟩)⟩
theorem okf__law_refusal (T : Tx K mg) {fd : FuncData} (F : FunD K "_law_refusal" "_law_refusal" (defArgs S__law_refusal) (defBody S__law_refusal) (defScope S__law_refusal) [] [] (He.ga K "_law_refusal") fd)   : FnOk P wd K mg base (L2.CX P wd) (1) (He.ga K "_law_refusal") fd ["caught"] (SpOf K 1 f__law_refusal) := by
  refine ok_of F sc__law_refusal rfl rfl fun cdv A outer s H E hr => ?_
  have nd := sc__law_refusal.nd
  have tk : Takes (cxOf (L2.CX P wd) P wd K mg base NN__law_refusal "_law_refusal" (defScope S__law_refusal) (He.ga K "_law_refusal") cdv A outer s H E) (fun cls d _ H => E cls d H) := takes_of rfl rfl rfl rfl
  have hx : ∀ σ, PassesAt (L2.CX P wd) (cxOf (L2.CX P wd) P wd K mg base NN__law_refusal "_law_refusal" (defScope S__law_refusal) (He.ga K "_law_refusal") cdv A outer s H E) σ E := fun σ => passAt (W := fun cls d _ H => E cls d H) (takes_of rfl rfl rfl rfl) σ
  have hx0 : ∀ {X : Cx} (σ : L2.St), PassesAt (L2.CX X.prog X.w) X σ E0 := fun σ pins H s e s' I c => passL pins σ H s e s' I c
  have po : PassesOwn (model P wd) (cxOf (L2.CX P wd) P wd K mg base NN__law_refusal "_law_refusal" (defScope S__law_refusal) (He.ga K "_law_refusal") cdv A outer s H E).A (cxOf (L2.CX P wd) P wd K mg base NN__law_refusal "_law_refusal" (defScope S__law_refusal) (He.ga K "_law_refusal") cdv A outer s H E).env (cxOf (L2.CX P wd) P wd K mg base NN__law_refusal "_law_refusal" (defScope S__law_refusal) (He.ga K "_law_refusal") cdv A outer s H E).xe := passes_of rfl
  have qq : QB (cxOf (L2.CX P wd) P wd K mg base NN__law_refusal "_law_refusal" (defScope S__law_refusal) (He.ga K "_law_refusal") cdv A outer s H E) (fun _ => E) (defBody S__law_refusal) _ (m__law_refusal ) :=
  (qb_cons (qs_set 1 nd (q_L (ql_disp (qa_cons (q_isX T.n_isinstance T.g_BadNumber T.k_BadNumber (q_var 0)) (qa_cons (q_isX T.n_isinstance T.g_BadTree T.k_BadTree (q_var 0)) (qa_cons (q_isX T.n_isinstance T.g_BadOrder T.k_BadOrder (q_var 0)) qa_nil))))))
  (qb_cons (qs_set 1 nd (q_L (ql_op ql_cat (q_var 1) (q_L (ql_disp (qa_cons (q_isX T.n_isinstance T.g_BadTable T.k_BadTable (q_var 0)) (qa_cons (q_isX T.n_isinstance T.g_NoPlace T.k_NoPlace (q_var 0)) (qa_cons (q_isX T.n_isinstance T.g_Stuck T.k_Stuck (q_var 0)) qa_nil))))))))
  (qb_cons (qs_set 1 nd (q_L (ql_op ql_cat (q_var 1) (q_L (ql_disp (qa_cons (q_isX T.n_isinstance T.g_Over T.k_Over (q_var 0)) (qa_cons (q_isX T.n_isinstance T.g_BadText T.k_BadText (q_var 0)) qa_nil)))))))
  (qb_cons (qs_if (qt_w (qw_or (qt_cmp (q_ne hr.units) (q_count (room1 hr) (q_var 1) q_bl) q_int) (qw_or (qt_not (qt_val (q_isX T.n_isinstance T.g_LaneError T.k_LaneError (q_var 0)))) (qw_or1 (qt_not (qt_val (q_isXb T.n_isinstance T.n_ValueError T.k_ValueError (q_var 0)))))))) (qb_one (qs_ret q_str)) qb_nil)
  (qb_one (qs_ret (q_sub1 (q_L (ql_disp (qa_cons q_str (qa_cons q_str (qa_cons q_str (qa_cons q_str (qa_cons q_str (qa_cons q_str (qa_cons q_str (qa_cons q_str qa_nil)))))))))) (q_index (room1 hr) (q_var 1) q_bl))))))))
  exact ⟨_, qq.ps, qq.ss⟩
theorem ok__law_refusal (T : Tx K mg)   : Cal P wd K mg base (1) "_law_refusal" 1 f__law_refusal [] := by
  obtain ⟨h1, fd, F⟩ := T.d__law_refusal
  exact ⟨⟨_, fd, _, [], h1, F.kp, F.bindsN (ps := ["caught"]) fun _ _ _ _ _ _ us hl => match us, hl with | [_], _ => rfl, .nil, okf__law_refusal T F  ⟩⟩
theorem okf__law_town (T : Tx K mg) {fd : FuncData} (F : FunD K "_law_town" "_law_town" (defArgs S__law_town) (defBody S__law_town) (defScope S__law_town) [] [] (He.ga K "_law_town") fd)   : FnOk P wd K mg base (L2.CX P wd) (1) (He.ga K "_law_town") fd ["script"] (SpOf K 1 f__law_town) := by
  refine ok_of F sc__law_town rfl rfl fun cdv A outer s H E hr => ?_
  have nd := sc__law_town.nd
  have tk : Takes (cxOf (L2.CX P wd) P wd K mg base NN__law_town "_law_town" (defScope S__law_town) (He.ga K "_law_town") cdv A outer s H E) (fun cls d _ H => E cls d H) := takes_of rfl rfl rfl rfl
  have hx : ∀ σ, PassesAt (L2.CX P wd) (cxOf (L2.CX P wd) P wd K mg base NN__law_town "_law_town" (defScope S__law_town) (He.ga K "_law_town") cdv A outer s H E) σ E := fun σ => passAt (W := fun cls d _ H => E cls d H) (takes_of rfl rfl rfl rfl) σ
  have hx0 : ∀ {X : Cx} (σ : L2.St), PassesAt (L2.CX X.prog X.w) X σ E0 := fun σ pins H s e s' I c => passL pins σ H s e s' I c
  have po : PassesOwn (model P wd) (cxOf (L2.CX P wd) P wd K mg base NN__law_town "_law_town" (defScope S__law_town) (He.ga K "_law_town") cdv A outer s H E).A (cxOf (L2.CX P wd) P wd K mg base NN__law_town "_law_town" (defScope S__law_town) (He.ga K "_law_town") cdv A outer s H E).env (cxOf (L2.CX P wd) P wd K mg base NN__law_town "_law_town" (defScope S__law_town) (He.ga K "_law_town") cdv A outer s H E).xe := passes_of rfl
  have qq : QB (cxOf (L2.CX P wd) P wd K mg base NN__law_town "_law_town" (defScope S__law_town) (He.ga K "_law_town") cdv A outer s H E) (fun _ => E) (defBody S__law_town) _ (m__law_town ) :=
  (qb_one (qs_ret (q_H (ql_disp (qa_cons (q_ifx (qt_cmp (q_ne hr.units) (q_var 0) (q_L (ql_disp qa_nil))) (q_H (ql_listOf T.n_list (qa_cons (q_var 0) qa_nil))) (q_H (ql_disp (qa_cons q_int qa_nil)))) (qa_cons q_int qa_nil))))))
  exact ⟨_, qq.ps, qq.ss⟩
theorem ok__law_town (T : Tx K mg)   : Cal P wd K mg base (1) "_law_town" 1 f__law_town [] := by
  obtain ⟨h1, fd, F⟩ := T.d__law_town
  exact ⟨⟨_, fd, _, [], h1, F.kp, F.bindsN (ps := ["script"]) fun _ _ _ _ _ _ us hl => match us, hl with | [_], _ => rfl, .nil, okf__law_town T F  ⟩⟩
theorem okf_can_throw (T : Tx K mg) {fd : FuncData} (F : FunD K "can_throw" "can_throw" (defArgs S_can_throw) (defBody S_can_throw) (defScope S_can_throw) [] [] (He.ga K "can_throw") fd)   : FnOk P wd K mg base (L2.CX P wd) (1) (He.ga K "can_throw") fd ["instruction"] (SpOf K 1 f_can_throw) := by
  refine ok_of F sc_can_throw rfl rfl fun cdv A outer s H E hr => ?_
  have nd := sc_can_throw.nd
  have tk : Takes (cxOf (L2.CX P wd) P wd K mg base NN_can_throw "can_throw" (defScope S_can_throw) (He.ga K "can_throw") cdv A outer s H E) (fun cls d _ H => E cls d H) := takes_of rfl rfl rfl rfl
  have hx : ∀ σ, PassesAt (L2.CX P wd) (cxOf (L2.CX P wd) P wd K mg base NN_can_throw "can_throw" (defScope S_can_throw) (He.ga K "can_throw") cdv A outer s H E) σ E := fun σ => passAt (W := fun cls d _ H => E cls d H) (takes_of rfl rfl rfl rfl) σ
  have hx0 : ∀ {X : Cx} (σ : L2.St), PassesAt (L2.CX X.prog X.w) X σ E0 := fun σ pins H s e s' I c => passL pins σ H s e s' I c
  have po : PassesOwn (model P wd) (cxOf (L2.CX P wd) P wd K mg base NN_can_throw "can_throw" (defScope S_can_throw) (He.ga K "can_throw") cdv A outer s H E).A (cxOf (L2.CX P wd) P wd K mg base NN_can_throw "can_throw" (defScope S_can_throw) (He.ga K "can_throw") cdv A outer s H E).env (cxOf (L2.CX P wd) P wd K mg base NN_can_throw "can_throw" (defScope S_can_throw) (He.ga K "can_throw") cdv A outer s H E).xe := passes_of rfl
  have qq : QB (cxOf (L2.CX P wd) P wd K mg base NN_can_throw "can_throw" (defScope S_can_throw) (He.ga K "can_throw") cdv A outer s H E) (fun _ => E) (defBody S_can_throw) _ (m_can_throw ) :=
  (qb_cons (qs_tgt (qg_tup 3 (by rfl) (qgs_cons (qg_name 1 nd) (qgs_cons (qg_name 2 nd) (qgs_cons (qg_name 3 nd) qgs_nil)))) (q_var 0))
  (qb_one (qs_ret (q_or (q_cmp (q_inU (room1 hr)) (q_var 1) (q_tup (qa_cons q_str (qa_cons q_str (qa_cons q_str qa_nil))))) (q_one (q_and (q_cmp (q_eq hr.units) (q_var 1) q_str) (q_one (q_cmp (q_eq hr.units) (q_var 2) (q_sub1 (q_gdat T.c_SIGNS T.r_SIGNS) q_int)))))))))
  exact ⟨_, qq.ps, qq.ss⟩
theorem ok_can_throw (T : Tx K mg)   : Cal P wd K mg base (1) "can_throw" 1 f_can_throw [] := by
  obtain ⟨h1, fd, F⟩ := T.d_can_throw
  exact ⟨⟨_, fd, _, [], h1, F.kp, F.bindsN (ps := ["instruction"]) fun _ _ _ _ _ _ us hl => match us, hl with | [_], _ => rfl, .nil, okf_can_throw T F  ⟩⟩
theorem okf_chains_of (T : Tx K mg) {fd : FuncData} (F : FunD K "chains_of" "chains_of" (defArgs S_chains_of) (defBody S_chains_of) (defScope S_chains_of) [] [] (He.ga K "chains_of") fd)   : FnOk P wd K mg base (L2.CX P wd) (1) (He.ga K "chains_of") fd ["table"] (SpOf K 1 f_chains_of) := by
  refine ok_of F sc_chains_of rfl rfl fun cdv A outer s H E hr => ?_
  have nd := sc_chains_of.nd
  have tk : Takes (cxOf (L2.CX P wd) P wd K mg base NN_chains_of "chains_of" (defScope S_chains_of) (He.ga K "chains_of") cdv A outer s H E) (fun cls d _ H => E cls d H) := takes_of rfl rfl rfl rfl
  have hx : ∀ σ, PassesAt (L2.CX P wd) (cxOf (L2.CX P wd) P wd K mg base NN_chains_of "chains_of" (defScope S_chains_of) (He.ga K "chains_of") cdv A outer s H E) σ E := fun σ => passAt (W := fun cls d _ H => E cls d H) (takes_of rfl rfl rfl rfl) σ
  have hx0 : ∀ {X : Cx} (σ : L2.St), PassesAt (L2.CX X.prog X.w) X σ E0 := fun σ pins H s e s' I c => passL pins σ H s e s' I c
  have po : PassesOwn (model P wd) (cxOf (L2.CX P wd) P wd K mg base NN_chains_of "chains_of" (defScope S_chains_of) (He.ga K "chains_of") cdv A outer s H E).A (cxOf (L2.CX P wd) P wd K mg base NN_chains_of "chains_of" (defScope S_chains_of) (He.ga K "chains_of") cdv A outer s H E).env (cxOf (L2.CX P wd) P wd K mg base NN_chains_of "chains_of" (defScope S_chains_of) (He.ga K "chains_of") cdv A outer s H E).xe := passes_of rfl
  have qq : QB (cxOf (L2.CX P wd) P wd K mg base NN_chains_of "chains_of" (defScope S_chains_of) (He.ga K "chains_of") cdv A outer s H E) (fun _ => E) (defBody S_chains_of) _ (m_chains_of ) :=
  (qb_cons (qs_set 1 nd (q_H (ql_disp qa_nil)))
  (qb_cons (qs_for po (by rfl) (qi_v (q_var 0)) (qg_tup 3 (by rfl) (qgs_cons (qg_name 2 nd) (qgs_cons (qg_name 3 nd) (qgs_cons (qg_name 4 nd) qgs_nil)))) (qb_one (qs_if (qt_cmp (q_notInU (room1 hr)) (q_var 4) (q_var 1)) (qb_one (qs_expr (q_app (q_var 1) (q_var 4)))) qb_nil)))
  (qb_one (qs_ret (q_F (q_var 1))))))
  exact ⟨_, qq.ps, qq.ss⟩
theorem ok_chains_of (T : Tx K mg)   : Cal P wd K mg base (1) "chains_of" 1 f_chains_of [] := by
  obtain ⟨h1, fd, F⟩ := T.d_chains_of
  exact ⟨⟨_, fd, _, [], h1, F.kp, F.bindsN (ps := ["table"]) fun _ _ _ _ _ _ us hl => match us, hl with | [_], _ => rfl, .nil, okf_chains_of T F  ⟩⟩
theorem okf_change_of (T : Tx K mg) {fd : FuncData} (F : FunD K "change_of" "change_of" (defArgs S_change_of) (defBody S_change_of) (defScope S_change_of) [] [] (He.ga K "change_of") fd)   : FnOk P wd K mg base (L2.CX P wd) (1) (He.ga K "change_of") fd ["word", "more"] (SpOf K 2 f_change_of) := by
  refine ok_of F sc_change_of rfl rfl fun cdv A outer s H E hr => ?_
  have nd := sc_change_of.nd
  have tk : Takes (cxOf (L2.CX P wd) P wd K mg base NN_change_of "change_of" (defScope S_change_of) (He.ga K "change_of") cdv A outer s H E) (fun cls d _ H => E cls d H) := takes_of rfl rfl rfl rfl
  have hx : ∀ σ, PassesAt (L2.CX P wd) (cxOf (L2.CX P wd) P wd K mg base NN_change_of "change_of" (defScope S_change_of) (He.ga K "change_of") cdv A outer s H E) σ E := fun σ => passAt (W := fun cls d _ H => E cls d H) (takes_of rfl rfl rfl rfl) σ
  have hx0 : ∀ {X : Cx} (σ : L2.St), PassesAt (L2.CX X.prog X.w) X σ E0 := fun σ pins H s e s' I c => passL pins σ H s e s' I c
  have po : PassesOwn (model P wd) (cxOf (L2.CX P wd) P wd K mg base NN_change_of "change_of" (defScope S_change_of) (He.ga K "change_of") cdv A outer s H E).A (cxOf (L2.CX P wd) P wd K mg base NN_change_of "change_of" (defScope S_change_of) (He.ga K "change_of") cdv A outer s H E).env (cxOf (L2.CX P wd) P wd K mg base NN_change_of "change_of" (defScope S_change_of) (He.ga K "change_of") cdv A outer s H E).xe := passes_of rfl
  have qq : QB (cxOf (L2.CX P wd) P wd K mg base NN_change_of "change_of" (defScope S_change_of) (He.ga K "change_of") cdv A outer s H E) (fun _ => E) (defBody S_change_of) _ (m_change_of ) :=
  (qb_cons (qs_if (qt_cmp (q_inU (room1 hr)) (q_var 0) (q_tup (qa_cons q_str (qa_cons q_str qa_nil)))) (qb_one (qs_ret q_int)) qb_nil)
  (qb_cons (qs_if (qt_cmp (q_eq hr.units) (q_var 0) q_str) (qb_one (qs_ret (q_op q_sub q_int (q_var 1)))) qb_nil)
  (qb_one (qs_ret (q_ifx (qt_cmp (q_inU (room1 hr)) (q_var 0) (q_tup (qa_cons q_str (qa_cons q_str (qa_cons q_str (qa_cons q_str (qa_cons q_str (qa_cons q_str (qa_cons q_str qa_nil))))))))) (q_neg q_int) q_int)))))
  exact ⟨_, qq.ps, qq.ss⟩
theorem ok_change_of (T : Tx K mg)   : Cal P wd K mg base (1) "change_of" 2 f_change_of [] := by
  obtain ⟨h1, fd, F⟩ := T.d_change_of
  exact ⟨⟨_, fd, _, [], h1, F.kp, F.bindsN (ps := ["word", "more"]) fun _ _ _ _ _ _ us hl => match us, hl with | [_, _], _ => rfl, .nil, okf_change_of T F  ⟩⟩
theorem vals_Maker_put_word {vs mz zs : List V} {us mv ws : List Value} (r1 : Vals vs us) (r2 : Vals mz mv) (r3 : Vals zs ws) : Vals (g_Maker_put_word_ vs mz zs) (g_Maker_put_word_ us mv ws) := by
  unfold g_Maker_put_word_
  refine r1.append ?_
  rcases r2 with _ | ⟨a0, r2⟩ <;> (try rcases r2 with _ | ⟨a1, r2⟩) <;> (try rcases r2 with _ | ⟨a2, r2⟩) <;> (try rcases r2 with _ | ⟨a3, r2⟩) <;> rcases r3 with _ | ⟨b0, r3⟩ <;> (try rcases r3 with _ | ⟨b1, r3⟩) <;> (try rcases r3 with _ | ⟨b2, r3⟩) <;> (try rcases r3 with _ | ⟨b3, r3⟩) <;> (try rcases r3 with _ | ⟨b4, r3⟩) <;> first | exact .nil | exact (.cons (by assumption) .nil) | exact (.cons (by assumption) (.cons (by assumption) .nil)) | exact (.cons (by assumption) (.cons (by assumption) (.cons (by assumption) .nil))) | exact (.cons (by assumption) (.cons (by assumption) (.cons (by assumption) (.cons (by assumption) .nil)))) | exact (.cons (by assumption) (.cons (by assumption) (.cons (by assumption) (.cons (by assumption) (.cons (by assumption) .nil)))))
theorem vals_Maker_put_word_what {vs mz zs : List V} {us mv ws : List Value} (r1 : Vals vs us) (r2 : Vals mz mv) (r3 : Vals zs ws) : Vals (g_Maker_put_word_what_ vs mz zs) (g_Maker_put_word_what_ us mv ws) := by
  unfold g_Maker_put_word_what_
  refine r1.append ?_
  rcases r2 with _ | ⟨a0, r2⟩ <;> (try rcases r2 with _ | ⟨a1, r2⟩) <;> (try rcases r2 with _ | ⟨a2, r2⟩) <;> (try rcases r2 with _ | ⟨a3, r2⟩) <;> rcases r3 with _ | ⟨b0, r3⟩ <;> (try rcases r3 with _ | ⟨b1, r3⟩) <;> (try rcases r3 with _ | ⟨b2, r3⟩) <;> (try rcases r3 with _ | ⟨b3, r3⟩) <;> (try rcases r3 with _ | ⟨b4, r3⟩) <;> first | exact .nil | exact (.cons (by assumption) .nil) | exact (.cons (by assumption) (.cons (by assumption) .nil)) | exact (.cons (by assumption) (.cons (by assumption) (.cons (by assumption) .nil))) | exact (.cons (by assumption) (.cons (by assumption) (.cons (by assumption) (.cons (by assumption) .nil)))) | exact (.cons (by assumption) (.cons (by assumption) (.cons (by assumption) (.cons (by assumption) (.cons (by assumption) .nil)))))
theorem vals_Maker_put_word_what_more {vs mz zs : List V} {us mv ws : List Value} (r1 : Vals vs us) (r2 : Vals mz mv) (r3 : Vals zs ws) : Vals (g_Maker_put_word_what_more_ vs mz zs) (g_Maker_put_word_what_more_ us mv ws) := by
  unfold g_Maker_put_word_what_more_
  refine r1.append ?_
  rcases r2 with _ | ⟨a0, r2⟩ <;> (try rcases r2 with _ | ⟨a1, r2⟩) <;> (try rcases r2 with _ | ⟨a2, r2⟩) <;> (try rcases r2 with _ | ⟨a3, r2⟩) <;> rcases r3 with _ | ⟨b0, r3⟩ <;> (try rcases r3 with _ | ⟨b1, r3⟩) <;> (try rcases r3 with _ | ⟨b2, r3⟩) <;> (try rcases r3 with _ | ⟨b3, r3⟩) <;> (try rcases r3 with _ | ⟨b4, r3⟩) <;> first | exact .nil | exact (.cons (by assumption) .nil) | exact (.cons (by assumption) (.cons (by assumption) .nil)) | exact (.cons (by assumption) (.cons (by assumption) (.cons (by assumption) .nil))) | exact (.cons (by assumption) (.cons (by assumption) (.cons (by assumption) (.cons (by assumption) .nil)))) | exact (.cons (by assumption) (.cons (by assumption) (.cons (by assumption) (.cons (by assumption) (.cons (by assumption) .nil)))))
theorem okf_Maker_put (T : Tx K mg) {fd : FuncData} (F : FunD K "put" "Maker.put" (defArgs S_Maker_put) (defBody S_Maker_put) (defScope S_Maker_put) [] [("what", (.non)), ("more", (.non))] (He.ma K (He.ga K "Maker") "put") fd)  (C_change_of : Cal P wd K mg base 1 "change_of" 2 f_change_of []) : FnOk P wd K mg base (L2.CX P wd) (2) (He.ma K (He.ga K "Maker") "put") fd ["self", "word", "what", "more"] (SpOf K 4 f_Maker_put) := by
  refine ok_of F sc_Maker_put rfl rfl fun cdv A outer s H E hr => ?_
  have nd := sc_Maker_put.nd
  have tk : Takes (cxOf (L2.CX P wd) P wd K mg base NN_Maker_put "Maker.put" (defScope S_Maker_put) (He.ma K (He.ga K "Maker") "put") cdv A outer s H E) (fun cls d _ H => E cls d H) := takes_of rfl rfl rfl rfl
  have hx : ∀ σ, PassesAt (L2.CX P wd) (cxOf (L2.CX P wd) P wd K mg base NN_Maker_put "Maker.put" (defScope S_Maker_put) (He.ma K (He.ga K "Maker") "put") cdv A outer s H E) σ E := fun σ => passAt (W := fun cls d _ H => E cls d H) (takes_of rfl rfl rfl rfl) σ
  have hx0 : ∀ {X : Cx} (σ : L2.St), PassesAt (L2.CX X.prog X.w) X σ E0 := fun σ pins H s e s' I c => passL pins σ H s e s' I c
  have po : PassesOwn (model P wd) (cxOf (L2.CX P wd) P wd K mg base NN_Maker_put "Maker.put" (defScope S_Maker_put) (He.ma K (He.ga K "Maker") "put") cdv A outer s H E).A (cxOf (L2.CX P wd) P wd K mg base NN_Maker_put "Maker.put" (defScope S_Maker_put) (He.ma K (He.ga K "Maker") "put") cdv A outer s H E).env (cxOf (L2.CX P wd) P wd K mg base NN_Maker_put "Maker.put" (defScope S_Maker_put) (He.ma K (He.ga K "Maker") "put") cdv A outer s H E).xe := passes_of rfl
  have qq : QB (cxOf (L2.CX P wd) P wd K mg base NN_Maker_put "Maker.put" (defScope S_Maker_put) (He.ma K (He.ga K "Maker") "put") cdv A outer s H E) (fun _ => E) (defBody S_Maker_put) _ (m_Maker_put f_change_of) :=
  (qb_cons (qs_expr (q_app (q_fld T.q_Block_Code_rows (q_fld T.q_Maker_now (q_var 0))) (q_tup (qa_cons (q_tup (qa_cons (q_var 1) (qa_cons (q_var 2) (qa_cons (q_var 3) qa_nil)))) (qa_cons (q_fld T.q_Maker_chain (q_var 0)) (qa_cons (q_fld T.q_Maker_path (q_var 0)) (qa_cons (q_fld T.q_Maker_tall (q_var 0)) qa_nil)))))))
  (qb_one (qs_fldadd T.q_Maker_tall (q_var 0) (q_call C_change_of (hr.mono (by omega)) hx (qa_cons (q_var 1) (qa_cons (q_var 3) qa_nil))))))
  exact ⟨_, qq.ps, qq.ss⟩
theorem ok_Maker_put_word (T : Tx K mg)  (C_change_of : Cal P wd K mg base 1 "change_of" 2 f_change_of []) : CalMK P wd K mg base (2) "Maker" "put" 0 ["word"] 4 f_Maker_put (gV_Maker_put_word K) gD_Maker_put_word := by
  obtain ⟨⟨h1, h2⟩, fd, F⟩ := T.d_Maker_put
  obtain ⟨mv, hb⟩ := F.kbinds0 (ps := ["self", "word", "what", "more"]) 1 ["word"] [("what", (.non)), ("more", (.non))] (fun us mv ws => g_Maker_put_word_ us mv ws) (by simp) (by simp) (fun r1 r2 r3 => vals_Maker_put_word r1 r2 r3) fun D doc pm an cdv ct us mv ws h1 h2 h3 => match us, mv, ws, h1, h2, h3 with | [_], [_, _], [_], _, _, _ => ⟨_, _, _, _, _, _, rfl, rfl, ⟨_, _, _, _, _, _, rfl, rfl, rfl⟩⟩
  refine ⟨⟨_, fd, _, _, h1, h2, hb, okf_Maker_put T F  C_change_of⟩, fun w vs zs ds es m rv rz l1 l2 => ?_⟩
  unfold gV_Maker_put_word gD_Maker_put_word g_Maker_put_word_
  refine rv.append ?_
  match zs, es, rz, l2 with
  | [_], [_], .cons r_word (.nil), _ => exact .cons r_word (.cons (.non) (.cons (.non) (.nil)))
theorem ok_Maker_put_word_what (T : Tx K mg)  (C_change_of : Cal P wd K mg base 1 "change_of" 2 f_change_of []) : CalMK P wd K mg base (2) "Maker" "put" 0 ["word", "what"] 4 f_Maker_put (gV_Maker_put_word_what K) gD_Maker_put_word_what := by
  obtain ⟨⟨h1, h2⟩, fd, F⟩ := T.d_Maker_put
  obtain ⟨mv, hb⟩ := F.kbinds0 (ps := ["self", "word", "what", "more"]) 1 ["word", "what"] [("more", (.non))] (fun us mv ws => g_Maker_put_word_what_ us mv ws) (by simp) (by simp) (fun r1 r2 r3 => vals_Maker_put_word_what r1 r2 r3) fun D doc pm an cdv ct us mv ws h1 h2 h3 => match us, mv, ws, h1, h2, h3 with | [_], [_], [_, _], _, _, _ => ⟨_, _, _, _, _, _, rfl, rfl, rfl⟩
  refine ⟨⟨_, fd, _, _, h1, h2, hb, okf_Maker_put T F  C_change_of⟩, fun w vs zs ds es m rv rz l1 l2 => ?_⟩
  unfold gV_Maker_put_word_what gD_Maker_put_word_what g_Maker_put_word_what_
  refine rv.append ?_
  match zs, es, rz, l2 with
  | [_, _], [_, _], .cons r_word (.cons r_what (.nil)), _ => exact .cons r_word (.cons r_what (.cons (.non) (.nil)))
theorem ok_Maker_put_word_what_more (T : Tx K mg)  (C_change_of : Cal P wd K mg base 1 "change_of" 2 f_change_of []) : CalMK P wd K mg base (2) "Maker" "put" 0 ["word", "what", "more"] 4 f_Maker_put (gV_Maker_put_word_what_more K) gD_Maker_put_word_what_more := by
  obtain ⟨⟨h1, h2⟩, fd, F⟩ := T.d_Maker_put
  obtain ⟨mv, hb⟩ := F.kbinds0 (ps := ["self", "word", "what", "more"]) 1 ["word", "what", "more"] [] (fun us mv ws => g_Maker_put_word_what_more_ us mv ws) (by simp) (by simp) (fun r1 r2 r3 => vals_Maker_put_word_what_more r1 r2 r3) fun D doc pm an cdv ct us mv ws h1 h2 h3 => match us, mv, ws, h1, h2, h3 with | [_], [], [_, _, _], _, _, _ => rfl
  refine ⟨⟨_, fd, _, _, h1, h2, hb, okf_Maker_put T F  C_change_of⟩, fun w vs zs ds es m rv rz l1 l2 => ?_⟩
  unfold gV_Maker_put_word_what_more gD_Maker_put_word_what_more g_Maker_put_word_what_more_
  refine rv.append ?_
  match zs, es, rz, l2 with
  | [_, _, _], [_, _, _], .cons r_word (.cons r_what (.cons r_more (.nil))), _ => exact .cons r_word (.cons r_what (.cons r_more (.nil)))
theorem okf_Maker_worth (T : Tx K mg) {fd : FuncData} (F : FunD K "worth" "Maker.worth" (defArgs S_Maker_worth) (defBody S_Maker_worth) (defScope S_Maker_worth) [] [] (He.ma K (He.ga K "Maker") "worth") fd) {k : Nat} (hk : 2 ≤ k) {g_Maker_worth : List Da → Mo Da} (C_Maker_put_word_what : CalMK P wd K mg base 2 "Maker" "put" 0 ["word", "what"] 4 f_Maker_put (gV_Maker_put_word_what K) gD_Maker_put_word_what) (C_Maker_worth : CalM P wd K mg base k "Maker" "worth" 2 g_Maker_worth []) : FnOk P wd K mg base (L2.CX P wd) (k + 1) (He.ma K (He.ga K "Maker") "worth") fd ["self", "thing"] (SpOf K 2 (fnM 2 (m_Maker_worth f_Maker_put g_Maker_worth))) := by
  refine ok_of F sc_Maker_worth rfl rfl fun cdv A outer s H E hr => ?_
  have nd := sc_Maker_worth.nd
  have tk : Takes (cxOf (L2.CX P wd) P wd K mg base NN_Maker_worth "Maker.worth" (defScope S_Maker_worth) (He.ma K (He.ga K "Maker") "worth") cdv A outer s H E) (fun cls d _ H => E cls d H) := takes_of rfl rfl rfl rfl
  have hx : ∀ σ, PassesAt (L2.CX P wd) (cxOf (L2.CX P wd) P wd K mg base NN_Maker_worth "Maker.worth" (defScope S_Maker_worth) (He.ma K (He.ga K "Maker") "worth") cdv A outer s H E) σ E := fun σ => passAt (W := fun cls d _ H => E cls d H) (takes_of rfl rfl rfl rfl) σ
  have hx0 : ∀ {X : Cx} (σ : L2.St), PassesAt (L2.CX X.prog X.w) X σ E0 := fun σ pins H s e s' I c => passL pins σ H s e s' I c
  have po : PassesOwn (model P wd) (cxOf (L2.CX P wd) P wd K mg base NN_Maker_worth "Maker.worth" (defScope S_Maker_worth) (He.ma K (He.ga K "Maker") "worth") cdv A outer s H E).A (cxOf (L2.CX P wd) P wd K mg base NN_Maker_worth "Maker.worth" (defScope S_Maker_worth) (He.ma K (He.ga K "Maker") "worth") cdv A outer s H E).env (cxOf (L2.CX P wd) P wd K mg base NN_Maker_worth "Maker.worth" (defScope S_Maker_worth) (He.ma K (He.ga K "Maker") "worth") cdv A outer s H E).xe := passes_of rfl
  have qq : QB (cxOf (L2.CX P wd) P wd K mg base NN_Maker_worth "Maker.worth" (defScope S_Maker_worth) (He.ma K (He.ga K "Maker") "worth") cdv A outer s H E) (fun _ => E) (defBody S_Maker_worth) _ (m_Maker_worth f_Maker_put g_Maker_worth) :=
  (qb_one (qs_if (qt_val (q_isi .int T.n_isinstance T.n_int (q_var 1))) (qb_one (qs_expr (q_methK0 C_Maker_put_word_what (hr.mono (by omega)) hx (q_var 0) (qk_cons q_str (qk_cons (q_var 1) qk_nil))))) (qb_one (qs_if (qt_cmp (q_eq hr.units) (q_sub1 (q_var 1) q_int) q_str) (qb_one (qs_expr (q_methK0 C_Maker_put_word_what (hr.mono (by omega)) hx (q_var 0) (qk_cons q_str (qk_cons (q_sub1 (q_var 1) q_int) qk_nil))))) (qb_cons (qs_expr (q_meth C_Maker_worth (hr.mono (by omega)) hx (q_var 0) (qa_cons (q_sub1 (q_var 1) q_int) qa_nil)))
  (qb_cons (qs_expr (q_meth C_Maker_worth (hr.mono (by omega)) hx (q_var 0) (qa_cons (q_sub1 (q_var 1) q_int) qa_nil)))
  (qb_one (qs_expr (q_methK0 C_Maker_put_word_what (hr.mono (by omega)) hx (q_var 0) (qk_cons q_str (qk_cons (q_sub1 (q_var 1) q_int) qk_nil)))))))))))
  exact ⟨_, qq.ps, qq.ss⟩
theorem ok_Maker_worth (T : Tx K mg) {k : Nat} (hk : 2 ≤ k) {g_Maker_worth : List Da → Mo Da} (C_Maker_put_word_what : CalMK P wd K mg base 2 "Maker" "put" 0 ["word", "what"] 4 f_Maker_put (gV_Maker_put_word_what K) gD_Maker_put_word_what) (C_Maker_worth : CalM P wd K mg base k "Maker" "worth" 2 g_Maker_worth []) : CalM P wd K mg base (k + 1) "Maker" "worth" 2 (fnM 2 (m_Maker_worth f_Maker_put g_Maker_worth)) [] := by
  obtain ⟨⟨h1, h2⟩, fd, F⟩ := T.d_Maker_worth
  exact ⟨⟨_, fd, _, [], h1, h2, F.bindsN (ps := ["self", "thing"]) fun _ _ _ _ _ _ us hl => match us, hl with | [_, _], _ => rfl, .nil, okf_Maker_worth T F hk C_Maker_put_word_what C_Maker_worth⟩⟩
theorem z_Maker_worth (T : Tx K mg) : CalM P wd K mg base 2 "Maker" "worth" 2 (f_Maker_worth 0) [] := by
  obtain ⟨⟨h1, h2⟩, fd, F⟩ := T.d_Maker_worth
  exact ⟨⟨_, fd, _, [], h1, h2, F.bindsN (ps := ["self", "thing"]) fun _ _ _ _ _ _ us hl => match us, hl with | [_, _], _ => rfl, .nil, fn0 (k := 1) F sc_Maker_worth rfl⟩⟩
theorem recs_Maker_worth (T : Tx K mg) (C_Maker_put_word_what : CalMK P wd K mg base 2 "Maker" "put" 0 ["word", "what"] 4 f_Maker_put (gV_Maker_put_word_what K) gD_Maker_put_word_what) : ∀ n : Nat, (CalM P wd K mg base (2 + n) "Maker" "worth" 2 (f_Maker_worth n) []) := by
  intro n
  induction n with
  | zero => exact z_Maker_worth T
  | succ n ih =>
    have C_Maker_worth := ih
    exact ok_Maker_worth T (k := 2 + n) (by omega) C_Maker_put_word_what C_Maker_worth
theorem okf_Maker_attempt (T : Tx K mg) {fd : FuncData} (F : FunD K "attempt" "Maker.attempt" (defArgs S_Maker_attempt) (defBody S_Maker_attempt) (defScope S_Maker_attempt) [] [] (He.ma K (He.ga K "Maker") "attempt") fd) {k : Nat} (hk : 12 ≤ k) {g_Maker_body : List Da → Mo Da} {g_Maker_put_end : List Da → Mo Da} (C_Maker_new_label : CalM P wd K mg base 1 "Maker" "new_label" 1 f_Maker_new_label []) (C_Maker_body : CalM P wd K mg base k "Maker" "body" 3 g_Maker_body []) (C_Maker_put_end : CalM P wd K mg base k "Maker" "put_end" 4 g_Maker_put_end []) (C_Maker_put_word_what : CalMK P wd K mg base 2 "Maker" "put" 0 ["word", "what"] 4 f_Maker_put (gV_Maker_put_word_what K) gD_Maker_put_word_what) (C_Maker_caught : CalM P wd K mg base 4 "Maker" "caught" 2 f_Maker_caught []) (C_Maker_new_box : CalM P wd K mg base 1 "Maker" "new_box" 1 f_Maker_new_box []) (C_Maker_put_word_what_more : CalMK P wd K mg base 2 "Maker" "put" 0 ["word", "what", "more"] 4 f_Maker_put (gV_Maker_put_word_what_more K) gD_Maker_put_word_what_more) (C_Maker_begin : CalM P wd K mg base 3 "Maker" "begin" 3 f_Maker_begin []) : FnOk P wd K mg base (L2.CX P wd) (k + 1) (He.ma K (He.ga K "Maker") "attempt") fd ["self", "row"] (SpOf K 2 (fnM 19 (m_Maker_attempt f_Maker_new_label g_Maker_body g_Maker_put_end f_Maker_put f_Maker_caught f_Maker_new_box f_Maker_begin))) := by
  refine ok_of F sc_Maker_attempt rfl rfl fun cdv A outer s H E hr => ?_
  have nd := sc_Maker_attempt.nd
  have tk : Takes (cxOf (L2.CX P wd) P wd K mg base NN_Maker_attempt "Maker.attempt" (defScope S_Maker_attempt) (He.ma K (He.ga K "Maker") "attempt") cdv A outer s H E) (fun cls d _ H => E cls d H) := takes_of rfl rfl rfl rfl
  have hx : ∀ σ, PassesAt (L2.CX P wd) (cxOf (L2.CX P wd) P wd K mg base NN_Maker_attempt "Maker.attempt" (defScope S_Maker_attempt) (He.ma K (He.ga K "Maker") "attempt") cdv A outer s H E) σ E := fun σ => passAt (W := fun cls d _ H => E cls d H) (takes_of rfl rfl rfl rfl) σ
  have hx0 : ∀ {X : Cx} (σ : L2.St), PassesAt (L2.CX X.prog X.w) X σ E0 := fun σ pins H s e s' I c => passL pins σ H s e s' I c
  have po : PassesOwn (model P wd) (cxOf (L2.CX P wd) P wd K mg base NN_Maker_attempt "Maker.attempt" (defScope S_Maker_attempt) (He.ma K (He.ga K "Maker") "attempt") cdv A outer s H E).A (cxOf (L2.CX P wd) P wd K mg base NN_Maker_attempt "Maker.attempt" (defScope S_Maker_attempt) (He.ma K (He.ga K "Maker") "attempt") cdv A outer s H E).env (cxOf (L2.CX P wd) P wd K mg base NN_Maker_attempt "Maker.attempt" (defScope S_Maker_attempt) (He.ma K (He.ga K "Maker") "attempt") cdv A outer s H E).xe := passes_of rfl
  have qq : QB (cxOf (L2.CX P wd) P wd K mg base NN_Maker_attempt "Maker.attempt" (defScope S_Maker_attempt) (He.ma K (He.ga K "Maker") "attempt") cdv A outer s H E) (fun _ => E) (defBody S_Maker_attempt) _ (m_Maker_attempt f_Maker_new_label g_Maker_body g_Maker_put_end f_Maker_put f_Maker_caught f_Maker_new_box f_Maker_begin) :=
  (qb_cons (qs_tgt (qg_tup 4 (by rfl) (qgs_cons (qg_name 2 nd) (qgs_cons (qg_name 3 nd) (qgs_cons (qg_name 4 nd) (qgs_cons (qg_name 5 nd) qgs_nil))))) (q_var 1))
  (qb_cons (qs_par 6 7 (by rfl) nd (qa_cons (q_fld T.q_Maker_chain (q_var 0)) (qa_cons (q_fld T.q_Block_warmth (q_fld T.q_Maker_now (q_var 0))) qa_nil)))
  (qb_cons (qs_set 8 nd (q_meth0 C_Maker_new_label (hr.mono (by omega)) hx (q_var 0)))
  (qb_cons (qs_set 9 nd (q_ifx (qt_cmp q_is (q_var 5) q_non) q_non (q_meth0 C_Maker_new_label (hr.mono (by omega)) hx (q_var 0))))
  (qb_cons (by exact qs_setLc 10 (by rfl) nd (qi_v (q_var 4)) (blkOk_by (own := [("one", 15)]) (N := NN_Maker_attempt) (sc := defScope S_Maker_attempt) (by decide +kernel)) (fun _ _ _ _ _ => (qg_name 15 nd)) (fun _ _ _ _ _ => qts_nil) (fun _ _ _ _ _ => (q_meth0 C_Maker_new_label (hr.mono (by omega)) hx0 (q_var 0))) eL s_L (sw_true rfl rfl rfl (by decide +kernel)))
  (qb_cons (qs_set 11 nd (q_ifx (qt_cmp q_is (q_var 9) q_non) (q_var 6) (q_op q_add (q_tup (qa_cons (q_tup (qa_cons q_non (qa_cons (q_var 9) (qa_cons q_bl qa_nil)))) qa_nil)) (q_var 6))))
  (qb_cons (qs_set 12 nd (q_fld T.q_Maker_path (q_var 0)))
  (qb_cons (qs_set 13 nd (q_op q_add (q_var 12) (q_tup (qa_cons (q_op q_add q_int (q_len T.n_len (qa_cons (q_var 4) qa_nil))) qa_nil))))
  (qb_cons (qs_if (qt_cmp q_isNot (q_var 5) q_non) (qb_one (qs_expr (q_app (q_fld T.q_Maker_leaves (q_var 0)) (q_tup (qa_cons q_str (qa_cons (q_var 5) (qa_cons (q_var 6) (qa_cons (q_var 13) qa_nil)))))))) qb_nil)
  (qb_cons (qs_fld T.q_Maker_chain (q_op q_add (q_tupleOf T.n_tuple (qa_cons (q_L (by exact ql_comp (by rfl) nd (qi_zip T.n_zip (qa_cons (q_var 4) (qa_cons (q_var 10) qa_nil))) (blkOk_by (own := [("one", 15), ("goal", 16)]) (N := NN_Maker_attempt) (sc := defScope S_Maker_attempt) (by decide +kernel)) (fun _ _ _ _ _ => (qg_tup 2 (by rfl) (qgs_cons (qg_name 15 nd) (qgs_cons (qg_name 16 nd) qgs_nil)))) (fun _ _ _ _ _ => qts_nil) (fun _ _ _ _ _ => (q_tup (qa_cons (q_sub1 (q_var 15) q_int) (qa_cons (q_var 16) (qa_cons q_bl qa_nil))))))) qa_nil)) (q_var 11)) (q_var 0))
  (qb_cons (qs_expr (q_meth C_Maker_body (hr.mono (by omega)) hx (q_var 0) (qa_cons (q_var 3) (qa_cons (q_op q_add (q_var 12) (q_tup (qa_cons q_int qa_nil))) qa_nil))))
  (qb_cons (qs_fld T.q_Maker_chain (q_var 11) (q_var 0))
  (qb_cons (qs_expr (q_meth C_Maker_put_end (hr.mono (by omega)) hx (q_var 0) (qa_cons (q_var 5) (qa_cons (q_var 6) (qa_cons (q_var 13) qa_nil)))))
  (qb_cons (qs_expr (q_methK0 C_Maker_put_word_what (hr.mono (by omega)) hx (q_var 0) (qk_cons q_str (qk_cons (q_var 8) qk_nil))))
  (qb_cons (qs_for po (by rfl) (qi_ez T.n_enumerate T.n_zip (qa_cons (q_var 4) (qa_cons (q_var 10) qa_nil))) (qg_tup 2 (by rfl) (qgs_cons (qg_name 14 nd) (qgs_cons (qg_tup 2 (by rfl) (qgs_cons (qg_name 15 nd) (qgs_cons (qg_name 16 nd) qgs_nil))) qgs_nil))) (qb_cons (qs_expr (q_meth C_Maker_caught (hr.mono (by omega)) hx (q_var 0) (qa_cons (q_var 16) qa_nil)))
  (qb_cons (qs_fld T.q_Maker_chain (q_var 11) (q_var 0))
  (qb_cons (qs_expr (q_methK0 C_Maker_put_word_what (hr.mono (by omega)) hx (q_var 0) (qk_cons q_str (qk_cons (q_sub1 (q_var 15) q_int) qk_nil))))
  (qb_cons (qs_expr (q_meth C_Maker_body (hr.mono (by omega)) hx (q_var 0) (qa_cons (q_sub1 (q_var 15) q_int) (qa_cons (q_op q_add (q_var 12) (q_tup (qa_cons (q_op q_add q_int (q_var 14)) qa_nil))) qa_nil))))
  (qb_cons (qs_expr (q_meth C_Maker_put_end (hr.mono (by omega)) hx (q_var 0) (qa_cons (q_var 5) (qa_cons (q_var 6) (qa_cons (q_var 13) qa_nil)))))
  (qb_one (qs_expr (q_methK0 C_Maker_put_word_what (hr.mono (by omega)) hx (q_var 0) (qk_cons q_str (qk_cons (q_var 8) qk_nil)))))))))))
  (qb_cons (qs_if (qt_cmp q_isNot (q_var 5) q_non) (qb_cons (qs_expr (q_pop (q_fld T.q_Maker_leaves (q_var 0))))
  (qb_cons (qs_expr (q_meth C_Maker_caught (hr.mono (by omega)) hx (q_var 0) (qa_cons (q_var 9) qa_nil)))
  (qb_cons (qs_fld T.q_Maker_chain (q_var 6) (q_var 0))
  (qb_cons (qs_par 17 18 (by rfl) nd (qa_cons (q_meth0 C_Maker_new_box (hr.mono (by omega)) hx (q_var 0)) (qa_cons (q_meth0 C_Maker_new_box (hr.mono (by omega)) hx (q_var 0)) qa_nil)))
  (qb_cons (qs_expr (q_methK0 C_Maker_put_word_what_more (hr.mono (by omega)) hx (q_var 0) (qk_cons q_str (qk_cons (q_var 17) (qk_cons (q_var 18) qk_nil)))))
  (qb_cons (qs_expr (q_meth C_Maker_body (hr.mono (by omega)) hx (q_var 0) (qa_cons (q_var 5) (qa_cons (q_var 13) qa_nil))))
  (qb_one (qs_expr (q_methK0 C_Maker_put_word_what_more (hr.mono (by omega)) hx (q_var 0) (qk_cons q_str (qk_cons (q_var 17) (qk_cons (q_var 18) qk_nil)))))))))))) qb_nil)
  (qb_cons (qs_fld T.q_Maker_chain (q_var 6) (q_var 0))
  (qb_one (qs_expr (q_meth C_Maker_begin (hr.mono (by omega)) hx (q_var 0) (qa_cons (q_var 8) (qa_cons (q_var 7) qa_nil))))))))))))))))))))))
  exact ⟨_, qq.ps, qq.ss⟩
theorem ok_Maker_attempt (T : Tx K mg) {k : Nat} (hk : 12 ≤ k) {g_Maker_body : List Da → Mo Da} {g_Maker_put_end : List Da → Mo Da} (C_Maker_new_label : CalM P wd K mg base 1 "Maker" "new_label" 1 f_Maker_new_label []) (C_Maker_body : CalM P wd K mg base k "Maker" "body" 3 g_Maker_body []) (C_Maker_put_end : CalM P wd K mg base k "Maker" "put_end" 4 g_Maker_put_end []) (C_Maker_put_word_what : CalMK P wd K mg base 2 "Maker" "put" 0 ["word", "what"] 4 f_Maker_put (gV_Maker_put_word_what K) gD_Maker_put_word_what) (C_Maker_caught : CalM P wd K mg base 4 "Maker" "caught" 2 f_Maker_caught []) (C_Maker_new_box : CalM P wd K mg base 1 "Maker" "new_box" 1 f_Maker_new_box []) (C_Maker_put_word_what_more : CalMK P wd K mg base 2 "Maker" "put" 0 ["word", "what", "more"] 4 f_Maker_put (gV_Maker_put_word_what_more K) gD_Maker_put_word_what_more) (C_Maker_begin : CalM P wd K mg base 3 "Maker" "begin" 3 f_Maker_begin []) : CalM P wd K mg base (k + 1) "Maker" "attempt" 2 (fnM 19 (m_Maker_attempt f_Maker_new_label g_Maker_body g_Maker_put_end f_Maker_put f_Maker_caught f_Maker_new_box f_Maker_begin)) [] := by
  obtain ⟨⟨h1, h2⟩, fd, F⟩ := T.d_Maker_attempt
  exact ⟨⟨_, fd, _, [], h1, h2, F.bindsN (ps := ["self", "row"]) fun _ _ _ _ _ _ us hl => match us, hl with | [_, _], _ => rfl, .nil, okf_Maker_attempt T F hk C_Maker_new_label C_Maker_body C_Maker_put_end C_Maker_put_word_what C_Maker_caught C_Maker_new_box C_Maker_put_word_what_more C_Maker_begin⟩⟩
theorem okf_Maker_body (T : Tx K mg) {fd : FuncData} (F : FunD K "body" "Maker.body" (defArgs S_Maker_body) (defBody S_Maker_body) (defScope S_Maker_body) [] [] (He.ma K (He.ga K "Maker") "body") fd) {k : Nat} (hk : 12 ≤ k) {g_Maker_row : List Da → Mo Da} (C_Maker_row : CalM P wd K mg base k "Maker" "row" 2 g_Maker_row []) : FnOk P wd K mg base (L2.CX P wd) (k + 1) (He.ma K (He.ga K "Maker") "body") fd ["self", "rows", "path"] (SpOf K 3 (fnM 6 (m_Maker_body g_Maker_row))) := by
  refine ok_of F sc_Maker_body rfl rfl fun cdv A outer s H E hr => ?_
  have nd := sc_Maker_body.nd
  have tk : Takes (cxOf (L2.CX P wd) P wd K mg base NN_Maker_body "Maker.body" (defScope S_Maker_body) (He.ma K (He.ga K "Maker") "body") cdv A outer s H E) (fun cls d _ H => E cls d H) := takes_of rfl rfl rfl rfl
  have hx : ∀ σ, PassesAt (L2.CX P wd) (cxOf (L2.CX P wd) P wd K mg base NN_Maker_body "Maker.body" (defScope S_Maker_body) (He.ma K (He.ga K "Maker") "body") cdv A outer s H E) σ E := fun σ => passAt (W := fun cls d _ H => E cls d H) (takes_of rfl rfl rfl rfl) σ
  have hx0 : ∀ {X : Cx} (σ : L2.St), PassesAt (L2.CX X.prog X.w) X σ E0 := fun σ pins H s e s' I c => passL pins σ H s e s' I c
  have po : PassesOwn (model P wd) (cxOf (L2.CX P wd) P wd K mg base NN_Maker_body "Maker.body" (defScope S_Maker_body) (He.ma K (He.ga K "Maker") "body") cdv A outer s H E).A (cxOf (L2.CX P wd) P wd K mg base NN_Maker_body "Maker.body" (defScope S_Maker_body) (He.ma K (He.ga K "Maker") "body") cdv A outer s H E).env (cxOf (L2.CX P wd) P wd K mg base NN_Maker_body "Maker.body" (defScope S_Maker_body) (He.ma K (He.ga K "Maker") "body") cdv A outer s H E).xe := passes_of rfl
  have qq : QB (cxOf (L2.CX P wd) P wd K mg base NN_Maker_body "Maker.body" (defScope S_Maker_body) (He.ma K (He.ga K "Maker") "body") cdv A outer s H E) (fun _ => E) (defBody S_Maker_body) _ (m_Maker_body g_Maker_row) :=
  (qb_cons (qs_set 3 nd (q_fld T.q_Maker_path (q_var 0)))
  (qb_cons (qs_for po (by rfl) (qi_enum T.n_enumerate (qa_cons (q_var 1) qa_nil)) (qg_tup 2 (by rfl) (qgs_cons (qg_name 4 nd) (qgs_cons (qg_name 5 nd) qgs_nil))) (qb_cons (qs_fld T.q_Maker_path (q_op q_add (q_var 2) (q_tup (qa_cons (q_var 4) qa_nil))) (q_var 0))
  (qb_one (qs_expr (q_meth C_Maker_row (hr.mono (by omega)) hx (q_var 0) (qa_cons (q_var 5) qa_nil))))))
  (qb_one (qs_fld T.q_Maker_path (q_var 3) (q_var 0)))))
  exact ⟨_, qq.ps, qq.ss⟩
theorem ok_Maker_body (T : Tx K mg) {k : Nat} (hk : 12 ≤ k) {g_Maker_row : List Da → Mo Da} (C_Maker_row : CalM P wd K mg base k "Maker" "row" 2 g_Maker_row []) : CalM P wd K mg base (k + 1) "Maker" "body" 3 (fnM 6 (m_Maker_body g_Maker_row)) [] := by
  obtain ⟨⟨h1, h2⟩, fd, F⟩ := T.d_Maker_body
  exact ⟨⟨_, fd, _, [], h1, h2, F.bindsN (ps := ["self", "rows", "path"]) fun _ _ _ _ _ _ us hl => match us, hl with | [_, _, _], _ => rfl, .nil, okf_Maker_body T F hk C_Maker_row⟩⟩
theorem okf_Maker_choice (T : Tx K mg) {fd : FuncData} (F : FunD K "choice" "Maker.choice" (defArgs S_Maker_choice) (defBody S_Maker_choice) (defScope S_Maker_choice) [] [] (He.ma K (He.ga K "Maker") "choice") fd) {k : Nat} (hk : 12 ≤ k) {g_Maker_body : List Da → Mo Da} (C_Maker_new_label : CalM P wd K mg base 1 "Maker" "new_label" 1 f_Maker_new_label []) (C_Maker_worth : CalM P wd K mg base 12 "Maker" "worth" 2 (f_Maker_worth 10) []) (C_Maker_put_word_what : CalMK P wd K mg base 2 "Maker" "put" 0 ["word", "what"] 4 f_Maker_put (gV_Maker_put_word_what K) gD_Maker_put_word_what) (C_Maker_body : CalM P wd K mg base k "Maker" "body" 3 g_Maker_body []) (C_Maker_begin : CalM P wd K mg base 3 "Maker" "begin" 3 f_Maker_begin []) : FnOk P wd K mg base (L2.CX P wd) (k + 1) (He.ma K (He.ga K "Maker") "choice") fd ["self", "row"] (SpOf K 2 (fnM 4 (m_Maker_choice f_Maker_new_label (f_Maker_worth 10) f_Maker_put g_Maker_body f_Maker_begin))) := by
  refine ok_of F sc_Maker_choice rfl rfl fun cdv A outer s H E hr => ?_
  have nd := sc_Maker_choice.nd
  have tk : Takes (cxOf (L2.CX P wd) P wd K mg base NN_Maker_choice "Maker.choice" (defScope S_Maker_choice) (He.ma K (He.ga K "Maker") "choice") cdv A outer s H E) (fun cls d _ H => E cls d H) := takes_of rfl rfl rfl rfl
  have hx : ∀ σ, PassesAt (L2.CX P wd) (cxOf (L2.CX P wd) P wd K mg base NN_Maker_choice "Maker.choice" (defScope S_Maker_choice) (He.ma K (He.ga K "Maker") "choice") cdv A outer s H E) σ E := fun σ => passAt (W := fun cls d _ H => E cls d H) (takes_of rfl rfl rfl rfl) σ
  have hx0 : ∀ {X : Cx} (σ : L2.St), PassesAt (L2.CX X.prog X.w) X σ E0 := fun σ pins H s e s' I c => passL pins σ H s e s' I c
  have po : PassesOwn (model P wd) (cxOf (L2.CX P wd) P wd K mg base NN_Maker_choice "Maker.choice" (defScope S_Maker_choice) (He.ma K (He.ga K "Maker") "choice") cdv A outer s H E).A (cxOf (L2.CX P wd) P wd K mg base NN_Maker_choice "Maker.choice" (defScope S_Maker_choice) (He.ma K (He.ga K "Maker") "choice") cdv A outer s H E).env (cxOf (L2.CX P wd) P wd K mg base NN_Maker_choice "Maker.choice" (defScope S_Maker_choice) (He.ma K (He.ga K "Maker") "choice") cdv A outer s H E).xe := passes_of rfl
  have qq : QB (cxOf (L2.CX P wd) P wd K mg base NN_Maker_choice "Maker.choice" (defScope S_Maker_choice) (He.ma K (He.ga K "Maker") "choice") cdv A outer s H E) (fun _ => E) (defBody S_Maker_choice) _ (m_Maker_choice f_Maker_new_label (f_Maker_worth 10) f_Maker_put g_Maker_body f_Maker_begin) :=
  (qb_cons (qs_par 2 3 (by rfl) nd (qa_cons (q_meth0 C_Maker_new_label (hr.mono (by omega)) hx (q_var 0)) (qa_cons (q_meth0 C_Maker_new_label (hr.mono (by omega)) hx (q_var 0)) qa_nil)))
  (qb_cons (qs_expr (q_meth C_Maker_worth (hr.mono (by omega)) hx (q_var 0) (qa_cons (q_sub1 (q_var 1) q_int) qa_nil)))
  (qb_cons (qs_expr (q_methK0 C_Maker_put_word_what (hr.mono (by omega)) hx (q_var 0) (qk_cons q_str (qk_cons (q_var 2) qk_nil))))
  (qb_cons (qs_expr (q_meth C_Maker_body (hr.mono (by omega)) hx (q_var 0) (qa_cons (q_sub1 (q_var 1) q_int) (qa_cons (q_op q_add (q_fld T.q_Maker_path (q_var 0)) (q_tup (qa_cons q_int qa_nil))) qa_nil))))
  (qb_cons (qs_expr (q_methK0 C_Maker_put_word_what (hr.mono (by omega)) hx (q_var 0) (qk_cons q_str (qk_cons (q_var 3) qk_nil))))
  (qb_cons (qs_expr (q_meth C_Maker_begin (hr.mono (by omega)) hx (q_var 0) (qa_cons (q_var 2) (qa_cons (q_fld T.q_Block_warmth (q_fld T.q_Maker_now (q_var 0))) qa_nil))))
  (qb_cons (qs_expr (q_meth C_Maker_body (hr.mono (by omega)) hx (q_var 0) (qa_cons (q_sub1 (q_var 1) q_int) (qa_cons (q_op q_add (q_fld T.q_Maker_path (q_var 0)) (q_tup (qa_cons q_int qa_nil))) qa_nil))))
  (qb_one (qs_expr (q_meth C_Maker_begin (hr.mono (by omega)) hx (q_var 0) (qa_cons (q_var 3) (qa_cons (q_fld T.q_Block_warmth (q_fld T.q_Maker_now (q_var 0))) qa_nil))))))))))))
  exact ⟨_, qq.ps, qq.ss⟩
theorem ok_Maker_choice (T : Tx K mg) {k : Nat} (hk : 12 ≤ k) {g_Maker_body : List Da → Mo Da} (C_Maker_new_label : CalM P wd K mg base 1 "Maker" "new_label" 1 f_Maker_new_label []) (C_Maker_worth : CalM P wd K mg base 12 "Maker" "worth" 2 (f_Maker_worth 10) []) (C_Maker_put_word_what : CalMK P wd K mg base 2 "Maker" "put" 0 ["word", "what"] 4 f_Maker_put (gV_Maker_put_word_what K) gD_Maker_put_word_what) (C_Maker_body : CalM P wd K mg base k "Maker" "body" 3 g_Maker_body []) (C_Maker_begin : CalM P wd K mg base 3 "Maker" "begin" 3 f_Maker_begin []) : CalM P wd K mg base (k + 1) "Maker" "choice" 2 (fnM 4 (m_Maker_choice f_Maker_new_label (f_Maker_worth 10) f_Maker_put g_Maker_body f_Maker_begin)) [] := by
  obtain ⟨⟨h1, h2⟩, fd, F⟩ := T.d_Maker_choice
  exact ⟨⟨_, fd, _, [], h1, h2, F.bindsN (ps := ["self", "row"]) fun _ _ _ _ _ _ us hl => match us, hl with | [_, _], _ => rfl, .nil, okf_Maker_choice T F hk C_Maker_new_label C_Maker_worth C_Maker_put_word_what C_Maker_body C_Maker_begin⟩⟩
theorem okf_Maker_leave_all (T : Tx K mg) {fd : FuncData} (F : FunD K "leave_all" "Maker.leave_all" (defArgs S_Maker_leave_all) (defBody S_Maker_leave_all) (defScope S_Maker_leave_all) [] [] (He.ma K (He.ga K "Maker") "leave_all") fd) {k : Nat} (hk : 12 ≤ k) {g_Maker_leave_to : List Da → Mo Da} (C_Maker_new_box : CalM P wd K mg base 1 "Maker" "new_box" 1 f_Maker_new_box []) (C_Maker_worth : CalM P wd K mg base 12 "Maker" "worth" 2 (f_Maker_worth 10) []) (C_Maker_put_word_what : CalMK P wd K mg base 2 "Maker" "put" 0 ["word", "what"] 4 f_Maker_put (gV_Maker_put_word_what K) gD_Maker_put_word_what) (C_Maker_leave_to : CalM P wd K mg base k "Maker" "leave_to" 2 g_Maker_leave_to []) (C_Maker_put_word : CalMK P wd K mg base 2 "Maker" "put" 0 ["word"] 4 f_Maker_put (gV_Maker_put_word K) gD_Maker_put_word) (C_Maker_begin : CalM P wd K mg base 3 "Maker" "begin" 3 f_Maker_begin []) (C_Maker_new_label : CalM P wd K mg base 1 "Maker" "new_label" 1 f_Maker_new_label []) : FnOk P wd K mg base (L2.CX P wd) (k + 1) (He.ma K (He.ga K "Maker") "leave_all") fd ["self", "worth"] (SpOf K 2 (fnM 3 (m_Maker_leave_all f_Maker_new_box (f_Maker_worth 10) f_Maker_put g_Maker_leave_to f_Maker_begin f_Maker_new_label))) := by
  refine ok_of F sc_Maker_leave_all rfl rfl fun cdv A outer s H E hr => ?_
  have nd := sc_Maker_leave_all.nd
  have tk : Takes (cxOf (L2.CX P wd) P wd K mg base NN_Maker_leave_all "Maker.leave_all" (defScope S_Maker_leave_all) (He.ma K (He.ga K "Maker") "leave_all") cdv A outer s H E) (fun cls d _ H => E cls d H) := takes_of rfl rfl rfl rfl
  have hx : ∀ σ, PassesAt (L2.CX P wd) (cxOf (L2.CX P wd) P wd K mg base NN_Maker_leave_all "Maker.leave_all" (defScope S_Maker_leave_all) (He.ma K (He.ga K "Maker") "leave_all") cdv A outer s H E) σ E := fun σ => passAt (W := fun cls d _ H => E cls d H) (takes_of rfl rfl rfl rfl) σ
  have hx0 : ∀ {X : Cx} (σ : L2.St), PassesAt (L2.CX X.prog X.w) X σ E0 := fun σ pins H s e s' I c => passL pins σ H s e s' I c
  have po : PassesOwn (model P wd) (cxOf (L2.CX P wd) P wd K mg base NN_Maker_leave_all "Maker.leave_all" (defScope S_Maker_leave_all) (He.ma K (He.ga K "Maker") "leave_all") cdv A outer s H E).A (cxOf (L2.CX P wd) P wd K mg base NN_Maker_leave_all "Maker.leave_all" (defScope S_Maker_leave_all) (He.ma K (He.ga K "Maker") "leave_all") cdv A outer s H E).env (cxOf (L2.CX P wd) P wd K mg base NN_Maker_leave_all "Maker.leave_all" (defScope S_Maker_leave_all) (He.ma K (He.ga K "Maker") "leave_all") cdv A outer s H E).xe := passes_of rfl
  have qq : QB (cxOf (L2.CX P wd) P wd K mg base NN_Maker_leave_all "Maker.leave_all" (defScope S_Maker_leave_all) (He.ma K (He.ga K "Maker") "leave_all") cdv A outer s H E) (fun _ => E) (defBody S_Maker_leave_all) _ (m_Maker_leave_all f_Maker_new_box (f_Maker_worth 10) f_Maker_put g_Maker_leave_to f_Maker_begin f_Maker_new_label) :=
  (qb_cons (qs_set 2 nd (q_meth0 C_Maker_new_box (hr.mono (by omega)) hx (q_var 0)))
  (qb_cons (qs_expr (q_meth C_Maker_worth (hr.mono (by omega)) hx (q_var 0) (qa_cons (q_var 1) qa_nil)))
  (qb_cons (qs_expr (q_methK0 C_Maker_put_word_what (hr.mono (by omega)) hx (q_var 0) (qk_cons q_str (qk_cons (q_var 2) qk_nil))))
  (qb_cons (qs_expr (q_meth C_Maker_leave_to (hr.mono (by omega)) hx (q_var 0) (qa_cons q_int qa_nil)))
  (qb_cons (qs_expr (q_methK0 C_Maker_put_word_what (hr.mono (by omega)) hx (q_var 0) (qk_cons q_str (qk_cons (q_var 2) qk_nil))))
  (qb_cons (qs_expr (q_methK0 C_Maker_put_word (hr.mono (by omega)) hx (q_var 0) (qk_cons q_str qk_nil)))
  (qb_one (qs_expr (q_meth C_Maker_begin (hr.mono (by omega)) hx (q_var 0) (qa_cons (q_meth0 C_Maker_new_label (hr.mono (by omega)) hx (q_var 0)) (qa_cons (q_fld T.q_Block_warmth (q_fld T.q_Maker_now (q_var 0))) qa_nil)))))))))))
  exact ⟨_, qq.ps, qq.ss⟩
theorem ok_Maker_leave_all (T : Tx K mg) {k : Nat} (hk : 12 ≤ k) {g_Maker_leave_to : List Da → Mo Da} (C_Maker_new_box : CalM P wd K mg base 1 "Maker" "new_box" 1 f_Maker_new_box []) (C_Maker_worth : CalM P wd K mg base 12 "Maker" "worth" 2 (f_Maker_worth 10) []) (C_Maker_put_word_what : CalMK P wd K mg base 2 "Maker" "put" 0 ["word", "what"] 4 f_Maker_put (gV_Maker_put_word_what K) gD_Maker_put_word_what) (C_Maker_leave_to : CalM P wd K mg base k "Maker" "leave_to" 2 g_Maker_leave_to []) (C_Maker_put_word : CalMK P wd K mg base 2 "Maker" "put" 0 ["word"] 4 f_Maker_put (gV_Maker_put_word K) gD_Maker_put_word) (C_Maker_begin : CalM P wd K mg base 3 "Maker" "begin" 3 f_Maker_begin []) (C_Maker_new_label : CalM P wd K mg base 1 "Maker" "new_label" 1 f_Maker_new_label []) : CalM P wd K mg base (k + 1) "Maker" "leave_all" 2 (fnM 3 (m_Maker_leave_all f_Maker_new_box (f_Maker_worth 10) f_Maker_put g_Maker_leave_to f_Maker_begin f_Maker_new_label)) [] := by
  obtain ⟨⟨h1, h2⟩, fd, F⟩ := T.d_Maker_leave_all
  exact ⟨⟨_, fd, _, [], h1, h2, F.bindsN (ps := ["self", "worth"]) fun _ _ _ _ _ _ us hl => match us, hl with | [_, _], _ => rfl, .nil, okf_Maker_leave_all T F hk C_Maker_new_box C_Maker_worth C_Maker_put_word_what C_Maker_leave_to C_Maker_put_word C_Maker_begin C_Maker_new_label⟩⟩
theorem okf_Maker_leave_loop (T : Tx K mg) {fd : FuncData} (F : FunD K "leave_loop" "Maker.leave_loop" (defArgs S_Maker_leave_loop) (defBody S_Maker_leave_loop) (defScope S_Maker_leave_loop) [] [] (He.ma K (He.ga K "Maker") "leave_loop") fd) {k : Nat} (hk : 12 ≤ k) {g_Maker_leave_to : List Da → Mo Da} (C_Maker_leave_to : CalM P wd K mg base k "Maker" "leave_to" 2 g_Maker_leave_to []) (C_Maker_put_word_what : CalMK P wd K mg base 2 "Maker" "put" 0 ["word", "what"] 4 f_Maker_put (gV_Maker_put_word_what K) gD_Maker_put_word_what) (C_Maker_begin : CalM P wd K mg base 3 "Maker" "begin" 3 f_Maker_begin []) (C_Maker_new_label : CalM P wd K mg base 1 "Maker" "new_label" 1 f_Maker_new_label []) : FnOk P wd K mg base (L2.CX P wd) (k + 1) (He.ma K (He.ga K "Maker") "leave_loop") fd ["self"] (SpOf K 1 (fnM 4 (m_Maker_leave_loop g_Maker_leave_to f_Maker_put f_Maker_begin f_Maker_new_label))) := by
  refine ok_of F sc_Maker_leave_loop rfl rfl fun cdv A outer s H E hr => ?_
  have nd := sc_Maker_leave_loop.nd
  have tk : Takes (cxOf (L2.CX P wd) P wd K mg base NN_Maker_leave_loop "Maker.leave_loop" (defScope S_Maker_leave_loop) (He.ma K (He.ga K "Maker") "leave_loop") cdv A outer s H E) (fun cls d _ H => E cls d H) := takes_of rfl rfl rfl rfl
  have hx : ∀ σ, PassesAt (L2.CX P wd) (cxOf (L2.CX P wd) P wd K mg base NN_Maker_leave_loop "Maker.leave_loop" (defScope S_Maker_leave_loop) (He.ma K (He.ga K "Maker") "leave_loop") cdv A outer s H E) σ E := fun σ => passAt (W := fun cls d _ H => E cls d H) (takes_of rfl rfl rfl rfl) σ
  have hx0 : ∀ {X : Cx} (σ : L2.St), PassesAt (L2.CX X.prog X.w) X σ E0 := fun σ pins H s e s' I c => passL pins σ H s e s' I c
  have po : PassesOwn (model P wd) (cxOf (L2.CX P wd) P wd K mg base NN_Maker_leave_loop "Maker.leave_loop" (defScope S_Maker_leave_loop) (He.ma K (He.ga K "Maker") "leave_loop") cdv A outer s H E).A (cxOf (L2.CX P wd) P wd K mg base NN_Maker_leave_loop "Maker.leave_loop" (defScope S_Maker_leave_loop) (He.ma K (He.ga K "Maker") "leave_loop") cdv A outer s H E).env (cxOf (L2.CX P wd) P wd K mg base NN_Maker_leave_loop "Maker.leave_loop" (defScope S_Maker_leave_loop) (He.ma K (He.ga K "Maker") "leave_loop") cdv A outer s H E).xe := passes_of rfl
  have qq : QB (cxOf (L2.CX P wd) P wd K mg base NN_Maker_leave_loop "Maker.leave_loop" (defScope S_Maker_leave_loop) (He.ma K (He.ga K "Maker") "leave_loop") cdv A outer s H E) (fun _ => E) (defBody S_Maker_leave_loop) _ (m_Maker_leave_loop g_Maker_leave_to f_Maker_put f_Maker_begin f_Maker_new_label) :=
  (qb_cons (qs_set 1 nd (q_max1 (by rfl) T.n_max (qa_cons (q_L (by exact ql_comp (by rfl) nd (qi_r1 T.n_range (qa_cons (q_len T.n_len (qa_cons (q_fld T.q_Maker_leaves (q_var 0)) qa_nil)) qa_nil)) (blkOk_by (own := [("k", 3)]) (N := NN_Maker_leave_loop) (sc := defScope S_Maker_leave_loop) (by decide +kernel)) (fun _ _ _ _ _ => (qg_name 3 nd)) (fun _ _ _ _ _ => (qts_one (qt_cmp (q_eq hr.units) (q_sub1 (q_sub1 (q_fld T.q_Maker_leaves (q_var 0)) (q_var 3)) q_int) q_str))) (fun _ _ _ _ _ => (q_var 3)))) qa_nil)))
  (qb_cons (qs_set 2 nd (q_sub1 (q_sub1 (q_fld T.q_Maker_leaves (q_var 0)) (q_var 1)) q_int))
  (qb_cons (qs_expr (q_meth C_Maker_leave_to (hr.mono (by omega)) hx (q_var 0) (qa_cons (q_op q_add (q_var 1) q_int) qa_nil)))
  (qb_cons (qs_expr (q_methK0 C_Maker_put_word_what (hr.mono (by omega)) hx (q_var 0) (qk_cons q_str (qk_cons (q_var 2) qk_nil))))
  (qb_one (qs_expr (q_meth C_Maker_begin (hr.mono (by omega)) hx (q_var 0) (qa_cons (q_meth0 C_Maker_new_label (hr.mono (by omega)) hx (q_var 0)) (qa_cons (q_fld T.q_Block_warmth (q_fld T.q_Maker_now (q_var 0))) qa_nil)))))))))
  exact ⟨_, qq.ps, qq.ss⟩
theorem ok_Maker_leave_loop (T : Tx K mg) {k : Nat} (hk : 12 ≤ k) {g_Maker_leave_to : List Da → Mo Da} (C_Maker_leave_to : CalM P wd K mg base k "Maker" "leave_to" 2 g_Maker_leave_to []) (C_Maker_put_word_what : CalMK P wd K mg base 2 "Maker" "put" 0 ["word", "what"] 4 f_Maker_put (gV_Maker_put_word_what K) gD_Maker_put_word_what) (C_Maker_begin : CalM P wd K mg base 3 "Maker" "begin" 3 f_Maker_begin []) (C_Maker_new_label : CalM P wd K mg base 1 "Maker" "new_label" 1 f_Maker_new_label []) : CalM P wd K mg base (k + 1) "Maker" "leave_loop" 1 (fnM 4 (m_Maker_leave_loop g_Maker_leave_to f_Maker_put f_Maker_begin f_Maker_new_label)) [] := by
  obtain ⟨⟨h1, h2⟩, fd, F⟩ := T.d_Maker_leave_loop
  exact ⟨⟨_, fd, _, [], h1, h2, F.bindsN (ps := ["self"]) fun _ _ _ _ _ _ us hl => match us, hl with | [_], _ => rfl, .nil, okf_Maker_leave_loop T F hk C_Maker_leave_to C_Maker_put_word_what C_Maker_begin C_Maker_new_label⟩⟩
theorem okf_Maker_leave_to (T : Tx K mg) {fd : FuncData} (F : FunD K "leave_to" "Maker.leave_to" (defArgs S_Maker_leave_to) (defBody S_Maker_leave_to) (defScope S_Maker_leave_to) [] [] (He.ma K (He.ga K "Maker") "leave_to") fd) {k : Nat} (hk : 12 ≤ k) {g_Maker_body : List Da → Mo Da} (C_Maker_body : CalM P wd K mg base k "Maker" "body" 3 g_Maker_body []) : FnOk P wd K mg base (L2.CX P wd) (k + 1) (He.ma K (He.ga K "Maker") "leave_to") fd ["self", "floor"] (SpOf K 2 (fnM 5 (m_Maker_leave_to g_Maker_body))) := by
  refine ok_of F sc_Maker_leave_to rfl rfl fun cdv A outer s H E hr => ?_
  have nd := sc_Maker_leave_to.nd
  have tk : Takes (cxOf (L2.CX P wd) P wd K mg base NN_Maker_leave_to "Maker.leave_to" (defScope S_Maker_leave_to) (He.ma K (He.ga K "Maker") "leave_to") cdv A outer s H E) (fun cls d _ H => E cls d H) := takes_of rfl rfl rfl rfl
  have hx : ∀ σ, PassesAt (L2.CX P wd) (cxOf (L2.CX P wd) P wd K mg base NN_Maker_leave_to "Maker.leave_to" (defScope S_Maker_leave_to) (He.ma K (He.ga K "Maker") "leave_to") cdv A outer s H E) σ E := fun σ => passAt (W := fun cls d _ H => E cls d H) (takes_of rfl rfl rfl rfl) σ
  have hx0 : ∀ {X : Cx} (σ : L2.St), PassesAt (L2.CX X.prog X.w) X σ E0 := fun σ pins H s e s' I c => passL pins σ H s e s' I c
  have po : PassesOwn (model P wd) (cxOf (L2.CX P wd) P wd K mg base NN_Maker_leave_to "Maker.leave_to" (defScope S_Maker_leave_to) (He.ma K (He.ga K "Maker") "leave_to") cdv A outer s H E).A (cxOf (L2.CX P wd) P wd K mg base NN_Maker_leave_to "Maker.leave_to" (defScope S_Maker_leave_to) (He.ma K (He.ga K "Maker") "leave_to") cdv A outer s H E).env (cxOf (L2.CX P wd) P wd K mg base NN_Maker_leave_to "Maker.leave_to" (defScope S_Maker_leave_to) (He.ma K (He.ga K "Maker") "leave_to") cdv A outer s H E).xe := passes_of rfl
  have qq : QB (cxOf (L2.CX P wd) P wd K mg base NN_Maker_leave_to "Maker.leave_to" (defScope S_Maker_leave_to) (He.ma K (He.ga K "Maker") "leave_to") cdv A outer s H E) (fun _ => E) (defBody S_Maker_leave_to) _ (m_Maker_leave_to g_Maker_body) :=
  (qb_cons (qs_par 2 3 (by rfl) nd (qa_cons (q_fld T.q_Maker_leaves (q_var 0)) (qa_cons (q_fld T.q_Maker_chain (q_var 0)) qa_nil)))
  (qb_cons (qs_for po (by rfl) (qi_r3 T.n_range (qa_cons (q_op q_sub (q_len T.n_len (qa_cons (q_var 2) qa_nil)) q_int) (qa_cons (q_op q_sub (q_var 1) q_int) (qa_cons (q_neg q_int) qa_nil)))) (qg_name 4 nd) (qb_one (qs_if (qt_cmp (q_eq hr.units) (q_sub1 (q_sub1 (q_var 2) (q_var 4)) q_int) q_str) (qb_cons (qs_fld T.q_Maker_leaves (q_H (ql_slice (q_var 2) qp_none (qp_some (q_var 4)))) (q_var 0))
  (qb_cons (qs_fld T.q_Maker_chain (q_sub1 (q_sub1 (q_var 2) (q_var 4)) q_int) (q_var 0))
  (qb_one (qs_expr (q_meth C_Maker_body (hr.mono (by omega)) hx (q_var 0) (qa_cons (q_sub1 (q_sub1 (q_var 2) (q_var 4)) q_int) (qa_cons (q_sub1 (q_sub1 (q_var 2) (q_var 4)) q_int) qa_nil))))))) qb_nil)))
  (qb_one (qs_flds2 (by rfl) T.q_Maker_leaves T.q_Maker_chain (q_var 0) (q_var 0) (qa_cons (q_var 2) (qa_cons (q_var 3) qa_nil))))))
  exact ⟨_, qq.ps, qq.ss⟩
theorem ok_Maker_leave_to (T : Tx K mg) {k : Nat} (hk : 12 ≤ k) {g_Maker_body : List Da → Mo Da} (C_Maker_body : CalM P wd K mg base k "Maker" "body" 3 g_Maker_body []) : CalM P wd K mg base (k + 1) "Maker" "leave_to" 2 (fnM 5 (m_Maker_leave_to g_Maker_body)) [] := by
  obtain ⟨⟨h1, h2⟩, fd, F⟩ := T.d_Maker_leave_to
  exact ⟨⟨_, fd, _, [], h1, h2, F.bindsN (ps := ["self", "floor"]) fun _ _ _ _ _ _ us hl => match us, hl with | [_, _], _ => rfl, .nil, okf_Maker_leave_to T F hk C_Maker_body⟩⟩
theorem okf_Maker_loop (T : Tx K mg) {fd : FuncData} (F : FunD K "loop" "Maker.loop" (defArgs S_Maker_loop) (defBody S_Maker_loop) (defScope S_Maker_loop) [] [] (He.ma K (He.ga K "Maker") "loop") fd) {k : Nat} (hk : 12 ≤ k) {g_Maker_body : List Da → Mo Da} (C_Maker_new_label : CalM P wd K mg base 1 "Maker" "new_label" 1 f_Maker_new_label []) (C_Maker_new_box : CalM P wd K mg base 1 "Maker" "new_box" 1 f_Maker_new_box []) (C_Maker_put_word_what : CalMK P wd K mg base 2 "Maker" "put" 0 ["word", "what"] 4 f_Maker_put (gV_Maker_put_word_what K) gD_Maker_put_word_what) (C_Maker_begin : CalM P wd K mg base 3 "Maker" "begin" 3 f_Maker_begin []) (C_Maker_body : CalM P wd K mg base k "Maker" "body" 3 g_Maker_body []) : FnOk P wd K mg base (L2.CX P wd) (k + 1) (He.ma K (He.ga K "Maker") "loop") fd ["self", "row"] (SpOf K 2 (fnM 6 (m_Maker_loop f_Maker_new_label f_Maker_new_box f_Maker_put f_Maker_begin g_Maker_body))) := by
  refine ok_of F sc_Maker_loop rfl rfl fun cdv A outer s H E hr => ?_
  have nd := sc_Maker_loop.nd
  have tk : Takes (cxOf (L2.CX P wd) P wd K mg base NN_Maker_loop "Maker.loop" (defScope S_Maker_loop) (He.ma K (He.ga K "Maker") "loop") cdv A outer s H E) (fun cls d _ H => E cls d H) := takes_of rfl rfl rfl rfl
  have hx : ∀ σ, PassesAt (L2.CX P wd) (cxOf (L2.CX P wd) P wd K mg base NN_Maker_loop "Maker.loop" (defScope S_Maker_loop) (He.ma K (He.ga K "Maker") "loop") cdv A outer s H E) σ E := fun σ => passAt (W := fun cls d _ H => E cls d H) (takes_of rfl rfl rfl rfl) σ
  have hx0 : ∀ {X : Cx} (σ : L2.St), PassesAt (L2.CX X.prog X.w) X σ E0 := fun σ pins H s e s' I c => passL pins σ H s e s' I c
  have po : PassesOwn (model P wd) (cxOf (L2.CX P wd) P wd K mg base NN_Maker_loop "Maker.loop" (defScope S_Maker_loop) (He.ma K (He.ga K "Maker") "loop") cdv A outer s H E).A (cxOf (L2.CX P wd) P wd K mg base NN_Maker_loop "Maker.loop" (defScope S_Maker_loop) (He.ma K (He.ga K "Maker") "loop") cdv A outer s H E).env (cxOf (L2.CX P wd) P wd K mg base NN_Maker_loop "Maker.loop" (defScope S_Maker_loop) (He.ma K (He.ga K "Maker") "loop") cdv A outer s H E).xe := passes_of rfl
  have qq : QB (cxOf (L2.CX P wd) P wd K mg base NN_Maker_loop "Maker.loop" (defScope S_Maker_loop) (He.ma K (He.ga K "Maker") "loop") cdv A outer s H E) (fun _ => E) (defBody S_Maker_loop) _ (m_Maker_loop f_Maker_new_label f_Maker_new_box f_Maker_put f_Maker_begin g_Maker_body) :=
  (qb_cons (qs_par3 2 3 4 (by rfl) nd (qa_cons (q_meth0 C_Maker_new_box (hr.mono (by omega)) hx (q_var 0)) (qa_cons (q_meth0 C_Maker_new_label (hr.mono (by omega)) hx (q_var 0)) (qa_cons (q_meth0 C_Maker_new_label (hr.mono (by omega)) hx (q_var 0)) qa_nil))))
  (qb_cons (qs_expr (q_methK0 C_Maker_put_word_what (hr.mono (by omega)) hx (q_var 0) (qk_cons q_str (qk_cons (q_sub1 (q_var 1) q_int) qk_nil))))
  (qb_cons (qs_expr (q_methK0 C_Maker_put_word_what (hr.mono (by omega)) hx (q_var 0) (qk_cons q_str (qk_cons (q_var 2) qk_nil))))
  (qb_cons (qs_set 5 nd (q_fld T.q_Block_warmth (q_fld T.q_Maker_now (q_var 0))))
  (qb_cons (qs_expr (q_meth C_Maker_begin (hr.mono (by omega)) hx (q_var 0) (qa_cons (q_var 3) (qa_cons (q_var 5) qa_nil))))
  (qb_cons (qs_expr (q_app (q_fld T.q_Maker_leaves (q_var 0)) (q_tup (qa_cons q_str (qa_cons (q_var 4) (qa_cons (q_fld T.q_Maker_chain (q_var 0)) (qa_cons (q_tup qa_nil) qa_nil)))))))
  (qb_cons (qs_expr (q_meth C_Maker_body (hr.mono (by omega)) hx (q_var 0) (qa_cons (q_sub1 (q_var 1) q_int) (qa_cons (q_op q_add (q_fld T.q_Maker_path (q_var 0)) (q_tup (qa_cons q_int qa_nil))) qa_nil))))
  (qb_cons (qs_expr (q_pop (q_fld T.q_Maker_leaves (q_var 0))))
  (qb_cons (qs_expr (q_methK0 C_Maker_put_word_what (hr.mono (by omega)) hx (q_var 0) (qk_cons q_str (qk_cons (q_var 2) qk_nil))))
  (qb_cons (qs_expr (q_methK0 C_Maker_put_word_what (hr.mono (by omega)) hx (q_var 0) (qk_cons q_str (qk_cons (q_var 2) qk_nil))))
  (qb_cons (qs_expr (q_methK0 C_Maker_put_word_what (hr.mono (by omega)) hx (q_var 0) (qk_cons q_str (qk_cons (q_var 4) qk_nil))))
  (qb_cons (qs_expr (q_methK0 C_Maker_put_word_what (hr.mono (by omega)) hx (q_var 0) (qk_cons q_str (qk_cons (q_var 3) qk_nil))))
  (qb_one (qs_expr (q_meth C_Maker_begin (hr.mono (by omega)) hx (q_var 0) (qa_cons (q_var 4) (qa_cons (q_var 5) qa_nil)))))))))))))))))
  exact ⟨_, qq.ps, qq.ss⟩
theorem ok_Maker_loop (T : Tx K mg) {k : Nat} (hk : 12 ≤ k) {g_Maker_body : List Da → Mo Da} (C_Maker_new_label : CalM P wd K mg base 1 "Maker" "new_label" 1 f_Maker_new_label []) (C_Maker_new_box : CalM P wd K mg base 1 "Maker" "new_box" 1 f_Maker_new_box []) (C_Maker_put_word_what : CalMK P wd K mg base 2 "Maker" "put" 0 ["word", "what"] 4 f_Maker_put (gV_Maker_put_word_what K) gD_Maker_put_word_what) (C_Maker_begin : CalM P wd K mg base 3 "Maker" "begin" 3 f_Maker_begin []) (C_Maker_body : CalM P wd K mg base k "Maker" "body" 3 g_Maker_body []) : CalM P wd K mg base (k + 1) "Maker" "loop" 2 (fnM 6 (m_Maker_loop f_Maker_new_label f_Maker_new_box f_Maker_put f_Maker_begin g_Maker_body)) [] := by
  obtain ⟨⟨h1, h2⟩, fd, F⟩ := T.d_Maker_loop
  exact ⟨⟨_, fd, _, [], h1, h2, F.bindsN (ps := ["self", "row"]) fun _ _ _ _ _ _ us hl => match us, hl with | [_, _], _ => rfl, .nil, okf_Maker_loop T F hk C_Maker_new_label C_Maker_new_box C_Maker_put_word_what C_Maker_begin C_Maker_body⟩⟩
theorem okf_Maker_put_end (T : Tx K mg) {fd : FuncData} (F : FunD K "put_end" "Maker.put_end" (defArgs S_Maker_put_end) (defBody S_Maker_put_end) (defScope S_Maker_put_end) [] [] (He.ma K (He.ga K "Maker") "put_end") fd) {k : Nat} (hk : 12 ≤ k) {g_Maker_body : List Da → Mo Da} (C_Maker_body : CalM P wd K mg base k "Maker" "body" 3 g_Maker_body []) : FnOk P wd K mg base (L2.CX P wd) (k + 1) (He.ma K (He.ga K "Maker") "put_end") fd ["self", "last", "outer", "path"] (SpOf K 4 (fnM 6 (m_Maker_put_end g_Maker_body))) := by
  refine ok_of F sc_Maker_put_end rfl rfl fun cdv A outer s H E hr => ?_
  have nd := sc_Maker_put_end.nd
  have tk : Takes (cxOf (L2.CX P wd) P wd K mg base NN_Maker_put_end "Maker.put_end" (defScope S_Maker_put_end) (He.ma K (He.ga K "Maker") "put_end") cdv A outer s H E) (fun cls d _ H => E cls d H) := takes_of rfl rfl rfl rfl
  have hx : ∀ σ, PassesAt (L2.CX P wd) (cxOf (L2.CX P wd) P wd K mg base NN_Maker_put_end "Maker.put_end" (defScope S_Maker_put_end) (He.ma K (He.ga K "Maker") "put_end") cdv A outer s H E) σ E := fun σ => passAt (W := fun cls d _ H => E cls d H) (takes_of rfl rfl rfl rfl) σ
  have hx0 : ∀ {X : Cx} (σ : L2.St), PassesAt (L2.CX X.prog X.w) X σ E0 := fun σ pins H s e s' I c => passL pins σ H s e s' I c
  have po : PassesOwn (model P wd) (cxOf (L2.CX P wd) P wd K mg base NN_Maker_put_end "Maker.put_end" (defScope S_Maker_put_end) (He.ma K (He.ga K "Maker") "put_end") cdv A outer s H E).A (cxOf (L2.CX P wd) P wd K mg base NN_Maker_put_end "Maker.put_end" (defScope S_Maker_put_end) (He.ma K (He.ga K "Maker") "put_end") cdv A outer s H E).env (cxOf (L2.CX P wd) P wd K mg base NN_Maker_put_end "Maker.put_end" (defScope S_Maker_put_end) (He.ma K (He.ga K "Maker") "put_end") cdv A outer s H E).xe := passes_of rfl
  have qq : QB (cxOf (L2.CX P wd) P wd K mg base NN_Maker_put_end "Maker.put_end" (defScope S_Maker_put_end) (He.ma K (He.ga K "Maker") "put_end") cdv A outer s H E) (fun _ => E) (defBody S_Maker_put_end) _ (m_Maker_put_end g_Maker_body) :=
  (qb_one (qs_if (qt_cmp q_isNot (q_var 1) q_non) (qb_cons (qs_par 4 5 (by rfl) nd (qa_cons (q_fld T.q_Maker_leaves (q_var 0)) (qa_cons (q_fld T.q_Maker_chain (q_var 0)) qa_nil)))
  (qb_cons (qs_flds2 (by rfl) T.q_Maker_leaves T.q_Maker_chain (q_var 0) (q_var 0) (qa_cons (q_H (ql_slice (q_var 4) qp_none (qp_some (q_neg q_int)))) (qa_cons (q_var 2) qa_nil)))
  (qb_cons (qs_expr (q_meth C_Maker_body (hr.mono (by omega)) hx (q_var 0) (qa_cons (q_var 1) (qa_cons (q_var 3) qa_nil))))
  (qb_one (qs_flds2 (by rfl) T.q_Maker_leaves T.q_Maker_chain (q_var 0) (q_var 0) (qa_cons (q_var 4) (qa_cons (q_var 5) qa_nil))))))) qb_nil))
  exact ⟨_, qq.ps, qq.ss⟩
theorem ok_Maker_put_end (T : Tx K mg) {k : Nat} (hk : 12 ≤ k) {g_Maker_body : List Da → Mo Da} (C_Maker_body : CalM P wd K mg base k "Maker" "body" 3 g_Maker_body []) : CalM P wd K mg base (k + 1) "Maker" "put_end" 4 (fnM 6 (m_Maker_put_end g_Maker_body)) [] := by
  obtain ⟨⟨h1, h2⟩, fd, F⟩ := T.d_Maker_put_end
  exact ⟨⟨_, fd, _, [], h1, h2, F.bindsN (ps := ["self", "last", "outer", "path"]) fun _ _ _ _ _ _ us hl => match us, hl with | [_, _, _, _], _ => rfl, .nil, okf_Maker_put_end T F hk C_Maker_body⟩⟩
theorem okf_Maker_row (T : Tx K mg) {fd : FuncData} (F : FunD K "row" "Maker.row" (defArgs S_Maker_row) (defBody S_Maker_row) (defScope S_Maker_row) [] [] (He.ma K (He.ga K "Maker") "row") fd) {k : Nat} (hk : 12 ≤ k) {g_Maker_leave_all : List Da → Mo Da} {g_Maker_leave_loop : List Da → Mo Da} {g_Maker_choice : List Da → Mo Da} {g_Maker_loop : List Da → Mo Da} {g_Maker_attempt : List Da → Mo Da} (C_Maker_worth : CalM P wd K mg base 12 "Maker" "worth" 2 (f_Maker_worth 10) []) (C_Maker_put_word_what : CalMK P wd K mg base 2 "Maker" "put" 0 ["word", "what"] 4 f_Maker_put (gV_Maker_put_word_what K) gD_Maker_put_word_what) (C_Maker_put_word : CalMK P wd K mg base 2 "Maker" "put" 0 ["word"] 4 f_Maker_put (gV_Maker_put_word K) gD_Maker_put_word) (C_Maker_leave_all : CalM P wd K mg base k "Maker" "leave_all" 2 g_Maker_leave_all []) (C_Maker_leave_loop : CalM P wd K mg base k "Maker" "leave_loop" 1 g_Maker_leave_loop []) (C_Maker_put_word_what_more : CalMK P wd K mg base 2 "Maker" "put" 0 ["word", "what", "more"] 4 f_Maker_put (gV_Maker_put_word_what_more K) gD_Maker_put_word_what_more) (C_Maker_choice : CalM P wd K mg base k "Maker" "choice" 2 g_Maker_choice []) (C_Maker_loop : CalM P wd K mg base k "Maker" "loop" 2 g_Maker_loop []) (C_Maker_attempt : CalM P wd K mg base k "Maker" "attempt" 2 g_Maker_attempt []) : FnOk P wd K mg base (L2.CX P wd) (k + 1) (He.ma K (He.ga K "Maker") "row") fd ["self", "row"] (SpOf K 2 (fnM 4 (m_Maker_row (f_Maker_worth 10) f_Maker_put g_Maker_leave_all g_Maker_leave_loop g_Maker_choice g_Maker_loop g_Maker_attempt))) := by
  refine ok_of F sc_Maker_row rfl rfl fun cdv A outer s H E hr => ?_
  have nd := sc_Maker_row.nd
  have tk : Takes (cxOf (L2.CX P wd) P wd K mg base NN_Maker_row "Maker.row" (defScope S_Maker_row) (He.ma K (He.ga K "Maker") "row") cdv A outer s H E) (fun cls d _ H => E cls d H) := takes_of rfl rfl rfl rfl
  have hx : ∀ σ, PassesAt (L2.CX P wd) (cxOf (L2.CX P wd) P wd K mg base NN_Maker_row "Maker.row" (defScope S_Maker_row) (He.ma K (He.ga K "Maker") "row") cdv A outer s H E) σ E := fun σ => passAt (W := fun cls d _ H => E cls d H) (takes_of rfl rfl rfl rfl) σ
  have hx0 : ∀ {X : Cx} (σ : L2.St), PassesAt (L2.CX X.prog X.w) X σ E0 := fun σ pins H s e s' I c => passL pins σ H s e s' I c
  have po : PassesOwn (model P wd) (cxOf (L2.CX P wd) P wd K mg base NN_Maker_row "Maker.row" (defScope S_Maker_row) (He.ma K (He.ga K "Maker") "row") cdv A outer s H E).A (cxOf (L2.CX P wd) P wd K mg base NN_Maker_row "Maker.row" (defScope S_Maker_row) (He.ma K (He.ga K "Maker") "row") cdv A outer s H E).env (cxOf (L2.CX P wd) P wd K mg base NN_Maker_row "Maker.row" (defScope S_Maker_row) (He.ma K (He.ga K "Maker") "row") cdv A outer s H E).xe := passes_of rfl
  have qq : QB (cxOf (L2.CX P wd) P wd K mg base NN_Maker_row "Maker.row" (defScope S_Maker_row) (He.ma K (He.ga K "Maker") "row") cdv A outer s H E) (fun _ => E) (defBody S_Maker_row) _ (m_Maker_row (f_Maker_worth 10) f_Maker_put g_Maker_leave_all g_Maker_leave_loop g_Maker_choice g_Maker_loop g_Maker_attempt) :=
  (qb_cons (qs_set 2 nd (q_sub1 (q_var 1) q_int))
  (qb_one (qs_if (qt_cmp (q_inU (room1 hr)) (q_var 2) (q_tup (qa_cons q_str (qa_cons q_str qa_nil)))) (qb_cons (qs_expr (q_meth C_Maker_worth (hr.mono (by omega)) hx (q_var 0) (qa_cons (q_sub1 (q_var 1) q_int) qa_nil)))
  (qb_one (qs_expr (q_methK0 C_Maker_put_word_what (hr.mono (by omega)) hx (q_var 0) (qk_cons (q_ifx (qt_cmp (q_eq hr.units) (q_var 2) q_str) q_str q_str) (qk_cons (q_sub1 (q_var 1) q_int) qk_nil)))))) (qb_one (qs_if (qt_cmp (q_eq hr.units) (q_var 2) q_str) (qb_cons (qs_expr (q_meth C_Maker_worth (hr.mono (by omega)) hx (q_var 0) (qa_cons (q_sub1 (q_var 1) q_int) qa_nil)))
  (qb_one (qs_expr (q_methK0 C_Maker_put_word (hr.mono (by omega)) hx (q_var 0) (qk_cons q_str qk_nil))))) (qb_one (qs_if (qt_cmp (q_eq hr.units) (q_var 2) q_str) (qb_one (qs_expr (q_meth C_Maker_leave_all (hr.mono (by omega)) hx (q_var 0) (qa_cons (q_sub1 (q_var 1) q_int) qa_nil)))) (qb_one (qs_if (qt_cmp (q_eq hr.units) (q_var 2) q_str) (qb_one (qs_expr (q_meth0 C_Maker_leave_loop (hr.mono (by omega)) hx (q_var 0)))) (qb_one (qs_if (qt_cmp (q_eq hr.units) (q_var 2) q_str) (qb_cons (qs_for po (by rfl) (qi_v (q_sub1 (q_var 1) q_int)) (qg_name 3 nd) (qb_one (qs_expr (q_meth C_Maker_worth (hr.mono (by omega)) hx (q_var 0) (qa_cons (q_var 3) qa_nil)))))
  (qb_cons (qs_expr (q_methK0 C_Maker_put_word_what_more (hr.mono (by omega)) hx (q_var 0) (qk_cons q_str (qk_cons (q_sub1 (q_var 1) q_int) (qk_cons (q_len T.n_len (qa_cons (q_sub1 (q_var 1) q_int) qa_nil)) qk_nil)))))
  (qb_one (qs_expr (q_methK0 C_Maker_put_word_what (hr.mono (by omega)) hx (q_var 0) (qk_cons q_str (qk_cons (q_sub1 (q_var 1) q_int) qk_nil))))))) (qb_one (qs_if (qt_cmp (q_eq hr.units) (q_var 2) q_str) (qb_one (qs_expr (q_meth C_Maker_choice (hr.mono (by omega)) hx (q_var 0) (qa_cons (q_var 1) qa_nil)))) (qb_one (qs_if (qt_cmp (q_eq hr.units) (q_var 2) q_str) (qb_one (qs_expr (q_meth C_Maker_loop (hr.mono (by omega)) hx (q_var 0) (qa_cons (q_var 1) qa_nil)))) (qb_one (qs_expr (q_meth C_Maker_attempt (hr.mono (by omega)) hx (q_var 0) (qa_cons (q_var 1) qa_nil)))))))))))))))))))
  exact ⟨_, qq.ps, qq.ss⟩
theorem ok_Maker_row (T : Tx K mg) {k : Nat} (hk : 12 ≤ k) {g_Maker_leave_all : List Da → Mo Da} {g_Maker_leave_loop : List Da → Mo Da} {g_Maker_choice : List Da → Mo Da} {g_Maker_loop : List Da → Mo Da} {g_Maker_attempt : List Da → Mo Da} (C_Maker_worth : CalM P wd K mg base 12 "Maker" "worth" 2 (f_Maker_worth 10) []) (C_Maker_put_word_what : CalMK P wd K mg base 2 "Maker" "put" 0 ["word", "what"] 4 f_Maker_put (gV_Maker_put_word_what K) gD_Maker_put_word_what) (C_Maker_put_word : CalMK P wd K mg base 2 "Maker" "put" 0 ["word"] 4 f_Maker_put (gV_Maker_put_word K) gD_Maker_put_word) (C_Maker_leave_all : CalM P wd K mg base k "Maker" "leave_all" 2 g_Maker_leave_all []) (C_Maker_leave_loop : CalM P wd K mg base k "Maker" "leave_loop" 1 g_Maker_leave_loop []) (C_Maker_put_word_what_more : CalMK P wd K mg base 2 "Maker" "put" 0 ["word", "what", "more"] 4 f_Maker_put (gV_Maker_put_word_what_more K) gD_Maker_put_word_what_more) (C_Maker_choice : CalM P wd K mg base k "Maker" "choice" 2 g_Maker_choice []) (C_Maker_loop : CalM P wd K mg base k "Maker" "loop" 2 g_Maker_loop []) (C_Maker_attempt : CalM P wd K mg base k "Maker" "attempt" 2 g_Maker_attempt []) : CalM P wd K mg base (k + 1) "Maker" "row" 2 (fnM 4 (m_Maker_row (f_Maker_worth 10) f_Maker_put g_Maker_leave_all g_Maker_leave_loop g_Maker_choice g_Maker_loop g_Maker_attempt)) [] := by
  obtain ⟨⟨h1, h2⟩, fd, F⟩ := T.d_Maker_row
  exact ⟨⟨_, fd, _, [], h1, h2, F.bindsN (ps := ["self", "row"]) fun _ _ _ _ _ _ us hl => match us, hl with | [_, _], _ => rfl, .nil, okf_Maker_row T F hk C_Maker_worth C_Maker_put_word_what C_Maker_put_word C_Maker_leave_all C_Maker_leave_loop C_Maker_put_word_what_more C_Maker_choice C_Maker_loop C_Maker_attempt⟩⟩
theorem z_Maker_attempt (T : Tx K mg) : CalM P wd K mg base 12 "Maker" "attempt" 2 (f_Maker_attempt 0) [] := by
  obtain ⟨⟨h1, h2⟩, fd, F⟩ := T.d_Maker_attempt
  exact ⟨⟨_, fd, _, [], h1, h2, F.bindsN (ps := ["self", "row"]) fun _ _ _ _ _ _ us hl => match us, hl with | [_, _], _ => rfl, .nil, fn0 (k := 11) F sc_Maker_attempt rfl⟩⟩
theorem z_Maker_body (T : Tx K mg) : CalM P wd K mg base 12 "Maker" "body" 3 (f_Maker_body 0) [] := by
  obtain ⟨⟨h1, h2⟩, fd, F⟩ := T.d_Maker_body
  exact ⟨⟨_, fd, _, [], h1, h2, F.bindsN (ps := ["self", "rows", "path"]) fun _ _ _ _ _ _ us hl => match us, hl with | [_, _, _], _ => rfl, .nil, fn0 (k := 11) F sc_Maker_body rfl⟩⟩
theorem z_Maker_choice (T : Tx K mg) : CalM P wd K mg base 12 "Maker" "choice" 2 (f_Maker_choice 0) [] := by
  obtain ⟨⟨h1, h2⟩, fd, F⟩ := T.d_Maker_choice
  exact ⟨⟨_, fd, _, [], h1, h2, F.bindsN (ps := ["self", "row"]) fun _ _ _ _ _ _ us hl => match us, hl with | [_, _], _ => rfl, .nil, fn0 (k := 11) F sc_Maker_choice rfl⟩⟩
theorem z_Maker_leave_all (T : Tx K mg) : CalM P wd K mg base 12 "Maker" "leave_all" 2 (f_Maker_leave_all 0) [] := by
  obtain ⟨⟨h1, h2⟩, fd, F⟩ := T.d_Maker_leave_all
  exact ⟨⟨_, fd, _, [], h1, h2, F.bindsN (ps := ["self", "worth"]) fun _ _ _ _ _ _ us hl => match us, hl with | [_, _], _ => rfl, .nil, fn0 (k := 11) F sc_Maker_leave_all rfl⟩⟩
theorem z_Maker_leave_loop (T : Tx K mg) : CalM P wd K mg base 12 "Maker" "leave_loop" 1 (f_Maker_leave_loop 0) [] := by
  obtain ⟨⟨h1, h2⟩, fd, F⟩ := T.d_Maker_leave_loop
  exact ⟨⟨_, fd, _, [], h1, h2, F.bindsN (ps := ["self"]) fun _ _ _ _ _ _ us hl => match us, hl with | [_], _ => rfl, .nil, fn0 (k := 11) F sc_Maker_leave_loop rfl⟩⟩
theorem z_Maker_leave_to (T : Tx K mg) : CalM P wd K mg base 12 "Maker" "leave_to" 2 (f_Maker_leave_to 0) [] := by
  obtain ⟨⟨h1, h2⟩, fd, F⟩ := T.d_Maker_leave_to
  exact ⟨⟨_, fd, _, [], h1, h2, F.bindsN (ps := ["self", "floor"]) fun _ _ _ _ _ _ us hl => match us, hl with | [_, _], _ => rfl, .nil, fn0 (k := 11) F sc_Maker_leave_to rfl⟩⟩
theorem z_Maker_loop (T : Tx K mg) : CalM P wd K mg base 12 "Maker" "loop" 2 (f_Maker_loop 0) [] := by
  obtain ⟨⟨h1, h2⟩, fd, F⟩ := T.d_Maker_loop
  exact ⟨⟨_, fd, _, [], h1, h2, F.bindsN (ps := ["self", "row"]) fun _ _ _ _ _ _ us hl => match us, hl with | [_, _], _ => rfl, .nil, fn0 (k := 11) F sc_Maker_loop rfl⟩⟩
theorem z_Maker_put_end (T : Tx K mg) : CalM P wd K mg base 12 "Maker" "put_end" 4 (f_Maker_put_end 0) [] := by
  obtain ⟨⟨h1, h2⟩, fd, F⟩ := T.d_Maker_put_end
  exact ⟨⟨_, fd, _, [], h1, h2, F.bindsN (ps := ["self", "last", "outer", "path"]) fun _ _ _ _ _ _ us hl => match us, hl with | [_, _, _, _], _ => rfl, .nil, fn0 (k := 11) F sc_Maker_put_end rfl⟩⟩
theorem z_Maker_row (T : Tx K mg) : CalM P wd K mg base 12 "Maker" "row" 2 (f_Maker_row 0) [] := by
  obtain ⟨⟨h1, h2⟩, fd, F⟩ := T.d_Maker_row
  exact ⟨⟨_, fd, _, [], h1, h2, F.bindsN (ps := ["self", "row"]) fun _ _ _ _ _ _ us hl => match us, hl with | [_, _], _ => rfl, .nil, fn0 (k := 11) F sc_Maker_row rfl⟩⟩
theorem recs_Maker_attempt (T : Tx K mg) (C_Maker_new_label : CalM P wd K mg base 1 "Maker" "new_label" 1 f_Maker_new_label []) (C_Maker_put_word_what : CalMK P wd K mg base 2 "Maker" "put" 0 ["word", "what"] 4 f_Maker_put (gV_Maker_put_word_what K) gD_Maker_put_word_what) (C_Maker_caught : CalM P wd K mg base 4 "Maker" "caught" 2 f_Maker_caught []) (C_Maker_new_box : CalM P wd K mg base 1 "Maker" "new_box" 1 f_Maker_new_box []) (C_Maker_put_word_what_more : CalMK P wd K mg base 2 "Maker" "put" 0 ["word", "what", "more"] 4 f_Maker_put (gV_Maker_put_word_what_more K) gD_Maker_put_word_what_more) (C_Maker_begin : CalM P wd K mg base 3 "Maker" "begin" 3 f_Maker_begin []) (C_Maker_worth : CalM P wd K mg base 12 "Maker" "worth" 2 (f_Maker_worth 10) []) (C_Maker_put_word : CalMK P wd K mg base 2 "Maker" "put" 0 ["word"] 4 f_Maker_put (gV_Maker_put_word K) gD_Maker_put_word) : ∀ n : Nat, (CalM P wd K mg base (12 + n) "Maker" "attempt" 2 (f_Maker_attempt n) []) ∧ (CalM P wd K mg base (12 + n) "Maker" "body" 3 (f_Maker_body n) []) ∧ (CalM P wd K mg base (12 + n) "Maker" "choice" 2 (f_Maker_choice n) []) ∧ (CalM P wd K mg base (12 + n) "Maker" "leave_all" 2 (f_Maker_leave_all n) []) ∧ (CalM P wd K mg base (12 + n) "Maker" "leave_loop" 1 (f_Maker_leave_loop n) []) ∧ (CalM P wd K mg base (12 + n) "Maker" "leave_to" 2 (f_Maker_leave_to n) []) ∧ (CalM P wd K mg base (12 + n) "Maker" "loop" 2 (f_Maker_loop n) []) ∧ (CalM P wd K mg base (12 + n) "Maker" "put_end" 4 (f_Maker_put_end n) []) ∧ (CalM P wd K mg base (12 + n) "Maker" "row" 2 (f_Maker_row n) []) := by
  intro n
  induction n with
  | zero => exact ⟨z_Maker_attempt T, z_Maker_body T, z_Maker_choice T, z_Maker_leave_all T, z_Maker_leave_loop T, z_Maker_leave_to T, z_Maker_loop T, z_Maker_put_end T, z_Maker_row T⟩
  | succ n ih =>
    obtain ⟨C_Maker_attempt, C_Maker_body, C_Maker_choice, C_Maker_leave_all, C_Maker_leave_loop, C_Maker_leave_to, C_Maker_loop, C_Maker_put_end, C_Maker_row⟩ := ih
    exact ⟨ok_Maker_attempt T (k := 12 + n) (by omega) C_Maker_new_label C_Maker_body C_Maker_put_end C_Maker_put_word_what C_Maker_caught C_Maker_new_box C_Maker_put_word_what_more C_Maker_begin,
      ok_Maker_body T (k := 12 + n) (by omega) C_Maker_row,
      ok_Maker_choice T (k := 12 + n) (by omega) C_Maker_new_label C_Maker_worth C_Maker_put_word_what C_Maker_body C_Maker_begin,
      ok_Maker_leave_all T (k := 12 + n) (by omega) C_Maker_new_box C_Maker_worth C_Maker_put_word_what C_Maker_leave_to C_Maker_put_word C_Maker_begin C_Maker_new_label,
      ok_Maker_leave_loop T (k := 12 + n) (by omega) C_Maker_leave_to C_Maker_put_word_what C_Maker_begin C_Maker_new_label,
      ok_Maker_leave_to T (k := 12 + n) (by omega) C_Maker_body,
      ok_Maker_loop T (k := 12 + n) (by omega) C_Maker_new_label C_Maker_new_box C_Maker_put_word_what C_Maker_begin C_Maker_body,
      ok_Maker_put_end T (k := 12 + n) (by omega) C_Maker_body,
      ok_Maker_row T (k := 12 + n) (by omega) C_Maker_worth C_Maker_put_word_what C_Maker_put_word C_Maker_leave_all C_Maker_leave_loop C_Maker_put_word_what_more C_Maker_choice C_Maker_loop C_Maker_attempt⟩
theorem okf_Maker_function (T : Tx K mg) {fd : FuncData} (F : FunD K "function" "Maker.function" (defArgs S_Maker_function) (defBody S_Maker_function) (defScope S_Maker_function) [] [] (He.ma K (He.ga K "Maker") "function") fd)  (C_Maker_new_label : CalM P wd K mg base 1 "Maker" "new_label" 1 f_Maker_new_label []) (C_Maker_begin : CalM P wd K mg base 3 "Maker" "begin" 3 f_Maker_begin []) (C_Maker_body : CalM P wd K mg base 112 "Maker" "body" 3 (f_Maker_body 100) []) (C_Maker_put_word_what : CalMK P wd K mg base 2 "Maker" "put" 0 ["word", "what"] 4 f_Maker_put (gV_Maker_put_word_what K) gD_Maker_put_word_what) (C_Maker_put_word : CalMK P wd K mg base 2 "Maker" "put" 0 ["word"] 4 f_Maker_put (gV_Maker_put_word K) gD_Maker_put_word) : FnOk P wd K mg base (L2.CX P wd) (113) (He.ma K (He.ga K "Maker") "function") fd ["self", "goal"] (SpOf K 2 f_Maker_function) := by
  refine ok_of F sc_Maker_function rfl rfl fun cdv A outer s H E hr => ?_
  have nd := sc_Maker_function.nd
  have tk : Takes (cxOf (L2.CX P wd) P wd K mg base NN_Maker_function "Maker.function" (defScope S_Maker_function) (He.ma K (He.ga K "Maker") "function") cdv A outer s H E) (fun cls d _ H => E cls d H) := takes_of rfl rfl rfl rfl
  have hx : ∀ σ, PassesAt (L2.CX P wd) (cxOf (L2.CX P wd) P wd K mg base NN_Maker_function "Maker.function" (defScope S_Maker_function) (He.ma K (He.ga K "Maker") "function") cdv A outer s H E) σ E := fun σ => passAt (W := fun cls d _ H => E cls d H) (takes_of rfl rfl rfl rfl) σ
  have hx0 : ∀ {X : Cx} (σ : L2.St), PassesAt (L2.CX X.prog X.w) X σ E0 := fun σ pins H s e s' I c => passL pins σ H s e s' I c
  have po : PassesOwn (model P wd) (cxOf (L2.CX P wd) P wd K mg base NN_Maker_function "Maker.function" (defScope S_Maker_function) (He.ma K (He.ga K "Maker") "function") cdv A outer s H E).A (cxOf (L2.CX P wd) P wd K mg base NN_Maker_function "Maker.function" (defScope S_Maker_function) (He.ma K (He.ga K "Maker") "function") cdv A outer s H E).env (cxOf (L2.CX P wd) P wd K mg base NN_Maker_function "Maker.function" (defScope S_Maker_function) (He.ma K (He.ga K "Maker") "function") cdv A outer s H E).xe := passes_of rfl
  have qq : QB (cxOf (L2.CX P wd) P wd K mg base NN_Maker_function "Maker.function" (defScope S_Maker_function) (He.ma K (He.ga K "Maker") "function") cdv A outer s H E) (fun _ => E) (defBody S_Maker_function) _ (m_Maker_function f_Maker_new_label f_Maker_begin (f_Maker_body 100) f_Maker_put) :=
  (qb_cons (qs_set 2 nd (q_meth0 C_Maker_new_label (hr.mono (by omega)) hx (q_var 0)))
  (qb_cons (qs_fld T.q_Maker_goal (q_var 1) (q_var 0))
  (qb_cons (qs_expr (q_meth C_Maker_begin (hr.mono (by omega)) hx (q_var 0) (qa_cons (q_var 2) (qa_cons (q_gstr T.c_HOT) qa_nil))))
  (qb_cons (qs_fld T.q_Maker_chain (q_tup qa_nil) (q_var 0))
  (qb_cons (qs_fld T.q_Maker_leaves (q_H (ql_disp qa_nil)) (q_var 0))
  (qb_cons (qs_fld T.q_Maker_path (q_tup (qa_cons (q_var 1) qa_nil)) (q_var 0))
  (qb_cons (qs_expr (q_meth C_Maker_body (hr.mono (by omega)) hx (q_var 0) (qa_cons (q_sub1 (q_sub1 (q_fld T.q_Maker_program (q_var 0)) (q_var 1)) q_int) (qa_cons (q_tup (qa_cons (q_var 1) qa_nil)) qa_nil))))
  (qb_cons (qs_expr (q_methK0 C_Maker_put_word_what (hr.mono (by omega)) hx (q_var 0) (qk_cons q_str (qk_cons q_int qk_nil))))
  (qb_cons (qs_expr (q_methK0 C_Maker_put_word (hr.mono (by omega)) hx (q_var 0) (qk_cons q_str qk_nil)))
  (qb_one (qs_ret (q_var 2))))))))))))
  exact ⟨_, qq.ps, qq.ss⟩
theorem ok_Maker_function (T : Tx K mg)  (C_Maker_new_label : CalM P wd K mg base 1 "Maker" "new_label" 1 f_Maker_new_label []) (C_Maker_begin : CalM P wd K mg base 3 "Maker" "begin" 3 f_Maker_begin []) (C_Maker_body : CalM P wd K mg base 112 "Maker" "body" 3 (f_Maker_body 100) []) (C_Maker_put_word_what : CalMK P wd K mg base 2 "Maker" "put" 0 ["word", "what"] 4 f_Maker_put (gV_Maker_put_word_what K) gD_Maker_put_word_what) (C_Maker_put_word : CalMK P wd K mg base 2 "Maker" "put" 0 ["word"] 4 f_Maker_put (gV_Maker_put_word K) gD_Maker_put_word) : CalM P wd K mg base (113) "Maker" "function" 2 f_Maker_function [] := by
  obtain ⟨⟨h1, h2⟩, fd, F⟩ := T.d_Maker_function
  exact ⟨⟨_, fd, _, [], h1, h2, F.bindsN (ps := ["self", "goal"]) fun _ _ _ _ _ _ us hl => match us, hl with | [_, _], _ => rfl, .nil, okf_Maker_function T F  C_Maker_new_label C_Maker_begin C_Maker_body C_Maker_put_word_what C_Maker_put_word⟩⟩
theorem okf_falls (T : Tx K mg) {fd : FuncData} (F : FunD K "falls" "falls" (defArgs S_falls) (defBody S_falls) (defScope S_falls) [] [] (He.ga K "falls") fd)   : FnOk P wd K mg base (L2.CX P wd) (1) (He.ga K "falls") fd ["block"] (SpOf K 1 f_falls) := by
  refine ok_of F sc_falls rfl rfl fun cdv A outer s H E hr => ?_
  have nd := sc_falls.nd
  have tk : Takes (cxOf (L2.CX P wd) P wd K mg base NN_falls "falls" (defScope S_falls) (He.ga K "falls") cdv A outer s H E) (fun cls d _ H => E cls d H) := takes_of rfl rfl rfl rfl
  have hx : ∀ σ, PassesAt (L2.CX P wd) (cxOf (L2.CX P wd) P wd K mg base NN_falls "falls" (defScope S_falls) (He.ga K "falls") cdv A outer s H E) σ E := fun σ => passAt (W := fun cls d _ H => E cls d H) (takes_of rfl rfl rfl rfl) σ
  have hx0 : ∀ {X : Cx} (σ : L2.St), PassesAt (L2.CX X.prog X.w) X σ E0 := fun σ pins H s e s' I c => passL pins σ H s e s' I c
  have po : PassesOwn (model P wd) (cxOf (L2.CX P wd) P wd K mg base NN_falls "falls" (defScope S_falls) (He.ga K "falls") cdv A outer s H E).A (cxOf (L2.CX P wd) P wd K mg base NN_falls "falls" (defScope S_falls) (He.ga K "falls") cdv A outer s H E).env (cxOf (L2.CX P wd) P wd K mg base NN_falls "falls" (defScope S_falls) (He.ga K "falls") cdv A outer s H E).xe := passes_of rfl
  have qq : QB (cxOf (L2.CX P wd) P wd K mg base NN_falls "falls" (defScope S_falls) (He.ga K "falls") cdv A outer s H E) (fun _ => E) (defBody S_falls) _ (m_falls ) :=
  (qb_one (qs_ret (q_or (q_cmp (q_eqE hr.units) (q_fld T.q_Block_Code_rows (q_var 0)) (q_L (ql_disp qa_nil))) (q_one (q_cmp (q_notInU (room1 hr)) (q_sub1 (q_sub1 (q_sub1 (q_fld T.q_Block_Code_rows (q_var 0)) (q_neg q_int)) q_int) q_int) (q_gdat T.c_ENDS T.r_ENDS))))))
  exact ⟨_, qq.ps, qq.ss⟩
theorem ok_falls (T : Tx K mg)   : Cal P wd K mg base (1) "falls" 1 f_falls [] := by
  obtain ⟨h1, fd, F⟩ := T.d_falls
  exact ⟨⟨_, fd, _, [], h1, F.kp, F.bindsN (ps := ["block"]) fun _ _ _ _ _ _ us hl => match us, hl with | [_], _ => rfl, .nil, okf_falls T F  ⟩⟩
theorem okf_found_in (T : Tx K mg) {fd : FuncData} (F : FunD K "found_in" "found_in" (defArgs S_found_in) (defBody S_found_in) (defScope S_found_in) [] [] (He.ga K "found_in") fd)   : FnOk P wd K mg base (L2.CX P wd) (1) (He.ga K "found_in") fd ["table", "place"] (SpOf K 2 f_found_in) := by
  refine ok_of F sc_found_in rfl rfl fun cdv A outer s H E hr => ?_
  have nd := sc_found_in.nd
  have tk : Takes (cxOf (L2.CX P wd) P wd K mg base NN_found_in "found_in" (defScope S_found_in) (He.ga K "found_in") cdv A outer s H E) (fun cls d _ H => E cls d H) := takes_of rfl rfl rfl rfl
  have hx : ∀ σ, PassesAt (L2.CX P wd) (cxOf (L2.CX P wd) P wd K mg base NN_found_in "found_in" (defScope S_found_in) (He.ga K "found_in") cdv A outer s H E) σ E := fun σ => passAt (W := fun cls d _ H => E cls d H) (takes_of rfl rfl rfl rfl) σ
  have hx0 : ∀ {X : Cx} (σ : L2.St), PassesAt (L2.CX X.prog X.w) X σ E0 := fun σ pins H s e s' I c => passL pins σ H s e s' I c
  have po : PassesOwn (model P wd) (cxOf (L2.CX P wd) P wd K mg base NN_found_in "found_in" (defScope S_found_in) (He.ga K "found_in") cdv A outer s H E).A (cxOf (L2.CX P wd) P wd K mg base NN_found_in "found_in" (defScope S_found_in) (He.ga K "found_in") cdv A outer s H E).env (cxOf (L2.CX P wd) P wd K mg base NN_found_in "found_in" (defScope S_found_in) (He.ga K "found_in") cdv A outer s H E).xe := passes_of rfl
  have qq : QB (cxOf (L2.CX P wd) P wd K mg base NN_found_in "found_in" (defScope S_found_in) (He.ga K "found_in") cdv A outer s H E) (fun _ => E) (defBody S_found_in) _ (m_found_in ) :=
  (qb_cons (qs_par 2 3 (by rfl) nd (qa_cons q_int (qa_cons (q_len T.n_len (qa_cons (q_var 0) qa_nil)) qa_nil)))
  (qb_cons (qs_while 1000000 po (qt_cmp q_lt (q_var 2) (q_var 3)) (qb_cons (qs_set 4 nd (q_op q_fdiv (q_op q_add (q_var 2) (q_var 3)) q_int))
  (qb_one (qs_if (qt_cmp q_le (q_sub1 (q_sub1 (q_var 0) (q_var 4)) q_int) (q_var 1)) (qb_one (qs_set 2 nd (q_op q_add (q_var 4) q_int))) (qb_one (qs_set 3 nd (q_var 4)))))))
  (qb_one (qs_ret (q_ifx (qt_w (qw_and (qt_cmp q_lt (q_var 2) (q_len T.n_len (qa_cons (q_var 0) qa_nil))) (qw_and1 (qt_cmp q_le (q_sub1 (q_sub1 (q_var 0) (q_var 2)) q_int) (q_var 1))))) (q_sub1 (q_sub1 (q_var 0) (q_var 2)) q_int) (q_tup qa_nil))))))
  exact ⟨_, qq.ps, qq.ss⟩
theorem ok_found_in (T : Tx K mg)   : Cal P wd K mg base (1) "found_in" 2 f_found_in [] := by
  obtain ⟨h1, fd, F⟩ := T.d_found_in
  exact ⟨⟨_, fd, _, [], h1, F.kp, F.bindsN (ps := ["table", "place"]) fun _ _ _ _ _ _ us hl => match us, hl with | [_, _], _ => rfl, .nil, okf_found_in T F  ⟩⟩
theorem okf_Machine_search (T : Tx K mg) {fd : FuncData} (F : FunD K "search" "Machine.search" (defArgs S_Machine_search) (defBody S_Machine_search) (defScope S_Machine_search) [] [] (He.ma K (He.ga K "Machine") "search") fd)  (C_Machine_instruction : CalM P wd K mg base 1 "Machine" "instruction" 1 f_Machine_instruction []) (C_found_in : Cal P wd K mg base 1 "found_in" 2 f_found_in []) : FnOk P wd K mg base (L2.CX P wd) (2) (He.ma K (He.ga K "Machine") "search") fd ["self", "kind"] (SpOf K 2 f_Machine_search) := by
  refine ok_of F sc_Machine_search rfl rfl fun cdv A outer s H E hr => ?_
  have nd := sc_Machine_search.nd
  have tk : Takes (cxOf (L2.CX P wd) P wd K mg base NN_Machine_search "Machine.search" (defScope S_Machine_search) (He.ma K (He.ga K "Machine") "search") cdv A outer s H E) (fun cls d _ H => E cls d H) := takes_of rfl rfl rfl rfl
  have hx : ∀ σ, PassesAt (L2.CX P wd) (cxOf (L2.CX P wd) P wd K mg base NN_Machine_search "Machine.search" (defScope S_Machine_search) (He.ma K (He.ga K "Machine") "search") cdv A outer s H E) σ E := fun σ => passAt (W := fun cls d _ H => E cls d H) (takes_of rfl rfl rfl rfl) σ
  have hx0 : ∀ {X : Cx} (σ : L2.St), PassesAt (L2.CX X.prog X.w) X σ E0 := fun σ pins H s e s' I c => passL pins σ H s e s' I c
  have po : PassesOwn (model P wd) (cxOf (L2.CX P wd) P wd K mg base NN_Machine_search "Machine.search" (defScope S_Machine_search) (He.ma K (He.ga K "Machine") "search") cdv A outer s H E).A (cxOf (L2.CX P wd) P wd K mg base NN_Machine_search "Machine.search" (defScope S_Machine_search) (He.ma K (He.ga K "Machine") "search") cdv A outer s H E).env (cxOf (L2.CX P wd) P wd K mg base NN_Machine_search "Machine.search" (defScope S_Machine_search) (He.ma K (He.ga K "Machine") "search") cdv A outer s H E).xe := passes_of rfl
  have qq : QB (cxOf (L2.CX P wd) P wd K mg base NN_Machine_search "Machine.search" (defScope S_Machine_search) (He.ma K (He.ga K "Machine") "search") cdv A outer s H E) (fun _ => E) (defBody S_Machine_search) _ (m_Machine_search f_Machine_instruction f_found_in) :=
  (qb_cons (qs_expr (q_meth0 C_Machine_instruction (hr.mono (by omega)) hx (q_var 0)))
  (qb_cons (qs_for po (by rfl) (qi_r3 T.n_range (qa_cons (q_op q_sub (q_len T.n_len (qa_cons (q_fld T.q_Machine_frames (q_var 0)) qa_nil)) q_int) (qa_cons (q_neg q_int) (qa_cons (q_neg q_int) qa_nil)))) (qg_name 2 nd) (qb_one (qs_for po (by rfl) (qi_v (q_call C_found_in (hr.mono (by omega)) hx (qa_cons (q_fld T.q_Machine_table (q_var 0)) (qa_cons (q_fld T.q_Frame_place (q_sub1 (q_fld T.q_Machine_frames (q_var 0)) (q_var 2))) qa_nil)))) (qg_tup 3 (by rfl) (qgs_cons (qg_name 3 nd) (qgs_cons (qg_name 4 nd) (qgs_cons (qg_name 5 nd) qgs_nil)))) (qb_one (qs_if (qt_w (qw_and (qt_not (qt_val (q_var 5))) (qw_and1 (qt_w (qw_or (qt_cmp q_is (q_var 3) q_non) (qw_or1 (qt_cmp (q_eq hr.units) (q_var 3) (q_var 1)))))))) (qb_one (qs_ret (q_tup (qa_cons (q_var 2) (qa_cons (q_var 4) qa_nil))))) qb_nil)))))
  (qb_one (qs_ret q_non))))
  exact ⟨_, qq.ps, qq.ss⟩
theorem ok_Machine_search (T : Tx K mg)  (C_Machine_instruction : CalM P wd K mg base 1 "Machine" "instruction" 1 f_Machine_instruction []) (C_found_in : Cal P wd K mg base 1 "found_in" 2 f_found_in []) : CalM P wd K mg base (2) "Machine" "search" 2 f_Machine_search [] := by
  obtain ⟨⟨h1, h2⟩, fd, F⟩ := T.d_Machine_search
  exact ⟨⟨_, fd, _, [], h1, h2, F.bindsN (ps := ["self", "kind"]) fun _ _ _ _ _ _ us hl => match us, hl with | [_, _], _ => rfl, .nil, okf_Machine_search T F  C_Machine_instruction C_found_in⟩⟩
theorem okf_Machine_thrown (T : Tx K mg) {fd : FuncData} (F : FunD K "thrown" "Machine.thrown" (defArgs S_Machine_thrown) (defBody S_Machine_thrown) (defScope S_Machine_thrown) [] [] (He.ma K (He.ga K "Machine") "thrown") fd)  (C_found_in : Cal P wd K mg base 1 "found_in" 2 f_found_in []) : FnOk P wd K mg base (L2.CX P wd) (2) (He.ma K (He.ga K "Machine") "thrown") fd ["self", "kind", "number"] (SpOf K 3 f_Machine_thrown) := by
  refine ok_of F sc_Machine_thrown rfl rfl fun cdv A outer s H E hr => ?_
  have nd := sc_Machine_thrown.nd
  have tk : Takes (cxOf (L2.CX P wd) P wd K mg base NN_Machine_thrown "Machine.thrown" (defScope S_Machine_thrown) (He.ma K (He.ga K "Machine") "thrown") cdv A outer s H E) (fun cls d _ H => E cls d H) := takes_of rfl rfl rfl rfl
  have hx : ∀ σ, PassesAt (L2.CX P wd) (cxOf (L2.CX P wd) P wd K mg base NN_Machine_thrown "Machine.thrown" (defScope S_Machine_thrown) (He.ma K (He.ga K "Machine") "thrown") cdv A outer s H E) σ E := fun σ => passAt (W := fun cls d _ H => E cls d H) (takes_of rfl rfl rfl rfl) σ
  have hx0 : ∀ {X : Cx} (σ : L2.St), PassesAt (L2.CX X.prog X.w) X σ E0 := fun σ pins H s e s' I c => passL pins σ H s e s' I c
  have po : PassesOwn (model P wd) (cxOf (L2.CX P wd) P wd K mg base NN_Machine_thrown "Machine.thrown" (defScope S_Machine_thrown) (He.ma K (He.ga K "Machine") "thrown") cdv A outer s H E).A (cxOf (L2.CX P wd) P wd K mg base NN_Machine_thrown "Machine.thrown" (defScope S_Machine_thrown) (He.ma K (He.ga K "Machine") "thrown") cdv A outer s H E).env (cxOf (L2.CX P wd) P wd K mg base NN_Machine_thrown "Machine.thrown" (defScope S_Machine_thrown) (He.ma K (He.ga K "Machine") "thrown") cdv A outer s H E).xe := passes_of rfl
  have qq : QB (cxOf (L2.CX P wd) P wd K mg base NN_Machine_thrown "Machine.thrown" (defScope S_Machine_thrown) (He.ma K (He.ga K "Machine") "thrown") cdv A outer s H E) (fun _ => E) (defBody S_Machine_thrown) _ (m_Machine_thrown f_found_in) :=
  (qb_cons (qs_while 1000000 po (qt_cmp (q_neE hr.units) (q_fld T.q_Machine_frames (q_var 0)) (q_L (ql_disp qa_nil))) (qb_cons (qs_set 3 nd (q_sub1 (q_fld T.q_Machine_frames (q_var 0)) (q_neg q_int)))
  (qb_cons (qs_for po (by rfl) (qi_v (q_call C_found_in (hr.mono (by omega)) hx (qa_cons (q_fld T.q_Machine_table (q_var 0)) (qa_cons (q_fld T.q_Frame_place (q_var 3)) qa_nil)))) (qg_tup 3 (by rfl) (qgs_cons (qg_name 4 nd) (qgs_cons (qg_name 5 nd) (qgs_cons (qg_name 6 nd) qgs_nil)))) (qb_one (qs_if (qt_w (qw_or (qt_cmp q_is (q_var 4) q_non) (qw_or1 (qt_cmp (q_eq hr.units) (q_var 4) (q_var 1))))) (qb_cons (qs_fld T.q_Frame_stack (q_H (ql_disp (qa_cons (q_var 2) qa_nil))) (q_var 3))
  (qb_cons (qs_fld T.q_Frame_kind (q_var 1) (q_var 3))
  (qb_cons (qs_fld T.q_Frame_place (q_var 5) (q_var 3))
  (qb_one qs_retN)))) qb_nil)))
  (qb_one (qs_expr (q_pop (q_fld T.q_Machine_frames (q_var 0))))))))
  (qb_one (qs_fld T.q_Machine_end (q_tup (qa_cons q_str (qa_cons (q_var 1) (qa_cons (q_var 2) qa_nil)))) (q_var 0))))
  exact ⟨_, qq.ps, qq.ss⟩
theorem ok_Machine_thrown (T : Tx K mg)  (C_found_in : Cal P wd K mg base 1 "found_in" 2 f_found_in []) : CalM P wd K mg base (2) "Machine" "thrown" 3 f_Machine_thrown [] := by
  obtain ⟨⟨h1, h2⟩, fd, F⟩ := T.d_Machine_thrown
  exact ⟨⟨_, fd, _, [], h1, h2, F.bindsN (ps := ["self", "kind", "number"]) fun _ _ _ _ _ _ us hl => match us, hl with | [_, _, _], _ => rfl, .nil, okf_Machine_thrown T F  C_found_in⟩⟩
theorem okf_is_whole (T : Tx K mg) {fd : FuncData} (F : FunD K "is_whole" "is_whole" (defArgs S_is_whole) (defBody S_is_whole) (defScope S_is_whole) [] [] (He.ga K "is_whole") fd)   : FnOk P wd K mg base (L2.CX P wd) (1) (He.ga K "is_whole") fd ["thing", "low", "high"] (SpOf K 3 f_is_whole) := by
  refine ok_of F sc_is_whole rfl rfl fun cdv A outer s H E hr => ?_
  have nd := sc_is_whole.nd
  have tk : Takes (cxOf (L2.CX P wd) P wd K mg base NN_is_whole "is_whole" (defScope S_is_whole) (He.ga K "is_whole") cdv A outer s H E) (fun cls d _ H => E cls d H) := takes_of rfl rfl rfl rfl
  have hx : ∀ σ, PassesAt (L2.CX P wd) (cxOf (L2.CX P wd) P wd K mg base NN_is_whole "is_whole" (defScope S_is_whole) (He.ga K "is_whole") cdv A outer s H E) σ E := fun σ => passAt (W := fun cls d _ H => E cls d H) (takes_of rfl rfl rfl rfl) σ
  have hx0 : ∀ {X : Cx} (σ : L2.St), PassesAt (L2.CX X.prog X.w) X σ E0 := fun σ pins H s e s' I c => passL pins σ H s e s' I c
  have po : PassesOwn (model P wd) (cxOf (L2.CX P wd) P wd K mg base NN_is_whole "is_whole" (defScope S_is_whole) (He.ga K "is_whole") cdv A outer s H E).A (cxOf (L2.CX P wd) P wd K mg base NN_is_whole "is_whole" (defScope S_is_whole) (He.ga K "is_whole") cdv A outer s H E).env (cxOf (L2.CX P wd) P wd K mg base NN_is_whole "is_whole" (defScope S_is_whole) (He.ga K "is_whole") cdv A outer s H E).xe := passes_of rfl
  have qq : QB (cxOf (L2.CX P wd) P wd K mg base NN_is_whole "is_whole" (defScope S_is_whole) (He.ga K "is_whole") cdv A outer s H E) (fun _ => E) (defBody S_is_whole) _ (m_is_whole ) :=
  (qb_one (qs_ret (q_and (q_isi .int T.n_isinstance T.n_int (q_var 0)) (q_and (q_not (q_isi .bool T.n_isinstance T.n_bool (q_var 0))) (q_one (q_chain q_le q_le (q_var 1) (q_var 0) (q_var 2)))))))
  exact ⟨_, qq.ps, qq.ss⟩
theorem ok_is_whole (T : Tx K mg)   : Cal P wd K mg base (1) "is_whole" 3 f_is_whole [] := by
  obtain ⟨h1, fd, F⟩ := T.d_is_whole
  exact ⟨⟨_, fd, _, [], h1, F.kp, F.bindsN (ps := ["thing", "low", "high"]) fun _ _ _ _ _ _ us hl => match us, hl with | [_, _, _], _ => rfl, .nil, okf_is_whole T F  ⟩⟩
theorem okf_Code_look_place (T : Tx K mg) {fd : FuncData} (F : FunD K "look_place" "Code.look_place" (defArgs S_Code_look_place) (defBody S_Code_look_place) (defScope S_Code_look_place) [] [] (He.ma K (He.ga K "Code") "look_place") fd)  (C_is_whole : Cal P wd K mg base 1 "is_whole" 3 f_is_whole []) (C_NoPlace___init__ : CalNp P wd K mg base 1 "NoPlace" "place") : FnOk P wd K mg base (L2.CX P wd) (3) (He.ma K (He.ga K "Code") "look_place") fd ["self", "place"] (SpOf K 2 f_Code_look_place) := by
  refine ok_of F sc_Code_look_place rfl rfl fun cdv A outer s H E hr => ?_
  have nd := sc_Code_look_place.nd
  have tk : Takes (cxOf (L2.CX P wd) P wd K mg base NN_Code_look_place "Code.look_place" (defScope S_Code_look_place) (He.ma K (He.ga K "Code") "look_place") cdv A outer s H E) (fun cls d _ H => E cls d H) := takes_of rfl rfl rfl rfl
  have hx : ∀ σ, PassesAt (L2.CX P wd) (cxOf (L2.CX P wd) P wd K mg base NN_Code_look_place "Code.look_place" (defScope S_Code_look_place) (He.ma K (He.ga K "Code") "look_place") cdv A outer s H E) σ E := fun σ => passAt (W := fun cls d _ H => E cls d H) (takes_of rfl rfl rfl rfl) σ
  have hx0 : ∀ {X : Cx} (σ : L2.St), PassesAt (L2.CX X.prog X.w) X σ E0 := fun σ pins H s e s' I c => passL pins σ H s e s' I c
  have po : PassesOwn (model P wd) (cxOf (L2.CX P wd) P wd K mg base NN_Code_look_place "Code.look_place" (defScope S_Code_look_place) (He.ma K (He.ga K "Code") "look_place") cdv A outer s H E).A (cxOf (L2.CX P wd) P wd K mg base NN_Code_look_place "Code.look_place" (defScope S_Code_look_place) (He.ma K (He.ga K "Code") "look_place") cdv A outer s H E).env (cxOf (L2.CX P wd) P wd K mg base NN_Code_look_place "Code.look_place" (defScope S_Code_look_place) (He.ma K (He.ga K "Code") "look_place") cdv A outer s H E).xe := passes_of rfl
  have qq : QB (cxOf (L2.CX P wd) P wd K mg base NN_Code_look_place "Code.look_place" (defScope S_Code_look_place) (He.ma K (He.ga K "Code") "look_place") cdv A outer s H E) (fun _ => E) (defBody S_Code_look_place) _ (m_Code_look_place f_is_whole) :=
  (qb_one (qs_if (qt_not (qt_val (q_call C_is_whole (hr.mono (by omega)) hx (qa_cons (q_var 1) (qa_cons q_int (qa_cons (q_op q_sub (q_len T.n_len (qa_cons (q_fld T.q_Code_rows (q_var 0)) qa_nil)) q_int) qa_nil)))))) (qb_one (qs_raise1 rfl tk C_NoPlace___init__ (hr.mono (by omega)) (q_var 1))) qb_nil))
  exact ⟨_, qq.ps, qq.ss⟩
theorem ok_Code_look_place (T : Tx K mg)  (C_is_whole : Cal P wd K mg base 1 "is_whole" 3 f_is_whole []) (C_NoPlace___init__ : CalNp P wd K mg base 1 "NoPlace" "place") : CalM P wd K mg base (3) "Code" "look_place" 2 f_Code_look_place [] := by
  obtain ⟨⟨h1, h2⟩, fd, F⟩ := T.d_Code_look_place
  exact ⟨⟨_, fd, _, [], h1, h2, F.bindsN (ps := ["self", "place"]) fun _ _ _ _ _ _ us hl => match us, hl with | [_, _], _ => rfl, .nil, okf_Code_look_place T F  C_is_whole C_NoPlace___init__⟩⟩
theorem okf_Code_caught_by (T : Tx K mg) {fd : FuncData} (F : FunD K "caught_by" "Code.caught_by" (defArgs S_Code_caught_by) (defBody S_Code_caught_by) (defScope S_Code_caught_by) [] [] (He.ma K (He.ga K "Code") "caught_by") fd)  (C_Code_look_place : CalM P wd K mg base 3 "Code" "look_place" 2 f_Code_look_place []) : FnOk P wd K mg base (L2.CX P wd) (4) (He.ma K (He.ga K "Code") "caught_by") fd ["self", "place"] (SpOf K 2 f_Code_caught_by) := by
  refine ok_of F sc_Code_caught_by rfl rfl fun cdv A outer s H E hr => ?_
  have nd := sc_Code_caught_by.nd
  have tk : Takes (cxOf (L2.CX P wd) P wd K mg base NN_Code_caught_by "Code.caught_by" (defScope S_Code_caught_by) (He.ma K (He.ga K "Code") "caught_by") cdv A outer s H E) (fun cls d _ H => E cls d H) := takes_of rfl rfl rfl rfl
  have hx : ∀ σ, PassesAt (L2.CX P wd) (cxOf (L2.CX P wd) P wd K mg base NN_Code_caught_by "Code.caught_by" (defScope S_Code_caught_by) (He.ma K (He.ga K "Code") "caught_by") cdv A outer s H E) σ E := fun σ => passAt (W := fun cls d _ H => E cls d H) (takes_of rfl rfl rfl rfl) σ
  have hx0 : ∀ {X : Cx} (σ : L2.St), PassesAt (L2.CX X.prog X.w) X σ E0 := fun σ pins H s e s' I c => passL pins σ H s e s' I c
  have po : PassesOwn (model P wd) (cxOf (L2.CX P wd) P wd K mg base NN_Code_caught_by "Code.caught_by" (defScope S_Code_caught_by) (He.ma K (He.ga K "Code") "caught_by") cdv A outer s H E).A (cxOf (L2.CX P wd) P wd K mg base NN_Code_caught_by "Code.caught_by" (defScope S_Code_caught_by) (He.ma K (He.ga K "Code") "caught_by") cdv A outer s H E).env (cxOf (L2.CX P wd) P wd K mg base NN_Code_caught_by "Code.caught_by" (defScope S_Code_caught_by) (He.ma K (He.ga K "Code") "caught_by") cdv A outer s H E).xe := passes_of rfl
  have qq : QB (cxOf (L2.CX P wd) P wd K mg base NN_Code_caught_by "Code.caught_by" (defScope S_Code_caught_by) (He.ma K (He.ga K "Code") "caught_by") cdv A outer s H E) (fun _ => E) (defBody S_Code_caught_by) _ (m_Code_caught_by f_Code_look_place) :=
  (qb_cons (qs_expr (q_meth C_Code_look_place (hr.mono (by omega)) hx (q_var 0) (qa_cons (q_var 1) qa_nil)))
  (qb_one (qs_ret (q_sub1 (q_fld T.q_Code_catchers (q_var 0)) (q_var 1)))))
  exact ⟨_, qq.ps, qq.ss⟩
theorem ok_Code_caught_by (T : Tx K mg)  (C_Code_look_place : CalM P wd K mg base 3 "Code" "look_place" 2 f_Code_look_place []) : CalM P wd K mg base (4) "Code" "caught_by" 2 f_Code_caught_by [] := by
  obtain ⟨⟨h1, h2⟩, fd, F⟩ := T.d_Code_caught_by
  exact ⟨⟨_, fd, _, [], h1, h2, F.bindsN (ps := ["self", "place"]) fun _ _ _ _ _ _ us hl => match us, hl with | [_, _], _ => rfl, .nil, okf_Code_caught_by T F  C_Code_look_place⟩⟩
theorem okf_is_chain (T : Tx K mg) {fd : FuncData} (F : FunD K "is_chain" "is_chain" (defArgs S_is_chain) (defBody S_is_chain) (defScope S_is_chain) [] [] (He.ga K "is_chain") fd)  (C_is_whole : Cal P wd K mg base 1 "is_whole" 3 f_is_whole []) : FnOk P wd K mg base (L2.CX P wd) (2) (He.ga K "is_chain") fd ["chain"] (SpOf K 1 f_is_chain) := by
  refine ok_of F sc_is_chain rfl rfl fun cdv A outer s H E hr => ?_
  have nd := sc_is_chain.nd
  have tk : Takes (cxOf (L2.CX P wd) P wd K mg base NN_is_chain "is_chain" (defScope S_is_chain) (He.ga K "is_chain") cdv A outer s H E) (fun cls d _ H => E cls d H) := takes_of rfl rfl rfl rfl
  have hx : ∀ σ, PassesAt (L2.CX P wd) (cxOf (L2.CX P wd) P wd K mg base NN_is_chain "is_chain" (defScope S_is_chain) (He.ga K "is_chain") cdv A outer s H E) σ E := fun σ => passAt (W := fun cls d _ H => E cls d H) (takes_of rfl rfl rfl rfl) σ
  have hx0 : ∀ {X : Cx} (σ : L2.St), PassesAt (L2.CX X.prog X.w) X σ E0 := fun σ pins H s e s' I c => passL pins σ H s e s' I c
  have po : PassesOwn (model P wd) (cxOf (L2.CX P wd) P wd K mg base NN_is_chain "is_chain" (defScope S_is_chain) (He.ga K "is_chain") cdv A outer s H E).A (cxOf (L2.CX P wd) P wd K mg base NN_is_chain "is_chain" (defScope S_is_chain) (He.ga K "is_chain") cdv A outer s H E).env (cxOf (L2.CX P wd) P wd K mg base NN_is_chain "is_chain" (defScope S_is_chain) (He.ga K "is_chain") cdv A outer s H E).xe := passes_of rfl
  have qq : QB (cxOf (L2.CX P wd) P wd K mg base NN_is_chain "is_chain" (defScope S_is_chain) (He.ga K "is_chain") cdv A outer s H E) (fun _ => E) (defBody S_is_chain) _ (m_is_chain f_is_whole) :=
  (qb_cons (qs_if (qt_w (qw_or (qt_not (qt_val (q_isi .tuple T.n_isinstance T.n_tuple (q_var 0)))) (qw_or1 (qt_cmp (q_eq hr.units) (q_var 0) (q_tup qa_nil))))) (qb_one (qs_ret q_bl)) qb_nil)
  (qb_cons (qs_for po (by rfl) (qi_v (q_var 0)) (qg_name 1 nd) (qb_cons (qs_if (qt_w (qw_or (qt_not (qt_val (q_isi .tuple T.n_isinstance T.n_tuple (q_var 1)))) (qw_or (qt_cmp (q_ne hr.units) (q_len T.n_len (qa_cons (q_var 1) qa_nil)) q_int) (qw_or1 (qt_not (qt_val (q_call C_is_whole (hr.mono (by omega)) hx (qa_cons (q_sub1 (q_var 1) q_int) (qa_cons q_int (qa_cons (q_gint T.c_MOST_PLACE) qa_nil)))))))))) (qb_one (qs_ret q_bl)) qb_nil)
  (qb_one (qs_if (qt_w (qw_or (qt_w (qw_and (qt_cmp q_isNot (q_sub1 (q_var 1) q_int) q_non) (qw_and1 (qt_not (qt_val (q_call C_is_whole (hr.mono (by omega)) hx (qa_cons (q_sub1 (q_var 1) q_int) (qa_cons q_int (qa_cons (q_op q_sub (q_gint T.c_KINDS) q_int) qa_nil))))))))) (qw_or1 (qt_not (qt_val (q_isi .bool T.n_isinstance T.n_bool (q_sub1 (q_var 1) q_int))))))) (qb_one (qs_ret q_bl)) qb_nil))))
  (qb_one (qs_ret q_bl))))
  exact ⟨_, qq.ps, qq.ss⟩
theorem ok_is_chain (T : Tx K mg)  (C_is_whole : Cal P wd K mg base 1 "is_whole" 3 f_is_whole []) : Cal P wd K mg base (2) "is_chain" 1 f_is_chain [] := by
  obtain ⟨h1, fd, F⟩ := T.d_is_chain
  exact ⟨⟨_, fd, _, [], h1, F.kp, F.bindsN (ps := ["chain"]) fun _ _ _ _ _ _ us hl => match us, hl with | [_], _ => rfl, .nil, okf_is_chain T F  C_is_whole⟩⟩
theorem okf_is_order (T : Tx K mg) {fd : FuncData} (F : FunD K "is_order" "is_order" (defArgs S_is_order) (defBody S_is_order) (defScope S_is_order) [] [] (He.ga K "is_order") fd)  (C_is_whole : Cal P wd K mg base 1 "is_whole" 3 f_is_whole []) : FnOk P wd K mg base (L2.CX P wd) (2) (He.ga K "is_order") fd ["order", "many"] (SpOf K 2 f_is_order) := by
  refine ok_of F sc_is_order rfl rfl fun cdv A outer s H E hr => ?_
  have nd := sc_is_order.nd
  have tk : Takes (cxOf (L2.CX P wd) P wd K mg base NN_is_order "is_order" (defScope S_is_order) (He.ga K "is_order") cdv A outer s H E) (fun cls d _ H => E cls d H) := takes_of rfl rfl rfl rfl
  have hx : ∀ σ, PassesAt (L2.CX P wd) (cxOf (L2.CX P wd) P wd K mg base NN_is_order "is_order" (defScope S_is_order) (He.ga K "is_order") cdv A outer s H E) σ E := fun σ => passAt (W := fun cls d _ H => E cls d H) (takes_of rfl rfl rfl rfl) σ
  have hx0 : ∀ {X : Cx} (σ : L2.St), PassesAt (L2.CX X.prog X.w) X σ E0 := fun σ pins H s e s' I c => passL pins σ H s e s' I c
  have po : PassesOwn (model P wd) (cxOf (L2.CX P wd) P wd K mg base NN_is_order "is_order" (defScope S_is_order) (He.ga K "is_order") cdv A outer s H E).A (cxOf (L2.CX P wd) P wd K mg base NN_is_order "is_order" (defScope S_is_order) (He.ga K "is_order") cdv A outer s H E).env (cxOf (L2.CX P wd) P wd K mg base NN_is_order "is_order" (defScope S_is_order) (He.ga K "is_order") cdv A outer s H E).xe := passes_of rfl
  have qq : QB (cxOf (L2.CX P wd) P wd K mg base NN_is_order "is_order" (defScope S_is_order) (He.ga K "is_order") cdv A outer s H E) (fun _ => E) (defBody S_is_order) _ (m_is_order f_is_whole) :=
  (qb_one (qs_ret (q_and (q_all (by rfl) T.n_all (qa_cons (q_L (by exact ql_comp (by rfl) nd (qi_v (q_var 0)) (blkOk_by (own := [("one", 2)]) (N := NN_is_order) (sc := defScope S_is_order) (by decide +kernel)) (fun _ _ _ _ _ => (qg_name 2 nd)) (fun _ _ _ _ _ => qts_nil) (fun _ _ _ _ _ => (q_call C_is_whole (hr.mono (by omega)) hx0 (qa_cons (q_var 2) (qa_cons q_int (qa_cons (q_op q_sub (q_var 1) q_int) qa_nil))))))) qa_nil)) (q_one (q_cmp (q_eq hr.units) (q_L (ql_sortedI T.n_sorted (qa_cons (q_var 0) qa_nil))) (q_L (ql_listRg (by rfl) T.n_list T.n_range (q_var 1))))))))
  exact ⟨_, qq.ps, qq.ss⟩
theorem ok_is_order (T : Tx K mg)  (C_is_whole : Cal P wd K mg base 1 "is_whole" 3 f_is_whole []) : Cal P wd K mg base (2) "is_order" 2 f_is_order [] := by
  obtain ⟨h1, fd, F⟩ := T.d_is_order
  exact ⟨⟨_, fd, _, [], h1, F.kp, F.bindsN (ps := ["order", "many"]) fun _ _ _ _ _ _ us hl => match us, hl with | [_, _], _ => rfl, .nil, okf_is_order T F  C_is_whole⟩⟩
theorem okf_is_table (T : Tx K mg) {fd : FuncData} (F : FunD K "is_table" "is_table" (defArgs S_is_table) (defBody S_is_table) (defScope S_is_table) [] [] (He.ga K "is_table") fd)  (C_is_chain : Cal P wd K mg base 2 "is_chain" 1 f_is_chain []) (C_is_whole : Cal P wd K mg base 1 "is_whole" 3 f_is_whole []) : FnOk P wd K mg base (L2.CX P wd) (3) (He.ga K "is_table") fd ["table"] (SpOf K 1 f_is_table) := by
  refine ok_of F sc_is_table rfl rfl fun cdv A outer s H E hr => ?_
  have nd := sc_is_table.nd
  have tk : Takes (cxOf (L2.CX P wd) P wd K mg base NN_is_table "is_table" (defScope S_is_table) (He.ga K "is_table") cdv A outer s H E) (fun cls d _ H => E cls d H) := takes_of rfl rfl rfl rfl
  have hx : ∀ σ, PassesAt (L2.CX P wd) (cxOf (L2.CX P wd) P wd K mg base NN_is_table "is_table" (defScope S_is_table) (He.ga K "is_table") cdv A outer s H E) σ E := fun σ => passAt (W := fun cls d _ H => E cls d H) (takes_of rfl rfl rfl rfl) σ
  have hx0 : ∀ {X : Cx} (σ : L2.St), PassesAt (L2.CX X.prog X.w) X σ E0 := fun σ pins H s e s' I c => passL pins σ H s e s' I c
  have po : PassesOwn (model P wd) (cxOf (L2.CX P wd) P wd K mg base NN_is_table "is_table" (defScope S_is_table) (He.ga K "is_table") cdv A outer s H E).A (cxOf (L2.CX P wd) P wd K mg base NN_is_table "is_table" (defScope S_is_table) (He.ga K "is_table") cdv A outer s H E).env (cxOf (L2.CX P wd) P wd K mg base NN_is_table "is_table" (defScope S_is_table) (He.ga K "is_table") cdv A outer s H E).xe := passes_of rfl
  have qq : QB (cxOf (L2.CX P wd) P wd K mg base NN_is_table "is_table" (defScope S_is_table) (He.ga K "is_table") cdv A outer s H E) (fun _ => E) (defBody S_is_table) _ (m_is_table f_is_chain f_is_whole) :=
  (qb_cons (qs_if (qt_not (qt_val (q_isi .list T.n_isinstance T.n_list (q_var 0)))) (qb_one (qs_ret q_bl)) qb_nil)
  (qb_cons (qs_set 1 nd q_int)
  (qb_cons (qs_for po (by rfl) (qi_v (q_var 0)) (qg_name 2 nd) (qb_cons (qs_if (qt_w (qw_or (qt_not (qt_val (q_isi .tuple T.n_isinstance T.n_tuple (q_var 2)))) (qw_or (qt_cmp (q_ne hr.units) (q_len T.n_len (qa_cons (q_var 2) qa_nil)) q_int) (qw_or1 (qt_not (qt_val (q_call C_is_chain (hr.mono (by omega)) hx (qa_cons (q_sub1 (q_var 2) q_int) qa_nil)))))))) (qb_one (qs_ret q_bl)) qb_nil)
  (qb_cons (qs_if (qt_w (qw_or (qt_not (qt_val (q_all (by rfl) T.n_all (qa_cons (q_L (by exact ql_comp (by rfl) nd (qi_v (q_slice (q_var 2) qp_none (qp_some q_int))) (blkOk_by (own := [("one", 3)]) (N := NN_is_table) (sc := defScope S_is_table) (by decide +kernel)) (fun _ _ _ _ _ => (qg_name 3 nd)) (fun _ _ _ _ _ => qts_nil) (fun _ _ _ _ _ => (q_call C_is_whole (hr.mono (by omega)) hx0 (qa_cons (q_var 3) (qa_cons q_int (qa_cons (q_gint T.c_MOST_PLACE) qa_nil))))))) qa_nil)))) (qw_or (qt_cmp q_lt (q_sub1 (q_var 2) q_int) (q_var 1)) (qw_or1 (qt_cmp q_le (q_sub1 (q_var 2) q_int) (q_sub1 (q_var 2) q_int)))))) (qb_one (qs_ret q_bl)) qb_nil)
  (qb_one (qs_set 1 nd (q_sub1 (q_var 2) q_int))))))
  (qb_one (qs_ret q_bl)))))
  exact ⟨_, qq.ps, qq.ss⟩
theorem ok_is_table (T : Tx K mg)  (C_is_chain : Cal P wd K mg base 2 "is_chain" 1 f_is_chain []) (C_is_whole : Cal P wd K mg base 1 "is_whole" 3 f_is_whole []) : Cal P wd K mg base (3) "is_table" 1 f_is_table [] := by
  obtain ⟨h1, fd, F⟩ := T.d_is_table
  exact ⟨⟨_, fd, _, [], h1, F.kp, F.bindsN (ps := ["table"]) fun _ _ _ _ _ _ us hl => match us, hl with | [_], _ => rfl, .nil, okf_is_table T F  C_is_chain C_is_whole⟩⟩
theorem okf_is_worth (T : Tx K mg) {fd : FuncData} (F : FunD K "is_worth" "is_worth" (defArgs S_is_worth) (defBody S_is_worth) (defScope S_is_worth) [(.int 0)] [] (He.ga K "is_worth") fd) {k : Nat} (hk : 1 ≤ k) {g_is_worth : List Da → Mo Da} (C_is_whole : Cal P wd K mg base 1 "is_whole" 3 f_is_whole []) (C_is_worth : Cal P wd K mg base k "is_worth" 2 g_is_worth []) : FnOk P wd K mg base (L2.CX P wd) (k + 1) (He.ga K "is_worth") fd ["thing", "deep"] (SpOf K 2 (fnM 2 (m_is_worth f_is_whole g_is_worth))) := by
  refine ok_of F sc_is_worth rfl rfl fun cdv A outer s H E hr => ?_
  have nd := sc_is_worth.nd
  have tk : Takes (cxOf (L2.CX P wd) P wd K mg base NN_is_worth "is_worth" (defScope S_is_worth) (He.ga K "is_worth") cdv A outer s H E) (fun cls d _ H => E cls d H) := takes_of rfl rfl rfl rfl
  have hx : ∀ σ, PassesAt (L2.CX P wd) (cxOf (L2.CX P wd) P wd K mg base NN_is_worth "is_worth" (defScope S_is_worth) (He.ga K "is_worth") cdv A outer s H E) σ E := fun σ => passAt (W := fun cls d _ H => E cls d H) (takes_of rfl rfl rfl rfl) σ
  have hx0 : ∀ {X : Cx} (σ : L2.St), PassesAt (L2.CX X.prog X.w) X σ E0 := fun σ pins H s e s' I c => passL pins σ H s e s' I c
  have po : PassesOwn (model P wd) (cxOf (L2.CX P wd) P wd K mg base NN_is_worth "is_worth" (defScope S_is_worth) (He.ga K "is_worth") cdv A outer s H E).A (cxOf (L2.CX P wd) P wd K mg base NN_is_worth "is_worth" (defScope S_is_worth) (He.ga K "is_worth") cdv A outer s H E).env (cxOf (L2.CX P wd) P wd K mg base NN_is_worth "is_worth" (defScope S_is_worth) (He.ga K "is_worth") cdv A outer s H E).xe := passes_of rfl
  have qq : QB (cxOf (L2.CX P wd) P wd K mg base NN_is_worth "is_worth" (defScope S_is_worth) (He.ga K "is_worth") cdv A outer s H E) (fun _ => E) (defBody S_is_worth) _ (m_is_worth f_is_whole g_is_worth) :=
  (qb_cons (qs_if (qt_cmp q_gt (q_var 1) (q_gint T.c_MOST_DEEP)) (qb_one (qs_ret q_bl)) qb_nil)
  (qb_cons (qs_if (qt_val (q_call C_is_whole (hr.mono (by omega)) hx (qa_cons (q_var 0) (qa_cons q_int (qa_cons (q_gint T.c_MOST_VALUE) qa_nil))))) (qb_one (qs_ret q_bl)) qb_nil)
  (qb_cons (qs_if (qt_not (qt_val (q_isi .tuple T.n_isinstance T.n_tuple (q_var 0)))) (qb_one (qs_ret q_bl)) qb_nil)
  (qb_cons (qs_if (qt_cmp (q_eq hr.units) (q_len T.n_len (qa_cons (q_var 0) qa_nil)) q_int) (qb_one (qs_ret (q_and (q_cmp (q_eq hr.units) (q_sub1 (q_var 0) q_int) q_str) (q_one (q_call C_is_whole (hr.mono (by omega)) hx (qa_cons (q_sub1 (q_var 0) q_int) (qa_cons q_int (qa_cons (q_op q_sub (q_gint T.c_BOXES) q_int) qa_nil)))))))) qb_nil)
  (qb_cons (qs_if (qt_w (qw_or (qt_cmp (q_ne hr.units) (q_len T.n_len (qa_cons (q_var 0) qa_nil)) q_int) (qw_or (qt_not (qt_val (q_isi .str T.n_isinstance T.n_str (q_sub1 (q_var 0) q_int)))) (qw_or1 (qt_cmp (q_notInU (room1 hr)) (q_sub1 (q_var 0) q_int) (q_gdat T.c_SIGNS T.r_SIGNS)))))) (qb_one (qs_ret q_bl)) qb_nil)
  (qb_one (qs_ret (q_and (q_call C_is_worth (hr.mono (by omega)) hx (qa_cons (q_sub1 (q_var 0) q_int) (qa_cons (q_op q_add (q_var 1) q_int) qa_nil))) (q_one (q_call C_is_worth (hr.mono (by omega)) hx (qa_cons (q_sub1 (q_var 0) q_int) (qa_cons (q_op q_add (q_var 1) q_int) qa_nil))))))))))))
  exact ⟨_, qq.ps, qq.ss⟩
theorem ok_is_worth (T : Tx K mg) {k : Nat} (hk : 1 ≤ k) {g_is_worth : List Da → Mo Da} (C_is_whole : Cal P wd K mg base 1 "is_whole" 3 f_is_whole []) (C_is_worth : Cal P wd K mg base k "is_worth" 2 g_is_worth []) : Cal P wd K mg base (k + 1) "is_worth" 2 (fnM 2 (m_is_worth f_is_whole g_is_worth)) [] := by
  obtain ⟨h1, fd, F⟩ := T.d_is_worth
  obtain ⟨ds, hv, hb⟩ := F.binds1 (ps := ["thing", "deep"]) 2 1 (by simp) rfl fun T kV doc pm an cdv ct us its hl h2 => match us, its, hl, h2 with | [_, _], [_], _, _ => ⟨_, rfl, rfl⟩
  exact ⟨⟨_, fd, _, ds, h1, F.kp, hb, hv, okf_is_worth T F hk C_is_whole C_is_worth⟩⟩
theorem ok_is_worth_d1 (T : Tx K mg) {k : Nat} (hk : 1 ≤ k) {g_is_worth : List Da → Mo Da} (C_is_whole : Cal P wd K mg base 1 "is_whole" 3 f_is_whole []) (C_is_worth : Cal P wd K mg base k "is_worth" 2 g_is_worth []) : Cal P wd K mg base (k + 1) "is_worth" 2 (fnM 2 (m_is_worth f_is_whole g_is_worth)) [(.int 0)] := by
  obtain ⟨h1, fd, F⟩ := T.d_is_worth
  obtain ⟨ds, hv, hb⟩ := F.binds1 (ps := ["thing", "deep"]) 1 0 (by simp) rfl fun T kV doc pm an cdv ct us its hl h2 => match us, its, hl, h2 with | [_], [_], _, _ => ⟨_, rfl, rfl⟩
  exact ⟨⟨_, fd, _, ds, h1, F.kp, hb, hv, okf_is_worth T F hk C_is_whole C_is_worth⟩⟩
theorem z_is_worth (T : Tx K mg) : Cal P wd K mg base 1 "is_worth" 2 (f_is_worth 0) [] := by
  obtain ⟨h1, fd, F⟩ := T.d_is_worth
  obtain ⟨ds, hv, hb⟩ := F.binds1 (ps := ["thing", "deep"]) 2 1 (by simp) rfl fun T kV doc pm an cdv ct us its hl h2 => match us, its, hl, h2 with | [_, _], [_], _, _ => ⟨_, rfl, rfl⟩
  exact ⟨⟨_, fd, _, ds, h1, F.kp, hb, hv, fn0 (k := 0) F sc_is_worth rfl⟩⟩
theorem z_is_worth_d1 (T : Tx K mg) : Cal P wd K mg base 1 "is_worth" 2 (f_is_worth 0) [(.int 0)] := by
  obtain ⟨h1, fd, F⟩ := T.d_is_worth
  obtain ⟨ds, hv, hb⟩ := F.binds1 (ps := ["thing", "deep"]) 1 0 (by simp) rfl fun T kV doc pm an cdv ct us its hl h2 => match us, its, hl, h2 with | [_], [_], _, _ => ⟨_, rfl, rfl⟩
  exact ⟨⟨_, fd, _, ds, h1, F.kp, hb, hv, fn0 (k := 0) F sc_is_worth rfl⟩⟩
theorem recs_is_worth (T : Tx K mg) (C_is_whole : Cal P wd K mg base 1 "is_whole" 3 f_is_whole []) : ∀ n : Nat, (Cal P wd K mg base (1 + n) "is_worth" 2 (f_is_worth n) []) ∧ (Cal P wd K mg base (1 + n) "is_worth" 2 (f_is_worth n) [(.int 0)]) := by
  intro n
  induction n with
  | zero => exact ⟨z_is_worth T, z_is_worth_d1 T⟩
  | succ n ih =>
    obtain ⟨C_is_worth, C_is_worth_d1⟩ := ih
    exact ⟨ok_is_worth T (k := 1 + n) (by omega) C_is_whole C_is_worth,
      ok_is_worth_d1 T (k := 1 + n) (by omega) C_is_whole C_is_worth⟩
theorem okf_is_call (T : Tx K mg) {fd : FuncData} (F : FunD K "is_call" "is_call" (defArgs S_is_call) (defBody S_is_call) (defScope S_is_call) [] [] (He.ga K "is_call") fd)  (C_is_whole : Cal P wd K mg base 1 "is_whole" 3 f_is_whole []) (C_is_worth_d1 : Cal P wd K mg base 11 "is_worth" 2 (f_is_worth 10) [(.int 0)]) : FnOk P wd K mg base (L2.CX P wd) (12) (He.ga K "is_call") fd ["row", "place"] (SpOf K 2 f_is_call) := by
  refine ok_of F sc_is_call rfl rfl fun cdv A outer s H E hr => ?_
  have nd := sc_is_call.nd
  have tk : Takes (cxOf (L2.CX P wd) P wd K mg base NN_is_call "is_call" (defScope S_is_call) (He.ga K "is_call") cdv A outer s H E) (fun cls d _ H => E cls d H) := takes_of rfl rfl rfl rfl
  have hx : ∀ σ, PassesAt (L2.CX P wd) (cxOf (L2.CX P wd) P wd K mg base NN_is_call "is_call" (defScope S_is_call) (He.ga K "is_call") cdv A outer s H E) σ E := fun σ => passAt (W := fun cls d _ H => E cls d H) (takes_of rfl rfl rfl rfl) σ
  have hx0 : ∀ {X : Cx} (σ : L2.St), PassesAt (L2.CX X.prog X.w) X σ E0 := fun σ pins H s e s' I c => passL pins σ H s e s' I c
  have po : PassesOwn (model P wd) (cxOf (L2.CX P wd) P wd K mg base NN_is_call "is_call" (defScope S_is_call) (He.ga K "is_call") cdv A outer s H E).A (cxOf (L2.CX P wd) P wd K mg base NN_is_call "is_call" (defScope S_is_call) (He.ga K "is_call") cdv A outer s H E).env (cxOf (L2.CX P wd) P wd K mg base NN_is_call "is_call" (defScope S_is_call) (He.ga K "is_call") cdv A outer s H E).xe := passes_of rfl
  have qq : QB (cxOf (L2.CX P wd) P wd K mg base NN_is_call "is_call" (defScope S_is_call) (He.ga K "is_call") cdv A outer s H E) (fun _ => E) (defBody S_is_call) _ (m_is_call f_is_whole (f_is_worth 10)) :=
  (qb_cons (qs_tgt (qg_tup 2 (by rfl) (qgs_cons (qg_name 2 nd) (qgs_cons (qg_name 3 nd) qgs_nil))) (q_var 1))
  (qb_cons (qs_tgt (qg_tup 4 (by rfl) (qgs_cons (qg_name 4 nd) (qgs_cons (qg_name 5 nd) (qgs_cons (qg_name 6 nd) (qgs_cons (qg_name 7 nd) qgs_nil))))) (q_var 0))
  (qb_cons (qs_if (qt_w (qw_or (qt_not (qt_val (q_call C_is_whole (hr.mono (by omega)) hx (qa_cons (q_var 5) (qa_cons q_int (qa_cons (q_op q_sub (q_gint T.c_BOXES) q_int) qa_nil)))))) (qw_or (qt_not (qt_val (q_call C_is_whole (hr.mono (by omega)) hx (qa_cons (q_var 6) (qa_cons (q_op q_add (q_var 2) q_int) (qa_cons (q_op q_sub (q_len T.n_len (qa_cons (q_var 3) qa_nil)) q_int) qa_nil)))))) (qw_or1 (qt_not (qt_val (q_isi .list T.n_isinstance T.n_list (q_var 7)))))))) (qb_one (qs_ret q_bl)) qb_nil)
  (qb_one (qs_ret (q_and (q_cmp (q_eq hr.units) (q_len T.n_len (qa_cons (q_var 7) qa_nil)) (q_sub1 (q_var 3) (q_var 6))) (q_one (q_all (by rfl) T.n_all (qa_cons (q_L (by exact ql_comp (by rfl) nd (qi_v (q_var 7)) (blkOk_by (own := [("one", 8)]) (N := NN_is_call) (sc := defScope S_is_call) (by decide +kernel)) (fun _ _ _ _ _ => (qg_name 8 nd)) (fun _ _ _ _ _ => qts_nil) (fun _ _ _ _ _ => (q_call C_is_worth_d1 (hr.mono (by omega)) hx0 (qa_cons (q_var 8) qa_nil) (hdd := fun w m => (.cons (.int _) .nil)))))) qa_nil)))))))))
  exact ⟨_, qq.ps, qq.ss⟩
theorem ok_is_call (T : Tx K mg)  (C_is_whole : Cal P wd K mg base 1 "is_whole" 3 f_is_whole []) (C_is_worth_d1 : Cal P wd K mg base 11 "is_worth" 2 (f_is_worth 10) [(.int 0)]) : Cal P wd K mg base (12) "is_call" 2 f_is_call [] := by
  obtain ⟨h1, fd, F⟩ := T.d_is_call
  exact ⟨⟨_, fd, _, [], h1, F.kp, F.bindsN (ps := ["row", "place"]) fun _ _ _ _ _ _ us hl => match us, hl with | [_, _], _ => rfl, .nil, okf_is_call T F  C_is_whole C_is_worth_d1⟩⟩
theorem okf_is_body (T : Tx K mg) {fd : FuncData} (F : FunD K "is_body" "is_body" (defArgs S_is_body) (defBody S_is_body) (defScope S_is_body) [] [] (He.ga K "is_body") fd) {k : Nat} (hk : 12 ≤ k) {g_is_row : List Da → Mo Da} (C_is_row : Cal P wd K mg base k "is_row" 4 g_is_row []) : FnOk P wd K mg base (L2.CX P wd) (k + 1) (He.ga K "is_body") fd ["thing", "place", "deep", "looped"] (SpOf K 4 (fnM 5 (m_is_body g_is_row))) := by
  refine ok_of F sc_is_body rfl rfl fun cdv A outer s H E hr => ?_
  have nd := sc_is_body.nd
  have tk : Takes (cxOf (L2.CX P wd) P wd K mg base NN_is_body "is_body" (defScope S_is_body) (He.ga K "is_body") cdv A outer s H E) (fun cls d _ H => E cls d H) := takes_of rfl rfl rfl rfl
  have hx : ∀ σ, PassesAt (L2.CX P wd) (cxOf (L2.CX P wd) P wd K mg base NN_is_body "is_body" (defScope S_is_body) (He.ga K "is_body") cdv A outer s H E) σ E := fun σ => passAt (W := fun cls d _ H => E cls d H) (takes_of rfl rfl rfl rfl) σ
  have hx0 : ∀ {X : Cx} (σ : L2.St), PassesAt (L2.CX X.prog X.w) X σ E0 := fun σ pins H s e s' I c => passL pins σ H s e s' I c
  have po : PassesOwn (model P wd) (cxOf (L2.CX P wd) P wd K mg base NN_is_body "is_body" (defScope S_is_body) (He.ga K "is_body") cdv A outer s H E).A (cxOf (L2.CX P wd) P wd K mg base NN_is_body "is_body" (defScope S_is_body) (He.ga K "is_body") cdv A outer s H E).env (cxOf (L2.CX P wd) P wd K mg base NN_is_body "is_body" (defScope S_is_body) (He.ga K "is_body") cdv A outer s H E).xe := passes_of rfl
  have qq : QB (cxOf (L2.CX P wd) P wd K mg base NN_is_body "is_body" (defScope S_is_body) (He.ga K "is_body") cdv A outer s H E) (fun _ => E) (defBody S_is_body) _ (m_is_body g_is_row) :=
  (qb_cons (qs_if (qt_w (qw_or (qt_not (qt_val (q_isi .list T.n_isinstance T.n_list (q_var 0)))) (qw_or (qt_cmp q_gt (q_len T.n_len (qa_cons (q_var 0) qa_nil)) (q_gint T.c_MOST_ROWS)) (qw_or1 (qt_cmp q_gt (q_var 2) (q_gint T.c_MOST_DEEP)))))) (qb_one (qs_ret q_bl)) qb_nil)
  (qb_one (qs_ret (q_all (by rfl) T.n_all (qa_cons (q_L (by exact ql_comp (by rfl) nd (qi_v (q_var 0)) (blkOk_by (own := [("row", 4)]) (N := NN_is_body) (sc := defScope S_is_body) (by decide +kernel)) (fun _ _ _ _ _ => (qg_name 4 nd)) (fun _ _ _ _ _ => qts_nil) (fun _ _ _ _ _ => (q_call C_is_row (hr.mono (by omega)) hx0 (qa_cons (q_var 4) (qa_cons (q_var 1) (qa_cons (q_var 2) (qa_cons (q_var 3) qa_nil)))))))) qa_nil)))))
  exact ⟨_, qq.ps, qq.ss⟩
theorem ok_is_body (T : Tx K mg) {k : Nat} (hk : 12 ≤ k) {g_is_row : List Da → Mo Da} (C_is_row : Cal P wd K mg base k "is_row" 4 g_is_row []) : Cal P wd K mg base (k + 1) "is_body" 4 (fnM 5 (m_is_body g_is_row)) [] := by
  obtain ⟨h1, fd, F⟩ := T.d_is_body
  exact ⟨⟨_, fd, _, [], h1, F.kp, F.bindsN (ps := ["thing", "place", "deep", "looped"]) fun _ _ _ _ _ _ us hl => match us, hl with | [_, _, _, _], _ => rfl, .nil, okf_is_body T F hk C_is_row⟩⟩
theorem okf_is_row (T : Tx K mg) {fd : FuncData} (F : FunD K "is_row" "is_row" (defArgs S_is_row) (defBody S_is_row) (defScope S_is_row) [] [] (He.ga K "is_row") fd) {k : Nat} (hk : 12 ≤ k) {g_is_body : List Da → Mo Da} {g_is_try : List Da → Mo Da} (C_is_worth_d1 : Cal P wd K mg base 11 "is_worth" 2 (f_is_worth 10) [(.int 0)]) (C_is_whole : Cal P wd K mg base 1 "is_whole" 3 f_is_whole []) (C_is_call : Cal P wd K mg base 12 "is_call" 2 f_is_call []) (C_is_body : Cal P wd K mg base k "is_body" 4 g_is_body []) (C_is_try : Cal P wd K mg base k "is_try" 4 g_is_try []) : FnOk P wd K mg base (L2.CX P wd) (k + 1) (He.ga K "is_row") fd ["row", "place", "deep", "looped"] (SpOf K 4 (fnM 6 (m_is_row (f_is_worth 10) f_is_whole f_is_call g_is_body g_is_try))) := by
  refine ok_of F sc_is_row rfl rfl fun cdv A outer s H E hr => ?_
  have nd := sc_is_row.nd
  have tk : Takes (cxOf (L2.CX P wd) P wd K mg base NN_is_row "is_row" (defScope S_is_row) (He.ga K "is_row") cdv A outer s H E) (fun cls d _ H => E cls d H) := takes_of rfl rfl rfl rfl
  have hx : ∀ σ, PassesAt (L2.CX P wd) (cxOf (L2.CX P wd) P wd K mg base NN_is_row "is_row" (defScope S_is_row) (He.ga K "is_row") cdv A outer s H E) σ E := fun σ => passAt (W := fun cls d _ H => E cls d H) (takes_of rfl rfl rfl rfl) σ
  have hx0 : ∀ {X : Cx} (σ : L2.St), PassesAt (L2.CX X.prog X.w) X σ E0 := fun σ pins H s e s' I c => passL pins σ H s e s' I c
  have po : PassesOwn (model P wd) (cxOf (L2.CX P wd) P wd K mg base NN_is_row "is_row" (defScope S_is_row) (He.ga K "is_row") cdv A outer s H E).A (cxOf (L2.CX P wd) P wd K mg base NN_is_row "is_row" (defScope S_is_row) (He.ga K "is_row") cdv A outer s H E).env (cxOf (L2.CX P wd) P wd K mg base NN_is_row "is_row" (defScope S_is_row) (He.ga K "is_row") cdv A outer s H E).xe := passes_of rfl
  have qq : QB (cxOf (L2.CX P wd) P wd K mg base NN_is_row "is_row" (defScope S_is_row) (He.ga K "is_row") cdv A outer s H E) (fun _ => E) (defBody S_is_row) _ (m_is_row (f_is_worth 10) f_is_whole f_is_call g_is_body g_is_try) :=
  (qb_cons (qs_if (qt_w (qw_or (qt_not (qt_val (q_isi .tuple T.n_isinstance T.n_tuple (q_var 0)))) (qw_or (qt_cmp (q_eq hr.units) (q_var 0) (q_tup qa_nil)) (qw_or (qt_not (qt_val (q_isi .str T.n_isinstance T.n_str (q_sub1 (q_var 0) q_int)))) (qw_or1 (qt_cmp (q_notInU (room1 hr)) (q_tup (qa_cons (q_sub1 (q_var 0) q_int) (qa_cons (q_len T.n_len (qa_cons (q_var 0) qa_nil)) qa_nil))) (q_gdat T.c_LONGS T.r_LONGS))))))) (qb_one (qs_ret q_bl)) qb_nil)
  (qb_cons (qs_set 4 nd (q_sub1 (q_var 0) q_int))
  (qb_cons (qs_if (qt_cmp (q_inU (room1 hr)) (q_var 4) (q_tup (qa_cons q_str (qa_cons q_str qa_nil)))) (qb_one (qs_ret (q_call C_is_worth_d1 (hr.mono (by omega)) hx (qa_cons (q_sub1 (q_var 0) q_int) qa_nil) (hdd := fun w m => (.cons (.int _) .nil))))) qb_nil)
  (qb_cons (qs_if (qt_cmp (q_eq hr.units) (q_var 4) q_str) (qb_one (qs_ret (q_and (q_call C_is_whole (hr.mono (by omega)) hx (qa_cons (q_sub1 (q_var 0) q_int) (qa_cons q_int (qa_cons (q_op q_sub (q_gint T.c_BOXES) q_int) qa_nil)))) (q_one (q_call C_is_worth_d1 (hr.mono (by omega)) hx (qa_cons (q_sub1 (q_var 0) q_int) qa_nil) (hdd := fun w m => (.cons (.int _) .nil))))))) qb_nil)
  (qb_cons (qs_if (qt_cmp (q_eq hr.units) (q_var 4) q_str) (qb_one (qs_ret (q_and (q_call C_is_whole (hr.mono (by omega)) hx (qa_cons (q_sub1 (q_var 0) q_int) (qa_cons q_int (qa_cons (q_op q_sub (q_gint T.c_KINDS) q_int) qa_nil)))) (q_one (q_call C_is_worth_d1 (hr.mono (by omega)) hx (qa_cons (q_sub1 (q_var 0) q_int) qa_nil) (hdd := fun w m => (.cons (.int _) .nil))))))) qb_nil)
  (qb_cons (qs_if (qt_cmp (q_eq hr.units) (q_var 4) q_str) (qb_one (qs_ret (q_call C_is_call (hr.mono (by omega)) hx (qa_cons (q_var 0) (qa_cons (q_var 1) qa_nil))))) qb_nil)
  (qb_cons (qs_if (qt_cmp (q_eq hr.units) (q_var 4) q_str) (qb_one (qs_ret (q_and (q_call C_is_worth_d1 (hr.mono (by omega)) hx (qa_cons (q_sub1 (q_var 0) q_int) qa_nil) (hdd := fun w m => (.cons (.int _) .nil))) (q_one (q_all (by rfl) T.n_all (qa_cons (q_L (by exact ql_comp (by rfl) nd (qi_v (q_slice (q_var 0) (qp_some q_int) qp_none)) (blkOk_by (own := [("one", 5)]) (N := NN_is_row) (sc := defScope S_is_row) (by decide +kernel)) (fun _ _ _ _ _ => (qg_name 5 nd)) (fun _ _ _ _ _ => qts_nil) (fun _ _ _ _ _ => (q_call C_is_body (hr.mono (by omega)) hx0 (qa_cons (q_var 5) (qa_cons (q_var 1) (qa_cons (q_op q_add (q_var 2) q_int) (qa_cons (q_var 3) qa_nil)))))))) qa_nil)))))) qb_nil)
  (qb_cons (qs_if (qt_cmp (q_eq hr.units) (q_var 4) q_str) (qb_one (qs_ret (q_and (q_call C_is_whole (hr.mono (by omega)) hx (qa_cons (q_sub1 (q_var 0) q_int) (qa_cons q_int (qa_cons q_int qa_nil)))) (q_one (q_call C_is_body (hr.mono (by omega)) hx (qa_cons (q_sub1 (q_var 0) q_int) (qa_cons (q_var 1) (qa_cons (q_op q_add (q_var 2) q_int) (qa_cons q_bl qa_nil))))))))) qb_nil)
  (qb_cons (qs_if (qt_cmp (q_eq hr.units) (q_var 4) q_str) (qb_one (qs_ret (q_var 3))) qb_nil)
  (qb_one (qs_ret (q_call C_is_try (hr.mono (by omega)) hx (qa_cons (q_var 0) (qa_cons (q_var 1) (qa_cons (q_var 2) (qa_cons (q_var 3) qa_nil))))))))))))))))
  exact ⟨_, qq.ps, qq.ss⟩
theorem ok_is_row (T : Tx K mg) {k : Nat} (hk : 12 ≤ k) {g_is_body : List Da → Mo Da} {g_is_try : List Da → Mo Da} (C_is_worth_d1 : Cal P wd K mg base 11 "is_worth" 2 (f_is_worth 10) [(.int 0)]) (C_is_whole : Cal P wd K mg base 1 "is_whole" 3 f_is_whole []) (C_is_call : Cal P wd K mg base 12 "is_call" 2 f_is_call []) (C_is_body : Cal P wd K mg base k "is_body" 4 g_is_body []) (C_is_try : Cal P wd K mg base k "is_try" 4 g_is_try []) : Cal P wd K mg base (k + 1) "is_row" 4 (fnM 6 (m_is_row (f_is_worth 10) f_is_whole f_is_call g_is_body g_is_try)) [] := by
  obtain ⟨h1, fd, F⟩ := T.d_is_row
  exact ⟨⟨_, fd, _, [], h1, F.kp, F.bindsN (ps := ["row", "place", "deep", "looped"]) fun _ _ _ _ _ _ us hl => match us, hl with | [_, _, _, _], _ => rfl, .nil, okf_is_row T F hk C_is_worth_d1 C_is_whole C_is_call C_is_body C_is_try⟩⟩
theorem okf_is_try (T : Tx K mg) {fd : FuncData} (F : FunD K "is_try" "is_try" (defArgs S_is_try) (defBody S_is_try) (defScope S_is_try) [] [] (He.ga K "is_try") fd) {k : Nat} (hk : 12 ≤ k) {g_is_body : List Da → Mo Da} (C_is_body : Cal P wd K mg base k "is_body" 4 g_is_body []) (C_is_whole : Cal P wd K mg base 1 "is_whole" 3 f_is_whole []) : FnOk P wd K mg base (L2.CX P wd) (k + 1) (He.ga K "is_try") fd ["row", "place", "deep", "looped"] (SpOf K 4 (fnM 9 (m_is_try g_is_body f_is_whole))) := by
  refine ok_of F sc_is_try rfl rfl fun cdv A outer s H E hr => ?_
  have nd := sc_is_try.nd
  have tk : Takes (cxOf (L2.CX P wd) P wd K mg base NN_is_try "is_try" (defScope S_is_try) (He.ga K "is_try") cdv A outer s H E) (fun cls d _ H => E cls d H) := takes_of rfl rfl rfl rfl
  have hx : ∀ σ, PassesAt (L2.CX P wd) (cxOf (L2.CX P wd) P wd K mg base NN_is_try "is_try" (defScope S_is_try) (He.ga K "is_try") cdv A outer s H E) σ E := fun σ => passAt (W := fun cls d _ H => E cls d H) (takes_of rfl rfl rfl rfl) σ
  have hx0 : ∀ {X : Cx} (σ : L2.St), PassesAt (L2.CX X.prog X.w) X σ E0 := fun σ pins H s e s' I c => passL pins σ H s e s' I c
  have po : PassesOwn (model P wd) (cxOf (L2.CX P wd) P wd K mg base NN_is_try "is_try" (defScope S_is_try) (He.ga K "is_try") cdv A outer s H E).A (cxOf (L2.CX P wd) P wd K mg base NN_is_try "is_try" (defScope S_is_try) (He.ga K "is_try") cdv A outer s H E).env (cxOf (L2.CX P wd) P wd K mg base NN_is_try "is_try" (defScope S_is_try) (He.ga K "is_try") cdv A outer s H E).xe := passes_of rfl
  have qq : QB (cxOf (L2.CX P wd) P wd K mg base NN_is_try "is_try" (defScope S_is_try) (He.ga K "is_try") cdv A outer s H E) (fun _ => E) (defBody S_is_try) _ (m_is_try g_is_body f_is_whole) :=
  (qb_cons (qs_tgt (qg_tup 4 (by rfl) (qgs_cons (qg_name 4 nd) (qgs_cons (qg_name 5 nd) (qgs_cons (qg_name 6 nd) (qgs_cons (qg_name 7 nd) qgs_nil))))) (q_var 0))
  (qb_cons (qs_if (qt_w (qw_or (qt_not (qt_val (q_call C_is_body (hr.mono (by omega)) hx (qa_cons (q_var 5) (qa_cons (q_var 1) (qa_cons (q_op q_add (q_var 2) q_int) (qa_cons (q_var 3) qa_nil))))))) (qw_or (qt_not (qt_val (q_isi .list T.n_isinstance T.n_list (q_var 6)))) (qw_or1 (qt_cmp q_gt (q_len T.n_len (qa_cons (q_var 6) qa_nil)) q_int))))) (qb_one (qs_ret q_bl)) qb_nil)
  (qb_cons (qs_for po (by rfl) (qi_v (q_var 6)) (qg_name 8 nd) (qb_cons (qs_if (qt_w (qw_or (qt_not (qt_val (q_isi .tuple T.n_isinstance T.n_tuple (q_var 8)))) (qw_or (qt_cmp (q_ne hr.units) (q_len T.n_len (qa_cons (q_var 8) qa_nil)) q_int) (qw_or1 (qt_w (qw_and (qt_cmp q_isNot (q_sub1 (q_var 8) q_int) q_non) (qw_and1 (qt_not (qt_val (q_call C_is_whole (hr.mono (by omega)) hx (qa_cons (q_sub1 (q_var 8) q_int) (qa_cons q_int (qa_cons (q_op q_sub (q_gint T.c_KINDS) q_int) qa_nil))))))))))))) (qb_one (qs_ret q_bl)) qb_nil)
  (qb_one (qs_if (qt_w (qw_or (qt_not (qt_val (q_call C_is_whole (hr.mono (by omega)) hx (qa_cons (q_sub1 (q_var 8) q_int) (qa_cons q_int (qa_cons (q_op q_sub (q_gint T.c_BOXES) q_int) qa_nil)))))) (qw_or1 (qt_not (qt_val (q_call C_is_body (hr.mono (by omega)) hx (qa_cons (q_sub1 (q_var 8) q_int) (qa_cons (q_var 1) (qa_cons (q_op q_add (q_var 2) q_int) (qa_cons (q_var 3) qa_nil)))))))))) (qb_one (qs_ret q_bl)) qb_nil))))
  (qb_one (qs_ret (q_or (q_cmp q_is (q_var 7) q_non) (q_one (q_call C_is_body (hr.mono (by omega)) hx (qa_cons (q_var 7) (qa_cons (q_var 1) (qa_cons (q_op q_add (q_var 2) q_int) (qa_cons (q_var 3) qa_nil))))))))))))
  exact ⟨_, qq.ps, qq.ss⟩
theorem ok_is_try (T : Tx K mg) {k : Nat} (hk : 12 ≤ k) {g_is_body : List Da → Mo Da} (C_is_body : Cal P wd K mg base k "is_body" 4 g_is_body []) (C_is_whole : Cal P wd K mg base 1 "is_whole" 3 f_is_whole []) : Cal P wd K mg base (k + 1) "is_try" 4 (fnM 9 (m_is_try g_is_body f_is_whole)) [] := by
  obtain ⟨h1, fd, F⟩ := T.d_is_try
  exact ⟨⟨_, fd, _, [], h1, F.kp, F.bindsN (ps := ["row", "place", "deep", "looped"]) fun _ _ _ _ _ _ us hl => match us, hl with | [_, _, _, _], _ => rfl, .nil, okf_is_try T F hk C_is_body C_is_whole⟩⟩
theorem z_is_body (T : Tx K mg) : Cal P wd K mg base 12 "is_body" 4 (f_is_body 0) [] := by
  obtain ⟨h1, fd, F⟩ := T.d_is_body
  exact ⟨⟨_, fd, _, [], h1, F.kp, F.bindsN (ps := ["thing", "place", "deep", "looped"]) fun _ _ _ _ _ _ us hl => match us, hl with | [_, _, _, _], _ => rfl, .nil, fn0 (k := 11) F sc_is_body rfl⟩⟩
theorem z_is_row (T : Tx K mg) : Cal P wd K mg base 12 "is_row" 4 (f_is_row 0) [] := by
  obtain ⟨h1, fd, F⟩ := T.d_is_row
  exact ⟨⟨_, fd, _, [], h1, F.kp, F.bindsN (ps := ["row", "place", "deep", "looped"]) fun _ _ _ _ _ _ us hl => match us, hl with | [_, _, _, _], _ => rfl, .nil, fn0 (k := 11) F sc_is_row rfl⟩⟩
theorem z_is_try (T : Tx K mg) : Cal P wd K mg base 12 "is_try" 4 (f_is_try 0) [] := by
  obtain ⟨h1, fd, F⟩ := T.d_is_try
  exact ⟨⟨_, fd, _, [], h1, F.kp, F.bindsN (ps := ["row", "place", "deep", "looped"]) fun _ _ _ _ _ _ us hl => match us, hl with | [_, _, _, _], _ => rfl, .nil, fn0 (k := 11) F sc_is_try rfl⟩⟩
theorem recs_is_body (T : Tx K mg) (C_is_worth_d1 : Cal P wd K mg base 11 "is_worth" 2 (f_is_worth 10) [(.int 0)]) (C_is_whole : Cal P wd K mg base 1 "is_whole" 3 f_is_whole []) (C_is_call : Cal P wd K mg base 12 "is_call" 2 f_is_call []) : ∀ n : Nat, (Cal P wd K mg base (12 + n) "is_body" 4 (f_is_body n) []) ∧ (Cal P wd K mg base (12 + n) "is_row" 4 (f_is_row n) []) ∧ (Cal P wd K mg base (12 + n) "is_try" 4 (f_is_try n) []) := by
  intro n
  induction n with
  | zero => exact ⟨z_is_body T, z_is_row T, z_is_try T⟩
  | succ n ih =>
    obtain ⟨C_is_body, C_is_row, C_is_try⟩ := ih
    exact ⟨ok_is_body T (k := 12 + n) (by omega) C_is_row,
      ok_is_row T (k := 12 + n) (by omega) C_is_worth_d1 C_is_whole C_is_call C_is_body C_is_try,
      ok_is_try T (k := 12 + n) (by omega) C_is_body C_is_whole⟩
theorem okf_is_program (T : Tx K mg) {fd : FuncData} (F : FunD K "is_program" "is_program" (defArgs S_is_program) (defBody S_is_program) (defScope S_is_program) [] [] (He.ga K "is_program") fd)  (C_is_whole : Cal P wd K mg base 1 "is_whole" 3 f_is_whole []) (C_is_body : Cal P wd K mg base 42 "is_body" 4 (f_is_body 30) []) : FnOk P wd K mg base (L2.CX P wd) (43) (He.ga K "is_program") fd ["thing"] (SpOf K 1 f_is_program) := by
  refine ok_of F sc_is_program rfl rfl fun cdv A outer s H E hr => ?_
  have nd := sc_is_program.nd
  have tk : Takes (cxOf (L2.CX P wd) P wd K mg base NN_is_program "is_program" (defScope S_is_program) (He.ga K "is_program") cdv A outer s H E) (fun cls d _ H => E cls d H) := takes_of rfl rfl rfl rfl
  have hx : ∀ σ, PassesAt (L2.CX P wd) (cxOf (L2.CX P wd) P wd K mg base NN_is_program "is_program" (defScope S_is_program) (He.ga K "is_program") cdv A outer s H E) σ E := fun σ => passAt (W := fun cls d _ H => E cls d H) (takes_of rfl rfl rfl rfl) σ
  have hx0 : ∀ {X : Cx} (σ : L2.St), PassesAt (L2.CX X.prog X.w) X σ E0 := fun σ pins H s e s' I c => passL pins σ H s e s' I c
  have po : PassesOwn (model P wd) (cxOf (L2.CX P wd) P wd K mg base NN_is_program "is_program" (defScope S_is_program) (He.ga K "is_program") cdv A outer s H E).A (cxOf (L2.CX P wd) P wd K mg base NN_is_program "is_program" (defScope S_is_program) (He.ga K "is_program") cdv A outer s H E).env (cxOf (L2.CX P wd) P wd K mg base NN_is_program "is_program" (defScope S_is_program) (He.ga K "is_program") cdv A outer s H E).xe := passes_of rfl
  have qq : QB (cxOf (L2.CX P wd) P wd K mg base NN_is_program "is_program" (defScope S_is_program) (He.ga K "is_program") cdv A outer s H E) (fun _ => E) (defBody S_is_program) _ (m_is_program f_is_whole (f_is_body 30)) :=
  (qb_cons (qs_if (qt_w (qw_or (qt_not (qt_val (q_isi .list T.n_isinstance T.n_list (q_var 0)))) (qw_or1 (qt_not (qt_chain q_le q_le q_int (q_len T.n_len (qa_cons (q_var 0) qa_nil)) (q_gint T.c_MOST_FUNCTIONS)))))) (qb_one (qs_ret q_bl)) qb_nil)
  (qb_cons (qs_if (qt_not (qt_val (q_all (by rfl) T.n_all (qa_cons (q_L (by exact ql_comp (by rfl) nd (qi_v (q_var 0)) (blkOk_by (own := [("one", 2)]) (N := NN_is_program) (sc := defScope S_is_program) (by decide +kernel)) (fun _ _ _ _ _ => (qg_name 2 nd)) (fun _ _ _ _ _ => qts_nil) (fun _ _ _ _ _ => (q_and (q_isi .tuple T.n_isinstance T.n_tuple (q_var 2)) (q_and (q_cmp (q_eq hr.units) (q_len T.n_len (qa_cons (q_var 2) qa_nil)) q_int) (q_one (q_call C_is_whole (hr.mono (by omega)) hx0 (qa_cons (q_sub1 (q_var 2) q_int) (qa_cons q_int (qa_cons q_int qa_nil)))))))))) qa_nil)))) (qb_one (qs_ret q_bl)) qb_nil)
  (qb_cons (qs_set 1 nd (q_L (by exact ql_comp (by rfl) nd (qi_v (q_var 0)) (blkOk_by (own := [("one", 2)]) (N := NN_is_program) (sc := defScope S_is_program) (by decide +kernel)) (fun _ _ _ _ _ => (qg_name 2 nd)) (fun _ _ _ _ _ => qts_nil) (fun _ _ _ _ _ => (q_sub1 (q_var 2) q_int)))))
  (qb_one (qs_ret (q_and (q_cmp (q_eq hr.units) (q_sub1 (q_var 1) q_int) q_int) (q_one (q_all (by rfl) T.n_all (qa_cons (q_L (by exact ql_comp (by rfl) nd (qi_r1 T.n_range (qa_cons (q_len T.n_len (qa_cons (q_var 0) qa_nil)) qa_nil)) (blkOk_by (own := [("k", 3)]) (N := NN_is_program) (sc := defScope S_is_program) (by decide +kernel)) (fun _ _ _ _ _ => (qg_name 3 nd)) (fun _ _ _ _ _ => qts_nil) (fun _ _ _ _ _ => (q_call C_is_body (hr.mono (by omega)) hx0 (qa_cons (q_sub1 (q_sub1 (q_var 0) (q_var 3)) q_int) (qa_cons (q_tup (qa_cons (q_var 3) (qa_cons (q_var 1) qa_nil))) (qa_cons q_int (qa_cons q_bl qa_nil)))))))) qa_nil)))))))))
  exact ⟨_, qq.ps, qq.ss⟩
theorem ok_is_program (T : Tx K mg)  (C_is_whole : Cal P wd K mg base 1 "is_whole" 3 f_is_whole []) (C_is_body : Cal P wd K mg base 42 "is_body" 4 (f_is_body 30) []) : Cal P wd K mg base (43) "is_program" 1 f_is_program [] := by
  obtain ⟨h1, fd, F⟩ := T.d_is_program
  exact ⟨⟨_, fd, _, [], h1, F.kp, F.bindsN (ps := ["thing"]) fun _ _ _ _ _ _ us hl => match us, hl with | [_], _ => rfl, .nil, okf_is_program T F  C_is_whole C_is_body⟩⟩
theorem okf_look_code (T : Tx K mg) {fd : FuncData} (F : FunD K "look_code" "look_code" (defArgs S_look_code) (defBody S_look_code) (defScope S_look_code) [] [] (He.ga K "look_code") fd)   : FnOk P wd K mg base (L2.CX P wd) (1) (He.ga K "look_code") fd ["code"] (SpOf K 1 f_look_code) := by
  refine ok_of F sc_look_code rfl rfl fun cdv A outer s H E hr => ?_
  have nd := sc_look_code.nd
  have tk : Takes (cxOf (L2.CX P wd) P wd K mg base NN_look_code "look_code" (defScope S_look_code) (He.ga K "look_code") cdv A outer s H E) (fun cls d _ H => E cls d H) := takes_of rfl rfl rfl rfl
  have hx : ∀ σ, PassesAt (L2.CX P wd) (cxOf (L2.CX P wd) P wd K mg base NN_look_code "look_code" (defScope S_look_code) (He.ga K "look_code") cdv A outer s H E) σ E := fun σ => passAt (W := fun cls d _ H => E cls d H) (takes_of rfl rfl rfl rfl) σ
  have hx0 : ∀ {X : Cx} (σ : L2.St), PassesAt (L2.CX X.prog X.w) X σ E0 := fun σ pins H s e s' I c => passL pins σ H s e s' I c
  have po : PassesOwn (model P wd) (cxOf (L2.CX P wd) P wd K mg base NN_look_code "look_code" (defScope S_look_code) (He.ga K "look_code") cdv A outer s H E).A (cxOf (L2.CX P wd) P wd K mg base NN_look_code "look_code" (defScope S_look_code) (He.ga K "look_code") cdv A outer s H E).env (cxOf (L2.CX P wd) P wd K mg base NN_look_code "look_code" (defScope S_look_code) (He.ga K "look_code") cdv A outer s H E).xe := passes_of rfl
  have qq : QB (cxOf (L2.CX P wd) P wd K mg base NN_look_code "look_code" (defScope S_look_code) (He.ga K "look_code") cdv A outer s H E) (fun _ => E) (defBody S_look_code) _ (m_look_code ) :=
  (qb_one (qs_if (qt_not (qt_val (q_isC T.n_isinstance T.gc_Code T.ic_Code (q_var 0)))) (qb_one (qs_raise rfl tk T.x_BadTable T.g_BadTable)) qb_nil))
  exact ⟨_, qq.ps, qq.ss⟩
theorem ok_look_code (T : Tx K mg)   : Cal P wd K mg base (1) "look_code" 1 f_look_code [] := by
  obtain ⟨h1, fd, F⟩ := T.d_look_code
  exact ⟨⟨_, fd, _, [], h1, F.kp, F.bindsN (ps := ["code"]) fun _ _ _ _ _ _ us hl => match us, hl with | [_], _ => rfl, .nil, okf_look_code T F  ⟩⟩
theorem okf_listing (T : Tx K mg) {fd : FuncData} (F : FunD K "listing" "listing" (defArgs S_listing) (defBody S_listing) (defScope S_listing) [] [] (He.ga K "listing") fd)  (C_look_code : Cal P wd K mg base 1 "look_code" 1 f_look_code []) : FnOk P wd K mg base (L2.CX P wd) (2) (He.ga K "listing") fd ["code"] (SpOf K 1 f_listing) := by
  refine ok_of F sc_listing rfl rfl fun cdv A outer s H E hr => ?_
  have nd := sc_listing.nd
  have tk : Takes (cxOf (L2.CX P wd) P wd K mg base NN_listing "listing" (defScope S_listing) (He.ga K "listing") cdv A outer s H E) (fun cls d _ H => E cls d H) := takes_of rfl rfl rfl rfl
  have hx : ∀ σ, PassesAt (L2.CX P wd) (cxOf (L2.CX P wd) P wd K mg base NN_listing "listing" (defScope S_listing) (He.ga K "listing") cdv A outer s H E) σ E := fun σ => passAt (W := fun cls d _ H => E cls d H) (takes_of rfl rfl rfl rfl) σ
  have hx0 : ∀ {X : Cx} (σ : L2.St), PassesAt (L2.CX X.prog X.w) X σ E0 := fun σ pins H s e s' I c => passL pins σ H s e s' I c
  have po : PassesOwn (model P wd) (cxOf (L2.CX P wd) P wd K mg base NN_listing "listing" (defScope S_listing) (He.ga K "listing") cdv A outer s H E).A (cxOf (L2.CX P wd) P wd K mg base NN_listing "listing" (defScope S_listing) (He.ga K "listing") cdv A outer s H E).env (cxOf (L2.CX P wd) P wd K mg base NN_listing "listing" (defScope S_listing) (He.ga K "listing") cdv A outer s H E).xe := passes_of rfl
  have qq : QB (cxOf (L2.CX P wd) P wd K mg base NN_listing "listing" (defScope S_listing) (He.ga K "listing") cdv A outer s H E) (fun _ => E) (defBody S_listing) _ (m_listing f_look_code) :=
  (qb_cons (qs_expr (q_call C_look_code (hr.mono (by omega)) hx (qa_cons (q_var 0) qa_nil)))
  (qb_cons (qs_set 1 nd (q_H (ql_disp qa_nil)))
  (qb_cons (qs_for po (by rfl) (qi_enum T.n_enumerate (qa_cons (q_fld T.q_Code_rows (q_var 0)) qa_nil)) (qg_tup 2 (by rfl) (qgs_cons (qg_name 2 nd) (qgs_cons (qg_tup 3 (by rfl) (qgs_cons (qg_name 3 nd) (qgs_cons (qg_name 4 nd) (qgs_cons (qg_name 5 nd) qgs_nil)))) qgs_nil))) (qb_cons (by exact qs_setLc 6 (by rfl) nd (qi_v (q_tup (qa_cons (q_var 4) (qa_cons (q_var 5) qa_nil)))) (blkOk_by (own := [("one", 7)]) (N := NN_listing) (sc := defScope S_listing) (by decide +kernel)) (fun _ _ _ _ _ => (qg_name 7 nd)) (fun _ _ _ _ _ => (qts_one (qt_cmp q_isNot (q_var 7) q_non))) (fun _ _ _ _ _ => q_nev) eL s_L (sw_true rfl rfl rfl (by decide +kernel)))
  (qb_one (qs_expr (q_app (q_var 1) q_nev)))))
  (qb_one (qs_ret (q_F (q_var 1)))))))
  exact ⟨_, qq.ps, qq.ss⟩
theorem ok_listing (T : Tx K mg)  (C_look_code : Cal P wd K mg base 1 "look_code" 1 f_look_code []) : Cal P wd K mg base (2) "listing" 1 f_listing [] := by
  obtain ⟨h1, fd, F⟩ := T.d_listing
  exact ⟨⟨_, fd, _, [], h1, F.kp, F.bindsN (ps := ["code"]) fun _ _ _ _ _ _ us hl => match us, hl with | [_], _ => rfl, .nil, okf_listing T F  C_look_code⟩⟩
theorem okf_look_number (T : Tx K mg) {fd : FuncData} (F : FunD K "look_number" "look_number" (defArgs S_look_number) (defBody S_look_number) (defScope S_look_number) [] [] (He.ga K "look_number") fd)  (C_is_whole : Cal P wd K mg base 1 "is_whole" 3 f_is_whole []) : FnOk P wd K mg base (L2.CX P wd) (2) (He.ga K "look_number") fd ["thing", "low", "high"] (SpOf K 3 f_look_number) := by
  refine ok_of F sc_look_number rfl rfl fun cdv A outer s H E hr => ?_
  have nd := sc_look_number.nd
  have tk : Takes (cxOf (L2.CX P wd) P wd K mg base NN_look_number "look_number" (defScope S_look_number) (He.ga K "look_number") cdv A outer s H E) (fun cls d _ H => E cls d H) := takes_of rfl rfl rfl rfl
  have hx : ∀ σ, PassesAt (L2.CX P wd) (cxOf (L2.CX P wd) P wd K mg base NN_look_number "look_number" (defScope S_look_number) (He.ga K "look_number") cdv A outer s H E) σ E := fun σ => passAt (W := fun cls d _ H => E cls d H) (takes_of rfl rfl rfl rfl) σ
  have hx0 : ∀ {X : Cx} (σ : L2.St), PassesAt (L2.CX X.prog X.w) X σ E0 := fun σ pins H s e s' I c => passL pins σ H s e s' I c
  have po : PassesOwn (model P wd) (cxOf (L2.CX P wd) P wd K mg base NN_look_number "look_number" (defScope S_look_number) (He.ga K "look_number") cdv A outer s H E).A (cxOf (L2.CX P wd) P wd K mg base NN_look_number "look_number" (defScope S_look_number) (He.ga K "look_number") cdv A outer s H E).env (cxOf (L2.CX P wd) P wd K mg base NN_look_number "look_number" (defScope S_look_number) (He.ga K "look_number") cdv A outer s H E).xe := passes_of rfl
  have qq : QB (cxOf (L2.CX P wd) P wd K mg base NN_look_number "look_number" (defScope S_look_number) (He.ga K "look_number") cdv A outer s H E) (fun _ => E) (defBody S_look_number) _ (m_look_number f_is_whole) :=
  (qb_one (qs_if (qt_not (qt_val (q_call C_is_whole (hr.mono (by omega)) hx (qa_cons (q_var 0) (qa_cons (q_var 1) (qa_cons (q_var 2) qa_nil)))))) (qb_one (qs_raise rfl tk T.x_BadNumber T.g_BadNumber)) qb_nil))
  exact ⟨_, qq.ps, qq.ss⟩
theorem ok_look_number (T : Tx K mg)  (C_is_whole : Cal P wd K mg base 1 "is_whole" 3 f_is_whole []) : Cal P wd K mg base (2) "look_number" 3 f_look_number [] := by
  obtain ⟨h1, fd, F⟩ := T.d_look_number
  exact ⟨⟨_, fd, _, [], h1, F.kp, F.bindsN (ps := ["thing", "low", "high"]) fun _ _ _ _ _ _ us hl => match us, hl with | [_, _, _], _ => rfl, .nil, okf_look_number T F  C_is_whole⟩⟩
theorem okf_look_program (T : Tx K mg) {fd : FuncData} (F : FunD K "look_program" "look_program" (defArgs S_look_program) (defBody S_look_program) (defScope S_look_program) [] [] (He.ga K "look_program") fd)  (C_is_program : Cal P wd K mg base 43 "is_program" 1 f_is_program []) : FnOk P wd K mg base (L2.CX P wd) (44) (He.ga K "look_program") fd ["thing"] (SpOf K 1 f_look_program) := by
  refine ok_of F sc_look_program rfl rfl fun cdv A outer s H E hr => ?_
  have nd := sc_look_program.nd
  have tk : Takes (cxOf (L2.CX P wd) P wd K mg base NN_look_program "look_program" (defScope S_look_program) (He.ga K "look_program") cdv A outer s H E) (fun cls d _ H => E cls d H) := takes_of rfl rfl rfl rfl
  have hx : ∀ σ, PassesAt (L2.CX P wd) (cxOf (L2.CX P wd) P wd K mg base NN_look_program "look_program" (defScope S_look_program) (He.ga K "look_program") cdv A outer s H E) σ E := fun σ => passAt (W := fun cls d _ H => E cls d H) (takes_of rfl rfl rfl rfl) σ
  have hx0 : ∀ {X : Cx} (σ : L2.St), PassesAt (L2.CX X.prog X.w) X σ E0 := fun σ pins H s e s' I c => passL pins σ H s e s' I c
  have po : PassesOwn (model P wd) (cxOf (L2.CX P wd) P wd K mg base NN_look_program "look_program" (defScope S_look_program) (He.ga K "look_program") cdv A outer s H E).A (cxOf (L2.CX P wd) P wd K mg base NN_look_program "look_program" (defScope S_look_program) (He.ga K "look_program") cdv A outer s H E).env (cxOf (L2.CX P wd) P wd K mg base NN_look_program "look_program" (defScope S_look_program) (He.ga K "look_program") cdv A outer s H E).xe := passes_of rfl
  have qq : QB (cxOf (L2.CX P wd) P wd K mg base NN_look_program "look_program" (defScope S_look_program) (He.ga K "look_program") cdv A outer s H E) (fun _ => E) (defBody S_look_program) _ (m_look_program f_is_program) :=
  (qb_one (qs_if (qt_not (qt_val (q_call C_is_program (hr.mono (by omega)) hx (qa_cons (q_var 0) qa_nil)))) (qb_one (qs_raise rfl tk T.x_BadTree T.g_BadTree)) qb_nil))
  exact ⟨_, qq.ps, qq.ss⟩
theorem ok_look_program (T : Tx K mg)  (C_is_program : Cal P wd K mg base 43 "is_program" 1 f_is_program []) : Cal P wd K mg base (44) "look_program" 1 f_look_program [] := by
  obtain ⟨h1, fd, F⟩ := T.d_look_program
  exact ⟨⟨_, fd, _, [], h1, F.kp, F.bindsN (ps := ["thing"]) fun _ _ _ _ _ _ us hl => match us, hl with | [_], _ => rfl, .nil, okf_look_program T F  C_is_program⟩⟩
theorem okf_Maker___init__ (T : Tx K mg) {fd : FuncData} (F : FunD K "__init__" "Maker.__init__" (defArgs S_Maker___init__) (defBody S_Maker___init__) (defScope S_Maker___init__) [] [] (He.ma K (He.ga K "Maker") "__init__") fd)  (C_look_program : Cal P wd K mg base 44 "look_program" 1 f_look_program []) : FnOk P wd K mg base (L2.CX P wd) (45) (He.ma K (He.ga K "Maker") "__init__") fd ["self", "program"] (SpOf K 2 f_Maker___init__) := by
  refine ok_of F sc_Maker___init__ rfl rfl fun cdv A outer s H E hr => ?_
  have nd := sc_Maker___init__.nd
  have tk : Takes (cxOf (L2.CX P wd) P wd K mg base NN_Maker___init__ "Maker.__init__" (defScope S_Maker___init__) (He.ma K (He.ga K "Maker") "__init__") cdv A outer s H E) (fun cls d _ H => E cls d H) := takes_of rfl rfl rfl rfl
  have hx : ∀ σ, PassesAt (L2.CX P wd) (cxOf (L2.CX P wd) P wd K mg base NN_Maker___init__ "Maker.__init__" (defScope S_Maker___init__) (He.ma K (He.ga K "Maker") "__init__") cdv A outer s H E) σ E := fun σ => passAt (W := fun cls d _ H => E cls d H) (takes_of rfl rfl rfl rfl) σ
  have hx0 : ∀ {X : Cx} (σ : L2.St), PassesAt (L2.CX X.prog X.w) X σ E0 := fun σ pins H s e s' I c => passL pins σ H s e s' I c
  have po : PassesOwn (model P wd) (cxOf (L2.CX P wd) P wd K mg base NN_Maker___init__ "Maker.__init__" (defScope S_Maker___init__) (He.ma K (He.ga K "Maker") "__init__") cdv A outer s H E).A (cxOf (L2.CX P wd) P wd K mg base NN_Maker___init__ "Maker.__init__" (defScope S_Maker___init__) (He.ma K (He.ga K "Maker") "__init__") cdv A outer s H E).env (cxOf (L2.CX P wd) P wd K mg base NN_Maker___init__ "Maker.__init__" (defScope S_Maker___init__) (He.ma K (He.ga K "Maker") "__init__") cdv A outer s H E).xe := passes_of rfl
  have qq : QB (cxOf (L2.CX P wd) P wd K mg base NN_Maker___init__ "Maker.__init__" (defScope S_Maker___init__) (He.ma K (He.ga K "Maker") "__init__") cdv A outer s H E) (fun _ => E) (defBody S_Maker___init__) _ (m_Maker___init__ f_look_program) :=
  (qb_cons (qs_expr (q_call C_look_program (hr.mono (by omega)) hx (qa_cons (q_var 1) qa_nil)))
  (qb_cons (qs_fld T.q_Maker_program (q_var 1) (q_var 0))
  (qb_cons (qs_fld T.q_Maker_blocks (q_H (ql_disp qa_nil)) (q_var 0))
  (qb_cons (qs_fld T.q_Maker_now q_non (q_var 0))
  (qb_cons (qs_fld T.q_Maker_chain (q_tup qa_nil) (q_var 0))
  (qb_cons (qs_fld T.q_Maker_leaves (q_H (ql_disp qa_nil)) (q_var 0))
  (qb_cons (qs_fld T.q_Maker_labels q_int (q_var 0))
  (qb_cons (qs_fld T.q_Maker_spare (q_gint T.c_BOXES) (q_var 0))
  (qb_cons (qs_fld T.q_Maker_goal q_int (q_var 0))
  (qb_cons (qs_fld T.q_Maker_path (q_tup qa_nil) (q_var 0))
  (qb_one (qs_fld T.q_Maker_tall q_int (q_var 0)))))))))))))
  exact ⟨_, qq.ps, qq.ss⟩
theorem ok_Maker___init__ (T : Tx K mg)  (C_look_program : Cal P wd K mg base 44 "look_program" 1 f_look_program []) : CalC P wd K mg base (45) "Maker" 2 f_Maker___init__ [] := by
  obtain ⟨⟨h1, h2⟩, fd, F⟩ := T.d_Maker___init__
  exact ⟨⟨_, fd, _, [], h1, h2, F.bindsN (ps := ["self", "program"]) fun _ _ _ _ _ _ us hl => match us, hl with | [_, _], _ => rfl, .nil, okf_Maker___init__ T F  C_look_program⟩⟩
theorem okf_look_table (T : Tx K mg) {fd : FuncData} (F : FunD K "look_table" "look_table" (defArgs S_look_table) (defBody S_look_table) (defScope S_look_table) [] [] (He.ga K "look_table") fd)  (C_is_table : Cal P wd K mg base 3 "is_table" 1 f_is_table []) : FnOk P wd K mg base (L2.CX P wd) (4) (He.ga K "look_table") fd ["table"] (SpOf K 1 f_look_table) := by
  refine ok_of F sc_look_table rfl rfl fun cdv A outer s H E hr => ?_
  have nd := sc_look_table.nd
  have tk : Takes (cxOf (L2.CX P wd) P wd K mg base NN_look_table "look_table" (defScope S_look_table) (He.ga K "look_table") cdv A outer s H E) (fun cls d _ H => E cls d H) := takes_of rfl rfl rfl rfl
  have hx : ∀ σ, PassesAt (L2.CX P wd) (cxOf (L2.CX P wd) P wd K mg base NN_look_table "look_table" (defScope S_look_table) (He.ga K "look_table") cdv A outer s H E) σ E := fun σ => passAt (W := fun cls d _ H => E cls d H) (takes_of rfl rfl rfl rfl) σ
  have hx0 : ∀ {X : Cx} (σ : L2.St), PassesAt (L2.CX X.prog X.w) X σ E0 := fun σ pins H s e s' I c => passL pins σ H s e s' I c
  have po : PassesOwn (model P wd) (cxOf (L2.CX P wd) P wd K mg base NN_look_table "look_table" (defScope S_look_table) (He.ga K "look_table") cdv A outer s H E).A (cxOf (L2.CX P wd) P wd K mg base NN_look_table "look_table" (defScope S_look_table) (He.ga K "look_table") cdv A outer s H E).env (cxOf (L2.CX P wd) P wd K mg base NN_look_table "look_table" (defScope S_look_table) (He.ga K "look_table") cdv A outer s H E).xe := passes_of rfl
  have qq : QB (cxOf (L2.CX P wd) P wd K mg base NN_look_table "look_table" (defScope S_look_table) (He.ga K "look_table") cdv A outer s H E) (fun _ => E) (defBody S_look_table) _ (m_look_table f_is_table) :=
  (qb_one (qs_if (qt_not (qt_val (q_call C_is_table (hr.mono (by omega)) hx (qa_cons (q_var 0) qa_nil)))) (qb_one (qs_raise rfl tk T.x_BadTable T.g_BadTable)) qb_nil))
  exact ⟨_, qq.ps, qq.ss⟩
theorem ok_look_table (T : Tx K mg)  (C_is_table : Cal P wd K mg base 3 "is_table" 1 f_is_table []) : Cal P wd K mg base (4) "look_table" 1 f_look_table [] := by
  obtain ⟨h1, fd, F⟩ := T.d_look_table
  exact ⟨⟨_, fd, _, [], h1, F.kp, F.bindsN (ps := ["table"]) fun _ _ _ _ _ _ us hl => match us, hl with | [_], _ => rfl, .nil, okf_look_table T F  C_is_table⟩⟩
theorem okf_found_at (T : Tx K mg) {fd : FuncData} (F : FunD K "found_at" "found_at" (defArgs S_found_at) (defBody S_found_at) (defScope S_found_at) [] [] (He.ga K "found_at") fd)  (C_look_table : Cal P wd K mg base 4 "look_table" 1 f_look_table []) (C_is_whole : Cal P wd K mg base 1 "is_whole" 3 f_is_whole []) (C_found_in : Cal P wd K mg base 1 "found_in" 2 f_found_in []) : FnOk P wd K mg base (L2.CX P wd) (5) (He.ga K "found_at") fd ["table", "place"] (SpOf K 2 f_found_at) := by
  refine ok_of F sc_found_at rfl rfl fun cdv A outer s H E hr => ?_
  have nd := sc_found_at.nd
  have tk : Takes (cxOf (L2.CX P wd) P wd K mg base NN_found_at "found_at" (defScope S_found_at) (He.ga K "found_at") cdv A outer s H E) (fun cls d _ H => E cls d H) := takes_of rfl rfl rfl rfl
  have hx : ∀ σ, PassesAt (L2.CX P wd) (cxOf (L2.CX P wd) P wd K mg base NN_found_at "found_at" (defScope S_found_at) (He.ga K "found_at") cdv A outer s H E) σ E := fun σ => passAt (W := fun cls d _ H => E cls d H) (takes_of rfl rfl rfl rfl) σ
  have hx0 : ∀ {X : Cx} (σ : L2.St), PassesAt (L2.CX X.prog X.w) X σ E0 := fun σ pins H s e s' I c => passL pins σ H s e s' I c
  have po : PassesOwn (model P wd) (cxOf (L2.CX P wd) P wd K mg base NN_found_at "found_at" (defScope S_found_at) (He.ga K "found_at") cdv A outer s H E).A (cxOf (L2.CX P wd) P wd K mg base NN_found_at "found_at" (defScope S_found_at) (He.ga K "found_at") cdv A outer s H E).env (cxOf (L2.CX P wd) P wd K mg base NN_found_at "found_at" (defScope S_found_at) (He.ga K "found_at") cdv A outer s H E).xe := passes_of rfl
  have qq : QB (cxOf (L2.CX P wd) P wd K mg base NN_found_at "found_at" (defScope S_found_at) (He.ga K "found_at") cdv A outer s H E) (fun _ => E) (defBody S_found_at) _ (m_found_at f_look_table f_is_whole f_found_in) :=
  (qb_cons (qs_expr (q_call C_look_table (hr.mono (by omega)) hx (qa_cons (q_var 0) qa_nil)))
  (qb_cons (qs_if (qt_not (qt_val (q_call C_is_whole (hr.mono (by omega)) hx (qa_cons (q_var 1) (qa_cons q_int (qa_cons (q_gint T.c_MOST_PLACE) qa_nil)))))) (qb_one (qs_raise rfl tk T.x_BadTable T.g_BadTable)) qb_nil)
  (qb_one (qs_ret (q_call C_found_in (hr.mono (by omega)) hx (qa_cons (q_var 0) (qa_cons (q_var 1) qa_nil)))))))
  exact ⟨_, qq.ps, qq.ss⟩
theorem ok_found_at (T : Tx K mg)  (C_look_table : Cal P wd K mg base 4 "look_table" 1 f_look_table []) (C_is_whole : Cal P wd K mg base 1 "is_whole" 3 f_is_whole []) (C_found_in : Cal P wd K mg base 1 "found_in" 2 f_found_in []) : Cal P wd K mg base (5) "found_at" 2 f_found_at [] := by
  obtain ⟨h1, fd, F⟩ := T.d_found_at
  exact ⟨⟨_, fd, _, [], h1, F.kp, F.bindsN (ps := ["table", "place"]) fun _ _ _ _ _ _ us hl => match us, hl with | [_, _], _ => rfl, .nil, okf_found_at T F  C_look_table C_is_whole C_found_in⟩⟩
theorem okf_made (T : Tx K mg) {fd : FuncData} (F : FunD K "made" "made" (defArgs S_made) (defBody S_made) (defScope S_made) [] [] (He.ga K "made") fd)  (C_Maker___init__ : CalC P wd K mg base 45 "Maker" 2 f_Maker___init__ []) (C_Maker_function : CalM P wd K mg base 113 "Maker" "function" 2 f_Maker_function []) : FnOk P wd K mg base (L2.CX P wd) (114) (He.ga K "made") fd ["program"] (SpOf K 1 f_made) := by
  refine ok_of F sc_made rfl rfl fun cdv A outer s H E hr => ?_
  have nd := sc_made.nd
  have tk : Takes (cxOf (L2.CX P wd) P wd K mg base NN_made "made" (defScope S_made) (He.ga K "made") cdv A outer s H E) (fun cls d _ H => E cls d H) := takes_of rfl rfl rfl rfl
  have hx : ∀ σ, PassesAt (L2.CX P wd) (cxOf (L2.CX P wd) P wd K mg base NN_made "made" (defScope S_made) (He.ga K "made") cdv A outer s H E) σ E := fun σ => passAt (W := fun cls d _ H => E cls d H) (takes_of rfl rfl rfl rfl) σ
  have hx0 : ∀ {X : Cx} (σ : L2.St), PassesAt (L2.CX X.prog X.w) X σ E0 := fun σ pins H s e s' I c => passL pins σ H s e s' I c
  have po : PassesOwn (model P wd) (cxOf (L2.CX P wd) P wd K mg base NN_made "made" (defScope S_made) (He.ga K "made") cdv A outer s H E).A (cxOf (L2.CX P wd) P wd K mg base NN_made "made" (defScope S_made) (He.ga K "made") cdv A outer s H E).env (cxOf (L2.CX P wd) P wd K mg base NN_made "made" (defScope S_made) (He.ga K "made") cdv A outer s H E).xe := passes_of rfl
  have qq : QB (cxOf (L2.CX P wd) P wd K mg base NN_made "made" (defScope S_made) (He.ga K "made") cdv A outer s H E) (fun _ => E) (defBody S_made) _ (m_made f_Maker___init__ f_Maker_function) :=
  (qb_cons (qs_set 1 nd (q_make C_Maker___init__ (hr.mono (by omega)) hx (qa_cons (q_var 0) qa_nil)))
  (qb_cons (by exact qs_setLc 2 (by rfl) nd (qi_r1 T.n_range (qa_cons (q_len T.n_len (qa_cons (q_var 0) qa_nil)) qa_nil)) (blkOk_by (own := [("goal", 3)]) (N := NN_made) (sc := defScope S_made) (by decide +kernel)) (fun _ _ _ _ _ => (qg_name 3 nd)) (fun _ _ _ _ _ => qts_nil) (fun _ _ _ _ _ => (q_meth C_Maker_function (hr.mono (by omega)) hx0 (q_var 1) (qa_cons (q_var 3) qa_nil))) eL s_L (sw_true rfl rfl rfl (by decide +kernel)))
  (qb_one (qs_ret (q_tup (qa_cons (q_fld T.q_Maker_blocks (q_var 1)) (qa_cons (q_var 2) (qa_cons (q_fld T.q_Maker_spare (q_var 1)) qa_nil))))))))
  exact ⟨_, qq.ps, qq.ss⟩
theorem ok_made (T : Tx K mg)  (C_Maker___init__ : CalC P wd K mg base 45 "Maker" 2 f_Maker___init__ []) (C_Maker_function : CalM P wd K mg base 113 "Maker" "function" 2 f_Maker_function []) : Cal P wd K mg base (114) "made" 1 f_made [] := by
  obtain ⟨h1, fd, F⟩ := T.d_made
  exact ⟨⟨_, fd, _, [], h1, F.kp, F.bindsN (ps := ["program"]) fun _ _ _ _ _ _ us hl => match us, hl with | [_], _ => rfl, .nil, okf_made T F  C_Maker___init__ C_Maker_function⟩⟩
theorem okf_orders (T : Tx K mg) {fd : FuncData} (F : FunD K "orders" "orders" (defArgs S_orders) (defBody S_orders) (defScope S_orders) [] [] (He.ga K "orders") fd)   : FnOk P wd K mg base (L2.CX P wd) (1) (He.ga K "orders") fd ["blocks"] (SpOf K 1 f_orders) := by
  refine ok_of F sc_orders rfl rfl fun cdv A outer s H E hr => ?_
  have nd := sc_orders.nd
  have tk : Takes (cxOf (L2.CX P wd) P wd K mg base NN_orders "orders" (defScope S_orders) (He.ga K "orders") cdv A outer s H E) (fun cls d _ H => E cls d H) := takes_of rfl rfl rfl rfl
  have hx : ∀ σ, PassesAt (L2.CX P wd) (cxOf (L2.CX P wd) P wd K mg base NN_orders "orders" (defScope S_orders) (He.ga K "orders") cdv A outer s H E) σ E := fun σ => passAt (W := fun cls d _ H => E cls d H) (takes_of rfl rfl rfl rfl) σ
  have hx0 : ∀ {X : Cx} (σ : L2.St), PassesAt (L2.CX X.prog X.w) X σ E0 := fun σ pins H s e s' I c => passL pins σ H s e s' I c
  have po : PassesOwn (model P wd) (cxOf (L2.CX P wd) P wd K mg base NN_orders "orders" (defScope S_orders) (He.ga K "orders") cdv A outer s H E).A (cxOf (L2.CX P wd) P wd K mg base NN_orders "orders" (defScope S_orders) (He.ga K "orders") cdv A outer s H E).env (cxOf (L2.CX P wd) P wd K mg base NN_orders "orders" (defScope S_orders) (He.ga K "orders") cdv A outer s H E).xe := passes_of rfl
  have qq : QB (cxOf (L2.CX P wd) P wd K mg base NN_orders "orders" (defScope S_orders) (He.ga K "orders") cdv A outer s H E) (fun _ => E) (defBody S_orders) _ (m_orders ) :=
  (qb_cons (by exact qs_setLc 1 (by rfl) nd (qi_r1 T.n_range (qa_cons (q_len T.n_len (qa_cons (q_var 0) qa_nil)) qa_nil)) (blkOk_by (own := [("k", 3)]) (N := NN_orders) (sc := defScope S_orders) (by decide +kernel)) (fun _ _ _ _ _ => (qg_name 3 nd)) (fun _ _ _ _ _ => (qts_one (qt_cmp (q_eq hr.units) (q_fld T.q_Block_warmth (q_sub1 (q_var 0) (q_var 3))) (q_gstr T.c_HOT)))) (fun _ _ _ _ _ => (q_var 3)) eL s_L (sw_true rfl rfl rfl (by decide +kernel)))
  (qb_cons (by exact qs_setLc 2 (by rfl) nd (qi_r1 T.n_range (qa_cons (q_len T.n_len (qa_cons (q_var 0) qa_nil)) qa_nil)) (blkOk_by (own := [("k", 3)]) (N := NN_orders) (sc := defScope S_orders) (by decide +kernel)) (fun _ _ _ _ _ => (qg_name 3 nd)) (fun _ _ _ _ _ => (qts_one (qt_cmp (q_eq hr.units) (q_fld T.q_Block_warmth (q_sub1 (q_var 0) (q_var 3))) (q_gstr T.c_COLD)))) (fun _ _ _ _ _ => (q_var 3)) eL s_L (sw_true rfl rfl rfl (by decide +kernel)))
  (qb_one (qs_ret (q_tup (qa_cons (q_op q_add (q_var 1) (q_var 2)) (qa_cons (q_len T.n_len (qa_cons (q_var 1) qa_nil)) qa_nil)))))))
  exact ⟨_, qq.ps, qq.ss⟩
theorem ok_orders (T : Tx K mg)   : Cal P wd K mg base (1) "orders" 1 f_orders [] := by
  obtain ⟨h1, fd, F⟩ := T.d_orders
  exact ⟨⟨_, fd, _, [], h1, F.kp, F.bindsN (ps := ["blocks"]) fun _ _ _ _ _ _ us hl => match us, hl with | [_], _ => rfl, .nil, okf_orders T F  ⟩⟩
theorem okf_packed (T : Tx K mg) {fd : FuncData} (F : FunD K "packed" "packed" (defArgs S_packed) (defBody S_packed) (defScope S_packed) [] [] (He.ga K "packed") fd)  (C_look_table : Cal P wd K mg base 4 "look_table" 1 f_look_table []) (C_chains_of : Cal P wd K mg base 1 "chains_of" 1 f_chains_of []) : FnOk P wd K mg base (L2.CX P wd) (5) (He.ga K "packed") fd ["table"] (SpOf K 1 f_packed) := by
  refine ok_of F sc_packed rfl rfl fun cdv A outer s H E hr => ?_
  have nd := sc_packed.nd
  have tk : Takes (cxOf (L2.CX P wd) P wd K mg base NN_packed "packed" (defScope S_packed) (He.ga K "packed") cdv A outer s H E) (fun cls d _ H => E cls d H) := takes_of rfl rfl rfl rfl
  have hx : ∀ σ, PassesAt (L2.CX P wd) (cxOf (L2.CX P wd) P wd K mg base NN_packed "packed" (defScope S_packed) (He.ga K "packed") cdv A outer s H E) σ E := fun σ => passAt (W := fun cls d _ H => E cls d H) (takes_of rfl rfl rfl rfl) σ
  have hx0 : ∀ {X : Cx} (σ : L2.St), PassesAt (L2.CX X.prog X.w) X σ E0 := fun σ pins H s e s' I c => passL pins σ H s e s' I c
  have po : PassesOwn (model P wd) (cxOf (L2.CX P wd) P wd K mg base NN_packed "packed" (defScope S_packed) (He.ga K "packed") cdv A outer s H E).A (cxOf (L2.CX P wd) P wd K mg base NN_packed "packed" (defScope S_packed) (He.ga K "packed") cdv A outer s H E).env (cxOf (L2.CX P wd) P wd K mg base NN_packed "packed" (defScope S_packed) (He.ga K "packed") cdv A outer s H E).xe := passes_of rfl
  have qq : QB (cxOf (L2.CX P wd) P wd K mg base NN_packed "packed" (defScope S_packed) (He.ga K "packed") cdv A outer s H E) (fun _ => E) (defBody S_packed) _ (m_packed f_look_table f_chains_of) :=
  (qb_cons (qs_expr (q_call C_look_table (hr.mono (by omega)) hx (qa_cons (q_var 0) qa_nil)))
  (qb_cons (qs_set 1 nd (q_call C_chains_of (hr.mono (by omega)) hx (qa_cons (q_var 0) qa_nil)))
  (qb_cons (qs_set 2 nd q_nev)
  (qb_cons (qs_for po (by rfl) (qi_v (q_var 1)) (qg_name 3 nd) (qb_cons (qs_aug 2 nd ip_add q_nev)
  (qb_one (qs_for po (by rfl) (qi_v (q_var 3)) (qg_tup 3 (by rfl) (qgs_cons (qg_name 7 nd) (qgs_cons (qg_name 8 nd) (qgs_cons (qg_name 9 nd) qgs_nil)))) (qb_cons (qs_set 10 nd (q_ifx (qt_cmp q_is (q_var 7) q_non) q_int (q_op q_add (q_var 7) q_int)))
  (qb_one (qs_aug 2 nd ip_add q_nev)))))))
  (qb_cons (qs_aug 2 nd ip_add q_nev)
  (qb_cons (qs_set 4 nd q_int)
  (qb_cons (qs_for po (by rfl) (qi_v (q_var 0)) (qg_tup 3 (by rfl) (qgs_cons (qg_name 5 nd) (qgs_cons (qg_name 6 nd) (qgs_cons (qg_name 3 nd) qgs_nil)))) (qb_cons (qs_aug 2 nd ip_add q_nev)
  (qb_one (qs_set 4 nd (q_var 6)))))
  (qb_one (qs_ret (q_var 2))))))))))
  exact ⟨_, qq.ps, qq.ss⟩
theorem ok_packed (T : Tx K mg)  (C_look_table : Cal P wd K mg base 4 "look_table" 1 f_look_table []) (C_chains_of : Cal P wd K mg base 1 "chains_of" 1 f_chains_of []) : Cal P wd K mg base (5) "packed" 1 f_packed [] := by
  obtain ⟨h1, fd, F⟩ := T.d_packed
  exact ⟨⟨_, fd, _, [], h1, F.kp, F.bindsN (ps := ["table"]) fun _ _ _ _ _ _ us hl => match us, hl with | [_], _ => rfl, .nil, okf_packed T F  C_look_table C_chains_of⟩⟩
theorem okf_ranges (T : Tx K mg) {fd : FuncData} (F : FunD K "ranges" "ranges" (defArgs S_ranges) (defBody S_ranges) (defScope S_ranges) [] [] (He.ga K "ranges") fd)  (C_look_code : Cal P wd K mg base 1 "look_code" 1 f_look_code []) (C_can_throw : Cal P wd K mg base 1 "can_throw" 1 f_can_throw []) : FnOk P wd K mg base (L2.CX P wd) (2) (He.ga K "ranges") fd ["code"] (SpOf K 1 f_ranges) := by
  refine ok_of F sc_ranges rfl rfl fun cdv A outer s H E hr => ?_
  have nd := sc_ranges.nd
  have tk : Takes (cxOf (L2.CX P wd) P wd K mg base NN_ranges "ranges" (defScope S_ranges) (He.ga K "ranges") cdv A outer s H E) (fun cls d _ H => E cls d H) := takes_of rfl rfl rfl rfl
  have hx : ∀ σ, PassesAt (L2.CX P wd) (cxOf (L2.CX P wd) P wd K mg base NN_ranges "ranges" (defScope S_ranges) (He.ga K "ranges") cdv A outer s H E) σ E := fun σ => passAt (W := fun cls d _ H => E cls d H) (takes_of rfl rfl rfl rfl) σ
  have hx0 : ∀ {X : Cx} (σ : L2.St), PassesAt (L2.CX X.prog X.w) X σ E0 := fun σ pins H s e s' I c => passL pins σ H s e s' I c
  have po : PassesOwn (model P wd) (cxOf (L2.CX P wd) P wd K mg base NN_ranges "ranges" (defScope S_ranges) (He.ga K "ranges") cdv A outer s H E).A (cxOf (L2.CX P wd) P wd K mg base NN_ranges "ranges" (defScope S_ranges) (He.ga K "ranges") cdv A outer s H E).env (cxOf (L2.CX P wd) P wd K mg base NN_ranges "ranges" (defScope S_ranges) (He.ga K "ranges") cdv A outer s H E).xe := passes_of rfl
  have qq : QB (cxOf (L2.CX P wd) P wd K mg base NN_ranges "ranges" (defScope S_ranges) (He.ga K "ranges") cdv A outer s H E) (fun _ => E) (defBody S_ranges) _ (m_ranges f_look_code f_can_throw) :=
  (qb_cons (qs_expr (q_call C_look_code (hr.mono (by omega)) hx (qa_cons (q_var 0) qa_nil)))
  (qb_cons (qs_set 1 nd (q_H (ql_disp qa_nil)))
  (qb_cons (qs_set 2 nd (q_tup qa_nil))
  (qb_cons (qs_for po (by rfl) (qi_r1 T.n_range (qa_cons (q_len T.n_len (qa_cons (q_fld T.q_Code_rows (q_var 0)) qa_nil)) qa_nil)) (qg_name 3 nd) (qb_one (qs_if (qt_val (q_call C_can_throw (hr.mono (by omega)) hx (qa_cons (q_sub1 (q_fld T.q_Code_rows (q_var 0)) (q_var 3)) qa_nil))) (qb_cons (qs_set 4 nd (q_sub1 (q_fld T.q_Code_catchers (q_var 0)) (q_var 3)))
  (qb_cons (qs_if (qt_w (qw_and (qt_cmp (q_ne hr.units) (q_var 4) (q_tup qa_nil)) (qw_and1 (qt_cmp (q_eq hr.units) (q_var 4) (q_var 2))))) (qb_one (qs_setI (q_tup (qa_cons (q_sub1 (q_sub1 (q_var 1) (q_neg q_int)) q_int) (qa_cons (q_op q_add (q_var 3) q_int) (qa_cons (q_var 4) qa_nil)))) (q_var 1) (q_neg q_int))) (qb_one (qs_if (qt_cmp (q_ne hr.units) (q_var 4) (q_tup qa_nil)) (qb_one (qs_expr (q_app (q_var 1) (q_tup (qa_cons (q_var 3) (qa_cons (q_op q_add (q_var 3) q_int) (qa_cons (q_var 4) qa_nil))))))) qb_nil)))
  (qb_one (qs_set 2 nd (q_var 4))))) qb_nil)))
  (qb_one (qs_ret (q_F (q_var 1))))))))
  exact ⟨_, qq.ps, qq.ss⟩
theorem ok_ranges (T : Tx K mg)  (C_look_code : Cal P wd K mg base 1 "look_code" 1 f_look_code []) (C_can_throw : Cal P wd K mg base 1 "can_throw" 1 f_can_throw []) : Cal P wd K mg base (2) "ranges" 1 f_ranges [] := by
  obtain ⟨h1, fd, F⟩ := T.d_ranges
  exact ⟨⟨_, fd, _, [], h1, F.kp, F.bindsN (ps := ["code"]) fun _ _ _ _ _ _ us hl => match us, hl with | [_], _ => rfl, .nil, okf_ranges T F  C_look_code C_can_throw⟩⟩
theorem vals_Machine___init___table {vs mz zs : List V} {us mv ws : List Value} (r1 : Vals vs us) (r2 : Vals mz mv) (r3 : Vals zs ws) : Vals (g_Machine___init___table_ vs mz zs) (g_Machine___init___table_ us mv ws) := by
  unfold g_Machine___init___table_
  refine r1.append ?_
  rcases r2 with _ | ⟨a0, r2⟩ <;> (try rcases r2 with _ | ⟨a1, r2⟩) <;> (try rcases r2 with _ | ⟨a2, r2⟩) <;> (try rcases r2 with _ | ⟨a3, r2⟩) <;> rcases r3 with _ | ⟨b0, r3⟩ <;> (try rcases r3 with _ | ⟨b1, r3⟩) <;> (try rcases r3 with _ | ⟨b2, r3⟩) <;> (try rcases r3 with _ | ⟨b3, r3⟩) <;> (try rcases r3 with _ | ⟨b4, r3⟩) <;> first | exact .nil | exact (.cons (by assumption) .nil) | exact (.cons (by assumption) (.cons (by assumption) .nil)) | exact (.cons (by assumption) (.cons (by assumption) (.cons (by assumption) .nil))) | exact (.cons (by assumption) (.cons (by assumption) (.cons (by assumption) (.cons (by assumption) .nil)))) | exact (.cons (by assumption) (.cons (by assumption) (.cons (by assumption) (.cons (by assumption) (.cons (by assumption) .nil)))))
theorem vals_Machine___init___table_goal_worths {vs mz zs : List V} {us mv ws : List Value} (r1 : Vals vs us) (r2 : Vals mz mv) (r3 : Vals zs ws) : Vals (g_Machine___init___table_goal_worths_ vs mz zs) (g_Machine___init___table_goal_worths_ us mv ws) := by
  unfold g_Machine___init___table_goal_worths_
  refine r1.append ?_
  rcases r2 with _ | ⟨a0, r2⟩ <;> (try rcases r2 with _ | ⟨a1, r2⟩) <;> (try rcases r2 with _ | ⟨a2, r2⟩) <;> (try rcases r2 with _ | ⟨a3, r2⟩) <;> rcases r3 with _ | ⟨b0, r3⟩ <;> (try rcases r3 with _ | ⟨b1, r3⟩) <;> (try rcases r3 with _ | ⟨b2, r3⟩) <;> (try rcases r3 with _ | ⟨b3, r3⟩) <;> (try rcases r3 with _ | ⟨b4, r3⟩) <;> first | exact .nil | exact (.cons (by assumption) .nil) | exact (.cons (by assumption) (.cons (by assumption) .nil)) | exact (.cons (by assumption) (.cons (by assumption) (.cons (by assumption) .nil))) | exact (.cons (by assumption) (.cons (by assumption) (.cons (by assumption) (.cons (by assumption) .nil)))) | exact (.cons (by assumption) (.cons (by assumption) (.cons (by assumption) (.cons (by assumption) (.cons (by assumption) .nil)))))
theorem okf_Machine___init__ (T : Tx K mg) {fd : FuncData} (F : FunD K "__init__" "Machine.__init__" (defArgs S_Machine___init__) (defBody S_Machine___init__) (defScope S_Machine___init__) [] [("table", (.non)), ("goal", (.int 0)), ("worths", (.ref (kwA ("Machine", some "__init__") "worths" K)))] (He.ma K (He.ga K "Machine") "__init__") fd)  (C_look_code : Cal P wd K mg base 1 "look_code" 1 f_look_code []) (C_look_table : Cal P wd K mg base 4 "look_table" 1 f_look_table []) (C_look_number : Cal P wd K mg base 2 "look_number" 3 f_look_number []) (C_is_whole : Cal P wd K mg base 1 "is_whole" 3 f_is_whole []) (C_ranges : Cal P wd K mg base 2 "ranges" 1 f_ranges []) (C_Frame___init__ : CalC P wd K mg base 1 "Frame" 3 f_Frame___init__ []) : FnOk P wd K mg base (L2.CX P wd) (5) (He.ma K (He.ga K "Machine") "__init__") fd ["self", "code", "table", "goal", "worths"] (SpOf K 5 f_Machine___init__) := by
  refine ok_of F sc_Machine___init__ rfl rfl fun cdv A outer s H E hr => ?_
  have nd := sc_Machine___init__.nd
  have tk : Takes (cxOf (L2.CX P wd) P wd K mg base NN_Machine___init__ "Machine.__init__" (defScope S_Machine___init__) (He.ma K (He.ga K "Machine") "__init__") cdv A outer s H E) (fun cls d _ H => E cls d H) := takes_of rfl rfl rfl rfl
  have hx : ∀ σ, PassesAt (L2.CX P wd) (cxOf (L2.CX P wd) P wd K mg base NN_Machine___init__ "Machine.__init__" (defScope S_Machine___init__) (He.ma K (He.ga K "Machine") "__init__") cdv A outer s H E) σ E := fun σ => passAt (W := fun cls d _ H => E cls d H) (takes_of rfl rfl rfl rfl) σ
  have hx0 : ∀ {X : Cx} (σ : L2.St), PassesAt (L2.CX X.prog X.w) X σ E0 := fun σ pins H s e s' I c => passL pins σ H s e s' I c
  have po : PassesOwn (model P wd) (cxOf (L2.CX P wd) P wd K mg base NN_Machine___init__ "Machine.__init__" (defScope S_Machine___init__) (He.ma K (He.ga K "Machine") "__init__") cdv A outer s H E).A (cxOf (L2.CX P wd) P wd K mg base NN_Machine___init__ "Machine.__init__" (defScope S_Machine___init__) (He.ma K (He.ga K "Machine") "__init__") cdv A outer s H E).env (cxOf (L2.CX P wd) P wd K mg base NN_Machine___init__ "Machine.__init__" (defScope S_Machine___init__) (He.ma K (He.ga K "Machine") "__init__") cdv A outer s H E).xe := passes_of rfl
  have qq : QB (cxOf (L2.CX P wd) P wd K mg base NN_Machine___init__ "Machine.__init__" (defScope S_Machine___init__) (He.ma K (He.ga K "Machine") "__init__") cdv A outer s H E) (fun _ => E) (defBody S_Machine___init__) _ (m_Machine___init__ f_look_code f_look_table f_look_number f_is_whole f_ranges f_Frame___init__) :=
  (qb_cons (qs_expr (q_call C_look_code (hr.mono (by omega)) hx (qa_cons (q_var 1) qa_nil)))
  (qb_cons (qs_if (qt_cmp q_isNot (q_var 2) q_non) (qb_one (qs_expr (q_call C_look_table (hr.mono (by omega)) hx (qa_cons (q_var 2) qa_nil)))) qb_nil)
  (qb_cons (qs_expr (q_call C_look_number (hr.mono (by omega)) hx (qa_cons (q_var 3) (qa_cons q_int (qa_cons (q_op q_sub (q_len T.n_len (qa_cons (q_fld T.q_Code_entries (q_var 1)) qa_nil)) q_int) qa_nil)))))
  (qb_cons (qs_set 5 nd (q_and (q_isi2 .list .tuple T.n_isinstance T.n_list T.n_tuple (q_var 4)) (q_one (q_cmp (q_eq hr.units) (q_len T.n_len (qa_cons (q_var 4) qa_nil)) (q_sub1 (q_fld T.q_Code_many (q_var 1)) (q_var 3))))))
  (qb_cons (qs_if (qt_w (qw_or (qt_not (qt_val (q_var 5))) (qw_or1 (qt_not (qt_val (q_all (by rfl) T.n_all (qa_cons (q_L (by exact ql_comp (by rfl) nd (qi_v (q_var 4)) (blkOk_by (own := [("one", 6)]) (N := NN_Machine___init__) (sc := defScope S_Machine___init__) (by decide +kernel)) (fun _ _ _ _ _ => (qg_name 6 nd)) (fun _ _ _ _ _ => qts_nil) (fun _ _ _ _ _ => (q_call C_is_whole (hr.mono (by omega)) hx0 (qa_cons (q_var 6) (qa_cons q_int (qa_cons (q_gint T.c_MOST_VALUE) qa_nil))))))) qa_nil))))))) (qb_one (qs_raise rfl tk T.x_BadNumber T.g_BadNumber)) qb_nil)
  (qb_cons (qs_fld T.q_Machine_code (q_var 1) (q_var 0))
  (qb_cons (qs_fld T.q_Machine_table (q_ifx (qt_cmp q_is (q_var 2) q_non) (q_call C_ranges (hr.mono (by omega)) hx (qa_cons (q_var 1) qa_nil)) (q_L (ql_listOf T.n_list (qa_cons (q_var 2) qa_nil)))) (q_var 0))
  (qb_cons (qs_fld T.q_Machine_frames (q_H (ql_disp (qa_cons (q_make C_Frame___init__ (hr.mono (by omega)) hx (qa_cons (q_sub1 (q_fld T.q_Code_entries (q_var 1)) (q_var 3)) (qa_cons (q_H (ql_op ql_cat (q_L (ql_listOf T.n_list (qa_cons (q_var 4) qa_nil))) (q_L (ql_op ql_rep (q_L (ql_disp (qa_cons q_int qa_nil))) (q_op q_sub (q_op q_add (q_fld T.q_Code_boxes (q_var 1)) q_int) (q_len T.n_len (qa_cons (q_var 4) qa_nil))))))) qa_nil))) qa_nil))) (q_var 0))
  (qb_cons (qs_fld T.q_Machine_tells (q_H (ql_disp qa_nil)) (q_var 0))
  (qb_cons (qs_fld T.q_Machine_end q_non (q_var 0))
  (qb_one (qs_fld T.q_Machine_many q_int (q_var 0)))))))))))))
  exact ⟨_, qq.ps, qq.ss⟩
theorem ok_Machine___init__ (T : Tx K mg)  (C_look_code : Cal P wd K mg base 1 "look_code" 1 f_look_code []) (C_look_table : Cal P wd K mg base 4 "look_table" 1 f_look_table []) (C_look_number : Cal P wd K mg base 2 "look_number" 3 f_look_number []) (C_is_whole : Cal P wd K mg base 1 "is_whole" 3 f_is_whole []) (C_ranges : Cal P wd K mg base 2 "ranges" 1 f_ranges []) (C_Frame___init__ : CalC P wd K mg base 1 "Frame" 3 f_Frame___init__ []) : CalC P wd K mg base (5) "Machine" 5 f_Machine___init__ [(.non), (.int 0), (.ref (kwA ("Machine", some "__init__") "worths" K))] := by
  obtain ⟨⟨h1, h2⟩, fd, F⟩ := T.d_Machine___init__
  obtain ⟨ds, hv, hb⟩ := F.binds0 (ps := ["self", "code", "table", "goal", "worths"]) 2 (by simp) rfl fun D doc pm an cdv ct us ks h1 h2 => match us, ks, h1, h2 with | [_, _], [_, _, _], _, _ => ⟨_, _, _, _, _, _, rfl, rfl, ⟨_, _, _, _, _, _, rfl, rfl, ⟨_, _, _, _, _, _, rfl, rfl, rfl⟩⟩⟩
  exact ⟨⟨_, fd, _, ds, h1, h2, hb, hv, okf_Machine___init__ T F  C_look_code C_look_table C_look_number C_is_whole C_ranges C_Frame___init__⟩⟩
theorem ok_Machine___init___table (T : Tx K mg)  (C_look_code : Cal P wd K mg base 1 "look_code" 1 f_look_code []) (C_look_table : Cal P wd K mg base 4 "look_table" 1 f_look_table []) (C_look_number : Cal P wd K mg base 2 "look_number" 3 f_look_number []) (C_is_whole : Cal P wd K mg base 1 "is_whole" 3 f_is_whole []) (C_ranges : Cal P wd K mg base 2 "ranges" 1 f_ranges []) (C_Frame___init__ : CalC P wd K mg base 1 "Frame" 3 f_Frame___init__ []) : CalCK P wd K mg base (5) "Machine" 1 ["table"] 5 f_Machine___init__ (gV_Machine___init___table K) gD_Machine___init___table := by
  obtain ⟨⟨h1, h2⟩, fd, F⟩ := T.d_Machine___init__
  obtain ⟨mv, hb⟩ := F.kbinds0 (ps := ["self", "code", "table", "goal", "worths"]) 2 ["table"] [("goal", (.int 0)), ("worths", (.ref (kwA ("Machine", some "__init__") "worths" K)))] (fun us mv ws => g_Machine___init___table_ us mv ws) (by simp) (by simp) (fun r1 r2 r3 => vals_Machine___init___table r1 r2 r3) fun D doc pm an cdv ct us mv ws h1 h2 h3 => match us, mv, ws, h1, h2, h3 with | [_, _], [_, _], [_], _, _, _ => ⟨_, _, _, _, _, _, rfl, rfl, ⟨_, _, _, _, _, _, rfl, rfl, rfl⟩⟩
  refine ⟨⟨_, fd, _, _, h1, h2, hb, okf_Machine___init__ T F  C_look_code C_look_table C_look_number C_is_whole C_ranges C_Frame___init__⟩, fun w vs zs ds es m rv rz l1 l2 => ?_⟩
  unfold gV_Machine___init___table gD_Machine___init___table g_Machine___init___table_
  refine rv.append ?_
  match zs, es, rz, l2 with
  | [_], [_], .cons r_table (.nil), _ => exact .cons r_table (.cons (.int _) (.cons (T.w_Machine___init___worths w m) (.nil)))
theorem ok_Machine___init___table_goal_worths (T : Tx K mg)  (C_look_code : Cal P wd K mg base 1 "look_code" 1 f_look_code []) (C_look_table : Cal P wd K mg base 4 "look_table" 1 f_look_table []) (C_look_number : Cal P wd K mg base 2 "look_number" 3 f_look_number []) (C_is_whole : Cal P wd K mg base 1 "is_whole" 3 f_is_whole []) (C_ranges : Cal P wd K mg base 2 "ranges" 1 f_ranges []) (C_Frame___init__ : CalC P wd K mg base 1 "Frame" 3 f_Frame___init__ []) : CalCK P wd K mg base (5) "Machine" 1 ["table", "goal", "worths"] 5 f_Machine___init__ (gV_Machine___init___table_goal_worths K) gD_Machine___init___table_goal_worths := by
  obtain ⟨⟨h1, h2⟩, fd, F⟩ := T.d_Machine___init__
  obtain ⟨mv, hb⟩ := F.kbinds0 (ps := ["self", "code", "table", "goal", "worths"]) 2 ["table", "goal", "worths"] [] (fun us mv ws => g_Machine___init___table_goal_worths_ us mv ws) (by simp) (by simp) (fun r1 r2 r3 => vals_Machine___init___table_goal_worths r1 r2 r3) fun D doc pm an cdv ct us mv ws h1 h2 h3 => match us, mv, ws, h1, h2, h3 with | [_, _], [], [_, _, _], _, _, _ => rfl
  refine ⟨⟨_, fd, _, _, h1, h2, hb, okf_Machine___init__ T F  C_look_code C_look_table C_look_number C_is_whole C_ranges C_Frame___init__⟩, fun w vs zs ds es m rv rz l1 l2 => ?_⟩
  unfold gV_Machine___init___table_goal_worths gD_Machine___init___table_goal_worths g_Machine___init___table_goal_worths_
  refine rv.append ?_
  match zs, es, rz, l2 with
  | [_, _, _], [_, _, _], .cons r_table (.cons r_goal (.cons r_worths (.nil))), _ => exact .cons r_table (.cons r_goal (.cons r_worths (.nil)))
theorem okf_reckoned (T : Tx K mg) {fd : FuncData} (F : FunD K "reckoned" "reckoned" (defArgs S_reckoned) (defBody S_reckoned) (defScope S_reckoned) [] [] (He.ga K "reckoned") fd)   : FnOk P wd K mg base (L2.CX P wd) (1) (He.ga K "reckoned") fd ["sign", "one", "other"] (SpOf K 3 f_reckoned) := by
  refine ok_of F sc_reckoned rfl rfl fun cdv A outer s H E hr => ?_
  have nd := sc_reckoned.nd
  have tk : Takes (cxOf (L2.CX P wd) P wd K mg base NN_reckoned "reckoned" (defScope S_reckoned) (He.ga K "reckoned") cdv A outer s H E) (fun cls d _ H => E cls d H) := takes_of rfl rfl rfl rfl
  have hx : ∀ σ, PassesAt (L2.CX P wd) (cxOf (L2.CX P wd) P wd K mg base NN_reckoned "reckoned" (defScope S_reckoned) (He.ga K "reckoned") cdv A outer s H E) σ E := fun σ => passAt (W := fun cls d _ H => E cls d H) (takes_of rfl rfl rfl rfl) σ
  have hx0 : ∀ {X : Cx} (σ : L2.St), PassesAt (L2.CX X.prog X.w) X σ E0 := fun σ pins H s e s' I c => passL pins σ H s e s' I c
  have po : PassesOwn (model P wd) (cxOf (L2.CX P wd) P wd K mg base NN_reckoned "reckoned" (defScope S_reckoned) (He.ga K "reckoned") cdv A outer s H E).A (cxOf (L2.CX P wd) P wd K mg base NN_reckoned "reckoned" (defScope S_reckoned) (He.ga K "reckoned") cdv A outer s H E).env (cxOf (L2.CX P wd) P wd K mg base NN_reckoned "reckoned" (defScope S_reckoned) (He.ga K "reckoned") cdv A outer s H E).xe := passes_of rfl
  have qq : QB (cxOf (L2.CX P wd) P wd K mg base NN_reckoned "reckoned" (defScope S_reckoned) (He.ga K "reckoned") cdv A outer s H E) (fun _ => E) (defBody S_reckoned) _ (m_reckoned ) :=
  (qb_cons (qs_if (qt_cmp (q_eq hr.units) (q_var 0) q_str) (qb_one (qs_ret (q_op q_mod (q_op q_add (q_var 1) (q_var 2)) (q_op q_add (q_gint T.c_MOST_VALUE) q_int)))) qb_nil)
  (qb_cons (qs_if (qt_cmp (q_eq hr.units) (q_var 0) q_str) (qb_one (qs_ret (q_op q_mod (q_op q_sub (q_var 1) (q_var 2)) (q_op q_add (q_gint T.c_MOST_VALUE) q_int)))) qb_nil)
  (qb_cons (qs_if (qt_cmp (q_eq hr.units) (q_var 0) q_str) (qb_one (qs_ret (q_op q_mod (q_op q_mul (q_var 1) (q_var 2)) (q_op q_add (q_gint T.c_MOST_VALUE) q_int)))) qb_nil)
  (qb_one (qs_ret (q_ifx (qt_cmp (q_eq hr.units) (q_var 2) q_int) q_non (q_op q_fdiv (q_var 1) (q_var 2))))))))
  exact ⟨_, qq.ps, qq.ss⟩
theorem ok_reckoned (T : Tx K mg)   : Cal P wd K mg base (1) "reckoned" 3 f_reckoned [] := by
  obtain ⟨h1, fd, F⟩ := T.d_reckoned
  exact ⟨⟨_, fd, _, [], h1, F.kp, F.bindsN (ps := ["sign", "one", "other"]) fun _ _ _ _ _ _ us hl => match us, hl with | [_, _, _], _ => rfl, .nil, okf_reckoned T F  ⟩⟩
theorem okf_Machine_plain (T : Tx K mg) {fd : FuncData} (F : FunD K "plain" "Machine.plain" (defArgs S_Machine_plain) (defBody S_Machine_plain) (defScope S_Machine_plain) [] [] (He.ma K (He.ga K "Machine") "plain") fd)  (C_reckoned : Cal P wd K mg base 1 "reckoned" 3 f_reckoned []) : FnOk P wd K mg base (L2.CX P wd) (2) (He.ma K (He.ga K "Machine") "plain") fd ["self", "frame", "word", "what", "more"] (SpOf K 5 f_Machine_plain) := by
  refine ok_of F sc_Machine_plain rfl rfl fun cdv A outer s H E hr => ?_
  have nd := sc_Machine_plain.nd
  have tk : Takes (cxOf (L2.CX P wd) P wd K mg base NN_Machine_plain "Machine.plain" (defScope S_Machine_plain) (He.ma K (He.ga K "Machine") "plain") cdv A outer s H E) (fun cls d _ H => E cls d H) := takes_of rfl rfl rfl rfl
  have hx : ∀ σ, PassesAt (L2.CX P wd) (cxOf (L2.CX P wd) P wd K mg base NN_Machine_plain "Machine.plain" (defScope S_Machine_plain) (He.ma K (He.ga K "Machine") "plain") cdv A outer s H E) σ E := fun σ => passAt (W := fun cls d _ H => E cls d H) (takes_of rfl rfl rfl rfl) σ
  have hx0 : ∀ {X : Cx} (σ : L2.St), PassesAt (L2.CX X.prog X.w) X σ E0 := fun σ pins H s e s' I c => passL pins σ H s e s' I c
  have po : PassesOwn (model P wd) (cxOf (L2.CX P wd) P wd K mg base NN_Machine_plain "Machine.plain" (defScope S_Machine_plain) (He.ma K (He.ga K "Machine") "plain") cdv A outer s H E).A (cxOf (L2.CX P wd) P wd K mg base NN_Machine_plain "Machine.plain" (defScope S_Machine_plain) (He.ma K (He.ga K "Machine") "plain") cdv A outer s H E).env (cxOf (L2.CX P wd) P wd K mg base NN_Machine_plain "Machine.plain" (defScope S_Machine_plain) (He.ma K (He.ga K "Machine") "plain") cdv A outer s H E).xe := passes_of rfl
  have qq : QB (cxOf (L2.CX P wd) P wd K mg base NN_Machine_plain "Machine.plain" (defScope S_Machine_plain) (He.ma K (He.ga K "Machine") "plain") cdv A outer s H E) (fun _ => E) (defBody S_Machine_plain) _ (m_Machine_plain f_reckoned) :=
  (qb_cons (qs_set 5 nd (q_fld T.q_Frame_stack (q_var 1)))
  (qb_one (qs_if (qt_cmp (q_eq hr.units) (q_var 2) q_str) (qb_one (qs_expr (q_app (q_var 5) (q_var 3)))) (qb_one (qs_if (qt_cmp (q_eq hr.units) (q_var 2) q_str) (qb_one (qs_expr (q_app (q_var 5) (q_sub1 (q_fld T.q_Code_Frame_boxes (q_var 1)) (q_var 3))))) (qb_one (qs_if (qt_cmp (q_eq hr.units) (q_var 2) q_str) (qb_one (qs_setI (q_pop (q_var 5)) (q_fld T.q_Code_Frame_boxes (q_var 1)) (q_var 3))) (qb_one (qs_if (qt_cmp (q_eq hr.units) (q_var 2) q_str) (qb_one (qs_expr (q_app (q_fld T.q_Machine_tells (q_var 0)) (q_pop (q_var 5))))) (qb_one (qs_if (qt_cmp (q_eq hr.units) (q_var 2) q_str) (qb_one (qs_augI ip_sub (q_fld T.q_Code_Frame_boxes (q_var 1)) (q_var 3) q_int)) (qb_one (qs_if (qt_cmp (q_eq hr.units) (q_var 2) q_str) (qb_cons (qs_setI (q_pop (q_var 5)) (q_fld T.q_Code_Frame_boxes (q_var 1)) (q_var 3))
  (qb_one (qs_setI (q_fld T.q_Frame_kind (q_var 1)) (q_fld T.q_Code_Frame_boxes (q_var 1)) (q_var 4)))) (qb_cons (qs_set 6 nd (q_pop (q_var 5)))
  (qb_one (qs_expr (q_app (q_var 5) (q_call C_reckoned (hr.mono (by omega)) hx (qa_cons (q_var 3) (qa_cons (q_pop (q_var 5)) (qa_cons (q_var 6) qa_nil)))))))))))))))))))))
  exact ⟨_, qq.ps, qq.ss⟩
theorem ok_Machine_plain (T : Tx K mg)  (C_reckoned : Cal P wd K mg base 1 "reckoned" 3 f_reckoned []) : CalM P wd K mg base (2) "Machine" "plain" 5 f_Machine_plain [] := by
  obtain ⟨⟨h1, h2⟩, fd, F⟩ := T.d_Machine_plain
  exact ⟨⟨_, fd, _, [], h1, h2, F.bindsN (ps := ["self", "frame", "word", "what", "more"]) fun _ _ _ _ _ _ us hl => match us, hl with | [_, _, _, _, _], _ => rfl, .nil, okf_Machine_plain T F  C_reckoned⟩⟩
theorem okf_Machine_throws (T : Tx K mg) {fd : FuncData} (F : FunD K "throws" "Machine.throws" (defArgs S_Machine_throws) (defBody S_Machine_throws) (defScope S_Machine_throws) [] [] (He.ma K (He.ga K "Machine") "throws") fd)  (C_Machine_instruction : CalM P wd K mg base 1 "Machine" "instruction" 1 f_Machine_instruction []) (C_reckoned : Cal P wd K mg base 1 "reckoned" 3 f_reckoned []) : FnOk P wd K mg base (L2.CX P wd) (2) (He.ma K (He.ga K "Machine") "throws") fd ["self"] (SpOf K 1 f_Machine_throws) := by
  refine ok_of F sc_Machine_throws rfl rfl fun cdv A outer s H E hr => ?_
  have nd := sc_Machine_throws.nd
  have tk : Takes (cxOf (L2.CX P wd) P wd K mg base NN_Machine_throws "Machine.throws" (defScope S_Machine_throws) (He.ma K (He.ga K "Machine") "throws") cdv A outer s H E) (fun cls d _ H => E cls d H) := takes_of rfl rfl rfl rfl
  have hx : ∀ σ, PassesAt (L2.CX P wd) (cxOf (L2.CX P wd) P wd K mg base NN_Machine_throws "Machine.throws" (defScope S_Machine_throws) (He.ma K (He.ga K "Machine") "throws") cdv A outer s H E) σ E := fun σ => passAt (W := fun cls d _ H => E cls d H) (takes_of rfl rfl rfl rfl) σ
  have hx0 : ∀ {X : Cx} (σ : L2.St), PassesAt (L2.CX X.prog X.w) X σ E0 := fun σ pins H s e s' I c => passL pins σ H s e s' I c
  have po : PassesOwn (model P wd) (cxOf (L2.CX P wd) P wd K mg base NN_Machine_throws "Machine.throws" (defScope S_Machine_throws) (He.ma K (He.ga K "Machine") "throws") cdv A outer s H E).A (cxOf (L2.CX P wd) P wd K mg base NN_Machine_throws "Machine.throws" (defScope S_Machine_throws) (He.ma K (He.ga K "Machine") "throws") cdv A outer s H E).env (cxOf (L2.CX P wd) P wd K mg base NN_Machine_throws "Machine.throws" (defScope S_Machine_throws) (He.ma K (He.ga K "Machine") "throws") cdv A outer s H E).xe := passes_of rfl
  have qq : QB (cxOf (L2.CX P wd) P wd K mg base NN_Machine_throws "Machine.throws" (defScope S_Machine_throws) (He.ma K (He.ga K "Machine") "throws") cdv A outer s H E) (fun _ => E) (defBody S_Machine_throws) _ (m_Machine_throws f_Machine_instruction f_reckoned) :=
  (qb_cons (qs_tgt (qg_tup 3 (by rfl) (qgs_cons (qg_name 1 nd) (qgs_cons (qg_name 2 nd) (qgs_cons (qg_name 3 nd) qgs_nil)))) (q_meth0 C_Machine_instruction (hr.mono (by omega)) hx (q_var 0)))
  (qb_cons (qs_set 4 nd (q_sub1 (q_fld T.q_Machine_frames (q_var 0)) (q_neg q_int)))
  (qb_cons (qs_if (qt_cmp (q_eq hr.units) (q_var 1) q_str) (qb_one (qs_ret (q_tup (qa_cons (q_var 2) (qa_cons (q_sub1 (q_fld T.q_Frame_stack (q_var 4)) (q_neg q_int)) qa_nil))))) qb_nil)
  (qb_cons (qs_if (qt_cmp (q_eq hr.units) (q_var 1) q_str) (qb_one (qs_ret (q_tup (qa_cons (q_sub1 (q_fld T.q_Code_Frame_boxes (q_var 4)) (q_var 3)) (qa_cons (q_sub1 (q_fld T.q_Code_Frame_boxes (q_var 4)) (q_var 2)) qa_nil))))) qb_nil)
  (qb_cons (qs_if (qt_w (qw_and (qt_cmp (q_eq hr.units) (q_var 1) q_str) (qw_and1 (qt_cmp q_is (q_call C_reckoned (hr.mono (by omega)) hx (qa_cons (q_var 2) (qa_cons (q_sub1 (q_fld T.q_Frame_stack (q_var 4)) (q_neg q_int)) (qa_cons (q_sub1 (q_fld T.q_Frame_stack (q_var 4)) (q_neg q_int)) qa_nil)))) q_non)))) (qb_one (qs_ret (q_tup (qa_cons (q_gint T.c_FAULT) (qa_cons (q_sub1 (q_fld T.q_Frame_stack (q_var 4)) (q_neg q_int)) qa_nil))))) qb_nil)
  (qb_one (qs_ret q_non)))))))
  exact ⟨_, qq.ps, qq.ss⟩
theorem ok_Machine_throws (T : Tx K mg)  (C_Machine_instruction : CalM P wd K mg base 1 "Machine" "instruction" 1 f_Machine_instruction []) (C_reckoned : Cal P wd K mg base 1 "reckoned" 3 f_reckoned []) : CalM P wd K mg base (2) "Machine" "throws" 1 f_Machine_throws [] := by
  obtain ⟨⟨h1, h2⟩, fd, F⟩ := T.d_Machine_throws
  exact ⟨⟨_, fd, _, [], h1, h2, F.bindsN (ps := ["self"]) fun _ _ _ _ _ _ us hl => match us, hl with | [_], _ => rfl, .nil, okf_Machine_throws T F  C_Machine_instruction C_reckoned⟩⟩
theorem okf_Machine_step (T : Tx K mg) {fd : FuncData} (F : FunD K "step" "Machine.step" (defArgs S_Machine_step) (defBody S_Machine_step) (defScope S_Machine_step) [] [] (He.ma K (He.ga K "Machine") "step") fd)  (C_Machine_instruction : CalM P wd K mg base 1 "Machine" "instruction" 1 f_Machine_instruction []) (C_Machine_throws : CalM P wd K mg base 2 "Machine" "throws" 1 f_Machine_throws []) (C_Machine_thrown : CalM P wd K mg base 2 "Machine" "thrown" 3 f_Machine_thrown []) (C_Frame___init__ : CalC P wd K mg base 1 "Frame" 3 f_Frame___init__ []) (C_Machine_returned : CalM P wd K mg base 1 "Machine" "returned" 2 f_Machine_returned []) (C_Machine_plain : CalM P wd K mg base 2 "Machine" "plain" 5 f_Machine_plain []) : FnOk P wd K mg base (L2.CX P wd) (3) (He.ma K (He.ga K "Machine") "step") fd ["self"] (SpOf K 1 f_Machine_step) := by
  refine ok_of F sc_Machine_step rfl rfl fun cdv A outer s H E hr => ?_
  have nd := sc_Machine_step.nd
  have tk : Takes (cxOf (L2.CX P wd) P wd K mg base NN_Machine_step "Machine.step" (defScope S_Machine_step) (He.ma K (He.ga K "Machine") "step") cdv A outer s H E) (fun cls d _ H => E cls d H) := takes_of rfl rfl rfl rfl
  have hx : ∀ σ, PassesAt (L2.CX P wd) (cxOf (L2.CX P wd) P wd K mg base NN_Machine_step "Machine.step" (defScope S_Machine_step) (He.ma K (He.ga K "Machine") "step") cdv A outer s H E) σ E := fun σ => passAt (W := fun cls d _ H => E cls d H) (takes_of rfl rfl rfl rfl) σ
  have hx0 : ∀ {X : Cx} (σ : L2.St), PassesAt (L2.CX X.prog X.w) X σ E0 := fun σ pins H s e s' I c => passL pins σ H s e s' I c
  have po : PassesOwn (model P wd) (cxOf (L2.CX P wd) P wd K mg base NN_Machine_step "Machine.step" (defScope S_Machine_step) (He.ma K (He.ga K "Machine") "step") cdv A outer s H E).A (cxOf (L2.CX P wd) P wd K mg base NN_Machine_step "Machine.step" (defScope S_Machine_step) (He.ma K (He.ga K "Machine") "step") cdv A outer s H E).env (cxOf (L2.CX P wd) P wd K mg base NN_Machine_step "Machine.step" (defScope S_Machine_step) (He.ma K (He.ga K "Machine") "step") cdv A outer s H E).xe := passes_of rfl
  have qq : QB (cxOf (L2.CX P wd) P wd K mg base NN_Machine_step "Machine.step" (defScope S_Machine_step) (He.ma K (He.ga K "Machine") "step") cdv A outer s H E) (fun _ => E) (defBody S_Machine_step) _ (m_Machine_step f_Machine_instruction f_Machine_throws f_Machine_thrown f_Frame___init__ f_Machine_returned f_Machine_plain) :=
  (qb_cons (qs_tgt (qg_tup 3 (by rfl) (qgs_cons (qg_name 1 nd) (qgs_cons (qg_name 2 nd) (qgs_cons (qg_name 3 nd) qgs_nil)))) (q_meth0 C_Machine_instruction (hr.mono (by omega)) hx (q_var 0)))
  (qb_cons (qs_fldadd T.q_Machine_many (q_var 0) q_int)
  (qb_cons (qs_set 4 nd (q_meth0 C_Machine_throws (hr.mono (by omega)) hx (q_var 0)))
  (qb_cons (qs_if (qt_cmp q_isNot (q_var 4) q_non) (qb_cons (qs_expr (q_meth C_Machine_thrown (hr.mono (by omega)) hx (q_var 0) (qa_cons (q_sub1 (q_var 4) q_int) (qa_cons (q_sub1 (q_var 4) q_int) qa_nil))))
  (qb_one qs_retN)) qb_nil)
  (qb_cons (qs_set 5 nd (q_sub1 (q_fld T.q_Machine_frames (q_var 0)) (q_neg q_int)))
  (qb_one (qs_if (qt_cmp (q_eq hr.units) (q_var 1) q_str) (qb_cons (qs_set 6 nd (q_slice (q_fld T.q_Frame_stack (q_var 5)) (qp_some (q_op q_sub (q_len T.n_len (qa_cons (q_fld T.q_Frame_stack (q_var 5)) qa_nil)) (q_var 3))) qp_none))
  (qb_cons (qs_fld T.q_Frame_stack (q_H (ql_slice (q_fld T.q_Frame_stack (q_var 5)) qp_none (qp_some (q_op q_sub (q_len T.n_len (qa_cons (q_fld T.q_Frame_stack (q_var 5)) qa_nil)) (q_var 3))))) (q_var 5))
  (qb_one (qs_expr (q_app (q_fld T.q_Machine_frames (q_var 0)) (q_make C_Frame___init__ (hr.mono (by omega)) hx (qa_cons (q_var 2) (qa_cons (q_H (ql_op ql_cat (q_var 6) (q_L (ql_op ql_rep (q_L (ql_disp (qa_cons q_int qa_nil))) (q_op q_sub (q_op q_add (q_fld T.q_Code_Frame_boxes (q_fld T.q_Machine_code (q_var 0))) q_int) (q_var 3)))))) qa_nil)))))))) (qb_one (qs_if (qt_cmp (q_eq hr.units) (q_var 1) q_str) (qb_one (qs_expr (q_meth C_Machine_returned (hr.mono (by omega)) hx (q_var 0) (qa_cons (q_pop (q_fld T.q_Frame_stack (q_var 5))) qa_nil)))) (qb_one (qs_if (qt_cmp (q_eq hr.units) (q_var 1) q_str) (qb_one (qs_fld T.q_Frame_place (q_var 2) (q_var 5))) (qb_one (qs_if (qt_cmp (q_eq hr.units) (q_var 1) q_str) (qb_one (qs_fld T.q_Frame_place (q_ifx (qt_cmp (q_eq hr.units) (q_pop (q_fld T.q_Frame_stack (q_var 5))) q_int) (q_var 2) (q_op q_add (q_fld T.q_Frame_place (q_var 5)) q_int)) (q_var 5))) (qb_cons (qs_expr (q_meth C_Machine_plain (hr.mono (by omega)) hx (q_var 0) (qa_cons (q_var 5) (qa_cons (q_var 1) (qa_cons (q_var 2) (qa_cons (q_var 3) qa_nil))))))
  (qb_one (qs_fldadd T.q_Frame_place (q_var 5) q_int))))))))))))))))
  exact ⟨_, qq.ps, qq.ss⟩
theorem ok_Machine_step (T : Tx K mg)  (C_Machine_instruction : CalM P wd K mg base 1 "Machine" "instruction" 1 f_Machine_instruction []) (C_Machine_throws : CalM P wd K mg base 2 "Machine" "throws" 1 f_Machine_throws []) (C_Machine_thrown : CalM P wd K mg base 2 "Machine" "thrown" 3 f_Machine_thrown []) (C_Frame___init__ : CalC P wd K mg base 1 "Frame" 3 f_Frame___init__ []) (C_Machine_returned : CalM P wd K mg base 1 "Machine" "returned" 2 f_Machine_returned []) (C_Machine_plain : CalM P wd K mg base 2 "Machine" "plain" 5 f_Machine_plain []) : CalM P wd K mg base (3) "Machine" "step" 1 f_Machine_step [] := by
  obtain ⟨⟨h1, h2⟩, fd, F⟩ := T.d_Machine_step
  exact ⟨⟨_, fd, _, [], h1, h2, F.bindsN (ps := ["self"]) fun _ _ _ _ _ _ us hl => match us, hl with | [_], _ => rfl, .nil, okf_Machine_step T F  C_Machine_instruction C_Machine_throws C_Machine_thrown C_Frame___init__ C_Machine_returned C_Machine_plain⟩⟩
theorem vals_Machine_run_most {vs mz zs : List V} {us mv ws : List Value} (r1 : Vals vs us) (r2 : Vals mz mv) (r3 : Vals zs ws) : Vals (g_Machine_run_most_ vs mz zs) (g_Machine_run_most_ us mv ws) := by
  unfold g_Machine_run_most_
  refine r1.append ?_
  rcases r2 with _ | ⟨a0, r2⟩ <;> (try rcases r2 with _ | ⟨a1, r2⟩) <;> (try rcases r2 with _ | ⟨a2, r2⟩) <;> (try rcases r2 with _ | ⟨a3, r2⟩) <;> rcases r3 with _ | ⟨b0, r3⟩ <;> (try rcases r3 with _ | ⟨b1, r3⟩) <;> (try rcases r3 with _ | ⟨b2, r3⟩) <;> (try rcases r3 with _ | ⟨b3, r3⟩) <;> (try rcases r3 with _ | ⟨b4, r3⟩) <;> first | exact .nil | exact (.cons (by assumption) .nil) | exact (.cons (by assumption) (.cons (by assumption) .nil)) | exact (.cons (by assumption) (.cons (by assumption) (.cons (by assumption) .nil))) | exact (.cons (by assumption) (.cons (by assumption) (.cons (by assumption) (.cons (by assumption) .nil)))) | exact (.cons (by assumption) (.cons (by assumption) (.cons (by assumption) (.cons (by assumption) (.cons (by assumption) .nil)))))
theorem okf_Machine_run (T : Tx K mg) {fd : FuncData} (F : FunD K "run" "Machine.run" (defArgs S_Machine_run) (defBody S_Machine_run) (defScope S_Machine_run) [] [("most", (.int 100000))] (He.ma K (He.ga K "Machine") "run") fd)  (C_look_number : Cal P wd K mg base 2 "look_number" 3 f_look_number []) (C_Machine_step : CalM P wd K mg base 3 "Machine" "step" 1 f_Machine_step []) : FnOk P wd K mg base (L2.CX P wd) (4) (He.ma K (He.ga K "Machine") "run") fd ["self", "most"] (SpOf K 2 f_Machine_run) := by
  refine ok_of F sc_Machine_run rfl rfl fun cdv A outer s H E hr => ?_
  have nd := sc_Machine_run.nd
  have tk : Takes (cxOf (L2.CX P wd) P wd K mg base NN_Machine_run "Machine.run" (defScope S_Machine_run) (He.ma K (He.ga K "Machine") "run") cdv A outer s H E) (fun cls d _ H => E cls d H) := takes_of rfl rfl rfl rfl
  have hx : ∀ σ, PassesAt (L2.CX P wd) (cxOf (L2.CX P wd) P wd K mg base NN_Machine_run "Machine.run" (defScope S_Machine_run) (He.ma K (He.ga K "Machine") "run") cdv A outer s H E) σ E := fun σ => passAt (W := fun cls d _ H => E cls d H) (takes_of rfl rfl rfl rfl) σ
  have hx0 : ∀ {X : Cx} (σ : L2.St), PassesAt (L2.CX X.prog X.w) X σ E0 := fun σ pins H s e s' I c => passL pins σ H s e s' I c
  have po : PassesOwn (model P wd) (cxOf (L2.CX P wd) P wd K mg base NN_Machine_run "Machine.run" (defScope S_Machine_run) (He.ma K (He.ga K "Machine") "run") cdv A outer s H E).A (cxOf (L2.CX P wd) P wd K mg base NN_Machine_run "Machine.run" (defScope S_Machine_run) (He.ma K (He.ga K "Machine") "run") cdv A outer s H E).env (cxOf (L2.CX P wd) P wd K mg base NN_Machine_run "Machine.run" (defScope S_Machine_run) (He.ma K (He.ga K "Machine") "run") cdv A outer s H E).xe := passes_of rfl
  have qq : QB (cxOf (L2.CX P wd) P wd K mg base NN_Machine_run "Machine.run" (defScope S_Machine_run) (He.ma K (He.ga K "Machine") "run") cdv A outer s H E) (fun _ => E) (defBody S_Machine_run) _ (m_Machine_run f_look_number f_Machine_step) :=
  (qb_cons (qs_expr (q_call C_look_number (hr.mono (by omega)) hx (qa_cons (q_var 1) (qa_cons q_int (qa_cons (q_gint T.c_MOST_STEPS) qa_nil)))))
  (qb_cons (qs_while 1000000 po (qt_cmp q_is (q_fld T.q_Machine_end (q_var 0)) q_non) (qb_cons (qs_if (qt_cmp q_ge (q_fld T.q_Machine_many (q_var 0)) (q_var 1)) (qb_one (qs_raise rfl tk T.x_Stuck T.g_Stuck)) qb_nil)
  (qb_one (qs_expr (q_meth0 C_Machine_step (hr.mono (by omega)) hx (q_var 0))))))
  (qb_one (qs_ret (q_fld T.q_Machine_many (q_var 0))))))
  exact ⟨_, qq.ps, qq.ss⟩
theorem ok_Machine_run (T : Tx K mg)  (C_look_number : Cal P wd K mg base 2 "look_number" 3 f_look_number []) (C_Machine_step : CalM P wd K mg base 3 "Machine" "step" 1 f_Machine_step []) : CalM P wd K mg base (4) "Machine" "run" 2 f_Machine_run [(.int 100000)] := by
  obtain ⟨⟨h1, h2⟩, fd, F⟩ := T.d_Machine_run
  obtain ⟨ds, hv, hb⟩ := F.binds0 (ps := ["self", "most"]) 1 (by simp) rfl fun D doc pm an cdv ct us ks h1 h2 => match us, ks, h1, h2 with | [_], [_], _, _ => ⟨_, _, _, _, _, _, rfl, rfl, rfl⟩
  exact ⟨⟨_, fd, _, ds, h1, h2, hb, hv, okf_Machine_run T F  C_look_number C_Machine_step⟩⟩
theorem ok_Machine_run_most (T : Tx K mg)  (C_look_number : Cal P wd K mg base 2 "look_number" 3 f_look_number []) (C_Machine_step : CalM P wd K mg base 3 "Machine" "step" 1 f_Machine_step []) : CalMK P wd K mg base (4) "Machine" "run" 0 ["most"] 2 f_Machine_run (gV_Machine_run_most K) gD_Machine_run_most := by
  obtain ⟨⟨h1, h2⟩, fd, F⟩ := T.d_Machine_run
  obtain ⟨mv, hb⟩ := F.kbinds0 (ps := ["self", "most"]) 1 ["most"] [] (fun us mv ws => g_Machine_run_most_ us mv ws) (by simp) (by simp) (fun r1 r2 r3 => vals_Machine_run_most r1 r2 r3) fun D doc pm an cdv ct us mv ws h1 h2 h3 => match us, mv, ws, h1, h2, h3 with | [_], [], [_], _, _, _ => rfl
  refine ⟨⟨_, fd, _, _, h1, h2, hb, okf_Machine_run T F  C_look_number C_Machine_step⟩, fun w vs zs ds es m rv rz l1 l2 => ?_⟩
  unfold gV_Machine_run_most gD_Machine_run_most g_Machine_run_most_
  refine rv.append ?_
  match zs, es, rz, l2 with
  | [_], [_], .cons r_most (.nil), _ => exact .cons r_most (.nil)
theorem okf__law_over (T : Tx K mg) {fd : FuncData} (F : FunD K "_law_over" "_law_over" (defArgs S__law_over) (defBody S__law_over) (defScope S__law_over) [] [] (He.ga K "_law_over") fd)  (C_Machine_step : CalM P wd K mg base 3 "Machine" "step" 1 f_Machine_step []) (C_Machine_where : CalM P wd K mg base 2 "Machine" "where" 1 f_Machine_where []) (C_Machine_throws : CalM P wd K mg base 2 "Machine" "throws" 1 f_Machine_throws []) (C_Machine_search : CalM P wd K mg base 2 "Machine" "search" 2 f_Machine_search []) : FnOk P wd K mg base (L2.CX P wd) (4) (He.ga K "_law_over") fd ["kind", "machine"] (SpOf K 2 f__law_over) := by
  refine ok_of F sc__law_over rfl rfl fun cdv A outer s H E hr => ?_
  have nd := sc__law_over.nd
  have tk : Takes (cxOf (L2.CX P wd) P wd K mg base NN__law_over "_law_over" (defScope S__law_over) (He.ga K "_law_over") cdv A outer s H E) (fun cls d _ H => E cls d H) := takes_of rfl rfl rfl rfl
  have hx : ∀ σ, PassesAt (L2.CX P wd) (cxOf (L2.CX P wd) P wd K mg base NN__law_over "_law_over" (defScope S__law_over) (He.ga K "_law_over") cdv A outer s H E) σ E := fun σ => passAt (W := fun cls d _ H => E cls d H) (takes_of rfl rfl rfl rfl) σ
  have hx0 : ∀ {X : Cx} (σ : L2.St), PassesAt (L2.CX X.prog X.w) X σ E0 := fun σ pins H s e s' I c => passL pins σ H s e s' I c
  have po : PassesOwn (model P wd) (cxOf (L2.CX P wd) P wd K mg base NN__law_over "_law_over" (defScope S__law_over) (He.ga K "_law_over") cdv A outer s H E).A (cxOf (L2.CX P wd) P wd K mg base NN__law_over "_law_over" (defScope S__law_over) (He.ga K "_law_over") cdv A outer s H E).env (cxOf (L2.CX P wd) P wd K mg base NN__law_over "_law_over" (defScope S__law_over) (He.ga K "_law_over") cdv A outer s H E).xe := passes_of rfl
  have qq : QB (cxOf (L2.CX P wd) P wd K mg base NN__law_over "_law_over" (defScope S__law_over) (He.ga K "_law_over") cdv A outer s H E) (fun _ => E) (defBody S__law_over) _ (m__law_over f_Machine_step f_Machine_where f_Machine_throws f_Machine_search) :=
  (qb_cons (qs_if (qt_cmp (q_eq hr.units) (q_var 0) q_int) (qb_one (qs_ret (q_meth0 C_Machine_step (hr.mono (by omega)) hx (q_var 1)))) qb_nil)
  (qb_cons (qs_if (qt_cmp (q_eq hr.units) (q_var 0) q_int) (qb_one (qs_ret (q_meth0 C_Machine_where (hr.mono (by omega)) hx (q_var 1)))) qb_nil)
  (qb_one (qs_ret (q_ifx (qt_cmp (q_eq hr.units) (q_var 0) q_int) (q_meth0 C_Machine_throws (hr.mono (by omega)) hx (q_var 1)) (q_meth C_Machine_search (hr.mono (by omega)) hx (q_var 1) (qa_cons q_int qa_nil)))))))
  exact ⟨_, qq.ps, qq.ss⟩
theorem ok__law_over (T : Tx K mg)  (C_Machine_step : CalM P wd K mg base 3 "Machine" "step" 1 f_Machine_step []) (C_Machine_where : CalM P wd K mg base 2 "Machine" "where" 1 f_Machine_where []) (C_Machine_throws : CalM P wd K mg base 2 "Machine" "throws" 1 f_Machine_throws []) (C_Machine_search : CalM P wd K mg base 2 "Machine" "search" 2 f_Machine_search []) : Cal P wd K mg base (4) "_law_over" 2 f__law_over [] := by
  obtain ⟨h1, fd, F⟩ := T.d__law_over
  exact ⟨⟨_, fd, _, [], h1, F.kp, F.bindsN (ps := ["kind", "machine"]) fun _ _ _ _ _ _ us hl => match us, hl with | [_, _], _ => rfl, .nil, okf__law_over T F  C_Machine_step C_Machine_where C_Machine_throws C_Machine_search⟩⟩
theorem vals_done_table {vs mz zs : List V} {us mv ws : List Value} (r1 : Vals vs us) (r2 : Vals mz mv) (r3 : Vals zs ws) : Vals (g_done_table_ vs mz zs) (g_done_table_ us mv ws) := by
  unfold g_done_table_
  refine r1.append ?_
  rcases r2 with _ | ⟨a0, r2⟩ <;> (try rcases r2 with _ | ⟨a1, r2⟩) <;> (try rcases r2 with _ | ⟨a2, r2⟩) <;> (try rcases r2 with _ | ⟨a3, r2⟩) <;> rcases r3 with _ | ⟨b0, r3⟩ <;> (try rcases r3 with _ | ⟨b1, r3⟩) <;> (try rcases r3 with _ | ⟨b2, r3⟩) <;> (try rcases r3 with _ | ⟨b3, r3⟩) <;> (try rcases r3 with _ | ⟨b4, r3⟩) <;> first | exact .nil | exact (.cons (by assumption) .nil) | exact (.cons (by assumption) (.cons (by assumption) .nil)) | exact (.cons (by assumption) (.cons (by assumption) (.cons (by assumption) .nil))) | exact (.cons (by assumption) (.cons (by assumption) (.cons (by assumption) (.cons (by assumption) .nil)))) | exact (.cons (by assumption) (.cons (by assumption) (.cons (by assumption) (.cons (by assumption) (.cons (by assumption) .nil)))))
theorem okf_done (T : Tx K mg) {fd : FuncData} (F : FunD K "done" "done" (defArgs S_done) (defBody S_done) (defScope S_done) [] [("table", (.non)), ("most", (.int 100000)), ("goal", (.int 0)), ("worths", (.ref (kwA ("done", none) "worths" K)))] (He.ga K "done") fd)  (C_Machine___init___table_goal_worths : CalCK P wd K mg base 5 "Machine" 1 ["table", "goal", "worths"] 5 f_Machine___init__ (gV_Machine___init___table_goal_worths K) gD_Machine___init___table_goal_worths) (C_Machine_run_most : CalMK P wd K mg base 4 "Machine" "run" 0 ["most"] 2 f_Machine_run (gV_Machine_run_most K) gD_Machine_run_most) (C_Machine_outcome : CalM P wd K mg base 1 "Machine" "outcome" 1 f_Machine_outcome []) : FnOk P wd K mg base (L2.CX P wd) (7) (He.ga K "done") fd ["code", "table", "most", "goal", "worths"] (SpOf K 5 f_done) := by
  refine ok_of F sc_done rfl rfl fun cdv A outer s H E hr => ?_
  have nd := sc_done.nd
  have tk : Takes (cxOf (L2.CX P wd) P wd K mg base NN_done "done" (defScope S_done) (He.ga K "done") cdv A outer s H E) (fun cls d _ H => E cls d H) := takes_of rfl rfl rfl rfl
  have hx : ∀ σ, PassesAt (L2.CX P wd) (cxOf (L2.CX P wd) P wd K mg base NN_done "done" (defScope S_done) (He.ga K "done") cdv A outer s H E) σ E := fun σ => passAt (W := fun cls d _ H => E cls d H) (takes_of rfl rfl rfl rfl) σ
  have hx0 : ∀ {X : Cx} (σ : L2.St), PassesAt (L2.CX X.prog X.w) X σ E0 := fun σ pins H s e s' I c => passL pins σ H s e s' I c
  have po : PassesOwn (model P wd) (cxOf (L2.CX P wd) P wd K mg base NN_done "done" (defScope S_done) (He.ga K "done") cdv A outer s H E).A (cxOf (L2.CX P wd) P wd K mg base NN_done "done" (defScope S_done) (He.ga K "done") cdv A outer s H E).env (cxOf (L2.CX P wd) P wd K mg base NN_done "done" (defScope S_done) (He.ga K "done") cdv A outer s H E).xe := passes_of rfl
  have qq : QB (cxOf (L2.CX P wd) P wd K mg base NN_done "done" (defScope S_done) (He.ga K "done") cdv A outer s H E) (fun _ => E) (defBody S_done) _ (m_done f_Machine___init__ f_Machine_run f_Machine_outcome) :=
  (qb_cons (qs_set 5 nd (q_makeK C_Machine___init___table_goal_worths (hr.mono (by omega)) hx (qa_cons (q_var 0) qa_nil) (qk_cons (q_var 1) (qk_cons (q_var 3) (qk_cons (q_var 4) qk_nil)))))
  (qb_cons (qs_expr (q_methK0 C_Machine_run_most (hr.mono (by omega)) hx (q_var 5) (qk_cons (q_var 2) qk_nil)))
  (qb_one (qs_ret (q_meth0 C_Machine_outcome (hr.mono (by omega)) hx (q_var 5))))))
  exact ⟨_, qq.ps, qq.ss⟩
theorem ok_done_table (T : Tx K mg)  (C_Machine___init___table_goal_worths : CalCK P wd K mg base 5 "Machine" 1 ["table", "goal", "worths"] 5 f_Machine___init__ (gV_Machine___init___table_goal_worths K) gD_Machine___init___table_goal_worths) (C_Machine_run_most : CalMK P wd K mg base 4 "Machine" "run" 0 ["most"] 2 f_Machine_run (gV_Machine_run_most K) gD_Machine_run_most) (C_Machine_outcome : CalM P wd K mg base 1 "Machine" "outcome" 1 f_Machine_outcome []) : CalK P wd K mg base (7) "done" 1 ["table"] 5 f_done (gV_done_table K) gD_done_table := by
  obtain ⟨h1, fd, F⟩ := T.d_done
  obtain ⟨mv, hb⟩ := F.kbinds0 (ps := ["code", "table", "most", "goal", "worths"]) 1 ["table"] [("most", (.int 100000)), ("goal", (.int 0)), ("worths", (.ref (kwA ("done", none) "worths" K)))] (fun us mv ws => g_done_table_ us mv ws) (by simp) (by simp) (fun r1 r2 r3 => vals_done_table r1 r2 r3) fun D doc pm an cdv ct us mv ws h1 h2 h3 => match us, mv, ws, h1, h2, h3 with | [_], [_, _, _], [_], _, _, _ => ⟨_, _, _, _, _, _, rfl, rfl, ⟨_, _, _, _, _, _, rfl, rfl, ⟨_, _, _, _, _, _, rfl, rfl, rfl⟩⟩⟩
  refine ⟨⟨_, fd, _, _, h1, F.kp, hb, okf_done T F  C_Machine___init___table_goal_worths C_Machine_run_most C_Machine_outcome⟩, fun w vs zs ds es m rv rz l1 l2 => ?_⟩
  unfold gV_done_table gD_done_table g_done_table_
  refine rv.append ?_
  match zs, es, rz, l2 with
  | [_], [_], .cons r_table (.nil), _ => exact .cons r_table (.cons (.int _) (.cons (.int _) (.cons (T.w_done_worths w m) (.nil))))
theorem okf_settle (T : Tx K mg) {fd : FuncData} (F : FunD K "settle" "settle" (defArgs S_settle) (defBody S_settle) (defScope S_settle) [] [] (He.ga K "settle") fd)   : FnOk P wd K mg base (L2.CX P wd) (1) (He.ga K "settle") fd ["code", "entries"] (SpOf K 2 f_settle) := by
  refine ok_of F sc_settle rfl rfl fun cdv A outer s H E hr => ?_
  have nd := sc_settle.nd
  have tk : Takes (cxOf (L2.CX P wd) P wd K mg base NN_settle "settle" (defScope S_settle) (He.ga K "settle") cdv A outer s H E) (fun cls d _ H => E cls d H) := takes_of rfl rfl rfl rfl
  have hx : ∀ σ, PassesAt (L2.CX P wd) (cxOf (L2.CX P wd) P wd K mg base NN_settle "settle" (defScope S_settle) (He.ga K "settle") cdv A outer s H E) σ E := fun σ => passAt (W := fun cls d _ H => E cls d H) (takes_of rfl rfl rfl rfl) σ
  have hx0 : ∀ {X : Cx} (σ : L2.St), PassesAt (L2.CX X.prog X.w) X σ E0 := fun σ pins H s e s' I c => passL pins σ H s e s' I c
  have po : PassesOwn (model P wd) (cxOf (L2.CX P wd) P wd K mg base NN_settle "settle" (defScope S_settle) (He.ga K "settle") cdv A outer s H E).A (cxOf (L2.CX P wd) P wd K mg base NN_settle "settle" (defScope S_settle) (He.ga K "settle") cdv A outer s H E).env (cxOf (L2.CX P wd) P wd K mg base NN_settle "settle" (defScope S_settle) (He.ga K "settle") cdv A outer s H E).xe := passes_of rfl
  have qq : QB (cxOf (L2.CX P wd) P wd K mg base NN_settle "settle" (defScope S_settle) (He.ga K "settle") cdv A outer s H E) (fun _ => E) (defBody S_settle) _ (m_settle ) :=
  (qb_cons (qs_fld T.q_Code_entries (q_L (by exact ql_comp (by rfl) nd (qi_v (q_var 1)) (blkOk_by (own := [("label", 8)]) (N := NN_settle) (sc := defScope S_settle) (by decide +kernel)) (fun _ _ _ _ _ => (qg_name 8 nd)) (fun _ _ _ _ _ => qts_nil) (fun _ _ _ _ _ => (q_getK (room1 hr) (q_fld T.q_Code_starts (q_var 0)) (q_var 8))))) (q_var 0))
  (qb_cons (qs_for po (by rfl) (qi_enum T.n_enumerate (qa_cons (q_L (ql_listOf T.n_list (qa_cons (q_fld T.q_Code_rows (q_var 0)) qa_nil))) qa_nil)) (qg_tup 2 (by rfl) (qgs_cons (qg_name 2 nd) (qgs_cons (qg_tup 3 (by rfl) (qgs_cons (qg_name 3 nd) (qgs_cons (qg_name 4 nd) (qgs_cons (qg_name 5 nd) qgs_nil)))) qgs_nil))) (qb_one (qs_if (qt_cmp (q_inU (room1 hr)) (q_var 3) (q_gdat T.c_GOALS T.r_GOALS)) (qb_one (qs_setI (q_tup (qa_cons (q_var 3) (qa_cons (q_getK (room1 hr) (q_fld T.q_Code_starts (q_var 0)) (q_var 4)) (qa_cons (q_var 5) qa_nil)))) (q_fld T.q_Code_rows (q_var 0)) (q_var 2))) (qb_one (qs_if (qt_cmp (q_eq hr.units) (q_var 3) q_str) (qb_one (qs_setI (q_tup (qa_cons (q_var 3) (qa_cons (q_sub1 (q_fld T.q_Code_entries (q_var 0)) (q_var 4)) (qa_cons (q_var 5) qa_nil)))) (q_fld T.q_Code_rows (q_var 0)) (q_var 2))) qb_nil)))))
  (qb_cons (qs_set 6 nd (q_H (ql_disp qa_nil)))
  (qb_cons (qs_for po (by rfl) (qi_v (q_fld T.q_Code_catchers (q_var 0))) (qg_name 7 nd) (qb_one (qs_expr (q_app (q_var 6) (q_tupleOf T.n_tuple (qa_cons (q_L (by exact ql_comp (by rfl) nd (qi_v (q_var 7)) (blkOk_by (own := [("kind", 9), ("goal", 10), ("clean", 11)]) (N := NN_settle) (sc := defScope S_settle) (by decide +kernel)) (fun _ _ _ _ _ => (qg_tup 3 (by rfl) (qgs_cons (qg_name 9 nd) (qgs_cons (qg_name 10 nd) (qgs_cons (qg_name 11 nd) qgs_nil))))) (fun _ _ _ _ _ => qts_nil) (fun _ _ _ _ _ => (q_tup (qa_cons (q_var 9) (qa_cons (q_getK (room1 hr) (q_fld T.q_Code_starts (q_var 0)) (q_var 10)) (qa_cons (q_var 11) qa_nil))))))) qa_nil))))))
  (qb_one (qs_fld T.q_Code_catchers (q_var 6) (q_var 0)))))))
  exact ⟨_, qq.ps, qq.ss⟩
theorem ok_settle (T : Tx K mg)   : Cal P wd K mg base (1) "settle" 2 f_settle [] := by
  obtain ⟨h1, fd, F⟩ := T.d_settle
  exact ⟨⟨_, fd, _, [], h1, F.kp, F.bindsN (ps := ["code", "entries"]) fun _ _ _ _ _ _ us hl => match us, hl with | [_, _], _ => rfl, .nil, okf_settle T F  ⟩⟩
theorem okf_table_text (T : Tx K mg) {fd : FuncData} (F : FunD K "table_text" "table_text" (defArgs S_table_text) (defBody S_table_text) (defScope S_table_text) [] [] (He.ga K "table_text") fd)  (C_look_table : Cal P wd K mg base 4 "look_table" 1 f_look_table []) : FnOk P wd K mg base (L2.CX P wd) (5) (He.ga K "table_text") fd ["table"] (SpOf K 1 f_table_text) := by
  refine ok_of F sc_table_text rfl rfl fun cdv A outer s H E hr => ?_
  have nd := sc_table_text.nd
  have tk : Takes (cxOf (L2.CX P wd) P wd K mg base NN_table_text "table_text" (defScope S_table_text) (He.ga K "table_text") cdv A outer s H E) (fun cls d _ H => E cls d H) := takes_of rfl rfl rfl rfl
  have hx : ∀ σ, PassesAt (L2.CX P wd) (cxOf (L2.CX P wd) P wd K mg base NN_table_text "table_text" (defScope S_table_text) (He.ga K "table_text") cdv A outer s H E) σ E := fun σ => passAt (W := fun cls d _ H => E cls d H) (takes_of rfl rfl rfl rfl) σ
  have hx0 : ∀ {X : Cx} (σ : L2.St), PassesAt (L2.CX X.prog X.w) X σ E0 := fun σ pins H s e s' I c => passL pins σ H s e s' I c
  have po : PassesOwn (model P wd) (cxOf (L2.CX P wd) P wd K mg base NN_table_text "table_text" (defScope S_table_text) (He.ga K "table_text") cdv A outer s H E).A (cxOf (L2.CX P wd) P wd K mg base NN_table_text "table_text" (defScope S_table_text) (He.ga K "table_text") cdv A outer s H E).env (cxOf (L2.CX P wd) P wd K mg base NN_table_text "table_text" (defScope S_table_text) (He.ga K "table_text") cdv A outer s H E).xe := passes_of rfl
  have qq : QB (cxOf (L2.CX P wd) P wd K mg base NN_table_text "table_text" (defScope S_table_text) (He.ga K "table_text") cdv A outer s H E) (fun _ => E) (defBody S_table_text) _ (m_table_text f_look_table) :=
  (qb_cons (qs_expr (q_call C_look_table (hr.mono (by omega)) hx (qa_cons (q_var 0) qa_nil)))
  (qb_cons (qs_set 1 nd (q_H (ql_disp qa_nil)))
  (qb_cons (qs_for po (by rfl) (qi_v (q_var 0)) (qg_tup 3 (by rfl) (qgs_cons (qg_name 2 nd) (qgs_cons (qg_name 3 nd) (qgs_cons (qg_name 4 nd) qgs_nil)))) (qb_one (qs_expr (q_app (q_var 1) q_nev))))
  (qb_one (qs_ret q_nev)))))
  exact ⟨_, qq.ps, qq.ss⟩
theorem ok_table_text (T : Tx K mg)  (C_look_table : Cal P wd K mg base 4 "look_table" 1 f_look_table []) : Cal P wd K mg base (5) "table_text" 1 f_table_text [] := by
  obtain ⟨h1, fd, F⟩ := T.d_table_text
  exact ⟨⟨_, fd, _, [], h1, F.kp, F.bindsN (ps := ["table"]) fun _ _ _ _ _ _ us hl => match us, hl with | [_], _ => rfl, .nil, okf_table_text T F  C_look_table⟩⟩
theorem okf__law_does (T : Tx K mg) {fd : FuncData} (F : FunD K "_law_does" "_law_does" (defArgs S__law_does) (defBody S__law_does) (defScope S__law_does) [] [] (He.ga K "_law_does") fd)  (C_Machine___init___table : CalCK P wd K mg base 5 "Machine" 1 ["table"] 5 f_Machine___init__ (gV_Machine___init___table K) gD_Machine___init___table) (C_done_table : CalK P wd K mg base 7 "done" 1 ["table"] 5 f_done (gV_done_table K) gD_done_table) (C_ranges : Cal P wd K mg base 2 "ranges" 1 f_ranges []) (C_listing : Cal P wd K mg base 2 "listing" 1 f_listing []) (C_found_at : Cal P wd K mg base 5 "found_at" 2 f_found_at []) (C_packed : Cal P wd K mg base 5 "packed" 1 f_packed []) (C_table_text : Cal P wd K mg base 5 "table_text" 1 f_table_text []) (C_Machine_run_most : CalMK P wd K mg base 4 "Machine" "run" 0 ["most"] 2 f_Machine_run (gV_Machine_run_most K) gD_Machine_run_most) (C_Code_caught_by : CalM P wd K mg base 4 "Code" "caught_by" 2 f_Code_caught_by []) (C__law_over : Cal P wd K mg base 4 "_law_over" 2 f__law_over []) : FnOk P wd K mg base (L2.CX P wd) (8) (He.ga K "_law_does") fd ["kind", "one", "two"] (SpOf K 3 f__law_does) := by
  refine ok_of F sc__law_does rfl rfl fun cdv A outer s H E hr => ?_
  have nd := sc__law_does.nd
  have tk : Takes (cxOf (L2.CX P wd) P wd K mg base NN__law_does "_law_does" (defScope S__law_does) (He.ga K "_law_does") cdv A outer s H E) (fun cls d _ H => E cls d H) := takes_of rfl rfl rfl rfl
  have hx : ∀ σ, PassesAt (L2.CX P wd) (cxOf (L2.CX P wd) P wd K mg base NN__law_does "_law_does" (defScope S__law_does) (He.ga K "_law_does") cdv A outer s H E) σ E := fun σ => passAt (W := fun cls d _ H => E cls d H) (takes_of rfl rfl rfl rfl) σ
  have hx0 : ∀ {X : Cx} (σ : L2.St), PassesAt (L2.CX X.prog X.w) X σ E0 := fun σ pins H s e s' I c => passL pins σ H s e s' I c
  have po : PassesOwn (model P wd) (cxOf (L2.CX P wd) P wd K mg base NN__law_does "_law_does" (defScope S__law_does) (He.ga K "_law_does") cdv A outer s H E).A (cxOf (L2.CX P wd) P wd K mg base NN__law_does "_law_does" (defScope S__law_does) (He.ga K "_law_does") cdv A outer s H E).env (cxOf (L2.CX P wd) P wd K mg base NN__law_does "_law_does" (defScope S__law_does) (He.ga K "_law_does") cdv A outer s H E).xe := passes_of rfl
  have qq : QB (cxOf (L2.CX P wd) P wd K mg base NN__law_does "_law_does" (defScope S__law_does) (He.ga K "_law_does") cdv A outer s H E) (fun _ => E) (defBody S__law_does) _ (m__law_does f_Machine___init__ f_done f_ranges f_listing f_found_at f_packed f_table_text f_Machine_run f_Code_caught_by f__law_over) :=
  (qb_cons (qs_if (qt_cmp (q_eq hr.units) (q_var 0) q_int) (qb_one (qs_ret (q_makeK C_Machine___init___table (hr.mono (by omega)) hx (qa_cons (q_var 1) qa_nil) (qk_cons (q_var 2) qk_nil)))) qb_nil)
  (qb_cons (qs_if (qt_cmp (q_eq hr.units) (q_var 0) q_int) (qb_one (qs_ret (q_callN C_done_table (hr.mono (by omega)) hx (qa_cons (q_var 1) qa_nil) (qk_cons (q_var 2) qk_nil)))) qb_nil)
  (qb_cons (qs_if (qt_cmp (q_eq hr.units) (q_var 0) q_int) (qb_one (qs_ret (q_call C_ranges (hr.mono (by omega)) hx (qa_cons (q_var 1) qa_nil)))) qb_nil)
  (qb_cons (qs_if (qt_cmp (q_eq hr.units) (q_var 0) q_int) (qb_one (qs_ret (q_call C_listing (hr.mono (by omega)) hx (qa_cons (q_var 1) qa_nil)))) qb_nil)
  (qb_cons (qs_if (qt_cmp (q_eq hr.units) (q_var 0) q_int) (qb_one (qs_ret (q_call C_found_at (hr.mono (by omega)) hx (qa_cons (q_var 1) (qa_cons (q_var 2) qa_nil))))) qb_nil)
  (qb_cons (qs_if (qt_cmp (q_eq hr.units) (q_var 0) q_int) (qb_one (qs_ret (q_call C_packed (hr.mono (by omega)) hx (qa_cons (q_var 1) qa_nil)))) qb_nil)
  (qb_cons (qs_if (qt_cmp (q_eq hr.units) (q_var 0) q_int) (qb_one (qs_ret (q_call C_table_text (hr.mono (by omega)) hx (qa_cons (q_var 1) qa_nil)))) qb_nil)
  (qb_cons (qs_if (qt_cmp (q_eq hr.units) (q_var 0) q_int) (qb_one (qs_ret (q_methK0 C_Machine_run_most (hr.mono (by omega)) hx (q_var 1) (qk_cons (q_var 2) qk_nil)))) qb_nil)
  (qb_one (qs_ret (q_ifx (qt_cmp (q_eq hr.units) (q_var 0) q_int) (q_meth C_Code_caught_by (hr.mono (by omega)) hx (q_var 1) (qa_cons (q_var 2) qa_nil)) (q_call C__law_over (hr.mono (by omega)) hx (qa_cons (q_var 0) (qa_cons (q_var 1) qa_nil))))))))))))))
  exact ⟨_, qq.ps, qq.ss⟩
theorem ok__law_does (T : Tx K mg)  (C_Machine___init___table : CalCK P wd K mg base 5 "Machine" 1 ["table"] 5 f_Machine___init__ (gV_Machine___init___table K) gD_Machine___init___table) (C_done_table : CalK P wd K mg base 7 "done" 1 ["table"] 5 f_done (gV_done_table K) gD_done_table) (C_ranges : Cal P wd K mg base 2 "ranges" 1 f_ranges []) (C_listing : Cal P wd K mg base 2 "listing" 1 f_listing []) (C_found_at : Cal P wd K mg base 5 "found_at" 2 f_found_at []) (C_packed : Cal P wd K mg base 5 "packed" 1 f_packed []) (C_table_text : Cal P wd K mg base 5 "table_text" 1 f_table_text []) (C_Machine_run_most : CalMK P wd K mg base 4 "Machine" "run" 0 ["most"] 2 f_Machine_run (gV_Machine_run_most K) gD_Machine_run_most) (C_Code_caught_by : CalM P wd K mg base 4 "Code" "caught_by" 2 f_Code_caught_by []) (C__law_over : Cal P wd K mg base 4 "_law_over" 2 f__law_over []) : Cal P wd K mg base (8) "_law_does" 3 f__law_does [] := by
  obtain ⟨h1, fd, F⟩ := T.d__law_does
  exact ⟨⟨_, fd, _, [], h1, F.kp, F.bindsN (ps := ["kind", "one", "two"]) fun _ _ _ _ _ _ us hl => match us, hl with | [_, _, _], _ => rfl, .nil, okf__law_does T F  C_Machine___init___table C_done_table C_ranges C_listing C_found_at C_packed C_table_text C_Machine_run_most C_Code_caught_by C__law_over⟩⟩
theorem okf__law_asked (T : Tx K mg) {fd : FuncData} (F : FunD K "_law_asked" "_law_asked" (defArgs S__law_asked) (defBody S__law_asked) (defScope S__law_asked) [] [] (He.ga K "_law_asked") fd)  (C_NoPlace___init__ : CalNp P wd K mg base 1 "NoPlace" "place") (C__law_does : Cal P wd K mg base 8 "_law_does" 3 f__law_does []) (C__law_refusal : Cal P wd K mg base 1 "_law_refusal" 1 f__law_refusal []) : FnOk P wd K mg base (L2.CX P wd) (9) (He.ga K "_law_asked") fd ["kind", "one", "two"] (SpOf K 3 f__law_asked) := by
  refine ok_of F sc__law_asked rfl rfl fun cdv A outer s H E hr => ?_
  have nd := sc__law_asked.nd
  have tk : Takes (cxOf (L2.CX P wd) P wd K mg base NN__law_asked "_law_asked" (defScope S__law_asked) (He.ga K "_law_asked") cdv A outer s H E) (fun cls d _ H => E cls d H) := takes_of rfl rfl rfl rfl
  have hx : ∀ σ, PassesAt (L2.CX P wd) (cxOf (L2.CX P wd) P wd K mg base NN__law_asked "_law_asked" (defScope S__law_asked) (He.ga K "_law_asked") cdv A outer s H E) σ E := fun σ => passAt (W := fun cls d _ H => E cls d H) (takes_of rfl rfl rfl rfl) σ
  have hx0 : ∀ {X : Cx} (σ : L2.St), PassesAt (L2.CX X.prog X.w) X σ E0 := fun σ pins H s e s' I c => passL pins σ H s e s' I c
  have po : PassesOwn (model P wd) (cxOf (L2.CX P wd) P wd K mg base NN__law_asked "_law_asked" (defScope S__law_asked) (He.ga K "_law_asked") cdv A outer s H E).A (cxOf (L2.CX P wd) P wd K mg base NN__law_asked "_law_asked" (defScope S__law_asked) (He.ga K "_law_asked") cdv A outer s H E).env (cxOf (L2.CX P wd) P wd K mg base NN__law_asked "_law_asked" (defScope S__law_asked) (He.ga K "_law_asked") cdv A outer s H E).xe := passes_of rfl
  have qq : QB (cxOf (L2.CX P wd) P wd K mg base NN__law_asked "_law_asked" (defScope S__law_asked) (He.ga K "_law_asked") cdv A outer s H E) (fun _ => E) (defBody S__law_asked) _ (m__law_asked f__law_does f__law_refusal) :=
  (qb_cons (qs_set 3 nd q_non)
  (qb_cons (qs_set 4 nd q_non)
  (qb_cons (qs_try2 (cs := ["LaneError", "BadNumber", "BadTree", "BadOrder", "BadTable", "Stuck", "Over", "BadText"]) 5 4 3 rfl rfl rfl nd T.d_NoPlace___init__.1.2 T.mf_NoPlace T.mn_NoPlace T.m_LaneError T.g_NoPlace T.g_LaneError (fun W pn xe tk2 => have hx := fun σ => passAt (W := W) tk2 σ; (qx_expr (q_call C__law_does (hr.mono (by omega)) hx (qa_cons (q_var 0) (qa_cons (q_var 1) (qa_cons (q_var 2) qa_nil)))))))
  (qb_one (qs_ret (q_ifx (qt_cmp q_is (q_var 3) q_non) q_str (q_ifx (qt_cmp q_is (q_var 4) q_non) (q_call C__law_refusal (hr.mono (by omega)) hx (qa_cons (q_var 3) qa_nil)) (q_var 4))))))))
  exact ⟨_, qq.ps, qq.ss⟩
theorem ok__law_asked (T : Tx K mg)  (C_NoPlace___init__ : CalNp P wd K mg base 1 "NoPlace" "place") (C__law_does : Cal P wd K mg base 8 "_law_does" 3 f__law_does []) (C__law_refusal : Cal P wd K mg base 1 "_law_refusal" 1 f__law_refusal []) : Cal P wd K mg base (9) "_law_asked" 3 f__law_asked [] := by
  obtain ⟨h1, fd, F⟩ := T.d__law_asked
  exact ⟨⟨_, fd, _, [], h1, F.kp, F.bindsN (ps := ["kind", "one", "two"]) fun _ _ _ _ _ _ us hl => match us, hl with | [_, _, _], _ => rfl, .nil, okf__law_asked T F  C_NoPlace___init__ C__law_does C__law_refusal⟩⟩
theorem okf_with_jumps (T : Tx K mg) {fd : FuncData} (F : FunD K "with_jumps" "with_jumps" (defArgs S_with_jumps) (defBody S_with_jumps) (defScope S_with_jumps) [] [] (He.ga K "with_jumps") fd)  (C_falls : Cal P wd K mg base 1 "falls" 1 f_falls []) : FnOk P wd K mg base (L2.CX P wd) (2) (He.ga K "with_jumps") fd ["blocks", "order"] (SpOf K 2 f_with_jumps) := by
  refine ok_of F sc_with_jumps rfl rfl fun cdv A outer s H E hr => ?_
  have nd := sc_with_jumps.nd
  have tk : Takes (cxOf (L2.CX P wd) P wd K mg base NN_with_jumps "with_jumps" (defScope S_with_jumps) (He.ga K "with_jumps") cdv A outer s H E) (fun cls d _ H => E cls d H) := takes_of rfl rfl rfl rfl
  have hx : ∀ σ, PassesAt (L2.CX P wd) (cxOf (L2.CX P wd) P wd K mg base NN_with_jumps "with_jumps" (defScope S_with_jumps) (He.ga K "with_jumps") cdv A outer s H E) σ E := fun σ => passAt (W := fun cls d _ H => E cls d H) (takes_of rfl rfl rfl rfl) σ
  have hx0 : ∀ {X : Cx} (σ : L2.St), PassesAt (L2.CX X.prog X.w) X σ E0 := fun σ pins H s e s' I c => passL pins σ H s e s' I c
  have po : PassesOwn (model P wd) (cxOf (L2.CX P wd) P wd K mg base NN_with_jumps "with_jumps" (defScope S_with_jumps) (He.ga K "with_jumps") cdv A outer s H E).A (cxOf (L2.CX P wd) P wd K mg base NN_with_jumps "with_jumps" (defScope S_with_jumps) (He.ga K "with_jumps") cdv A outer s H E).env (cxOf (L2.CX P wd) P wd K mg base NN_with_jumps "with_jumps" (defScope S_with_jumps) (He.ga K "with_jumps") cdv A outer s H E).xe := passes_of rfl
  have qq : QB (cxOf (L2.CX P wd) P wd K mg base NN_with_jumps "with_jumps" (defScope S_with_jumps) (He.ga K "with_jumps") cdv A outer s H E) (fun _ => E) (defBody S_with_jumps) _ (m_with_jumps f_falls) :=
  (qb_cons (qs_set 2 nd (q_H (ql_disp qa_nil)))
  (qb_cons (qs_for po (by rfl) (qi_enum T.n_enumerate (qa_cons (q_var 1) qa_nil)) (qg_tup 2 (by rfl) (qgs_cons (qg_name 3 nd) (qgs_cons (qg_name 4 nd) qgs_nil))) (qb_cons (qs_set 5 nd (q_H (ql_listOf T.n_list (qa_cons (q_fld T.q_Block_Code_rows (q_sub1 (q_var 0) (q_var 4))) qa_nil))))
  (qb_cons (qs_set 6 nd (q_ifx (qt_cmp q_lt (q_op q_add (q_var 3) q_int) (q_len T.n_len (qa_cons (q_var 1) qa_nil))) (q_fld T.q_Block_label (q_sub1 (q_var 0) (q_sub1 (q_var 1) (q_op q_add (q_var 3) q_int)))) q_non))
  (qb_cons (qs_if (qt_w (qw_and (qt_val (q_call C_falls (hr.mono (by omega)) hx (qa_cons (q_sub1 (q_var 0) (q_var 4)) qa_nil))) (qw_and1 (qt_cmp (q_ne hr.units) (q_fld T.q_Block_label (q_sub1 (q_var 0) (q_op q_add (q_var 4) q_int))) (q_var 6))))) (qb_one (qs_expr (q_app (q_var 5) (q_tup (qa_cons (q_tup (qa_cons q_str (qa_cons (q_fld T.q_Block_label (q_sub1 (q_var 0) (q_op q_add (q_var 4) q_int))) (qa_cons q_non qa_nil)))) (qa_cons (q_tup qa_nil) (qa_cons (q_tup (qa_cons (q_fld T.q_Block_Maker_goal (q_sub1 (q_var 0) (q_var 4))) qa_nil)) (qa_cons q_int qa_nil)))))))) qb_nil)
  (qb_cons (qs_if (qt_w (qw_and (qt_cmp (q_neE hr.units) (q_var 5) (q_L (ql_disp qa_nil))) (qw_and (qt_cmp (q_eq hr.units) (q_sub1 (q_sub1 (q_sub1 (q_var 5) (q_neg q_int)) q_int) q_int) q_str) (qw_and1 (qt_cmp (q_eq hr.units) (q_sub1 (q_sub1 (q_sub1 (q_var 5) (q_neg q_int)) q_int) q_int) (q_var 6)))))) (qb_one (qs_expr (q_pop (q_var 5)))) qb_nil)
  (qb_one (qs_expr (q_app (q_var 2) (q_tup (qa_cons (q_sub1 (q_var 0) (q_var 4)) (qa_cons (q_F (q_var 5)) qa_nil)))))))))))
  (qb_one (qs_ret (q_F (q_var 2))))))
  exact ⟨_, qq.ps, qq.ss⟩
theorem ok_with_jumps (T : Tx K mg)  (C_falls : Cal P wd K mg base 1 "falls" 1 f_falls []) : Cal P wd K mg base (2) "with_jumps" 2 f_with_jumps [] := by
  obtain ⟨h1, fd, F⟩ := T.d_with_jumps
  exact ⟨⟨_, fd, _, [], h1, F.kp, F.bindsN (ps := ["blocks", "order"]) fun _ _ _ _ _ _ us hl => match us, hl with | [_, _], _ => rfl, .nil, okf_with_jumps T F  C_falls⟩⟩
theorem vals_laid_order {vs mz zs : List V} {us mv ws : List Value} (r1 : Vals vs us) (r2 : Vals mz mv) (r3 : Vals zs ws) : Vals (g_laid_order_ vs mz zs) (g_laid_order_ us mv ws) := by
  unfold g_laid_order_
  refine r1.append ?_
  rcases r2 with _ | ⟨a0, r2⟩ <;> (try rcases r2 with _ | ⟨a1, r2⟩) <;> (try rcases r2 with _ | ⟨a2, r2⟩) <;> (try rcases r2 with _ | ⟨a3, r2⟩) <;> rcases r3 with _ | ⟨b0, r3⟩ <;> (try rcases r3 with _ | ⟨b1, r3⟩) <;> (try rcases r3 with _ | ⟨b2, r3⟩) <;> (try rcases r3 with _ | ⟨b3, r3⟩) <;> (try rcases r3 with _ | ⟨b4, r3⟩) <;> first | exact .nil | exact (.cons (by assumption) .nil) | exact (.cons (by assumption) (.cons (by assumption) .nil)) | exact (.cons (by assumption) (.cons (by assumption) (.cons (by assumption) .nil))) | exact (.cons (by assumption) (.cons (by assumption) (.cons (by assumption) (.cons (by assumption) .nil)))) | exact (.cons (by assumption) (.cons (by assumption) (.cons (by assumption) (.cons (by assumption) (.cons (by assumption) .nil)))))
theorem okf_laid (T : Tx K mg) {fd : FuncData} (F : FunD K "laid" "laid" (defArgs S_laid) (defBody S_laid) (defScope S_laid) [] [("order", (.non))] (He.ga K "laid") fd)  (C_made : Cal P wd K mg base 114 "made" 1 f_made []) (C_orders : Cal P wd K mg base 1 "orders" 1 f_orders []) (C_is_order : Cal P wd K mg base 2 "is_order" 2 f_is_order []) (C_Code___init__ : CalC P wd K mg base 1 "Code" 2 f_Code___init__ []) (C_with_jumps : Cal P wd K mg base 2 "with_jumps" 2 f_with_jumps []) (C_settle : Cal P wd K mg base 1 "settle" 2 f_settle []) : FnOk P wd K mg base (L2.CX P wd) (115) (He.ga K "laid") fd ["program", "order"] (SpOf K 2 f_laid) := by
  refine ok_of F sc_laid rfl rfl fun cdv A outer s H E hr => ?_
  have nd := sc_laid.nd
  have tk : Takes (cxOf (L2.CX P wd) P wd K mg base NN_laid "laid" (defScope S_laid) (He.ga K "laid") cdv A outer s H E) (fun cls d _ H => E cls d H) := takes_of rfl rfl rfl rfl
  have hx : ∀ σ, PassesAt (L2.CX P wd) (cxOf (L2.CX P wd) P wd K mg base NN_laid "laid" (defScope S_laid) (He.ga K "laid") cdv A outer s H E) σ E := fun σ => passAt (W := fun cls d _ H => E cls d H) (takes_of rfl rfl rfl rfl) σ
  have hx0 : ∀ {X : Cx} (σ : L2.St), PassesAt (L2.CX X.prog X.w) X σ E0 := fun σ pins H s e s' I c => passL pins σ H s e s' I c
  have po : PassesOwn (model P wd) (cxOf (L2.CX P wd) P wd K mg base NN_laid "laid" (defScope S_laid) (He.ga K "laid") cdv A outer s H E).A (cxOf (L2.CX P wd) P wd K mg base NN_laid "laid" (defScope S_laid) (He.ga K "laid") cdv A outer s H E).env (cxOf (L2.CX P wd) P wd K mg base NN_laid "laid" (defScope S_laid) (He.ga K "laid") cdv A outer s H E).xe := passes_of rfl
  have qq : QB (cxOf (L2.CX P wd) P wd K mg base NN_laid "laid" (defScope S_laid) (He.ga K "laid") cdv A outer s H E) (fun _ => E) (defBody S_laid) _ (m_laid f_made f_orders f_is_order f_Code___init__ f_with_jumps f_settle) :=
  (qb_cons (qs_tgt (qg_tup 3 (by rfl) (qgs_cons (qg_name 2 nd) (qgs_cons (qg_name 3 nd) (qgs_cons (qg_name 4 nd) qgs_nil)))) (q_call C_made (hr.mono (by omega)) hx (qa_cons (q_var 0) qa_nil)))
  (qb_cons (qs_tgt (qg_tup 2 (by rfl) (qgs_cons (qg_name 5 nd) (qgs_cons (qg_name 6 nd) qgs_nil))) (q_call C_orders (hr.mono (by omega)) hx (qa_cons (q_var 2) qa_nil)))
  (qb_cons (qs_if (qt_w (qw_and (qt_cmp q_isNot (q_var 1) q_non) (qw_and1 (qt_w (qw_or (qt_not (qt_val (q_isi .list T.n_isinstance T.n_list (q_var 1)))) (qw_or1 (qt_not (qt_val (q_call C_is_order (hr.mono (by omega)) hx (qa_cons (q_var 1) (qa_cons (q_len T.n_len (qa_cons (q_var 2) qa_nil)) qa_nil))))))))))) (qb_one (qs_raise rfl tk T.x_BadOrder T.g_BadOrder)) qb_nil)
  (qb_cons (qs_set 7 nd (q_make C_Code___init__ (hr.mono (by omega)) hx (qa_cons (q_var 4) qa_nil)))
  (qb_cons (qs_set 8 nd (q_ifx (qt_cmp q_is (q_var 1) q_non) (q_var 5) (q_L (ql_listOf T.n_list (qa_cons (q_var 1) qa_nil)))))
  (qb_cons (qs_set 9 nd (q_call C_with_jumps (hr.mono (by omega)) hx (qa_cons (q_var 2) (qa_cons (q_var 8) qa_nil))))
  (qb_cons (qs_for po (by rfl) (qi_enum T.n_enumerate (qa_cons (q_var 9) qa_nil)) (qg_tup 2 (by rfl) (qgs_cons (qg_name 10 nd) (qgs_cons (qg_tup 2 (by rfl) (qgs_cons (qg_name 11 nd) (qgs_cons (qg_name 12 nd) qgs_nil))) qgs_nil))) (qb_cons (qs_if (qt_cmp (q_eq hr.units) (q_var 10) (q_var 6)) (qb_one (qs_fld T.q_Code_warm (q_len T.n_len (qa_cons (q_fld T.q_Code_rows (q_var 7)) qa_nil)) (q_var 7))) qb_nil)
  (qb_cons (qs_putK (room1 hr) (q_len T.n_len (qa_cons (q_fld T.q_Code_rows (q_var 7)) qa_nil)) (q_fld T.q_Code_starts (q_var 7)) (q_fld T.q_Block_label (q_var 11)))
  (qb_one (qs_for po (by rfl) (qi_v (q_var 12)) (qg_tup 4 (by rfl) (qgs_cons (qg_name 13 nd) (qgs_cons (qg_name 14 nd) (qgs_cons (qg_name 15 nd) (qgs_cons (qg_name 16 nd) qgs_nil))))) (qb_cons (qs_expr (q_app (q_fld T.q_Code_rows (q_var 7)) (q_var 13)))
  (qb_cons (qs_expr (q_app (q_fld T.q_Code_catchers (q_var 7)) (q_var 14)))
  (qb_cons (qs_expr (q_app (q_fld T.q_Code_paths (q_var 7)) (q_var 15)))
  (qb_cons (qs_expr (q_app (q_fld T.q_Code_heights (q_var 7)) (q_var 16)))
  (qb_one (qs_expr (q_app (q_fld T.q_Code_owners (q_var 7)) (q_fld T.q_Block_Maker_goal (q_var 11))))))))))))))
  (qb_cons (qs_if (qt_w (qw_or (qt_cmp q_isNot (q_var 1) q_non) (qw_or1 (qt_cmp (q_eq hr.units) (q_var 6) (q_len T.n_len (qa_cons (q_var 9) qa_nil)))))) (qb_one (qs_fld T.q_Code_warm (q_len T.n_len (qa_cons (q_fld T.q_Code_rows (q_var 7)) qa_nil)) (q_var 7))) qb_nil)
  (qb_cons (qs_fld T.q_Code_many (q_L (by exact ql_comp (by rfl) nd (qi_v (q_var 0)) (blkOk_by (own := [("one", 17)]) (N := NN_laid) (sc := defScope S_laid) (by decide +kernel)) (fun _ _ _ _ _ => (qg_name 17 nd)) (fun _ _ _ _ _ => qts_nil) (fun _ _ _ _ _ => (q_sub1 (q_var 17) q_int)))) (q_var 7))
  (qb_cons (qs_expr (q_call C_settle (hr.mono (by omega)) hx (qa_cons (q_var 7) (qa_cons (q_var 3) qa_nil))))
  (qb_one (qs_ret (q_FF (q_var 7))))))))))))))
  exact ⟨_, qq.ps, qq.ss⟩
theorem ok_laid (T : Tx K mg)  (C_made : Cal P wd K mg base 114 "made" 1 f_made []) (C_orders : Cal P wd K mg base 1 "orders" 1 f_orders []) (C_is_order : Cal P wd K mg base 2 "is_order" 2 f_is_order []) (C_Code___init__ : CalC P wd K mg base 1 "Code" 2 f_Code___init__ []) (C_with_jumps : Cal P wd K mg base 2 "with_jumps" 2 f_with_jumps []) (C_settle : Cal P wd K mg base 1 "settle" 2 f_settle []) : Cal P wd K mg base (115) "laid" 2 f_laid [(.non)] := by
  obtain ⟨h1, fd, F⟩ := T.d_laid
  obtain ⟨ds, hv, hb⟩ := F.binds0 (ps := ["program", "order"]) 1 (by simp) rfl fun D doc pm an cdv ct us ks h1 h2 => match us, ks, h1, h2 with | [_], [_], _, _ => ⟨_, _, _, _, _, _, rfl, rfl, rfl⟩
  exact ⟨⟨_, fd, _, ds, h1, F.kp, hb, hv, okf_laid T F  C_made C_orders C_is_order C_Code___init__ C_with_jumps C_settle⟩⟩
theorem ok_laid_order (T : Tx K mg)  (C_made : Cal P wd K mg base 114 "made" 1 f_made []) (C_orders : Cal P wd K mg base 1 "orders" 1 f_orders []) (C_is_order : Cal P wd K mg base 2 "is_order" 2 f_is_order []) (C_Code___init__ : CalC P wd K mg base 1 "Code" 2 f_Code___init__ []) (C_with_jumps : Cal P wd K mg base 2 "with_jumps" 2 f_with_jumps []) (C_settle : Cal P wd K mg base 1 "settle" 2 f_settle []) : CalK P wd K mg base (115) "laid" 1 ["order"] 2 f_laid (gV_laid_order K) gD_laid_order := by
  obtain ⟨h1, fd, F⟩ := T.d_laid
  obtain ⟨mv, hb⟩ := F.kbinds0 (ps := ["program", "order"]) 1 ["order"] [] (fun us mv ws => g_laid_order_ us mv ws) (by simp) (by simp) (fun r1 r2 r3 => vals_laid_order r1 r2 r3) fun D doc pm an cdv ct us mv ws h1 h2 h3 => match us, mv, ws, h1, h2, h3 with | [_], [], [_], _, _, _ => rfl
  refine ⟨⟨_, fd, _, _, h1, F.kp, hb, okf_laid T F  C_made C_orders C_is_order C_Code___init__ C_with_jumps C_settle⟩, fun w vs zs ds es m rv rz l1 l2 => ?_⟩
  unfold gV_laid_order gD_laid_order g_laid_order_
  refine rv.append ?_
  match zs, es, rz, l2 with
  | [_], [_], .cons r_order (.nil), _ => exact .cons r_order (.nil)
theorem okf_steps_of (T : Tx K mg) {fd : FuncData} (F : FunD K "steps_of" "steps_of" (defArgs S_steps_of) (defBody S_steps_of) (defScope S_steps_of) [] [("order", (.non))] (He.ga K "steps_of") fd)  (C_Machine___init__ : CalC P wd K mg base 5 "Machine" 5 f_Machine___init__ [(.non), (.int 0), (.ref (kwA ("Machine", some "__init__") "worths" K))]) (C_laid_order : CalK P wd K mg base 115 "laid" 1 ["order"] 2 f_laid (gV_laid_order K) gD_laid_order) (C_Machine_run : CalM P wd K mg base 4 "Machine" "run" 2 f_Machine_run [(.int 100000)]) : FnOk P wd K mg base (L2.CX P wd) (116) (He.ga K "steps_of") fd ["program", "order"] (SpOf K 2 f_steps_of) := by
  refine ok_of F sc_steps_of rfl rfl fun cdv A outer s H E hr => ?_
  have nd := sc_steps_of.nd
  have tk : Takes (cxOf (L2.CX P wd) P wd K mg base NN_steps_of "steps_of" (defScope S_steps_of) (He.ga K "steps_of") cdv A outer s H E) (fun cls d _ H => E cls d H) := takes_of rfl rfl rfl rfl
  have hx : ∀ σ, PassesAt (L2.CX P wd) (cxOf (L2.CX P wd) P wd K mg base NN_steps_of "steps_of" (defScope S_steps_of) (He.ga K "steps_of") cdv A outer s H E) σ E := fun σ => passAt (W := fun cls d _ H => E cls d H) (takes_of rfl rfl rfl rfl) σ
  have hx0 : ∀ {X : Cx} (σ : L2.St), PassesAt (L2.CX X.prog X.w) X σ E0 := fun σ pins H s e s' I c => passL pins σ H s e s' I c
  have po : PassesOwn (model P wd) (cxOf (L2.CX P wd) P wd K mg base NN_steps_of "steps_of" (defScope S_steps_of) (He.ga K "steps_of") cdv A outer s H E).A (cxOf (L2.CX P wd) P wd K mg base NN_steps_of "steps_of" (defScope S_steps_of) (He.ga K "steps_of") cdv A outer s H E).env (cxOf (L2.CX P wd) P wd K mg base NN_steps_of "steps_of" (defScope S_steps_of) (He.ga K "steps_of") cdv A outer s H E).xe := passes_of rfl
  have qq : QB (cxOf (L2.CX P wd) P wd K mg base NN_steps_of "steps_of" (defScope S_steps_of) (He.ga K "steps_of") cdv A outer s H E) (fun _ => E) (defBody S_steps_of) _ (m_steps_of f_Machine___init__ f_laid f_Machine_run) :=
  (qb_cons (qs_set 2 nd (q_make C_Machine___init__ (hr.mono (by omega)) hx (qa_cons (q_callN C_laid_order (hr.mono (by omega)) hx (qa_cons (q_var 0) qa_nil) (qk_cons (q_var 1) qk_nil)) qa_nil) (hdd := fun w m => (.cons (.non) (.cons (.int _) (.cons (T.w_Machine___init___worths w m) .nil))))))
  (qb_one (qs_ret (q_meth0 C_Machine_run (hr.mono (by omega)) hx (q_var 2) (hdd := fun w m => (.cons (.int _) .nil))))))
  exact ⟨_, qq.ps, qq.ss⟩
theorem ok_steps_of (T : Tx K mg)  (C_Machine___init__ : CalC P wd K mg base 5 "Machine" 5 f_Machine___init__ [(.non), (.int 0), (.ref (kwA ("Machine", some "__init__") "worths" K))]) (C_laid_order : CalK P wd K mg base 115 "laid" 1 ["order"] 2 f_laid (gV_laid_order K) gD_laid_order) (C_Machine_run : CalM P wd K mg base 4 "Machine" "run" 2 f_Machine_run [(.int 100000)]) : Cal P wd K mg base (116) "steps_of" 2 f_steps_of [(.non)] := by
  obtain ⟨h1, fd, F⟩ := T.d_steps_of
  obtain ⟨ds, hv, hb⟩ := F.binds0 (ps := ["program", "order"]) 1 (by simp) rfl fun D doc pm an cdv ct us ks h1 h2 => match us, ks, h1, h2 with | [_], [_], _, _ => ⟨_, _, _, _, _, _, rfl, rfl, rfl⟩
  exact ⟨⟨_, fd, _, ds, h1, F.kp, hb, hv, okf_steps_of T F  C_Machine___init__ C_laid_order C_Machine_run⟩⟩
theorem okf_law (T : Tx K mg) {fd : FuncData} (F : FunD K "law" "law" (defArgs S_law) (defBody S_law) (defScope S_law) [] [] (He.ga K "law") fd)  (C__law_town : Cal P wd K mg base 1 "_law_town" 1 f__law_town []) (C_laid : Cal P wd K mg base 115 "laid" 2 f_laid [(.non)]) (C__law_asked : Cal P wd K mg base 9 "_law_asked" 3 f__law_asked []) (C_Machine___init__ : CalC P wd K mg base 5 "Machine" 5 f_Machine___init__ [(.non), (.int 0), (.ref (kwA ("Machine", some "__init__") "worths" K))]) (C_Code_size : CalM P wd K mg base 1 "Code" "size" 1 f_Code_size []) (C_steps_of : Cal P wd K mg base 116 "steps_of" 2 f_steps_of [(.non)]) (C_Machine_steps : CalM P wd K mg base 1 "Machine" "steps" 1 f_Machine_steps []) (C_Machine_outcome : CalM P wd K mg base 1 "Machine" "outcome" 1 f_Machine_outcome []) (C_Machine_run_most : CalMK P wd K mg base 4 "Machine" "run" 0 ["most"] 2 f_Machine_run (gV_Machine_run_most K) gD_Machine_run_most) (C_Machine_run : CalM P wd K mg base 4 "Machine" "run" 2 f_Machine_run [(.int 100000)]) (C_Machine_depth : CalM P wd K mg base 1 "Machine" "depth" 1 f_Machine_depth []) : FnOk P wd K mg base (L2.CX P wd) (117) (He.ga K "law") fd ["script"] (SpOf K 1 f_law) := by
  refine ok_of F sc_law rfl rfl fun cdv A outer s H E hr => ?_
  have nd := sc_law.nd
  have tk : Takes (cxOf (L2.CX P wd) P wd K mg base NN_law "law" (defScope S_law) (He.ga K "law") cdv A outer s H E) (fun cls d _ H => E cls d H) := takes_of rfl rfl rfl rfl
  have hx : ∀ σ, PassesAt (L2.CX P wd) (cxOf (L2.CX P wd) P wd K mg base NN_law "law" (defScope S_law) (He.ga K "law") cdv A outer s H E) σ E := fun σ => passAt (W := fun cls d _ H => E cls d H) (takes_of rfl rfl rfl rfl) σ
  have hx0 : ∀ {X : Cx} (σ : L2.St), PassesAt (L2.CX X.prog X.w) X σ E0 := fun σ pins H s e s' I c => passL pins σ H s e s' I c
  have po : PassesOwn (model P wd) (cxOf (L2.CX P wd) P wd K mg base NN_law "law" (defScope S_law) (He.ga K "law") cdv A outer s H E).A (cxOf (L2.CX P wd) P wd K mg base NN_law "law" (defScope S_law) (He.ga K "law") cdv A outer s H E).env (cxOf (L2.CX P wd) P wd K mg base NN_law "law" (defScope S_law) (He.ga K "law") cdv A outer s H E).xe := passes_of rfl
  have qq : QB (cxOf (L2.CX P wd) P wd K mg base NN_law "law" (defScope S_law) (He.ga K "law") cdv A outer s H E) (fun _ => E) (defBody S_law) _ (m_law f__law_town f_laid f__law_asked f_Machine___init__ f_Code_size f_steps_of f_Machine_steps f_Machine_outcome f_Machine_run f_Machine_depth) :=
  (qb_cons (qs_set 1 nd (q_call C__law_town (hr.mono (by omega)) hx (qa_cons (q_var 0) qa_nil)))
  (qb_cons (qs_set 2 nd (q_call C_laid (hr.mono (by omega)) hx (qa_cons (q_L (ql_disp (qa_cons (q_tup (qa_cons q_int (qa_cons (q_L (ql_disp (qa_cons (q_tup (qa_cons q_str (qa_cons q_int (qa_cons (q_L (ql_disp (qa_cons (q_tup (qa_cons q_str (qa_cons q_int qa_nil))) qa_nil))) qa_nil)))) qa_nil))) qa_nil))) qa_nil))) qa_nil) (hdd := fun w m => (.cons (.non) .nil))))
  (qb_cons (qs_set 3 nd (q_tup (qa_cons (q_tup (qa_cons q_non (qa_cons q_int (qa_cons q_bl qa_nil)))) qa_nil)))
  (qb_cons (qs_set 4 nd (q_L (ql_disp (qa_cons q_int (qa_cons (q_tup qa_nil) (qa_cons (q_L (ql_disp (qa_cons (q_tup (qa_cons q_int (qa_cons q_int qa_nil))) qa_nil))) (qa_cons (q_L (ql_disp (qa_cons (q_L (ql_disp (qa_cons q_int (qa_cons q_int (qa_cons (q_var 3) qa_nil))))) qa_nil))) (qa_cons (q_L (ql_disp (qa_cons (q_tup (qa_cons q_int (qa_cons q_int (qa_cons (q_var 3) qa_nil)))) qa_nil))) (qa_cons (q_L (ql_disp (qa_cons (q_tup (qa_cons q_int (qa_cons q_int (qa_cons (q_var 3) qa_nil)))) (qa_cons (q_tup (qa_cons q_int (qa_cons q_int (qa_cons (q_var 3) qa_nil)))) qa_nil)))) (qa_cons (q_L (ql_disp (qa_cons (q_tup (qa_cons q_int (qa_cons q_int (qa_cons (q_tup qa_nil) qa_nil)))) qa_nil))) (qa_cons (q_L (ql_disp (qa_cons (q_tup (qa_cons q_int (qa_cons q_int (qa_cons (q_tup (qa_cons (q_tup (qa_cons q_int (qa_cons q_int (qa_cons q_bl qa_nil)))) qa_nil)) qa_nil)))) qa_nil))) qa_nil)))))))))))
  (qb_cons (qs_set 4 nd (q_L (ql_op ql_cat (q_var 4) (q_L (ql_disp (qa_cons (q_L (ql_disp (qa_cons (q_tup (qa_cons q_int (qa_cons q_int (qa_cons (q_tup (qa_cons (q_tup (qa_cons q_non (qa_cons q_int (qa_cons q_int qa_nil)))) qa_nil)) qa_nil)))) qa_nil))) (qa_cons (q_L (ql_disp (qa_cons (q_tup (qa_cons q_int (qa_cons q_int (qa_cons (q_var 3) qa_nil)))) qa_nil))) (qa_cons (q_L (ql_disp (qa_cons (q_tup (qa_cons q_bl (qa_cons q_int (qa_cons (q_var 3) qa_nil)))) qa_nil))) (qa_cons (q_L (ql_disp (qa_cons (q_tup (qa_cons q_int (qa_cons q_int (qa_cons (q_L (ql_disp (qa_cons (q_tup (qa_cons q_non (qa_cons q_int (qa_cons q_bl qa_nil)))) qa_nil))) qa_nil)))) qa_nil))) (qa_cons (q_L (ql_disp (qa_cons (q_tup (qa_cons q_int (qa_cons q_int (qa_cons (q_tup (qa_cons (q_tup (qa_cons q_non (qa_cons q_int qa_nil))) qa_nil)) qa_nil)))) qa_nil))) qa_nil))))))))))
  (qb_cons (qs_for po (by rfl) (qi_v (q_var 4)) (qg_name 5 nd) (qb_one (qs_if (qt_cmp (q_ne hr.units) (q_L (ql_op ql_cat (q_L (by exact ql_comp (by rfl) nd (qi_r1 T.n_range (qa_cons q_int qa_nil)) (blkOk_by (own := [("kind", 9)]) (N := NN_law) (sc := defScope S_law) (by decide +kernel)) (fun _ _ _ _ _ => (qg_name 9 nd)) (fun _ _ _ _ _ => qts_nil) (fun _ _ _ _ _ => (q_call C__law_asked (hr.mono (by omega)) hx0 (qa_cons (q_var 9) (qa_cons (q_var 2) (qa_cons (q_var 5) qa_nil))))))) (q_L (by exact ql_comp (by rfl) nd (qi_v (q_L (ql_disp (qa_cons q_int (qa_cons q_int (qa_cons q_int qa_nil)))))) (blkOk_by (own := [("kind", 9)]) (N := NN_law) (sc := defScope S_law) (by decide +kernel)) (fun _ _ _ _ _ => (qg_name 9 nd)) (fun _ _ _ _ _ => qts_nil) (fun _ _ _ _ _ => (q_call C__law_asked (hr.mono (by omega)) hx0 (qa_cons (q_var 9) (qa_cons (q_var 5) (qa_cons q_int qa_nil))))))))) (q_L (ql_op ql_rep (q_L (ql_disp (qa_cons q_str qa_nil))) q_int))) (qb_one (qs_ret q_bl)) qb_nil)))
  (qb_cons (qs_for po (by rfl) (qi_v (q_L (ql_disp (qa_cons q_non (qa_cons q_int (qa_cons (q_L (ql_disp qa_nil)) (qa_cons q_str (qa_cons (q_L (ql_disp (qa_cons (q_tup (qa_cons q_int (qa_cons (q_L (ql_disp qa_nil)) qa_nil))) qa_nil))) qa_nil)))))))) (qg_name 5 nd) (qb_one (qs_if (qt_cmp (q_ne hr.units) (q_L (by exact ql_comp (by rfl) nd (qi_r1 T.n_range (qa_cons q_int qa_nil)) (blkOk_by (own := [("kind", 9)]) (N := NN_law) (sc := defScope S_law) (by decide +kernel)) (fun _ _ _ _ _ => (qg_name 9 nd)) (fun _ _ _ _ _ => qts_nil) (fun _ _ _ _ _ => (q_call C__law_asked (hr.mono (by omega)) hx0 (qa_cons (q_var 9) (qa_cons (q_var 5) (qa_cons (q_L (ql_disp (qa_cons q_int qa_nil))) qa_nil))))))) (q_L (ql_op ql_rep (q_L (ql_disp (qa_cons q_str qa_nil))) q_int))) (qb_one (qs_ret q_bl)) qb_nil)))
  (qb_cons (qs_for po (by rfl) (qi_v (q_L (ql_disp (qa_cons (q_op q_sub q_int q_int) (qa_cons q_int (qa_cons q_bl (qa_cons q_non (qa_cons q_str qa_nil)))))))) (qg_name 5 nd) (qb_one (qs_if (qt_w (qw_or (qt_cmp (q_ne hr.units) (q_call C__law_asked (hr.mono (by omega)) hx (qa_cons q_int (qa_cons (q_L (ql_disp qa_nil)) (qa_cons (q_var 5) qa_nil)))) q_str) (qw_or1 (qt_cmp (q_ne hr.units) (q_call C__law_asked (hr.mono (by omega)) hx (qa_cons q_int (qa_cons (q_make C_Machine___init__ (hr.mono (by omega)) hx (qa_cons (q_var 2) qa_nil) (hdd := fun w m => (.cons (.non) (.cons (.int _) (.cons (T.w_Machine___init___worths w m) .nil))))) (qa_cons (q_var 5) qa_nil)))) q_str)))) (qb_one (qs_ret q_bl)) qb_nil)))
  (qb_cons (qs_for po (by rfl) (qi_v (q_L (ql_disp (qa_cons (q_op q_sub q_int q_int) (qa_cons (q_sub1 (q_meth0 C_Code_size (hr.mono (by omega)) hx (q_var 2)) q_int) (qa_cons q_bl (qa_cons q_non (qa_cons q_str qa_nil)))))))) (qg_name 5 nd) (qb_one (qs_if (qt_cmp (q_ne hr.units) (q_call C__law_asked (hr.mono (by omega)) hx (qa_cons q_int (qa_cons (q_var 2) (qa_cons (q_var 5) qa_nil)))) (q_tup (qa_cons q_str (qa_cons (q_var 5) qa_nil)))) (qb_one (qs_ret q_bl)) qb_nil)))
  (qb_cons (qs_set 6 nd (q_make C_Machine___init__ (hr.mono (by omega)) hx (qa_cons (q_var 2) qa_nil) (hdd := fun w m => (.cons (.non) (.cons (.int _) (.cons (T.w_Machine___init___worths w m) .nil))))))
  (qb_cons (qs_set 7 nd (q_call C_steps_of (hr.mono (by omega)) hx (qa_cons (q_L (ql_disp (qa_cons (q_tup (qa_cons q_int (qa_cons (q_L (ql_disp (qa_cons (q_tup (qa_cons q_str (qa_cons q_int (qa_cons (q_L (ql_disp (qa_cons (q_tup (qa_cons q_str (qa_cons q_int qa_nil))) qa_nil))) qa_nil)))) qa_nil))) qa_nil))) qa_nil))) qa_nil) (hdd := fun w m => (.cons (.non) .nil))))
  (qb_cons (qs_if (qt_w (qw_or (qt_cmp (q_ne hr.units) (q_call C__law_asked (hr.mono (by omega)) hx (qa_cons q_int (qa_cons (q_var 6) (qa_cons (q_op q_sub (q_var 7) q_int) qa_nil)))) q_str) (qw_or (qt_cmp (q_ne hr.units) (q_meth0 C_Machine_steps (hr.mono (by omega)) hx (q_var 6)) (q_op q_sub (q_var 7) q_int)) (qw_or1 (qt_cmp q_isNot (q_sub1 (q_meth0 C_Machine_outcome (hr.mono (by omega)) hx (q_var 6)) q_int) q_non))))) (qb_one (qs_ret q_bl)) qb_nil)
  (qb_cons (qs_if (qt_w (qw_or (qt_cmp (q_ne hr.units) (q_call C__law_asked (hr.mono (by omega)) hx (qa_cons q_int (qa_cons (q_var 6) (qa_cons (q_op q_sub (q_var 7) q_int) qa_nil)))) q_str) (qw_or (qt_cmp (q_ne hr.units) (q_methK0 C_Machine_run_most (hr.mono (by omega)) hx (q_var 6) (qk_cons (q_var 7) qk_nil)) (q_var 7)) (qw_or1 (qt_cmp (q_ne hr.units) (q_meth0 C_Machine_outcome (hr.mono (by omega)) hx (q_var 6)) (q_tup (qa_cons (q_tup (qa_cons q_str (qa_cons q_int qa_nil))) (qa_cons (q_L (ql_disp (qa_cons q_int (qa_cons q_int (qa_cons q_int (qa_cons q_int qa_nil)))))) qa_nil)))))))) (qb_one (qs_ret q_bl)) qb_nil)
  (qb_cons (by exact qs_setLc 8 (by rfl) nd (qi_r2 T.n_range (qa_cons q_int (qa_cons q_int qa_nil))) (blkOk_by (own := [("kind", 9)]) (N := NN_law) (sc := defScope S_law) (by decide +kernel)) (fun _ _ _ _ _ => (qg_name 9 nd)) (fun _ _ _ _ _ => qts_nil) (fun _ _ _ _ _ => (q_call C__law_asked (hr.mono (by omega)) hx0 (qa_cons (q_var 9) (qa_cons (q_var 6) (qa_cons q_int qa_nil))))) eL s_L (sw_true rfl rfl rfl (by decide +kernel)))
  (qb_one (qs_ret (q_and (q_cmp (q_eq hr.units) (q_var 8) (q_L (ql_op ql_rep (q_L (ql_disp (qa_cons q_str qa_nil))) q_int))) (q_and (q_cmp (q_eq hr.units) (q_meth0 C_Machine_run (hr.mono (by omega)) hx (q_var 6) (hdd := fun w m => (.cons (.int _) .nil))) (q_var 7)) (q_and (q_cmp (q_eq hr.units) (q_meth0 C_Machine_depth (hr.mono (by omega)) hx (q_var 6)) q_int) (q_one (q_cmp (q_eq hr.units) (q_call C__law_asked (hr.mono (by omega)) hx (qa_cons q_int (qa_cons (q_make C_Machine___init__ (hr.mono (by omega)) hx (qa_cons (q_var 2) qa_nil) (hdd := fun w m => (.cons (.non) (.cons (.int _) (.cons (T.w_Machine___init___worths w m) .nil))))) (qa_cons q_int qa_nil)))) q_str)))))))))))))))))))))
  exact ⟨_, qq.ps, qq.ss⟩
end
theorem the_law {w : World} {K : PySem.W.Frag} {mg : Str → Option Value} {base : Heap} {fd : FuncData} (T : Tx K mg) (F : FunD K "law" "law" (defArgs S_law) (defBody S_law) (defScope S_law) [] [] (He.ga K "law") fd) :
    FnOk (PySem.Challenge.rw_coldlanes_k14_others_refused).prog w K mg base (L2.CX (PySem.Challenge.rw_coldlanes_k14_others_refused).prog w) 117 (He.ga K "law") fd ["script"] (SpOf K 1 f_law) := by
    have C_Block___init__ := ok_Block___init__ (P := PySem.Challenge.rw_coldlanes_k14_others_refused.prog) (wd := w) (base := base) T 
    have C_Code___init__ := ok_Code___init__ (P := PySem.Challenge.rw_coldlanes_k14_others_refused.prog) (wd := w) (base := base) T 
    have C_Code_size := ok_Code_size (P := PySem.Challenge.rw_coldlanes_k14_others_refused.prog) (wd := w) (base := base) T 
    have C_Frame___init__ := ok_Frame___init__ (P := PySem.Challenge.rw_coldlanes_k14_others_refused.prog) (wd := w) (base := base) T 
    have C_Machine_depth := ok_Machine_depth (P := PySem.Challenge.rw_coldlanes_k14_others_refused.prog) (wd := w) (base := base) T 
    have C_Machine_instruction := ok_Machine_instruction (P := PySem.Challenge.rw_coldlanes_k14_others_refused.prog) (wd := w) (base := base) T 
    have C_Machine_outcome := ok_Machine_outcome (P := PySem.Challenge.rw_coldlanes_k14_others_refused.prog) (wd := w) (base := base) T 
    have C_Machine_returned := ok_Machine_returned (P := PySem.Challenge.rw_coldlanes_k14_others_refused.prog) (wd := w) (base := base) T 
    have C_Machine_steps := ok_Machine_steps (P := PySem.Challenge.rw_coldlanes_k14_others_refused.prog) (wd := w) (base := base) T 
    have C_Machine_where := ok_Machine_where (P := PySem.Challenge.rw_coldlanes_k14_others_refused.prog) (wd := w) (base := base) T C_Machine_instruction
    have C_Maker_begin := ok_Maker_begin (P := PySem.Challenge.rw_coldlanes_k14_others_refused.prog) (wd := w) (base := base) T C_Block___init__
    have C_Maker_caught := ok_Maker_caught (P := PySem.Challenge.rw_coldlanes_k14_others_refused.prog) (wd := w) (base := base) T C_Maker_begin
    have C_Maker_new_box := ok_Maker_new_box (P := PySem.Challenge.rw_coldlanes_k14_others_refused.prog) (wd := w) (base := base) T 
    have C_Maker_new_label := ok_Maker_new_label (P := PySem.Challenge.rw_coldlanes_k14_others_refused.prog) (wd := w) (base := base) T 
    have C_NoPlace___init__ := ok_NoPlace___init__ (P := PySem.Challenge.rw_coldlanes_k14_others_refused.prog) (wd := w) (base := base) T 
    have C__law_refusal := ok__law_refusal (P := PySem.Challenge.rw_coldlanes_k14_others_refused.prog) (wd := w) (base := base) T 
    have C__law_town := ok__law_town (P := PySem.Challenge.rw_coldlanes_k14_others_refused.prog) (wd := w) (base := base) T 
    have C_can_throw := ok_can_throw (P := PySem.Challenge.rw_coldlanes_k14_others_refused.prog) (wd := w) (base := base) T 
    have C_chains_of := ok_chains_of (P := PySem.Challenge.rw_coldlanes_k14_others_refused.prog) (wd := w) (base := base) T 
    have C_change_of := ok_change_of (P := PySem.Challenge.rw_coldlanes_k14_others_refused.prog) (wd := w) (base := base) T 
    have C_Maker_put_word := ok_Maker_put_word (P := PySem.Challenge.rw_coldlanes_k14_others_refused.prog) (wd := w) (base := base) T C_change_of
    have C_Maker_put_word_what := ok_Maker_put_word_what (P := PySem.Challenge.rw_coldlanes_k14_others_refused.prog) (wd := w) (base := base) T C_change_of
    have C_Maker_put_word_what_more := ok_Maker_put_word_what_more (P := PySem.Challenge.rw_coldlanes_k14_others_refused.prog) (wd := w) (base := base) T C_change_of
    obtain C_Maker_worth := recs_Maker_worth (P := PySem.Challenge.rw_coldlanes_k14_others_refused.prog) (wd := w) (base := base) T C_Maker_put_word_what 10
    obtain ⟨C_Maker_attempt, C_Maker_body, C_Maker_choice, C_Maker_leave_all, C_Maker_leave_loop, C_Maker_leave_to, C_Maker_loop, C_Maker_put_end, C_Maker_row⟩ := recs_Maker_attempt (P := PySem.Challenge.rw_coldlanes_k14_others_refused.prog) (wd := w) (base := base) T C_Maker_new_label C_Maker_put_word_what C_Maker_caught C_Maker_new_box C_Maker_put_word_what_more C_Maker_begin C_Maker_worth C_Maker_put_word 100
    have C_Maker_function := ok_Maker_function (P := PySem.Challenge.rw_coldlanes_k14_others_refused.prog) (wd := w) (base := base) T C_Maker_new_label C_Maker_begin C_Maker_body C_Maker_put_word_what C_Maker_put_word
    have C_falls := ok_falls (P := PySem.Challenge.rw_coldlanes_k14_others_refused.prog) (wd := w) (base := base) T 
    have C_found_in := ok_found_in (P := PySem.Challenge.rw_coldlanes_k14_others_refused.prog) (wd := w) (base := base) T 
    have C_Machine_search := ok_Machine_search (P := PySem.Challenge.rw_coldlanes_k14_others_refused.prog) (wd := w) (base := base) T C_Machine_instruction C_found_in
    have C_Machine_thrown := ok_Machine_thrown (P := PySem.Challenge.rw_coldlanes_k14_others_refused.prog) (wd := w) (base := base) T C_found_in
    have C_is_whole := ok_is_whole (P := PySem.Challenge.rw_coldlanes_k14_others_refused.prog) (wd := w) (base := base) T 
    have C_Code_look_place := ok_Code_look_place (P := PySem.Challenge.rw_coldlanes_k14_others_refused.prog) (wd := w) (base := base) T C_is_whole C_NoPlace___init__
    have C_Code_caught_by := ok_Code_caught_by (P := PySem.Challenge.rw_coldlanes_k14_others_refused.prog) (wd := w) (base := base) T C_Code_look_place
    have C_is_chain := ok_is_chain (P := PySem.Challenge.rw_coldlanes_k14_others_refused.prog) (wd := w) (base := base) T C_is_whole
    have C_is_order := ok_is_order (P := PySem.Challenge.rw_coldlanes_k14_others_refused.prog) (wd := w) (base := base) T C_is_whole
    have C_is_table := ok_is_table (P := PySem.Challenge.rw_coldlanes_k14_others_refused.prog) (wd := w) (base := base) T C_is_chain C_is_whole
    obtain ⟨C_is_worth, C_is_worth_d1⟩ := recs_is_worth (P := PySem.Challenge.rw_coldlanes_k14_others_refused.prog) (wd := w) (base := base) T C_is_whole 10
    have C_is_call := ok_is_call (P := PySem.Challenge.rw_coldlanes_k14_others_refused.prog) (wd := w) (base := base) T C_is_whole C_is_worth_d1
    obtain ⟨C_is_body, C_is_row, C_is_try⟩ := recs_is_body (P := PySem.Challenge.rw_coldlanes_k14_others_refused.prog) (wd := w) (base := base) T C_is_worth_d1 C_is_whole C_is_call 30
    have C_is_program := ok_is_program (P := PySem.Challenge.rw_coldlanes_k14_others_refused.prog) (wd := w) (base := base) T C_is_whole C_is_body
    have C_look_code := ok_look_code (P := PySem.Challenge.rw_coldlanes_k14_others_refused.prog) (wd := w) (base := base) T 
    have C_listing := ok_listing (P := PySem.Challenge.rw_coldlanes_k14_others_refused.prog) (wd := w) (base := base) T C_look_code
    have C_look_number := ok_look_number (P := PySem.Challenge.rw_coldlanes_k14_others_refused.prog) (wd := w) (base := base) T C_is_whole
    have C_look_program := ok_look_program (P := PySem.Challenge.rw_coldlanes_k14_others_refused.prog) (wd := w) (base := base) T C_is_program
    have C_Maker___init__ := ok_Maker___init__ (P := PySem.Challenge.rw_coldlanes_k14_others_refused.prog) (wd := w) (base := base) T C_look_program
    have C_look_table := ok_look_table (P := PySem.Challenge.rw_coldlanes_k14_others_refused.prog) (wd := w) (base := base) T C_is_table
    have C_found_at := ok_found_at (P := PySem.Challenge.rw_coldlanes_k14_others_refused.prog) (wd := w) (base := base) T C_look_table C_is_whole C_found_in
    have C_made := ok_made (P := PySem.Challenge.rw_coldlanes_k14_others_refused.prog) (wd := w) (base := base) T C_Maker___init__ C_Maker_function
    have C_orders := ok_orders (P := PySem.Challenge.rw_coldlanes_k14_others_refused.prog) (wd := w) (base := base) T 
    have C_packed := ok_packed (P := PySem.Challenge.rw_coldlanes_k14_others_refused.prog) (wd := w) (base := base) T C_look_table C_chains_of
    have C_ranges := ok_ranges (P := PySem.Challenge.rw_coldlanes_k14_others_refused.prog) (wd := w) (base := base) T C_look_code C_can_throw
    have C_Machine___init__ := ok_Machine___init__ (P := PySem.Challenge.rw_coldlanes_k14_others_refused.prog) (wd := w) (base := base) T C_look_code C_look_table C_look_number C_is_whole C_ranges C_Frame___init__
    have C_Machine___init___table := ok_Machine___init___table (P := PySem.Challenge.rw_coldlanes_k14_others_refused.prog) (wd := w) (base := base) T C_look_code C_look_table C_look_number C_is_whole C_ranges C_Frame___init__
    have C_Machine___init___table_goal_worths := ok_Machine___init___table_goal_worths (P := PySem.Challenge.rw_coldlanes_k14_others_refused.prog) (wd := w) (base := base) T C_look_code C_look_table C_look_number C_is_whole C_ranges C_Frame___init__
    have C_reckoned := ok_reckoned (P := PySem.Challenge.rw_coldlanes_k14_others_refused.prog) (wd := w) (base := base) T 
    have C_Machine_plain := ok_Machine_plain (P := PySem.Challenge.rw_coldlanes_k14_others_refused.prog) (wd := w) (base := base) T C_reckoned
    have C_Machine_throws := ok_Machine_throws (P := PySem.Challenge.rw_coldlanes_k14_others_refused.prog) (wd := w) (base := base) T C_Machine_instruction C_reckoned
    have C_Machine_step := ok_Machine_step (P := PySem.Challenge.rw_coldlanes_k14_others_refused.prog) (wd := w) (base := base) T C_Machine_instruction C_Machine_throws C_Machine_thrown C_Frame___init__ C_Machine_returned C_Machine_plain
    have C_Machine_run := ok_Machine_run (P := PySem.Challenge.rw_coldlanes_k14_others_refused.prog) (wd := w) (base := base) T C_look_number C_Machine_step
    have C_Machine_run_most := ok_Machine_run_most (P := PySem.Challenge.rw_coldlanes_k14_others_refused.prog) (wd := w) (base := base) T C_look_number C_Machine_step
    have C__law_over := ok__law_over (P := PySem.Challenge.rw_coldlanes_k14_others_refused.prog) (wd := w) (base := base) T C_Machine_step C_Machine_where C_Machine_throws C_Machine_search
    have C_done_table := ok_done_table (P := PySem.Challenge.rw_coldlanes_k14_others_refused.prog) (wd := w) (base := base) T C_Machine___init___table_goal_worths C_Machine_run_most C_Machine_outcome
    have C_settle := ok_settle (P := PySem.Challenge.rw_coldlanes_k14_others_refused.prog) (wd := w) (base := base) T 
    have C_table_text := ok_table_text (P := PySem.Challenge.rw_coldlanes_k14_others_refused.prog) (wd := w) (base := base) T C_look_table
    have C__law_does := ok__law_does (P := PySem.Challenge.rw_coldlanes_k14_others_refused.prog) (wd := w) (base := base) T C_Machine___init___table C_done_table C_ranges C_listing C_found_at C_packed C_table_text C_Machine_run_most C_Code_caught_by C__law_over
    have C__law_asked := ok__law_asked (P := PySem.Challenge.rw_coldlanes_k14_others_refused.prog) (wd := w) (base := base) T C_NoPlace___init__ C__law_does C__law_refusal
    have C_with_jumps := ok_with_jumps (P := PySem.Challenge.rw_coldlanes_k14_others_refused.prog) (wd := w) (base := base) T C_falls
    have C_laid := ok_laid (P := PySem.Challenge.rw_coldlanes_k14_others_refused.prog) (wd := w) (base := base) T C_made C_orders C_is_order C_Code___init__ C_with_jumps C_settle
    have C_laid_order := ok_laid_order (P := PySem.Challenge.rw_coldlanes_k14_others_refused.prog) (wd := w) (base := base) T C_made C_orders C_is_order C_Code___init__ C_with_jumps C_settle
    have C_steps_of := ok_steps_of (P := PySem.Challenge.rw_coldlanes_k14_others_refused.prog) (wd := w) (base := base) T C_Machine___init__ C_laid_order C_Machine_run
    exact okf_law T F C__law_town C_laid C__law_asked C_Machine___init__ C_Code_size C_steps_of C_Machine_steps C_Machine_outcome C_Machine_run_most C_Machine_run C_Machine_depth
theorem tx_of {w : World} {K : PySem.W.Frag} {h : Heap} {mg : Str → Option Value} (X : K.In h) (G : h.Ns mainGlobals mg) (c : He.SaysX hfa hfn [] [] hex w h K) : Tx K mg := by
  have e0 : hex K = true := c.more
  unfold hex at e0
  obtain ⟨z0, e1⟩ := He.ba e0
  obtain ⟨z1, e2⟩ := He.ba e1
  obtain ⟨z2, e3⟩ := He.ba e2
  obtain ⟨z3, e4⟩ := He.ba e3
  obtain ⟨z4, e5⟩ := He.ba e4
  obtain ⟨z5, e6⟩ := He.ba e5
  obtain ⟨z6, e7⟩ := He.ba e6
  obtain ⟨z7, e8⟩ := He.ba e7
  obtain ⟨z8, e9⟩ := He.ba e8
  obtain ⟨z9, e10⟩ := He.ba e9
  obtain ⟨z10, e11⟩ := He.ba e10
  obtain ⟨z11, e12⟩ := He.ba e11
  obtain ⟨z12, e13⟩ := He.ba e12
  obtain ⟨z13, e14⟩ := He.ba e13
  obtain ⟨z14, e15⟩ := He.ba e14
  obtain ⟨z15, e16⟩ := He.ba e15
  obtain ⟨z16, e17⟩ := He.ba e16
  obtain ⟨znp_NoPlace, e18⟩ := He.ba e17
  obtain ⟨z18, e19⟩ := He.ba e18
  obtain ⟨z19, e20⟩ := He.ba e19
  obtain ⟨zic_Code, e21⟩ := He.ba e20
  exact {
n_ValueError := He.free_ok X G (c.t.d.fact 38 (f := .free "ValueError") rfl),
    n_all := He.free_ok X G (c.t.d.fact 39 (f := .free "all") rfl),
    n_bool := He.free_ok X G (c.t.d.fact 40 (f := .free "bool") rfl),
    n_enumerate := He.free_ok X G (c.t.d.fact 41 (f := .free "enumerate") rfl),
    n_int := He.free_ok X G (c.t.d.fact 42 (f := .free "int") rfl),
    n_isinstance := He.free_ok X G (c.t.d.fact 43 (f := .free "isinstance") rfl),
    n_len := He.free_ok X G (c.t.d.fact 44 (f := .free "len") rfl),
    n_list := He.free_ok X G (c.t.d.fact 45 (f := .free "list") rfl),
    n_max := He.free_ok X G (c.t.d.fact 46 (f := .free "max") rfl),
    n_range := He.free_ok X G (c.t.d.fact 47 (f := .free "range") rfl),
    n_sorted := He.free_ok X G (c.t.d.fact 48 (f := .free "sorted") rfl),
    n_str := He.free_ok X G (c.t.d.fact 49 (f := .free "str") rfl),
    n_tuple := He.free_ok X G (c.t.d.fact 50 (f := .free "tuple") rfl),
    n_zip := He.free_ok X G (c.t.d.fact 51 (f := .free "zip") rfl),
    c_MOST_VALUE := He.int_ok X G (c.t.d.fact 147 (f := .int "MOST_VALUE" 999) rfl),
    c_BOXES := He.int_ok X G (c.t.d.fact 148 (f := .int "BOXES" 8) rfl),
    c_KINDS := He.int_ok X G (c.t.d.fact 149 (f := .int "KINDS" 5) rfl),
    c_FAULT := He.int_ok X G (c.t.d.fact 150 (f := .int "FAULT" 0) rfl),
    c_MOST_FUNCTIONS := He.int_ok X G (c.t.d.fact 151 (f := .int "MOST_FUNCTIONS" 5) rfl),
    c_MOST_ROWS := He.int_ok X G (c.t.d.fact 152 (f := .int "MOST_ROWS" 8) rfl),
    c_MOST_DEEP := He.int_ok X G (c.t.d.fact 153 (f := .int "MOST_DEEP" 6) rfl),
    c_SIGNS := He.glo_ok X G (c.t.d.fact 154 (f := .glo "SIGNS") rfl),
    c_LONGS := He.glo_ok X G (c.t.d.fact 155 (f := .glo "LONGS") rfl),
    c_HOT := He.str_ok X G (c.t.d.fact 156 (f := .str "HOT" "hot") rfl),
    c_COLD := He.str_ok X G (c.t.d.fact 157 (f := .str "COLD" "cold") rfl),
    c_ENDS := He.glo_ok X G (c.t.d.fact 158 (f := .glo "ENDS") rfl),
    c_GOALS := He.glo_ok X G (c.t.d.fact 159 (f := .glo "GOALS") rfl),
    c_MOST_PLACE := He.int_ok X G (c.t.d.fact 160 (f := .int "MOST_PLACE" 100000) rfl),
    c_MOST_STEPS := He.int_ok X G (c.t.d.fact 161 (f := .int "MOST_STEPS" 100000) rfl),
    r_SIGNS := dB_ref z0,
    r_LONGS := dB_ref z1,
    r_ENDS := dB_ref z2,
    r_GOALS := dB_ref z3,
    w_Machine___init___worths := dB_ref z4,
    w_done_worths := dB_ref z5,
    m_LaneError := mAll_ok z6,
    k_BadNumber := kAll_ok (u := (fun K => .ref (He.ga K "BadNumber"))) z7,
    k_BadOrder := kAll_ok (u := (fun K => .ref (He.ga K "BadOrder"))) z8,
    k_BadTable := kAll_ok (u := (fun K => .ref (He.ga K "BadTable"))) z9,
    k_BadText := kAll_ok (u := (fun K => .ref (He.ga K "BadText"))) z10,
    k_BadTree := kAll_ok (u := (fun K => .ref (He.ga K "BadTree"))) z11,
    k_LaneError := kAll_ok (u := (fun K => .ref (He.ga K "LaneError"))) z12,
    k_NoPlace := kAll_ok (u := (fun K => .ref (He.ga K "NoPlace"))) z13,
    k_Over := kAll_ok (u := (fun K => .ref (He.ga K "Over"))) z14,
    k_Stuck := kAll_ok (u := (fun K => .ref (He.ga K "Stuck"))) z15,
    k_ValueError := kAll_ok (u := (fun _ => .type "ValueError")) z16,
    mf_NoPlace := of_decide_eq_true z18,
    mn_NoPlace := mNone_ok z19,
    q_Machine_frames := (clsF_cons (He.cls_ok (c.t.d.fact 60 (f := .cls "Machine") rfl)) (He.noat_ok (c.t.d.fact 113 (f := .noat "Machine" "frames") rfl)) clsF_nil),
    q_Machine_end := (clsF_cons (He.cls_ok (c.t.d.fact 60 (f := .cls "Machine") rfl)) (He.noat_ok (c.t.d.fact 114 (f := .noat "Machine" "end") rfl)) clsF_nil),
    q_Machine_many := (clsF_cons (He.cls_ok (c.t.d.fact 60 (f := .cls "Machine") rfl)) (He.noat_ok (c.t.d.fact 115 (f := .noat "Machine" "many") rfl)) clsF_nil),
    q_Frame_stack := (clsF_cons (He.cls_ok (c.t.d.fact 106 (f := .cls "Frame") rfl)) (He.noat_ok (c.t.d.fact 116 (f := .noat "Frame" "stack") rfl)) clsF_nil),
    q_Machine_code := (clsF_cons (He.cls_ok (c.t.d.fact 60 (f := .cls "Machine") rfl)) (He.noat_ok (c.t.d.fact 117 (f := .noat "Machine" "code") rfl)) clsF_nil),
    q_Code_Frame_boxes := (clsF_cons (He.cls_ok (c.t.d.fact 56 (f := .cls "Code") rfl)) (He.noat_ok (c.t.d.fact 118 (f := .noat "Code" "boxes") rfl)) (clsF_cons (He.cls_ok (c.t.d.fact 106 (f := .cls "Frame") rfl)) (He.noat_ok (c.t.d.fact 119 (f := .noat "Frame" "boxes") rfl)) clsF_nil)),
    q_Frame_place := (clsF_cons (He.cls_ok (c.t.d.fact 106 (f := .cls "Frame") rfl)) (He.noat_ok (c.t.d.fact 120 (f := .noat "Frame" "place") rfl)) clsF_nil),
    q_Machine_tells := (clsF_cons (He.cls_ok (c.t.d.fact 60 (f := .cls "Machine") rfl)) (He.noat_ok (c.t.d.fact 121 (f := .noat "Machine" "tells") rfl)) clsF_nil),
    q_Frame_kind := (clsF_cons (He.cls_ok (c.t.d.fact 106 (f := .cls "Frame") rfl)) (He.noat_ok (c.t.d.fact 122 (f := .noat "Frame" "kind") rfl)) clsF_nil),
    q_Frame_boxes := (clsF_cons (He.cls_ok (c.t.d.fact 106 (f := .cls "Frame") rfl)) (He.noat_ok (c.t.d.fact 119 (f := .noat "Frame" "boxes") rfl)) clsF_nil),
    q_Machine_table := (clsF_cons (He.cls_ok (c.t.d.fact 60 (f := .cls "Machine") rfl)) (He.noat_ok (c.t.d.fact 123 (f := .noat "Machine" "table") rfl)) clsF_nil),
    q_Block_Code_rows := (clsF_cons (He.cls_ok (c.t.d.fact 105 (f := .cls "Block") rfl)) (He.noat_ok (c.t.d.fact 124 (f := .noat "Block" "rows") rfl)) (clsF_cons (He.cls_ok (c.t.d.fact 56 (f := .cls "Code") rfl)) (He.noat_ok (c.t.d.fact 125 (f := .noat "Code" "rows") rfl)) clsF_nil)),
    q_Code_rows := (clsF_cons (He.cls_ok (c.t.d.fact 56 (f := .cls "Code") rfl)) (He.noat_ok (c.t.d.fact 125 (f := .noat "Code" "rows") rfl)) clsF_nil),
    q_Code_warm := (clsF_cons (He.cls_ok (c.t.d.fact 56 (f := .cls "Code") rfl)) (He.noat_ok (c.t.d.fact 126 (f := .noat "Code" "warm") rfl)) clsF_nil),
    q_Code_starts := (clsF_cons (He.cls_ok (c.t.d.fact 56 (f := .cls "Code") rfl)) (He.noat_ok (c.t.d.fact 127 (f := .noat "Code" "starts") rfl)) clsF_nil),
    q_Block_label := (clsF_cons (He.cls_ok (c.t.d.fact 105 (f := .cls "Block") rfl)) (He.noat_ok (c.t.d.fact 128 (f := .noat "Block" "label") rfl)) clsF_nil),
    q_Code_catchers := (clsF_cons (He.cls_ok (c.t.d.fact 56 (f := .cls "Code") rfl)) (He.noat_ok (c.t.d.fact 129 (f := .noat "Code" "catchers") rfl)) clsF_nil),
    q_Code_paths := (clsF_cons (He.cls_ok (c.t.d.fact 56 (f := .cls "Code") rfl)) (He.noat_ok (c.t.d.fact 130 (f := .noat "Code" "paths") rfl)) clsF_nil),
    q_Code_heights := (clsF_cons (He.cls_ok (c.t.d.fact 56 (f := .cls "Code") rfl)) (He.noat_ok (c.t.d.fact 131 (f := .noat "Code" "heights") rfl)) clsF_nil),
    q_Code_owners := (clsF_cons (He.cls_ok (c.t.d.fact 56 (f := .cls "Code") rfl)) (He.noat_ok (c.t.d.fact 132 (f := .noat "Code" "owners") rfl)) clsF_nil),
    q_Block_Maker_goal := (clsF_cons (He.cls_ok (c.t.d.fact 105 (f := .cls "Block") rfl)) (He.noat_ok (c.t.d.fact 133 (f := .noat "Block" "goal") rfl)) (clsF_cons (He.cls_ok (c.t.d.fact 67 (f := .cls "Maker") rfl)) (He.noat_ok (c.t.d.fact 134 (f := .noat "Maker" "goal") rfl)) clsF_nil)),
    q_Code_many := (clsF_cons (He.cls_ok (c.t.d.fact 56 (f := .cls "Code") rfl)) (He.noat_ok (c.t.d.fact 135 (f := .noat "Code" "many") rfl)) clsF_nil),
    q_Code_entries := (clsF_cons (He.cls_ok (c.t.d.fact 56 (f := .cls "Code") rfl)) (He.noat_ok (c.t.d.fact 136 (f := .noat "Code" "entries") rfl)) clsF_nil),
    q_Code_boxes := (clsF_cons (He.cls_ok (c.t.d.fact 56 (f := .cls "Code") rfl)) (He.noat_ok (c.t.d.fact 118 (f := .noat "Code" "boxes") rfl)) clsF_nil),
    q_Block_warmth := (clsF_cons (He.cls_ok (c.t.d.fact 105 (f := .cls "Block") rfl)) (He.noat_ok (c.t.d.fact 137 (f := .noat "Block" "warmth") rfl)) clsF_nil),
    q_Maker_spare := (clsF_cons (He.cls_ok (c.t.d.fact 67 (f := .cls "Maker") rfl)) (He.noat_ok (c.t.d.fact 138 (f := .noat "Maker" "spare") rfl)) clsF_nil),
    q_Maker_blocks := (clsF_cons (He.cls_ok (c.t.d.fact 67 (f := .cls "Maker") rfl)) (He.noat_ok (c.t.d.fact 139 (f := .noat "Maker" "blocks") rfl)) clsF_nil),
    q_Maker_goal := (clsF_cons (He.cls_ok (c.t.d.fact 67 (f := .cls "Maker") rfl)) (He.noat_ok (c.t.d.fact 134 (f := .noat "Maker" "goal") rfl)) clsF_nil),
    q_Maker_chain := (clsF_cons (He.cls_ok (c.t.d.fact 67 (f := .cls "Maker") rfl)) (He.noat_ok (c.t.d.fact 140 (f := .noat "Maker" "chain") rfl)) clsF_nil),
    q_Maker_leaves := (clsF_cons (He.cls_ok (c.t.d.fact 67 (f := .cls "Maker") rfl)) (He.noat_ok (c.t.d.fact 141 (f := .noat "Maker" "leaves") rfl)) clsF_nil),
    q_Maker_path := (clsF_cons (He.cls_ok (c.t.d.fact 67 (f := .cls "Maker") rfl)) (He.noat_ok (c.t.d.fact 142 (f := .noat "Maker" "path") rfl)) clsF_nil),
    q_Maker_program := (clsF_cons (He.cls_ok (c.t.d.fact 67 (f := .cls "Maker") rfl)) (He.noat_ok (c.t.d.fact 143 (f := .noat "Maker" "program") rfl)) clsF_nil),
    q_Maker_now := (clsF_cons (He.cls_ok (c.t.d.fact 67 (f := .cls "Maker") rfl)) (He.noat_ok (c.t.d.fact 144 (f := .noat "Maker" "now") rfl)) clsF_nil),
    q_Maker_tall := (clsF_cons (He.cls_ok (c.t.d.fact 67 (f := .cls "Maker") rfl)) (He.noat_ok (c.t.d.fact 145 (f := .noat "Maker" "tall") rfl)) clsF_nil),
    q_Block_goal := (clsF_cons (He.cls_ok (c.t.d.fact 105 (f := .cls "Block") rfl)) (He.noat_ok (c.t.d.fact 133 (f := .noat "Block" "goal") rfl)) clsF_nil),
    q_Block_rows := (clsF_cons (He.cls_ok (c.t.d.fact 105 (f := .cls "Block") rfl)) (He.noat_ok (c.t.d.fact 124 (f := .noat "Block" "rows") rfl)) clsF_nil),
    q_Maker_labels := (clsF_cons (He.cls_ok (c.t.d.fact 67 (f := .cls "Maker") rfl)) (He.noat_ok (c.t.d.fact 146 (f := .noat "Maker" "labels") rfl)) clsF_nil),
    d_Block___init__ := ⟨⟨He.glo_ok X G (c.t.d.fact 52 (f := .glo "Block") rfl), He.mkr_ok (c.t.d.fact 53 (f := .mkr "Block") rfl)⟩, c.t.d.def_ 0 (d := hd_Block___init__) rfl⟩,
    d_Code___init__ := ⟨⟨He.glo_ok X G (c.t.d.fact 54 (f := .glo "Code") rfl), He.mkr_ok (c.t.d.fact 55 (f := .mkr "Code") rfl)⟩, c.t.d.def_ 1 (d := hd_Code___init__) rfl⟩,
    d_Code_size := ⟨⟨He.cls_ok (c.t.d.fact 56 (f := .cls "Code") rfl), He.meth_ok (c.t.d.fact 57 (f := .meth "Code" "size") rfl)⟩, c.t.d.def_ 2 (d := hd_Code_size) rfl⟩,
    d_Frame___init__ := ⟨⟨He.glo_ok X G (c.t.d.fact 58 (f := .glo "Frame") rfl), He.mkr_ok (c.t.d.fact 59 (f := .mkr "Frame") rfl)⟩, c.t.d.def_ 3 (d := hd_Frame___init__) rfl⟩,
    d_Machine_depth := ⟨⟨He.cls_ok (c.t.d.fact 60 (f := .cls "Machine") rfl), He.meth_ok (c.t.d.fact 61 (f := .meth "Machine" "depth") rfl)⟩, c.t.d.def_ 4 (d := hd_Machine_depth) rfl⟩,
    d_Machine_instruction := ⟨⟨He.cls_ok (c.t.d.fact 60 (f := .cls "Machine") rfl), He.meth_ok (c.t.d.fact 62 (f := .meth "Machine" "instruction") rfl)⟩, c.t.d.def_ 5 (d := hd_Machine_instruction) rfl⟩,
    d_Machine_outcome := ⟨⟨He.cls_ok (c.t.d.fact 60 (f := .cls "Machine") rfl), He.meth_ok (c.t.d.fact 63 (f := .meth "Machine" "outcome") rfl)⟩, c.t.d.def_ 6 (d := hd_Machine_outcome) rfl⟩,
    d_Machine_returned := ⟨⟨He.cls_ok (c.t.d.fact 60 (f := .cls "Machine") rfl), He.meth_ok (c.t.d.fact 64 (f := .meth "Machine" "returned") rfl)⟩, c.t.d.def_ 7 (d := hd_Machine_returned) rfl⟩,
    d_Machine_steps := ⟨⟨He.cls_ok (c.t.d.fact 60 (f := .cls "Machine") rfl), He.meth_ok (c.t.d.fact 65 (f := .meth "Machine" "steps") rfl)⟩, c.t.d.def_ 8 (d := hd_Machine_steps) rfl⟩,
    d_Machine_where := ⟨⟨He.cls_ok (c.t.d.fact 60 (f := .cls "Machine") rfl), He.meth_ok (c.t.d.fact 66 (f := .meth "Machine" "where") rfl)⟩, c.t.d.def_ 9 (d := hd_Machine_where) rfl⟩,
    d_Maker_begin := ⟨⟨He.cls_ok (c.t.d.fact 67 (f := .cls "Maker") rfl), He.meth_ok (c.t.d.fact 68 (f := .meth "Maker" "begin") rfl)⟩, c.t.d.def_ 10 (d := hd_Maker_begin) rfl⟩,
    d_Maker_caught := ⟨⟨He.cls_ok (c.t.d.fact 67 (f := .cls "Maker") rfl), He.meth_ok (c.t.d.fact 69 (f := .meth "Maker" "caught") rfl)⟩, c.t.d.def_ 11 (d := hd_Maker_caught) rfl⟩,
    d_Maker_new_box := ⟨⟨He.cls_ok (c.t.d.fact 67 (f := .cls "Maker") rfl), He.meth_ok (c.t.d.fact 70 (f := .meth "Maker" "new_box") rfl)⟩, c.t.d.def_ 12 (d := hd_Maker_new_box) rfl⟩,
    d_Maker_new_label := ⟨⟨He.cls_ok (c.t.d.fact 67 (f := .cls "Maker") rfl), He.meth_ok (c.t.d.fact 71 (f := .meth "Maker" "new_label") rfl)⟩, c.t.d.def_ 13 (d := hd_Maker_new_label) rfl⟩,
    d_NoPlace___init__ := ⟨⟨He.glo_ok X G (c.t.d.fact 72 (f := .glo "NoPlace") rfl), npB_ok znp_NoPlace⟩, c.t.d.def_ 14 (d := hd_NoPlace___init__) rfl⟩,
    d__law_refusal := ⟨He.glo_ok X G (c.t.d.fact 0 (f := .glo "_law_refusal") rfl), c.t.d.def_ 15 (d := hd__law_refusal) rfl⟩,
    d__law_town := ⟨He.glo_ok X G (c.t.d.fact 1 (f := .glo "_law_town") rfl), c.t.d.def_ 16 (d := hd__law_town) rfl⟩,
    d_can_throw := ⟨He.glo_ok X G (c.t.d.fact 2 (f := .glo "can_throw") rfl), c.t.d.def_ 17 (d := hd_can_throw) rfl⟩,
    d_chains_of := ⟨He.glo_ok X G (c.t.d.fact 3 (f := .glo "chains_of") rfl), c.t.d.def_ 18 (d := hd_chains_of) rfl⟩,
    d_change_of := ⟨He.glo_ok X G (c.t.d.fact 4 (f := .glo "change_of") rfl), c.t.d.def_ 19 (d := hd_change_of) rfl⟩,
    d_Maker_put := ⟨⟨He.cls_ok (c.t.d.fact 67 (f := .cls "Maker") rfl), He.meth_ok (c.t.d.fact 73 (f := .meth "Maker" "put") rfl)⟩, c.t.d.def_ 20 (d := hd_Maker_put) rfl⟩,
    d_Maker_worth := ⟨⟨He.cls_ok (c.t.d.fact 67 (f := .cls "Maker") rfl), He.meth_ok (c.t.d.fact 74 (f := .meth "Maker" "worth") rfl)⟩, c.t.d.def_ 21 (d := hd_Maker_worth) rfl⟩,
    d_Maker_attempt := ⟨⟨He.cls_ok (c.t.d.fact 67 (f := .cls "Maker") rfl), He.meth_ok (c.t.d.fact 75 (f := .meth "Maker" "attempt") rfl)⟩, c.t.d.def_ 22 (d := hd_Maker_attempt) rfl⟩,
    d_Maker_body := ⟨⟨He.cls_ok (c.t.d.fact 67 (f := .cls "Maker") rfl), He.meth_ok (c.t.d.fact 76 (f := .meth "Maker" "body") rfl)⟩, c.t.d.def_ 23 (d := hd_Maker_body) rfl⟩,
    d_Maker_choice := ⟨⟨He.cls_ok (c.t.d.fact 67 (f := .cls "Maker") rfl), He.meth_ok (c.t.d.fact 77 (f := .meth "Maker" "choice") rfl)⟩, c.t.d.def_ 24 (d := hd_Maker_choice) rfl⟩,
    d_Maker_leave_all := ⟨⟨He.cls_ok (c.t.d.fact 67 (f := .cls "Maker") rfl), He.meth_ok (c.t.d.fact 78 (f := .meth "Maker" "leave_all") rfl)⟩, c.t.d.def_ 25 (d := hd_Maker_leave_all) rfl⟩,
    d_Maker_leave_loop := ⟨⟨He.cls_ok (c.t.d.fact 67 (f := .cls "Maker") rfl), He.meth_ok (c.t.d.fact 79 (f := .meth "Maker" "leave_loop") rfl)⟩, c.t.d.def_ 26 (d := hd_Maker_leave_loop) rfl⟩,
    d_Maker_leave_to := ⟨⟨He.cls_ok (c.t.d.fact 67 (f := .cls "Maker") rfl), He.meth_ok (c.t.d.fact 80 (f := .meth "Maker" "leave_to") rfl)⟩, c.t.d.def_ 27 (d := hd_Maker_leave_to) rfl⟩,
    d_Maker_loop := ⟨⟨He.cls_ok (c.t.d.fact 67 (f := .cls "Maker") rfl), He.meth_ok (c.t.d.fact 81 (f := .meth "Maker" "loop") rfl)⟩, c.t.d.def_ 28 (d := hd_Maker_loop) rfl⟩,
    d_Maker_put_end := ⟨⟨He.cls_ok (c.t.d.fact 67 (f := .cls "Maker") rfl), He.meth_ok (c.t.d.fact 82 (f := .meth "Maker" "put_end") rfl)⟩, c.t.d.def_ 29 (d := hd_Maker_put_end) rfl⟩,
    d_Maker_row := ⟨⟨He.cls_ok (c.t.d.fact 67 (f := .cls "Maker") rfl), He.meth_ok (c.t.d.fact 83 (f := .meth "Maker" "row") rfl)⟩, c.t.d.def_ 30 (d := hd_Maker_row) rfl⟩,
    d_Maker_function := ⟨⟨He.cls_ok (c.t.d.fact 67 (f := .cls "Maker") rfl), He.meth_ok (c.t.d.fact 84 (f := .meth "Maker" "function") rfl)⟩, c.t.d.def_ 31 (d := hd_Maker_function) rfl⟩,
    d_falls := ⟨He.glo_ok X G (c.t.d.fact 5 (f := .glo "falls") rfl), c.t.d.def_ 32 (d := hd_falls) rfl⟩,
    d_found_in := ⟨He.glo_ok X G (c.t.d.fact 6 (f := .glo "found_in") rfl), c.t.d.def_ 33 (d := hd_found_in) rfl⟩,
    d_Machine_search := ⟨⟨He.cls_ok (c.t.d.fact 60 (f := .cls "Machine") rfl), He.meth_ok (c.t.d.fact 85 (f := .meth "Machine" "search") rfl)⟩, c.t.d.def_ 34 (d := hd_Machine_search) rfl⟩,
    d_Machine_thrown := ⟨⟨He.cls_ok (c.t.d.fact 60 (f := .cls "Machine") rfl), He.meth_ok (c.t.d.fact 86 (f := .meth "Machine" "thrown") rfl)⟩, c.t.d.def_ 35 (d := hd_Machine_thrown) rfl⟩,
    d_is_whole := ⟨He.glo_ok X G (c.t.d.fact 7 (f := .glo "is_whole") rfl), c.t.d.def_ 36 (d := hd_is_whole) rfl⟩,
    d_Code_look_place := ⟨⟨He.cls_ok (c.t.d.fact 56 (f := .cls "Code") rfl), He.meth_ok (c.t.d.fact 87 (f := .meth "Code" "look_place") rfl)⟩, c.t.d.def_ 37 (d := hd_Code_look_place) rfl⟩,
    d_Code_caught_by := ⟨⟨He.cls_ok (c.t.d.fact 56 (f := .cls "Code") rfl), He.meth_ok (c.t.d.fact 88 (f := .meth "Code" "caught_by") rfl)⟩, c.t.d.def_ 38 (d := hd_Code_caught_by) rfl⟩,
    d_is_chain := ⟨He.glo_ok X G (c.t.d.fact 8 (f := .glo "is_chain") rfl), c.t.d.def_ 39 (d := hd_is_chain) rfl⟩,
    d_is_order := ⟨He.glo_ok X G (c.t.d.fact 9 (f := .glo "is_order") rfl), c.t.d.def_ 40 (d := hd_is_order) rfl⟩,
    d_is_table := ⟨He.glo_ok X G (c.t.d.fact 10 (f := .glo "is_table") rfl), c.t.d.def_ 41 (d := hd_is_table) rfl⟩,
    d_is_worth := ⟨He.glo_ok X G (c.t.d.fact 11 (f := .glo "is_worth") rfl), c.t.d.def_ 42 (d := hd_is_worth) rfl⟩,
    d_is_call := ⟨He.glo_ok X G (c.t.d.fact 12 (f := .glo "is_call") rfl), c.t.d.def_ 43 (d := hd_is_call) rfl⟩,
    d_is_body := ⟨He.glo_ok X G (c.t.d.fact 13 (f := .glo "is_body") rfl), c.t.d.def_ 44 (d := hd_is_body) rfl⟩,
    d_is_row := ⟨He.glo_ok X G (c.t.d.fact 14 (f := .glo "is_row") rfl), c.t.d.def_ 45 (d := hd_is_row) rfl⟩,
    d_is_try := ⟨He.glo_ok X G (c.t.d.fact 15 (f := .glo "is_try") rfl), c.t.d.def_ 46 (d := hd_is_try) rfl⟩,
    d_is_program := ⟨He.glo_ok X G (c.t.d.fact 16 (f := .glo "is_program") rfl), c.t.d.def_ 47 (d := hd_is_program) rfl⟩,
    d_look_code := ⟨He.glo_ok X G (c.t.d.fact 17 (f := .glo "look_code") rfl), c.t.d.def_ 48 (d := hd_look_code) rfl⟩,
    d_listing := ⟨He.glo_ok X G (c.t.d.fact 18 (f := .glo "listing") rfl), c.t.d.def_ 49 (d := hd_listing) rfl⟩,
    d_look_number := ⟨He.glo_ok X G (c.t.d.fact 19 (f := .glo "look_number") rfl), c.t.d.def_ 50 (d := hd_look_number) rfl⟩,
    d_look_program := ⟨He.glo_ok X G (c.t.d.fact 20 (f := .glo "look_program") rfl), c.t.d.def_ 51 (d := hd_look_program) rfl⟩,
    d_Maker___init__ := ⟨⟨He.glo_ok X G (c.t.d.fact 89 (f := .glo "Maker") rfl), He.mkr_ok (c.t.d.fact 90 (f := .mkr "Maker") rfl)⟩, c.t.d.def_ 52 (d := hd_Maker___init__) rfl⟩,
    d_look_table := ⟨He.glo_ok X G (c.t.d.fact 21 (f := .glo "look_table") rfl), c.t.d.def_ 53 (d := hd_look_table) rfl⟩,
    d_found_at := ⟨He.glo_ok X G (c.t.d.fact 22 (f := .glo "found_at") rfl), c.t.d.def_ 54 (d := hd_found_at) rfl⟩,
    d_made := ⟨He.glo_ok X G (c.t.d.fact 23 (f := .glo "made") rfl), c.t.d.def_ 55 (d := hd_made) rfl⟩,
    d_orders := ⟨He.glo_ok X G (c.t.d.fact 24 (f := .glo "orders") rfl), c.t.d.def_ 56 (d := hd_orders) rfl⟩,
    d_packed := ⟨He.glo_ok X G (c.t.d.fact 25 (f := .glo "packed") rfl), c.t.d.def_ 57 (d := hd_packed) rfl⟩,
    d_ranges := ⟨He.glo_ok X G (c.t.d.fact 26 (f := .glo "ranges") rfl), c.t.d.def_ 58 (d := hd_ranges) rfl⟩,
    d_Machine___init__ := ⟨⟨He.glo_ok X G (c.t.d.fact 91 (f := .glo "Machine") rfl), He.mkr_ok (c.t.d.fact 92 (f := .mkr "Machine") rfl)⟩, c.t.d.def_ 59 (d := hd_Machine___init__) rfl⟩,
    d_reckoned := ⟨He.glo_ok X G (c.t.d.fact 27 (f := .glo "reckoned") rfl), c.t.d.def_ 60 (d := hd_reckoned) rfl⟩,
    d_Machine_plain := ⟨⟨He.cls_ok (c.t.d.fact 60 (f := .cls "Machine") rfl), He.meth_ok (c.t.d.fact 93 (f := .meth "Machine" "plain") rfl)⟩, c.t.d.def_ 61 (d := hd_Machine_plain) rfl⟩,
    d_Machine_throws := ⟨⟨He.cls_ok (c.t.d.fact 60 (f := .cls "Machine") rfl), He.meth_ok (c.t.d.fact 94 (f := .meth "Machine" "throws") rfl)⟩, c.t.d.def_ 62 (d := hd_Machine_throws) rfl⟩,
    d_Machine_step := ⟨⟨He.cls_ok (c.t.d.fact 60 (f := .cls "Machine") rfl), He.meth_ok (c.t.d.fact 95 (f := .meth "Machine" "step") rfl)⟩, c.t.d.def_ 63 (d := hd_Machine_step) rfl⟩,
    d_Machine_run := ⟨⟨He.cls_ok (c.t.d.fact 60 (f := .cls "Machine") rfl), He.meth_ok (c.t.d.fact 96 (f := .meth "Machine" "run") rfl)⟩, c.t.d.def_ 64 (d := hd_Machine_run) rfl⟩,
    d__law_over := ⟨He.glo_ok X G (c.t.d.fact 28 (f := .glo "_law_over") rfl), c.t.d.def_ 65 (d := hd__law_over) rfl⟩,
    d_done := ⟨He.glo_ok X G (c.t.d.fact 29 (f := .glo "done") rfl), c.t.d.def_ 66 (d := hd_done) rfl⟩,
    d_settle := ⟨He.glo_ok X G (c.t.d.fact 30 (f := .glo "settle") rfl), c.t.d.def_ 67 (d := hd_settle) rfl⟩,
    d_table_text := ⟨He.glo_ok X G (c.t.d.fact 31 (f := .glo "table_text") rfl), c.t.d.def_ 68 (d := hd_table_text) rfl⟩,
    d__law_does := ⟨He.glo_ok X G (c.t.d.fact 32 (f := .glo "_law_does") rfl), c.t.d.def_ 69 (d := hd__law_does) rfl⟩,
    d__law_asked := ⟨He.glo_ok X G (c.t.d.fact 33 (f := .glo "_law_asked") rfl), c.t.d.def_ 70 (d := hd__law_asked) rfl⟩,
    d_with_jumps := ⟨He.glo_ok X G (c.t.d.fact 34 (f := .glo "with_jumps") rfl), c.t.d.def_ 71 (d := hd_with_jumps) rfl⟩,
    d_laid := ⟨He.glo_ok X G (c.t.d.fact 35 (f := .glo "laid") rfl), c.t.d.def_ 72 (d := hd_laid) rfl⟩,
    d_steps_of := ⟨He.glo_ok X G (c.t.d.fact 36 (f := .glo "steps_of") rfl), c.t.d.def_ 73 (d := hd_steps_of) rfl⟩,
    d_law := ⟨He.glo_ok X G (c.t.d.fact 37 (f := .glo "law") rfl), c.t.d.def_ 74 (d := hd_law) rfl⟩,
    gc_Code := He.glo_ok X G (c.t.d.fact 54 (f := .glo "Code") rfl),
    ic_Code := icOk_of zic_Code (mem2 (He.cls_ok (c.t.d.fact 105 (f := .cls "Block") rfl)) (mem2 (He.cls_ok (c.t.d.fact 67 (f := .cls "Maker") rfl)) (mem2 (He.cls_ok (c.t.d.fact 56 (f := .cls "Code") rfl)) (mem2 (He.cls_ok (c.t.d.fact 106 (f := .cls "Frame") rfl)) (mem2 (He.cls_ok (c.t.d.fact 60 (f := .cls "Machine") rfl)) (fun _ h => absurd h (by simp))))))),
    g_BadNumber := He.glo_ok X G (c.t.d.fact 97 (f := .glo "BadNumber") rfl),
    g_BadOrder := He.glo_ok X G (c.t.d.fact 98 (f := .glo "BadOrder") rfl),
    g_BadTable := He.glo_ok X G (c.t.d.fact 99 (f := .glo "BadTable") rfl),
    g_BadText := He.glo_ok X G (c.t.d.fact 100 (f := .glo "BadText") rfl),
    g_BadTree := He.glo_ok X G (c.t.d.fact 101 (f := .glo "BadTree") rfl),
    g_LaneError := He.glo_ok X G (c.t.d.fact 102 (f := .glo "LaneError") rfl),
    g_NoPlace := He.glo_ok X G (c.t.d.fact 72 (f := .glo "NoPlace") rfl),
    g_Over := He.glo_ok X G (c.t.d.fact 103 (f := .glo "Over") rfl),
    g_Stuck := He.glo_ok X G (c.t.d.fact 104 (f := .glo "Stuck") rfl),
    x_BadNumber := (c.t.d.fact 107 (f := .exc "BadNumber") rfl),
    x_BadOrder := (c.t.d.fact 108 (f := .exc "BadOrder") rfl),
    x_BadTable := (c.t.d.fact 109 (f := .exc "BadTable") rfl),
    x_BadTree := (c.t.d.fact 110 (f := .exc "BadTree") rfl),
    x_Over := (c.t.d.fact 111 (f := .exc "Over") rfl),
    x_Stuck := (c.t.d.fact 112 (f := .exc "Stuck") rfl) }
end CL
namespace CL
open PySem L2
def lawR_1 (g__law_town g_laid g__law_asked g_Machine___init__ g_Code_size g_steps_of g_Machine_steps g_Machine_outcome g_Machine_run g_Machine_depth : List Da → Mo Da) : Sl → Mo Fl := (mSeq (mSet 2 (eCall (fun ds => ar 2 g_laid (ds ++ [(.non)])) (aCons (eL (lDisp (aCons (eTup (aCons (eC (.int 0)) (aCons (eL (lDisp (aCons (eTup (aCons (eC (.str "loop")) (aCons (eC (.int 4)) (aCons (eL (lDisp (aCons (eTup (aCons (eC (.str "out")) (aCons (eC (.int 1)) aNil))) aNil))) aNil)))) aNil))) aNil))) aNil))) aNil))) (mSeq (mSet 3 (eTup (aCons (eTup (aCons (eC (.non)) (aCons (eC (.int 5)) (aCons (eC (.bl false)) aNil)))) aNil))) (mSeq (mSet 4 (eL (lDisp (aCons (eC (.int 5)) (aCons (eTup aNil) (aCons (eL (lDisp (aCons (eTup (aCons (eC (.int 0)) (aCons (eC (.int 1)) aNil))) aNil))) (aCons (eL (lDisp (aCons (eL (lDisp (aCons (eC (.int 0)) (aCons (eC (.int 1)) (aCons (eVar 3) aNil))))) aNil))) (aCons (eL (lDisp (aCons (eTup (aCons (eC (.int 1)) (aCons (eC (.int 1)) (aCons (eVar 3) aNil)))) aNil))) (aCons (eL (lDisp (aCons (eTup (aCons (eC (.int 0)) (aCons (eC (.int 2)) (aCons (eVar 3) aNil)))) (aCons (eTup (aCons (eC (.int 1)) (aCons (eC (.int 3)) (aCons (eVar 3) aNil)))) aNil)))) (aCons (eL (lDisp (aCons (eTup (aCons (eC (.int 0)) (aCons (eC (.int 1)) (aCons (eTup aNil) aNil)))) aNil))) (aCons (eL (lDisp (aCons (eTup (aCons (eC (.int 0)) (aCons (eC (.int 1)) (aCons (eTup (aCons (eTup (aCons (eC (.int 5)) (aCons (eC (.int 0)) (aCons (eC (.bl false)) aNil)))) aNil)) aNil)))) aNil))) aNil))))))))))) (mSeq (mSet 4 (eL (l2 catL (eVar 4) (eL (lDisp (aCons (eL (lDisp (aCons (eTup (aCons (eC (.int 0)) (aCons (eC (.int 1)) (aCons (eTup (aCons (eTup (aCons (eC (.non)) (aCons (eC (.int 5)) (aCons (eC (.int 1)) aNil)))) aNil)) aNil)))) aNil))) (aCons (eL (lDisp (aCons (eTup (aCons (eC (.int 0)) (aCons (eC (.int 100001)) (aCons (eVar 3) aNil)))) aNil))) (aCons (eL (lDisp (aCons (eTup (aCons (eC (.bl true)) (aCons (eC (.int 2)) (aCons (eVar 3) aNil)))) aNil))) (aCons (eL (lDisp (aCons (eTup (aCons (eC (.int 0)) (aCons (eC (.int 1)) (aCons (eL (lDisp (aCons (eTup (aCons (eC (.non)) (aCons (eC (.int 5)) (aCons (eC (.bl false)) aNil)))) aNil))) aNil)))) aNil))) (aCons (eL (lDisp (aCons (eTup (aCons (eC (.int 0)) (aCons (eC (.int 1)) (aCons (eTup (aCons (eTup (aCons (eC (.non)) (aCons (eC (.int 5)) aNil))) aNil)) aNil)))) aNil))) aNil)))))))))) (mSeq (mFor (iV (eVar 4)) (gN 5) (mIf (tst (e2 neD (eL (l2 catL (eL (lComp (iR1 (aCons (eC (.int 2)) aNil)) (gN 9) tYes_ (eCall (fun ds => ar 3 g__law_asked (ds ++ [])) (aCons (eVar 9) (aCons (eVar 2) (aCons (eVar 5) aNil)))) [9])) (eL (lComp (iV (eL (lDisp (aCons (eC (.int 4)) (aCons (eC (.int 5)) (aCons (eC (.int 6)) aNil)))))) (gN 9) tYes_ (eCall (fun ds => ar 3 g__law_asked (ds ++ [])) (aCons (eVar 9) (aCons (eVar 5) (aCons (eC (.int 0)) aNil)))) [9])))) (eL (l2 repL (eL (lDisp (aCons (eC (.str "table")) aNil))) (eC (.int 5)))))) (mRet (eC (.bl false))) mNil)) (mSeq (mFor (iV (eL (lDisp (aCons (eC (.non)) (aCons (eC (.int 5)) (aCons (eL (lDisp aNil)) (aCons (eC (.str "code")) (aCons (eL (lDisp (aCons (eTup (aCons (eC (.int 0)) (aCons (eL (lDisp aNil)) aNil))) aNil))) aNil)))))))) (gN 5) (mIf (tst (e2 neD (eL (lComp (iR1 (aCons (eC (.int 4)) aNil)) (gN 9) tYes_ (eCall (fun ds => ar 3 g__law_asked (ds ++ [])) (aCons (eVar 9) (aCons (eVar 5) (aCons (eL (lDisp (aCons (eC (.int 5)) aNil))) aNil)))) [9])) (eL (l2 repL (eL (lDisp (aCons (eC (.str "table")) aNil))) (eC (.int 4)))))) (mRet (eC (.bl false))) mNil)) (mSeq (mFor (iV (eL (lDisp (aCons (e2 subD (eC (.int 0)) (eC (.int 1))) (aCons (eC (.int 100001)) (aCons (eC (.bl true)) (aCons (eC (.non)) (aCons (eC (.str "5")) aNil)))))))) (gN 5) (mIf (tOr_ (tst (e2 neD (eCall (fun ds => ar 3 g__law_asked (ds ++ [])) (aCons (eC (.int 4)) (aCons (eL (lDisp aNil)) (aCons (eVar 5) aNil)))) (eC (.str "table")))) (tst (e2 neD (eCall (fun ds => ar 3 g__law_asked (ds ++ [])) (aCons (eC (.int 7)) (aCons (eMake "Machine" (fun ds => ar 5 g_Machine___init__ ds) (fun ro => bnd ((aCons (eVar 2) aNil) ro) fun ds => ret (ds ++ [(.non), (.int 0), (.tup [])]))) (aCons (eVar 5) aNil)))) (eC (.str "number"))))) (mRet (eC (.bl false))) mNil)) (mSeq (mFor (iV (eL (lDisp (aCons (e2 subD (eC (.int 0)) (eC (.int 1))) (aCons (e2 ixD (eMeth "Code" "size" (fun ds => ar 1 g_Code_size (ds ++ [])) (eVar 2) aNil) (eC (.int 0))) (aCons (eC (.bl true)) (aCons (eC (.non)) (aCons (eC (.str "0")) aNil)))))))) (gN 5) (mIf (tst (e2 neD (eCall (fun ds => ar 3 g__law_asked (ds ++ [])) (aCons (eC (.int 8)) (aCons (eVar 2) (aCons (eVar 5) aNil)))) (eTup (aCons (eC (.str "place")) (aCons (eVar 5) aNil))))) (mRet (eC (.bl false))) mNil)) (mSeq (mSet 6 (eMake "Machine" (fun ds => ar 5 g_Machine___init__ ds) (fun ro => bnd ((aCons (eVar 2) aNil) ro) fun ds => ret (ds ++ [(.non), (.int 0), (.tup [])])))) (mSeq (mSet 7 (eCall (fun ds => ar 2 g_steps_of (ds ++ [(.non)])) (aCons (eL (lDisp (aCons (eTup (aCons (eC (.int 0)) (aCons (eL (lDisp (aCons (eTup (aCons (eC (.str "loop")) (aCons (eC (.int 4)) (aCons (eL (lDisp (aCons (eTup (aCons (eC (.str "out")) (aCons (eC (.int 1)) aNil))) aNil))) aNil)))) aNil))) aNil))) aNil))) aNil))) (mSeq (mIf (tOr_ (tst (e2 neD (eCall (fun ds => ar 3 g__law_asked (ds ++ [])) (aCons (eC (.int 7)) (aCons (eVar 6) (aCons (e2 subD (eVar 7) (eC (.int 1))) aNil)))) (eC (.str "stuck")))) (tOr_ (tst (e2 neD (eMeth "Machine" "steps" (fun ds => ar 1 g_Machine_steps (ds ++ [])) (eVar 6) aNil) (e2 subD (eVar 7) (eC (.int 1))))) (tst (e2 (isB true) (e2 ixD (eMeth "Machine" "outcome" (fun ds => ar 1 g_Machine_outcome (ds ++ [])) (eVar 6) aNil) (eC (.int 0))) (eC (.non)))))) (mRet (eC (.bl false))) mNil) (mSeq (mIf (tOr_ (tst (e2 neD (eCall (fun ds => ar 3 g__law_asked (ds ++ [])) (aCons (eC (.int 7)) (aCons (eVar 6) (aCons (e2 subD (eVar 7) (eC (.int 1))) aNil)))) (eC (.str "stuck")))) (tOr_ (tst (e2 neD (eMethK "Machine" "run" (fun ds => ar 2 g_Machine_run ds) 0 1 gD_Machine_run_most (eVar 6) aNil (aCons (eVar 7) aNil)) (eVar 7))) (tst (e2 neD (eMeth "Machine" "outcome" (fun ds => ar 1 g_Machine_outcome (ds ++ [])) (eVar 6) aNil) (eTup (aCons (eTup (aCons (eC (.str "return")) (aCons (eC (.int 0)) aNil))) (aCons (eL (lDisp (aCons (eC (.int 1)) (aCons (eC (.int 1)) (aCons (eC (.int 1)) (aCons (eC (.int 1)) aNil)))))) aNil))))))) (mRet (eC (.bl false))) mNil) (mSeq (mSet 8 (eL (lComp (iR2 (aCons (eC (.int 9)) (aCons (eC (.int 13)) aNil))) (gN 9) tYes_ (eCall (fun ds => ar 3 g__law_asked (ds ++ [])) (aCons (eVar 9) (aCons (eVar 6) (aCons (eC (.int 0)) aNil)))) [9]))) (mRet (vAnd (e2 eqD (eVar 8) (eL (l2 repL (eL (lDisp (aCons (eC (.str "over")) aNil))) (eC (.int 4))))) (vAnd (e2 eqD (eMeth "Machine" "run" (fun ds => ar 2 g_Machine_run (ds ++ [(.int 100000)])) (eVar 6) aNil) (eVar 7)) (vAnd (e2 eqD (eMeth "Machine" "depth" (fun ds => ar 1 g_Machine_depth (ds ++ [])) (eVar 6) aNil) (eC (.int 0))) (e2 eqD (eCall (fun ds => ar 3 g__law_asked (ds ++ [])) (aCons (eC (.int 7)) (aCons (eMake "Machine" (fun ds => ar 5 g_Machine___init__ ds) (fun ro => bnd ((aCons (eVar 2) aNil) ro) fun ds => ret (ds ++ [(.non), (.int 0), (.tup [])]))) (aCons (eC (.int 0)) aNil)))) (eC (.str "stuck"))))))))))))))))))))
theorem lawR_eq (g__law_town g_laid g__law_asked g_Machine___init__ g_Code_size g_steps_of g_Machine_steps g_Machine_outcome g_Machine_run g_Machine_depth : List Da → Mo Da) : m_law g__law_town g_laid g__law_asked g_Machine___init__ g_Code_size g_steps_of g_Machine_steps g_Machine_outcome g_Machine_run g_Machine_depth = (mSeq (mSet 1 (eCall (fun ds => ar 1 g__law_town (ds ++ [])) (aCons (eVar 0) aNil))) (lawR_1 g__law_town g_laid g__law_asked g_Machine___init__ g_Code_size g_steps_of g_Machine_steps g_Machine_outcome g_Machine_run g_Machine_depth)) := rfl
def R14 : Sl → Mo Fl := lawR_1 f__law_town f_laid f__law_asked f_Machine___init__ f_Code_size f_steps_of f_Machine_steps f_Machine_outcome f_Machine_run f_Machine_depth
def yes : Res Fl → Bool
  | .ok (.rt (.bl true)) _ => true
  | _ => false
theorem run14 (S : Da) (r : List Da) : yes (R14 [some S, some (.han 1), none, none, none, none, none, none, none, none] [.lst r, .lst [.han 0, .int 0]]) = true := by kernel_rfl
end CL
namespace CL
open PySem L2
/-- what a mirror's run must bring -/
def Wp {A : Type} (m : Mo A) (st : Store) (post : A → Store → Prop) (ex : Str → List Da → Store → Prop) : Prop := match m st with
  | .ok a st' => post a st'
  | .exc c as st' => ex c as st'
  | .bad => False
abbrev noEx : Str → List Da → Store → Prop := fun _ _ _ => False
section
variable {A B : Type} {st : Store} {ex : Str → List Da → Store → Prop}
theorem Wp.mono {m : Mo A} {post post' : A → Store → Prop} (h : Wp m st post ex) (hp : ∀ a st', post a st' → post' a st') : Wp m st post' ex := by
  unfold Wp at h ⊢
  cases q : m st with
  | ok a st' => rw [q] at h; exact hp a st' h
  | exc c as st' => rw [q] at h; exact h
  | bad => rw [q] at h; exact h
theorem Wp.congr {m : Mo A} {post post' : A → Store → Prop} (hp : ∀ a st', post a st' ↔ post' a st') : Wp m st post ex ↔ Wp m st post' ex :=
  ⟨fun h => h.mono fun a s => (hp a s).mp, fun h => h.mono fun a s => (hp a s).mpr⟩
theorem Wp.ofNo {m : Mo A} {post post' : A → Store → Prop} (h : Wp m st post noEx) (hp : ∀ a st', post a st' → post' a st') : Wp m st post' ex := by
  unfold Wp at h ⊢
  cases q : m st with
  | ok a st' => rw [q] at h; exact hp a st' h
  | exc c as st' => rw [q] at h; exact h.elim
  | bad => rw [q] at h; exact h
theorem Wp.out {m : Mo A} {post : A → Store → Prop} (h : Wp m st post noEx) : ∃ a st', m st = .ok a st' ∧ post a st' := by
  unfold Wp at h
  cases q : m st with
  | ok a st' => rw [q] at h; exact ⟨a, st', rfl, h⟩
  | exc c as st' => rw [q] at h; exact h.elim
  | bad => rw [q] at h; exact h.elim
theorem Wp.of {m : Mo A} {post : A → Store → Prop} {a : A} {st' : Store} (h : m st = .ok a st') (hp : post a st') : Wp m st post ex := by
  unfold Wp; rw [h]; exact hp
@[simp] theorem wp_bnd {m : Mo A} {f : A → Mo B} {post : B → Store → Prop} : Wp (bnd m f) st post ex ↔ Wp m st (fun a st' => Wp (f a) st' post ex) ex := by
  unfold Wp bnd
  cases m st <;> rfl
@[simp] theorem wp_ret {a : A} {post : A → Store → Prop} : Wp (ret a) st post ex ↔ post a st := Iff.rfl
@[simp] theorem wp_nop {post : A → Store → Prop} : Wp (nop : Mo A) st post ex ↔ False := Iff.rfl
@[simp] theorem wp_noX {m : Mo A} {post : A → Store → Prop} : Wp (noX m) st post ex ↔ Wp m st post noEx := by
  unfold Wp noX
  cases m st <;> rfl
@[simp] theorem wp_ite {c : Prop} [Decidable c] {m n : Mo A} {post : A → Store → Prop} : Wp (if c then m else n) st post ex ↔ if c then Wp m st post ex else Wp n st post ex := by
  split <;> rfl
variable {a b c : Sl → Mo Da} {p q : Sl → Mo Bool} {al : Sl → Mo (List Da)} {ro : Sl} {post : Da → Store → Prop} {postB : Bool → Store → Prop} {postL : List Da → Store → Prop} {postF : Fl → Store → Prop}
@[simp] theorem wp_var0 {d : Da} {r : Sl} : Wp (eVar 0 (some d :: r)) st post ex ↔ post d st := Iff.rfl
@[simp] theorem wp_varS {i : Nat} {o : Option Da} {r : Sl} : Wp (eVar (i + 1) (o :: r)) st post ex ↔ Wp (eVar i r) st post ex := Iff.rfl
@[simp] theorem wp_var1 {o0 : Option Da} {d : Da} {r : Sl} : Wp (eVar 1 (o0 :: some d :: r)) st post ex ↔ post d st := Iff.rfl
@[simp] theorem wp_var2 {o0 o1 : Option Da} {d : Da} {r : Sl} : Wp (eVar 2 (o0 :: o1 :: some d :: r)) st post ex ↔ post d st := Iff.rfl
@[simp] theorem wp_var3 {o0 o1 o2 : Option Da} {d : Da} {r : Sl} : Wp (eVar 3 (o0 :: o1 :: o2 :: some d :: r)) st post ex ↔ post d st := Iff.rfl
@[simp] theorem wp_var4 {o0 o1 o2 o3 : Option Da} {d : Da} {r : Sl} : Wp (eVar 4 (o0 :: o1 :: o2 :: o3 :: some d :: r)) st post ex ↔ post d st := Iff.rfl
@[simp] theorem wp_var5 {o0 o1 o2 o3 o4 : Option Da} {d : Da} {r : Sl} : Wp (eVar 5 (o0 :: o1 :: o2 :: o3 :: o4 :: some d :: r)) st post ex ↔ post d st := Iff.rfl
@[simp] theorem wp_var6 {o0 o1 o2 o3 o4 o5 : Option Da} {d : Da} {r : Sl} : Wp (eVar 6 (o0 :: o1 :: o2 :: o3 :: o4 :: o5 :: some d :: r)) st post ex ↔ post d st := Iff.rfl
@[simp] theorem wp_var7 {o0 o1 o2 o3 o4 o5 o6 : Option Da} {d : Da} {r : Sl} : Wp (eVar 7 (o0 :: o1 :: o2 :: o3 :: o4 :: o5 :: o6 :: some d :: r)) st post ex ↔ post d st := Iff.rfl
@[simp] theorem wp_var8 {o0 o1 o2 o3 o4 o5 o6 o7 : Option Da} {d : Da} {r : Sl} : Wp (eVar 8 (o0 :: o1 :: o2 :: o3 :: o4 :: o5 :: o6 :: o7 :: some d :: r)) st post ex ↔ post d st := Iff.rfl
@[simp] theorem wp_var9 {o0 o1 o2 o3 o4 o5 o6 o7 o8 : Option Da} {d : Da} {r : Sl} : Wp (eVar 9 (o0 :: o1 :: o2 :: o3 :: o4 :: o5 :: o6 :: o7 :: o8 :: some d :: r)) st post ex ↔ post d st := Iff.rfl
@[simp] theorem wp_var10 {o0 o1 o2 o3 o4 o5 o6 o7 o8 o9 : Option Da} {d : Da} {r : Sl} : Wp (eVar 10 (o0 :: o1 :: o2 :: o3 :: o4 :: o5 :: o6 :: o7 :: o8 :: o9 :: some d :: r)) st post ex ↔ post d st := Iff.rfl
@[simp] theorem wp_c {d : Da} : Wp (eC d ro) st post ex ↔ post d st := Iff.rfl
@[simp] theorem wp_e2 {f : Da → Da → Mo Da} : Wp (e2 f a b ro) st post ex ↔ Wp (a ro) st (fun x s1 => Wp (b ro) s1 (fun y s2 => Wp (f x y) s2 post ex) ex) ex := by unfold e2; simp only [wp_bnd]
@[simp] theorem wp_e1 {f : Da → Mo Da} : Wp (e1 f a ro) st post ex ↔ Wp (a ro) st (fun x s1 => Wp (f x) s1 post ex) ex := by unfold e1; simp only [wp_bnd]
@[simp] theorem wp_toB {k : Bool} : Wp (toB (.bl k)) st postB ex ↔ postB k st := Iff.rfl
@[simp] theorem wp_tst : Wp (tst a ro) st postB ex ↔ Wp (a ro) st (fun x s1 => Wp (toB x) s1 postB ex) ex := by unfold tst; simp only [wp_bnd]
@[simp] theorem wp_and : Wp (tAnd_ p q ro) st postB ex ↔ Wp (p ro) st (fun x s1 => if x = true then Wp (q ro) s1 postB ex else postB false s1) ex := by unfold tAnd_; simp only [wp_bnd, wp_ite, wp_ret]
@[simp] theorem wp_or : Wp (tOr_ p q ro) st postB ex ↔ Wp (p ro) st (fun x s1 => if x = true then postB true s1 else Wp (q ro) s1 postB ex) ex := by unfold tOr_; simp only [wp_bnd, wp_ite, wp_ret]
@[simp] theorem wp_not : Wp (tNot_ p ro) st postB ex ↔ Wp (p ro) st (fun x s1 => postB (!x) s1) ex := by unfold tNot_; simp only [wp_bnd, wp_ret]
@[simp] theorem wp_vAnd : Wp (vAnd a b ro) st post ex ↔ Wp (tst a ro) st (fun x s1 => if x = true then Wp (b ro) s1 post ex else post (.bl false) s1) ex := by unfold vAnd; simp only [wp_bnd, wp_ite, wp_ret]
@[simp] theorem wp_vOr : Wp (vOr a b ro) st post ex ↔ Wp (tst a ro) st (fun x s1 => if x = true then post (.bl true) s1 else Wp (b ro) s1 post ex) ex := by unfold vOr; simp only [wp_bnd, wp_ite, wp_ret]
@[simp] theorem wp_vNot : Wp (vNot a ro) st post ex ↔ Wp (tst a ro) st (fun x s1 => post (.bl (!x)) s1) ex := by unfold vNot; simp only [wp_bnd, wp_ret]
@[simp] theorem wp_eIf : Wp (eIf p a b ro) st post ex ↔ Wp (p ro) st (fun x s1 => if x = true then Wp (a ro) s1 post ex else Wp (b ro) s1 post ex) ex := by unfold eIf; simp only [wp_bnd, wp_ite]
@[simp] theorem wp_aNil : Wp (aNil ro) st postL ex ↔ postL [] st := Iff.rfl
@[simp] theorem wp_aCons : Wp (aCons a al ro) st postL ex ↔ Wp (a ro) st (fun x s1 => Wp (al ro) s1 (fun xs s2 => postL (x :: xs) s2) ex) ex := by unfold aCons; simp only [wp_bnd, wp_ret]
@[simp] theorem wp_eTup : Wp (eTup al ro) st post ex ↔ Wp (al ro) st (fun xs s1 => if xs.length ≤ 1000 then post (.tup xs) s1 else False) ex := by unfold eTup; simp only [wp_bnd, wp_ite, wp_ret, wp_nop]
@[simp] theorem wp_lDisp : Wp (lDisp al ro) st postL ex ↔ Wp (al ro) st (fun xs s1 => if xs.length ≤ 1000 then postL xs s1 else False) ex := by unfold lDisp; simp only [wp_bnd, wp_ite, wp_ret, wp_nop]
@[simp] theorem wp_eL : Wp (eL al ro) st post ex ↔ Wp (al ro) st (fun xs s1 => post (.lst xs) s1) ex := by unfold eL; simp only [wp_bnd, wp_ret]
theorem wp_H1 {xs : List Da} {post : Da → Store → Prop} : Wp (fun st => Res.ok (Da.han st.length) (st ++ [Cell.lst xs])) st post ex ↔ post (.han st.length) (st ++ [.lst xs]) := Iff.rfl
@[simp] theorem wp_eH : Wp (eH al ro) st post ex ↔ Wp (al ro) st (fun xs s1 => post (.han s1.length) (s1 ++ [.lst xs])) ex := by unfold eH; simp only [wp_bnd, wp_H1]
@[simp] theorem wp_eF : Wp (eF a ro) st post ex ↔ Wp (a ro) st (fun x s1 => Wp (fz x) s1 post ex) ex := by unfold eF; simp only [wp_bnd]
@[simp] theorem wp_eCall {f : List Da → Mo Da} : Wp (eCall f al ro) st post ex ↔ Wp (al ro) st (fun xs s1 => Wp (f xs) s1 post ex) ex := by unfold eCall; simp only [wp_bnd]
@[simp] theorem wp_lCall {f : List Da → Mo (List Da)} : Wp (lCall f al ro) st postL ex ↔ Wp (al ro) st (fun xs s1 => Wp (f xs) s1 postL ex) ex := by unfold lCall; simp only [wp_bnd]
@[simp] theorem wp_l2 {f : Da → Da → Mo (List Da)} : Wp (l2 f a b ro) st postL ex ↔ Wp (a ro) st (fun x s1 => Wp (b ro) s1 (fun y s2 => Wp (f x y) s2 postL ex) ex) ex := by unfold l2; simp only [wp_bnd]
@[simp] theorem wp_chain {f g : Da → Da → Mo Da} : Wp (eChain f g a b c ro) st post ex ↔ Wp (a ro) st (fun x s1 => Wp (b ro) s1 (fun y s2 => Wp (f x y) s2 (fun z s3 => Wp (toB z) s3 (fun k s4 => if k = true then Wp (c ro) s4 (fun z s5 => Wp (g y z) s5 post ex) ex else post (.bl false) s4) ex) ex) ex) ex := by
  unfold eChain; simp only [wp_bnd, wp_ite, wp_ret]
@[simp] theorem wp_ar {n : Nat} {f : List Da → Mo A} {ds : List Da} {post : A → Store → Prop} : Wp (ar n f ds) st post ex ↔ if ds.length = n then Wp (f ds) st post ex else False := by
  unfold ar; simp only [wp_ite, wp_nop]
@[simp] theorem wp_one {f : Da → Mo A} {d : Da} {post : A → Store → Prop} : Wp (one f [d]) st post ex ↔ Wp (f d) st post ex := Iff.rfl
@[simp] theorem wp_two {f : Da → Da → Mo A} {d e : Da} {post : A → Store → Prop} : Wp (two f [d, e]) st post ex ↔ Wp (f d e) st post ex := Iff.rfl
@[simp] theorem wp_add_i {i j : Int} : Wp (addD (.int i) (.int j)) st post ex ↔ post (.int (i + j)) st := Iff.rfl
@[simp] theorem wp_sub_i {i j : Int} : Wp (subD (.int i) (.int j)) st post ex ↔ post (.int (i - j)) st := Iff.rfl
@[simp] theorem wp_mul_i {i j : Int} : Wp (mulD (.int i) (.int j)) st post ex ↔ if CMul i j then post (.int (i * j)) st else False := by unfold mulD; simp only [wp_ite, wp_ret, wp_nop]
@[simp] theorem wp_fdiv_i {i j : Int} : Wp (fdivD (.int i) (.int j)) st post ex ↔ if CDivN i j then post (.int (i.fdiv j)) st else False := by unfold fdivD; simp only [wp_ite, wp_ret, wp_nop]
@[simp] theorem wp_mod_i {i j : Int} : Wp (modD (.int i) (.int j)) st post ex ↔ if j ≠ 0 then post (.int (i.fmod j)) st else False := by unfold modD; simp only [wp_ite, wp_ret, wp_nop]
@[simp] theorem wp_pow_i {i j : Int} : Wp (powD (.int i) (.int j)) st post ex ↔ if CPow i j then post (.int (i ^ j.toNat)) st else False := by unfold powD; simp only [wp_ite, wp_ret, wp_nop]
@[simp] theorem wp_lt_i {i j : Int} : Wp (ltD (.int i) (.int j)) st post ex ↔ post (.bl (decide (i < j))) st := Iff.rfl
@[simp] theorem wp_le_i {i j : Int} : Wp (leD (.int i) (.int j)) st post ex ↔ post (.bl (decide (i ≤ j))) st := Iff.rfl
@[simp] theorem wp_gt_i {i j : Int} : Wp (gtD (.int i) (.int j)) st post ex ↔ post (.bl (decide (j < i))) st := Iff.rfl
@[simp] theorem wp_ge_i {i j : Int} : Wp (geD (.int i) (.int j)) st post ex ↔ post (.bl (decide (j ≤ i))) st := Iff.rfl
@[simp] theorem wp_neg_i {i : Int} : Wp (negD (.int i)) st post ex ↔ post (.int (-i)) st := Iff.rfl
@[simp] theorem wp_max_i {i j : Int} : Wp (maxD (.int i) (.int j)) st post ex ↔ post (.int (if j > i then j else i)) st := Iff.rfl
@[simp] theorem wp_min_i {i j : Int} : Wp (minD (.int i) (.int j)) st post ex ↔ post (.int (if j < i then j else i)) st := Iff.rfl
@[simp] theorem wp_isT_i {t : Tn} {i : Int} : Wp (isT t (.int i)) st post ex ↔ post (.bl (isTn .int t)) st := Iff.rfl
@[simp] theorem wp_isT_b {t : Tn} {i : Bool} : Wp (isT t (.bl i)) st post ex ↔ post (.bl (isTn .bool t)) st := Iff.rfl
@[simp] theorem wp_isT_s {t : Tn} {i : Str} : Wp (isT t (.str i)) st post ex ↔ post (.bl (isTn .str t)) st := Iff.rfl
@[simp] theorem wp_isT_n {t : Tn} : Wp (isT t .non) st post ex ↔ post (.bl (isTn .non t)) st := Iff.rfl
@[simp] theorem wp_isT_t {t : Tn} {xs : List Da} : Wp (isT t (.tup xs)) st post ex ↔ post (.bl (isTn .tuple t)) st := Iff.rfl
@[simp] theorem wp_isT_l {t : Tn} {xs : List Da} : Wp (isT t (.lst xs)) st post ex ↔ post (.bl (isTn .list t)) st := Iff.rfl
@[simp] theorem wp_is_non {b : Bool} : Wp (isB b .non .non) st post ex ↔ post (.bl (if b then false else true)) st := by cases b <;> exact Iff.rfl
@[simp] theorem wp_is_int {b : Bool} {i : Int} : Wp (isB b (.int i) .non) st post ex ↔ post (.bl (if b then true else false)) st := by cases b <;> exact Iff.rfl
@[simp] theorem wp_is_tup {b : Bool} {i : List Da} : Wp (isB b (.tup i) .non) st post ex ↔ post (.bl (if b then true else false)) st := by cases b <;> exact Iff.rfl
@[simp] theorem wp_is_lst {b : Bool} {i : List Da} : Wp (isB b (.lst i) .non) st post ex ↔ post (.bl (if b then true else false)) st := by cases b <;> exact Iff.rfl
@[simp] theorem wp_is_bl {b x y : Bool} : Wp (isB b (.bl x) (.bl y)) st post ex ↔ post (.bl (if b then !decide (x = y) else decide (x = y))) st := Iff.rfl
@[simp] theorem wp_len_l {xs : List Da} : Wp (lenD (.lst xs)) st post ex ↔ post (.int xs.length) st := Iff.rfl
@[simp] theorem wp_len_t {xs : List Da} : Wp (lenD (.tup xs)) st post ex ↔ post (.int xs.length) st := Iff.rfl
theorem wp_ix {d x : Da} {xs : List Da} {i : Int} (hf : ∀ ys, d ≠ .fro ys) (h : sqOf st d = some xs) (hx : atI xs i = some x) : Wp (ixD d (.int i)) st post ex ↔ post x st := by
  unfold Wp ixD
  cases d with
  | fro ys => exact absurd rfl (hf ys)
  | str s => cases h
  | non => cases h
  | bl b => cases h
  | int i => cases h
  | tup ys => dsimp only; rw [h]; dsimp only; rw [hx]
  | lst ys => dsimp only; rw [h]; dsimp only; rw [hx]
  | han n => dsimp only; rw [h]; dsimp only; rw [hx]
theorem wp_ix_t {x : Da} {xs : List Da} {i : Int} (hx : atI xs i = some x) : Wp (ixD (.tup xs) (.int i)) st post ex ↔ post x st := wp_ix (fun _ z => nomatch z) rfl hx
theorem wp_ix_l {x : Da} {xs : List Da} {i : Int} (hx : atI xs i = some x) : Wp (ixD (.lst xs) (.int i)) st post ex ↔ post x st := wp_ix (fun _ z => nomatch z) rfl hx
@[simp] theorem wp_ix_t0 {x0 : Da} {r : List Da} : Wp (ixD (.tup (x0 :: r)) (.int 0)) st post ex ↔ post x0 st := wp_ix_t (atI_nat (j := 0) rfl)
@[simp] theorem wp_ix_t1 {x0 x1 : Da} {r : List Da} : Wp (ixD (.tup (x0 :: x1 :: r)) (.int 1)) st post ex ↔ post x1 st := wp_ix_t (atI_nat (j := 1) rfl)
@[simp] theorem wp_ix_t2 {x0 x1 x2 : Da} {r : List Da} : Wp (ixD (.tup (x0 :: x1 :: x2 :: r)) (.int 2)) st post ex ↔ post x2 st := wp_ix_t (atI_nat (j := 2) rfl)
@[simp] theorem wp_ix_t3 {x0 x1 x2 x3 : Da} {r : List Da} : Wp (ixD (.tup (x0 :: x1 :: x2 :: x3 :: r)) (.int 3)) st post ex ↔ post x3 st := wp_ix_t (atI_nat (j := 3) rfl)
@[simp] theorem wp_ix_l0 {x0 : Da} {r : List Da} : Wp (ixD (.lst (x0 :: r)) (.int 0)) st post ex ↔ post x0 st := wp_ix_l (atI_nat (j := 0) rfl)
@[simp] theorem wp_list_l {xs : List Da} : Wp (listD (.lst xs)) st postL ex ↔ postL xs st := Iff.rfl
@[simp] theorem wp_list_t {xs : List Da} : Wp (listD (.tup xs)) st postL ex ↔ postL xs st := Iff.rfl
@[simp] theorem wp_list_f {xs : List Da} : Wp (listD (.fro xs)) st postL ex ↔ postL xs st := Iff.rfl
@[simp] theorem wp_tuple_l {xs : List Da} : Wp (tupleD (.lst xs)) st post ex ↔ post (.tup xs) st := Iff.rfl
@[simp] theorem wp_catL_l {xs ys : List Da} : Wp (catL (.lst xs) (.lst ys)) st postL ex ↔ if xs.length + ys.length ≤ 1000000 then postL (xs ++ ys) st else False := by
  unfold Wp catL lsOf
  dsimp only
  by_cases h : xs.length + ys.length ≤ szD
  · rw [if_pos h, if_pos h]
  · rw [if_neg h, if_neg h]
theorem blsOf_map (bs : List Bool) : blsOf (bs.map Da.bl) = some bs := by
  induction bs with
  | nil => rfl
  | cons b r ih => show (blsOf (r.map Da.bl)).map (b :: ·) = _; rw [ih]; rfl
theorem wp_all {xs : List Da} {bs : List Bool} (h : xs = bs.map Da.bl) : Wp (allD (.lst xs)) st post ex ↔ post (.bl (bs.all id)) st := by
  unfold Wp allD lsOf; dsimp only; rw [h, blsOf_map]
@[simp] theorem wp_all1 {x : Bool} : Wp (allD (.lst [.bl x])) st post ex ↔ post (.bl x) st := (wp_all (xs := [.bl x]) (bs := [x]) rfl).trans (by simp)
@[simp] theorem wp_all2 {x y : Bool} : Wp (allD (.lst [.bl x, .bl y])) st post ex ↔ post (.bl (x && y)) st := (wp_all (xs := [.bl x, .bl y]) (bs := [x, y]) rfl).trans (by simp)
@[simp] theorem wp_eApp : Wp (eApp a b ro) st post ex ↔ Wp (a ro) st (fun d s1 => Wp (isLs d) s1 (fun _ s2 => Wp (b ro) s2 (fun x s3 => Wp (appD d x) s3 post ex) ex) ex) ex := by unfold eApp; simp only [wp_bnd]
@[simp] theorem wp_ePopAt : Wp (ePopAt a b ro) st post ex ↔ Wp (a ro) st (fun d s1 => Wp (isLs d) s1 (fun _ s2 => Wp (b ro) s2 (fun x s3 => Wp (popAtD d x) s3 post ex) ex) ex) ex := by unfold ePopAt; simp only [wp_bnd]
@[simp] theorem wp_ePop : Wp (ePop a ro) st post ex ↔ Wp (a ro) st (fun d s1 => Wp (isLs d) s1 (fun _ s2 => Wp (popD d) s2 post ex) ex) ex := by unfold ePop; simp only [wp_bnd]
@[simp] theorem wp_mSetSl {lo hi : Sl → Mo (Option Int)} : Wp (mSetSl a b lo hi ro) st postF ex ↔ Wp (a ro) st (fun x s1 => Wp (b ro) s1 (fun d s2 => Wp (lo ro) s2 (fun l s3 => Wp (hi ro) s3 (fun h s4 => Wp (setSlD d l h x) s4 (fun _ s5 => postF (.nx ro) s5) ex) ex) ex) ex) ex := by unfold mSetSl; simp only [wp_bnd, wp_ret]
variable {m n : Sl → Mo Fl}
@[simp] theorem wp_mNil : Wp (mNil ro) st postF ex ↔ postF (.nx ro) st := Iff.rfl
def seqK (n : Sl → Mo Fl) (postF : Fl → Store → Prop) (ex : Str → List Da → Store → Prop) (f : Fl) (st : Store) : Prop := match f with
  | .nx ro => Wp (n ro) st postF ex
  | .rt d => postF (.rt d) st
  | .bk ro => postF (.bk ro) st
  | .ct ro => postF (.ct ro) st
@[simp] theorem seqK_nx : seqK n postF ex (.nx ro) st ↔ Wp (n ro) st postF ex := Iff.rfl
@[simp] theorem seqK_rt {d : Da} : seqK n postF ex (.rt d) st ↔ postF (.rt d) st := Iff.rfl
@[simp] theorem seqK_bk : seqK n postF ex (.bk ro) st ↔ postF (.bk ro) st := Iff.rfl
@[simp] theorem seqK_ct : seqK n postF ex (.ct ro) st ↔ postF (.ct ro) st := Iff.rfl
@[simp] theorem wp_mSeq : Wp (mSeq m n ro) st postF ex ↔ Wp (m ro) st (seqK n postF ex) ex := by
  unfold mSeq
  rw [wp_bnd]
  exact Wp.congr fun f s => by cases f <;> exact Iff.rfl
@[simp] theorem wp_mSet {i : Nat} : Wp (mSet i a ro) st postF ex ↔ Wp (a ro) st (fun d s1 => postF (.nx (ro.set i (some d))) s1) ex := by unfold mSet; simp only [wp_bnd, wp_ret]
@[simp] theorem wp_mTgt {t : Tg} : Wp (mTgt t a ro) st postF ex ↔ Wp (a ro) st (fun d s1 => ∃ ro', t d ro = some ro' ∧ postF (.nx ro') s1) ex := by
  unfold mTgt
  rw [wp_bnd]
  refine Wp.congr fun d s => ?_
  cases q : t d ro with
  | none => simp
  | some r => simp
def parK (i j : Nat) (ro : Sl) (postF : Fl → Store → Prop) (ds : List Da) (st : Store) : Prop := match ds with
  | [d, e] => postF (.nx ((ro.set i (some d)).set j (some e))) st
  | _ => False
@[simp] theorem parK_two {i j : Nat} {d e : Da} : parK i j ro postF [d, e] st ↔ postF (.nx ((ro.set i (some d)).set j (some e))) st := Iff.rfl
@[simp] theorem wp_mPar {i j : Nat} : Wp (mPar i j al ro) st postF ex ↔ Wp (al ro) st (parK i j ro postF) ex := by
  unfold mPar
  rw [wp_bnd]
  refine Wp.congr fun ds s => ?_
  match ds with
  | [] => exact Iff.rfl
  | [d] => exact Iff.rfl
  | [d, e] => exact Iff.rfl
  | d :: e :: f :: r => exact Iff.rfl
@[simp] theorem wp_mRet : Wp (mRet a ro) st postF ex ↔ Wp (a ro) st (fun d s1 => postF (.rt d) s1) ex := by unfold mRet; simp only [wp_bnd, wp_ret]
@[simp] theorem wp_mRetN : Wp (mRetN ro) st postF ex ↔ postF (.rt .non) st := Iff.rfl
@[simp] theorem wp_mExpr : Wp (mExpr a ro) st postF ex ↔ Wp (a ro) st (fun d s1 => postF (.nx ro) s1) ex := by unfold mExpr; simp only [wp_bnd, wp_ret]
@[simp] theorem wp_mIf : Wp (mIf p m n ro) st postF ex ↔ Wp (p ro) st (fun x s1 => if x = true then Wp (m ro) s1 postF ex else Wp (n ro) s1 postF ex) ex := by unfold mIf; simp only [wp_bnd, wp_ite]
@[simp] theorem wp_mBrk : Wp (mBrk ro) st postF ex ↔ postF (.bk ro) st := Iff.rfl
@[simp] theorem wp_mNever : Wp (mNever ro) st postF ex ↔ False := Iff.rfl
@[simp] theorem wp_mSetI : Wp (mSetI a b c ro) st postF ex ↔ Wp (a ro) st (fun x s1 => Wp (b ro) s1 (fun d s2 => Wp (c ro) s2 (fun k s3 => Wp (setD d k x) s3 (fun _ s4 => postF (.nx ro) s4) ex) ex) ex) ex := by unfold mSetI; simp only [wp_bnd, wp_ret]
def fnK (post : Da → Store → Prop) (f : Fl) (st : Store) : Prop := match f with
  | .nx _ => post .non st
  | .rt d => post d st
  | _ => False
@[simp] theorem fnK_nx : fnK post (.nx ro) st ↔ post .non st := Iff.rfl
@[simp] theorem fnK_rt {d : Da} : fnK post (.rt d) st ↔ post d st := Iff.rfl
@[simp] theorem wp_fnM {k : Nat} {ds : List Da} : Wp (fnM k m ds) st post ex ↔ Wp (m (startS k ds)) st (fnK post) ex := by
  unfold fnM
  rw [wp_bnd]
  exact Wp.congr fun f s => by cases f <;> exact Iff.rfl
def loopP (I : Sl → Store → Prop) (postF : Fl → Store → Prop) (f : Fl) (st : Store) : Prop := match f with
  | .nx ro => I ro st
  | .ct ro => I ro st
  | .bk ro => postF (.nx ro) st
  | .rt d => postF (.rt d) st
@[simp] theorem loopP_nx {I : Sl → Store → Prop} : loopP I postF (.nx ro) st ↔ I ro st := Iff.rfl
@[simp] theorem loopP_ct {I : Sl → Store → Prop} : loopP I postF (.ct ro) st ↔ I ro st := Iff.rfl
@[simp] theorem loopP_bk {I : Sl → Store → Prop} : loopP I postF (.bk ro) st ↔ postF (.nx ro) st := Iff.rfl
@[simp] theorem loopP_rt {I : Sl → Store → Prop} {d : Da} : loopP I postF (.rt d) st ↔ postF (.rt d) st := Iff.rfl
@[simp] theorem wp_comp_nil {all : List Da} {t : Tg} {p : Sl → Mo Bool} {e : Sl → Mo Da} {acc : List Da} : Wp (compGo none all t p e ro [] acc) st postL ex ↔ postL acc st := Iff.rfl
@[simp] theorem wp_comp_cons {all : List Da} {t : Tg} {p : Sl → Mo Bool} {e : Sl → Mo Da} {acc r : List Da} {x : Da} : Wp (compGo none all t p e ro (x :: r) acc) st postL ex ↔ ∃ ro1, t x ro = some ro1 ∧ Wp (p ro1) st (fun c s1 => if c = true then Wp (e ro1) s1 (fun y s2 => if acc.length < 1000000 then Wp (compGo none all t p e ro r (acc ++ [y])) s2 postL ex else False) noEx else Wp (compGo none all t p e ro r acc) s1 postL ex) noEx := by
  cases q : t x ro with
  | none =>
    refine ⟨fun h => ?_, fun ⟨_, h, _⟩ => nomatch h⟩
    have h' : Wp (fun st => if chk none all st = true then (match t x ro with | some ro1 => bnd (noX (p ro1)) (fun c => if c = true then bnd (noX (e ro1)) (fun y => if acc.length < szD then compGo none all t p e ro r (acc ++ [y]) else nop) else compGo none all t p e ro r acc) st | none => .bad) else .bad) st postL ex := h
    rw [q] at h'
    exact h'.elim
  | some ro1 =>
    have hh : Wp (compGo none all t p e ro (x :: r) acc) st postL ex ↔ Wp (fun st => if chk none all st = true then (match t x ro with | some ro1 => bnd (noX (p ro1)) (fun c => if c = true then bnd (noX (e ro1)) (fun y => if acc.length < szD then compGo none all t p e ro r (acc ++ [y]) else nop) else compGo none all t p e ro r acc) st | none => .bad) else .bad) st postL ex := Iff.rfl
    rw [hh, q]
    have hk : Wp (fun st => if chk none all st = true then (match some ro1 with | some ro1 => bnd (noX (p ro1)) (fun c => if c = true then bnd (noX (e ro1)) (fun y => if acc.length < szD then compGo none all t p e ro r (acc ++ [y]) else nop) else compGo none all t p e ro r acc) st | none => .bad) else .bad) st postL ex ↔ Wp (bnd (noX (p ro1)) (fun c => if c = true then bnd (noX (e ro1)) (fun y => if acc.length < szD then compGo none all t p e ro r (acc ++ [y]) else nop) else compGo none all t p e ro r acc)) st postL ex := Iff.rfl
    rw [hk]
    simp only [wp_bnd, wp_noX, wp_ite, wp_nop, Option.some.injEq, exists_eq_left']
@[simp] theorem wp_for_nil {all : List Da} {t : Tg} {body : Sl → Mo Fl} : Wp (forGo none all t body [] ro) st postF ex ↔ postF (.nx ro) st := Iff.rfl
@[simp] theorem wipe_nil : wipeS ro [] = ro := rfl
@[simp] theorem wipe_cons {v : Nat} {vs : List Nat} : wipeS ro (v :: vs) = (wipeS ro vs).set v none := rfl
@[simp] theorem cut_to2 {x y : Da} {r : List Da} : cutD (x :: y :: r) none (some 2) = [x, y] := by
  unfold cutD
  show List.take (min 2 (r.length + 1 + 1) - 0) (x :: y :: r) = [x, y]
  rw [show min 2 (r.length + 1 + 1) - 0 = 2 by omega]
  rfl
variable {postS : Src → Store → Prop}
@[simp] theorem wp_iV : Wp (iV a ro) st postS ex ↔ Wp (a ro) st (fun d s1 => Wp (srcV d) s1 postS ex) ex := by unfold iV; rw [wp_bnd]
@[simp] theorem wp_srcV_l {xs : List Da} : Wp (srcV (.lst xs)) st postS ex ↔ postS ⟨xs, none⟩ st := Iff.rfl
@[simp] theorem wp_srcV_t {xs : List Da} : Wp (srcV (.tup xs)) st postS ex ↔ postS ⟨xs, none⟩ st := Iff.rfl
@[simp] theorem wp_iR1 : Wp (iR1 al ro) st postS ex ↔ Wp (al ro) st (fun d s1 => Wp (srcR1 d) s1 postS ex) ex := by unfold iR1; rw [wp_bnd]
@[simp] theorem wp_iR2 : Wp (iR2 al ro) st postS ex ↔ Wp (al ro) st (fun d s1 => Wp (srcR2 d) s1 postS ex) ex := by unfold iR2; rw [wp_bnd]
@[simp] theorem wp_srcR1 {j : Int} : Wp (srcR1 [.int j]) st postS ex ↔ if big j then postS ⟨rngL 0 j.toNat, none⟩ st else False := by unfold srcR1; simp only [wp_ite, wp_ret, wp_nop]
@[simp] theorem wp_srcR2 {i j : Int} : Wp (srcR2 [.int i, .int j]) st postS ex ↔ if big i ∧ big j then postS ⟨rngL i (j - i).toNat, none⟩ st else False := by unfold srcR2; simp only [wp_ite, wp_ret, wp_nop]
@[simp] theorem wp_yes : Wp (tYes_ ro) st postB ex ↔ postB true st := Iff.rfl
@[simp] theorem gN_eq {i : Nat} {d : Da} : gN i d ro = some (ro.set i (some d)) := rfl
@[simp] theorem gsN_eq : gsN [] ro = some ro := rfl
@[simp] theorem gsC_eq {t : Tg} {u : Tgs} {d : Da} {r : List Da} : gsC t u (d :: r) ro = (t d ro).bind fun ro1 => u r ro1 := rfl
@[simp] theorem gT_eq {k : Nat} {t : Tgs} {xs : List Da} : gT k t (.tup xs) ro = if xs.length = k then t xs ro else none := rfl
variable {postP : Option Int → Store → Prop}
@[simp] theorem wp_noP : Wp (noP ro) st postP ex ↔ postP none st := Iff.rfl
@[simp] theorem wp_soP : Wp (soP a ro) st postP ex ↔ Wp (a ro) st (fun d s1 => ∃ i, d = .int i ∧ postP (some i) s1) ex := by
  unfold soP
  rw [wp_bnd]
  refine Wp.congr fun d s => ?_
  cases d <;> simp
@[simp] theorem wp_eSl {f : Da → Option Int → Option Int → Mo Da} {lo hi : Sl → Mo (Option Int)} : Wp (eSl f a lo hi ro) st post ex ↔ Wp (a ro) st (fun d s1 => Wp (lo ro) s1 (fun l s2 => Wp (hi ro) s2 (fun h s3 => Wp (f d l h) s3 post ex) ex) ex) ex := by unfold eSl; simp only [wp_bnd]
@[simp] theorem wp_slA_t {xs : List Da} {lo hi : Option Int} : Wp (slA (.tup xs) lo hi) st post ex ↔ post (.tup (cutD xs lo hi)) st := Iff.rfl
@[simp] theorem wp_slA_l {xs : List Da} {lo hi : Option Int} : Wp (slA (.lst xs) lo hi) st post ex ↔ post (.lst (cutD xs lo hi)) st := Iff.rfl
end
theorem wp_eqB {neg : Bool} {d e : Da} {p q : PyData} {st : Store} {ex : Str → List Da → Store → Prop} {post : Da → Store → Prop} (h1 : pyD st d = some p) (h2 : pyD st e = some q) (s1 : SeqAt.shaped p = true) (s2 : SeqAt.shaped q = true) :
    Wp (eqB neg d e) st post ex ↔ post (.bl (if neg then !PyData.eqv p q else PyData.eqv p q)) st := by
  unfold Wp eqB
  rw [h1, h2]
  dsimp only
  rw [if_pos (by rw [s1, s2]; rfl)]
end CL
namespace CL
open PySem L2
mutual
def toPy : Da → PyData
  | .non => .none
  | .bl b => .bool b
  | .int i => .int i
  | .str s => .str s
  | .tup xs => .tuple (toPyL xs)
  | .lst xs => .list (toPyL xs)
  | .fro xs => .list (toPyL xs)
  | .han _ => .none
def toPyL : List Da → List PyData
  | [] => []
  | x :: xs => toPy x :: toPyL xs
end
mutual
def pl : Nat → Da → Bool
  | _, .non => true
  | _, .bl _ => true
  | _, .int _ => true
  | _, .str s => PyData.strOk s
  | 0, .tup _ => false
  | n + 1, .tup xs => plL n xs
  | 0, .lst _ => false
  | n + 1, .lst xs => plL n xs
  | 0, .fro _ => false
  | n + 1, .fro xs => plL n xs
  | _, .han _ => false
def plL : Nat → List Da → Bool
  | _, [] => true
  | n, x :: xs => pl n x && plL n xs
end
section
variable {hf : Nat → Option PyData}
mutual
theorem pl_py : ∀ (n : Nat) (d : Da), pl n d = true → pyW hf d = some (toPy d) ∧ (toPy d).canLay0 = true ∧ (toPy d).depth ≤ n
  | n, .non, h => by simp [pyW, toPy, PyData.canLay0, PyData.depth]
  | n, .bl b, h => by simp [pyW, toPy, PyData.canLay0, PyData.depth]
  | n, .int i, h => by simp [pyW, toPy, PyData.canLay0, PyData.depth]
  | n, .str s, h => by
    have h' : PyData.strOk s = true := by simpa [pl] using h
    simp [pyW, toPy, PyData.canLay0, PyData.depth, h']
  | 0, .tup xs, h => by simp [pl] at h
  | n + 1, .tup xs, h => by
    obtain ⟨h1, h2, h3⟩ := plL_py n xs (by simpa [pl] using h)
    simp [pyW, toPy, PyData.canLay0, PyData.depth, h1, h2, h3]
  | 0, .lst xs, h => by simp [pl] at h
  | n + 1, .lst xs, h => by
    obtain ⟨h1, h2, h3⟩ := plL_py n xs (by simpa [pl] using h)
    simp [pyW, toPy, PyData.canLay0, PyData.depth, h1, h2, h3]
  | 0, .fro xs, h => by simp [pl] at h
  | n + 1, .fro xs, h => by
    obtain ⟨h1, h2, h3⟩ := plL_py n xs (by simpa [pl] using h)
    simp [pyW, toPy, PyData.canLay0, PyData.depth, h1, h2, h3]
  | n, .han k, h => by simp [pl] at h
theorem plL_py : ∀ (n : Nat) (ds : List Da), plL n ds = true → pyWL hf ds = some (toPyL ds) ∧ PyData.canLayAll0 (toPyL ds) = true ∧ PyData.depthAll (toPyL ds) ≤ n
  | n, [], h => by simp [pyWL, toPyL, PyData.canLayAll0, PyData.depthAll]
  | n, x :: xs, h => by
    have h' : pl n x = true ∧ plL n xs = true := by simpa [plL] using h
    obtain ⟨a1, a2, a3⟩ := pl_py n x h'.1
    obtain ⟨b1, b2, b3⟩ := plL_py n xs h'.2
    simp only [pyWL, toPyL, PyData.canLayAll0, PyData.depthAll, a1, a2, b1, b2]
    refine ⟨trivial, rfl, ?_⟩
    omega
end
end
/-- how two data compare -/
def deq (d e : Da) : Bool := PyData.eqv (toPy d) (toPy e)
def deqL (d e : List Da) : Bool := PyData.eqvAll (toPyL d) (toPyL e)
structure PyIs (st : Store) (d : Da) (p : PyData) : Prop where
  py : pyD st d = some p
  sh : SeqAt.shaped p = true
theorem pl_is {st : Store} {d : Da} {n : Nat} (hn : n ≤ 64) (h : pl n d = true) : PyIs st d (toPy d) := by
  obtain ⟨h1, h2, h3⟩ := pl_py (hf := hfOf st) n d h
  refine ⟨h1, ?_⟩
  unfold SeqAt.shaped
  rw [h2, decide_eq_true (by omega)]
  rfl
section
variable {st : Store} {ex : Str → List Da → Store → Prop} {post : Da → Store → Prop}
theorem wp_eqI {neg : Bool} {d e : Da} {p q : PyData} (h1 : PyIs st d p) (h2 : PyIs st e q) : Wp (eqB neg d e) st post ex ↔ post (.bl (if neg then !PyData.eqv p q else PyData.eqv p q)) st := wp_eqB h1.py h2.py h1.sh h2.sh
theorem wp_eq {d e : Da} (h1 : pl 60 d = true) (h2 : pl 60 e = true) : Wp (eqB false d e) st post ex ↔ post (.bl (deq d e)) st := wp_eqI (pl_is (by decide) h1) (pl_is (by decide) h2)
theorem wp_ne {d e : Da} (h1 : pl 60 d = true) (h2 : pl 60 e = true) : Wp (eqB true d e) st post ex ↔ post (.bl (!deq d e)) st := wp_eqI (pl_is (by decide) h1) (pl_is (by decide) h2)
@[simp] theorem wp_eq_i {i j : Int} : Wp (eqB false (.int i) (.int j)) st post ex ↔ post (.bl (decide (i = j))) st := by
  rw [wp_eq (by simp [pl]) (by simp [pl])]
  simp [deq, toPy, PyData.eqv, BEq.beq]
@[simp] theorem wp_ne_i {i j : Int} : Wp (eqB true (.int i) (.int j)) st post ex ↔ post (.bl (!decide (i = j))) st := by
  rw [wp_ne (by simp [pl]) (by simp [pl])]
  simp [deq, toPy, PyData.eqv, BEq.beq]
end
@[simp] theorem deq_int {i j : Int} : deq (.int i) (.int j) = decide (i = j) := by simp [deq, toPy, PyData.eqv, BEq.beq]
@[simp] theorem deq_non_int {j : Int} : deq .non (.int j) = false := by simp [deq, toPy, PyData.eqv]
@[simp] theorem deq_int_non {j : Int} : deq (.int j) .non = false := by simp [deq, toPy, PyData.eqv]
@[simp] theorem deq_non : deq .non .non = true := by simp [deq, toPy, PyData.eqv]
@[simp] theorem deq_bl {i j : Bool} : deq (.bl i) (.bl j) = (i == j) := by simp [deq, toPy, PyData.eqv]
@[simp] theorem deq_tup {i j : List Da} : deq (.tup i) (.tup j) = deqL i j := by simp [deq, deqL, toPy, PyData.eqv]
@[simp] theorem deq_lst {i j : List Da} : deq (.lst i) (.lst j) = deqL i j := by simp [deq, deqL, toPy, PyData.eqv]
@[simp] theorem deq_fro {i j : List Da} : deq (.fro i) (.lst j) = deqL i j := by simp [deq, deqL, toPy, PyData.eqv]
@[simp] theorem deq_tup_lst {i j : List Da} : deq (.tup i) (.lst j) = false := by simp [deq, toPy, PyData.eqv]
@[simp] theorem deq_lst_tup {i j : List Da} : deq (.lst i) (.tup j) = false := by simp [deq, toPy, PyData.eqv]
@[simp] theorem deqL_nil : deqL [] [] = true := by simp [deqL, toPyL, PyData.eqvAll]
@[simp] theorem deqL_cons {x y : Da} {xs ys : List Da} : deqL (x :: xs) (y :: ys) = (deq x y && deqL xs ys) := by simp [deqL, deq, toPyL, PyData.eqvAll]
@[simp] theorem deqL_nc {y : Da} {ys : List Da} : deqL [] (y :: ys) = false := by simp [deqL, toPyL, PyData.eqvAll]
@[simp] theorem deqL_cn {y : Da} {ys : List Da} : deqL (y :: ys) [] = false := by simp [deqL, toPyL, PyData.eqvAll]
theorem deqL_ne {xs : List Da} : deqL xs [] = decide (xs = []) := by cases xs <;> simp
section
variable {st : Store} {ex : Str → List Da → Store → Prop} {post : Da → Store → Prop}
@[simp] theorem wp_ne_nil : Wp (eqB true (.lst []) (.lst [])) st post ex ↔ post (.bl false) st := by
  rw [wp_ne (by simp [pl, plL]) (by simp [pl, plL])]; simp
@[simp] theorem wp_eq_nil : Wp (eqB false (.lst []) (.lst [])) st post ex ↔ post (.bl true) st := by
  rw [wp_eq (by simp [pl, plL]) (by simp [pl, plL])]; simp
end
theorem plL_ints (n : Nat) : ∀ ns : List Int, plL n (ns.map Da.int) = true
  | [] => by simp [plL]
  | x :: xs => by simp [plL, pl, plL_ints n xs]
end CL
namespace CL
open PySem L2
section
variable {st : Store} {ex : Str → List Da → Store → Prop} {post : Da → Store → Prop} {postF : Fl → Store → Prop} {postS : Src → Store → Prop} {a b : Sl → Mo Da} {al kl : Sl → Mo (List Da)} {ro : Sl} {cs : List Str} {f c m : Str}
@[simp] theorem wp_eFld : Wp (eFld cs f a ro) st post ex ↔ Wp (a ro) st (fun d s1 => Wp (fldD cs f d) s1 post ex) ex := by unfold eFld; simp only [wp_bnd]
@[simp] theorem wp_mFld : Wp (mFld cs f a b ro) st postF ex ↔ Wp (a ro) st (fun x s1 => Wp (b ro) s1 (fun d s2 => Wp (setFD cs f d x) s2 (fun _ s3 => postF (.nx ro) s3) ex) ex) ex := by unfold mFld; simp only [wp_bnd, wp_ret]
@[simp] theorem wp_eMeth {g : List Da → Mo Da} : Wp (eMeth c m g a al ro) st post ex ↔ Wp (a ro) st (fun d s1 => Wp (isIns c m d) s1 (fun _ s2 => Wp (al ro) s2 (fun ds s3 => Wp (g (d :: ds)) s3 post ex) ex) ex) ex := by unfold eMeth; simp only [wp_bnd]
@[simp] theorem wp_eMake {g : List Da → Mo Da} : Wp (eMake c g al ro) st post ex ↔ Wp (al ro) st (fun ds s1 => Wp (makeD c g ds) s1 post ex) ex := by unfold eMake; simp only [wp_bnd]
@[simp] theorem wp_isNon {post : Unit → Store → Prop} : Wp (isNon .non) st post ex ↔ post () st := Iff.rfl
@[simp] theorem wp_iR3 : Wp (iR3 al ro) st postS ex ↔ Wp (al ro) st (fun d s1 => Wp (srcR3 d) s1 postS ex) ex := by unfold iR3; rw [wp_bnd]
@[simp] theorem wp_srcR3 {i j c : Int} : Wp (srcR3 [.int i, .int j, .int c]) st postS ex ↔ if rgOk i j c then postS ⟨rngC i c (rgN i j c), none⟩ st else False := by unfold srcR3; simp only [wp_ite, wp_ret, wp_nop]
end
theorem char_inj {a b : Char} (h : a.toNat = b.toNat) : a = b := by
  apply Char.ext
  apply UInt32.toNat_inj.mp
  exact h
@[simp] theorem str_inj {a b : String} : Str.ofString a = Str.ofString b ↔ a = b := by
  refine ⟨fun h => ?_, fun h => by rw [h]⟩
  rw [Str.ofString_eq_toList, Str.ofString_eq_toList] at h
  have h1 : a.toList.map Char.toNat = b.toList.map Char.toNat := by
    have := congrArg (fun s => s.cps.toList) h
    simpa using this
  have h2 : a.toList = b.toList := by
    have : ∀ x y : List Char, x.map Char.toNat = y.map Char.toNat → x = y := by
      intro x
      induction x with
      | nil => intro y e; cases y with
        | nil => rfl
        | cons c r => simp at e
      | cons c r ih => intro y e; cases y with
        | nil => simp at e
        | cons d s => simp at e; rw [char_inj e.1, ih s e.2]
    exact this _ _ h1
  exact String.toList_inj.mp h2
@[simp] theorem str_beq {a b : String} : (Str.ofString a == Str.ofString b) = (a == b) := by
  by_cases h : a = b
  · subst h; simp
  · rw [beq_eq_false_iff_ne.mpr h, beq_eq_false_iff_ne.mpr fun z => h (str_inj.mp z)]
section
end
end CL
namespace CL
open PySem L2
structure Wq {A : Type} (m : Mo A) (st : Store) (post : A → Store → Prop) (ex : Str → List Da → Store → Prop) : Prop where
  p : Wp m st post ex
def kb {A B : Type} (f : A → Mo B) (post : B → Store → Prop) (ex : Str → List Da → Store → Prop) (a : A) (st : Store) : Prop := Wq (f a) st post ex
section
variable {A B : Type} {st : Store} {ex : Str → List Da → Store → Prop}
theorem wq_iff {m : Mo A} {post : A → Store → Prop} : Wq m st post ex ↔ Wp m st post ex := ⟨fun h => h.p, fun h => ⟨h⟩⟩
@[simp] theorem kb_app {f : A → Mo B} {post : B → Store → Prop} {a : A} : kb f post ex a st ↔ Wq (f a) st post ex := Iff.rfl
@[simp] theorem wq_bnd {m : Mo A} {f : A → Mo B} {post : B → Store → Prop} : Wq (bnd m f) st post ex ↔ Wq m st (kb f post ex) ex := by
  rw [wq_iff, wq_iff, wp_bnd]
  exact Wp.congr fun a s => wq_iff.symm
@[simp] theorem wq_ret {a : A} {post : A → Store → Prop} : Wq (ret a) st post ex ↔ post a st := wq_iff
@[simp] theorem wq_nop {post : A → Store → Prop} : Wq (nop : Mo A) st post ex ↔ False := wq_iff
@[simp] theorem wq_noX {m : Mo A} {post : A → Store → Prop} : Wq (noX m) st post ex ↔ Wq m st post noEx := wq_iff.trans (wp_noX.trans wq_iff.symm)
theorem Wq.mono {m : Mo A} {post post' : A → Store → Prop} (h : Wq m st post ex) (hp : ∀ a st', post a st' → post' a st') : Wq m st post' ex := ⟨Wp.mono h.p hp⟩
theorem Wp.q {m : Mo A} {post : A → Store → Prop} (h : Wp m st post ex) : Wq m st post ex := ⟨h⟩
/-- a spec in the old word, taken at a step -/
theorem Wp.go {m : Mo A} {post post' : A → Store → Prop} (h : Wp m st post noEx) (hp : ∀ a st', post a st' → post' a st') : Wq m st post' ex := ⟨Wp.ofNo h hp⟩
theorem Wq.go {m : Mo A} {post post' : A → Store → Prop} (h : Wq m st post noEx) (hp : ∀ a st', post a st' → post' a st') : Wq m st post' ex := ⟨Wp.ofNo h.p hp⟩
theorem Wq.of {m : Mo A} {post : A → Store → Prop} {a : A} {st' : Store} (h : m st = .ok a st') (hp : post a st') : Wq m st post ex := ⟨Wp.of h hp⟩
@[simp] theorem wq_ar {n : Nat} {f : List Da → Mo A} {ds : List Da} {post : A → Store → Prop} (h : ds.length = n) : Wq (ar n f ds) st post ex ↔ Wq (f ds) st post ex := by
  unfold ar; rw [if_pos h]
@[simp] theorem wq_one {f : Da → Mo A} {d : Da} {post : A → Store → Prop} : Wq (one f [d]) st post ex ↔ Wq (f d) st post ex := wq_iff.trans (wq_iff (m := f d)).symm
@[simp] theorem wq_two {f : Da → Da → Mo A} {d e : Da} {post : A → Store → Prop} : Wq (two f [d, e]) st post ex ↔ Wq (f d e) st post ex := wq_iff.trans (wq_iff (m := f d e)).symm
variable {a b c v o i' : Sl → Mo Da} {p q : Sl → Mo Bool} {al kl : Sl → Mo (List Da)} {ro : Sl} {post : Da → Store → Prop} {postB : Bool → Store → Prop} {postL : List Da → Store → Prop} {postF : Fl → Store → Prop} {postS : Src → Store → Prop} {postU : Unit → Store → Prop} {m n : Sl → Mo Fl}
@[simp] theorem wq_var0 {d : Da} {r : Sl} : Wq (eVar 0 (some d :: r)) st post ex ↔ post d st := wq_iff
@[simp] theorem wq_varS {i : Nat} {o : Option Da} {r : Sl} : Wq (eVar (i + 1) (o :: r)) st post ex ↔ Wq (eVar i r) st post ex := wq_iff.trans (wq_iff (m := eVar i r)).symm
@[simp] theorem wq_var1 {o0 : Option Da} {d : Da} {r : Sl} : Wq (eVar 1 (o0 :: some d :: r)) st post ex ↔ post d st := wq_iff
@[simp] theorem wq_var2 {o0 o1 : Option Da} {d : Da} {r : Sl} : Wq (eVar 2 (o0 :: o1 :: some d :: r)) st post ex ↔ post d st := wq_iff
@[simp] theorem wq_var3 {o0 o1 o2 : Option Da} {d : Da} {r : Sl} : Wq (eVar 3 (o0 :: o1 :: o2 :: some d :: r)) st post ex ↔ post d st := wq_iff
@[simp] theorem wq_var4 {o0 o1 o2 o3 : Option Da} {d : Da} {r : Sl} : Wq (eVar 4 (o0 :: o1 :: o2 :: o3 :: some d :: r)) st post ex ↔ post d st := wq_iff
@[simp] theorem wq_var5 {o0 o1 o2 o3 o4 : Option Da} {d : Da} {r : Sl} : Wq (eVar 5 (o0 :: o1 :: o2 :: o3 :: o4 :: some d :: r)) st post ex ↔ post d st := wq_iff
@[simp] theorem wq_var6 {o0 o1 o2 o3 o4 o5 : Option Da} {d : Da} {r : Sl} : Wq (eVar 6 (o0 :: o1 :: o2 :: o3 :: o4 :: o5 :: some d :: r)) st post ex ↔ post d st := wq_iff
@[simp] theorem wq_var7 {o0 o1 o2 o3 o4 o5 o6 : Option Da} {d : Da} {r : Sl} : Wq (eVar 7 (o0 :: o1 :: o2 :: o3 :: o4 :: o5 :: o6 :: some d :: r)) st post ex ↔ post d st := wq_iff
@[simp] theorem wq_var8 {o0 o1 o2 o3 o4 o5 o6 o7 : Option Da} {d : Da} {r : Sl} : Wq (eVar 8 (o0 :: o1 :: o2 :: o3 :: o4 :: o5 :: o6 :: o7 :: some d :: r)) st post ex ↔ post d st := wq_iff
@[simp] theorem wq_var9 {o0 o1 o2 o3 o4 o5 o6 o7 o8 : Option Da} {d : Da} {r : Sl} : Wq (eVar 9 (o0 :: o1 :: o2 :: o3 :: o4 :: o5 :: o6 :: o7 :: o8 :: some d :: r)) st post ex ↔ post d st := wq_iff
@[simp] theorem wq_var10 {o0 o1 o2 o3 o4 o5 o6 o7 o8 o9 : Option Da} {d : Da} {r : Sl} : Wq (eVar 10 (o0 :: o1 :: o2 :: o3 :: o4 :: o5 :: o6 :: o7 :: o8 :: o9 :: some d :: r)) st post ex ↔ post d st := wq_iff
@[simp] theorem wq_var11 {o0 o1 o2 o3 o4 o5 o6 o7 o8 o9 o10 : Option Da} {d : Da} {r : Sl} : Wq (eVar 11 (o0 :: o1 :: o2 :: o3 :: o4 :: o5 :: o6 :: o7 :: o8 :: o9 :: o10 :: some d :: r)) st post ex ↔ post d st := wq_iff
@[simp] theorem wq_var12 {o0 o1 o2 o3 o4 o5 o6 o7 o8 o9 o10 o11 : Option Da} {d : Da} {r : Sl} : Wq (eVar 12 (o0 :: o1 :: o2 :: o3 :: o4 :: o5 :: o6 :: o7 :: o8 :: o9 :: o10 :: o11 :: some d :: r)) st post ex ↔ post d st := wq_iff
@[simp] theorem wq_var13 {o0 o1 o2 o3 o4 o5 o6 o7 o8 o9 o10 o11 o12 : Option Da} {d : Da} {r : Sl} : Wq (eVar 13 (o0 :: o1 :: o2 :: o3 :: o4 :: o5 :: o6 :: o7 :: o8 :: o9 :: o10 :: o11 :: o12 :: some d :: r)) st post ex ↔ post d st := wq_iff
@[simp] theorem wq_var14 {o0 o1 o2 o3 o4 o5 o6 o7 o8 o9 o10 o11 o12 o13 : Option Da} {d : Da} {r : Sl} : Wq (eVar 14 (o0 :: o1 :: o2 :: o3 :: o4 :: o5 :: o6 :: o7 :: o8 :: o9 :: o10 :: o11 :: o12 :: o13 :: some d :: r)) st post ex ↔ post d st := wq_iff
@[simp] theorem wq_var15 {o0 o1 o2 o3 o4 o5 o6 o7 o8 o9 o10 o11 o12 o13 o14 : Option Da} {d : Da} {r : Sl} : Wq (eVar 15 (o0 :: o1 :: o2 :: o3 :: o4 :: o5 :: o6 :: o7 :: o8 :: o9 :: o10 :: o11 :: o12 :: o13 :: o14 :: some d :: r)) st post ex ↔ post d st := wq_iff
@[simp] theorem wq_var16 {o0 o1 o2 o3 o4 o5 o6 o7 o8 o9 o10 o11 o12 o13 o14 o15 : Option Da} {d : Da} {r : Sl} : Wq (eVar 16 (o0 :: o1 :: o2 :: o3 :: o4 :: o5 :: o6 :: o7 :: o8 :: o9 :: o10 :: o11 :: o12 :: o13 :: o14 :: o15 :: some d :: r)) st post ex ↔ post d st := wq_iff
@[simp] theorem wq_var17 {o0 o1 o2 o3 o4 o5 o6 o7 o8 o9 o10 o11 o12 o13 o14 o15 o16 : Option Da} {d : Da} {r : Sl} : Wq (eVar 17 (o0 :: o1 :: o2 :: o3 :: o4 :: o5 :: o6 :: o7 :: o8 :: o9 :: o10 :: o11 :: o12 :: o13 :: o14 :: o15 :: o16 :: some d :: r)) st post ex ↔ post d st := wq_iff
@[simp] theorem wq_var18 {o0 o1 o2 o3 o4 o5 o6 o7 o8 o9 o10 o11 o12 o13 o14 o15 o16 o17 : Option Da} {d : Da} {r : Sl} : Wq (eVar 18 (o0 :: o1 :: o2 :: o3 :: o4 :: o5 :: o6 :: o7 :: o8 :: o9 :: o10 :: o11 :: o12 :: o13 :: o14 :: o15 :: o16 :: o17 :: some d :: r)) st post ex ↔ post d st := wq_iff
@[simp] theorem wq_var19 {o0 o1 o2 o3 o4 o5 o6 o7 o8 o9 o10 o11 o12 o13 o14 o15 o16 o17 o18 : Option Da} {d : Da} {r : Sl} : Wq (eVar 19 (o0 :: o1 :: o2 :: o3 :: o4 :: o5 :: o6 :: o7 :: o8 :: o9 :: o10 :: o11 :: o12 :: o13 :: o14 :: o15 :: o16 :: o17 :: o18 :: some d :: r)) st post ex ↔ post d st := wq_iff
@[simp] theorem wq_var20 {o0 o1 o2 o3 o4 o5 o6 o7 o8 o9 o10 o11 o12 o13 o14 o15 o16 o17 o18 o19 : Option Da} {d : Da} {r : Sl} : Wq (eVar 20 (o0 :: o1 :: o2 :: o3 :: o4 :: o5 :: o6 :: o7 :: o8 :: o9 :: o10 :: o11 :: o12 :: o13 :: o14 :: o15 :: o16 :: o17 :: o18 :: o19 :: some d :: r)) st post ex ↔ post d st := wq_iff
@[simp] theorem wq_var21 {o0 o1 o2 o3 o4 o5 o6 o7 o8 o9 o10 o11 o12 o13 o14 o15 o16 o17 o18 o19 o20 : Option Da} {d : Da} {r : Sl} : Wq (eVar 21 (o0 :: o1 :: o2 :: o3 :: o4 :: o5 :: o6 :: o7 :: o8 :: o9 :: o10 :: o11 :: o12 :: o13 :: o14 :: o15 :: o16 :: o17 :: o18 :: o19 :: o20 :: some d :: r)) st post ex ↔ post d st := wq_iff
@[simp] theorem wq_var22 {o0 o1 o2 o3 o4 o5 o6 o7 o8 o9 o10 o11 o12 o13 o14 o15 o16 o17 o18 o19 o20 o21 : Option Da} {d : Da} {r : Sl} : Wq (eVar 22 (o0 :: o1 :: o2 :: o3 :: o4 :: o5 :: o6 :: o7 :: o8 :: o9 :: o10 :: o11 :: o12 :: o13 :: o14 :: o15 :: o16 :: o17 :: o18 :: o19 :: o20 :: o21 :: some d :: r)) st post ex ↔ post d st := wq_iff
@[simp] theorem wq_var23 {o0 o1 o2 o3 o4 o5 o6 o7 o8 o9 o10 o11 o12 o13 o14 o15 o16 o17 o18 o19 o20 o21 o22 : Option Da} {d : Da} {r : Sl} : Wq (eVar 23 (o0 :: o1 :: o2 :: o3 :: o4 :: o5 :: o6 :: o7 :: o8 :: o9 :: o10 :: o11 :: o12 :: o13 :: o14 :: o15 :: o16 :: o17 :: o18 :: o19 :: o20 :: o21 :: o22 :: some d :: r)) st post ex ↔ post d st := wq_iff
@[simp] theorem wq_var24 {o0 o1 o2 o3 o4 o5 o6 o7 o8 o9 o10 o11 o12 o13 o14 o15 o16 o17 o18 o19 o20 o21 o22 o23 : Option Da} {d : Da} {r : Sl} : Wq (eVar 24 (o0 :: o1 :: o2 :: o3 :: o4 :: o5 :: o6 :: o7 :: o8 :: o9 :: o10 :: o11 :: o12 :: o13 :: o14 :: o15 :: o16 :: o17 :: o18 :: o19 :: o20 :: o21 :: o22 :: o23 :: some d :: r)) st post ex ↔ post d st := wq_iff
@[simp] theorem wq_var25 {o0 o1 o2 o3 o4 o5 o6 o7 o8 o9 o10 o11 o12 o13 o14 o15 o16 o17 o18 o19 o20 o21 o22 o23 o24 : Option Da} {d : Da} {r : Sl} : Wq (eVar 25 (o0 :: o1 :: o2 :: o3 :: o4 :: o5 :: o6 :: o7 :: o8 :: o9 :: o10 :: o11 :: o12 :: o13 :: o14 :: o15 :: o16 :: o17 :: o18 :: o19 :: o20 :: o21 :: o22 :: o23 :: o24 :: some d :: r)) st post ex ↔ post d st := wq_iff
@[simp] theorem wq_c {d : Da} : Wq (eC d ro) st post ex ↔ Wq (ret d) st post ex := wq_iff.trans (wq_iff (m := (ret d))).symm
@[simp] theorem wq_e2 {f : Da → Da → Mo Da} : Wq (e2 f a b ro) st post ex ↔ Wq (a ro) st (kb (fun x => bnd (b ro) fun y => f x y) post ex) ex := wq_bnd
@[simp] theorem wq_e1 {f : Da → Mo Da} : Wq (e1 f a ro) st post ex ↔ Wq (a ro) st (kb f post ex) ex := wq_bnd
@[simp] theorem wq_tst  : Wq (tst a ro) st postB ex ↔ Wq (a ro) st (kb toB postB ex) ex := wq_bnd
@[simp] theorem wq_and  : Wq (tAnd_ p q ro) st postB ex ↔ Wq (p ro) st (kb (fun c => if c = true then q ro else ret false) postB ex) ex := wq_bnd
@[simp] theorem wq_or  : Wq (tOr_ p q ro) st postB ex ↔ Wq (p ro) st (kb (fun c => if c = true then ret true else q ro) postB ex) ex := wq_bnd
@[simp] theorem wq_not  : Wq (tNot_ p ro) st postB ex ↔ Wq (p ro) st (kb (fun c => ret (!c)) postB ex) ex := wq_bnd
@[simp] theorem wq_vAnd  : Wq (vAnd a b ro) st post ex ↔ Wq (tst a ro) st (kb (fun c => if c = true then b ro else ret (.bl false)) post ex) ex := wq_bnd
@[simp] theorem wq_vOr  : Wq (vOr a b ro) st post ex ↔ Wq (tst a ro) st (kb (fun c => if c = true then ret (.bl true) else b ro) post ex) ex := wq_bnd
@[simp] theorem wq_vNot  : Wq (vNot a ro) st post ex ↔ Wq (tst a ro) st (kb (fun c => ret (.bl (!c))) post ex) ex := wq_bnd
@[simp] theorem wq_eIf  : Wq (eIf p a b ro) st post ex ↔ Wq (p ro) st (kb (fun c => if c = true then a ro else b ro) post ex) ex := wq_bnd
@[simp] theorem wq_aNil  : Wq (aNil ro) st postL ex ↔ Wq (ret []) st postL ex := wq_iff.trans (wq_iff (m := (ret []))).symm
@[simp] theorem wq_aCons  : Wq (aCons a al ro) st postL ex ↔ Wq (a ro) st (kb (fun x => bnd (al ro) fun xs => ret (x :: xs)) postL ex) ex := wq_bnd
@[simp] theorem wq_eTup  : Wq (eTup al ro) st post ex ↔ Wq (al ro) st (kb (fun xs => if xs.length ≤ 1000 then ret (.tup xs) else nop) post ex) ex := wq_bnd
@[simp] theorem wq_lDisp  : Wq (lDisp al ro) st postL ex ↔ Wq (al ro) st (kb (fun xs => if xs.length ≤ 1000 then ret xs else nop) postL ex) ex := wq_bnd
@[simp] theorem wq_eL  : Wq (eL al ro) st post ex ↔ Wq (al ro) st (kb (fun xs => ret (.lst xs)) post ex) ex := wq_bnd
@[simp] theorem wq_eF  : Wq (eF a ro) st post ex ↔ Wq (a ro) st (kb fz post ex) ex := wq_bnd
@[simp] theorem wq_eCall {f : List Da → Mo Da} : Wq (eCall f al ro) st post ex ↔ Wq (al ro) st (kb f post ex) ex := wq_bnd
@[simp] theorem wq_lCall {f : List Da → Mo (List Da)} : Wq (lCall f al ro) st postL ex ↔ Wq (al ro) st (kb f postL ex) ex := wq_bnd
@[simp] theorem wq_l2 {f : Da → Da → Mo (List Da)} : Wq (l2 f a b ro) st postL ex ↔ Wq (a ro) st (kb (fun x => bnd (b ro) fun y => f x y) postL ex) ex := wq_bnd
@[simp] theorem wq_chain {f g : Da → Da → Mo Da} : Wq (eChain f g a b c ro) st post ex ↔ Wq (a ro) st (kb (fun x => bnd (b ro) fun y => bnd (bnd (f x y) toB) fun k => if k = true then bnd (c ro) fun z => g y z else ret (.bl false)) post ex) ex := wq_bnd
@[simp] theorem wq_eApp  : Wq (eApp a b ro) st post ex ↔ Wq (a ro) st (kb (fun d => bnd (isLs d) fun _ => bnd (b ro) fun x => appD d x) post ex) ex := wq_bnd
@[simp] theorem wq_ePop  : Wq (ePop a ro) st post ex ↔ Wq (a ro) st (kb (fun d => bnd (isLs d) fun _ => popD d) post ex) ex := wq_bnd
@[simp] theorem wq_ePopAt  : Wq (ePopAt a b ro) st post ex ↔ Wq (a ro) st (kb (fun d => bnd (isLs d) fun _ => bnd (b ro) fun x => popAtD d x) post ex) ex := wq_bnd
@[simp] theorem wq_eIndex  : Wq (eIndex a b ro) st post ex ↔ Wq (a ro) st (kb (fun d => bnd (isLs d) fun _ => bnd (b ro) fun x => indexD d x) post ex) ex := wq_bnd
@[simp] theorem wq_mNil  : Wq (mNil ro) st postF ex ↔ Wq (ret (Fl.nx ro)) st postF ex := wq_iff.trans (wq_iff (m := (ret (Fl.nx ro)))).symm
@[simp] theorem wq_mSet {i : Nat} : Wq (mSet i a ro) st postF ex ↔ Wq (a ro) st (kb (fun d => ret (Fl.nx (ro.set i (some d)))) postF ex) ex := wq_bnd
@[simp] theorem wq_mRet  : Wq (mRet a ro) st postF ex ↔ Wq (a ro) st (kb (fun d => ret (Fl.rt d)) postF ex) ex := wq_bnd
@[simp] theorem wq_mRetN  : Wq (mRetN ro) st postF ex ↔ Wq (ret (Fl.rt .non)) st postF ex := wq_iff.trans (wq_iff (m := (ret (Fl.rt .non)))).symm
@[simp] theorem wq_mExpr  : Wq (mExpr a ro) st postF ex ↔ Wq (a ro) st (kb (fun _ => ret (Fl.nx ro)) postF ex) ex := wq_bnd
@[simp] theorem wq_mIf  : Wq (mIf p m n ro) st postF ex ↔ Wq (p ro) st (kb (fun c => if c = true then m ro else n ro) postF ex) ex := wq_bnd
@[simp] theorem wq_mBrk  : Wq (mBrk ro) st postF ex ↔ Wq (ret (Fl.bk ro)) st postF ex := wq_iff.trans (wq_iff (m := (ret (Fl.bk ro)))).symm
@[simp] theorem wq_mCnt  : Wq (mCnt ro) st postF ex ↔ Wq (ret (Fl.ct ro)) st postF ex := wq_iff.trans (wq_iff (m := (ret (Fl.ct ro)))).symm
@[simp] theorem wq_mNever  : Wq (mNever ro) st postF ex ↔ Wq (nop) st postF ex := wq_iff.trans (wq_iff (m := (nop))).symm
@[simp] theorem wq_mSetI  : Wq (mSetI v o i' ro) st postF ex ↔ Wq (v ro) st (kb (fun x => bnd (o ro) fun d => bnd (i' ro) fun k => bnd (setD d k x) fun _ => ret (Fl.nx ro)) postF ex) ex := wq_bnd
@[simp] theorem wq_mFor {s : Sl → Mo Src} {t : Tg} : Wq (mFor s t m ro) st postF ex ↔ Wq (s ro) st (kb (fun s => forGo s.o s.xs t m s.xs ro) postF ex) ex := wq_bnd
@[simp] theorem wq_fnM {k : Nat} {ds : List Da} : Wq (fnM k m ds) st post ex ↔ Wq (m (startS k ds)) st (kb fnE post ex) ex := wq_bnd
@[simp] theorem wq_lComp {s : Sl → Mo Src} {t : Tg} {vs : List Nat} : Wq (lComp s t p a vs ro) st postL ex ↔ Wq (s ro) st (kb (fun s => compGo s.o s.xs t p a (wipeS ro vs) s.xs []) postL ex) ex := wq_bnd
@[simp] theorem wq_iV  : Wq (iV a ro) st postS ex ↔ Wq (a ro) st (kb srcV postS ex) ex := wq_bnd
@[simp] theorem wq_iR1  : Wq (iR1 al ro) st postS ex ↔ Wq (al ro) st (kb srcR1 postS ex) ex := wq_bnd
@[simp] theorem wq_iR2  : Wq (iR2 al ro) st postS ex ↔ Wq (al ro) st (kb srcR2 postS ex) ex := wq_bnd
@[simp] theorem wq_iR3  : Wq (iR3 al ro) st postS ex ↔ Wq (al ro) st (kb srcR3 postS ex) ex := wq_bnd
@[simp] theorem wq_yes  : Wq (tYes_ ro) st postB ex ↔ Wq (ret true) st postB ex := wq_iff.trans (wq_iff (m := (ret true))).symm
@[simp] theorem wq_eFld {cs : List Str} {f : Str} : Wq (eFld cs f a ro) st post ex ↔ Wq (a ro) st (kb (fldD cs f) post ex) ex := wq_bnd
@[simp] theorem wq_mFld {cs : List Str} {f : Str} : Wq (mFld cs f v o ro) st postF ex ↔ Wq (v ro) st (kb (fun x => bnd (o ro) fun d => bnd (setFD cs f d x) fun _ => ret (Fl.nx ro)) postF ex) ex := wq_bnd
@[simp] theorem wq_eMeth {c m : Str} {f : List Da → Mo Da} : Wq (eMeth c m f a al ro) st post ex ↔ Wq (a ro) st (kb (fun d => bnd (isIns c m d) fun _ => bnd (al ro) fun ds => f (d :: ds)) post ex) ex := wq_bnd
@[simp] theorem wq_eMake {c : Str} {f : List Da → Mo Da} : Wq (eMake c f al ro) st post ex ↔ Wq (al ro) st (kb (makeD c f) post ex) ex := wq_bnd
@[simp] theorem wq_eH : Wq (eH al ro) st post ex ↔ Wq (al ro) st (kb (fun xs st => .ok (.han st.length) (st ++ [.lst xs])) post ex) ex := wq_bnd
@[simp] theorem wq_okf {f : Store → A} {g : Store → Store} {post : A → Store → Prop} : Wq (fun st => Res.ok (f st) (g st)) st post ex ↔ post (f st) (g st) := wq_iff
@[simp] theorem wq_mSeq : Wq (mSeq m n ro) st postF ex ↔ Wq (m ro) st (kb (fun f => match f with | .nx ro' => n ro' | f => ret f) postF ex) ex := wq_bnd
theorem Wq.seq (Q : Fl → Store → Prop) (h1 : Wq (m ro) st Q ex) (h2 : ∀ f st', Q f st' → kb (fun f => match f with | .nx ro' => n ro' | f => ret f) postF ex f st') : Wq (mSeq m n ro) st postF ex := wq_mSeq.mpr (h1.mono h2)
@[simp] theorem wq_mTgt {t : Tg} : Wq (mTgt t a ro) st postF ex ↔ Wq (a ro) st (kb (fun d => match t d ro with | some ro' => ret (Fl.nx ro') | none => nop) postF ex) ex := wq_bnd
@[simp] theorem wq_mPar {i j : Nat} : Wq (mPar i j al ro) st postF ex ↔ Wq (al ro) st (kb (fun ds => match ds with | [d, e] => ret (Fl.nx ((ro.set i (some d)).set j (some e))) | _ => nop) postF ex) ex := wq_bnd
@[simp] theorem wq_mAug {i : Nat} {f : Int → Int → Int} : Wq (mAug i f a ro) st postF ex ↔ Wq (eVar i ro) st (kb (fun x => bnd (a ro) fun y => match x, y with | .int p, .int q => ret (Fl.nx (ro.set i (some (.int (f p q))))) | _, _ => nop) postF ex) ex := wq_bnd
@[simp] theorem wq_toB {k : Bool} : Wq (toB (.bl k)) st postB ex ↔ postB k st := wq_iff
@[simp] theorem fnE_nx {ro : Sl} : fnE (.nx ro) = ret .non := rfl
@[simp] theorem fnE_rt {d : Da} : fnE (.rt d) = ret d := rfl
@[simp] theorem wq_noP {postP : Option Int → Store → Prop} : Wq (noP ro) st postP ex ↔ postP none st := wq_iff
@[simp] theorem wq_soP {postP : Option Int → Store → Prop} : Wq (soP a ro) st postP ex ↔ Wq (a ro) st (kb (fun d => match d with | .int i => ret (some i) | _ => nop) postP ex) ex := wq_bnd
@[simp] theorem wq_eSl {f : Da → Option Int → Option Int → Mo Da} {lo hi : Sl → Mo (Option Int)} : Wq (eSl f a lo hi ro) st post ex ↔ Wq (a ro) st (kb (fun d => bnd (lo ro) fun l => bnd (hi ro) fun h => f d l h) post ex) ex := wq_bnd
@[simp] theorem wq_lSl {lo hi : Sl → Mo (Option Int)} : Wq (lSl a lo hi ro) st postL ex ↔ Wq (a ro) st (kb (fun d => bnd (lo ro) fun l => bnd (hi ro) fun h => slL d l h) postL ex) ex := wq_bnd
@[simp] theorem wq_add_i {i j : Int} : Wq (addD (.int i) (.int j)) st post ex ↔ post (.int (i + j)) st := wq_iff
@[simp] theorem wq_sub_i {i j : Int} : Wq (subD (.int i) (.int j)) st post ex ↔ post (.int (i - j)) st := wq_iff
@[simp] theorem wq_lt_i {i j : Int} : Wq (ltD (.int i) (.int j)) st post ex ↔ post (.bl (decide (i < j))) st := wq_iff
@[simp] theorem wq_le_i {i j : Int} : Wq (leD (.int i) (.int j)) st post ex ↔ post (.bl (decide (i ≤ j))) st := wq_iff
@[simp] theorem wq_gt_i {i j : Int} : Wq (gtD (.int i) (.int j)) st post ex ↔ post (.bl (decide (j < i))) st := wq_iff
@[simp] theorem wq_ge_i {i j : Int} : Wq (geD (.int i) (.int j)) st post ex ↔ post (.bl (decide (j ≤ i))) st := wq_iff
@[simp] theorem wq_neg_i {i : Int} : Wq (negD (.int i)) st post ex ↔ post (.int (-i)) st := wq_iff
@[simp] theorem wq_max_i {i j : Int} : Wq (maxD (.int i) (.int j)) st post ex ↔ post (.int (if j > i then j else i)) st := wq_iff
@[simp] theorem wq_min_i {i j : Int} : Wq (minD (.int i) (.int j)) st post ex ↔ post (.int (if j < i then j else i)) st := wq_iff
@[simp] theorem wq_isT_i {t : Tn} {i : Int} : Wq (isT t (.int i)) st post ex ↔ post (.bl (isTn .int t)) st := wq_iff
@[simp] theorem wq_isT_b {t : Tn} {i : Bool} : Wq (isT t (.bl i)) st post ex ↔ post (.bl (isTn .bool t)) st := wq_iff
@[simp] theorem wq_isT_s {t : Tn} {i : Str} : Wq (isT t (.str i)) st post ex ↔ post (.bl (isTn .str t)) st := wq_iff
@[simp] theorem wq_isT_n {t : Tn} : Wq (isT t .non) st post ex ↔ post (.bl (isTn .non t)) st := wq_iff
@[simp] theorem wq_isT_t {t : Tn} {xs : List Da} : Wq (isT t (.tup xs)) st post ex ↔ post (.bl (isTn .tuple t)) st := wq_iff
@[simp] theorem wq_isT_l {t : Tn} {xs : List Da} : Wq (isT t (.lst xs)) st post ex ↔ post (.bl (isTn .list t)) st := wq_iff
@[simp] theorem wq_is_bl {b x y : Bool} : Wq (isB b (.bl x) (.bl y)) st post ex ↔ post (.bl (if b then !decide (x = y) else decide (x = y))) st := wq_iff
@[simp] theorem wq_len_l {xs : List Da} : Wq (lenD (.lst xs)) st post ex ↔ post (.int xs.length) st := wq_iff
@[simp] theorem wq_len_t {xs : List Da} : Wq (lenD (.tup xs)) st post ex ↔ post (.int xs.length) st := wq_iff
@[simp] theorem wq_list_l {xs : List Da} : Wq (listD (.lst xs)) st postL ex ↔ postL xs st := wq_iff
@[simp] theorem wq_list_t {xs : List Da} : Wq (listD (.tup xs)) st postL ex ↔ postL xs st := wq_iff
@[simp] theorem wq_list_f {xs : List Da} : Wq (listD (.fro xs)) st postL ex ↔ postL xs st := wq_iff
@[simp] theorem wq_tuple_l {xs : List Da} : Wq (tupleD (.lst xs)) st post ex ↔ post (.tup xs) st := wq_iff
@[simp] theorem wq_srcV_l {xs : List Da} : Wq (srcV (.lst xs)) st postS ex ↔ postS ⟨xs, none⟩ st := wq_iff
@[simp] theorem wq_srcV_t {xs : List Da} : Wq (srcV (.tup xs)) st postS ex ↔ postS ⟨xs, none⟩ st := wq_iff
@[simp] theorem wq_slA_t {xs : List Da} {lo hi : Option Int} : Wq (slA (.tup xs) lo hi) st post ex ↔ post (.tup (cutD xs lo hi)) st := wq_iff
@[simp] theorem wq_slA_l {xs : List Da} {lo hi : Option Int} : Wq (slA (.lst xs) lo hi) st post ex ↔ post (.lst (cutD xs lo hi)) st := wq_iff
@[simp] theorem wq_slL_l {xs : List Da} {lo hi : Option Int} : Wq (slL (.lst xs) lo hi) st postL ex ↔ postL (cutD xs lo hi) st := wq_iff
@[simp] theorem wq_isLs_l {xs : List Da} : Wq (isLs (.lst xs)) st postU ex ↔ postU () st := wq_iff
@[simp] theorem wq_isNon_n : Wq (isNon .non) st postU ex ↔ postU () st := wq_iff
@[simp] theorem wq_is_non {b : Bool}  : Wq (isB b (.non) .non) st post ex ↔ post (.bl (if b then false else true)) st := by cases b <;> exact wq_iff
@[simp] theorem wq_is_int {b : Bool} {i : Int} : Wq (isB b (.int i) .non) st post ex ↔ post (.bl b) st := by cases b <;> exact wq_iff
@[simp] theorem wq_is_tup {b : Bool} {l : List Da} : Wq (isB b (.tup l) .non) st post ex ↔ post (.bl b) st := by cases b <;> exact wq_iff
@[simp] theorem wq_is_lst {b : Bool} {l : List Da} : Wq (isB b (.lst l) .non) st post ex ↔ post (.bl b) st := by cases b <;> exact wq_iff
@[simp] theorem wq_is_str {b : Bool} {s : Str} : Wq (isB b (.str s) .non) st post ex ↔ post (.bl b) st := by cases b <;> exact wq_iff
@[simp] theorem wq_mul_i {i j : Int} (h : CMul i j) : Wq (mulD (.int i) (.int j)) st post ex ↔ post (.int (i * j)) st := by unfold mulD; dsimp only; rw [if_pos h]; exact wq_iff
@[simp] theorem wq_fdiv_i {i j : Int} (h : CDivN i j) : Wq (fdivD (.int i) (.int j)) st post ex ↔ post (.int (i.fdiv j)) st := by unfold fdivD; dsimp only; rw [if_pos h]; exact wq_iff
@[simp] theorem wq_mod_i {i j : Int} (h : j ≠ 0) : Wq (modD (.int i) (.int j)) st post ex ↔ post (.int (i.fmod j)) st := by unfold modD; dsimp only; rw [if_pos h]; exact wq_iff
@[simp] theorem wq_pow_i {i j : Int} (h : CPow i j) : Wq (powD (.int i) (.int j)) st post ex ↔ post (.int (i ^ j.toNat)) st := by unfold powD; dsimp only; rw [if_pos h]; exact wq_iff
@[simp] theorem wq_srcR1 {j : Int} (h : big j) : Wq (srcR1 [.int j]) st postS ex ↔ postS ⟨rngL 0 j.toNat, none⟩ st := by unfold srcR1; dsimp only; rw [if_pos h]; exact wq_iff
@[simp] theorem wq_srcR2 {i j : Int} (h : big i ∧ big j) : Wq (srcR2 [.int i, .int j]) st postS ex ↔ postS ⟨rngL i (j - i).toNat, none⟩ st := by unfold srcR2; dsimp only; rw [if_pos h]; exact wq_iff
@[simp] theorem wq_srcR3 {i j c : Int} (h : rgOk i j c) : Wq (srcR3 [.int i, .int j, .int c]) st postS ex ↔ postS ⟨rngC i c (rgN i j c), none⟩ st := by unfold srcR3; dsimp only; rw [if_pos h]; exact wq_iff
@[simp] theorem wq_catL_l {xs ys : List Da} (h : xs.length + ys.length ≤ 1000000) : Wq (catL (.lst xs) (.lst ys)) st postL ex ↔ postL (xs ++ ys) st := wq_iff.trans ((wp_catL_l).trans (by rw [if_pos h]))
@[simp] theorem wq_add_l {xs ys : List Da} (h : xs.length + ys.length ≤ 1000000) : Wq (addD (.tup xs) (.tup ys)) st post ex ↔ post (.tup (xs ++ ys)) st := by
  rw [wq_iff]; unfold Wp addD; dsimp only; rw [if_pos h]; exact Iff.rfl
@[simp] theorem wq_ix_t0 {x0 : Da} {r : List Da} : Wq (ixD (.tup (x0 :: r)) (.int 0)) st post ex ↔ post x0 st := wq_iff.trans (wp_ix_t0)
@[simp] theorem wq_ix_t1 {x0 x1 : Da} {r : List Da} : Wq (ixD (.tup (x0 :: x1 :: r)) (.int 1)) st post ex ↔ post x1 st := wq_iff.trans (wp_ix_t1)
@[simp] theorem wq_ix_t2 {x0 x1 x2 : Da} {r : List Da} : Wq (ixD (.tup (x0 :: x1 :: x2 :: r)) (.int 2)) st post ex ↔ post x2 st := wq_iff.trans (wp_ix_t2)
@[simp] theorem wq_ix_t3 {x0 x1 x2 x3 : Da} {r : List Da} : Wq (ixD (.tup (x0 :: x1 :: x2 :: x3 :: r)) (.int 3)) st post ex ↔ post x3 st := wq_iff.trans (wp_ix_t3)
@[simp] theorem wq_ix_l0 {x0 : Da} {r : List Da} : Wq (ixD (.lst (x0 :: r)) (.int 0)) st post ex ↔ post x0 st := wq_iff.trans (wp_ix_l0)
@[simp] theorem wq_ix_l1 {x0 x1 : Da} {r : List Da} : Wq (ixD (.lst (x0 :: x1 :: r)) (.int 1)) st post ex ↔ post x1 st := wq_iff.trans (wp_ix_l (atI_nat (j := 1) rfl))
@[simp] theorem wq_ix_l2 {x0 x1 x2 : Da} {r : List Da} : Wq (ixD (.lst (x0 :: x1 :: x2 :: r)) (.int 2)) st post ex ↔ post x2 st := wq_iff.trans (wp_ix_l (atI_nat (j := 2) rfl))
@[simp] theorem wq_all1 {x : Bool} : Wq (allD (.lst [.bl x])) st post ex ↔ post (.bl x) st := wq_iff.trans (wp_all1)
@[simp] theorem wq_all2 {x y : Bool} : Wq (allD (.lst [.bl x, .bl y])) st post ex ↔ post (.bl (x && y)) st := wq_iff.trans (wp_all2)
@[simp] theorem wq_makeD {c : Str} {g : List Da → Mo Da} {ds : List Da} : Wq (makeD c g ds) st post ex ↔ Wq (g (.han st.length :: ds)) (st ++ [.ins c []]) (kb (fun r => bnd (isNon r) fun _ => ret (.han st.length)) post ex) ex := by
  rw [← wq_bnd]
  refine wq_iff.trans (Iff.trans ?_ (wq_iff (m := bnd (g (Da.han st.length :: ds)) fun r => bnd (isNon r) fun _ => ret (Da.han st.length))).symm)
  exact Iff.rfl
def makeK (c : Str) (g : List Da → Mo Da) (n1 k : Nat) (gD : List Da → List Da → List Da) (ds es : List Da) : Mo Da := fun st => if ds.length = n1 ∧ es.length = k then bnd (newI c) (fun _ => bnd (g (gD (.han st.length :: ds) es)) fun r => bnd (isNon r) fun _ => ret (.han st.length)) st else .bad
@[simp] theorem wq_eMakeK {c : Str} {g : List Da → Mo Da} {n1 k : Nat} {gD : List Da → List Da → List Da} : Wq (eMakeK c g n1 k gD al kl ro) st post ex ↔ Wq (al ro) st (kb (fun ds => bnd (kl ro) fun es => makeK c g n1 k gD ds es) post ex) ex := wq_bnd
@[simp] theorem wq_makeK {c : Str} {g : List Da → Mo Da} {n1 k : Nat} {gD : List Da → List Da → List Da} {ds es : List Da} (h : ds.length = n1 ∧ es.length = k) : Wq (makeK c g n1 k gD ds es) st post ex ↔ Wq (g (gD (.han st.length :: ds) es)) (st ++ [.ins c []]) (kb (fun r => bnd (isNon r) fun _ => ret (.han st.length)) post ex) ex := by
  rw [← wq_bnd]
  refine wq_iff.trans (Iff.trans ?_ (wq_iff (m := bnd (g (gD (Da.han st.length :: ds) es)) fun r => bnd (isNon r) fun _ => ret (Da.han st.length))).symm)
  unfold makeK Wp
  dsimp only
  rw [if_pos h]
  exact Iff.rfl
@[simp] theorem wq_eq {d e : Da} (h1 : pl 60 d = true) (h2 : pl 60 e = true) : Wq (eqB false d e) st post ex ↔ post (.bl (deq d e)) st := wq_iff.trans (wp_eq h1 h2)
@[simp] theorem wq_ne {d e : Da} (h1 : pl 60 d = true) (h2 : pl 60 e = true) : Wq (eqB true d e) st post ex ↔ post (.bl (!deq d e)) st := wq_iff.trans (wp_ne h1 h2)
@[simp] theorem wq_eq_i {i j : Int} : Wq (eqB false (.int i) (.int j)) st post ex ↔ post (.bl (decide (i = j))) st := wq_iff.trans (wp_eq_i)
@[simp] theorem wq_ne_i {i j : Int} : Wq (eqB true (.int i) (.int j)) st post ex ↔ post (.bl (!decide (i = j))) st := wq_iff.trans (wp_ne_i)
@[simp] theorem wq_comp_nil {all : List Da} {t : Tg} {p : Sl → Mo Bool} {e : Sl → Mo Da} {acc : List Da} : Wq (compGo none all t p e ro [] acc) st postL ex ↔ postL acc st := wq_iff
@[simp] theorem loopK_nx {go : Sl → Mo Fl} : loopK go (.nx ro) = go ro := rfl
@[simp] theorem loopK_ct {go : Sl → Mo Fl} : loopK go (.ct ro) = go ro := rfl
@[simp] theorem loopK_bk {go : Sl → Mo Fl} : loopK go (.bk ro) = ret (Fl.nx ro) := rfl
@[simp] theorem loopK_rt {go : Sl → Mo Fl} {d : Da} : loopK go (.rt d) = ret (Fl.rt d) := rfl
@[simp] theorem wq_for_nil {all : List Da} {t : Tg} {body : Sl → Mo Fl} : Wq (forGo none all t body [] ro) st postF ex ↔ postF (.nx ro) st := wq_iff
end
end CL
namespace CL
open PySem L2
theorem town14 (ns : List Int) : Wp (f__law_town [.fro (ns.map Da.int)]) [] (fun d st' => d = .han 1 ∧ ∃ r, st' = [.lst r, .lst [.han 0, .int 0]]) noEx := by
  unfold f__law_town m__law_town
  simp [startS]
  rw [wp_ne (by simp [pl, plL_ints]) (by simp [pl, plL])]
  simp
  all_goals (rw [deqL_ne]; by_cases h : ns = [] <;> simp [h])
theorem law_true (ns : List Int) (hl : ns.length ≤ 63) : ∃ st, f_law [.fro (ns.map Da.int)] [] = .ok (.bl true) st := by
  suffices h : Wq (f_law [.fro (ns.map Da.int)]) [] (fun d _ => d = .bl true) noEx by
    obtain ⟨d, st, h1, rfl⟩ := h.p.out
    exact ⟨st, h1⟩
  unfold f_law
  rw [lawR_eq]
  simp [startS]
  refine (town14 ns).go fun d s ⟨e, r, hr⟩ => ?_
  subst e hr
  simp
  have h := run14 (.fro (ns.map Da.int)) r
  change Wq (R14 _) _ _ _
  unfold yes at h
  split at h
  · rename_i st hst
    exact Wq.of hst (by simp [fnE])
  · cases h
end CL
open PySem PySem.W PySem.Calls PyProof.Rows
theorem PySem.Challenge.cw_coldlanes_k14_others_refused_holds : PySem.Challenge.rw_coldlanes_k14_others_refused.Holds := by
  w_on; o_law
  refine HandSHeadRun.head_any (r := OpenLaw.row PySem.Challenge.rw_coldlanes_k14_others_refused) (q := view (OpenLaw.row PySem.Challenge.rw_coldlanes_k14_others_refused).prog [78]) (H := CL.hk) (ob := CL.hob) (M := 12000) (loose := CL.loose) (d := HandSHeadRun.topDef (OpenLaw.row PySem.Challenge.rw_coldlanes_k14_others_refused).prog 78) (kwd := []) CL.hob_eq
    (by kernel_rfl) (fun s => by kernel_rfl) CL.hrun (by kernel_rfl) (by kernel_rfl) (by kernel_rfl) (by rfl) (by first | assumption | decide +kernel) (by decide +kernel) ⟨rfl, rfl, rfl, rfl, rfl, by decide +kernel⟩ ?hw ?hc
  case hw => w_witness2
  case hc =>
    refine CL.walkE (l := PySem.Challenge.rw_coldlanes_k14_others_refused) (n := 63) (k := 117) (x := "script") rfl (by decide) (by kernel_rfl) ⟨rfl, by decide, by decide⟩ ?F
    intro w mg fa h Y G hmg0
    obtain ⟨K, KX, c⟩ := Y
    have T : CL.Tx K mg := CL.tx_of KX G c
    have hmg : mg ("law" : PySem.Str) = some (.ref fa) := by
      have e : (HandSHeadRun.topDef (OpenLaw.row PySem.Challenge.rw_coldlanes_k14_others_refused).prog 78).name = ("law" : PySem.Str) := by kernel_rfl
      rw [← e]
      exact hmg0
    obtain ⟨hl, fd, F⟩ := T.d_law
    rw [hmg] at hl
    cases hl
    have b := L2.FunD.bindsA (ps := ["script"]) F fun _ _ _ _ _ _ us hl => match us, hl with | [_], _ => rfl
    exact ⟨K, fd, CL.SpOf K 1 CL.f_law, KX, fun s v => b s [v] rfl, fun H a ns hl hO hS => CL.law_start hO hS (CL.law_true ns hl), fun base _ _ => CL.the_law T F⟩
