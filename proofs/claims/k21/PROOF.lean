import PyProof.Rows.All
import Wide.All
import OpenK.AllK
import Wide.FinOn
import KE.KStateDown
import Lean
import HandS.Base
import HandS.Call
import HandS.Ends
import HandS.More
import HandS.Words
import HandS.WordsExc
import HandS.Defaults
import HandS.Head0
import HandS.Head1
import HandS.Head2
import HandS.HeadEnd
import HandS.HeadHook1
import HandS.HeadHook2
import PySem.Challenge.RW_settledhours_k21_whole_rooms_of_two_pers
import HandS.ForMost
import HandS.Walk
import HandS.Zip
import HandS.TupAny
import HandS.TupMul
import HandS.TupLe
import HandS.Wide
import HandS.IsInst
import HandS.Deep
import HandS.DictComp
import HandS.Style
import HandS.Conv
import HandS.SortInts
import HandS.WordsDict
import KE.GoesNew
import KE.GoesMore
import KE.GoesEnum
import HandS.List
import HandS.Dict
import HandS.Small
import PyProof.Rows.TupDisplay
import HandS.TupSets
import PyProof.TupleOfSeq
import KE.KTupSum
import KE.KRevSl
import KE.DataMinMax
import KE.KDictZip
import HandS.DictTup
import HandS.DictEq
section
set_option Elab.async false
set_option linter.all false
set_option maxRecDepth 100000
set_option maxHeartbeats 0
namespace Hd
open PySem PySem.Spec PyProof.Rows L2
def top (i : Nat) : Stmt := PySem.Challenge.pw_settledhours_k21_whole_rooms_of_two_pers.main.body.getD i (.Pass ⟨0, 0, 0, 0⟩)
def dd (x : Str) (i : Nat) : He.DefD := ⟨(x, none), x, x, defArgs (top i), defBody (top i), defScope (top i), [], []⟩
def fn0 : List He.DefD := [dd "is_whole" 7, dd "persons_many" 13, dd "columns_many" 14, dd "are_hours" 15, dd "are_uses" 16, dd "are_all" 17, dd "used_by" 18, dd "is_book" 19, dd "need_book" 20, dd "is_below" 21, dd "need_column" 22, dd "taste_in" 23, dd "tastes_in" 24, dd "lots_in" 26, dd "least_places" 27, dd "columns_above" 28, dd "is_lot_of" 29, dd "need_lot" 30, dd "rooms_in" 31, dd "rooms_of" 32, dd "is_room_of" 33, dd "is_room" 34, dd "need_room" 35, dd "homes_in" 36, dd "homes_of" 37, dd "above_all" 38, dd "is_face" 39, dd "face_counts" 40, dd "without" 42, dd "other_room" 43]
def fn1 : List He.DefD := [dd "room_beyond" 44, dd "walls_of" 45, dd "need_rooms" 46, dd "room_way" 47, dd "is_room_way" 48, dd "_law_ln_chain" 50, dd "_law_ln_two" 51, dd "_law_begun" 52, dd "_law_blended" 53, dd "_law_draw" 54, dd "_law_shuffled" 55, dd "_law_likes" 56, dd "_law_taste" 57, dd "_law_tastes" 58, dd "_law_goes" 59, dd "_law_ways_go" 60, dd "_law_above_goes" 61, dd "law" 62]
def fn : List He.DefD := fn0 ++ fn1
def fa0 : List He.Fa := [.glo "is_whole", .glo "persons_many", .glo "columns_many", .glo "are_hours", .glo "are_uses", .glo "are_all", .glo "used_by", .glo "is_book", .glo "need_book", .glo "is_below", .glo "need_column", .glo "taste_in", .glo "tastes_in", .glo "lots_in", .glo "least_places", .glo "columns_above", .glo "is_lot_of", .glo "need_lot", .glo "rooms_in", .glo "rooms_of", .glo "is_room_of", .glo "is_room", .glo "need_room", .glo "homes_in", .glo "homes_of", .glo "above_all", .glo "is_face", .glo "face_counts", .glo "without", .glo "other_room"]
def fa1 : List He.Fa := [.glo "room_beyond", .glo "walls_of", .glo "need_rooms", .glo "room_way", .glo "is_room_way", .glo "_law_ln_chain", .glo "_law_ln_two", .glo "_law_begun", .glo "_law_blended", .glo "_law_draw", .glo "_law_shuffled", .glo "_law_likes", .glo "_law_taste", .glo "_law_tastes", .glo "_law_goes", .glo "_law_ways_go", .glo "_law_above_goes", .glo "law", .int "MOST_PERSONS" 4, .int "MOST_WORKS" 8, .int "MOST_HOURS" 1000000000, .int "MOST_USE" 1000000, .free "abs", .free "all", .free "bool", .free "dict", .free "enumerate", .free "int", .free "isinstance", .free "len"]
def fa2 : List He.Fa := [.free "list", .free "min", .free "range", .free "sorted", .free "str", .free "sum", .free "tuple", .free "zip"]
def fa : List He.Fa := fa0 ++ fa1 ++ fa2
abbrev R : PySem.W.OpenRow := PySem.W.OpenLaw.row PySem.Challenge.rw_settledhours_k21_whole_rooms_of_two_pers
abbrev hk : PySem.W.Hook := He.hookD 4 fa fn
def ob (s : PySem.W.SharedT) : He.AlD := He.obsDG 4 fa fn (HandSHeadRun.getT s)
theorem ob_eq (s : PySem.W.SharedT) : ob s = hk.obs s.abs := He.obsDG_eq (HandSHeadRun.getT_eq s)
def nm0 : List PySem.Str := ["HoursError", "BadBook", "BadColumn", "BadRoom", "BadLot", "MOST_PERSONS", "MOST_WORKS", "MOST_HOURS", "MOST_USE", "is_whole", "persons_many", "columns_many", "are_hours", "are_uses", "are_all", "used_by", "is_book", "need_book", "is_below", "need_column", "taste_in", "tastes_in", "lots_in", "least_places", "columns_above", "is_lot_of", "need_lot", "rooms_in", "rooms_of", "is_room_of"]
def nm1 : List PySem.Str := ["is_room", "need_room", "homes_in", "homes_of", "above_all", "is_face", "face_counts", "without", "other_room", "room_beyond", "walls_of", "need_rooms", "room_way", "is_room_way", "_law_ln_chain", "_law_ln_two", "_law_begun", "_law_blended", "_law_draw", "_law_shuffled", "_law_likes", "_law_taste", "_law_tastes", "_law_goes", "_law_ways_go", "_law_above_goes"]
def names : List PySem.Str := nm0 ++ nm1
theorem run (w : World) : HandSHeadRun.RunEq R (PySem.W.view R.prog [62]) hk ob 6000 names w := by
  intro os
  kernel_rfl
end Hd
end

section
set_option Elab.async false
set_option linter.all false
set_option maxRecDepth 100000
set_option maxHeartbeats 0
set_option autoImplicit false
open PySem PySem.W PySem.Calls PyProof.Rows
theorem Hd.fin_head (hc : WalkO (view (OpenLaw.row PySem.Challenge.rw_settledhours_k21_whole_rooms_of_two_pers).prog [62]) Hd.names (XL (view (OpenLaw.row PySem.Challenge.rw_settledhours_k21_whole_rooms_of_two_pers).prog [62]) []) Hd.hk.says (OpenLaw.row PySem.Challenge.rw_settledhours_k21_whole_rooms_of_two_pers).toRowW (HandSHeadRun.topDef (OpenLaw.row PySem.Challenge.rw_settledhours_k21_whole_rooms_of_two_pers).prog 62) [] fun f vs => call f vs) : PySem.Challenge.rw_settledhours_k21_whole_rooms_of_two_pers.Holds := by
  w_on; o_law
  refine HandSHeadRun.head_any (r := OpenLaw.row PySem.Challenge.rw_settledhours_k21_whole_rooms_of_two_pers) (q := view (OpenLaw.row PySem.Challenge.rw_settledhours_k21_whole_rooms_of_two_pers).prog [62]) (H := Hd.hk) (ob := Hd.ob) (M := 6000) (loose := Hd.names) (d := HandSHeadRun.topDef (OpenLaw.row PySem.Challenge.rw_settledhours_k21_whole_rooms_of_two_pers).prog 62) (kwd := []) Hd.ob_eq
    (by kernel_rfl) (fun s => by kernel_rfl) Hd.run (by kernel_rfl) (by kernel_rfl) (by kernel_rfl) (by rfl) (by first | assumption | decide +kernel) (by decide +kernel) ⟨rfl, rfl, rfl, rfl, rfl, by decide +kernel⟩ ?hw hc
  case hw => w_witness2
end

section
set_option Elab.async false
set_option linter.all false
set_option maxRecDepth 100000
set_option autoImplicit false
namespace Y
open PySem PySem.Spec L2
open PyProof.Rows hiding St

/-! ### plain data -/
inductive D where
  | non | bl (b : Bool) | int (i : Int) | str (x : Str)
  | tup (xs : List D) | lst (xs : List D) | dic (t : Bool) (kvs : List (D × D)) | drw

structure DS where
  great : List Int
  cells : List Int
  rest : Int
  turn : Int

structure QA where
  d : Addr
  g : Addr
  c : Addr
def QA.has (q : QA) (a : Addr) : Prop := a = q.d ∨ a = q.g ∨ a = q.c

def keyD : Key → D
  | .inl i => .int i
  | .inr x => .str x

/-- a tuple that stands in the base, or (T) among the module's constants -/
def TpA (T : PySem.W.Frag) (B : Hp) (a : Addr) (vs : List V) : Prop :=
  B a = some (.tup vs) ∨ ∃ (o : Obj) (its : Array Value) (n : Nat), T.lookup a = some o ∧ o.cls = .type "tuple" ∧ o.data = .seq its n ∧ its.size ≤ sizeLine ∧ Vals vs its.toList
def Sub (T K : PySem.W.Frag) : Prop := ∀ a o, T.lookup a = some o → K.lookup a = some o
theorem TpA.sq {T K : PySem.W.Frag} {B H : Hp} {a : Addr} {vs : List V} (h : TpA T B a vs) (t : Sub T K) (s : Same B H) : SqT K H a vs := by
  rcases h with h | ⟨o, its, n, h, r⟩
  · exact .inl (.inl (s _ _ h))
  · exact .inr ⟨o, its, n, t _ _ h, r⟩
theorem TpA.mono {T : PySem.W.Frag} {B H : Hp} {a : Addr} {vs : List V} (h : TpA T B a vs) (s : Same B H) : TpA T H a vs := by
  rcases h with h | h
  · exact .inl (s _ _ h)
  · exact .inr h
theorem TpA.in {B : Hp} {a : Addr} {vs : List V} (h : TpA [] B a vs) : B a = some (.tup vs) := by
  rcases h with h | ⟨o, its, n, h, r⟩
  · exact h
  · cases h
section
variable (K : PySem.W.Frag) (q : QA) (B : Hp)
mutual
inductive Rep : D → V → Prop
  | non : Rep .non .non
  | bl (b : Bool) : Rep (.bl b) (.bl b)
  | int (i : Int) : Rep (.int i) (.int i)
  | str (x : Str) : Rep (.str x) (.str x)
  | drw : Rep .drw (.ref q.d)
  | tup {a : Addr} {vs : List V} {ds : List D} : TpA K B a vs → RepL ds vs → Rep (.tup ds) (.ref a)
  | lst {a : Addr} {vs : List V} {ds : List D} : B a = some (.lst vs) → RepL ds vs → Rep (.lst ds) (.ref a)
  | dicK {a : Addr} {kvs : List (Key × V)} {ks : List (D × D)} : Rd B a (.dK kvs) → RepK ks kvs → Rep (.dic false ks) (.ref a)
  | dicT {a : Addr} {kvs : List (List Key × V)} {ks : List (D × D)} : Rd B a (.dT kvs) → RepT ks kvs → Rep (.dic true ks) (.ref a)
inductive RepL : List D → List V → Prop
  | nil : RepL [] []
  | cons {d : D} {ds : List D} {v : V} {vs : List V} : Rep d v → RepL ds vs → RepL (d :: ds) (v :: vs)
inductive RepK : List (D × D) → List (Key × V) → Prop
  | nil : RepK [] []
  | cons {k : Key} {d : D} {ds : List (D × D)} {v : V} {vs : List (Key × V)} : Rep d v → RepK ds vs → RepK ((keyD k, d) :: ds) ((k, v) :: vs)
inductive RepT : List (D × D) → List (List Key × V) → Prop
  | nil : RepT [] []
  | cons {k : List Key} {d : D} {ds : List (D × D)} {v : V} {vs : List (List Key × V)} : Rep d v → RepT ds vs → RepT ((.tup (k.map keyD), d) :: ds) ((k, v) :: vs)
end
end

section
variable {K : PySem.W.Frag} {q : QA} {B B' : Hp}
theorem Same.rd {H H' : Hp} {a : Addr} {u : HO} (e : Same H H') (h : Rd H a u) : Rd H' a u := by
  rcases h with h | ⟨o, h⟩
  · exact .inl (e _ _ h)
  · exact .inr ⟨o, e _ _ h⟩
mutual
theorem Rep.mono (e : Same B B') : ∀ {d : D} {v : V}, Rep K q B d v → Rep K q B' d v
  | _, _, .non => .non
  | _, _, .bl b => .bl b
  | _, _, .int i => .int i
  | _, _, .str x => .str x
  | _, _, .drw => .drw
  | _, _, .tup h r => .tup (h.mono e) (RepL.mono e r)
  | _, _, .lst h r => .lst (e _ _ h) (RepL.mono e r)
  | _, _, .dicK h r => .dicK (Same.rd e h) (RepK.mono e r)
  | _, _, .dicT h r => .dicT (Same.rd e h) (RepT.mono e r)
theorem RepL.mono (e : Same B B') : ∀ {d : List D} {v : List V}, RepL K q B d v → RepL K q B' d v
  | _, _, .nil => .nil
  | _, _, .cons h r => .cons (Rep.mono e h) (RepL.mono e r)
theorem RepK.mono (e : Same B B') : ∀ {d : List (D × D)} {v : List (Key × V)}, RepK K q B d v → RepK K q B' d v
  | _, _, .nil => .nil
  | _, _, .cons h r => .cons (Rep.mono e h) (RepK.mono e r)
theorem RepT.mono (e : Same B B') : ∀ {d : List (D × D)} {v : List (List Key × V)}, RepT K q B d v → RepT K q B' d v
  | _, _, .nil => .nil
  | _, _, .cons h r => .cons (Rep.mono e h) (RepT.mono e r)
end
theorem RepL.length : ∀ {d : List D} {v : List V}, RepL K q B d v → d.length = v.length
  | _, _, .nil => rfl
  | _, _, .cons _ r => congrArg Nat.succ (RepL.length r)
theorem RepL.append : ∀ {d : List D} {v : List V} {d' : List D} {v' : List V}, RepL K q B d v → RepL K q B d' v' → RepL K q B (d ++ d') (v ++ v')
  | _, _, _, _, .nil, h => h
  | _, _, _, _, .cons h r, h' => .cons h (RepL.append r h')
theorem RepL.get : ∀ {d : List D} {v : List V} {i : Nat} {x : D}, RepL K q B d v → d[i]? = some x → ∃ y, v[i]? = some y ∧ Rep K q B x y
  | _, _, _, _, .nil, e => by simp at e
  | _, _, 0, _, .cons h _, e => by simp at e; subst e; exact ⟨_, rfl, h⟩
  | _, _, i + 1, _, .cons _ r, e => by
    obtain ⟨y, h1, h2⟩ := RepL.get (i := i) r (by simpa using e)
    exact ⟨y, by simpa using h1, h2⟩
theorem RepL.get' : ∀ {d : List D} {v : List V} {i : Nat} {y : V}, RepL K q B d v → v[i]? = some y → ∃ x, d[i]? = some x ∧ Rep K q B x y
  | _, _, _, _, .nil, e => by simp at e
  | _, _, 0, _, .cons h _, e => by simp at e; subst e; exact ⟨_, rfl, h⟩
  | _, _, i + 1, _, .cons _ r, e => by
    obtain ⟨y, h1, h2⟩ := RepL.get' (i := i) r (by simpa using e)
    exact ⟨y, by simpa using h1, h2⟩
theorem RepL.take : ∀ {d : List D} {v : List V} (n : Nat), RepL K q B d v → RepL K q B (d.take n) (v.take n)
  | _, _, 0, _ => .nil
  | _, _, _ + 1, .nil => .nil
  | _, _, n + 1, .cons h r => .cons h (RepL.take n r)
theorem RepL.drop : ∀ {d : List D} {v : List V} (n : Nat), RepL K q B d v → RepL K q B (d.drop n) (v.drop n)
  | _, _, 0, h => h
  | _, _, _ + 1, .nil => .nil
  | _, _, n + 1, .cons _ r => RepL.drop n r
theorem RepL.set : ∀ {d : List D} {v : List V} {x : D} {y : V} (n : Nat), RepL K q B d v → Rep K q B x y → RepL K q B (d.set n x) (v.set n y)
  | _, _, _, _, _, .nil, _ => .nil
  | _, _, _, _, 0, .cons _ r, h => .cons h r
  | _, _, _, _, n + 1, .cons h' r, h => .cons h' (RepL.set n r h)
theorem RepL.eraseIdx : ∀ {d : List D} {v : List V} (n : Nat), RepL K q B d v → RepL K q B (d.eraseIdx n) (v.eraseIdx n)
  | _, _, _, .nil => .nil
  | _, _, 0, .cons _ r => r
  | _, _, n + 1, .cons h r => .cons h (RepL.eraseIdx n r)
theorem RepL.reverse : ∀ {d : List D} {v : List V}, RepL K q B d v → RepL K q B d.reverse v.reverse
  | _, _, .nil => .nil
  | _, _, .cons h r => by
    rw [List.reverse_cons, List.reverse_cons]
    exact RepL.append (RepL.reverse r) (.cons h .nil)
end

/-! ### an object that a frame owns -/
section
variable (K : PySem.W.Frag) (q : QA) (B H : Hp)
inductive Own (a : Addr) : D → Prop
  | lst {vs : List V} {ds : List D} : H a = some (.lst vs) → RepL K q B ds vs → Own a (.lst ds)
  | dicK {kvs : List (Key × V)} {ks : List (D × D)} : H a = some (.dK kvs) → RepK K q B ks kvs → Own a (.dic false ks)
  | dicT {kvs : List (List Key × V)} {ks : List (D × D)} : H a = some (.dT kvs) → RepT K q B ks kvs → Own a (.dic true ks)
end
section
variable {K : PySem.W.Frag} {q : QA} {B B' H H' : Hp}
theorem Own.mono {a : Addr} {d : D} (h : Own K q B H a d) (e : Same B B') (k : ∀ o, H a = some o → H' a = some o) : Own K q B' H' a d := by
  cases h with
  | lst h r => exact .lst (k _ h) (r.mono e)
  | dicK h r => exact .dicK (k _ h) (r.mono e)
  | dicT h r => exact .dicT (k _ h) (r.mono e)
theorem Own.there {a : Addr} {d : D} (h : Own K q B H a d) : ∃ o, H a = some o := by
  cases h with
  | lst h r => exact ⟨_, h⟩
  | dicK h r => exact ⟨_, h⟩
  | dicT h r => exact ⟨_, h⟩
/-- the base with the object in it -/
theorem Own.freeze {a : Addr} {d : D} (h : Own K q B H a d) (nb : B a = none) (sub : Same B H) : ∃ o, H a = some o ∧ Rep K q (upd B a o) d (.ref a) ∧ Same B (upd B a o) ∧ Same (upd B a o) H := by
  have s1 : ∀ o, Same B (upd B a o) := fun o b x e => by rw [upd_ne (ne_of_none e nb)]; exact e
  have s2 : ∀ o, H a = some o → Same (upd B a o) H := fun o ho b x e => by
    by_cases hb : b = a
    · subst hb; rw [upd_same] at e; rw [ho]; exact e
    · rw [upd_ne hb] at e; exact sub _ _ e
  cases h with
  | lst h r => exact ⟨_, h, .lst upd_same (r.mono (s1 _)), s1 _, s2 _ h⟩
  | dicK h r => exact ⟨_, h, .dicK (.inl upd_same) (r.mono (s1 _)), s1 _, s2 _ h⟩
  | dicT h r => exact ⟨_, h, .dicT (.inl upd_same) (r.mono (s1 _)), s1 _, s2 _ h⟩
end

/-- the draws' objects -/
structure DrAt (q : QA) (H : Hp) (st : DS) : Prop where
  d : H q.d = some (.dK [(.inr "great", .ref q.g), (.inr "cells", .ref q.c), (.inr "rest", .int st.rest), (.inr "turn", .int st.turn)])
  g : H q.g = some (.lst (st.great.map V.int))
  c : H q.c = some (.lst (st.cells.map V.int))
  gc : q.g ≠ q.c
theorem DrAt.there {q : QA} {H : Hp} {st : DS} (h : DrAt q H st) {a : Addr} (m : q.has a) : ∃ o, H a = some o := by
  rcases m with rfl | rfl | rfl
  · exact ⟨_, h.d⟩
  · exact ⟨_, h.g⟩
  · exact ⟨_, h.c⟩
theorem DrAt.mono {q : QA} {H H' : Hp} {st : DS} (h : DrAt q H st) (e : Same H H') : DrAt q H' st := ⟨e _ _ h.d, e _ _ h.g, e _ _ h.c, h.gc⟩

/-- what a step leaves: the base grows by new objects, all that was tracked but the draws stays -/
def Nw (H : Hp) (a : Addr) : Prop := H a = none ∨ ∃ vs, H a = some (.tup vs)
theorem Nw.back {H H' : Hp} {a : Addr} (h : Nw H' a) (k : ∀ o, H a = some o → H' a = some o) : Nw H a := by
  cases e : H a with
  | none => exact .inl e
  | some o =>
    have e' := k o e
    rcases h with h | ⟨vs, h⟩
    · rw [e'] at h; cases h
    · rw [e'] at h; cases h; exact .inr ⟨vs, e⟩
theorem DrAt.nw {q : QA} {H : Hp} {st : DS} (h : DrAt q H st) {a : Addr} (m : q.has a) (n : Nw H a) : False := by
  rcases m with rfl | rfl | rfl
  · rcases n with n | ⟨vs, n⟩
    · rw [h.d] at n; cases n
    · rw [h.d] at n; cases n
  · rcases n with n | ⟨vs, n⟩
    · rw [h.g] at n; cases n
    · rw [h.g] at n; cases n
  · rcases n with n | ⟨vs, n⟩
    · rw [h.c] at n; cases n
    · rw [h.c] at n; cases n
theorem Own.nw {K : PySem.W.Frag} {q : QA} {B H : Hp} {a : Addr} {d : D} (h : Own K q B H a d) (n : Nw H a) : False := by
  rcases n with n | ⟨vs, n⟩ <;> cases h with
  | lst h r => rw [h] at n; cases n
  | dicK h r => rw [h] at n; cases n
  | dicT h r => rw [h] at n; cases n
structure Ext (q : QA) (B H B' H' : Hp) : Prop where
  b : Same B B'
  h : ∀ a o, ¬ q.has a → H a = some o → H' a = some o
  s : Same B' H'
  n : ∀ a, B a = none → B' a ≠ none → Nw H a
structure Ext0 (B H B' H' : Hp) : Prop where
  b : Same B B'
  h : Same H H'
  s : Same B' H'
  n : ∀ a, B a = none → B' a ≠ none → Nw H a
theorem Ext0.ext {q : QA} {B H B' H' : Hp} (e : Ext0 B H B' H') : Ext q B H B' H' := ⟨e.b, fun a o _ h => e.h a o h, e.s, e.n⟩
theorem Ext0.refl {B H : Hp} (s : Same B H) : Ext0 B H B H := ⟨Same.refl _, Same.refl _, s, fun a h h' => absurd h h'⟩
theorem Ext.refl {q : QA} {B H : Hp} (s : Same B H) : Ext q B H B H := (Ext0.refl s).ext
theorem Ext.trans {q : QA} {B0 H0 B H B' H' : Hp} {st : DS} (d : DrAt q H0 st) (a : Ext q B0 H0 B H) (b : Ext q B H B' H') (d1 : ∃ st1, DrAt q H st1) : Ext q B0 H0 B' H' := by
  refine ⟨a.b.trans b.b, fun c o m h => b.h c o m (a.h c o m h), b.s, fun c h1 h2 => ?_⟩
  by_cases hb : B c = none
  · have h3 := b.n c hb h2
    by_cases m : q.has c
    · obtain ⟨st1, d1⟩ := d1
      exact (d1.nw m h3).elim
    · exact h3.back fun o e => a.h c o m e
  · exact a.n c h1 hb
theorem Ext0.trans {B0 H0 B H B' H' : Hp} (a : Ext0 B0 H0 B H) (b : Ext0 B H B' H') : Ext0 B0 H0 B' H' := by
  refine ⟨a.b.trans b.b, a.h.trans b.h, b.s, fun c h1 h2 => ?_⟩
  by_cases hb : B c = none
  · have h3 := b.n c hb h2
    exact h3.back fun o e => a.h _ _ e
  · exact a.n c h1 hb
/-- a new object that goes into the base -/
theorem Ext0.new {B H : Hp} (s : Same B H) {p : Addr} {o : HO} (hp : H p = none) : Ext0 B H (upd B p o) (upd H p o) := by
  have bp : B p = none := Same.free s hp
  refine ⟨fun b x e => by rw [upd_ne (ne_of_none e bp)]; exact e, fun b x e => by rw [upd_ne (ne_of_none e hp)]; exact e, fun b x e => ?_, fun c h1 h2 => ?_⟩
  · by_cases hb : b = p
    · subst hb; rw [upd_same] at e ⊢; exact e
    · rw [upd_ne hb] at e ⊢; exact s _ _ e
  · by_cases hb : c = p
    · rw [hb]; exact .inl hp
    · rw [upd_ne hb] at h2; exact absurd h1 h2
/-- a new object that does not -/
theorem Ext0.own {B H : Hp} (s : Same B H) {p : Addr} {o : HO} (hp : H p = none) : Ext0 B H B (upd H p o) :=
  ⟨Same.refl _, fun b x e => by rw [upd_ne (ne_of_none e hp)]; exact e, fun b x e => by rw [upd_ne (ne_of_none (s _ _ e) hp)]; exact s _ _ e, fun c h1 h2 => absurd h1 h2⟩

/-! ### slots -/
inductive Var where
  | u | p (d : D) | o (d : D)
abbrev Env' := List Var
section
variable (K : PySem.W.Frag) (q : QA) (H0 B H : Hp) (σ : St)
def VarOk (i : Nat) : Var → Prop
  | .u => True
  | .p d => ∃ v, σ[i]? = some (some v) ∧ Rep K q B d v
  | .o d => ∃ a, σ[i]? = some (some (.ref a)) ∧ H0 a = none ∧ B a = none ∧ ¬ q.has a ∧ Own K q B H a d
end
/-- the state of a frame: entered at B0, H0; now at B, H -/
structure GS (K : PySem.W.Frag) (q : QA) (B0 H0 B H : Hp) (σ : St) (env : List Var) (st : DS) : Prop where
  ext : Ext q B0 H0 B H
  dr0 : ∃ st0, DrAt q H0 st0
  dr : DrAt q H st
  out : ∀ a, q.has a → B a = none
  len : σ.length = env.length
  vars : ∀ (i : Nat) (x : Var), env[i]? = some x → VarOk K q H0 B H σ i x
  apart : ∀ (i j : Nat) (d e : D), env[i]? = some (Var.o d) → env[j]? = some (Var.o e) → σ[i]? = σ[j]? → i = j
section
variable {K : PySem.W.Frag} {q : QA} {B0 H0 B H B' H' : Hp} {σ : St} {env : List Var} {st st' : DS}
theorem GS.sub (g : GS K q B0 H0 B H σ env st) : Same B H := g.ext.s
theorem Ext.out {st st' : DS} (e : Ext q B H B' H') (d : DrAt q H st) (o : ∀ a, q.has a → B a = none) : ∀ a, q.has a → B' a = none := fun a m => by
  cases h : B' a with
  | none => rfl
  | some x =>
    have h2 := e.n a (o a m) (by rw [h]; simp)
    exact (d.nw m h2).elim
theorem VarOk.step {i : Nat} {x : Var} (h : VarOk K q H0 B H σ i x) (e : Ext q B H B' H') : VarOk K q H0 B' H' σ i x := by
  cases x with
  | u => trivial
  | p d => obtain ⟨v, h1, h2⟩ := h; exact ⟨v, h1, h2.mono e.b⟩
  | o d =>
    obtain ⟨a, h1, h2, h3, h4, h5⟩ := h
    refine ⟨a, h1, h2, ?_, h4, h5.mono e.b fun o => e.h a o h4⟩
    cases hb : B' a with
    | none => rfl
    | some y =>
      have h6 := e.n a h3 (by rw [hb]; simp)
      exact (h5.nw h6).elim
theorem GS.step (g : GS K q B0 H0 B H σ env st) (e : Ext q B H B' H') (d : DrAt q H' st') : GS K q B0 H0 B' H' σ env st' := by
  obtain ⟨st0, d0⟩ := g.dr0
  exact ⟨g.ext.trans d0 e ⟨_, g.dr⟩, g.dr0, d, Ext.out (st' := st) e g.dr g.out, g.len, fun i x h => (g.vars i x h).step e, g.apart⟩
theorem GS.step0 (g : GS K q B0 H0 B H σ env st) (e : Ext0 B H B' H') : GS K q B0 H0 B' H' σ env st := g.step e.ext (g.dr.mono e.h)
/-- a new address is none of the draws -/
theorem DrAt.no (d : DrAt q H st) {a : Addr} (h : H a = none) : ¬ q.has a := fun m => by
  obtain ⟨o, e⟩ := d.there m
  rw [e] at h; cases h
theorem Ext.new0 (g : GS K q B0 H0 B H σ env st) {a : Addr} (h : H a = none) : H0 a = none := by
  cases e : H0 a with
  | none => rfl
  | some o =>
    by_cases m : q.has a
    · obtain ⟨o', e'⟩ := g.dr.there m
      rw [e'] at h; cases h
    · rw [g.ext.h a o m e] at h; cases h
/-- a slot set to a value of the base -/
theorem GS.setP (g : GS K q B0 H0 B H σ env st) (i : Nat) {d : D} {v : V} (r : Rep K q B d v) : GS K q B0 H0 B H (σ.set i (some v)) (env.set i (.p d)) st := by
  refine ⟨g.ext, g.dr0, g.dr, g.out, by rw [List.length_set, List.length_set]; exact g.len, fun j x h => ?_, fun j k x y h1 h2 h3 => ?_⟩
  · by_cases hj : i = j
    · subst hj
      by_cases hl : i < env.length
      · rw [List.getElem?_set_self hl] at h
        cases h
        exact ⟨v, List.getElem?_set_self (by rw [g.len]; exact hl), r⟩
      · rw [List.getElem?_eq_none (by rw [List.length_set]; omega)] at h; cases h
    · rw [List.getElem?_set_ne hj] at h
      have z := g.vars j x h
      cases x with
      | u => trivial
      | p d => obtain ⟨v', h1, h2⟩ := z; exact ⟨v', by rw [List.getElem?_set_ne hj]; exact h1, h2⟩
      | o d => obtain ⟨a, h1, h2⟩ := z; exact ⟨a, by rw [List.getElem?_set_ne hj]; exact h1, h2⟩
  · have nj : ∀ {m x}, (env.set i (.p d))[m]? = some (Var.o x) → i ≠ m := fun {m x} h z => by
      subst z
      by_cases hl : i < env.length
      · rw [List.getElem?_set_self hl] at h; cases h
      · rw [List.getElem?_eq_none (by rw [List.length_set]; omega)] at h; cases h
    have a1 := nj h1
    have a2 := nj h2
    rw [List.getElem?_set_ne a1] at h1 h3
    rw [List.getElem?_set_ne a2] at h2 h3
    exact g.apart j k x y h1 h2 h3
/-- a slot set to a new object of its own -/
theorem GS.setO (g : GS K q B0 H0 B H σ env st) (i : Nat) {d : D} {a : Addr} (r : Own K q B H a d) (nb : B a = none) (n0 : H0 a = none) (nq : ¬ q.has a) (far : ∀ (j : Nat) (e : D), j ≠ i → env[j]? = some (Var.o e) → σ[j]? ≠ some (some (V.ref a))) :
    GS K q B0 H0 B H (σ.set i (some (.ref a))) (env.set i (.o d)) st := by
  refine ⟨g.ext, g.dr0, g.dr, g.out, by rw [List.length_set, List.length_set]; exact g.len, fun j x h => ?_, fun j k x y h1 h2 h3 => ?_⟩
  · by_cases hj : i = j
    · subst hj
      by_cases hl : i < env.length
      · rw [List.getElem?_set_self hl] at h
        cases h
        exact ⟨a, List.getElem?_set_self (by rw [g.len]; exact hl), n0, nb, nq, r⟩
      · rw [List.getElem?_eq_none (by rw [List.length_set]; omega)] at h; cases h
    · rw [List.getElem?_set_ne hj] at h
      have z := g.vars j x h
      cases x with
      | u => trivial
      | p d => obtain ⟨v', h1, h2⟩ := z; exact ⟨v', by rw [List.getElem?_set_ne hj]; exact h1, h2⟩
      | o d => obtain ⟨a, h1, h2⟩ := z; exact ⟨a, by rw [List.getElem?_set_ne hj]; exact h1, h2⟩
  · have hl : ∀ {m x}, (env.set i (.o d))[m]? = some (Var.o x) → m < env.length := fun {m x} h => by
      obtain ⟨z, _⟩ := List.getElem?_eq_some_iff.mp h
      rw [List.length_set] at z; exact z
    by_cases e1 : j = i
    · by_cases e2 : k = i
      · rw [e1, e2]
      · exfalso
        subst e1
        rw [List.getElem?_set_ne (fun z => e2 z.symm)] at h2
        rw [List.getElem?_set_self (by rw [g.len]; exact hl h1), List.getElem?_set_ne (fun z => e2 z.symm)] at h3
        exact far k y e2 h2 h3.symm
    · rw [List.getElem?_set_ne (fun z => e1 z.symm)] at h1 h3
      by_cases e2 : k = i
      · exfalso
        subst e2
        rw [List.getElem?_set_self (by rw [g.len]; exact hl h2)] at h3
        exact far j x e1 h1 h3
      · rw [List.getElem?_set_ne (fun z => e2 z.symm)] at h2 h3
        exact g.apart j k x y h1 h2 h3
theorem GS.far (g : GS K q B0 H0 B H σ env st) {a : Addr} (h : H a = none) : ∀ (j : Nat) (e : D), env[j]? = some (Var.o e) → σ[j]? ≠ some (some (V.ref a)) := fun j e h1 h2 => by
  obtain ⟨b, h3, _, _, _, h4⟩ := g.vars j _ h1
  rw [h2] at h3
  have h3 := Option.some.inj (Option.some.inj h3)
  injection h3 with h3
  obtain ⟨o, h5⟩ := h4.there
  rw [← h3, h] at h5; cases h5
/-- an owned object goes into the base -/
def frz (i : Nat) (env : List Var) : List Var := match env[i]? with
  | some (.o d) => env.set i (.p d)
  | _ => env
theorem GS.frz (g : GS K q B0 H0 B H σ env st) (i : Nat) : ∃ B', Same B B' ∧ GS K q B0 H0 B' H σ (frz i env) st := by
  unfold Y.frz
  split
  · rename_i d hd
    obtain ⟨a, h1, h2, h3, h4, h5⟩ := g.vars i _ hd
    obtain ⟨o, ho, r, s1, s2⟩ := h5.freeze h3 g.sub
    have bn : ∀ c, B c = none → (upd B a o) c ≠ none → c = a := fun c e1 e2 => by
      by_cases hc : c = a
      · exact hc
      · rw [upd_ne hc] at e2; exact absurd e1 e2
    have hB : ∀ c, B c = none → c ≠ a → (upd B a o) c = none := fun c e1 e2 => by rw [upd_ne e2]; exact e1
    have hil : i < env.length := by
      obtain ⟨z, _⟩ := List.getElem?_eq_some_iff.mp hd
      exact z
    refine ⟨upd B a o, s1, ⟨⟨g.ext.b.trans s1, g.ext.h, s2, fun c e1 e2 => ?_⟩, g.dr0, g.dr, fun c m => hB c (g.out c m) (fun z => h4 (z ▸ m)), by rw [List.length_set]; exact g.len, fun j x h => ?_, fun j k x y e1 e2 e3 => ?_⟩⟩
    · by_cases hb : B c = none
      · rw [bn c hb e2]; exact .inl h2
      · exact g.ext.n c e1 hb
    · by_cases hj : i = j
      · subst hj
        rw [List.getElem?_set_self hil] at h
        cases h
        exact ⟨_, h1, r⟩
      · rw [List.getElem?_set_ne hj] at h
        have z := g.vars j x h
        cases x with
        | u => trivial
        | p d => obtain ⟨v', h1, h2⟩ := z; exact ⟨v', h1, h2.mono s1⟩
        | o d' =>
          obtain ⟨b, k1, k2, k3, k4, k5⟩ := z
          have hne : b ≠ a := fun z => hj (g.apart i j d d' hd h (by rw [h1, k1, z]))
          exact ⟨b, k1, k2, hB b k3 hne, k4, k5.mono s1 fun _ z => z⟩
    · have nj : ∀ {m x}, (env.set i (.p d))[m]? = some (Var.o x) → i ≠ m := fun {m x} h z => by
        subst z
        rw [List.getElem?_set_self hil] at h; cases h
      have a1 := nj e1
      have a2 := nj e2
      rw [List.getElem?_set_ne a1] at e1
      rw [List.getElem?_set_ne a2] at e2
      exact g.apart j k x y e1 e2 e3
  · exact ⟨B, Same.refl _, g⟩
end
end Y
end

section
set_option Elab.async false
set_option linter.all false
set_option maxRecDepth 100000
set_option autoImplicit false
namespace Y
open PySem PySem.Spec L2
open PyProof.Rows hiding St

/-! ### the state of the draws, threaded -/
abbrev M (α : Type) := DS → Option (α × DS)
def M.ret {α : Type} (a : α) : M α := fun st => some (a, st)
def M.bd {α β : Type} (x : M α) (f : α → M β) : M β := fun st => match x st with
  | none => none
  | some (a, st') => f a st'
def M.lf {α : Type} (o : Option α) : M α := fun st => match o with
  | none => none
  | some a => some (a, st)
theorem M.bd_some {α β : Type} {x : M α} {f : α → M β} {st : DS} {r : β × DS} (h : M.bd x f st = some r) : ∃ a s1, x st = some (a, s1) ∧ f a s1 = some r := by
  unfold M.bd at h
  split at h
  · cases h
  · rename_i a s1 e
    exact ⟨a, s1, e, h⟩
theorem M.lf_some {α : Type} {o : Option α} {st st' : DS} {a : α} (h : M.lf o st = some (a, st')) : o = some a ∧ st' = st := by
  unfold M.lf at h
  split at h
  · cases h
  · cases h
    exact ⟨rfl, rfl⟩
theorem M.ret_some {α : Type} {a b : α} {st st' : DS} (h : M.ret a st = some (b, st')) : b = a ∧ st' = st := by
  unfold M.ret at h
  cases h
  exact ⟨rfl, rfl⟩

abbrev ESem := List Var → M D
abbrev TSem := List Var → M Bool
abbrev ASem := List Var → M (List D)

/-! ### the context of a text -/
structure En where
  P : Program
  w : World
  K : PySem.W.Frag
  T : PySem.W.Frag
  TK : Sub T K
  mg : Str → Option Value
  base : Heap
structure SC extends En where
  N : List Str
  lv : Nat
structure XOk (C : SC) (sc : Scope) (X : Cx) : Prop where
  prog : X.prog = C.P
  w : X.w = C.w
  K : X.K = C.K
  mg : X.mg = C.mg
  base : X.base = C.base
  N : X.N = C.N
  calm : X.calm = true
  xe : PassesOwn (model X.prog X.w) X.A X.env X.xe
  room : Room C.lv X.A
  nd : X.N.Nodup
  kind : X.env.scope.kind = .function
  names : ∀ x k, sc.names.lookup x = some k → ∃ k', X.env.scope.names.lookup x = some k' ∧ (k' = k ∨ (k = .free ∧ k' = .cell))
  fn : ∀ x, sc.names.lookup x = some .cell → X.fn x = true
  out : ∀ x, sc.names.lookup x = none → X.env.scope.names.lookup x = none

def WP (X : Cx) (e : Expr) : TE := fun σ H Q => ∀ pins s, Inv X pins σ H s → wpAny (model X.prog X.w) X.A (eval e X.env) (EP X pins σ Q) X.xe s
def te (C : SC) (sc : Scope) (e : Expr) : TE := fun σ H Q => ∀ X, XOk C sc X → WP X e σ H Q
theorem pe_te {C : SC} {sc : Scope} {e : Expr} {X : Cx} (h : XOk C sc X) : PE X e (te C sc e) := ⟨fun pins s σ H Q I q => q X h pins s I⟩
def tt (C : SC) (sc : Scope) (e : Expr) : TT := fun σ H Q => ∀ X, XOk C sc X → ∀ pins s, Inv X pins σ H s → wpAny (model X.prog X.w) X.A (isTrue e X.env (eval e X.env)) (TP X pins σ Q) X.xe s
theorem pt_tt {C : SC} {sc : Scope} {e : Expr} {X : Cx} (h : XOk C sc X) : PT X e (tt C sc e) := ⟨fun pins s σ H Q I q => q X h pins s I⟩
def tw (C : SC) (sc : Scope) (e : Expr) : TT := fun σ H Q => ∀ X, XOk C sc X → ∀ whole pins s, Inv X pins σ H s → wpAny (model X.prog X.w) X.A (isTrue e X.env whole) (TP X pins σ Q) X.xe s
theorem pw_tw {C : SC} {sc : Scope} {e : Expr} {X : Cx} (h : XOk C sc X) : PW X e (tw C sc e) := ⟨fun whole pins s σ H Q I q => q X h whole pins s I⟩
def ta (C : SC) (sc : Scope) (es : List Expr) : TA := fun σ H Q => ∀ X, XOk C sc X → ∀ pos pins s, Inv X pins σ H s → wpAny (model X.prog X.w) X.A (spliced (backTo pos (starEach es X.env))) (AP X pins σ Q) X.xe s
theorem pa_ta {C : SC} {sc : Scope} {es : List Expr} {X : Cx} (h : XOk C sc X) : PA X es (ta C sc es) := ⟨fun pos pins s σ H Q I q => q X h pos pins s I⟩

/-! ### judgements -/
/-- what an expression in a peeked place gives: a value of the base, or an owned object as it stands -/
def Pk (K : PySem.W.Frag) (q : QA) (B H : Hp) (d : D) (v : V) : Prop := Rep K q B d v ∨ ∃ a, v = .ref a ∧ B a = none ∧ ¬ q.has a ∧ Own K q B H a d
theorem Pk.step {K : PySem.W.Frag} {q : QA} {B H B' H' : Hp} {d : D} {v : V} (h : Pk K q B H d v) (e : Ext q B H B' H') : Pk K q B' H' d v := by
  rcases h with h | ⟨a, h1, h2, h3, h4⟩
  · exact .inl (h.mono e.b)
  · refine .inr ⟨a, h1, ?_, h3, h4.mono e.b fun o => e.h a o h3⟩
    cases hb : B' a with
    | none => rfl
    | some y =>
      have h6 := e.n a h2 (by rw [hb]; simp)
      exact (h4.nw h6).elim
inductive PkL (K : PySem.W.Frag) (q : QA) (B H : Hp) : List D → List V → Prop
  | nil : PkL K q B H [] []
  | cons {d : D} {ds : List D} {v : V} {vs : List V} : Pk K q B H d v → PkL K q B H ds vs → PkL K q B H (d :: ds) (v :: vs)
theorem RepL.pk {K : PySem.W.Frag} {q : QA} {B H : Hp} : ∀ {ds : List D} {vs : List V}, RepL K q B ds vs → PkL K q B H ds vs
  | _, _, .nil => .nil
  | _, _, .cons h r => .cons (.inl h) (RepL.pk r)

section
variable (C : SC) (sc : Scope)
def SE (e : Expr) (f : ESem) : Prop := ∀ q B0 H0 B H σ env st d st' (Q : VK), GS C.T q B0 H0 B H σ env st → f env st = some (d, st') →
  (∀ v B' H', Ext q B H B' H' → DrAt q H' st' → Rep C.T q B' d v → Q v H') → te C sc e σ H Q
def SP (e : Expr) (f : ESem) : Prop := ∀ q B0 H0 B H σ env st d st' (Q : VK), GS C.T q B0 H0 B H σ env st → f env st = some (d, st') →
  (∀ v B' H', Ext q B H B' H' → DrAt q H' st' → Pk C.T q B' H' d v → Q v H') → te C sc e σ H Q
/-- a new object, not in the base -/
def SF (e : Expr) (f : ESem) : Prop := ∀ q B0 H0 B H σ env st d st' (Q : VK), GS C.T q B0 H0 B H σ env st → f env st = some (d, st') →
  (∀ a B' H', Ext q B H B' H' → DrAt q H' st' → H a = none → B' a = none → Own C.T q B' H' a d → Q (.ref a) H') → te C sc e σ H Q
def ST (e : Expr) (f : TSem) : Prop := ∀ q B0 H0 B H σ env st b st' (Q : Bool → Hp → Prop), GS C.T q B0 H0 B H σ env st → f env st = some (b, st') →
  (∀ B' H', Ext q B H B' H' → DrAt q H' st' → Q b H') → tt C sc e σ H Q
def SW (e : Expr) (f : TSem) : Prop := ∀ q B0 H0 B H σ env st b st' (Q : Bool → Hp → Prop), GS C.T q B0 H0 B H σ env st → f env st = some (b, st') →
  (∀ B' H', Ext q B H B' H' → DrAt q H' st' → Q b H') → tw C sc e σ H Q
def SA (es : List Expr) (f : ASem) : Prop := ∀ q B0 H0 B H σ env st ds st' (Q : List V → Hp → Prop), GS C.T q B0 H0 B H σ env st → f env st = some (ds, st') →
  (∀ vs B' H', Ext q B H B' H' → DrAt q H' st' → RepL C.T q B' ds vs → Q vs H') → ta C sc es σ H Q
def SAP (es : List Expr) (f : ASem) : Prop := ∀ q B0 H0 B H σ env st ds st' (Q : List V → Hp → Prop), GS C.T q B0 H0 B H σ env st → f env st = some (ds, st') →
  (∀ vs B' H', Ext q B H B' H' → DrAt q H' st' → PkL C.T q B' H' ds vs → Q vs H') → ta C sc es σ H Q
end

section
variable {C : SC} {sc : Scope} {e a b c : Expr} {f fa fb fc : ESem} {pos : Pos}
theorem SE.sp (h : SE C sc e f) : SP C sc e f := fun q B0 H0 B H σ env st d st' Q g hf k => h q B0 H0 B H σ env st d st' Q g hf fun v B' H' e1 d1 r => k v B' H' e1 d1 (.inl r)
theorem SF.se (h : SF C sc e f) : SE C sc e f := fun q B0 H0 B H σ env st d st' Q g hf k => h q B0 H0 B H σ env st d st' Q g hf fun a B' H' e1 d1 n1 n2 r => by
  obtain ⟨o, ho, r', s1, s2⟩ := r.freeze n2 e1.s
  refine k (.ref a) (upd B' a o) H' ⟨e1.b.trans s1, e1.h, s2, fun c h1 h2 => ?_⟩ d1 r'
  by_cases hc : c = a
  · rw [hc]; exact .inl n1
  · rw [upd_ne hc] at h2; exact e1.n c h1 h2
theorem SE.of {t : TE} (hp : ∀ X, XOk C sc X → PE X e t) (hr : ∀ q B0 H0 B H σ env st d st' (Q : VK), GS C.T q B0 H0 B H σ env st → f env st = some (d, st') →
    (∀ v B' H', Ext q B H B' H' → DrAt q H' st' → Rep C.T q B' d v → Q v H') → t σ H Q) : SE C sc e f :=
  fun q B0 H0 B H σ env st d st' Q g hf k X hX pins s I => (hp X hX).run pins s σ H Q I (hr q B0 H0 B H σ env st d st' Q g hf k)
theorem SP.of {t : TE} (hp : ∀ X, XOk C sc X → PE X e t) (hr : ∀ q B0 H0 B H σ env st d st' (Q : VK), GS C.T q B0 H0 B H σ env st → f env st = some (d, st') →
    (∀ v B' H', Ext q B H B' H' → DrAt q H' st' → Pk C.T q B' H' d v → Q v H') → t σ H Q) : SP C sc e f :=
  fun q B0 H0 B H σ env st d st' Q g hf k X hX pins s I => (hp X hX).run pins s σ H Q I (hr q B0 H0 B H σ env st d st' Q g hf k)
theorem SF.of {t : TE} (hp : ∀ X, XOk C sc X → PE X e t) (hr : ∀ q B0 H0 B H σ env st d st' (Q : VK), GS C.T q B0 H0 B H σ env st → f env st = some (d, st') →
    (∀ a B' H', Ext q B H B' H' → DrAt q H' st' → H a = none → B' a = none → Own C.T q B' H' a d → Q (.ref a) H') → t σ H Q) : SF C sc e f :=
  fun q B0 H0 B H σ env st d st' Q g hf k X hX pins s I => (hp X hX).run pins s σ H Q I (hr q B0 H0 B H σ env st d st' Q g hf k)
theorem ST.of {t : TT} {f : TSem} (hp : ∀ X, XOk C sc X → PT X e t) (hr : ∀ q B0 H0 B H σ env st d st' (Q : Bool → Hp → Prop), GS C.T q B0 H0 B H σ env st → f env st = some (d, st') →
    (∀ B' H', Ext q B H B' H' → DrAt q H' st' → Q d H') → t σ H Q) : ST C sc e f :=
  fun q B0 H0 B H σ env st d st' Q g hf k X hX pins s I => (hp X hX).run pins s σ H Q I (hr q B0 H0 B H σ env st d st' Q g hf k)
theorem SW.of {t : TT} {f : TSem} (hp : ∀ X, XOk C sc X → PW X e t) (hr : ∀ q B0 H0 B H σ env st d st' (Q : Bool → Hp → Prop), GS C.T q B0 H0 B H σ env st → f env st = some (d, st') →
    (∀ B' H', Ext q B H B' H' → DrAt q H' st' → Q d H') → t σ H Q) : SW C sc e f :=
  fun q B0 H0 B H σ env st d st' Q g hf k X hX whole pins s I => (hp X hX).run whole pins s σ H Q I (hr q B0 H0 B H σ env st d st' Q g hf k)
theorem SA.of {t : TA} {es : List Expr} {f : ASem} (hp : ∀ X, XOk C sc X → PA X es t) (hr : ∀ q B0 H0 B H σ env st d st' (Q : List V → Hp → Prop), GS C.T q B0 H0 B H σ env st → f env st = some (d, st') →
    (∀ vs B' H', Ext q B H B' H' → DrAt q H' st' → RepL C.T q B' d vs → Q vs H') → t σ H Q) : SA C sc es f :=
  fun q B0 H0 B H σ env st d st' Q g hf k X hX pos pins s I => (hp X hX).run pos pins s σ H Q I (hr q B0 H0 B H σ env st d st' Q g hf k)
theorem SAP.of {t : TA} {es : List Expr} {f : ASem} (hp : ∀ X, XOk C sc X → PA X es t) (hr : ∀ q B0 H0 B H σ env st d st' (Q : List V → Hp → Prop), GS C.T q B0 H0 B H σ env st → f env st = some (d, st') →
    (∀ vs B' H', Ext q B H B' H' → DrAt q H' st' → PkL C.T q B' H' d vs → Q vs H') → t σ H Q) : SAP C sc es f :=
  fun q B0 H0 B H σ env st d st' Q g hf k X hX pos pins s I => (hp X hX).run pos pins s σ H Q I (hr q B0 H0 B H σ env st d st' Q g hf k)

/-! ### names and constants -/
def VisB (sc : Scope) (x : Str) : Bool := match sc.names.lookup x with
  | some .local => true
  | some .cell => true
  | some .free => true
  | _ => false
theorem XOk.vis {X : Cx} {x : Str} (h : XOk C sc X) (v : VisB sc x = true) : Vis X.env.scope x := by
  unfold VisB at v
  split at v
  · rename_i e; obtain ⟨k', h1, h2⟩ := h.names x _ e
    rcases h2 with rfl | ⟨z, _⟩
    · exact .inl h1
    · cases z
  · rename_i e; obtain ⟨k', h1, h2⟩ := h.names x _ e
    rcases h2 with rfl | ⟨z, _⟩
    · exact .inr (.inl h1)
    · cases z
  · rename_i e; obtain ⟨k', h1, h2⟩ := h.names x _ e
    rcases h2 with rfl | ⟨_, rfl⟩
    · exact .inr (.inr h1)
    · exact .inr (.inl h1)
  · cases v
theorem XOk.gl {X : Cx} {x : Str} (h : XOk C sc X) (v : sc.names.lookup x = some .globalImplicit) : Gl X x := by
  obtain ⟨k', h1, h2⟩ := h.names x _ v
  rcases h2 with rfl | ⟨z, _⟩
  · exact h1
  · cases z
def varE (i : Nat) : ESem := fun env st => match env[i]? with
  | some (.p d) => some (d, st)
  | _ => none
def peekE (i : Nat) : ESem := fun env st => match env[i]? with
  | some (.p d) => some (d, st)
  | some (.o d) => some (d, st)
  | _ => none
theorem pv_of {X : Cx} {x : Str} {i : Nat} {px : Pos} (h : XOk C sc X) (hN : C.N[i]? = some x) (hv : VisB sc x = true) (hd : (x == ("__debug__" : Str)) = false) (hcd : (x == ("__classdict__" : Str)) = false) : PE X (.Name x px) (tVar i) :=
  pe_var (by rw [h.N]; exact hN) (h.vis hv) hd hcd
theorem se_var {x : Str} {i : Nat} {px : Pos} (hN : C.N[i]? = some x) (hv : VisB sc x = true) (hd : (x == ("__debug__" : Str)) = false := by decide) (hcd : (x == ("__classdict__" : Str)) = false := by decide) : SE C sc (.Name x px) (varE i) := by
  refine SE.of (fun X h => pv_of h hN hv hd hcd) fun q B0 H0 B H σ env st d st' Q g hf k => ?_
  unfold varE at hf
  split at hf
  · rename_i d' e
    cases hf
    obtain ⟨v, h1, h2⟩ := g.vars i _ e
    exact ⟨v, h1, k v B H (Ext.refl g.sub) g.dr h2⟩
  · cases hf
theorem sp_var {x : Str} {i : Nat} {px : Pos} (hN : C.N[i]? = some x) (hv : VisB sc x = true) (hd : (x == ("__debug__" : Str)) = false := by decide) (hcd : (x == ("__classdict__" : Str)) = false := by decide) : SP C sc (.Name x px) (peekE i) := by
  refine SP.of (fun X h => pv_of h hN hv hd hcd) fun q B0 H0 B H σ env st d st' Q g hf k => ?_
  unfold peekE at hf
  split at hf
  · rename_i d' e
    cases hf
    obtain ⟨v, h1, h2⟩ := g.vars i _ e
    exact ⟨v, h1, k v B H (Ext.refl g.sub) g.dr (.inl h2)⟩
  · rename_i d' e
    cases hf
    obtain ⟨a, h1, _, h3, h4, h5⟩ := g.vars i _ e
    exact ⟨_, h1, k _ B H (Ext.refl g.sub) g.dr (.inr ⟨a, rfl, h3, h4, h5⟩)⟩
  · cases hf
def cE (d : D) : ESem := fun _ => M.ret d
theorem se_cst {d : D} {v : V} (hp : ∀ X, XOk C sc X → PE X e (tC v)) (hr : ∀ K q B, Rep K q B d v) : SE C sc e (cE d) := by
  refine SE.of hp fun q B0 H0 B H σ env st d' st' Q g hf k => ?_
  obtain ⟨rfl, rfl⟩ := M.ret_some hf
  exact k v B H (Ext.refl g.sub) g.dr (hr _ _ _)
theorem se_int {i : Int} {j : Nat} : SE C sc (.Constant (.int i) j pos) (cE (.int i)) := se_cst (fun _ _ => pe_int) fun _ _ _ => .int i
theorem se_bl {i : Bool} {j : Nat} : SE C sc (.Constant (.bool i) j pos) (cE (.bl i)) := se_cst (fun _ _ => pe_bl) fun _ _ _ => .bl i
theorem se_non {j : Nat} : SE C sc (.Constant .none j pos) (cE .non) := se_cst (fun _ _ => pe_non) fun _ _ _ => .non
theorem se_str {x : Str} {j : Nat} : SE C sc (.Constant (.str x) j pos) (cE (.str x)) := se_cst (fun _ _ => pe_str) fun _ _ _ => .str x
/-- a constant int of the module -/
theorem se_gint {x : Str} {i : Int} {px : Pos} (hg : sc.names.lookup x = some .globalImplicit) (hm : ∃ t, C.mg x = some (.int i t)) (hd : (x == ("__debug__" : Str)) = false := by decide) : SE C sc (.Name x px) (cE (.int i)) := by
  obtain ⟨t, hm⟩ := hm
  exact se_cst (v := .int i) (fun X h => pe_glob (h.gl hg) (by rw [h.mg]; exact hm) ⟨t, rfl⟩ hd) fun _ _ _ => .int i

/-! ### lists of arguments -/
def isStarred : Expr → Bool
  | .Starred .. => true
  | _ => false
theorem star_cons {e : Expr} {es : List Expr} {env : Env} (h : isStarred e = false) : starEach (e :: es) env = (false, eval e env) :: starEach es env := by
  cases e <;> first | rfl | cases h
def nilA : ASem := fun _ => M.ret []
def consA (f : ESem) (r : ASem) : ASem := fun env => M.bd (f env) fun d => M.bd (r env) fun ds => M.ret (d :: ds)
theorem sa_nil : SA C sc [] nilA := SA.of (fun _ _ => pa_nil) fun q B0 H0 B H σ env st d st' Q g hf k => by
  obtain ⟨rfl, rfl⟩ := M.ret_some hf
  exact k [] B H (Ext.refl g.sub) g.dr .nil
theorem sa_cons {es : List Expr} {r : ASem} (h : SE C sc e f) (hr : SA C sc es r) (hs : ∀ env, starEach (e :: es) env = (false, eval e env) :: starEach es env := by intro _; exact star_cons (by rfl)) : SA C sc (e :: es) (consA f r) :=
  SA.of (fun X hX => pa_cons (pe_te hX) (pa_ta hX) (hs _)) fun q B0 H0 B H σ env st d st' Q g hf k => by
    obtain ⟨x, s1, h1, hf⟩ := M.bd_some hf
    obtain ⟨xs, s2, h2, hf⟩ := M.bd_some hf
    obtain ⟨rfl, rfl⟩ := M.ret_some hf
    refine h q B0 H0 B H σ env st x s1 _ g h1 fun v B1 H1 e1 d1 r1 => ?_
    have g1 := g.step e1 d1
    refine hr q B0 H0 B1 H1 σ env s1 xs _ _ g1 h2 fun vs B2 H2 e2 d2 r2 => ?_
    exact k _ B2 H2 (e1.trans g.dr e2 ⟨_, d1⟩) d2 (.cons (r1.mono e2.b) r2)
theorem sap_nil : SAP C sc [] nilA := SAP.of (fun _ _ => pa_nil) fun q B0 H0 B H σ env st d st' Q g hf k => by
  obtain ⟨rfl, rfl⟩ := M.ret_some hf
  exact k [] B H (Ext.refl g.sub) g.dr .nil
theorem PkL.step {K : PySem.W.Frag} {q : QA} {B H B' H' : Hp} (e : Ext q B H B' H') : ∀ {d : List D} {v : List V}, PkL K q B H d v → PkL K q B' H' d v
  | _, _, .nil => .nil
  | _, _, .cons h r => .cons (h.step e) (PkL.step e r)
theorem sap_cons {es : List Expr} {r : ASem} (h : SP C sc e f) (hr : SAP C sc es r) (hs : ∀ env, starEach (e :: es) env = (false, eval e env) :: starEach es env := by intro _; exact star_cons (by rfl)) : SAP C sc (e :: es) (consA f r) :=
  SAP.of (fun X hX => pa_cons (pe_te hX) (pa_ta hX) (hs _)) fun q B0 H0 B H σ env st d st' Q g hf k => by
    obtain ⟨x, s1, h1, hf⟩ := M.bd_some hf
    obtain ⟨xs, s2, h2, hf⟩ := M.bd_some hf
    obtain ⟨rfl, rfl⟩ := M.ret_some hf
    refine h q B0 H0 B H σ env st x s1 _ g h1 fun v B1 H1 e1 d1 r1 => ?_
    have g1 := g.step e1 d1
    refine hr q B0 H0 B1 H1 σ env s1 xs _ _ g1 h2 fun vs B2 H2 e2 d2 r2 => ?_
    exact k _ B2 H2 (e1.trans g.dr e2 ⟨_, d1⟩) d2 (.cons (r1.step e2) r2)

/-! ### displays -/
def tupE (n : Nat) (f : ASem) : ESem := fun env => M.bd (f env) fun ds => M.ret (.tup ds)
def lstE (f : ASem) : ESem := fun env => M.bd (f env) fun ds => M.ret (.lst ds)
theorem ta_len {es : List Expr} {f : ASem} (h : SA C sc es f) : True := trivial
theorem se_tup {es : List Expr} {f : ASem} {x1 : Nat} {n : Nat} (h : SA C sc es f) (hl : ∀ env st ds st', f env st = some (ds, st') → ds.length = n) (hn : n ≤ 1000 := by decide) : SE C sc (.Tuple es x1 pos) (tupE n f) :=
  SE.of (fun X hX => pe_tup (pa_ta hX)) fun q B0 H0 B H σ env st d st' Q g hf k => by
    obtain ⟨xs, s1, h1, hf⟩ := M.bd_some hf
    obtain ⟨rfl, rfl⟩ := M.ret_some hf
    refine h q B0 H0 B H σ env st xs _ _ g h1 fun vs B1 H1 e1 d1 r1 => ?_
    refine ⟨?_, fun p hp => ?_⟩
    · rw [← r1.length, hl _ _ _ _ h1]
      exact Nat.le_of_lt (small1000 hn)
    · have e2 := Ext0.new e1.s (o := .tup vs) hp
      exact k _ _ _ (e1.trans g.dr e2.ext ⟨_, d1⟩) (d1.mono e2.h) (.tup (.inl upd_same) (r1.mono e2.b))
theorem sf_lst {es : List Expr} {f : ASem} {n : Nat} (h : SA C sc es f) (hl : ∀ env st ds st', f env st = some (ds, st') → ds.length = n) (hn : n ≤ 1000 := by decide) : SF C sc (.List es pos) (lstE f) :=
  SF.of (fun X hX => pe_lst (pa_ta hX)) fun q B0 H0 B H σ env st d st' Q g hf k => by
    obtain ⟨xs, s1, h1, hf⟩ := M.bd_some hf
    obtain ⟨rfl, rfl⟩ := M.ret_some hf
    refine h q B0 H0 B H σ env st xs _ _ g h1 fun vs B1 H1 e1 d1 r1 => ?_
    refine ⟨?_, fun p hp => ?_⟩
    · rw [← r1.length, hl _ _ _ _ h1]
      exact Nat.le_of_lt (small1000 hn)
    · have e2 := Ext0.own e1.s (o := .lst vs) hp
      refine k _ _ _ (e1.trans g.dr e2.ext ⟨_, d1⟩) (d1.mono e2.h) ?_ (Same.free e1.s hp) (.lst upd_same r1)
      cases z : H p with
      | none => rfl
      | some o =>
        by_cases m : q.has p
        · obtain ⟨o', z'⟩ := d1.there m; rw [z'] at hp; cases hp
        · rw [e1.h p o m z] at hp; cases hp
theorem len_nil : ∀ env st ds st', nilA env st = some (ds, st') → ds.length = 0 := fun env st ds st' h => by
  obtain ⟨rfl, _⟩ := M.ret_some h; rfl
theorem len_cons {f : ESem} {r : ASem} {n : Nat} (hr : ∀ env st ds st', r env st = some (ds, st') → ds.length = n) : ∀ env st ds st', consA f r env st = some (ds, st') → ds.length = n + 1 := fun env st ds st' h => by
  obtain ⟨x, s1, h1, h⟩ := M.bd_some h
  obtain ⟨xs, s2, h2, h⟩ := M.bd_some h
  obtain ⟨rfl, rfl⟩ := M.ret_some h
  rw [List.length_cons, hr _ _ _ _ h2]
def dnewE (t : Bool) : ESem := fun _ => M.ret (.dic t [])
theorem sf_dnewK : SF C sc (.Dict [] [] pos) (dnewE false) :=
  SF.of (fun X hX => pe_dnewK) fun q B0 H0 B H σ env st d st' Q g hf k p hp => by
    obtain ⟨rfl, rfl⟩ := M.ret_some hf
    have e2 := Ext0.own g.sub (o := .dK []) hp
    exact k _ _ _ e2.ext (g.dr.mono e2.h) hp (Same.free g.sub hp) (.dicK upd_same .nil)
theorem sf_dnewT : SF C sc (.Dict [] [] pos) (dnewE true) :=
  SF.of (fun X hX => pe_dnewT) fun q B0 H0 B H σ env st d st' Q g hf k p hp => by
    obtain ⟨rfl, rfl⟩ := M.ret_some hf
    have e2 := Ext0.own g.sub (o := .dT []) hp
    exact k _ _ _ e2.ext (g.dr.mono e2.h) hp (Same.free g.sub hp) (.dicT upd_same .nil)

/-! ### operations by values -/
def OpD (K : PySem.W.Frag) (r : R2) (g : D → D → Option D) : Prop := ∀ q B H a b x y d, Same B H → Pk K q B H a x → Pk K q B H b y → g a b = some d →
  ∀ Q : VK, (∀ v B' H', Ext0 B H B' H' → Rep K q B' d v → Q v H') → r x y H Q
def OpF (K : PySem.W.Frag) (r : R2) (g : D → D → Option D) : Prop := ∀ q B H a b x y d, Same B H → Pk K q B H a x → Pk K q B H b y → g a b = some d →
  ∀ Q : VK, (∀ p B' H', Ext0 B H B' H' → H p = none → B' p = none → Own K q B' H' p d → Q (.ref p) H') → r x y H Q
def CallD (K : PySem.W.Frag) (r : List V → Hp → VK → Prop) (g : List D → Option D) : Prop := ∀ q B H ds vs d, Same B H → PkL K q B H ds vs → g ds = some d →
  ∀ Q : VK, (∀ v B' H', Ext0 B H B' H' → Rep K q B' d v → Q v H') → r vs H Q
def CallF (K : PySem.W.Frag) (r : List V → Hp → VK → Prop) (g : List D → Option D) : Prop := ∀ q B H ds vs d, Same B H → PkL K q B H ds vs → g ds = some d →
  ∀ Q : VK, (∀ p B' H', Ext0 B H B' H' → H p = none → B' p = none → Own K q B' H' p d → Q (.ref p) H') → r vs H Q
def bin (g : D → D → Option D) (fa fb : ESem) : ESem := fun env => M.bd (fa env) fun x => M.bd (fb env) fun y => M.lf (g x y)
def callE (g : List D → Option D) (fs : ASem) : ESem := fun env => M.bd (fs env) fun ds => M.lf (g ds)
theorem new_back {q : QA} {B H B' H' : Hp} {st : DS} (e1 : Ext q B H B' H') (d1 : DrAt q H' st) {p : Addr} (hp : H' p = none) : H p = none := by
  cases z : H p with
  | none => rfl
  | some o =>
    by_cases m : q.has p
    · obtain ⟨o', z'⟩ := d1.there m; rw [z'] at hp; cases hp
    · rw [e1.h p o m z] at hp; cases hp
theorem bin_run {r : R2} {g : D → D → Option D} (hd : OpD C.T r g) (ha : SP C sc a fa) (hb : SP C sc b fb) : ∀ q B0 H0 B H σ env st d st' (Q : VK), GS C.T q B0 H0 B H σ env st → bin g fa fb env st = some (d, st') →
    (∀ v B' H', Ext q B H B' H' → DrAt q H' st' → Rep C.T q B' d v → Q v H') → tOp r (te C sc a) (te C sc b) σ H Q := fun q B0 H0 B H σ env st d st' Q g0 hf k => by
  obtain ⟨x, s1, h1, hf⟩ := M.bd_some hf
  obtain ⟨y, s2, h2, hf⟩ := M.bd_some hf
  obtain ⟨h3, rfl⟩ := M.lf_some hf
  refine ha q B0 H0 B H σ env st x s1 _ g0 h1 fun v B1 H1 e1 d1 r1 => ?_
  refine hb q B0 H0 B1 H1 σ env s1 y _ _ (g0.step e1 d1) h2 fun u B2 H2 e2 d2 r2 => ?_
  refine hd q B2 H2 x y v u d e2.s (r1.step e2) r2 h3 Q fun z B3 H3 e3 r3 => ?_
  exact k z B3 H3 ((e1.trans g0.dr e2 ⟨_, d1⟩).trans g0.dr e3.ext ⟨_, d2⟩) (d2.mono e3.h) r3
theorem bin_runF {r : R2} {g : D → D → Option D} (hd : OpF C.T r g) (ha : SP C sc a fa) (hb : SP C sc b fb) : ∀ q B0 H0 B H σ env st d st' (Q : VK), GS C.T q B0 H0 B H σ env st → bin g fa fb env st = some (d, st') →
    (∀ p B' H', Ext q B H B' H' → DrAt q H' st' → H p = none → B' p = none → Own C.T q B' H' p d → Q (.ref p) H') → tOp r (te C sc a) (te C sc b) σ H Q := fun q B0 H0 B H σ env st d st' Q g0 hf k => by
  obtain ⟨x, s1, h1, hf⟩ := M.bd_some hf
  obtain ⟨y, s2, h2, hf⟩ := M.bd_some hf
  obtain ⟨h3, rfl⟩ := M.lf_some hf
  refine ha q B0 H0 B H σ env st x s1 _ g0 h1 fun v B1 H1 e1 d1 r1 => ?_
  refine hb q B0 H0 B1 H1 σ env s1 y _ _ (g0.step e1 d1) h2 fun u B2 H2 e2 d2 r2 => ?_
  refine hd q B2 H2 x y v u d e2.s (r1.step e2) r2 h3 Q fun p B3 H3 e3 n1 n2 r3 => ?_
  have e12 := e1.trans g0.dr e2 ⟨_, d1⟩
  exact k p B3 H3 (e12.trans g0.dr e3.ext ⟨_, d2⟩) (d2.mono e3.h) (new_back e12 d2 n1) n2 r3
theorem se_bin {op : Operator} {r : R2} {g : D → D → Option D} (ho : ∀ X, XOk C sc X → OpR X (binaryOp op) r) (hd : OpD C.T r g) (ha : SP C sc a fa) (hb : SP C sc b fb) : SE C sc (.BinOp a op b pos) (bin g fa fb) :=
  SE.of (fun X hX => pe_op (ho X hX) (pe_te hX) (pe_te hX)) (bin_run hd ha hb)
theorem sf_bin {op : Operator} {r : R2} {g : D → D → Option D} (ho : ∀ X, XOk C sc X → OpR X (binaryOp op) r) (hd : OpF C.T r g) (ha : SP C sc a fa) (hb : SP C sc b fb) : SF C sc (.BinOp a op b pos) (bin g fa fb) :=
  SF.of (fun X hX => pe_op (ho X hX) (pe_te hX) (pe_te hX)) (bin_runF hd ha hb)
theorem se_cmp {op : CmpOp} {r : R2} {g : D → D → Option D} (ho : ∀ X, XOk C sc X → OpR X (compareOp op) r) (hd : OpD C.T r g) (ha : SP C sc a fa) (hb : SP C sc b fb) (hm : behindInMarks op b = false) : SE C sc (.Compare a [op] [b] pos) (bin g fa fb) :=
  SE.of (fun X hX => pe_cmpR (ho X hX) (pe_te hX) (pe_te hX) hm) (bin_run hd ha hb)
def asB : D → Option Bool
  | .bl b => some b
  | _ => none
def testE (f : ESem) : TSem := fun env => M.bd (f env) fun d => M.lf (asB d)
theorem rep_bl {K : PySem.W.Frag} {q : QA} {B : Hp} {b : Bool} {v : V} (h : Rep K q B (.bl b) v) : v = .bl b := by cases h; rfl
theorem asB_some {d : D} {b : Bool} (h : asB d = some b) : d = .bl b := by
  cases d <;> first | cases h | skip
  rfl
theorem st_cmp {op : CmpOp} {r : R2} {g : D → D → Option D} (ho : ∀ X, XOk C sc X → OpR X (compareOp op) r) (hd : OpD C.T r g) (ha : SP C sc a fa) (hb : SP C sc b fb) (hm : behindInMarks op b = false) : ST C sc (.Compare a [op] [b] pos) (testE (bin g fa fb)) :=
  ST.of (fun X hX => pt_cmpR (ho X hX) (pe_te hX) (pe_te hX) hm) fun q B0 H0 B H σ env st d st' Q g0 hf k => by
    obtain ⟨x, s1, h1, hf⟩ := M.bd_some hf
    obtain ⟨h2, rfl⟩ := M.lf_some hf
    have h2 := asB_some h2
    subst h2
    exact bin_run hd ha hb q B0 H0 B H σ env st _ _ _ g0 h1 fun v B' H' e1 d1 r1 => ⟨d, rep_bl r1, k B' H' e1 d1⟩
theorem st_val (h : SE C sc e f) (he : ∀ env whole, isTrue e env whole = (do let v ← whole; standAt e.pos; holding [v] (truthy v)) := by intro _ _; rfl) : ST C sc e (testE f) :=
  ST.of (fun X hX => pt_val (pe_te hX) (he _)) fun q B0 H0 B H σ env st d st' Q g0 hf k => by
    obtain ⟨x, s1, h1, hf⟩ := M.bd_some hf
    obtain ⟨h2, rfl⟩ := M.lf_some hf
    have h2 := asB_some h2
    subst h2
    exact h q B0 H0 B H σ env st _ _ _ g0 h1 fun v B' H' e1 d1 r1 => ⟨d, rep_bl r1, k B' H' e1 d1⟩
def notT (f : TSem) : TSem := fun env => M.bd (f env) fun b => M.ret (!b)
def andT (f g : TSem) : TSem := fun env => M.bd (f env) fun b => if b = true then g env else M.ret false
def orT (f g : TSem) : TSem := fun env => M.bd (f env) fun b => if b = true then M.ret true else g env
theorem st_not {f : TSem} (h : ST C sc a f) : ST C sc (.UnaryOp .Not a pos) (notT f) :=
  ST.of (fun X hX => pt_not (pt_tt hX)) fun q B0 H0 B H σ env st d st' Q g0 hf k => by
    obtain ⟨x, s1, h1, hf⟩ := M.bd_some hf
    obtain ⟨rfl, rfl⟩ := M.ret_some hf
    exact h q B0 H0 B H σ env st _ _ _ g0 h1 fun B' H' e1 d1 => k B' H' e1 d1
theorem sw_and1 {f : TSem} (h : ST C sc a f) : SW C sc (.BoolOp .And [a] pos) f :=
  SW.of (fun X hX => pw_and1 (pt_tt hX)) fun q B0 H0 B H σ env st d st' Q g0 hf k => h q B0 H0 B H σ env st d st' Q g0 hf k
theorem sw_or1 {f : TSem} (h : ST C sc a f) : SW C sc (.BoolOp .Or [a] pos) f :=
  SW.of (fun X hX => pw_or1 (pt_tt hX)) fun q B0 H0 B H σ env st d st' Q g0 hf k => h q B0 H0 B H σ env st d st' Q g0 hf k
theorem sw_and {f g : TSem} {rest : List Expr} (h : ST C sc a f) (hr : SW C sc (.BoolOp .And (b :: rest) pos) g) : SW C sc (.BoolOp .And (a :: b :: rest) pos) (andT f g) :=
  SW.of (fun X hX => pw_and (pt_tt hX) (pw_tw hX)) fun q B0 H0 B H σ env st d st' Q g0 hf k => by
    obtain ⟨x, s1, h1, hf⟩ := M.bd_some hf
    refine h q B0 H0 B H σ env st x s1 _ g0 h1 fun B1 H1 e1 d1 => ?_
    cases x with
    | true =>
      rw [if_pos rfl] at hf ⊢
      exact hr q B0 H0 B1 H1 σ env s1 d st' Q (g0.step e1 d1) hf fun B2 H2 e2 d2 => k B2 H2 (e1.trans g0.dr e2 ⟨_, d1⟩) d2
    | false =>
      rw [if_neg (by decide)] at hf ⊢
      obtain ⟨rfl, rfl⟩ := M.ret_some hf
      exact k B1 H1 e1 d1
theorem sw_or {f g : TSem} {rest : List Expr} (h : ST C sc a f) (hr : SW C sc (.BoolOp .Or (b :: rest) pos) g) : SW C sc (.BoolOp .Or (a :: b :: rest) pos) (orT f g) :=
  SW.of (fun X hX => pw_or (pt_tt hX) (pw_tw hX)) fun q B0 H0 B H σ env st d st' Q g0 hf k => by
    obtain ⟨x, s1, h1, hf⟩ := M.bd_some hf
    refine h q B0 H0 B H σ env st x s1 _ g0 h1 fun B1 H1 e1 d1 => ?_
    cases x with
    | false =>
      rw [if_neg (by decide)] at hf ⊢
      exact hr q B0 H0 B1 H1 σ env s1 d st' Q (g0.step e1 d1) hf fun B2 H2 e2 d2 => k B2 H2 (e1.trans g0.dr e2 ⟨_, d1⟩) d2
    | true =>
      rw [if_pos rfl] at hf ⊢
      obtain ⟨rfl, rfl⟩ := M.ret_some hf
      exact k B1 H1 e1 d1
theorem SW.st {f : TSem} (h : SW C sc e f) : ST C sc e f := fun q B0 H0 B H σ env st d st' Q g0 hf k X hX pins s I => h q B0 H0 B H σ env st d st' Q g0 hf k X hX _ pins s I
/-- and, or, not as values -/
def notE (f : ESem) : ESem := fun env => M.bd (f env) fun d => M.bd (M.lf (asB d)) fun b => M.ret (.bl (!b))
def andE (f g : ESem) : ESem := fun env => M.bd (f env) fun d => M.bd (M.lf (asB d)) fun b => if b = true then g env else M.ret (.bl false)
def orE (f g : ESem) : ESem := fun env => M.bd (f env) fun d => M.bd (M.lf (asB d)) fun b => if b = true then M.ret (.bl true) else g env
theorem se_one {op : BoolOp} (h : SE C sc a f) : SE C sc (.BoolOp op [a] pos) f := SE.of (fun X hX => pe_one (pe_te hX)) fun q B0 H0 B H σ env st d st' Q g0 hf k => h q B0 H0 B H σ env st d st' Q g0 hf k
theorem se_and {rest : List Expr} {g : ESem} (h : SE C sc a f) (hr : SE C sc (.BoolOp .And (b :: rest) pos) g) : SE C sc (.BoolOp .And (a :: b :: rest) pos) (andE f g) :=
  SE.of (fun X hX => pe_and (pe_te hX) (pe_te hX)) fun q B0 H0 B H σ env st d st' Q g0 hf k => by
    obtain ⟨x, s1, h1, hf⟩ := M.bd_some hf
    obtain ⟨y, s2, h2, hg⟩ := M.bd_some hf
    obtain ⟨h3, rfl⟩ := M.lf_some h2
    have h4 := asB_some h3
    subst h4
    refine h q B0 H0 B H σ env st _ _ _ g0 h1 fun v B1 H1 e1 d1 r1 => ⟨y, rep_bl r1, ?_⟩
    cases y with
    | true =>
      rw [if_pos rfl] at hg ⊢
      exact hr q B0 H0 B1 H1 σ env _ d st' Q (g0.step e1 d1) hg fun v B2 H2 e2 d2 r2 => k v B2 H2 (e1.trans g0.dr e2 ⟨_, d1⟩) d2 r2
    | false =>
      rw [if_neg (by decide)] at hg ⊢
      obtain ⟨rfl, rfl⟩ := M.ret_some hg
      exact k _ B1 H1 e1 d1 (.bl false)
theorem se_or {rest : List Expr} {g : ESem} (h : SE C sc a f) (hr : SE C sc (.BoolOp .Or (b :: rest) pos) g) : SE C sc (.BoolOp .Or (a :: b :: rest) pos) (orE f g) :=
  SE.of (fun X hX => pe_or (pe_te hX) (pe_te hX)) fun q B0 H0 B H σ env st d st' Q g0 hf k => by
    obtain ⟨x, s1, h1, hf⟩ := M.bd_some hf
    obtain ⟨y, s2, h2, hg⟩ := M.bd_some hf
    obtain ⟨h3, rfl⟩ := M.lf_some h2
    have h4 := asB_some h3
    subst h4
    refine h q B0 H0 B H σ env st _ _ _ g0 h1 fun v B1 H1 e1 d1 r1 => ⟨y, rep_bl r1, ?_⟩
    cases y with
    | false =>
      rw [if_neg (by decide)] at hg ⊢
      exact hr q B0 H0 B1 H1 σ env _ d st' Q (g0.step e1 d1) hg fun v B2 H2 e2 d2 r2 => k v B2 H2 (e1.trans g0.dr e2 ⟨_, d1⟩) d2 r2
    | true =>
      rw [if_pos rfl] at hg ⊢
      obtain ⟨rfl, rfl⟩ := M.ret_some hg
      exact k _ B1 H1 e1 d1 (.bl true)
theorem se_not (h : SE C sc a f) : SE C sc (.UnaryOp .Not a pos) (notE f) :=
  SE.of (fun X hX => pe_not (pe_te hX)) fun q B0 H0 B H σ env st d st' Q g0 hf k => by
    obtain ⟨x, s1, h1, hf⟩ := M.bd_some hf
    obtain ⟨y, s2, h2, hg⟩ := M.bd_some hf
    obtain ⟨h3, rfl⟩ := M.lf_some h2
    have h4 := asB_some h3
    subst h4
    obtain ⟨rfl, rfl⟩ := M.ret_some hg
    exact h q B0 H0 B H σ env st _ _ _ g0 h1 fun v B1 H1 e1 d1 r1 => ⟨y, rep_bl r1, k _ B1 H1 e1 d1 (.bl _)⟩
def iteE (c : TSem) (f g : ESem) : ESem := fun env => M.bd (c env) fun b => if b = true then f env else g env
theorem se_ite {fc : TSem} (hc : ST C sc c fc) (ha : SE C sc a fa) (hb : SE C sc b fb) : SE C sc (.IfExp c a b pos) (iteE fc fa fb) :=
  SE.of (fun X hX => pe_ifExp (pt_tt hX) (pe_te hX) (pe_te hX)) fun q B0 H0 B H σ env st d st' Q g0 hf k => by
    obtain ⟨x, s1, h1, hf⟩ := M.bd_some hf
    refine hc q B0 H0 B H σ env st x s1 _ g0 h1 fun B1 H1 e1 d1 => ?_
    cases x with
    | true =>
      rw [if_pos rfl] at hf ⊢
      exact ha q B0 H0 B1 H1 σ env s1 d st' Q (g0.step e1 d1) hf fun v B2 H2 e2 d2 r2 => k v B2 H2 (e1.trans g0.dr e2 ⟨_, d1⟩) d2 r2
    | false =>
      rw [if_neg (by decide)] at hf ⊢
      exact hb q B0 H0 B1 H1 σ env s1 d st' Q (g0.step e1 d1) hf fun v B2 H2 e2 d2 r2 => k v B2 H2 (e1.trans g0.dr e2 ⟨_, d1⟩) d2 r2
/-- a < b < c -/
def chainE (g g' : D → D → Option D) (fa fb fc : ESem) : ESem := fun env => M.bd (fa env) fun x => M.bd (fb env) fun y => M.bd (M.lf ((g x y).bind asB)) fun b => if b = true then M.bd (fc env) fun z => M.lf (g' y z) else M.ret (.bl false)
theorem chain_run {r r' : R2} {g g' : D → D → Option D} (hd : OpD C.T r g) (hd' : OpD C.T r' g') (ha : SP C sc a fa) (hb : SP C sc b fb) (hc : SP C sc c fc) : ∀ q B0 H0 B H σ env st d st' (Q : VK), GS C.T q B0 H0 B H σ env st → chainE g g' fa fb fc env st = some (d, st') →
    (∀ v B' H', Ext q B H B' H' → DrAt q H' st' → Rep C.T q B' d v → Q v H') → tChain r r' (te C sc a) (te C sc b) (te C sc c) σ H Q := fun q B0 H0 B H σ env st d st' Q g0 hf k => by
  obtain ⟨x, s1, h1, hf⟩ := M.bd_some hf
  obtain ⟨y, s2, h2, hf⟩ := M.bd_some hf
  obtain ⟨b', s3, h3, hf⟩ := M.bd_some hf
  obtain ⟨h3', rfl⟩ := M.lf_some h3
  obtain ⟨z0, h4, h5⟩ := Option.bind_eq_some_iff.mp h3'
  have h5' := asB_some h5
  subst h5'
  refine ha q B0 H0 B H σ env st x s1 _ g0 h1 fun v B1 H1 e1 d1 r1 => ?_
  have g1 := g0.step e1 d1
  refine hb q B0 H0 B1 H1 σ env s1 y _ _ g1 h2 fun u B2 H2 e2 d2 r2 => ?_
  refine hd q B2 H2 x y v u _ e2.s (r1.step e2) r2 h4 _ fun z B3 H3 e3 r3 => ⟨b', rep_bl r3, ?_⟩
  have e13 := (e1.trans g0.dr e2 ⟨_, d1⟩).trans g0.dr e3.ext ⟨_, d2⟩
  have d3 := d2.mono e3.h
  cases b' with
  | true =>
    rw [if_pos rfl] at hf ⊢
    obtain ⟨w, s4, h6, hf⟩ := M.bd_some hf
    obtain ⟨h7, rfl⟩ := M.lf_some hf
    refine hc q B0 H0 B3 H3 σ env _ w _ _ (g0.step e13 d3) h6 fun u' B4 H4 e4 d4 r4 => ?_
    refine hd' q B4 H4 y w u u' d e4.s ((r2.step e3.ext).step e4) r4 h7 Q fun z' B5 H5 e5 r5 => ?_
    exact k z' B5 H5 ((e13.trans g0.dr e4 ⟨_, d3⟩).trans g0.dr e5.ext ⟨_, d4⟩) (d4.mono e5.h) r5
  | false =>
    rw [if_neg (by decide)] at hf ⊢
    obtain ⟨rfl, rfl⟩ := M.ret_some hf
    exact k _ B3 H3 e13 d3 (.bl false)
theorem se_chain {op op' : CmpOp} {r r' : R2} {g g' : D → D → Option D} (ho : ∀ X, XOk C sc X → OpR X (compareOp op) r) (ho' : ∀ X, XOk C sc X → OpR X (compareOp op') r') (hd : OpD C.T r g) (hd' : OpD C.T r' g') (ha : SP C sc a fa) (hb : SP C sc b fb) (hc : SP C sc c fc)
    (hm : lastMarks [op, op'] [b, c] = false := by with_unfolding_all rfl) : SE C sc (.Compare a [op, op'] [b, c] pos) (chainE g g' fa fb fc) :=
  SE.of (fun X hX => pe_chain (ho X hX) (ho' X hX) (pe_te hX) (pe_te hX) (pe_te hX) hm) (chain_run hd hd' ha hb hc)
theorem st_chain {op op' : CmpOp} {r r' : R2} {g g' : D → D → Option D} (ho : ∀ X, XOk C sc X → OpR X (compareOp op) r) (ho' : ∀ X, XOk C sc X → OpR X (compareOp op') r') (hd : OpD C.T r g) (hd' : OpD C.T r' g') (ha : SP C sc a fa) (hb : SP C sc b fb) (hc : SP C sc c fc)
    (hm : lastMarks [op, op'] [b, c] = false := by with_unfolding_all rfl) : ST C sc (.Compare a [op, op'] [b, c] pos) (testE (chainE g g' fa fb fc)) :=
  ST.of (fun X hX => pt_chain (ho X hX) (ho' X hX) (pe_te hX) (pe_te hX) (pe_te hX) hm) fun q B0 H0 B H σ env st d st' Q g0 hf k => by
    obtain ⟨x, s1, h1, hf⟩ := M.bd_some hf
    obtain ⟨h2, rfl⟩ := M.lf_some hf
    have h2 := asB_some h2
    subst h2
    exact chain_run hd hd' ha hb hc q B0 H0 B H σ env st _ _ _ g0 h1 fun v B' H' e1 d1 r1 => ⟨d, rep_bl r1, k B' H' e1 d1⟩
/-! ### calls of built-ins -/
theorem sx_call {r : List V → Hp → VK → Prop} {g : List D → Option D} {es : List Expr} {fs : ASem} (hd : CallD C.T r g) (ha : SAP C sc es fs) : ∀ q B0 H0 B H σ env st d st' (Q : VK), GS C.T q B0 H0 B H σ env st → callE g fs env st = some (d, st') →
    (∀ v B' H', Ext q B H B' H' → DrAt q H' st' → Rep C.T q B' d v → Q v H') → tCB r (ta C sc es) σ H Q := fun q B0 H0 B H σ env st d st' Q g0 hf k => by
  obtain ⟨x, s1, h1, hf⟩ := M.bd_some hf
  obtain ⟨h3, rfl⟩ := M.lf_some hf
  refine ha q B0 H0 B H σ env st x _ _ g0 h1 fun vs B1 H1 e1 d1 r1 => ?_
  refine hd q B1 H1 x vs d e1.s r1 h3 Q fun z B3 H3 e3 r3 => ?_
  exact k z B3 H3 (e1.trans g0.dr e3.ext ⟨_, d1⟩) (d1.mono e3.h) r3
theorem sx_callF {r : List V → Hp → VK → Prop} {g : List D → Option D} {es : List Expr} {fs : ASem} (hd : CallF C.T r g) (ha : SAP C sc es fs) : ∀ q B0 H0 B H σ env st d st' (Q : VK), GS C.T q B0 H0 B H σ env st → callE g fs env st = some (d, st') →
    (∀ p B' H', Ext q B H B' H' → DrAt q H' st' → H p = none → B' p = none → Own C.T q B' H' p d → Q (.ref p) H') → tCB r (ta C sc es) σ H Q := fun q B0 H0 B H σ env st d st' Q g0 hf k => by
  obtain ⟨x, s1, h1, hf⟩ := M.bd_some hf
  obtain ⟨h3, rfl⟩ := M.lf_some hf
  refine ha q B0 H0 B H σ env st x _ _ g0 h1 fun vs B1 H1 e1 d1 r1 => ?_
  refine hd q B1 H1 x vs d e1.s r1 h3 Q fun p B3 H3 e3 n1 n2 r3 => ?_
  exact k p B3 H3 (e1.trans g0.dr e3.ext ⟨_, d1⟩) (d1.mono e3.h) (new_back e1 d1 n1) n2 r3
section
variable {x : Str} {p : Pos} {es : List Expr} {fs : ASem} {r : List V → Hp → VK → Prop} {g : List D → Option D}
theorem se_callB {id : String} (hc : ∀ X, XOk C sc X → CallR X (.builtin id) r) (hd : CallD C.T r g) (hg : sc.names.lookup x = some .globalImplicit) (hm : C.mg x = none) (hv : bootBuiltins x = some (.builtin id)) (ha : SAP C sc (e :: es) fs) (hn : x ≠ "__name__" := by decide) (hdb : (x == ("__debug__" : Str)) = false := by decide)
    (he : ∀ env, starEach (e :: es) env = (false, eval e env) :: starEach es env := by intro _; exact star_cons (by rfl)) (hpl : ∀ env, (backTo pos (starEach es env)).any (·.1) = false := by intro _; rfl) : SE C sc (.Call (.Name x p) (e :: es) [] pos) (callE g fs) :=
  SE.of (fun X hX => pe_callB (hc X hX) (hX.gl hg) (by rw [hX.mg]; exact hm) hv (pa_ta hX) hn hdb (he _) (hpl _)) (sx_call hd ha)
theorem sf_callB {id : String} (hc : ∀ X, XOk C sc X → CallR X (.builtin id) r) (hd : CallF C.T r g) (hg : sc.names.lookup x = some .globalImplicit) (hm : C.mg x = none) (hv : bootBuiltins x = some (.builtin id)) (ha : SAP C sc (e :: es) fs) (hn : x ≠ "__name__" := by decide) (hdb : (x == ("__debug__" : Str)) = false := by decide)
    (he : ∀ env, starEach (e :: es) env = (false, eval e env) :: starEach es env := by intro _; exact star_cons (by rfl)) (hpl : ∀ env, (backTo pos (starEach es env)).any (·.1) = false := by intro _; rfl) : SF C sc (.Call (.Name x p) (e :: es) [] pos) (callE g fs) :=
  SF.of (fun X hX => pe_callB (hc X hX) (hX.gl hg) (by rw [hX.mg]; exact hm) hv (pa_ta hX) hn hdb (he _) (hpl _)) (sx_callF hd ha)
theorem se_callTy {T : String} (hc : ∀ X, XOk C sc X → CallR X (.type T) r) (hd : CallD C.T r g) (hg : sc.names.lookup x = some .globalImplicit) (hm : C.mg x = none) (hv : bootBuiltins x = some (.type T)) (ha : SAP C sc (e :: es) fs) (hn : x ≠ "__name__" := by decide) (hdb : (x == ("__debug__" : Str)) = false := by decide)
    (he : ∀ env, starEach (e :: es) env = (false, eval e env) :: starEach es env := by intro _; exact star_cons (by rfl)) (hpl : ∀ env, (backTo pos (starEach es env)).any (·.1) = false := by intro _; rfl) : SE C sc (.Call (.Name x p) (e :: es) [] pos) (callE g fs) :=
  SE.of (fun X hX => pe_callTy (hc X hX) (hX.gl hg) (by rw [hX.mg]; exact hm) hv (pa_ta hX) hn hdb (he _) (hpl _)) (sx_call hd ha)
theorem sf_callTy {T : String} (hc : ∀ X, XOk C sc X → CallR X (.type T) r) (hd : CallF C.T r g) (hg : sc.names.lookup x = some .globalImplicit) (hm : C.mg x = none) (hv : bootBuiltins x = some (.type T)) (ha : SAP C sc (e :: es) fs) (hn : x ≠ "__name__" := by decide) (hdb : (x == ("__debug__" : Str)) = false := by decide)
    (he : ∀ env, starEach (e :: es) env = (false, eval e env) :: starEach es env := by intro _; exact star_cons (by rfl)) (hpl : ∀ env, (backTo pos (starEach es env)).any (·.1) = false := by intro _; rfl) : SF C sc (.Call (.Name x p) (e :: es) [] pos) (callE g fs) :=
  SF.of (fun X hX => pe_callTy (hc X hX) (hX.gl hg) (by rw [hX.mg]; exact hm) hv (pa_ta hX) hn hdb (he _) (hpl _)) (sx_callF hd ha)
end
end
end Y
end

section
set_option Elab.async false
set_option linter.all false
set_option maxRecDepth 100000
set_option autoImplicit false
namespace Y
open PySem PySem.Spec L2
open PyProof.Rows hiding St

section
variable {K T : PySem.W.Frag} {q : QA} {B H : Hp} {x y v : V}
theorem Pk.int {i : Int} (h : Pk T q B H (.int i) x) : x = .int i := by
  rcases h with h | ⟨a, _, _, _, h⟩
  · cases h; rfl
  · cases h
theorem Pk.bl {i : Bool} (h : Pk T q B H (.bl i) x) : x = .bl i := by
  rcases h with h | ⟨a, _, _, _, h⟩
  · cases h; rfl
  · cases h
theorem Pk.tup {ds : List D} (t : Sub T K) (s : Same B H) (h : Pk T q B H (.tup ds) x) : ∃ a vs, x = .ref a ∧ SqT K H a vs ∧ RepL T q B ds vs ∧ Rep T q B (.tup ds) x := by
  rcases h with h | ⟨a, _, _, _, h⟩
  · have h0 := h
    cases h with
    | tup h1 h2 => exact ⟨_, _, rfl, h1.sq t s, h2, h0⟩
  · cases h
theorem Pk.lst {ds : List D} (s : Same B H) (h : Pk T q B H (.lst ds) x) : ∃ a vs, x = .ref a ∧ H a = some (.lst vs) ∧ RepL T q B ds vs := by
  rcases h with h | ⟨a, rfl, _, _, h⟩
  · cases h with
    | lst h1 h2 => exact ⟨_, _, rfl, s _ _ h1, h2⟩
  · cases h with
    | lst h1 h2 => exact ⟨_, _, rfl, h1, h2⟩
theorem Pk.dicK {ds : List (D × D)} (s : Same B H) (h : Pk T q B H (.dic false ds) x) : ∃ a vs, x = .ref a ∧ Rd H a (.dK vs) ∧ RepK T q B ds vs := by
  rcases h with h | ⟨a, rfl, _, _, h⟩
  · cases h with
    | dicK h1 h2 => exact ⟨_, _, rfl, Same.rd s h1, h2⟩
  · cases h with
    | dicK h1 h2 => exact ⟨_, _, rfl, .inl h1, h2⟩
theorem Pk.dicT {ds : List (D × D)} (s : Same B H) (h : Pk T q B H (.dic true ds) x) : ∃ a vs, x = .ref a ∧ Rd H a (.dT vs) ∧ RepT T q B ds vs := by
  rcases h with h | ⟨a, rfl, _, _, h⟩
  · cases h with
    | dicT h1 h2 => exact ⟨_, _, rfl, Same.rd s h1, h2⟩
  · cases h with
    | dicT h1 h2 => exact ⟨_, _, rfl, .inl h1, h2⟩
end

/-! ### numbers -/
section
variable {K T : PySem.W.Frag}
def addD : D → D → Option D
  | .int i, .int j => some (.int (i + j))
  | .tup xs, .tup ys => if xs.length + ys.length ≤ sizeLine then some (.tup (xs ++ ys)) else none
  | .lst xs, .lst ys => if xs.length + ys.length ≤ sizeLine then some (.lst (xs ++ ys)) else none
  | _, _ => none
def rAddA (K : PySem.W.Frag) : R2 := fun x y H Q => (rI0 fun i j => .int (i + j)) x y H Q ∨ rCatA K x y H Q ∨ rCat x y H Q
theorem op_addA {X : Cx} : OpR X (binaryOp .Add) (rAddA X.K) := op_add.or (op_catA.or op_cat)
theorem od_add (t : Sub T K) : OpD T (rAddA K) addD := by
  intro q B H a b x y d s ha hb hg Q k
  unfold addD at hg
  split at hg
  · cases hg
    exact .inl ⟨_, _, ha.int, hb.int, k _ B H (Ext0.refl s) (.int _)⟩
  · split at hg
    · rename_i hz
      cases hg
      obtain ⟨a1, vs, rfl, h1, r1, w1⟩ := ha.tup t s
      obtain ⟨a2, us, rfl, h2, r2, w2⟩ := hb.tup t s
      refine .inr (.inl ⟨_, _, _, _, rfl, rfl, h1, h2, by rw [← r1.length, ← r2.length]; exact hz, fun e => ?_, fun e e' => ?_, fun e e' p hp => ?_⟩)
      · subst e
        cases r1
        exact k _ B H (Ext0.refl s) w2
      · subst e'
        cases r2
        rw [List.append_nil] at k
        exact k _ B H (Ext0.refl s) w1
      · have e2 := Ext0.new s (o := .tup (vs ++ us)) hp
        exact k _ _ _ e2 (.tup (.inl upd_same) ((r1.append r2).mono e2.b))
    · cases hg
  · split at hg
    · rename_i hz
      cases hg
      obtain ⟨a1, vs, rfl, h1, r1⟩ := ha.lst s
      obtain ⟨a2, us, rfl, h2, r2⟩ := hb.lst s
      refine .inr (.inr ⟨_, _, _, _, rfl, rfl, h1, h2, by rw [← r1.length, ← r2.length]; exact hz, fun p hp => ?_⟩)
      have e2 := Ext0.new s (o := .lst (vs ++ us)) hp
      exact k _ _ _ e2 (.lst upd_same ((r1.append r2).mono e2.b))
    · cases hg
  · cases hg
def catL : D → D → Option D
  | .lst xs, .lst ys => if xs.length + ys.length ≤ sizeLine then some (.lst (xs ++ ys)) else none
  | _, _ => none
theorem of_cat : OpF T rCat catL := by
  intro q B H a b x y d s ha hb hg Q k
  unfold catL at hg
  split at hg
  · split at hg
    · rename_i hz
      cases hg
      obtain ⟨a1, vs, rfl, h1, r1⟩ := ha.lst s
      obtain ⟨a2, us, rfl, h2, r2⟩ := hb.lst s
      refine ⟨_, _, _, _, rfl, rfl, h1, h2, by rw [← r1.length, ← r2.length]; exact hz, fun p hp => ?_⟩
      have e2 := Ext0.own s (o := .lst (vs ++ us)) hp
      exact k _ _ _ e2 hp (Same.free s hp) (.lst upd_same (r1.append r2))
    · cases hg
  · cases hg
def subD : D → D → Option D
  | .int i, .int j => some (.int (i - j))
  | _, _ => none
/-- two ints, under a condition -/
theorem od_I {C : Int → Int → Prop} {g : Int → Int → Int} {f : D → D → Option D} (hf : ∀ a b d, f a b = some d → ∃ i j, a = .int i ∧ b = .int j ∧ C i j ∧ d = .int (g i j)) : OpD T (rI C fun i j => .int (g i j)) f := by
  intro q B H a b x y d s ha hb hg Q k
  obtain ⟨i, j, rfl, rfl, hc, rfl⟩ := hf _ _ _ hg
  exact ⟨i, j, ha.int, hb.int, hc, k _ B H (Ext0.refl s) (.int _)⟩
theorem od_I0 {g : Int → Int → Int} {f : D → D → Option D} (hf : ∀ a b d, f a b = some d → ∃ i j, a = .int i ∧ b = .int j ∧ d = .int (g i j)) : OpD T (rI0 fun i j => .int (g i j)) f := by
  intro q B H a b x y d s ha hb hg Q k
  obtain ⟨i, j, rfl, rfl, rfl⟩ := hf _ _ _ hg
  exact ⟨i, j, ha.int, hb.int, k _ B H (Ext0.refl s) (.int _)⟩
theorem od_B0 {g : Int → Int → Bool} {f : D → D → Option D} (hf : ∀ a b d, f a b = some d → ∃ i j, a = .int i ∧ b = .int j ∧ d = .bl (g i j)) : OpD T (rI0 fun i j => .bl (g i j)) f := by
  intro q B H a b x y d s ha hb hg Q k
  obtain ⟨i, j, rfl, rfl, rfl⟩ := hf _ _ _ hg
  exact ⟨i, j, ha.int, hb.int, k _ B H (Ext0.refl s) (.bl _)⟩
theorem od_sub : OpD T (rI0 fun i j => .int (i - j)) subD := od_I0 fun a b d h => by
  unfold subD at h
  split at h
  · cases h; exact ⟨_, _, rfl, rfl, rfl⟩
  · cases h
def mulOk (i j : Int) : Bool := decide (i.natAbs.log2 + j.natAbs.log2 < 1000000)
theorem mulOk_ok {i j : Int} (h : mulOk i j = true) : CMulW i j := by
  have h' : i.natAbs.log2 + j.natAbs.log2 < 1000000 := of_decide_eq_true h
  exact h'
def mulD : D → D → Option D
  | .int i, .int j => if mulOk i j then some (.int (i * j)) else none
  | .lst xs, .int k => if -(2 ^ 63) ≤ k ∧ k < 2 ^ 63 ∧ xs.length * k.toNat ≤ sizeLine then some (.lst (List.replicate k.toNat xs).flatten) else none
  | .tup xs, .int k => if xs ≠ [] ∧ 2 ≤ k ∧ k ≤ 1000 ∧ xs.length ≤ 1000 then some (.tup (List.replicate k.toNat xs).flatten) else none
  | _, _ => none
theorem RepL.rep {q : QA} {B : Hp} {ds : List D} {vs : List V} (h : RepL T q B ds vs) : ∀ n : Nat, RepL T q B (List.replicate n ds).flatten (List.replicate n vs).flatten
  | 0 => .nil
  | n + 1 => by
    rw [List.replicate_succ, List.replicate_succ, List.flatten_cons, List.flatten_cons]
    exact h.append (RepL.rep h n)
def rMulA (K : PySem.W.Frag) : R2 := fun x y H Q => (rI CMulW fun i j => .int (i * j)) x y H Q ∨ rRep x y H Q ∨ rRepT K x y H Q
theorem op_mulA {X : Cx} : OpR X (binaryOp .Mult) (rMulA X.K) := op_mulW.or (op_rep.or op_repT)
theorem od_mul (t : Sub T K) : OpD T (rMulA K) mulD := by
  intro q B H a b x y d s ha hb hg Q k
  unfold mulD at hg
  split at hg
  · split at hg
    · rename_i hc
      cases hg
      exact .inl ⟨_, _, ha.int, hb.int, mulOk_ok hc, k _ B H (Ext0.refl s) (.int _)⟩
    · cases hg
  · split at hg
    · rename_i hz
      cases hg
      obtain ⟨a1, vs, rfl, h1, r1⟩ := ha.lst s
      refine .inr (.inl ⟨_, _, _, rfl, hb.int, h1, hz.1, hz.2.1, by rw [← r1.length]; exact hz.2.2, fun p hp => ?_⟩)
      exact k _ _ _ (Ext0.new s hp) (.lst upd_same ((r1.rep _).mono (Ext0.new s hp).b))
    · cases hg
  · split at hg
    · rename_i hz
      cases hg
      obtain ⟨a1, vs, rfl, h1, r1, _⟩ := ha.tup t s
      refine .inr (.inr ⟨_, _, _, rfl, hb.int, h1, fun e => ?_, hz.2.1, hz.2.2.1, by rw [← r1.length]; exact hz.2.2.2, fun p hp => ?_⟩)
      · subst e; cases r1; exact hz.1 rfl
      · exact k _ _ _ (Ext0.new s hp) (.tup (.inl upd_same) ((r1.rep _).mono (Ext0.new s hp).b))
    · cases hg
  · cases hg
def repL : D → D → Option D
  | .lst xs, .int k => if -(2 ^ 63) ≤ k ∧ k < 2 ^ 63 ∧ xs.length * k.toNat ≤ sizeLine then some (.lst (List.replicate k.toNat xs).flatten) else none
  | _, _ => none
theorem of_rep : OpF T rRep repL := by
  intro q B H a b x y d s ha hb hg Q k
  unfold repL at hg
  split at hg
  · split at hg
    · rename_i hz
      cases hg
      obtain ⟨a1, vs, rfl, h1, r1⟩ := ha.lst s
      refine ⟨_, _, _, rfl, hb.int, h1, hz.1, hz.2.1, by rw [← r1.length]; exact hz.2.2, fun p hp => ?_⟩
      exact k _ _ _ (Ext0.own s hp) hp (Same.free s hp) (.lst upd_same (r1.rep _))
    · cases hg
  · cases hg
def fdivD : D → D → Option D
  | .int i, .int j => if 0 < j ∧ j.natAbs.log2 < 9000 then some (.int (i / j)) else none
  | _, _ => none
theorem od_fdiv : OpD T (rI CDivW fun i j => .int (i / j)) fdivD := od_I fun a b d h => by
  unfold fdivD at h
  split at h
  · split at h
    · rename_i hc; cases h; exact ⟨_, _, rfl, rfl, hc, rfl⟩
    · cases h
  · cases h
def modD : D → D → Option D
  | .int i, .int j => if 0 < j then some (.int (i % j)) else none
  | _, _ => none
theorem od_mod : OpD T (rI (fun _ j => 0 < j) fun i j => .int (i % j)) modD := od_I fun a b d h => by
  unfold modD at h
  split at h
  · split at h
    · rename_i hc; cases h; exact ⟨_, _, rfl, rfl, hc, rfl⟩
    · cases h
  · cases h
def powD : D → D → Option D
  | .int i, .int j => if 0 ≤ j ∧ j ≤ 1000000 ∧ i.natAbs < 2 ^ 64 then some (.int (i ^ j.toNat)) else none
  | _, _ => none
theorem od_pow : OpD T (rI CPow fun i j => .int (i ^ j.toNat)) powD := od_I fun a b d h => by
  unfold powD at h
  split at h
  · split at h
    · rename_i hc; cases h; exact ⟨_, _, rfl, rfl, hc, rfl⟩
    · cases h
  · cases h
def ltD : D → D → Option D
  | .int i, .int j => some (.bl (decide (i < j)))
  | _, _ => none
def leD : D → D → Option D
  | .int i, .int j => some (.bl (decide (i ≤ j)))
  | _, _ => none
def gtD : D → D → Option D
  | .int i, .int j => some (.bl (decide (j < i)))
  | _, _ => none
def geD : D → D → Option D
  | .int i, .int j => some (.bl (decide (j ≤ i)))
  | _, _ => none
theorem od_lt : OpD T (rI0 fun i j => .bl (decide (i < j))) ltD := od_B0 fun a b d h => by
  unfold ltD at h
  split at h
  · cases h; exact ⟨_, _, rfl, rfl, rfl⟩
  · cases h
theorem od_le : OpD T (rI0 fun i j => .bl (decide (i ≤ j))) leD := od_B0 fun a b d h => by
  unfold leD at h
  split at h
  · cases h; exact ⟨_, _, rfl, rfl, rfl⟩
  · cases h
theorem od_gt : OpD T (rI0 fun i j => .bl (decide (j < i))) gtD := od_B0 fun a b d h => by
  unfold gtD at h
  split at h
  · cases h; exact ⟨_, _, rfl, rfl, rfl⟩
  · cases h
theorem od_ge : OpD T (rI0 fun i j => .bl (decide (j ≤ i))) geD := od_B0 fun a b d h => by
  unfold geD at h
  split at h
  · cases h; exact ⟨_, _, rfl, rfl, rfl⟩
  · cases h
def negD : D → Option D
  | .int i => some (.int (-i))
  | _ => none

/-! ### == and != -/
mutual
def D.py : D → PyData
  | .non => .none
  | .bl b => .bool b
  | .int i => .int i
  | .str x => .str x
  | .tup xs => .tuple (pyL xs)
  | .lst xs => .list (pyL xs)
  | .dic _ _ => .none
  | .drw => .none
def pyL : List D → List PyData
  | [] => []
  | d :: ds => d.py :: pyL ds
end
mutual
/-- plain: no dict in it, at most n deep -/
def D.flat : Nat → D → Bool
  | _, .non => true
  | _, .bl _ => true
  | _, .int _ => true
  | _, .str x => PyData.canLay0 (.str x)
  | 0, .tup _ => false
  | 0, .lst _ => false
  | n + 1, .tup xs => flatL n xs
  | n + 1, .lst xs => flatL n xs
  | _, .dic _ _ => false
  | _, .drw => false
def flatL : Nat → List D → Bool
  | _, [] => true
  | n, d :: ds => d.flat n && flatL n ds
end
mutual
theorem flat_lay : ∀ (n : Nat) (d : D), d.flat n = true → PyData.canLay0 d.py = true ∧ d.py.depth ≤ n
  | n, .non, _ => ⟨by simp [D.py, PyData.canLay0], by simp [D.py, PyData.depth]⟩
  | n, .bl _, _ => ⟨by simp [D.py, PyData.canLay0], by simp [D.py, PyData.depth]⟩
  | n, .int _, _ => ⟨by simp [D.py, PyData.canLay0], by simp [D.py, PyData.depth]⟩
  | n, .str x, h => ⟨by simpa [D.py, D.flat] using h, by simp [D.py, PyData.depth]⟩
  | 0, .tup _, h => by simp [D.flat] at h
  | 0, .lst _, h => by simp [D.flat] at h
  | n + 1, .tup xs, h => by
    obtain ⟨h1, h2⟩ := flatL_lay n xs (by simpa [D.flat] using h)
    exact ⟨by simpa [D.py, PyData.canLay0] using h1, by simp [D.py, PyData.depth]; exact h2⟩
  | n + 1, .lst xs, h => by
    obtain ⟨h1, h2⟩ := flatL_lay n xs (by simpa [D.flat] using h)
    exact ⟨by simpa [D.py, PyData.canLay0] using h1, by simp [D.py, PyData.depth]; exact h2⟩
  | n, .dic _ _, h => by simp [D.flat] at h
  | n, .drw, h => by simp [D.flat] at h
theorem flatL_lay : ∀ (n : Nat) (ds : List D), flatL n ds = true → PyData.canLayAll0 (pyL ds) = true ∧ PyData.depthAll (pyL ds) ≤ n
  | n, [], _ => ⟨by simp [pyL, PyData.canLayAll0], by simp [pyL, PyData.depthAll]⟩
  | n, d :: ds, h => by
    simp only [flatL, Bool.and_eq_true] at h
    obtain ⟨h1, h2⟩ := flat_lay n d h.1
    obtain ⟨h3, h4⟩ := flatL_lay n ds h.2
    exact ⟨by simp [pyL, PyData.canLayAll0, h1, h3], by simp only [pyL, PyData.depthAll]; omega⟩
end
theorem flat_shaped {d : D} (h : d.flat 60 = true) : SeqAt.shaped d.py = true := by
  obtain ⟨h1, h2⟩ := flat_lay 60 d h
  unfold SeqAt.shaped
  rw [h1, decide_eq_true (by omega)]
  rfl
mutual
theorem Rep.dp {q : QA} {B H : Hp} (t : Sub T K) (s : Same B H) : ∀ {d : D} {v : V} (n : Nat), Rep T q B d v → d.flat n = true → Dp K H v d.py
  | _, _, _, .non, _ => by rw [D.py]; exact .non
  | _, _, _, .bl b, _ => by rw [D.py]; exact .bl b
  | _, _, _, .int i, _ => by rw [D.py]; exact .int i
  | _, _, _, .str x, _ => by rw [D.py]; exact .str x
  | _, _, _, .drw, h => by simp [D.flat] at h
  | _, _, 0, .tup _ _, h => by simp [D.flat] at h
  | _, _, n + 1, .tup h1 r, h => by rw [D.py]; exact .tup (h1.sq t s) (RepL.dp t s n r (by simpa [D.flat] using h))
  | _, _, 0, .lst _ _, h => by simp [D.flat] at h
  | _, _, n + 1, .lst h1 r, h => by rw [D.py]; exact .lst (.inl (.inl (s _ _ h1))) (RepL.dp t s n r (by simpa [D.flat] using h))
  | _, _, _, .dicK _ _, h => by simp [D.flat] at h
  | _, _, _, .dicT _ _, h => by simp [D.flat] at h
theorem RepL.dp {q : QA} {B H : Hp} (t : Sub T K) (s : Same B H) : ∀ {d : List D} {v : List V} (n : Nat), RepL T q B d v → flatL n d = true → DpAll K H v (pyL d)
  | _, _, _, .nil, _ => .nil
  | _, _, n, .cons h r, e => by
    simp only [flatL, Bool.and_eq_true] at e
    exact .cons (Rep.dp t s n h e.1) (RepL.dp t s n r e.2)
end
theorem Pk.dp {q : QA} {B H : Hp} (t : Sub T K) (s : Same B H) {d : D} {v : V} (h : Pk T q B H d v) (e : d.flat 60 = true) : Dp K H v d.py := by
  rcases h with h | ⟨a, rfl, _, _, h⟩
  · exact h.dp t s 60 e
  · cases h with
    | lst h1 h2 => rw [D.py]; exact .lst (.inl (.inl h1)) (h2.dp t s 59 (by simpa [D.flat] using e))
    | dicK _ _ => simp [D.flat] at e
    | dicT _ _ => simp [D.flat] at e
def eqD (a b : D) : Option D := if a.flat 60 && b.flat 60 then some (.bl (PyData.eqv a.py b.py)) else none
def neD (a b : D) : Option D := if a.flat 60 && b.flat 60 then some (.bl (!PyData.eqv a.py b.py)) else none
theorem od_eq (t : Sub T K) : OpD T (rEqD K) eqD := by
  intro q B H a b x y d s ha hb hg Q k
  unfold eqD at hg
  split at hg
  · rename_i hf
    cases hg
    obtain ⟨f1, f2⟩ := Bool.and_eq_true_iff.mp hf
    exact ⟨_, _, ha.dp t s f1, hb.dp t s f2, flat_shaped f1, flat_shaped f2, k _ B H (Ext0.refl s) (.bl _)⟩
  · cases hg
theorem od_ne (t : Sub T K) : OpD T (rNeD K) neD := by
  intro q B H a b x y d s ha hb hg Q k
  unfold neD at hg
  split at hg
  · rename_i hf
    cases hg
    obtain ⟨f1, f2⟩ := Bool.and_eq_true_iff.mp hf
    exact ⟨_, _, ha.dp t s f1, hb.dp t s f2, flat_shaped f1, flat_shaped f2, k _ B H (Ext0.refl s) (.bl _)⟩
  · cases hg
/-! ### is -/
def isNoneD : D → Bool
  | .non => true
  | _ => false
def isD : D → D → Option D
  | a, .non => some (.bl (isNoneD a))
  | .bl a, .bl b => some (.bl (decide (a = b)))
  | _, _ => none
def isNotD : D → D → Option D
  | a, .non => some (.bl (!isNoneD a))
  | .bl a, .bl b => some (.bl (!decide (a = b)))
  | _, _ => none
theorem Pk.isNone {q : QA} {B H : Hp} {d : D} {v : V} (h : Pk T q B H d v) : decide (v = .non) = isNoneD d := by
  rcases h with h | ⟨a, rfl, _, _, h⟩
  · cases h <;> rfl
  · cases h <;> rfl
def rIsA : R2 := fun x y H Q => (y = .non ∧ Q (.bl (decide (x = .non))) H) ∨ (∃ a b : Bool, x = .bl a ∧ y = .bl b ∧ Q (.bl (decide (a = b))) H)
def rIsNotA : R2 := fun x y H Q => (y = .non ∧ Q (.bl (!decide (x = .non))) H) ∨ (∃ a b : Bool, x = .bl a ∧ y = .bl b ∧ Q (.bl (!decide (a = b))) H)
theorem op_isA {X : Cx} : OpR X (compareOp .Is) rIsA := op_isN.or op_isBl
theorem op_isNotA {X : Cx} : OpR X (compareOp .IsNot) rIsNotA := op_notN.or op_notBl
theorem Pk.non {q : QA} {B H : Hp} {v : V} (h : Pk T q B H .non v) : v = .non := by
  rcases h with h | ⟨a, _, _, _, h⟩
  · cases h; rfl
  · cases h
theorem od_is : OpD T rIsA isD := by
  intro q B H a b x y d s ha hb hg Q k
  unfold isD at hg
  split at hg
  · cases hg
    refine .inl ⟨hb.non, ?_⟩
    rw [ha.isNone]
    exact k _ B H (Ext0.refl s) (.bl _)
  · cases hg
    exact .inr ⟨_, _, ha.bl, hb.bl, k _ B H (Ext0.refl s) (.bl _)⟩
  · cases hg
theorem od_isNot : OpD T rIsNotA isNotD := by
  intro q B H a b x y d s ha hb hg Q k
  unfold isNotD at hg
  split at hg
  · cases hg
    refine .inl ⟨hb.non, ?_⟩
    rw [ha.isNone]
    exact k _ B H (Ext0.refl s) (.bl _)
  · cases hg
    exact .inr ⟨_, _, ha.bl, hb.bl, k _ B H (Ext0.refl s) (.bl _)⟩
  · cases hg
/-! ### in -/
def rInDT (K : PySem.W.Frag) : R2 := fun x y H Q => ∃ d ds, Dp K H x d ∧ Dp K H y (.tuple ds) ∧ SeqAt.shaped d = true ∧ SeqAt.shaped (.tuple ds) = true ∧ Q (.bl (ds.any fun z => PyData.eqv z d)) H
def rNotInDT (K : PySem.W.Frag) : R2 := fun x y H Q => ∃ d ds, Dp K H x d ∧ Dp K H y (.tuple ds) ∧ SeqAt.shaped d = true ∧ SeqAt.shaped (.tuple ds) = true ∧ Q (.bl (!ds.any fun z => PyData.eqv z d)) H
theorem room_in {A : Around} {d : PyData} {ds : List PyData} (sd : SeqAt.shaped d = true) (hu : A.units + 65 < cLine) : A.units + 1 + min (PyData.depthAll ds) d.depth < cLine := by
  have := SeqAt.depth_of_shaped sd
  have : min (PyData.depthAll ds) d.depth ≤ d.depth := Nat.min_le_right _ _
  omega
theorem op_inDT {X : Cx} (hu : X.A.units + 65 < cLine) : OpR X (compareOp .In) (rInDT X.K) := by
  intro pins s σ H x y v u Q I rx ry h
  obtain ⟨d, ds, hd, he, sd, se, q⟩ := h
  obtain ⟨as, r1⟩ := Dp.reads I d x v hd rx
  obtain ⟨bs, r2⟩ := Dp.reads I (.tuple ds) y u he ry
  exact SeqAt.in_tuple_reads r2 r1 (SeqAt.canLay_of_shaped se) (SeqAt.canLay_of_shaped sd) (room_in sd hu) ⟨.bl _, H, I, rfl, q⟩
theorem op_notInDT {X : Cx} (hu : X.A.units + 65 < cLine) : OpR X (compareOp .NotIn) (rNotInDT X.K) := by
  intro pins s σ H x y v u Q I rx ry h
  obtain ⟨d, ds, hd, he, sd, se, q⟩ := h
  obtain ⟨as, r1⟩ := Dp.reads I d x v hd rx
  obtain ⟨bs, r2⟩ := Dp.reads I (.tuple ds) y u he ry
  exact SeqAt.notIn_tuple_reads r2 r1 (SeqAt.canLay_of_shaped se) (SeqAt.canLay_of_shaped sd) (room_in sd hu) ⟨.bl _, H, I, rfl, q⟩
def rDIn : R2 := fun x y H Q => ∃ p o, y = .ref p ∧ DGet H p x o ∧ Q (.bl o.isSome) H
def rDNotIn : R2 := fun x y H Q => ∃ p o, y = .ref p ∧ DGet H p x o ∧ Q (.bl (!o.isSome)) H
theorem op_dIn {X : Cx} (hu : X.A.units + 1 < cLine) : OpR X (compareOp .In) rDIn := by
  intro pins s σ H x y v u Q I rx ry h
  obtain ⟨p, o, rfl, g, q⟩ := h
  cases ry
  exact d_in hu I g rx fun s' I' => ⟨.bl _, H, I', rfl, q⟩
theorem op_dNotIn {X : Cx} (hu : X.A.units + 1 < cLine) : OpR X (compareOp .NotIn) rDNotIn := by
  intro pins s σ H x y v u Q I rx ry h
  obtain ⟨p, o, rfl, g, q⟩ := h
  cases ry
  exact d_notIn hu I g rx fun s' I' => ⟨.bl _, H, I', rfl, q⟩
def rInA (K : PySem.W.Frag) : R2 := fun x y H Q => rInD K x y H Q ∨ rInDT K x y H Q
def rNotInA (K : PySem.W.Frag) : R2 := fun x y H Q => rNotInD K x y H Q ∨ rNotInDT K x y H Q
theorem op_inA {X : Cx} (hu : X.A.units + 65 < cLine) : OpR X (compareOp .In) (rInA X.K) := (op_inD hu).or (op_inDT hu)
theorem op_notInA {X : Cx} (hu : X.A.units + 65 < cLine) : OpR X (compareOp .NotIn) (rNotInA X.K) := (op_notInD hu).or (op_notInDT hu)
def memD (x : D) (ds : List D) : Bool := (pyL ds).any fun z => PyData.eqv z x.py
def inD (a : D) : D → Option D
  | .lst ds => if a.flat 60 && flatL 59 ds then some (.bl (memD a ds)) else none
  | .tup ds => if a.flat 60 && flatL 59 ds then some (.bl (memD a ds)) else none
  | _ => none
def notInD (a : D) : D → Option D
  | .lst ds => if a.flat 60 && flatL 59 ds then some (.bl (!memD a ds)) else none
  | .tup ds => if a.flat 60 && flatL 59 ds then some (.bl (!memD a ds)) else none
  | _ => none
theorem od_in (t : Sub T K) : OpD T (rInA K) inD := by
  intro q B H a b x y d s ha hb hg Q k
  unfold inD at hg
  split at hg
  · rename_i ds
    split at hg
    · rename_i hf
      cases hg
      obtain ⟨f1, f2⟩ := Bool.and_eq_true_iff.mp hf
      have f3 : D.flat 60 (.lst ds) = true := by rw [D.flat]; exact f2
      have z := hb.dp t s f3
      have z2 := flat_shaped f3
      rw [D.py] at z z2
      exact .inl ⟨_, _, ha.dp t s f1, z, flat_shaped f1, z2, k _ B H (Ext0.refl s) (.bl _)⟩
    · cases hg
  · rename_i ds
    split at hg
    · rename_i hf
      cases hg
      obtain ⟨f1, f2⟩ := Bool.and_eq_true_iff.mp hf
      have f3 : D.flat 60 (.tup ds) = true := by rw [D.flat]; exact f2
      have z := hb.dp t s f3
      have z2 := flat_shaped f3
      rw [D.py] at z z2
      exact .inr ⟨_, _, ha.dp t s f1, z, flat_shaped f1, z2, k _ B H (Ext0.refl s) (.bl _)⟩
    · cases hg
  · cases hg
theorem od_notIn (t : Sub T K) : OpD T (rNotInA K) notInD := by
  intro q B H a b x y d s ha hb hg Q k
  unfold notInD at hg
  split at hg
  · rename_i ds
    split at hg
    · rename_i hf
      cases hg
      obtain ⟨f1, f2⟩ := Bool.and_eq_true_iff.mp hf
      have f3 : D.flat 60 (.lst ds) = true := by rw [D.flat]; exact f2
      have z := hb.dp t s f3
      have z2 := flat_shaped f3
      rw [D.py] at z z2
      exact .inl ⟨_, _, ha.dp t s f1, z, flat_shaped f1, z2, k _ B H (Ext0.refl s) (.bl _)⟩
    · cases hg
  · rename_i ds
    split at hg
    · rename_i hf
      cases hg
      obtain ⟨f1, f2⟩ := Bool.and_eq_true_iff.mp hf
      have f3 : D.flat 60 (.tup ds) = true := by rw [D.flat]; exact f2
      have z := hb.dp t s f3
      have z2 := flat_shaped f3
      rw [D.py] at z z2
      exact .inr ⟨_, _, ha.dp t s f1, z, flat_shaped f1, z2, k _ B H (Ext0.refl s) (.bl _)⟩
    · cases hg
  · cases hg
/-! ### dicts by key -/
def keyAt : D → Option Key
  | .int i => some (.inl i)
  | .str x => some (.inr x)
  | _ => none
def keysAt : List D → Option (List Key)
  | [] => some []
  | d :: ds => match keyAt d, keysAt ds with
    | some k, some r => some (k :: r)
    | _, _ => none
inductive Ky where
  | k (k : Key) | t (k : List Key)
  deriving DecidableEq
def keyOf : Bool → D → Option Ky
  | false, d => (keyAt d).map Ky.k
  | true, .tup ds => (keysAt ds).map Ky.t
  | true, _ => none
/-- what a dict of the kind t holds at a key; none: no key of this kind -/
def dget (t : Bool) (kvs : List (D × D)) (k : D) : Option (Option D) := match keyOf t k with
  | none => none
  | some κ => some ((kvs.find? fun p => decide (keyOf t p.1 = some κ)).map (·.2))
theorem keyAt_keyD (k : Key) : keyAt (keyD k) = some k := by cases k <;> rfl
theorem keysAt_map : ∀ ks : List Key, keysAt (ks.map keyD) = some ks
  | [] => rfl
  | k :: ks => by
    rw [List.map_cons, keysAt, keyAt_keyD, keysAt_map ks]
theorem rep_key {q : QA} {B : Hp} {d : D} {v : V} {k : Key} (h : Rep T q B d v) (e : keyAt d = some k) : v = kV k := by
  cases h <;> first | (cases e; rfl) | cases e
theorem pk_key {q : QA} {B H : Hp} {d : D} {v : V} {k : Key} (h : Pk T q B H d v) (e : keyAt d = some k) : v = kV k := by
  rcases h with h | ⟨a, _, _, _, h⟩
  · exact rep_key h e
  · cases h <;> cases e
theorem rep_keys {q : QA} {B : Hp} : ∀ {ds : List D} {vs : List V} {ks : List Key}, RepL T q B ds vs → keysAt ds = some ks → vs = ks.map kV
  | _, _, _, .nil, e => by cases e; rfl
  | d :: ds, _, _, .cons h r, e => by
    unfold keysAt at e
    split at e
    · rename_i k r' e1 e2
      cases e
      rw [rep_key h e1, rep_keys r e2, List.map_cons]
    · cases e
theorem RepK.val {q : QA} {B : Hp} : ∀ {ks : List (D × D)} {vs : List (Key × V)} (κ : Key), RepK T q B ks vs → 
    match (ks.find? fun p => decide (keyOf false p.1 = some (.k κ))).map (·.2) with
    | some d => ∃ v, valV vs κ = some v ∧ Rep T q B d v
    | none => valV vs κ = none
  | _, _, κ, .nil => rfl
  | _, _, κ, .cons (k := k) (d := d) (v := v) (vs := vs) (ds := ds) h r => by
    have hk : keyOf false (keyD k) = some (.k k) := by show (keyAt (keyD k)).map Ky.k = _; rw [keyAt_keyD]; rfl
    by_cases e : k = κ
    · subst e
      have z : (((keyD k, d) :: ds).find? fun p => decide (keyOf false p.1 = some (.k k))) = some (keyD k, d) := by
        rw [List.find?_cons, hk, decide_eq_true rfl]
      rw [z]
      exact ⟨v, valV_pos (p := (k, v)) rfl, h⟩
    · have z : (((keyD k, d) :: ds).find? fun p => decide (keyOf false p.1 = some (.k κ))) = ds.find? fun p => decide (keyOf false p.1 = some (.k κ)) := by
        rw [List.find?_cons, hk, decide_eq_false (by intro z; cases z; exact e rfl)]
      rw [z, valV_neg (p := (k, v)) e]
      exact RepK.val κ r
theorem RepT.val {q : QA} {B : Hp} : ∀ {ks : List (D × D)} {vs : List (List Key × V)} (κ : List Key), RepT T q B ks vs → 
    match (ks.find? fun p => decide (keyOf true p.1 = some (.t κ))).map (·.2) with
    | some d => ∃ v, valV vs κ = some v ∧ Rep T q B d v
    | none => valV vs κ = none
  | _, _, κ, .nil => rfl
  | _, _, κ, .cons (k := k) (d := d) (v := v) (vs := vs) (ds := ds) h r => by
    have hk : keyOf true (.tup (k.map keyD)) = some (.t k) := by show (keysAt (k.map keyD)).map Ky.t = _; rw [keysAt_map]; rfl
    by_cases e : k = κ
    · subst e
      have z : (((D.tup (k.map keyD), d) :: ds).find? fun p => decide (keyOf true p.1 = some (.t k))) = some (.tup (k.map keyD), d) := by
        rw [List.find?_cons, hk, decide_eq_true rfl]
      rw [z]
      exact ⟨v, valV_pos (p := (k, v)) rfl, h⟩
    · have z : (((D.tup (k.map keyD), d) :: ds).find? fun p => decide (keyOf true p.1 = some (.t κ))) = ds.find? fun p => decide (keyOf true p.1 = some (.t κ)) := by
        rw [List.find?_cons, hk, decide_eq_false (by intro z; cases z; exact e rfl)]
      rw [z, valV_neg (p := (k, v)) e]
      exact RepT.val κ r
end
/-- what the machine finds -/
theorem dget_run {T : PySem.W.Frag} {q : QA} {B H : Hp} {t : Bool} {kvs : List (D × D)} {k : D} {o : Option D} {x y : V} (hT : t = true → T = []) (s : Same B H) (hx : Pk T q B H (.dic t kvs) x) (hy : Pk T q B H k y) (h : dget t kvs k = some o) :
    ∃ a r, x = .ref a ∧ DGet H a y r ∧ r.isSome = o.isSome ∧ ∀ d, o = some d → ∃ v, r = some v ∧ Rep T q B d v := by
  unfold dget at h
  cases t with
  | false =>
    obtain ⟨a, vs, rfl, h1, h2⟩ := hx.dicK s
    cases e : keyAt k with
    | none => rw [show keyOf false k = none by show (keyAt k).map Ky.k = none; rw [e]; rfl] at h; cases h
    | some κ =>
      rw [show keyOf false k = some (.k κ) by show (keyAt k).map Ky.k = _; rw [e]; rfl] at h
      cases h
      have z := h2.val κ
      have e2 := pk_key hy e
      subst e2
      refine ⟨a, valV vs κ, rfl, .inl ⟨vs, κ, h1, rfl, rfl⟩, ?_, ?_⟩
      · cases q1 : (kvs.find? fun p => decide (keyOf false p.1 = some (.k κ))).map (·.2) with
        | none => rw [q1] at z; rw [show valV vs κ = none from z]; rfl
        | some d => rw [q1] at z; obtain ⟨v, z1, _⟩ := z; rw [z1]; rfl
      · intro d hd
        rw [hd] at z
        exact z
  | true =>
    have hT := hT rfl
    subst hT
    obtain ⟨a, vs, rfl, h1, h2⟩ := hx.dicT s
    cases k with
    | tup ds =>
      cases e : keysAt ds with
      | none => rw [show keyOf true (.tup ds) = none by show (keysAt ds).map Ky.t = none; rw [e]; rfl] at h; cases h
      | some κ =>
        rw [show keyOf true (.tup ds) = some (.t κ) by show (keysAt ds).map Ky.t = _; rw [e]; rfl] at h
        cases h
        have z := h2.val κ
        rcases hy with hy | ⟨_, _, _, _, hy⟩
        · cases hy with
          | tup w1 w2 =>
            have e2 := rep_keys w2 e
            subst e2
            refine ⟨a, valV vs κ, rfl, .inr ⟨vs, κ, _, h1, rfl, s _ _ w1.in, rfl⟩, ?_, ?_⟩
            · cases q1 : (kvs.find? fun p => decide (keyOf true p.1 = some (.t κ))).map (·.2) with
              | none => rw [q1] at z; rw [show valV vs κ = none from z]; rfl
              | some d => rw [q1] at z; obtain ⟨v, z1, _⟩ := z; rw [z1]; rfl
            · intro d hd
              rw [hd] at z
              exact z
        · cases hy
    | _ => cases h
section
variable {T : PySem.W.Frag}
def dinD (a : D) : D → Option D
  | .dic t kvs => (dget t kvs a).map fun o => .bl o.isSome
  | _ => none
def dnotInD (a : D) : D → Option D
  | .dic t kvs => (dget t kvs a).map fun o => .bl (!o.isSome)
  | _ => none
def KindOk (T : PySem.W.Frag) (t : Bool) : Prop := t = true → T = []
def dinK (t : Bool) (a : D) : D → Option D
  | .dic t' kvs => if t' = t then (dget t kvs a).map fun o => .bl o.isSome else none
  | _ => none
def dnotInK (t : Bool) (a : D) : D → Option D
  | .dic t' kvs => if t' = t then (dget t kvs a).map fun o => .bl (!o.isSome) else none
  | _ => none
theorem od_din {t : Bool} (hT : KindOk T t) : OpD T rDIn (dinK t) := by
  intro q B H a b x y d s ha hb hg Q k
  unfold dinK at hg
  split at hg
  · split at hg
    · rename_i e
      subst e
      obtain ⟨o, h1, rfl⟩ := Option.map_eq_some_iff.mp hg
      obtain ⟨p, r, rfl, h2, h3, _⟩ := dget_run hT s hb ha h1
      exact ⟨p, r, rfl, h2, h3 ▸ k _ B H (Ext0.refl s) (.bl _)⟩
    · cases hg
  · cases hg
theorem od_dnotIn {t : Bool} (hT : KindOk T t) : OpD T rDNotIn (dnotInK t) := by
  intro q B H a b x y d s ha hb hg Q k
  unfold dnotInK at hg
  split at hg
  · split at hg
    · rename_i e
      subst e
      obtain ⟨o, h1, rfl⟩ := Option.map_eq_some_iff.mp hg
      obtain ⟨p, r, rfl, h2, h3, _⟩ := dget_run hT s hb ha h1
      exact ⟨p, r, rfl, h2, h3 ▸ k _ B H (Ext0.refl s) (.bl _)⟩
    · cases hg
  · cases hg
end
end Y
end

section
set_option Elab.async false
set_option linter.all false
set_option maxRecDepth 100000
set_option autoImplicit false
namespace Y
open PySem PySem.Spec L2
open PyProof.Rows hiding St

/-! ### subscripts -/
def rIxA (K : PySem.W.Frag) : R2 := fun x y H Q => rIxL K x y H Q ∨ rIxT K x y H Q
theorem ix_A {X : Cx} : IxR X (rIxA X.K) := ix_list.or ix_tup
section
variable {K T : PySem.W.Frag}
def getD' : D → D → Option D
  | .lst xs, .int i => atI xs i
  | .tup xs, .int i => atI xs i
  | _, _ => none
theorem RepL.atI {q : QA} {B : Hp} {ds : List D} {vs : List V} {i : Int} {d : D} (h : RepL T q B ds vs) (e : L2.atI ds i = some d) : ∃ v, L2.atI vs i = some v ∧ Rep T q B d v := by
  unfold L2.atI at e ⊢
  obtain ⟨j, h1, h2⟩ := Option.bind_eq_some_iff.mp e
  obtain ⟨v, h3, h4⟩ := h.get h2
  exact ⟨v, Option.bind_eq_some_iff.mpr ⟨j, by rw [← h.length]; exact h1, h3⟩, h4⟩
theorem od_get (t : Sub T K) : OpD T (rIxA K) getD' := by
  intro q B H a b x y d s ha hb hg Q k
  unfold getD' at hg
  split at hg
  · obtain ⟨a1, vs, rfl, h1, r1⟩ := ha.lst s
    obtain ⟨v, h2, h3⟩ := r1.atI hg
    exact .inl ⟨a1, vs, _, v, rfl, hb.int, .inl (.inl h1), h2, k _ B H (Ext0.refl s) h3⟩
  · obtain ⟨a1, vs, rfl, h1, r1, _⟩ := ha.tup t s
    obtain ⟨v, h2, h3⟩ := r1.atI hg
    exact .inr ⟨a1, vs, _, v, rfl, hb.int, h1, h2, k _ B H (Ext0.refl s) h3⟩
  · cases hg
end
section
variable {C : SC} {sc : Scope} {e a b c : Expr} {f fa fb fc : ESem} {pos : Pos}
theorem se_ix {r : R2} {g : D → D → Option D} (ho : ∀ X, XOk C sc X → IxR X r) (hd : OpD C.T r g) (ha : SP C sc a fa) (hb : SP C sc b fb) (hs : PlainIx b := by exact fun _ _ => rfl) : SE C sc (.Subscript a b pos) (bin g fa fb) :=
  SE.of (fun X hX => pe_ix (ho X hX) (pe_te hX) (pe_te hX) hs) (bin_run hd ha hb)
def dgetK (t : Bool) : D → D → Option D
  | .dic t' kvs, k => if t' = t then (dget t kvs k).bind id else none
  | _, _ => none
theorem XOk.hu {X : Cx} (h : XOk C sc X) : X.A.units + 1 < cLine := hu_of h.room
theorem XOk.hu64 {X : Cx} (h : XOk C sc X) : X.A.units + 64 < cLine := h.room.units
theorem XOk.hu65 {X : Cx} (h : XOk C sc X) : X.A.units + 65 < cLine := by have := h.room.un; omega
theorem XOk.hu0 {X : Cx} (h : XOk C sc X) : X.A.units < cLine := h.room.units0
theorem se_dget {t : Bool} (hT : KindOk C.T t) (ha : SP C sc a fa) (hb : SP C sc b fb) (hs : NoSl b := by exact fun _ _ => rfl) : SE C sc (.Subscript a b pos) (bin (dgetK t) fa fb) :=
  SE.of (fun X hX => pe_dget hX.hu (pe_te hX) (pe_te hX) hs) fun q B0 H0 B H σ env st d st' Q g0 hf k => by
    obtain ⟨x, s1, h1, hf⟩ := M.bd_some hf
    obtain ⟨y, s2, h2, hf⟩ := M.bd_some hf
    obtain ⟨h3, rfl⟩ := M.lf_some hf
    refine ha q B0 H0 B H σ env st x s1 _ g0 h1 fun v B1 H1 e1 d1 r1 => ?_
    refine hb q B0 H0 B1 H1 σ env s1 y _ _ (g0.step e1 d1) h2 fun u B2 H2 e2 d2 r2 => ?_
    unfold dgetK at h3
    split at h3
    · split at h3
      · rename_i e
        subst e
        obtain ⟨o, h4, h5⟩ := Option.bind_eq_some_iff.mp h3
        have h5' : o = some d := h5
        subst h5'
        obtain ⟨p, r, rfl, h6, h7, h8⟩ := dget_run hT e2.s (r1.step e2) r2 h4
        obtain ⟨w, rfl, h9⟩ := h8 d rfl
        exact ⟨p, w, rfl, h6, k w B2 H2 (e1.trans g0.dr e2 ⟨_, d1⟩) d2 h9⟩
      · cases h3
    · cases h3

/-! ### slices -/
abbrev OSem := List Var → M (Option Int)
def to (C : SC) (sc : Scope) (e : Option Expr) : TO := fun σ H Q => ∀ X, XOk C sc X → ∀ pins s, Inv X pins σ H s → wpAny (model X.prog X.w) X.A (evalPart e X.env) (fun u s' => ∃ o H', Inv X pins σ H' s' ∧ IsPart u o ∧ Q o H') X.xe s
theorem po_to {X : Cx} {e : Option Expr} (h : XOk C sc X) : PO X e (to C sc e) := ⟨fun pins s σ H Q I q => q X h pins s I⟩
def SO (C : SC) (sc : Scope) (e : Option Expr) (f : OSem) : Prop := ∀ q B0 H0 B H σ env st o st' (Q : Option Int → Hp → Prop), GS C.T q B0 H0 B H σ env st → f env st = some (o, st') →
  (∀ B' H', Ext q B H B' H' → DrAt q H' st' → Q o H') → to C sc e σ H Q
def noO : OSem := fun _ => M.ret none
def asI : D → Option Int
  | .int i => some i
  | _ => none
theorem asI_some {d : D} {i : Int} (h : asI d = some i) : d = .int i := by
  cases d <;> first | cases h | skip
  rfl
def someO (f : ESem) : OSem := fun env => M.bd (f env) fun d => M.bd (M.lf (asI d)) fun i => M.ret (some i)
theorem so_none : SO C sc none noO := fun q B0 H0 B H σ env st o st' Q g hf k X hX pins s I => po_none.run pins s σ H Q I (by
  obtain ⟨rfl, rfl⟩ := M.ret_some hf
  exact k B H (Ext.refl g.sub) g.dr)
theorem so_some (h : SP C sc e f) : SO C sc (some e) (someO f) := fun q B0 H0 B H σ env st o st' Q g hf k X hX pins s I => (po_some (pe_te hX)).run pins s σ H Q I (by
  obtain ⟨x, s1, h1, hf⟩ := M.bd_some hf
  obtain ⟨y, s2, h2, hf⟩ := M.bd_some hf
  obtain ⟨h3, rfl⟩ := M.lf_some h2
  have h4 := asI_some h3
  subst h4
  obtain ⟨rfl, rfl⟩ := M.ret_some hf
  exact h q B0 H0 B H σ env st _ _ _ g h1 fun v B1 H1 e1 d1 r1 => ⟨y, r1.int, k B1 H1 e1 d1⟩)
def cutL {α : Type} (xs : List α) (lo hi : Option Int) : List α := (xs.drop (HT.sIx xs.length 0 lo)).take (HT.sIx xs.length xs.length hi - HT.sIx xs.length 0 lo)
theorem cutL_all {α : Type} {xs : List α} {lo hi : Option Int} (h : HT.sIx xs.length 0 lo = 0 ∧ HT.sIx xs.length xs.length hi = xs.length) : cutL xs lo hi = xs := by
  unfold cutL
  rw [h.1, h.2]
  simp
theorem RepL.cut {T : PySem.W.Frag} {q : QA} {B : Hp} {ds : List D} {vs : List V} (h : RepL T q B ds vs) (lo hi : Option Int) : RepL T q B (cutL ds lo hi) (cutV vs lo hi) := by
  unfold cutL cutV
  rw [h.length]
  exact (h.drop _).take _
def cutD (lo hi : Option Int) : D → Option D
  | .lst xs => some (.lst (cutL xs lo hi))
  | .tup xs => some (.tup (cutL xs lo hi))
  | _ => none
def cutLD (lo hi : Option Int) : D → Option D
  | .lst xs => some (.lst (cutL xs lo hi))
  | _ => none
def sliceE (g : Option Int → Option Int → D → Option D) (f : ESem) (lo hi : OSem) : ESem := fun env => M.bd (f env) fun d => M.bd (lo env) fun l => M.bd (hi env) fun h => M.lf (g l h d)
def rSlX (K : PySem.W.Frag) : V → Option Int → Option Int → Hp → VK → Prop := fun x lo hi H Q => rSlL K x lo hi H Q ∨ rSlA K x lo hi H Q
theorem sl_X {X : Cx} : SlR X (rSlX X.K) := sl_list.or sl_tupA
theorem se_slice {lo hi : Option Expr} {fl fh : OSem} {p2 : Pos} (ha : SP C sc e f) (hl : SO C sc lo fl) (hh : SO C sc hi fh) : SE C sc (.Subscript e (.Slice lo hi none p2) pos) (sliceE cutD f fl fh) :=
  SE.of (t := tSl (rSlX C.K) (te C sc e) (to C sc lo) (to C sc hi)) (fun X hX => by
    have z : PE X (.Subscript e (.Slice lo hi none p2) pos) (tSl (rSlX X.K) (te C sc e) (to C sc lo) (to C sc hi)) := pe_slice sl_X (pe_te hX) (po_to hX) (po_to hX)
    rw [hX.K] at z
    exact z) fun q B0 H0 B H σ env st d st' Q g0 hf k => by
    obtain ⟨x, s1, h1, hf⟩ := M.bd_some hf
    obtain ⟨l, s2, h2, hf⟩ := M.bd_some hf
    obtain ⟨u, s3, h3, hf⟩ := M.bd_some hf
    obtain ⟨h4, rfl⟩ := M.lf_some hf
    refine ha q B0 H0 B H σ env st x s1 _ g0 h1 fun v B1 H1 e1 d1 r1 => ?_
    refine hl q B0 H0 B1 H1 σ env s1 l s2 _ (g0.step e1 d1) h2 fun B2 H2 e2 d2 => ?_
    have e12 := e1.trans g0.dr e2 ⟨_, d1⟩
    refine hh q B0 H0 B2 H2 σ env s2 u _ _ (g0.step e12 d2) h3 fun B3 H3 e3 d3 => ?_
    have e13 := e12.trans g0.dr e3 ⟨_, d2⟩
    have r3 := (r1.step e2).step e3
    unfold cutD at h4
    split at h4
    · cases h4
      obtain ⟨a1, vs, rfl, w1, w2⟩ := r3.lst e3.s
      refine .inl ⟨a1, vs, rfl, .inl (.inl w1), fun p hp => ?_⟩
      exact k _ _ _ (e13.trans g0.dr (Ext0.new e3.s hp).ext ⟨_, d3⟩) (d3.mono (Ext0.new e3.s hp).h) (.lst upd_same ((w2.cut l u).mono (Ext0.new e3.s hp).b))
    · cases h4
      obtain ⟨a1, vs, rfl, w1, w2, w3⟩ := r3.tup C.TK e3.s
      refine .inr ⟨a1, vs, rfl, w1, fun hw => ?_, fun _ p hp => ?_⟩
      · rw [← w2.length] at hw
        rw [cutL_all hw] at k
        exact k _ _ _ e13 d3 w3
      · exact k _ _ _ (e13.trans g0.dr (Ext0.new e3.s hp).ext ⟨_, d3⟩) (d3.mono (Ext0.new e3.s hp).h) (.tup (.inl upd_same) ((w2.cut l u).mono (Ext0.new e3.s hp).b))
    · cases h4
theorem sf_slice {lo hi : Option Expr} {fl fh : OSem} {p2 : Pos} (ha : SP C sc e f) (hl : SO C sc lo fl) (hh : SO C sc hi fh) : SF C sc (.Subscript e (.Slice lo hi none p2) pos) (sliceE cutLD f fl fh) :=
  SF.of (t := tSl (rSlL C.K) (te C sc e) (to C sc lo) (to C sc hi)) (fun X hX => by
    have z : PE X (.Subscript e (.Slice lo hi none p2) pos) (tSl (rSlL X.K) (te C sc e) (to C sc lo) (to C sc hi)) := pe_slice sl_list (pe_te hX) (po_to hX) (po_to hX)
    rw [hX.K] at z
    exact z) fun q B0 H0 B H σ env st d st' Q g0 hf k => by
    obtain ⟨x, s1, h1, hf⟩ := M.bd_some hf
    obtain ⟨l, s2, h2, hf⟩ := M.bd_some hf
    obtain ⟨u, s3, h3, hf⟩ := M.bd_some hf
    obtain ⟨h4, rfl⟩ := M.lf_some hf
    refine ha q B0 H0 B H σ env st x s1 _ g0 h1 fun v B1 H1 e1 d1 r1 => ?_
    refine hl q B0 H0 B1 H1 σ env s1 l s2 _ (g0.step e1 d1) h2 fun B2 H2 e2 d2 => ?_
    have e12 := e1.trans g0.dr e2 ⟨_, d1⟩
    refine hh q B0 H0 B2 H2 σ env s2 u _ _ (g0.step e12 d2) h3 fun B3 H3 e3 d3 => ?_
    have e13 := e12.trans g0.dr e3 ⟨_, d2⟩
    have r3 := (r1.step e2).step e3
    unfold cutLD at h4
    split at h4
    · cases h4
      obtain ⟨a1, vs, rfl, w1, w2⟩ := r3.lst e3.s
      refine ⟨a1, vs, rfl, .inl (.inl w1), fun p hp => ?_⟩
      exact k _ _ _ (e13.trans g0.dr (Ext0.own e3.s hp).ext ⟨_, d3⟩) (d3.mono (Ext0.own e3.s hp).h) (new_back e13 d3 hp) (Same.free e3.s hp) (.lst upd_same (w2.cut l u))
    · cases h4
/-- xs[::-1], a list -/
def revD : D → Option D
  | .lst xs => some (.lst xs.reverse)
  | _ => none
def un (g : D → Option D) (fa : ESem) : ESem := fun env => M.bd (fa env) fun x => M.lf (g x)
theorem sf_revL {k : Nat} {p1 p2 p3 : Pos} (ha : SP C sc e f) : SF C sc (.Subscript e (.Slice none none (some (.UnaryOp .USub (.Constant (.int 1) k p1) p2)) p3) pos) (un revD f) :=
  SF.of (t := tRevL C.K (te C sc e)) (fun X hX => by
    have z : PE X (.Subscript e (.Slice none none (some (.UnaryOp .USub (.Constant (.int 1) k p1) p2)) p3) pos) (tRevL X.K (te C sc e)) := pe_revL (pe_te hX)
    rw [hX.K] at z
    exact z) fun q B0 H0 B H σ env st d st' Q g0 hf k => by
    obtain ⟨x, s1, h1, hf⟩ := M.bd_some hf
    obtain ⟨h4, rfl⟩ := M.lf_some hf
    refine ha q B0 H0 B H σ env st x _ _ g0 h1 fun v B1 H1 e1 d1 r1 => ?_
    unfold revD at h4
    split at h4
    · cases h4
      obtain ⟨a1, vs, rfl, w1, w2⟩ := r1.lst e1.s
      refine ⟨a1, vs, rfl, .inl (.inl w1), fun p hp => ?_⟩
      exact k _ _ _ (e1.trans g0.dr (Ext0.own e1.s hp).ext ⟨_, d1⟩) (d1.mono (Ext0.own e1.s hp).h) (new_back e1 d1 hp) (Same.free e1.s hp) (.lst upd_same w2.reverse)
    · cases h4
theorem se_neg (ha : SP C sc a f) : SE C sc (.UnaryOp .USub a pos) (un negD f) :=
  SE.of (fun X hX => pe_un un_neg (pe_te hX)) fun q B0 H0 B H σ env st d st' Q g0 hf k => by
    obtain ⟨x, s1, h1, hf⟩ := M.bd_some hf
    obtain ⟨h4, rfl⟩ := M.lf_some hf
    refine ha q B0 H0 B H σ env st x _ _ g0 h1 fun v B1 H1 e1 d1 r1 => ?_
    unfold negD at h4
    split at h4
    · cases h4
      exact ⟨_, r1.int, k _ B1 H1 e1 d1 (.int _)⟩
    · cases h4
/-- isinstance(e, T) -/
def isiD (t : String) : D → Option Bool
  | .non => kitB "NoneType" t
  | .bl _ => kitB "bool" t
  | .int _ => kitB "int" t
  | .str _ => kitB "str" t
  | .tup _ => kitB "tuple" t
  | .lst _ => kitB "list" t
  | .dic false _ => kitB "dict" t
  | .dic true _ => none
  | .drw => none
theorem Pk.ty {T K : PySem.W.Frag} (t : Sub T K) {q : QA} {B H : Hp} {d : D} {v : V} {n : String} {b : Bool} (s : Same B H) (h : Pk T q B H d v) (e : isiD n d = some b) : ∃ u, TyX K H v (.type u) ∧ kitB u n = some b := by
  rcases h with h | ⟨a, rfl, _, _, h⟩
  · cases h with
    | non => exact ⟨_, .base .non, e⟩
    | bl b => exact ⟨_, .base (.bl b), e⟩
    | int b => exact ⟨_, .base (.int b), e⟩
    | str b => exact ⟨_, .base (.str b), e⟩
    | drw => cases e
    | tup h1 _ =>
      rcases h1 with h1 | ⟨o, its, n, h1, h2, _⟩
      · exact ⟨_, .base (.tup (s _ _ h1)), e⟩
      · exact ⟨_, .kTuple (t _ _ h1) h2, e⟩
    | lst h1 _ => exact ⟨_, .base (.lst (s _ _ h1)), e⟩
    | dicK h1 _ =>
      rcases h1 with h1 | ⟨o, h1⟩
      · exact ⟨_, .base (.dK (s _ _ h1)), e⟩
      · exact ⟨_, .fDict (s _ _ h1), e⟩
    | dicT h1 _ => cases e
  · cases h with
    | lst h1 _ => exact ⟨_, .base (.lst h1), e⟩
    | dicK h1 _ => exact ⟨_, .base (.dK h1), e⟩
    | dicT h1 _ => cases e
theorem se_isi {x T : Str} {t : String} {p p2 : Pos} (ha : SP C sc e f) (hg : sc.names.lookup x = some .globalImplicit) (hm : C.mg x = none) (hx : x = "isinstance") (hg2 : sc.names.lookup T = some .globalImplicit) (hm2 : C.mg T = none) (hv2 : bootBuiltins T = some (.type t)) (hn2 : T ≠ "__name__" := by decide) (hd2 : (T == ("__debug__" : Str)) = false := by decide)
    (he : ∀ env, starEach [e, .Name T p2] env = (false, eval e env) :: starEach [.Name T p2] env := by intro _; rfl) : SE C sc (.Call (.Name x p) [e, .Name T p2] [] pos) (un (fun d => (isiD t d).map .bl) f) := by
  subst hx
  refine SE.of (t := tCB (rIsi C.K) (tCons (te C sc e) (tCons (tC (.ty t)) tNil))) (fun X hX => ?_) fun q B0 H0 B H σ env st d st' Q g0 hf k => ?_
  · have z := pe_callB (X := X) (x := "isinstance") (p := p) (pos := pos) (call_isi (X := X)) (hX.gl hg) (by rw [hX.mg]; exact hm) (by decide +kernel) (pa_cons (pe_te hX) (pa_cons (pe_bltn (x := T) (v := .ty t) (pos := p2) (hX.gl hg2) (by rw [hX.mg]; exact hm2) hv2 rfl hn2 hd2) pa_nil) (he _)) (by decide) (by decide) (he _) (by rfl)
    rw [hX.K] at z
    exact z
  · obtain ⟨x, s1, h1, hf⟩ := M.bd_some hf
    obtain ⟨h4, rfl⟩ := M.lf_some hf
    refine ha q B0 H0 B H σ env st x _ _ g0 h1 fun v B1 H1 e1 d1 r1 => ?_
    obtain ⟨b, h5, rfl⟩ := Option.map_eq_some_iff.mp h4
    obtain ⟨u, h6, h7⟩ := r1.ty C.TK e1.s h5
    exact ⟨v, .ty t, .type u, .type t, b, rfl, .ty t, h6, kit_ty h7, k _ B1 H1 e1 d1 (.bl b)⟩
end
/-! ### built-ins by values -/
section
variable {K T : PySem.W.Frag} {q : QA} {B H : Hp}
theorem PkL.one {d : D} {vs : List V} (h : PkL T q B H [d] vs) : ∃ v, vs = [v] ∧ Pk T q B H d v := by
  cases h with
  | cons h r => cases r; exact ⟨_, rfl, h⟩
theorem PkL.two {d d' : D} {vs : List V} (h : PkL T q B H [d, d'] vs) : ∃ v v', vs = [v, v'] ∧ Pk T q B H d v ∧ Pk T q B H d' v' := by
  cases h with
  | cons h r =>
    cases r with
    | cons h' r => cases r; exact ⟨_, _, rfl, h, h'⟩
def lenD : List D → Option D
  | [.lst xs] => some (.int xs.length)
  | [.tup xs] => some (.int xs.length)
  | _ => none
def rLenA (K : PySem.W.Frag) : List V → Hp → VK → Prop := fun xs H Q => ∃ p ys, xs = [.ref p] ∧ (SqL K H p ys ∨ SqT K H p ys) ∧ Q (.int ys.length) H
theorem cd_len (t : Sub T K) : CallD T (rLenA K) lenD := by
  intro q B H ds vs d s hp hg Q k
  unfold lenD at hg
  split at hg
  · cases hg
    obtain ⟨v, rfl, h⟩ := hp.one
    obtain ⟨a1, vs, rfl, h1, r1⟩ := h.lst s
    refine ⟨a1, vs, rfl, .inl (.inl (.inl h1)), ?_⟩
    rw [← r1.length]
    exact k _ B H (Ext0.refl s) (.int _)
  · cases hg
    obtain ⟨v, rfl, h⟩ := hp.one
    obtain ⟨a1, vs, rfl, h1, r1, _⟩ := h.tup t s
    refine ⟨a1, vs, rfl, .inr h1, ?_⟩
    rw [← r1.length]
    exact k _ B H (Ext0.refl s) (.int _)
  · cases hg
def lenDicD : List D → Option D
  | [.dic false xs] => some (.int xs.length)
  | _ => none
def rLenDic : List V → Hp → VK → Prop := fun xs H Q => ∃ p kvs, xs = [V.ref p] ∧ Rd H p (.dK kvs) ∧ Q (.int kvs.length) H
theorem RepK.length : ∀ {ks : List (D × D)} {vs : List (Key × V)}, RepK T q B ks vs → ks.length = vs.length
  | _, _, .nil => rfl
  | _, _, .cons _ r => congrArg Nat.succ (RepK.length r)
theorem RepT.length : ∀ {ks : List (D × D)} {vs : List (List Key × V)}, RepT T q B ks vs → ks.length = vs.length
  | _, _, .nil => rfl
  | _, _, .cons _ r => congrArg Nat.succ (RepT.length r)
theorem cr_lenDic {X : Cx} : CallR X (.builtin "len") rLenDic := by
  intro pins s σ H xs us Q I r h
  obtain ⟨a, kvs, rfl, ha, q⟩ := h
  obtain ⟨u, rfl, ru⟩ := vals1 r
  cases ru
  exact d_len I ha fun t s' I' => ⟨.int kvs.length, H, I', ⟨t, rfl⟩, q⟩
theorem cd_lenDic : CallD T rLenDic lenDicD := by
  intro q B H ds vs d s hp hg Q k
  unfold lenDicD at hg
  split at hg
  · cases hg
    obtain ⟨v, rfl, h⟩ := hp.one
    obtain ⟨a1, vs, rfl, h1, r1⟩ := h.dicK s
    refine ⟨a1, vs, rfl, h1, ?_⟩
    rw [← r1.length]
    exact k _ B H (Ext0.refl s) (.int _)
  · cases hg
def tupleD : List D → Option D
  | [.lst xs] => some (.tup xs)
  | [.tup xs] => some (.tup xs)
  | _ => none
def rTupleA (K : PySem.W.Frag) : List V → Hp → VK → Prop := fun xs H Q => ∃ p ys, xs = [.ref p] ∧ ((SqL K H p ys ∧ ∀ l, H l = none → Q (.ref l) (upd H l (.tup ys))) ∨ (SqT K H p ys ∧ Q (.ref p) H))
theorem cd_tuple (t : Sub T K) : CallD T (rTupleA K) tupleD := by
  intro q B H ds vs d s hp hg Q k
  unfold tupleD at hg
  split at hg
  · cases hg
    obtain ⟨v, rfl, h⟩ := hp.one
    obtain ⟨a1, vs, rfl, h1, r1⟩ := h.lst s
    refine ⟨a1, vs, rfl, .inl ⟨.inl (.inl h1), fun p hp => ?_⟩⟩
    exact k _ _ _ (Ext0.new s hp) (.tup (.inl upd_same) (r1.mono (Ext0.new s hp).b))
  · cases hg
    obtain ⟨v, rfl, h⟩ := hp.one
    obtain ⟨a1, vs, rfl, h1, r1, w1⟩ := h.tup t s
    exact ⟨a1, vs, rfl, .inr ⟨h1, k _ B H (Ext0.refl s) w1⟩⟩
  · cases hg
def listD : List D → Option D
  | [.lst xs] => some (.lst xs)
  | [.tup xs] => some (.lst xs)
  | _ => none
def rListA (K : PySem.W.Frag) : List V → Hp → VK → Prop := fun xs H Q => ∃ p ys, xs = [.ref p] ∧ (SqL K H p ys ∨ SqT K H p ys) ∧ ∀ l, H l = none → Q (.ref l) (upd H l (.lst ys))
theorem cf_list (t : Sub T K) : CallF T (rListA K) listD := by
  intro q B H ds vs d s hp hg Q k
  unfold listD at hg
  split at hg
  · cases hg
    obtain ⟨v, rfl, h⟩ := hp.one
    obtain ⟨a1, vs, rfl, h1, r1⟩ := h.lst s
    refine ⟨a1, vs, rfl, .inl (.inl (.inl h1)), fun p hp => ?_⟩
    exact k _ _ _ (Ext0.own s hp) hp (Same.free s hp) (.lst upd_same r1)
  · cases hg
    obtain ⟨v, rfl, h⟩ := hp.one
    obtain ⟨a1, vs, rfl, h1, r1, _⟩ := h.tup t s
    refine ⟨a1, vs, rfl, .inr h1, fun p hp => ?_⟩
    exact k _ _ _ (Ext0.own s hp) hp (Same.free s hp) (.lst upd_same r1)
  · cases hg
/-- list(d): its keys -/
def keyV : Bool → D → Option D
  | false, d => (keyAt d).map fun _ => d
  | true, .tup ds => (keysAt ds).map fun _ => .tup ds
  | true, _ => none
def listDicD : List D → Option D
  | [.dic false kvs] => some (.lst (kvs.map (·.1)))
  | _ => none
def rListDic : List V → Hp → VK → Prop := fun xs H Q => ∃ (a : Addr) (kvs : List (Key × V)), xs = [.ref a] ∧ Rd H a (.dK kvs) ∧ ∀ p, H p = none → Q (.ref p) (upd H p (.lst (kvs.map fun kv => kV kv.1)))
theorem rep_kV : ∀ k : Key, Rep T q B (keyD k) (kV k)
  | .inl i => .int i
  | .inr x => .str x
theorem RepK.keys : ∀ {ks : List (D × D)} {vs : List (Key × V)}, RepK T q B ks vs → RepL T q B (ks.map (·.1)) (vs.map fun kv => kV kv.1)
  | _, _, .nil => .nil
  | _, _, .cons _ r => .cons (rep_kV _) (RepK.keys r)
theorem cf_listDic : CallF T rListDic listDicD := by
  intro q B H ds vs d s hp hg Q k
  unfold listDicD at hg
  split at hg
  · cases hg
    obtain ⟨v, rfl, h⟩ := hp.one
    obtain ⟨a1, vs, rfl, h1, r1⟩ := h.dicK s
    exact ⟨a1, vs, rfl, h1, fun p hp => k _ _ _ (Ext0.own s hp) hp (Same.free s hp) (.lst upd_same r1.keys)⟩
  · cases hg
def allB : List D → Option (List Bool)
  | [] => some []
  | d :: ds => match asB d, allB ds with
    | some b, some r => some (b :: r)
    | _, _ => none
def allI : List D → Option (List Int)
  | [] => some []
  | d :: ds => match asI d, allI ds with
    | some b, some r => some (b :: r)
    | _, _ => none
theorem RepL.bools : ∀ {ds : List D} {vs : List V} {bs : List Bool}, RepL T q B ds vs → allB ds = some bs → vs = bs.map V.bl
  | _, _, _, .nil, e => by cases e; rfl
  | _, _, _, .cons h r, e => by
    unfold allB at e
    split at e
    · rename_i b r' e1 e2
      cases e
      have e3 := asB_some e1
      subst e3
      rw [rep_bl h, RepL.bools r e2, List.map_cons]
    · cases e
theorem rep_int {i : Int} {v : V} (h : Rep T q B (.int i) v) : v = .int i := by cases h; rfl
theorem RepL.ints : ∀ {ds : List D} {vs : List V} {bs : List Int}, RepL T q B ds vs → allI ds = some bs → vs = bs.map V.int
  | _, _, _, .nil, e => by cases e; rfl
  | _, _, _, .cons h r, e => by
    unfold allI at e
    split at e
    · rename_i b r' e1 e2
      cases e
      have e3 := asI_some e1
      subst e3
      rw [rep_int h, RepL.ints r e2, List.map_cons]
    · cases e
theorem repL_ints : ∀ ns : List Int, RepL T q B (ns.map D.int) (ns.map V.int)
  | [] => .nil
  | n :: ns => .cons (.int n) (repL_ints ns)
def allD : List D → Option D
  | [.lst xs] => (allB xs).map fun bs => .bl (bs.all id)
  | _ => none
def anyD : List D → Option D
  | [.lst xs] => (allB xs).map fun bs => .bl (bs.any id)
  | _ => none
theorem cd_all : CallD T (rAll K) allD := by
  intro q B H ds vs d s hp hg Q k
  unfold allD at hg
  split at hg
  · obtain ⟨bs, h0, rfl⟩ := Option.map_eq_some_iff.mp hg
    obtain ⟨v, rfl, h⟩ := hp.one
    obtain ⟨a1, vs, rfl, h1, r1⟩ := h.lst s
    have := r1.bools h0
    subst this
    exact ⟨a1, bs, rfl, .inl (.inl h1), k _ B H (Ext0.refl s) (.bl _)⟩
  · cases hg
theorem cd_any : CallD T (rAny K) anyD := by
  intro q B H ds vs d s hp hg Q k
  unfold anyD at hg
  split at hg
  · obtain ⟨bs, h0, rfl⟩ := Option.map_eq_some_iff.mp hg
    obtain ⟨v, rfl, h⟩ := hp.one
    obtain ⟨a1, vs, rfl, h1, r1⟩ := h.lst s
    have := r1.bools h0
    subst this
    exact ⟨a1, bs, rfl, .inl (.inl h1), k _ B H (Ext0.refl s) (.bl _)⟩
  · cases hg
def sumD : List D → Option D
  | [.lst xs] => (allI xs).map fun bs => .int bs.sum
  | _ => none
theorem cd_sum : CallD T (rSum K) sumD := by
  intro q B H ds vs d s hp hg Q k
  unfold sumD at hg
  split at hg
  · obtain ⟨bs, h0, rfl⟩ := Option.map_eq_some_iff.mp hg
    obtain ⟨v, rfl, h⟩ := hp.one
    obtain ⟨a1, vs, rfl, h1, r1⟩ := h.lst s
    have := r1.ints h0
    subst this
    exact ⟨a1, bs, rfl, .inl (.inl h1), k _ B H (Ext0.refl s) (.int _)⟩
  · cases hg
/-- the least, the greatest of ints, None of none -/
def minI : List Int → Option Int
  | [] => none
  | x :: xs => match minI xs with
    | none => some x
    | some y => some (if x ≤ y then x else y)
def maxI : List Int → Option Int
  | [] => none
  | x :: xs => match maxI xs with
    | none => some x
    | some y => some (if y ≤ x then x else y)
theorem minI_some : ∀ {xs : List Int} {m : Int}, minI xs = some m → m ∈ xs ∧ ∀ y ∈ xs, m ≤ y
  | [], m, h => by cases h
  | x :: xs, m, h => by
    unfold minI at h
    split at h
    · rename_i e
      cases h
      cases xs with
      | nil => exact ⟨by simp, by simp⟩
      | cons y ys =>
        exfalso
        unfold minI at e
        split at e <;> cases e
    · rename_i y e
      obtain ⟨h1, h2⟩ := minI_some e
      cases h
      by_cases hxy : x ≤ y
      · rw [if_pos hxy]
        exact ⟨by simp, fun z hz => by
          rcases List.mem_cons.mp hz with rfl | hz
          · exact Int.le_refl _
          · exact Int.le_trans hxy (h2 z hz)⟩
      · rw [if_neg hxy]
        exact ⟨List.mem_cons_of_mem _ h1, fun z hz => by
          rcases List.mem_cons.mp hz with rfl | hz
          · omega
          · exact h2 z hz⟩
theorem maxI_some : ∀ {xs : List Int} {m : Int}, maxI xs = some m → m ∈ xs ∧ ∀ y ∈ xs, y ≤ m
  | [], m, h => by cases h
  | x :: xs, m, h => by
    unfold maxI at h
    split at h
    · rename_i e
      cases h
      cases xs with
      | nil => exact ⟨by simp, by simp⟩
      | cons y ys =>
        exfalso
        unfold maxI at e
        split at e <;> cases e
    · rename_i y e
      obtain ⟨h1, h2⟩ := maxI_some e
      cases h
      by_cases hxy : y ≤ x
      · rw [if_pos hxy]
        exact ⟨by simp, fun z hz => by
          rcases List.mem_cons.mp hz with rfl | hz
          · exact Int.le_refl _
          · exact Int.le_trans (h2 z hz) hxy⟩
      · rw [if_neg hxy]
        exact ⟨List.mem_cons_of_mem _ h1, fun z hz => by
          rcases List.mem_cons.mp hz with rfl | hz
          · omega
          · exact h2 z hz⟩
def minD : List D → Option D
  | [.lst xs] => (allI xs).bind fun bs => (minI bs).map .int
  | _ => none
def maxD : List D → Option D
  | [.lst xs] => (allI xs).bind fun bs => (maxI bs).map .int
  | _ => none
theorem cd_min : CallD T (rMin K) minD := by
  intro q B H ds vs d s hp hg Q k
  unfold minD at hg
  split at hg
  · obtain ⟨bs, h0, h4⟩ := Option.bind_eq_some_iff.mp hg
    obtain ⟨m0, h5, rfl⟩ := Option.map_eq_some_iff.mp h4
    obtain ⟨v, rfl, h⟩ := hp.one
    obtain ⟨a1, vs, rfl, h1, r1⟩ := h.lst s
    have := r1.ints h0
    subst this
    obtain ⟨h6, h7⟩ := minI_some h5
    refine ⟨a1, bs, rfl, .inl (.inl h1), List.length_pos_of_mem h6, fun m hm hy => ?_⟩
    have e : m = m0 := Int.le_antisymm (hy _ h6) (h7 _ hm)
    rw [e]
    exact k _ B H (Ext0.refl s) (.int _)
  · cases hg
theorem cd_max : CallD T (rMax K) maxD := by
  intro q B H ds vs d s hp hg Q k
  unfold maxD at hg
  split at hg
  · obtain ⟨bs, h0, h4⟩ := Option.bind_eq_some_iff.mp hg
    obtain ⟨m0, h5, rfl⟩ := Option.map_eq_some_iff.mp h4
    obtain ⟨v, rfl, h⟩ := hp.one
    obtain ⟨a1, vs, rfl, h1, r1⟩ := h.lst s
    have := r1.ints h0
    subst this
    obtain ⟨h6, h7⟩ := maxI_some h5
    refine ⟨a1, bs, rfl, .inl (.inl h1), List.length_pos_of_mem h6, fun m hm hy => ?_⟩
    have e : m = m0 := Int.le_antisymm (h7 _ hm) (hy _ h6)
    rw [e]
    exact k _ B H (Ext0.refl s) (.int _)
  · cases hg
def absD : List D → Option D
  | [.int i] => some (.int (if i < 0 then -i else i))
  | _ => none
def rAbs : List V → Hp → VK → Prop := fun xs H Q => ∃ i, xs = [.int i] ∧ Q (.int (if i < 0 then -i else i)) H
theorem cd_abs : CallD T rAbs absD := by
  intro q B H ds vs d s hp hg Q k
  unfold absD at hg
  split at hg
  · cases hg
    obtain ⟨v, rfl, h⟩ := hp.one
    exact ⟨_, by rw [h.int], k _ B H (Ext0.refl s) (.int _)⟩
  · cases hg
def intD : List D → Option D
  | [.int i] => some (.int i)
  | [.bl b] => some (.int (if b then 1 else 0))
  | _ => none
def rInt1 : List V → Hp → VK → Prop := fun xs H Q => (∃ i, xs = [.int i] ∧ Q (.int i) H) ∨ ∃ k, xs = [.bl k] ∧ Q (.int (if k then 1 else 0)) H
theorem cd_int : CallD T rInt1 intD := by
  intro q B H ds vs d s hp hg Q k
  unfold intD at hg
  split at hg
  · cases hg
    obtain ⟨v, rfl, h⟩ := hp.one
    exact .inl ⟨_, by rw [h.int], k _ B H (Ext0.refl s) (.int _)⟩
  · cases hg
    obtain ⟨v, rfl, h⟩ := hp.one
    exact .inr ⟨_, by rw [h.bl], k _ B H (Ext0.refl s) (.int _)⟩
  · cases hg
def min2D : List D → Option D
  | [.int i, .int j] => some (.int (if j < i then j else i))
  | _ => none
def max2D : List D → Option D
  | [.int i, .int j] => some (.int (if j > i then j else i))
  | _ => none
def rMin2 : List V → Hp → VK → Prop := fun xs H Q => ∃ i j, xs = [.int i, .int j] ∧ Q (.int (if j < i then j else i)) H
def rMax2 : List V → Hp → VK → Prop := fun xs H Q => ∃ i j, xs = [.int i, .int j] ∧ Q (.int (if j > i then j else i)) H
theorem cd_min2 : CallD T rMin2 min2D := by
  intro q B H ds vs d s hp hg Q k
  unfold min2D at hg
  split at hg
  · cases hg
    obtain ⟨v, v', rfl, h, h'⟩ := hp.two
    exact ⟨_, _, by rw [h.int, h'.int], k _ B H (Ext0.refl s) (.int _)⟩
  · cases hg
theorem cd_max2 : CallD T rMax2 max2D := by
  intro q B H ds vs d s hp hg Q k
  unfold max2D at hg
  split at hg
  · cases hg
    obtain ⟨v, v', rfl, h, h'⟩ := hp.two
    exact ⟨_, _, by rw [h.int, h'.int], k _ B H (Ext0.refl s) (.int _)⟩
  · cases hg
/-- sorted of ints -/
def insI (x : Int) : List Int → List Int
  | [] => [x]
  | y :: ys => if x ≤ y then x :: y :: ys else y :: insI x ys
def sortI : List Int → List Int
  | [] => []
  | x :: xs => insI x (sortI xs)
theorem insI_perm (x : Int) : ∀ ys : List Int, (insI x ys).Perm (x :: ys)
  | [] => List.Perm.refl _
  | y :: ys => by
    unfold insI
    split
    · exact List.Perm.refl _
    · exact ((insI_perm x ys).cons y).trans (List.Perm.swap _ _ _)
theorem sortI_perm : ∀ ys : List Int, (sortI ys).Perm ys
  | [] => List.Perm.refl _
  | x :: xs => (insI_perm x _).trans ((sortI_perm xs).cons x)
theorem insI_sorted (x : Int) : ∀ ys : List Int, ys.Pairwise (· ≤ ·) → (insI x ys).Pairwise (· ≤ ·)
  | [], _ => List.pairwise_singleton _ _
  | y :: ys, h => by
    unfold insI
    split
    · rename_i hxy
      refine List.Pairwise.cons (fun z hz => ?_) h
      rcases List.mem_cons.mp hz with rfl | hz
      · exact hxy
      · exact Int.le_trans hxy (List.rel_of_pairwise_cons h hz)
    · rename_i hxy
      refine List.Pairwise.cons (fun z hz => ?_) (insI_sorted x ys h.of_cons)
      rcases List.mem_cons.mp ((insI_perm x ys).mem_iff.mp hz) with rfl | hz
      · omega
      · exact List.rel_of_pairwise_cons h hz
theorem sortI_sorted : ∀ ys : List Int, (sortI ys).Pairwise (· ≤ ·)
  | [] => List.Pairwise.nil
  | x :: xs => insI_sorted x _ (sortI_sorted xs)
theorem sorted_uniq : ∀ {xs ys : List Int}, xs.Perm ys → xs.Pairwise (· ≤ ·) → ys.Pairwise (· ≤ ·) → xs = ys
  | [], ys, h, _, _ => (List.nil_perm.mp h).symm ▸ rfl
  | x :: xs, [], h, _, _ => absurd h.length_eq (by simp)
  | x :: xs, y :: ys, h, hx, hy => by
    have e : x = y := by
      have h1 : y ≤ x := by
        rcases List.mem_cons.mp (h.mem_iff.mp (List.mem_cons_self (a := x) (l := xs))) with e | e
        · omega
        · exact List.rel_of_pairwise_cons hy e
      have h2 : x ≤ y := by
        rcases List.mem_cons.mp (h.mem_iff.mpr (List.mem_cons_self (a := y) (l := ys))) with e | e
        · omega
        · exact List.rel_of_pairwise_cons hx e
      omega
    subst e
    rw [sorted_uniq h.cons_inv hx.of_cons hy.of_cons]
def sortedID : List D → Option D
  | [.lst xs] => (allI xs).map fun bs => .lst ((sortI bs).map .int)
  | _ => none
theorem cf_sortedI : CallF T (rSortedI K) sortedID := by
  intro q B H ds vs d s hp hg Q k
  unfold sortedID at hg
  split at hg
  · obtain ⟨bs, h0, rfl⟩ := Option.map_eq_some_iff.mp hg
    obtain ⟨v, rfl, h⟩ := hp.one
    obtain ⟨a1, vs, rfl, h1, r1⟩ := h.lst s
    have := r1.ints h0
    subst this
    refine ⟨a1, bs, rfl, .inl (.inl h1), fun ns p hperm hpw hp => ?_⟩
    have e : ns = sortI bs := sorted_uniq (hperm.trans (sortI_perm bs).symm) hpw (sortI_sorted bs)
    subst e
    exact k _ _ _ (Ext0.own s hp) hp (Same.free s hp) (.lst upd_same (repL_ints _))
  · cases hg
end
section
variable {C : SC} {sc : Scope} {e a b c : Expr} {f fa fb fc : ESem} {pos : Pos}
/-- d.get(k, x) -/
def dgetDE (t : Bool) (fd fk fx : ESem) : ESem := fun env => M.bd (fd env) fun d => M.bd (fk env) fun k => M.bd (fx env) fun x => match d with
  | .dic t' kvs => if t' = t then M.bd (M.lf (dget t kvs k)) fun o => M.ret (o.getD x) else fun _ => none
  | _ => fun _ => none
end
end Y
end

section
set_option Elab.async false
set_option linter.all false
set_option maxRecDepth 100000
set_option autoImplicit false
namespace Y
open PySem PySem.Spec L2
open PyProof.Rows hiding St

inductive Fl where
  | nx | rt (r : Var) | bk | ct
abbrev SSem := List Var → M (Fl × List Var)
def ts (C : SC) (sc : Scope) (s : Stmt) : TS := fun Dd σ H => ∀ X, XOk C sc X → ∀ pins sh, Inv X pins σ H sh → wpAny (model X.prog X.w) X.A (exec s X.env) (L2.SP X pins Dd) X.xe sh
theorem ps_ts {C : SC} {sc : Scope} {s : Stmt} {X : Cx} (h : XOk C sc X) : PS X s (ts C sc s) := ⟨fun pins sh σ H D I q => q X h pins sh I⟩
def tss (C : SC) (sc : Scope) (s : List Stmt) : TS := fun Dd σ H => ∀ X, XOk C sc X → ∀ pins sh, Inv X pins σ H sh → wpAny (model X.prog X.w) X.A (execs s X.env) (L2.SP X pins Dd) X.xe sh
theorem pss_tss {C : SC} {sc : Scope} {s : List Stmt} {X : Cx} (h : XOk C sc X) : PSs X s (tss C sc s) := ⟨fun pins sh σ H D I q => q X h pins sh I⟩

/-- a value that leaves a frame -/
def RetOk (T : PySem.W.Frag) (q : QA) (B0 H0 B' H' : Hp) : Var → V → Prop
  | .p d, v => Rep T q B' d v
  | .o d, v => ∃ a, v = .ref a ∧ H0 a = none ∧ B' a = none ∧ Own T q B' H' a d
  | .u, _ => False
def Post (T : PySem.W.Frag) (q : QA) (B0 H0 B : Hp) (fl : Fl) (env' : List Var) (st' : DS) (Dd : Ends) : Prop :=
  match fl with
  | .nx => ∀ σ' B' H', Same B B' → GS T q B0 H0 B' H' σ' env' st' → Dd.nx σ' H'
  | .bk => ∀ σ' B' H', Same B B' → GS T q B0 H0 B' H' σ' env' st' → Dd.bk σ' H'
  | .ct => ∀ σ' B' H', Same B B' → GS T q B0 H0 B' H' σ' env' st' → Dd.ct σ' H'
  | .rt r => ∀ v B' H', Ext q B0 H0 B' H' → DrAt q H' st' → RetOk T q B0 H0 B' H' r v → Dd.rt v H'
section
variable (C : SC) (sc : Scope)
def SS (s : Stmt) (F : SSem) : Prop := ∀ q B0 H0 B H σ env st fl env' st' (Dd : Ends), GS C.T q B0 H0 B H σ env st → F env st = some ((fl, env'), st') → Post C.T q B0 H0 B fl env' st' Dd → ts C sc s Dd σ H
def SSs (s : List Stmt) (F : SSem) : Prop := ∀ q B0 H0 B H σ env st fl env' st' (Dd : Ends), GS C.T q B0 H0 B H σ env st → F env st = some ((fl, env'), st') → Post C.T q B0 H0 B fl env' st' Dd → tss C sc s Dd σ H
end
section
variable {C : SC} {sc : Scope} {e a b c : Expr} {f fa fb fc : ESem} {pos : Pos} {s : Stmt} {ss : List Stmt} {F G : SSem}
theorem SS.of {t : TS} (hp : ∀ X, XOk C sc X → PS X s t) (hr : ∀ q B0 H0 B H σ env st fl env' st' (Dd : Ends), GS C.T q B0 H0 B H σ env st → F env st = some ((fl, env'), st') → Post C.T q B0 H0 B fl env' st' Dd → t Dd σ H) : SS C sc s F :=
  fun q B0 H0 B H σ env st fl env' st' Dd g hf k X hX pins sh I => (hp X hX).run pins sh σ H Dd I (hr q B0 H0 B H σ env st fl env' st' Dd g hf k)
theorem SSs.of {t : TS} (hp : ∀ X, XOk C sc X → PSs X ss t) (hr : ∀ q B0 H0 B H σ env st fl env' st' (Dd : Ends), GS C.T q B0 H0 B H σ env st → F env st = some ((fl, env'), st') → Post C.T q B0 H0 B fl env' st' Dd → t Dd σ H) : SSs C sc ss F :=
  fun q B0 H0 B H σ env st fl env' st' Dd g hf k X hX pins sh I => (hp X hX).run pins sh σ H Dd I (hr q B0 H0 B H σ env st fl env' st' Dd g hf k)
/-! ### blocks -/
def nilS : SSem := fun env => M.ret (.nx, env)
def seqS (F G : SSem) : SSem := fun env => M.bd (F env) fun r => match r with
  | (.nx, env1) => G env1
  | r => M.ret r
theorem ss_nil : SSs C sc [] nilS := SSs.of (fun _ _ => pss_nil) fun q B0 H0 B H σ env st fl env' st' Dd g hf k => by
  obtain ⟨h, rfl⟩ := M.ret_some hf
  cases h
  exact k σ B H (Same.refl _) g
theorem Post.mono {T : PySem.W.Frag} {q : QA} {B0 H0 B B' : Hp} {fl : Fl} {env' : List Var} {st' : DS} {Dd : Ends} (h : Post T q B0 H0 B fl env' st' Dd) (e : Same B B') : Post T q B0 H0 B' fl env' st' Dd := by
  cases fl with
  | nx => exact fun σ' B2 H2 s2 g => h σ' B2 H2 (e.trans s2) g
  | bk => exact fun σ' B2 H2 s2 g => h σ' B2 H2 (e.trans s2) g
  | ct => exact fun σ' B2 H2 s2 g => h σ' B2 H2 (e.trans s2) g
  | rt r => exact h
theorem seq_run {t u : TS} {Dd : Ends} {q : QA} {B0 H0 B : Hp} {env : List Var} {st : DS} {fl : Fl} {env' : List Var} {st' : DS} {σ : St} {H : Hp} (hf : seqS F G env st = some ((fl, env'), st')) (k : Post C.T q B0 H0 B fl env' st' Dd)
    (ht : ∀ fl1 env1 st1 Dd1, F env st = some ((fl1, env1), st1) → Post C.T q B0 H0 B fl1 env1 st1 Dd1 → t Dd1 σ H) (hu : ∀ env1 st1 σ1 B1 H1, Same B B1 → GS C.T q B0 H0 B1 H1 σ1 env1 st1 → G env1 st1 = some ((fl, env'), st') → u Dd σ1 H1) : tSeq t u Dd σ H := by
  obtain ⟨⟨fl1, env1⟩, s1, h1, h2⟩ := M.bd_some hf
  refine ht fl1 env1 s1 _ h1 ?_
  cases fl1 with
  | nx => exact fun σ' B' H' s' g' => hu env1 s1 σ' B' H' s' g' h2
  | bk => obtain ⟨h, rfl⟩ := M.ret_some h2; cases h; exact k
  | ct => obtain ⟨h, rfl⟩ := M.ret_some h2; cases h; exact k
  | rt r => obtain ⟨h, rfl⟩ := M.ret_some h2; cases h; exact k
theorem ss_cons (h : SS C sc s F) (hr : SSs C sc ss G) : SSs C sc (s :: ss) (seqS F G) :=
  SSs.of (fun X hX => pss_cons (ps_ts hX) (pss_tss hX)) fun q B0 H0 B H σ env st fl env' st' Dd g hf k =>
    seq_run hf k (fun fl1 env1 st1 Dd1 h1 k1 => h q B0 H0 B H σ env st fl1 env1 st1 Dd1 g h1 k1) fun env1 st1 σ1 B1 H1 s1 g1 h2 => hr q B0 H0 B1 H1 σ1 env1 st1 fl env' st' Dd g1 h2 (k.mono s1)
theorem ss_one (h : SS C sc s F) : SSs C sc [s] F :=
  SSs.of (fun X hX => pss_one (ps_ts hX)) fun q B0 H0 B H σ env st fl env' st' Dd g hf k => h q B0 H0 B H σ env st fl env' st' Dd g hf k
/-- ahead of a statement an owned object goes into the base (nothing happens) -/
def frzS (i : Nat) (F : SSem) : SSem := fun env => F (frz i env)
theorem ss_frz (i : Nat) (h : SS C sc s F) : SS C sc s (frzS i F) := fun q B0 H0 B H σ env st fl env' st' Dd g hf k => by
  obtain ⟨B', s1, g'⟩ := g.frz i
  exact h q B0 H0 B' H σ _ st fl env' st' Dd g' hf (k.mono s1)
theorem sss_frz (i : Nat) (h : SSs C sc ss F) : SSs C sc ss (frzS i F) := fun q B0 H0 B H σ env st fl env' st' Dd g hf k => by
  obtain ⟨B', s1, g'⟩ := g.frz i
  exact h q B0 H0 B' H σ _ st fl env' st' Dd g' hf (k.mono s1)
/-- never reached -/
def neverS : SSem := fun _ _ => none
theorem ss_never : SS C sc s neverS := fun q B0 H0 B H σ env st fl env' st' Dd g hf k => by cases hf
theorem ss_pass : SS C sc (.Pass pos) nilS := SS.of (fun _ _ => ps_pass) fun q B0 H0 B H σ env st fl env' st' Dd g hf k => by
  obtain ⟨h, rfl⟩ := M.ret_some hf
  cases h
  exact k σ B H (Same.refl _) g
theorem ss_break : SS C sc (.Break pos) (fun env => M.ret (.bk, env)) := SS.of (fun _ _ => ps_break) fun q B0 H0 B H σ env st fl env' st' Dd g hf k => by
  obtain ⟨h, rfl⟩ := M.ret_some hf
  cases h
  exact k σ B H (Same.refl _) g
theorem ss_cont : SS C sc (.Continue pos) (fun env => M.ret (.ct, env)) := SS.of (fun _ _ => ps_continue) fun q B0 H0 B H σ env st fl env' st' Dd g hf k => by
  obtain ⟨h, rfl⟩ := M.ret_some hf
  cases h
  exact k σ B H (Same.refl _) g
def breakS : SSem := fun env => M.ret (.bk, env)
def contS : SSem := fun env => M.ret (.ct, env)
/-! ### small statements -/
def exprS (f : ESem) : SSem := fun env => M.bd (f env) fun _ => M.ret (.nx, env)
theorem ss_expr (h : SE C sc e f) (hs : ∀ env, swapsWith e none pos.line env = pure false := by intro _; rfl) : SS C sc (.Expr e pos) (exprS f) :=
  SS.of (fun X hX => ps_expr (pe_te hX) (hs _)) fun q B0 H0 B H σ env st fl env' st' Dd g hf k => by
    obtain ⟨x, s1, h1, h2⟩ := M.bd_some hf
    obtain ⟨h3, rfl⟩ := M.ret_some h2
    cases h3
    exact h q B0 H0 B H σ env st x _ _ g h1 fun v B' H' e1 d1 r1 => k σ B' H' e1.b (g.step e1 d1)
def retS (f : ESem) : SSem := fun env => M.bd (f env) fun d => M.ret (.rt (.p d), env)
theorem ss_ret (h : SE C sc e f) : SS C sc (.Return (some e) pos) (retS f) :=
  SS.of (fun X hX => ps_ret (pe_te hX)) fun q B0 H0 B H σ env st fl env' st' Dd g hf k => by
    obtain ⟨x, s1, h1, h2⟩ := M.bd_some hf
    obtain ⟨h3, rfl⟩ := M.ret_some h2
    cases h3
    exact h q B0 H0 B H σ env st x _ _ g h1 fun v B' H' e1 d1 r1 => k v B' H' (g.step e1 d1).ext d1 r1
def retFS (f : ESem) : SSem := fun env => M.bd (f env) fun d => M.ret (.rt (.o d), env)
theorem ss_retF (h : SF C sc e f) : SS C sc (.Return (some e) pos) (retFS f) :=
  SS.of (fun X hX => ps_ret (pe_te hX)) fun q B0 H0 B H σ env st fl env' st' Dd g hf k => by
    obtain ⟨x, s1, h1, h2⟩ := M.bd_some hf
    obtain ⟨h3, rfl⟩ := M.ret_some h2
    cases h3
    exact h q B0 H0 B H σ env st x _ _ g h1 fun a B' H' e1 d1 n1 n2 r1 => k _ B' H' (g.step e1 d1).ext d1 ⟨a, rfl, Ext.new0 g n1, n2, r1⟩
/-- return x, x a local -/
def retVS (i : Nat) : SSem := fun env st => match env[i]? with
  | some (.p d) => some ((.rt (.p d), env), st)
  | some (.o d) => some ((.rt (.o d), env), st)
  | _ => none
theorem ss_retV {x : Str} {i : Nat} {px : Pos} (hN : C.N[i]? = some x) (hv : VisB sc x = true) (hd : (x == ("__debug__" : Str)) = false := by decide) (hcd : (x == ("__classdict__" : Str)) = false := by decide) : SS C sc (.Return (some (.Name x px)) pos) (retVS i) :=
  SS.of (fun X hX => ps_ret (pv_of hX hN hv hd hcd)) fun q B0 H0 B H σ env st fl env' st' Dd g hf k => by
    unfold retVS at hf
    split at hf
    · rename_i d e
      cases hf
      obtain ⟨v, h1, h2⟩ := g.vars i _ e
      exact ⟨v, h1, k v B H g.ext g.dr h2⟩
    · rename_i d e
      cases hf
      obtain ⟨a, h1, h2, h3, _, h5⟩ := g.vars i _ e
      exact ⟨_, h1, k _ B H g.ext g.dr ⟨a, rfl, h2, h3, h5⟩⟩
    · cases hf
def retNS : SSem := fun env => M.ret (.rt (.p .non), env)
theorem ss_retN : SS C sc (.Return none pos) retNS := SS.of (fun _ _ => ps_retN) fun q B0 H0 B H σ env st fl env' st' Dd g hf k => by
  obtain ⟨h3, rfl⟩ := M.ret_some hf
  cases h3
  exact k .non B H g.ext g.dr .non
def ifS (c : TSem) (F G : SSem) : SSem := fun env => M.bd (c env) fun b => if b = true then F env else G env
theorem ss_if {fc : TSem} {sa sb : List Stmt} (hc : ST C sc c fc) (ha : SSs C sc sa F) (hb : SSs C sc sb G) : SS C sc (.If c sa sb pos) (ifS fc F G) :=
  SS.of (fun X hX => ps_if (pt_tt hX) (pss_tss hX) (pss_tss hX)) fun q B0 H0 B H σ env st fl env' st' Dd g hf k => by
    obtain ⟨x, s1, h1, h2⟩ := M.bd_some hf
    refine hc q B0 H0 B H σ env st x s1 _ g h1 fun B' H' e1 d1 => ?_
    cases x with
    | true =>
      rw [if_pos rfl] at h2 ⊢
      exact ha q B0 H0 B' H' σ env s1 fl env' st' Dd (g.step e1 d1) h2 (k.mono e1.b)
    | false =>
      rw [if_neg (by decide)] at h2 ⊢
      exact hb q B0 H0 B' H' σ env s1 fl env' st' Dd (g.step e1 d1) h2 (k.mono e1.b)
/-! ### stores to names -/
def LocB (sc : Scope) (x : Str) : Bool := match sc.names.lookup x with
  | some .local => true
  | some .cell => true
  | _ => false
theorem XOk.loc {X : Cx} {x : Str} (h : XOk C sc X) (v : LocB sc x = true) : Loc X.env.scope x ∧ (X.fn x = true ∨ X.env.scope.names.lookup x = some .local) := by
  unfold LocB at v
  split at v
  · rename_i e; obtain ⟨k', h1, h2⟩ := h.names x _ e
    rcases h2 with rfl | ⟨z, _⟩
    · exact ⟨.inl h1, .inr h1⟩
    · cases z
  · rename_i e; obtain ⟨k', h1, h2⟩ := h.names x _ e
    rcases h2 with rfl | ⟨z, _⟩
    · exact ⟨.inr h1, .inl (h.fn x e)⟩
    · cases z
  · cases v
def setS (i : Nat) (f : ESem) : SSem := fun env => M.bd (f env) fun d => M.ret (.nx, env.set i (.p d))
def setOS (i : Nat) (f : ESem) : SSem := fun env => M.bd (f env) fun d => M.ret (.nx, env.set i (.o d))
theorem ss_set {x : Str} {i : Nat} {px : Pos} (hN : C.N[i]? = some x) (hl : LocB sc x = true) (h : SE C sc e f) (hs : ∀ env, swapsWith e (some (.Name x px)) pos.line env = pure false := by intro _; rfl) : SS C sc (.Assign [.Name x px] e pos) (setS i f) :=
  SS.of (fun X hX => ps_set hX.nd (by rw [hX.N]; exact hN) (hX.loc hl).1 (pe_te hX) (hs _) (hX.loc hl).2) fun q B0 H0 B H σ env st fl env' st' Dd g hf k => by
    obtain ⟨x, s1, h1, h2⟩ := M.bd_some hf
    obtain ⟨h3, rfl⟩ := M.ret_some h2
    cases h3
    exact h q B0 H0 B H σ env st x _ _ g h1 fun v B' H' e1 d1 r1 => k _ B' H' e1.b ((g.step e1 d1).setP i r1)
theorem GS.setN {T : PySem.W.Frag} {q : QA} {B0 H0 B H B' H' : Hp} {σ : St} {env : List Var} {st st' : DS} (g : GS T q B0 H0 B H σ env st) (e1 : Ext q B H B' H') (d1 : DrAt q H' st') (i : Nat) {a : Addr} {d : D} (n1 : H a = none) (n2 : B' a = none) (r : Own T q B' H' a d) :
    GS T q B0 H0 B' H' (σ.set i (some (.ref a))) (env.set i (.o d)) st' :=
  (g.step e1 d1).setO i r n2 (Ext.new0 g n1) (g.dr.no n1) fun j e _ h => g.far n1 j e h
theorem ss_setO {x : Str} {i : Nat} {px : Pos} (hN : C.N[i]? = some x) (hl : LocB sc x = true) (h : SF C sc e f) (hs : ∀ env, swapsWith e (some (.Name x px)) pos.line env = pure false := by intro _; rfl) : SS C sc (.Assign [.Name x px] e pos) (setOS i f) :=
  SS.of (fun X hX => ps_set hX.nd (by rw [hX.N]; exact hN) (hX.loc hl).1 (pe_te hX) (hs _) (hX.loc hl).2) fun q B0 H0 B H σ env st fl env' st' Dd g hf k => by
    obtain ⟨x, s1, h1, h2⟩ := M.bd_some hf
    obtain ⟨h3, rfl⟩ := M.ret_some h2
    cases h3
    exact h q B0 H0 B H σ env st x _ _ g h1 fun a B' H' e1 d1 n1 n2 r1 => k _ B' H' e1.b (g.setN e1 d1 i n1 n2 r1)
/-! ### targets -/
abbrev GSem := D → List Var → Option (List Var)
/-- a target that stores pure values at the slots vs alone -/
def GFx (vs : List Nat) (env env' : List Var) : Prop := env'.length = env.length ∧ (∀ j, j ∉ vs → env'[j]? = env[j]?) ∧ ∀ (j : Nat) (e : D), env'[j]? = some (.o e) → env[j]? = some (.o e)
def SG (C : SC) (sc : Scope) (tg : Expr) (vs : List Nat) (f : GSem) : Prop := (∀ d env env', f d env = some env' → GFx vs env env') ∧ ∃ g : TG, (∀ X, XOk C sc X → PG X tg g) ∧ ∀ q B0 H0 B H σ env st d v env' (Q : St → Hp → Prop), GS C.T q B0 H0 B H σ env st → Rep C.T q B d v → f d env = some env' →
  (∀ σ', GS C.T q B0 H0 B H σ' env' st → wipe σ' vs = wipe σ vs → Q σ' H) → g v σ H Q
def nameG (i : Nat) : GSem := fun d env => some (env.set i (.p d))
theorem wipe_cong {σ σ' : St} : ∀ {vs : List Nat}, σ.length = σ'.length → (∀ j, j ∉ vs → σ[j]? = σ'[j]?) → wipe σ vs = wipe σ' vs := fun {vs} hl h => by
  apply List.ext_getElem?
  intro j
  by_cases hj : j ∈ vs
  · have key : ∀ (τ : St), (wipe τ vs)[j]? = if j < τ.length then some none else none := fun τ => by
      clear h hl
      induction vs with
      | nil => cases hj
      | cons v vs ih =>
        unfold wipe
        by_cases e : v = j
        · subst e
          by_cases hl : v < τ.length
          · rw [if_pos hl, List.getElem?_set_self (by rw [wipe_length]; exact hl)]
          · rw [if_neg hl, List.getElem?_eq_none (by rw [List.length_set, wipe_length]; omega)]
        · rw [List.getElem?_set_ne e]
          rcases List.mem_cons.mp hj with z | z
          · exact absurd z.symm e
          · exact ih z
    rw [key, key, hl]
  · rw [wipe_out hj, wipe_out hj, h j hj]
theorem sg_name {x : Str} {i : Nat} {px : Pos} (hN : C.N[i]? = some x) (hl : LocB sc x = true) : SG C sc (.Name x px) [i] (nameG i) :=
  ⟨(fun d env env' h => by
    cases h
    refine ⟨by rw [List.length_set], fun j hj => List.getElem?_set_ne (fun z => hj (by rw [z]; simp)), fun j e h => ?_⟩
    by_cases hj : i = j
    · subst hj
      by_cases hl : i < env.length
      · rw [List.getElem?_set_self hl] at h; cases h
      · rw [List.getElem?_eq_none (by rw [List.length_set]; omega)] at h; cases h
    · rw [List.getElem?_set_ne hj] at h; exact h), gName i, fun X hX => pg_name hX.nd (by rw [hX.N]; exact hN) (hX.loc hl).1 (hX.loc hl).2, fun q B0 H0 B H σ env st d v env' Q g r hf k => by
    cases hf
    refine k _ (g.setP i r) (wipe_cong (by rw [List.length_set]) fun j hj => ?_)
    rw [List.getElem?_set_ne (fun z => hj (by rw [z]; simp))]⟩
abbrev GSemL := List D → List Var → Option (List Var)
def SGs (C : SC) (sc : Scope) (tgs : List Expr) (vs : List Nat) (f : GSemL) : Prop := (∀ ds env env', f ds env = some env' → GFx vs env env') ∧ ∃ g : TGs, (∀ X, XOk C sc X → PGs X tgs g) ∧ ∀ q B0 H0 B H σ env st ds us env' (Q : St → Hp → Prop), GS C.T q B0 H0 B H σ env st → RepL C.T q B ds us → f ds env = some env' →
  (∀ σ', GS C.T q B0 H0 B H σ' env' st → σ'.length = σ.length → (∀ j, j ∉ vs → σ'[j]? = σ[j]?) → Q σ' H) → g us σ H Q
def nilG : GSemL := fun ds env => match ds with
  | [] => some env
  | _ => none
def consG (f : GSem) (r : GSemL) : GSemL := fun ds env => match ds with
  | d :: ds => (f d env).bind fun env1 => r ds env1
  | [] => none
theorem sgs_nil : SGs C sc [] [] nilG := ⟨(fun ds env env' h => by
    unfold nilG at h
    split at h
    · cases h; exact ⟨rfl, fun _ _ => rfl, fun _ _ h => h⟩
    · cases h), gNil, fun X hX => pgs_nil, fun q B0 H0 B H σ env st ds us env' Q g r hf k => by
  unfold nilG at hf
  split at hf
  · cases hf; cases r; exact ⟨rfl, k σ g rfl fun _ _ => rfl⟩
  · cases hf⟩
theorem wipe_out' {σ σ' : St} {vs : List Nat} (h : wipe σ' vs = wipe σ vs) : σ'.length = σ.length ∧ ∀ j, j ∉ vs → σ'[j]? = σ[j]? := ⟨by
  have := congrArg List.length h
  rw [wipe_length, wipe_length] at this
  exact this, fun j hj => by rw [← wipe_out (σ := σ') hj, h, wipe_out hj]⟩
theorem sgs_cons {tg : Expr} {tgs : List Expr} {vs us : List Nat} {f : GSem} {r : GSemL} (h : SG C sc tg vs f) (hr : SGs C sc tgs us r)
    (hs : ∀ env, (assignEach (tg :: tgs) env).map (·.2) = assign tg env :: (assignEach tgs env).map (·.2) := by intro _; rfl) : SGs C sc (tg :: tgs) (vs ++ us) (consG f r) := by
  obtain ⟨f1, g1, p1, k1⟩ := h
  obtain ⟨f2, g2, p2, k2⟩ := hr
  refine ⟨fun ds env env' h => ?_, gCons g1 g2, fun X hX => pgs_cons (p1 X hX) (p2 X hX) (hs _), fun q B0 H0 B H σ env st ds us' env' Q g r hf k => ?_⟩
  · unfold consG at h
    split at h
    · obtain ⟨env1, h1, h2⟩ := Option.bind_eq_some_iff.mp h
      obtain ⟨a1, a2, a3⟩ := f1 _ _ _ h1
      obtain ⟨b1, b2, b3⟩ := f2 _ _ _ h2
      refine ⟨b1.trans a1, fun j hj => ?_, fun j e h => a3 j e (b3 j e h)⟩
      rw [List.mem_append, not_or] at hj
      rw [b2 j hj.2, a2 j hj.1]
    · cases h
  cases r with
  | nil => cases hf
  | cons h' r' =>
    obtain ⟨env1, h1, h2⟩ := Option.bind_eq_some_iff.mp hf
    refine ⟨_, _, rfl, k1 q B0 H0 B H σ env st _ _ env1 _ g h' h1 fun σ1 g1 w1 => ?_⟩
    obtain ⟨l1, o1⟩ := wipe_out' w1
    refine k2 q B0 H0 B H σ1 env1 st _ _ env' Q g1 r' h2 fun σ2 g2 l2 o2 => k σ2 g2 (l2.trans l1) fun j hj => ?_
    rw [List.mem_append, not_or] at hj
    rw [o2 j hj.2, o1 j hj.1]
def tupG (r : GSemL) : GSem := fun d env => match d with
  | .tup ds => r ds env
  | _ => none
theorem sg_tup {tgs : List Expr} {vs : List Nat} {n : Nat} {k : Nat} {r : GSemL} (h : SGs C sc tgs vs r) (hlen : ∀ ds env env', r ds env = some env' → ds.length = n) (hn : ∀ env, (assignEach tgs env).length = n := by intro _; rfl) (hst : ∀ env, (assignEach tgs env).findIdx? (·.1) = none := by intro _; rfl) :
    SG C sc (.Tuple tgs k pos) vs (tupG r) := by
  obtain ⟨f1, g1, p1, k1⟩ := h
  refine ⟨fun d env env' h => ?_, gTup C.K n g1, fun X hX => ?_, fun q B0 H0 B H σ env st d v env' Q g r hf k => ?_⟩
  · unfold tupG at h
    split at h
    · exact f1 _ _ _ h
    · cases h
  · have z : PG X (.Tuple tgs k pos) (gTup X.K n g1) := pg_tup hX.calm (p1 X hX) (hn _) (hst _)
    rw [hX.K] at z
    exact z
  · unfold tupG at hf
    split at hf
    · cases r with
      | tup h1 h2 =>
        refine ⟨_, _, rfl, h1.sq C.TK g.sub, by rw [← h2.length]; exact hlen _ _ _ hf, k1 q B0 H0 B H σ env st _ _ env' Q g h2 hf fun σ' g' l' o' => k σ' g' (wipe_cong l' o')⟩
    · cases hf
theorem glen_nil : ∀ ds env env', nilG ds env = some env' → ds.length = 0 := fun ds env env' h => by
  unfold nilG at h
  split at h
  · rfl
  · cases h
theorem glen_cons {f : GSem} {r : GSemL} {n : Nat} (hr : ∀ ds env env', r ds env = some env' → ds.length = n) : ∀ ds env env', consG f r ds env = some env' → ds.length = n + 1 := fun ds env env' h => by
  unfold consG at h
  split at h
  · obtain ⟨env1, h1, h2⟩ := Option.bind_eq_some_iff.mp h
    rw [List.length_cons, hr _ _ _ h2]
  · cases h
/-- tg = e, e a value of the base -/
def asgS (g : GSem) (f : ESem) : SSem := fun env => M.bd (f env) fun d => M.bd (M.lf (g d env)) fun env' => M.ret (.nx, env')
theorem ss_asg {tg : Expr} {vs : List Nat} {g : GSem} (hg : SG C sc tg vs g) (h : SE C sc e f) (hs : ∀ env, swapsWithSole [tg] e pos.line env = pure false := by intro _; rfl) (hw : ∀ env, swappedStores [tg] e env = pure none := by intro _; rfl)
    (h1 : ∀ env, (assignEach [tg] env).map (·.2) = [assign tg env] := by intro _; rfl) : SS C sc (.Assign [tg] e pos) (asgS g f) := by
  obtain ⟨_, g1, p1, k1⟩ := hg
  refine SS.of (fun X hX => ps_asg (pe_te hX) (p1 X hX) (hs _) (hw _) (h1 _)) fun q B0 H0 B H σ env st fl env' st' Dd g hf k => ?_
  obtain ⟨x, s1, h1, h2⟩ := M.bd_some hf
  obtain ⟨env1, s2, h3, h4⟩ := M.bd_some h2
  obtain ⟨h5, rfl⟩ := M.lf_some h3
  obtain ⟨h6, rfl⟩ := M.ret_some h4
  cases h6
  refine h q B0 H0 B H σ env st x _ _ g h1 fun v B' H' e1 d1 r1 => ?_
  exact k1 q B0 H0 B' H' σ env _ x v _ _ (g.step e1 d1) r1 h5 fun σ' g' _ => k σ' B' H' e1.b g'
end
end Y
end

section
set_option Elab.async false
set_option linter.all false
set_option maxRecDepth 100000
set_option autoImplicit false
namespace Y
open PySem PySem.Spec L2
open PyProof.Rows hiding St

abbrev FSem := List D → M Var
/-- what a def promises -/
def spOf (T : PySem.W.Frag) (n : Nat) (F : FSem) : Sp := fun vs H Q _ => vs.length = n ∧ ∃ q B ds st r st', Same B H ∧ DrAt q H st ∧ (∀ a, q.has a → B a = none) ∧ RepL T q B ds vs ∧ F ds st = some (r, st') ∧
  ∀ v B' H', Ext q B H B' H' → DrAt q H' st' → RetOk T q B H B' H' r v → Q v H'
structure FnS (E : En) (k : Nat) (x : Str) (n : Nat) (F : FSem) : Prop where
  ex : ∃ (f : Addr) (fd : FuncData) (ps : List Str), FnOk E.P E.w E.K E.mg E.base CX0 k f fd ps (spOf E.T n F) ∧ E.mg x = some (.ref f) ∧ PySem.W.keepIn E.K (.ref f) = true ∧ Binds E.K fd ps []
theorem FnS.mono {E : En} {j k : Nat} {x : Str} {n : Nat} {F : FSem} (h : FnS E j x n F) (hk : j ≤ k) : FnS E k x n F := by
  obtain ⟨f, fd, ps, h1, h2⟩ := h.ex
  exact ⟨f, fd, ps, h1.mono hk, h2⟩
theorem FnS.imp {E : En} {k : Nat} {x : Str} {n : Nat} {F F' : FSem} (h : FnS E k x n F) (hF : ∀ ds st r st', F' ds st = some (r, st') → F ds st = some (r, st')) : FnS E k x n F' := by
  obtain ⟨f, fd, ps, h1, h2⟩ := h.ex
  refine ⟨f, fd, ps, h1.imp fun vs H Q E' hs => ?_, h2⟩
  obtain ⟨hl, q, B, ds, st, r, st', a1, a2, a3, a4, a5, a6⟩ := hs
  exact ⟨hl, q, B, ds, st, r, st', a1, a2, a3, a4, hF _ _ _ _ a5, a6⟩
def Var.val : Var → Option D
  | .p d => some d
  | .o d => some d
  | .u => none
def Var.own : Var → Option D
  | .o d => some d
  | _ => none
def callF (F : FSem) (fs : ASem) : ESem := fun env => M.bd (fs env) fun ds => M.bd (F ds) fun r => M.lf r.val
def callO (F : FSem) (fs : ASem) : ESem := fun env => M.bd (fs env) fun ds => M.bd (F ds) fun r => M.lf r.own
section
variable {C : SC} {sc : Scope} {e : Expr} {es : List Expr} {fs : ASem} {pos p : Pos} {x : Str} {n k : Nat} {F : FSem}
theorem pe_callX (hk : k ≤ C.lv) {f : Addr} {fd : FuncData} {ps : List Str} (h1 : FnOk C.P C.w C.K C.mg C.base CX0 k f fd ps (spOf C.T n F)) (h2 : C.mg x = some (.ref f)) (h3 : PySem.W.keepIn C.K (.ref f) = true) (h4 : Binds C.K fd ps [])
    (hg : sc.names.lookup x = some .globalImplicit) (hdb : (x == ("__debug__" : Str)) = false) (he : ∀ env, starEach (e :: es) env = (false, eval e env) :: starEach es env) (hpl : ∀ env, (backTo pos (starEach es env)).any (·.1) = false) {X : Cx} (hX : XOk C sc X) :
    PE X (.Call (.Name x p) (e :: es) [] pos) (tCall (spOf C.T n F) [] E0 (ta C sc (e :: es))) :=
  pe_call (by rw [hX.prog, hX.w, hX.K, hX.mg, hX.base]; exact h1) (hX.room.mono hk) (hX.gl hg) (by rw [hX.mg]; exact h2) (by rw [hX.K]; exact h3) (by rw [hX.K]; exact h4) .nil pass0 (pa_ta hX) hdb (he _) (hpl _)
theorem callX_run (hA : SA C sc es fs) (hn : ∀ env st ds st', fs env st = some (ds, st') → ds.length = n) {q : QA} {B0 H0 B H : Hp} {σ : St} {env : List Var} {st : DS} {st' : DS} {r : Var} {ds : List D} {s1 : DS} (Q : VK) (g0 : GS C.T q B0 H0 B H σ env st)
    (h1 : fs env st = some (ds, s1)) (h2 : F ds s1 = some (r, st')) (k : ∀ v B1 H1 B' H', Ext q B H B1 H1 → DrAt q H1 s1 → Ext q B1 H1 B' H' → DrAt q H' st' → RetOk C.T q B1 H1 B' H' r v → Q v H') : tCall (spOf C.T n F) [] E0 (ta C sc es) σ H Q := by
  refine hA q B0 H0 B H σ env st ds s1 _ g0 h1 fun vs B1 H1 e1 d1 r1 => ?_
  rw [List.append_nil]
  refine ⟨by rw [← r1.length]; exact hn _ _ _ _ h1, q, B1, ds, s1, r, st', e1.s, d1, Ext.out (st' := s1) e1 g0.dr g0.out, r1, h2, fun v B' H' e2 d2 r2 => ?_⟩
  exact k v B1 H1 B' H' e1 d1 e2 d2 r2
theorem se_callF (h : FnS C.toEn k x n F) (hk : k ≤ C.lv) (hA : SA C sc (e :: es) fs) (hn : ∀ env st ds st', fs env st = some (ds, st') → ds.length = n) (hg : sc.names.lookup x = some .globalImplicit) (hdb : (x == ("__debug__" : Str)) = false := by decide)
    (he : ∀ env, starEach (e :: es) env = (false, eval e env) :: starEach es env := by intro _; exact star_cons (by rfl)) (hpl : ∀ env, (backTo pos (starEach es env)).any (·.1) = false := by intro _; rfl) : SE C sc (.Call (.Name x p) (e :: es) [] pos) (callF F fs) := by
  obtain ⟨f, fd, ps, h1, h2, h3, h4⟩ := h.ex
  refine SE.of (fun X hX => pe_callX hk h1 h2 h3 h4 hg hdb he hpl hX) fun q B0 H0 B H σ env st d st' Q g0 hf k => ?_
  obtain ⟨ds, s1, a1, hf⟩ := M.bd_some hf
  obtain ⟨r, s2, a2, hf⟩ := M.bd_some hf
  obtain ⟨a3, rfl⟩ := M.lf_some hf
  refine callX_run hA hn Q g0 a1 a2 fun v B1 H1 B' H' e1 d1 e2 d2 ro => ?_
  cases r with
  | u => cases a3
  | p d' =>
    cases a3
    exact k v B' H' (e1.trans g0.dr e2 ⟨_, d1⟩) d2 ro
  | o d' =>
    cases a3
    obtain ⟨a, rfl, n1, n2, o1⟩ := ro
    obtain ⟨o, ho, r', t1, t2⟩ := o1.freeze n2 e2.s
    have e3 := e1.trans g0.dr e2 ⟨_, d1⟩
    refine k (.ref a) (upd B' a o) H' ⟨e3.b.trans t1, e3.h, t2, fun c h1 h2 => ?_⟩ d2 r'
    by_cases hc : c = a
    · rw [hc]; exact .inl (new_back e1 d1 n1)
    · rw [upd_ne hc] at h2; exact e3.n c h1 h2
theorem sf_callF (h : FnS C.toEn k x n F) (hk : k ≤ C.lv) (hA : SA C sc (e :: es) fs) (hn : ∀ env st ds st', fs env st = some (ds, st') → ds.length = n) (hg : sc.names.lookup x = some .globalImplicit) (hdb : (x == ("__debug__" : Str)) = false := by decide)
    (he : ∀ env, starEach (e :: es) env = (false, eval e env) :: starEach es env := by intro _; exact star_cons (by rfl)) (hpl : ∀ env, (backTo pos (starEach es env)).any (·.1) = false := by intro _; rfl) : SF C sc (.Call (.Name x p) (e :: es) [] pos) (callO F fs) := by
  obtain ⟨f, fd, ps, h1, h2, h3, h4⟩ := h.ex
  refine SF.of (fun X hX => pe_callX hk h1 h2 h3 h4 hg hdb he hpl hX) fun q B0 H0 B H σ env st d st' Q g0 hf k => ?_
  obtain ⟨ds, s1, a1, hf⟩ := M.bd_some hf
  obtain ⟨r, s2, a2, hf⟩ := M.bd_some hf
  obtain ⟨a3, rfl⟩ := M.lf_some hf
  refine callX_run hA hn Q g0 a1 a2 fun v B1 H1 B' H' e1 d1 e2 d2 ro => ?_
  cases r with
  | u => cases a3
  | p d' => cases a3
  | o d' =>
    cases a3
    obtain ⟨a, rfl, n1, n2, o1⟩ := ro
    exact k a B' H' (e1.trans g0.dr e2 ⟨_, d1⟩) d2 (new_back e1 d1 n1) n2 o1
end
/-! ### a def by its body -/
def startE (N : List Str) (ds : List D) : List Var := ds.map Var.p ++ List.replicate (N.length - ds.length) Var.u
def bodyF (N : List Str) (F : SSem) : FSem := fun ds => M.bd (F (startE N ds)) fun r => match r.1 with
  | .rt v => M.ret v
  | .nx => M.ret (.p .non)
  | _ => fun _ => none
theorem start_vars {T : PySem.W.Frag} {q : QA} {H0 B H : Hp} {N : List Str} {ds : List D} {vs : List V} (r : RepL T q B ds vs) (i : Nat) (x : Var) (h : (startE N ds)[i]? = some x) : VarOk T q H0 B H (start N vs) i x := by
  unfold startE at h
  unfold L2.start
  by_cases hi : i < ds.length
  · rw [List.getElem?_append_left (by rw [List.length_map]; exact hi), List.getElem?_map] at h
    obtain ⟨d, h1, rfl⟩ := Option.map_eq_some_iff.mp h
    obtain ⟨v, h2, h3⟩ := r.get h1
    refine ⟨v, ?_, h3⟩
    rw [List.getElem?_append_left (by rw [List.length_map, ← r.length]; exact hi), List.getElem?_map, h2]
    rfl
  · rw [List.getElem?_append_right (by rw [List.length_map]; omega)] at h
    have := List.mem_replicate.mp (List.mem_of_getElem? h)
    rw [this.2]
    trivial
theorem start_own {N : List Str} {ds : List D} {i : Nat} {d : D} (h : (startE N ds)[i]? = some (.o d)) : False := by
  unfold startE at h
  have := List.mem_of_getElem? h
  rcases List.mem_append.mp this with m | m
  · obtain ⟨d', _, e⟩ := List.mem_map.mp m
    cases e
  · have := (List.mem_replicate.mp m).2
    cases this
theorem fn_def {E : En} {x : Str} {st : Stmt} {f : Addr} {fd : FuncData} {N ps : List Str} {k n : Nat} {F : SSem} (FD : FunD E.K x x (defArgs st) (defBody st) (defScope st) [] [] f fd) (S : FnScope N ps (defScope st)) (hm : E.mg x = some (.ref f)) (hps : ps.length = n)
    (hb : ∀ (kV doc pm : Value) (an : Option Addr) (cdv ct : Value) (us : List Value), us.length = ps.length → bindArgs (PySem.W.fnOf x x (defArgs st) (defBody st) (defScope st) .none kV doc pm an cdv ct) ⟨us, []⟩ = pure (ps.zip us))
    (body : SSs ⟨E, N, k⟩ (defScope st) (defBody st) F) : FnS E (k + 1) x n (bodyF N F) := by
  refine ⟨f, fd, ps, FD.ok S (fun vs H Q E' h => ?_) (fun cdv A outer s H vs Q E' hr h => ?_), hm, FD.kp, FD.bindsN hb⟩
  · rw [h.1, hps]
  · obtain ⟨hl, q, B, ds, st0, r, st', a1, a2, a3, a4, a5, a6⟩ := h
    have hX : XOk ⟨E, N, k⟩ (defScope st) (cxOf CX0 E.P E.w E.K E.mg E.base N x (defScope st) f cdv A outer s H E').nox :=
      ⟨rfl, rfl, rfl, rfl, rfl, rfl, rfl, PassesOwn.never, hr, S.nd, S.kind, fun y k' h => ⟨k', h, .inl rfl⟩, fun _ _ => rfl, fun _ h => h⟩
    refine ⟨_, PSs.nox (pss_tss hX), ?_⟩
    obtain ⟨⟨fl, env'⟩, s1, b1, b2⟩ := M.bd_some a5
    have hlen : (start N vs).length = (startE N ds).length := by
      unfold L2.start startE
      rw [List.length_append, List.length_append, List.length_map, List.length_map, List.length_replicate, List.length_replicate, a4.length]
    have g0 : GS E.T q B H B H (start N vs) (startE N ds) st0 := ⟨Ext.refl a1, ⟨_, a2⟩, a2, a3, hlen, fun i y h => start_vars a4 i y h, fun i j d e h _ _ => (start_own h).elim⟩
    refine body q B H B H (start N vs) (startE N ds) st0 fl env' s1 _ g0 b1 ?_
    cases fl with
    | nx =>
      obtain ⟨rfl, rfl⟩ := M.ret_some b2
      exact fun σ' B' H' _ g' => a6 .non B' H' g'.ext g'.dr .non
    | bk => cases b2
    | ct => cases b2
    | rt v =>
      obtain ⟨rfl, rfl⟩ := M.ret_some b2
      exact fun u B' H' e1 d1 ro => a6 u B' H' e1 d1 ro
end Y
end

section
set_option Elab.async false
set_option linter.all false
set_option maxRecDepth 100000
set_option autoImplicit false
namespace Y
open PySem PySem.Spec L2
open PyProof.Rows hiding St

/-! ### lists and tuples as sources -/
inductive Kd where
  | l | t
def KIs : Kd → Heap → Addr → Array Value → Prop
  | .l, h, a, its => h.IsList a its
  | .t, h, a, its => h.IsTuple a its
def KIt : Kd → Heap → Addr → Addr → Nat → Prop
  | .l, h, i, a, n => h.IsListIter i a n
  | .t, h, i, a, n => h.IsTupleIter i a n
def KObj : Kd → Addr → Obj
  | .l, a => { cls := .type "list_iterator", data := .fields #[.ref a, .int 0 0] }
  | .t, a => { cls := .type "tuple_iterator", data := .fields #[.ref a, .int 0 0] }
def KSq : Kd → PySem.W.Frag → Hp → Addr → List V → Prop
  | .l, K, H, a, xs => SqL K H a xs
  | .t, K, H, a, xs => SqT K H a xs
theorem KIt.zero {k : Kd} {h : Heap} {i a : Addr} (e : h.get? i = some (KObj k a)) : KIt k h i a 0 := by
  cases k
  · exact ⟨_, e, rfl, rfl⟩
  · exact ⟨_, e, rfl, rfl⟩
theorem KIt.keep {k : Kd} {h h' : Heap} {i a : Addr} {n : Nat} (x : KIt k h i a n) (e : ∀ o, h.get? i = some o → h'.get? i = some o) : KIt k h' i a n := by
  cases k
  · exact Heap.IsListIter.at x e
  · exact Heap.IsTupleIter.at x e
theorem KIt.there {k : Kd} {h : Heap} {i a : Addr} {n : Nat} (x : KIt k h i a n) : ∃ o, h.get? i = some o ∧ ∀ v, o.data ≠ .cell v := by
  cases k
  · obtain ⟨o, e, _, d⟩ := x
    exact ⟨o, e, fun v z => by rw [d] at z; cases z⟩
  · obtain ⟨o, e, _, d⟩ := x
    exact ⟨o, e, fun v z => by rw [d] at z; cases z⟩
theorem kd_draws {prog : Program} {w : World} {A : Around} (hh : A.handled = none) (k : Kd) (it l : Addr) (hne : l ≠ it) (items : Array Value) :
    Draws prog w A it [it, l] items.size (fun i v => items[i]? = some v) (fun i h => KIt k h it l i ∧ KIs k h l items) := by
  cases k
  · exact Draws.list hh it l hne items
  · exact Draws.tuple hh it l hne items
theorem kd_begins (k : Kd) (l : Addr) (items : Array Value) : Begins (.ref l) (KObj k l) (fun h => KIs k h l items) := by
  cases k
  · exact begins_list l items
  · exact begins_tuple l items
section
variable {X : Cx} {pins : List (Addr × Obj)} {σ : St} {H : Hp} {s : Shared}
theorem kd_of {k : Kd} {a : Addr} {xs : List V} (I : Inv X pins σ H s) (h : KSq k X.K H a xs) : ∃ its : List Value, Vals xs its ∧ KIs k s.heap a its.toArray ∧ xs.length ≤ sizeLine := by
  cases k
  · obtain ⟨its, r, p, z⟩ := I.list h
    exact ⟨its, r, p.isList, z⟩
  · obtain ⟨its, r, p, z⟩ := I.tuple h
    exact ⟨its, r, p, z⟩
theorem kd_lt {k : Kd} {h : Heap} {a : Addr} {its : Array Value} (x : KIs k h a its) : a < h.objs.size := by
  cases k
  · obtain ⟨o, e, _⟩ := x
    exact Heap.lt_size e
  · obtain ⟨o, e, _⟩ := x
    exact Heap.lt_size e
/-- a source stands apart from an iterator's own objects -/
theorem kd_apart {k : Kd} {a b : Addr} {xs : List V} (I : Inv X pins σ H s) (h : KSq k X.K H a xs) (f : FpOk X pins H b) : a ≠ b := by
  have hK : ∀ o, X.K.lookup a = some o → a ≠ b := fun o e z => by
    have e' := I.ok.mod.kin a o e
    rcases f.2.2.2.1 with m | m
    · exact I.ok.noex a o e' (z ▸ m)
    · have l1 := Heap.lt_size e'
      have l2 := I.ok.bsz
      rw [← z] at m
      exact absurd (Nat.lt_of_lt_of_le l1 (Nat.le_trans l2 m)) (Nat.lt_irrefl _)
  cases k
  · rcases h with (h | ⟨o, h⟩) | ⟨o, _, _, h, _⟩
    · exact ne_of_none h f.1
    · exact ne_of_none h f.1
    · exact hK o h
  · rcases h with (h | ⟨o, h⟩) | ⟨o, _, _, h, _⟩
    · exact ne_of_none h f.1
    · exact ne_of_none h f.1
    · exact hK o h
end
/-- n rows, each in a new tuple, while G stands -/
def Jt (n : Nat) (row : Nat → List V) (G : Hp → Prop) : It :=
  ⟨fun i H => i < n ∧ G H, fun i H x H' => ∃ T, x = .ref T ∧ H T = none ∧ H' = upd H T (.tup (row i)), fun i H => i = n ∧ G H⟩
theorem tup_new {X : Cx} {pins : List (Addr × Obj)} {σ : St} {H : Hp} {s : Shared} {ch : List Addr} {h' : Heap} {tk : Nat} {T : Addr} {vs : List V} {its : List Value} (I : Inv X pins σ H s) (hf : ∀ b ∈ ch, FpOk X pins H b) (k : ∀ b o, b ∉ ch → s.heap.get? b = some o → h'.get? b = some o)
    (hT : s.heap.objs.size ≤ T) (ht : h'.IsTuple T its.toArray) (r : Vals vs its) (hz : vs.length ≤ sizeLine) : Inv X pins σ (upd H T (.tup vs)) { s with heap := h', toks := tk } :=
  I.turnedNew (t' := tk) k hf hT ⟨hz, its, r, ht⟩
def at' (xs : List V) (i : Nat) : V := (xs[i]?).getD .non
theorem at_rel {xs : List V} {its : List Value} {i : Nat} {u : Value} (r : Vals xs its) (h : its.toArray[i]? = some u) : RelV (at' xs i) u := by
  have h' : its[i]? = some u := by simpa using h
  unfold at'
  cases e : xs[i]? with
  | none => rw [r.none_of e] at h'; cases h'
  | some x =>
    obtain ⟨u', h1, h2⟩ := r.get e
    rw [h'] at h1
    cases h1
    exact h2
theorem sep2 {z TI TO i1 i2 a b : Addr} (d : [z, TI, TO, i1, i2].Nodup) (h1 : ∀ c ∈ [z, TI, TO, i1, i2], a ≠ c) (h2 : ∀ c ∈ [z, TI, TO, i1, i2], b ≠ c) : ZipSep2 z TI TO i1 i2 [i1, a] [i2, b] := by
  simp only [List.nodup_cons, List.mem_cons, List.not_mem_nil, not_or, or_false, not_false_eq_true, and_true] at d
  simp only [List.mem_cons, List.not_mem_nil, or_false, forall_eq_or_imp, forall_eq] at h1 h2
  obtain ⟨⟨d1, d2, d3, d4⟩, ⟨d5, d6, d7⟩, ⟨d8, d9⟩, d10, _⟩ := d
  obtain ⟨a1, a2, a3, a4, a5⟩ := h1
  obtain ⟨b1, b2, b3, b4, b5⟩ := h2
  refine ⟨fun e => d1 e.symm, fun e => d2 e.symm, d5, d6, by simp, ?_, ?_, d7, by simp, ?_, ?_, ?_, ?_⟩
  · simp only [List.mem_cons, List.not_mem_nil, or_false, not_or]
    exact ⟨d3, fun e => a1 e.symm⟩
  · simp only [List.mem_cons, List.not_mem_nil, or_false, not_or]
    exact ⟨d8, fun e => a3 e.symm⟩
  · simp only [List.mem_cons, List.not_mem_nil, or_false, not_or]
    exact ⟨d4, fun e => b1 e.symm⟩
  · simp only [List.mem_cons, List.not_mem_nil, or_false, not_or]
    exact ⟨d9, fun e => b3 e.symm⟩
  · simp only [List.mem_cons, List.not_mem_nil, or_false, not_or]
    exact ⟨d10, fun e => b4 e.symm⟩
  · simp only [List.mem_cons, List.not_mem_nil, or_false, not_or]
    exact ⟨fun e => d10 e.symm, fun e => a5 e.symm⟩
theorem sub4 {z TI TO i1 i2 c : Addr} (m : c ∈ [z, TO, i1, i2]) : c ∈ [z, TI, TO, i1, i2] := by
  rcases List.mem_cons.mp m with e | m
  · rw [e]; exact List.mem_cons_self ..
  · exact List.mem_cons_of_mem _ (List.mem_cons_of_mem _ m)
/-- zip of two sources -/
def Zst (k1 k2 : Kd) (z TI TO i1 i2 a b : Addr) (i : Nat) (h : Heap) : Prop :=
  IsZip h z TI TO .none ∧ IsTupOf2 h TI (.ref i1) (.ref i2) ∧ (∃ a1 a2, IsTupOf2 h TO a1 a2) ∧ KIt k1 h i1 a i ∧ KIt k2 h i2 b i
theorem turn_zip2 {P : Program} {w : World} {K : PySem.W.Frag} {elts : List Expr} {kk : Nat} {tpos : Pos} {k1 k2 : Kd} {z TI TO i1 i2 a b : Addr} {xs ys : List V} (d : [z, TI, TO, i1, i2].Nodup) :
    Turn P w K (.Tuple elts kk tpos) (Jt (min xs.length ys.length) (fun i => [at' xs i, at' ys i]) fun H => KSq k1 K H a xs ∧ KSq k2 K H b ys) [z, TI, TO, i1, i2] z (Zst k1 k2 z TI TO i1 i2 a b) where
  mem := List.mem_cons_self ..
  obj := fun i h st c hc => by
    obtain ⟨q1, q2, ⟨x, y, q3⟩, q4, q5⟩ := st
    simp only [List.mem_cons, List.not_mem_nil, or_false] at hc
    rcases hc with rfl | rfl | rfl | rfl | rfl
    · exact ⟨_, q1, fun _ e => nomatch e⟩
    · exact ⟨_, q2, fun _ e => nomatch e⟩
    · exact ⟨_, q3, fun _ e => nomatch e⟩
    · exact q4.there
    · exact q5.there
  keep := fun i h h' st k => by
    obtain ⟨q1, q2, ⟨x, y, q3⟩, q4, q5⟩ := st
    exact ⟨k _ (by simp) _ q1, k _ (by simp) _ q2, ⟨x, y, k _ (by simp) _ q3⟩, q4.keep (k _ (by simp)), q5.keep (k _ (by simp))⟩
  item := by
    intro X hP hw hK hc i pins s σ H E I hf st ⟨hi, hg1, hg2⟩
    subst hP hw hK
    obtain ⟨its, r1, p1, _⟩ := kd_of I hg1
    obtain ⟨jts, r2, p2, _⟩ := kd_of I hg2
    obtain ⟨q1, q2, q3, q4, q5⟩ := st
    have S := sep2 d (fun c hc' => kd_apart I hg1 (hf c hc')) (fun c hc' => kd_apart I hg2 (hf c hc'))
    have hh : X.A.in1.handled = none := I.ok.hd hc
    have W := GoesN.zip2 (elts := elts) (x1 := kk) (pos := tpos) S (kd_draws (prog := X.prog) (w := X.w) hh k1 i1 a (kd_apart I hg1 (hf i1 (by simp))) its.toArray) (kd_draws (prog := X.prog) (w := X.w) hh k2 i2 b (kd_apart I hg2 (hf i2 (by simp))) jts.toArray)
    have e1 : its.toArray.size = xs.length := by rw [List.size_toArray]; exact r1.length.symm
    have e2 : jts.toArray.size = ys.length := by rw [List.size_toArray]; exact r2.length.symm
    refine thn (W.goes i s (fun v s2 => ∃ x H', Inv X pins σ H' s2 ∧ RelV x v ∧ (∃ T, x = .ref T ∧ H T = none ∧ H' = upd H T (.tup [at' xs i, at' ys i])) ∧ Zst k1 k2 z TI TO i1 i2 a b (i + 1) s2.heap ∧ ∀ c ∈ [z, TI, TO, i1, i2], H' c = none) E (by rw [e1, e2]; exact hi) ⟨q1, q2, q3, ⟨q4, p1⟩, ⟨q5, p2⟩⟩ fun v h' tk hy st' hk htk => ?_) fun r s1 ⟨v, hr, h2⟩ => ⟨v, hr, h2⟩
    obtain ⟨T, x, y, rfl, hT, hx, hy, ht⟩ := hy
    obtain ⟨w1, w2, w3, ⟨w4, _⟩, ⟨w5, _⟩⟩ := st'
    have I1 := tup_new (tk := tk) (vs := [at' xs i, at' ys i]) (its := [x, y]) I hf (fun c o hc' e => hk c o (fun m => hc' (sub4 m)) e) hT ht (.cons (at_rel r1 hx) (.cons (at_rel r2 hy) .nil)) (by show 2 ≤ sizeLine; decide)
    refine ⟨.ref T, _, I1, rfl, ⟨T, rfl, I.hok.fresh hT, rfl⟩, ⟨w1, w2, w3, w4, w5⟩, fun c hc' => ?_⟩
    have hlt : c < s.heap.objs.size := by
      simp only [List.mem_cons, List.not_mem_nil, or_false] at hc'
      rcases hc' with rfl | rfl | rfl | rfl | rfl
      · exact Heap.lt_size q1
      · exact Heap.lt_size q2
      · obtain ⟨_, _, q3⟩ := q3
        exact Heap.lt_size q3
      · obtain ⟨o, e, _⟩ := q4.there
        exact Heap.lt_size e
      · obtain ⟨o, e, _⟩ := q5.there
        exact Heap.lt_size e
    rw [upd_ne (Nat.ne_of_lt (Nat.lt_of_lt_of_le hlt hT))]
    exact (hf c hc').1
  done := by
    intro X hP hw hK hc i pins s σ H E I hf st ⟨hi, hg1, hg2⟩
    subst hP hw hK
    obtain ⟨its, r1, p1, _⟩ := kd_of I hg1
    obtain ⟨jts, r2, p2, _⟩ := kd_of I hg2
    obtain ⟨q1, q2, q3, q4, q5⟩ := st
    have S := sep2 d (fun c hc' => kd_apart I hg1 (hf c hc')) (fun c hc' => kd_apart I hg2 (hf c hc'))
    have hh : X.A.in1.handled = none := I.ok.hd hc
    have W := GoesN.zip2 (elts := elts) (x1 := kk) (pos := tpos) S (kd_draws (prog := X.prog) (w := X.w) hh k1 i1 a (kd_apart I hg1 (hf i1 (by simp))) its.toArray) (kd_draws (prog := X.prog) (w := X.w) hh k2 i2 b (kd_apart I hg2 (hf i2 (by simp))) jts.toArray)
    have e1 : its.toArray.size = xs.length := by rw [List.size_toArray]; exact r1.length.symm
    have e2 : jts.toArray.size = ys.length := by rw [List.size_toArray]; exact r2.length.symm
    subst hi
    rw [e1, e2] at W
    exact W.stops s _ E ⟨q1, q2, q3, ⟨q4, p1⟩, ⟨q5, p2⟩⟩ fun h' tk hk htk => I.turnedL (t' := tk) (ch := [z, TI, TO, i1, i2]) (fun c o hc' e => hk c o (fun m => hc' (sub4 m)) e) hf
  self := fun A i s Q E st h => wpAny_pyIter_zip st.1 h
def iZipA (K : PySem.W.Frag) (ta : TA) : TI := fun σ H R => ta σ H fun vs H1 => ∃ k1 k2 a b xs ys, vs = [.ref a, .ref b] ∧ KSq k1 K H1 a xs ∧ KSq k2 K H1 b ys ∧ (xs.length ≤ sizeLine → R (Jt (min xs.length ys.length) (fun i => [at' xs i, at' ys i]) fun H => KSq k1 K H a xs ∧ KSq k2 K H b ys) H1)
theorem pi_zipAny {X : Cx} {e e2 : Expr} {ta : TA} {p pos tpos : Pos} {elts : List Expr} {kk : Nat} (hg : Gl X "zip") (hm : X.mg "zip" = none) (ha : PA X [e, e2] ta)
    (hs : starEach [e, e2] X.env = (false, eval e X.env) :: starEach [e2] X.env) (hpl : (backTo pos (starEach [e2] X.env)).any (·.1) = false) : PI X (.Tuple elts kk tpos) (.Call (.Name "zip" p) [e, e2] [] pos) (iZipA X.K ta) := by
  refine ⟨fun pins s σ H R I h => ?_⟩
  refine Call_ (ld_blt I hg hm boot_zip (callWith_type1 (thn (ha.run pos pins s σ H _ I h) fun us s1 ⟨vs, H1, I1, r1, q1⟩ => ?_) hs hpl))
  obtain ⟨k1, k2, a, b, xs, ys, rfl, g1, g2, q⟩ := q1
  obtain ⟨u1, u2, rfl, ra, rb⟩ := r1.two
  cases ra
  cases rb
  obtain ⟨its, w1, p1, z1⟩ := kd_of I1 g1
  obtain ⟨jts, w2, p2, _⟩ := kd_of I1 g2
  refine zip_begins2 (kd_begins k1 a its.toArray) (kd_begins k2 b jts.toArray) p1 p2 fun h' b1 b2 b3 b4 b5 b6 hk => wpAny_pyIter_zip b1 ?_
  have I2 : Inv X pins σ H1 { s1 with heap := h' } := I1.kept (t' := s1.toks) hk
  generalize hN : s1.heap.objs.size = N at b1 b2 b3 b4 b5 b6
  have hle : ∀ c ∈ [N + 4, N + 2, N + 3, N, N + 1], s1.heap.objs.size ≤ c := fun c hc' => by
    simp only [List.mem_cons, List.not_mem_nil, or_false] at hc'
    rw [hN]
    rcases hc' with rfl | rfl | rfl | rfl | rfl
    · exact Nat.le_add_right _ _
    · exact Nat.le_add_right _ _
    · exact Nat.le_add_right _ _
    · exact Nat.le_refl _
    · exact Nat.le_add_right _ _
  have nd : [N + 4, N + 2, N + 3, N, N + 1].Nodup := by
    have e1 : ∀ m n : Nat, m ≠ n → (N + m : Nat) ≠ N + n := fun m n h z => h (Nat.add_left_cancel z)
    have e0 : ∀ m : Nat, m ≠ 0 → (N + m : Nat) ≠ N := fun m h z => h (Nat.add_left_cancel (show N + m = N + 0 from z))
    simp only [List.nodup_cons, List.mem_cons, List.not_mem_nil, or_false, not_or, not_false_eq_true, and_true, List.nodup_nil]
    exact ⟨⟨e1 _ _ (by decide), e1 _ _ (by decide), e0 _ (by decide), e1 _ _ (by decide)⟩, ⟨e1 _ _ (by decide), e0 _ (by decide), e1 _ _ (by decide)⟩, ⟨e0 _ (by decide), e1 _ _ (by decide)⟩, fun z => e0 1 (by decide) z.symm⟩
  exact ⟨_, [N + 4, N + 2, N + 3, N, N + 1], _, _, H1, rfl, I2, turn_zip2 (k1 := k1) (k2 := k2) (a := a) (b := b) nd, ⟨b1, b2, ⟨_, _, b3⟩, .zero b4, .zero b5⟩, fun c hc' => I1.fpOk (hle c hc') (I1.hok.fresh (hle c hc')), q z1⟩
/-- enumerate -/
def Est (k : Kd) (e it a : Addr) (i : Nat) (h : Heap) : Prop := (∃ old, IsEnum h e it (0 + (i : Int)) old) ∧ KIt k h it a i
theorem turn_enumA {P : Program} {w : World} {K : PySem.W.Frag} {elts : List Expr} {kk : Nat} {tpos : Pos} {k : Kd} {e it a : Addr} {xs : List V} (d : e ≠ it) :
    Turn P w K (.Tuple elts kk tpos) (Jt xs.length (fun i => [.int (i : Nat), at' xs i]) fun H => KSq k K H a xs) [e, it] e (Est k e it a) where
  mem := List.mem_cons_self ..
  obj := fun i h st c hc => by
    obtain ⟨⟨old, q1⟩, q2⟩ := st
    simp only [List.mem_cons, List.not_mem_nil, or_false] at hc
    rcases hc with rfl | rfl
    · exact ⟨_, q1, fun _ e => nomatch e⟩
    · exact q2.there
  keep := fun i h h' st k => by
    obtain ⟨⟨old, q1⟩, q2⟩ := st
    exact ⟨⟨old, k _ (by simp) _ q1⟩, q2.keep (k _ (by simp))⟩
  item := by
    intro X hP hw hK hc i pins s σ H E I hf st ⟨hi, hg1⟩
    subst hP hw hK
    obtain ⟨its, r1, p1, _⟩ := kd_of I hg1
    obtain ⟨⟨old, q1⟩, q2⟩ := st
    have n1 := kd_apart I hg1 (hf it (by simp))
    have n2 := kd_apart I hg1 (hf e (by simp))
    have hh : X.A.in1.handled = none := I.ok.hd hc
    have W := GoesN.enumFrom (elts := elts) (x1 := kk) (pos := tpos) 0 (kd_draws (prog := X.prog) (w := X.w) hh k it a n1 its.toArray) e d (by simp only [List.mem_cons, List.not_mem_nil, or_false, not_or]; exact ⟨d, fun z => n2 z.symm⟩) (by simp)
    have e1 : its.toArray.size = xs.length := by rw [List.size_toArray]; exact r1.length.symm
    refine thn (W.goes i s (fun v s2 => ∃ x H', Inv X pins σ H' s2 ∧ RelV x v ∧ (∃ T, x = .ref T ∧ H T = none ∧ H' = upd H T (.tup [.int (i : Nat), at' xs i])) ∧ Est k e it a (i + 1) s2.heap ∧ ∀ c ∈ [e, it], H' c = none) E (by rw [e1]; exact hi) ⟨⟨old, q1⟩, ⟨q2, p1⟩⟩ fun v h' tk hy st' hk htk => ?_) fun r s1 ⟨v, hr, h2⟩ => ⟨v, hr, h2⟩
    obtain ⟨T, t, x, rfl, hT, hx, ht⟩ := hy
    obtain ⟨w1, w2, _⟩ := st'
    have I1 := tup_new (tk := tk) (vs := [.int (i : Nat), at' xs i]) (its := [.int (0 + (i : Int)) t, x]) I hf hk hT ht (.cons ⟨t, by rw [Int.zero_add]⟩ (.cons (at_rel r1 hx) .nil)) (by show 2 ≤ sizeLine; decide)
    refine ⟨.ref T, _, I1, rfl, ⟨T, rfl, I.hok.fresh hT, rfl⟩, ⟨w1, w2⟩, fun c hc' => ?_⟩
    have hlt : c < s.heap.objs.size := by
      simp only [List.mem_cons, List.not_mem_nil, or_false] at hc'
      rcases hc' with rfl | rfl
      · exact Heap.lt_size q1
      · obtain ⟨o, e, _⟩ := q2.there
        exact Heap.lt_size e
    rw [upd_ne (Nat.ne_of_lt (Nat.lt_of_lt_of_le hlt hT))]
    exact (hf c hc').1
  done := by
    intro X hP hw hK hc i pins s σ H E I hf st ⟨hi, hg1⟩
    subst hP hw hK
    obtain ⟨its, r1, p1, _⟩ := kd_of I hg1
    obtain ⟨⟨old, q1⟩, q2⟩ := st
    have n1 := kd_apart I hg1 (hf it (by simp))
    have n2 := kd_apart I hg1 (hf e (by simp))
    have hh : X.A.in1.handled = none := I.ok.hd hc
    have W := GoesN.enumFrom (elts := elts) (x1 := kk) (pos := tpos) 0 (kd_draws (prog := X.prog) (w := X.w) hh k it a n1 its.toArray) e d (by simp only [List.mem_cons, List.not_mem_nil, or_false, not_or]; exact ⟨d, fun z => n2 z.symm⟩) (by simp)
    have e1 : its.toArray.size = xs.length := by rw [List.size_toArray]; exact r1.length.symm
    subst hi
    rw [e1] at W
    exact W.stops s _ E ⟨⟨old, q1⟩, ⟨q2, p1⟩⟩ fun h' tk hk htk => I.turnedL (t' := tk) (ch := [e, it]) hk hf
  self := fun A i s Q E st h => wpAny_pyIter_enum st.1.choose_spec h
theorem meets_enum1 {v : Value} {o : Obj} {H : Heap → Prop} (B : Begins v o H) :
    Meets (Builtin.«enumerate.__new__» ⟨[.type "enumerate", v], []⟩) (fun _ R s => H s.heap ∧
      R (.ok (.ret (.ref (s.heap.push o).objs.size))) { s with heap := (s.heap.push o).push { cls := .type "enumerate", data := .fields #[.none, .bool false, .ref s.heap.objs.size, rawInt 0, .none, .none] } }) :=
  .of_wp fun prog w A R s h => by
    obtain ⟨hp, g, d, tk, os⟩ := s
    obtain ⟨h1, h⟩ := h
    have hsub := sub_enumerate
    have it1 : ∀ {A' : Around} {E : Value → Shared → Prop} {Q : Value → Shared → Prop}, Q (.ref hp.objs.size) ⟨hp.push o, g, d, tk, os⟩ → wpAny (model prog w) A' (pyIter v) Q E ⟨hp, g, d, tk, os⟩ :=
      fun q => B.iter prog w _ _ ⟨hp, g, d, tk, os⟩ _ h1 q
    wp_walk using it1
    refine wpAny_stack_any fun st => wpAny_pure ?_
    split
    · rename_i c _ _ _ _ _
      cases (c == Value.type "enumerate") <;> (wp_walk using it1; exact ⟨_, rfl, h⟩)
    · wp_walk using it1
      exact ⟨_, rfl, h⟩
theorem enum_begins1 {prog : Program} {w : World} {A : Around} {E : Value → Shared → Prop} {s : Shared} {v : Value} {o : Obj} {H : Heap → Prop} {Q : Value → Shared → Prop} (B : Begins v o H) (h1 : H s.heap)
    (h : ∀ h', IsEnum h' (s.heap.objs.size + 1) s.heap.objs.size 0 .none → h'.get? s.heap.objs.size = some o → (∀ b o, s.heap.get? b = some o → h'.get? b = some o) → Q (.ref (s.heap.objs.size + 1)) { s with heap := h' }) :
    wpAny (model prog w) A (call (.type "enumerate") [v]) Q E s := by
  refine callType_new F.called_enumerate (by decide) (F.typeCall_enumerate_1 _) (F.newCall_enumerate_1 _) (fun obj => F.args_object_init_2 obj _) F.entry_enumerate_new (meets_enum1 B) ⟨h1, ?_⟩
  have hz : (s.heap.push o).objs.size = s.heap.objs.size + 1 := Heap.size_push ..
  have he := Heap.get?_push_size (s.heap.push o) (o := { cls := .type "enumerate", data := .fields #[.none, .bool false, .ref s.heap.objs.size, rawInt 0, .none, .none] }) rfl
  rw [hz] at he
  show _ ∧ _
  rw [hz]
  exact ⟨⟨_, he, rfl⟩, h _ he (Heap.get?_push_of_some _ (Heap.get?_push_size _ B.free)) fun b o x => Heap.get?_push_of_some _ (Heap.get?_push_of_some _ x)⟩
def iEnumA (K : PySem.W.Frag) (ta : TA) : TI := fun σ H R => ta σ H fun vs H1 => ∃ k a xs, vs = [.ref a] ∧ KSq k K H1 a xs ∧ (xs.length ≤ sizeLine → R (Jt xs.length (fun i => [.int (i : Nat), at' xs i]) fun H => KSq k K H a xs) H1)
theorem pi_enumAny {X : Cx} {e : Expr} {ta : TA} {p pos tpos : Pos} {elts : List Expr} {kk : Nat} (hg : Gl X "enumerate") (hm : X.mg "enumerate" = none) (ha : PA X [e] ta)
    (hs : starEach [e] X.env = [(false, eval e X.env)]) : PI X (.Tuple elts kk tpos) (.Call (.Name "enumerate" p) [e] [] pos) (iEnumA X.K ta) := by
  refine ⟨fun pins s σ H R I h => ?_⟩
  refine Call_ (ld_blt I hg hm boot_enumerate (callWith_type1 (thn (ha.run pos pins s σ H _ I h) fun us s1 ⟨vs, H1, I1, r1, q1⟩ => ?_) hs rfl))
  obtain ⟨k, a, xs, rfl, g1, q⟩ := q1
  obtain ⟨u1, rfl, ra⟩ := r1.one
  cases ra
  obtain ⟨its, w1, p1, z1⟩ := kd_of I1 g1
  refine enum_begins1 (kd_begins k a its.toArray) p1 fun h' b1 b2 hk => wpAny_pyIter_enum b1 ?_
  have I2 : Inv X pins σ H1 { s1 with heap := h' } := I1.kept (t' := s1.toks) hk
  have hle : ∀ c ∈ [s1.heap.objs.size + 1, s1.heap.objs.size], s1.heap.objs.size ≤ c := fun c hc' => by
    simp only [List.mem_cons, List.not_mem_nil, or_false] at hc'
    rcases hc' with rfl | rfl
    · exact Nat.le_add_right _ _
    · exact Nat.le_refl _
  exact ⟨_, [s1.heap.objs.size + 1, s1.heap.objs.size], _, _, H1, rfl, I2, turn_enumA (k := k) (a := a) (Nat.succ_ne_self _), ⟨⟨_, b1⟩, .zero b2⟩, fun c hc' => I1.fpOk (hle c hc') (I1.hok.fresh (hle c hc')), q z1⟩
/-! ### any list or tuple, walked itself -/
def kIt (K : PySem.W.Frag) (k : Kd) (a : Addr) : It := match k with
  | .l => Itl K a
  | .t => Itt K a
def iSeq (K : PySem.W.Frag) (tl : TE) : TI := fun σ H R => tl σ H fun x H1 => ∃ k a xs, x = .ref a ∧ KSq k K H1 a xs ∧ (xs.length ≤ sizeLine → R (kIt K k a) H1)
theorem pi_seqA {X : Cx} {tg l : Expr} {tl : TE} (hl : PE X l tl) : PI X tg l (iSeq X.K tl) := by
  refine ⟨fun pins s σ H R I h => ?_⟩
  refine thn (hl.run pins s σ H _ I h) fun v s1 ⟨x, H1, I1, r1, q1⟩ => ?_
  obtain ⟨k, a, xs, rfl, g1, q⟩ := q1
  cases r1
  obtain ⟨its, w1, p1, z1⟩ := kd_of I1 g1
  have kp : ∀ o : Obj, Inv X pins σ H1 { s1 with heap := s1.heap.push o } := fun o => I1.kept (t' := s1.toks) fun b o e => Heap.get?_push_of_some _ e
  have fp : ∀ b ∈ [s1.heap.objs.size], FpOk X pins H1 b := fun b hb => by
    have e : b = s1.heap.objs.size := by simpa using hb
    rw [e]
    exact I1.fpOk (Nat.le_refl _) (I1.hok.fresh (Nat.le_refl _))
  cases k
  · exact wpAny_pyIter_list p1 ⟨_, [s1.heap.objs.size], _, _, H1, rfl, kp _, turn_list a _, ⟨_, Heap.get?_push_size _ rfl, rfl, rfl⟩, fp, q z1⟩
  · exact wpAny_pyIter_tuple p1 ⟨_, [s1.heap.objs.size], _, _, H1, rfl, kp _, turn_tuple a _, ⟨_, Heap.get?_push_size _ rfl, rfl, rfl⟩, fp, q z1⟩
end Y
end

section
set_option Elab.async false
set_option linter.all false
set_option maxRecDepth 100000
set_option autoImplicit false
namespace Y
open PySem PySem.Spec L2
open PyProof.Rows hiding St

/-! ### what is walked -/
structure Wk (T : PySem.W.Frag) (q : QA) (J : It) (B1 : Hp) (items : List D) : Prop where
  w : Walk J items.length (fun H => Same B1 H) (fun i H x H' => ∀ B, Same B1 B → Same B H → ∃ d B', items[i]? = some d ∧ Ext0 B H B' H' ∧ Rep T q B' d x)
  len : items.length ≤ sizeLine
abbrev ISem := List Var → M (List D)
def SI (C : SC) (sc : Scope) (tg iter : Expr) (f : ISem) : Prop := ∃ wi : TI, (∀ X, XOk C sc X → PI X tg iter wi) ∧ (∀ env x, foldedSetIterable iter env x = pure x) ∧
  ∀ q B0 H0 B H σ env st items st' (R : It → Hp → Prop), GS C.T q B0 H0 B H σ env st → f env st = some (items, st') → (∀ J B1 H1, Ext q B H B1 H1 → DrAt q H1 st' → Wk C.T q J B1 items → R J H1) → wi σ H R
section
variable {C : SC} {sc : Scope} {e a b c tg : Expr} {f fa fb fc : ESem} {pos p : Pos}
def asSeq : D → Option (List D)
  | .lst xs => some xs
  | .tup xs => some xs
  | _ => none
def seqI (f : ESem) : ISem := fun env => M.bd (f env) fun d => M.lf (asSeq d)
theorem wk_seq {T : PySem.W.Frag} {K : PySem.W.Frag} (t : Sub T K) {q : QA} {B H : Hp} {d : D} {v : V} {items : List D} (s : Same B H) (r : Rep T q B d v) (e : asSeq d = some items) :
    ∃ k a xs, v = .ref a ∧ KSq k K H a xs ∧ RepL T q B items xs ∧ ∀ H', Same B H' → KSq k K H' a xs := by
  cases r with
  | tup h1 h2 => cases e; exact ⟨.t, _, _, rfl, h1.sq t s, h2, fun H' s' => h1.sq t s'⟩
  | lst h1 h2 => cases e; exact ⟨.l, _, _, rfl, .inl (.inl (s _ _ h1)), h2, fun H' s' => .inl (.inl (s' _ _ h1))⟩
  | _ => cases e
theorem wk_kd {T : PySem.W.Frag} {K : PySem.W.Frag} {q : QA} {B1 : Hp} {items : List D} {k : Kd} {a : Addr} {xs : List V} (r : RepL T q B1 items xs) (hk : ∀ H', Same B1 H' → KSq k K H' a xs) (hz : xs.length ≤ sizeLine) : Wk T q (kIt K k a) B1 items := by
  have hl := r.length
  refine ⟨?_, by rw [hl]; exact hz⟩
  have key : ∀ (i : Nat) (H : Hp) (x : V) (H' : Hp), xs[i]? = some x → H' = H → ∀ B, Same B1 B → Same B H → ∃ d B', items[i]? = some d ∧ Ext0 B H B' H' ∧ Rep T q B' d x := fun i H x H' h e B s1 s2 => by
    obtain ⟨d, h1, h2⟩ := r.get' h
    rw [e]
    exact ⟨d, B, h1, Ext0.refl s2, h2.mono s1⟩
  rw [hl]
  cases k
  · exact (walk_list (K := K) (a := a) (xs := xs)).mono (fun H s => hk H s) fun i H x H' hi s ⟨e, h⟩ => key i H x H' h e
  · exact (walk_tup (K := K) (a := a) (xs := xs)).mono (fun H s => hk H s) fun i H x H' hi s ⟨e, h⟩ => key i H x H' h e
theorem si_seq (h : SE C sc e f) (hs : ∀ env x, foldedSetIterable e env x = pure x := by intro _ _; rfl) : SI C sc tg e (seqI f) := by
  refine ⟨iSeq C.K (te C sc e), fun X hX => ?_, hs, fun q B0 H0 B H σ env st items st' R g hf k => ?_⟩
  · have z : PI X tg e (iSeq X.K (te C sc e)) := pi_seqA (pe_te hX)
    rw [hX.K] at z
    exact z
  · obtain ⟨d, s1, h1, h2⟩ := M.bd_some hf
    obtain ⟨h3, rfl⟩ := M.lf_some h2
    refine h q B0 H0 B H σ env st d _ _ g h1 fun v B1 H1 e1 d1 r1 => ?_
    obtain ⟨k0, a, xs, rfl, w1, w2, w3⟩ := wk_seq C.TK e1.s r1 h3
    exact ⟨k0, a, xs, rfl, w1, fun hz => k _ B1 H1 e1 d1 (wk_kd w2 w3 hz)⟩
/-! ranges -/
def rangeL (a b : Int) : List D := (List.range (b - a).toNat).map fun i => .int (a + (i : Nat))
def range1I (f : ESem) : ISem := fun env => M.bd (f env) fun d => M.lf ((asI d).bind fun n => if -16777216 ≤ n ∧ n ≤ 16777216 then some (rangeL 0 n) else none)
def range2I (f g : ESem) : ISem := fun env => M.bd (f env) fun d => M.bd (g env) fun e => M.lf ((asI d).bind fun a => (asI e).bind fun b => if -8388608 ≤ a ∧ a ≤ 8388608 ∧ -8388608 ≤ b ∧ b ≤ 8388608 then some (rangeL a b) else none)
theorem wk_range {T : PySem.W.Frag} {q : QA} {B1 : Hp} {lo hi : Int} (h : hi - lo ≤ 16777216) : Wk T q (Itr lo (hi - lo).toNat) B1 (rangeL lo hi) := by
  have hl : (rangeL lo hi).length = (hi - lo).toNat := by unfold rangeL; rw [List.length_map, List.length_range]
  refine ⟨?_, ?_⟩
  · rw [hl]
    refine (walk_range (lo := lo) (n := (hi - lo).toNat)).mono (fun _ _ => trivial) fun i H x H' hi' _ ⟨e, ex⟩ B s1 s2 => ?_
    rw [e, ex]
    refine ⟨.int (lo + (i : Nat)), B, ?_, Ext0.refl s2, .int _⟩
    unfold rangeL
    rw [List.getElem?_map, List.getElem?_range hi']
    rfl
  · rw [hl, sizeLine_eq]
    omega
theorem si_range1 {x : Str} (hx : x = "range") (hg : sc.names.lookup x = some .globalImplicit) (hm : C.mg x = none) (h : SP C sc a f) (hs : ∀ env, starEach [a] env = [(false, eval a env)] := by intro _; rfl) (hf' : ∀ env y, foldedSetIterable (.Call (.Name x p) [a] [] pos) env y = pure y := by intro _ _; rfl) : SI C sc tg (.Call (.Name x p) [a] [] pos) (range1I f) := by
  subst hx
  refine ⟨iRng1 (tCons (te C sc a) tNil), fun X hX => pi_range1 (hX.gl hg) (by rw [hX.mg]; exact hm) (pa_cons (pe_te hX) pa_nil (hs _)) (hs _), hf', fun q B0 H0 B H σ env st items st' R g hf k => ?_⟩
  obtain ⟨d, s1, h1, h2⟩ := M.bd_some hf
  obtain ⟨h3, rfl⟩ := M.lf_some h2
  obtain ⟨n, h4, h5⟩ := Option.bind_eq_some_iff.mp h3
  have h4' := asI_some h4
  subst h4'
  split at h5
  · rename_i hn
    cases h5
    refine h q B0 H0 B H σ env st _ _ _ g h1 fun v B1 H1 e1 d1 r1 => ⟨n, by rw [r1.int], by omega, by omega, ?_⟩
    have z := wk_range (T := C.T) (q := q) (B1 := B1) (lo := 0) (hi := n) (by omega)
    rw [Int.sub_zero] at z
    exact k _ B1 H1 e1 d1 z
  · cases h5
theorem si_range2 {x : Str} {g' : ESem} (hx : x = "range") (hg : sc.names.lookup x = some .globalImplicit) (hm : C.mg x = none) (h : SP C sc a f) (h' : SP C sc b g') (hs : ∀ env, starEach [a, b] env = [(false, eval a env), (false, eval b env)] := by intro _; rfl) (hs' : ∀ env, starEach [b] env = [(false, eval b env)] := by intro _; rfl)
    (hf' : ∀ env y, foldedSetIterable (.Call (.Name x p) [a, b] [] pos) env y = pure y := by intro _ _; rfl) : SI C sc tg (.Call (.Name x p) [a, b] [] pos) (range2I f g') := by
  subst hx
  refine ⟨iRng2 (tCons (te C sc a) (tCons (te C sc b) tNil)), fun X hX => pi_range2 (hX.gl hg) (by rw [hX.mg]; exact hm) (pa_cons (pe_te hX) (pa_cons (pe_te hX) pa_nil (hs' _)) (by rw [hs, hs'])) (hs _) (hs' _), hf', fun q B0 H0 B H σ env st items st' R g hf k => ?_⟩
  obtain ⟨d, s1, h1, h2⟩ := M.bd_some hf
  obtain ⟨d', s2, h1', h2'⟩ := M.bd_some h2
  obtain ⟨h3, rfl⟩ := M.lf_some h2'
  obtain ⟨n, h4, h5⟩ := Option.bind_eq_some_iff.mp h3
  obtain ⟨m, h6, h7⟩ := Option.bind_eq_some_iff.mp h5
  have h4' := asI_some h4
  subst h4'
  have h6' := asI_some h6
  subst h6'
  split at h7
  · rename_i hn
    cases h7
    refine h q B0 H0 B H σ env st _ _ _ g h1 fun v B1 H1 e1 d1 r1 => ?_
    refine h' q B0 H0 B1 H1 σ env _ _ _ _ (g.step e1 d1) h1' fun v' B2 H2 e2 d2 r2 => ⟨n, m, by rw [r1.int, r2.int], by omega, ?_⟩
    exact k _ B2 H2 (e1.trans g.dr e2 ⟨_, d1⟩) d2 (wk_range (by omega))
  · cases h7
/-! zip, enumerate -/
theorem wk_rows {T : PySem.W.Frag} {q : QA} {B1 : Hp} {items : List D} {n : Nat} {row : Nat → List V} {rd : Nat → List D} {G : Hp → Prop} (hG : ∀ H, Same B1 H → G H) (hn : items.length = n) (hz : n ≤ sizeLine) (hr : ∀ i, i < n → items[i]? = some (.tup (rd i)) ∧ RepL T q B1 (rd i) (row i)) : Wk T q (Jt n row G) B1 items := by
  subst hn
  refine ⟨⟨fun i H hi s => ⟨hi, hG H s⟩, fun H s => ⟨rfl, hG H s⟩, fun i H x H' hi s ⟨t, e1, e2, e3⟩ B s1 s2 => ?_⟩, hz⟩
  obtain ⟨h1, h2⟩ := hr i hi
  rw [e1, e3]
  exact ⟨_, _, h1, Ext0.new s2 e2, .tup (.inl upd_same) ((h2.mono s1).mono (Ext0.new s2 e2).b)⟩
def zip2L : List D → List D → List D
  | x :: xs, y :: ys => .tup [x, y] :: zip2L xs ys
  | _, _ => []
theorem zip2L_length : ∀ xs ys : List D, (zip2L xs ys).length = min xs.length ys.length
  | [], _ => by simp [zip2L]
  | _ :: _, [] => by simp [zip2L]
  | x :: xs, y :: ys => by simp [zip2L, zip2L_length xs ys, Nat.succ_min_succ]
theorem zip2L_get : ∀ (xs ys : List D) (i : Nat) (x y : D), xs[i]? = some x → ys[i]? = some y → (zip2L xs ys)[i]? = some (.tup [x, y])
  | [], _, _, _, _, h, _ => by simp at h
  | _ :: _, [], _, _, _, _, h => by simp at h
  | x :: xs, y :: ys, 0, _, _, h, h' => by simp at h h'; subst h; subst h'; rfl
  | x :: xs, y :: ys, i + 1, a, b, h, h' => by
    show (zip2L xs ys)[i]? = _
    exact zip2L_get xs ys i a b (by simpa using h) (by simpa using h')
def zip2I (f g : ESem) : ISem := fun env => M.bd (f env) fun d => M.bd (g env) fun e => M.lf ((asSeq d).bind fun xs => (asSeq e).map fun ys => zip2L xs ys)
theorem rep_at {T : PySem.W.Frag} {q : QA} {B : Hp} {ds : List D} {vs : List V} {i : Nat} {d : D} (r : RepL T q B ds vs) (h : ds[i]? = some d) : Rep T q B d (at' vs i) := by
  obtain ⟨v, h1, h2⟩ := r.get h
  unfold at'
  rw [h1]
  exact h2
theorem si_zip2 {x : Str} {g' : ESem} {elts : List Expr} {kk : Nat} {tpos : Pos} (hx : x = "zip") (hg : sc.names.lookup x = some .globalImplicit) (hm : C.mg x = none) (h : SE C sc a f) (h' : SE C sc b g') (hs : ∀ env, starEach [a, b] env = (false, eval a env) :: starEach [b] env := by intro _; rfl) (hs' : ∀ env, starEach [b] env = (false, eval b env) :: starEach [] env := by intro _; rfl) (hpl : ∀ env, (backTo pos (starEach [b] env)).any (·.1) = false := by intro _; rfl)
    (hf' : ∀ env y, foldedSetIterable (.Call (.Name x p) [a, b] [] pos) env y = pure y := by intro _ _; rfl) : SI C sc (.Tuple elts kk tpos) (.Call (.Name x p) [a, b] [] pos) (zip2I f g') := by
  subst hx
  refine ⟨iZipA C.K (tCons (te C sc a) (tCons (te C sc b) tNil)), fun X hX => ?_, hf', fun q B0 H0 B H σ env st items st' R g hf k => ?_⟩
  · have z : PI X (.Tuple elts kk tpos) (.Call (.Name "zip" p) [a, b] [] pos) (iZipA X.K (tCons (te C sc a) (tCons (te C sc b) tNil))) := pi_zipAny (hX.gl hg) (by rw [hX.mg]; exact hm) (pa_cons (pe_te hX) (pa_cons (pe_te hX) pa_nil (hs' _)) (hs _)) (hs _) (hpl _)
    rw [hX.K] at z
    exact z
  · obtain ⟨d, s1, h1, h2⟩ := M.bd_some hf
    obtain ⟨d', s2, h1', h2'⟩ := M.bd_some h2
    obtain ⟨h3, rfl⟩ := M.lf_some h2'
    obtain ⟨xs, h4, h5⟩ := Option.bind_eq_some_iff.mp h3
    obtain ⟨ys, h6, rfl⟩ := Option.map_eq_some_iff.mp h5
    refine h q B0 H0 B H σ env st _ _ _ g h1 fun v B1 H1 e1 d1 r1 => ?_
    refine h' q B0 H0 B1 H1 σ env _ _ _ _ (g.step e1 d1) h1' fun v' B2 H2 e2 d2 r2 => ?_
    obtain ⟨ka, a1, vs, rfl, w1, w2, w3⟩ := wk_seq C.TK e2.s (r1.mono e2.b) h4
    obtain ⟨kb, b1, us, rfl, y1, y2, y3⟩ := wk_seq C.TK e2.s r2 h6
    refine ⟨ka, kb, a1, b1, vs, us, rfl, w1, y1, fun hz => ?_⟩
    refine k _ B2 H2 (e1.trans g.dr e2 ⟨_, d1⟩) d2 (wk_rows (rd := fun i => [(xs[i]?).getD .non, (ys[i]?).getD .non]) (fun H' s' => ⟨w3 H' s', y3 H' s'⟩) (by rw [zip2L_length, w2.length, y2.length]) (Nat.le_trans (Nat.min_le_left _ _) hz) fun i hi => ?_)
    have l1 : i < xs.length := by rw [w2.length]; omega
    have l2 : i < ys.length := by rw [y2.length]; omega
    have g1 := List.getElem?_eq_getElem l1
    have g2 := List.getElem?_eq_getElem l2
    rw [g1, g2]
    exact ⟨zip2L_get xs ys i _ _ g1 g2, .cons (rep_at w2 g1) (.cons (rep_at y2 g2) .nil)⟩
def enumL : Nat → List D → List D
  | _, [] => []
  | n, x :: xs => .tup [.int (n : Nat), x] :: enumL (n + 1) xs
theorem enumL_length : ∀ (n : Nat) (xs : List D), (enumL n xs).length = xs.length
  | _, [] => rfl
  | n, x :: xs => by simp [enumL, enumL_length (n + 1) xs]
theorem enumL_get : ∀ (n : Nat) (xs : List D) (i : Nat) (x : D), xs[i]? = some x → (enumL n xs)[i]? = some (.tup [.int ((n + i : Nat) : Int), x])
  | _, [], _, _, h => by simp at h
  | n, x :: xs, 0, _, h => by simp at h; subst h; rfl
  | n, x :: xs, i + 1, a, h => by
    show (enumL (n + 1) xs)[i]? = _
    rw [enumL_get (n + 1) xs i a (by simpa using h)]
    have : n + 1 + i = n + (i + 1) := by omega
    rw [this]
def enumI (f : ESem) : ISem := fun env => M.bd (f env) fun d => M.lf ((asSeq d).map (enumL 0))
theorem si_enum {x : Str} {elts : List Expr} {kk : Nat} {tpos : Pos} (hx : x = "enumerate") (hg : sc.names.lookup x = some .globalImplicit) (hm : C.mg x = none) (h : SE C sc a f) (hs : ∀ env, starEach [a] env = [(false, eval a env)] := by intro _; rfl)
    (hf' : ∀ env y, foldedSetIterable (.Call (.Name x p) [a] [] pos) env y = pure y := by intro _ _; rfl) : SI C sc (.Tuple elts kk tpos) (.Call (.Name x p) [a] [] pos) (enumI f) := by
  subst hx
  refine ⟨iEnumA C.K (tCons (te C sc a) tNil), fun X hX => ?_, hf', fun q B0 H0 B H σ env st items st' R g hf k => ?_⟩
  · have z : PI X (.Tuple elts kk tpos) (.Call (.Name "enumerate" p) [a] [] pos) (iEnumA X.K (tCons (te C sc a) tNil)) := pi_enumAny (hX.gl hg) (by rw [hX.mg]; exact hm) (pa_cons (pe_te hX) pa_nil (hs _)) (hs _)
    rw [hX.K] at z
    exact z
  · obtain ⟨d, s1, h1, h2⟩ := M.bd_some hf
    obtain ⟨h3, rfl⟩ := M.lf_some h2
    obtain ⟨xs, h4, rfl⟩ := Option.map_eq_some_iff.mp h3
    refine h q B0 H0 B H σ env st _ _ _ g h1 fun v B1 H1 e1 d1 r1 => ?_
    obtain ⟨ka, a1, vs, rfl, w1, w2, w3⟩ := wk_seq C.TK e1.s r1 h4
    refine ⟨ka, a1, vs, rfl, w1, fun hz => ?_⟩
    refine k _ B1 H1 e1 d1 (wk_rows (rd := fun i => [.int (i : Nat), (xs[i]?).getD .non]) (fun H' s' => w3 H' s') (by rw [enumL_length, w2.length]) hz fun i hi => ?_)
    have l1 : i < xs.length := by rw [w2.length]; exact hi
    have g1 := List.getElem?_eq_getElem l1
    rw [g1]
    refine ⟨?_, .cons (.int _) (.cons (rep_at w2 g1) .nil)⟩
    have := enumL_get 0 xs i _ g1
    rw [Nat.zero_add] at this
    exact this
end
/-! ### for, while -/
section
variable {C : SC} {sc : Scope} {e a b c tg iter : Expr} {f fa fb fc : ESem} {pos p : Pos} {F G : SSem}
def forGo (g : GSem) (F : SSem) : List D → List Var → M (Fl × List Var)
  | [], env => M.ret (.nx, env)
  | d :: ds, env => M.bd (M.lf (g d env)) fun env1 => M.bd (F env1) fun r => match r with
    | (.nx, env2) => forGo g F ds env2
    | (.ct, env2) => forGo g F ds env2
    | (.bk, env2) => M.ret (.nx, env2)
    | (.rt v, env2) => M.ret (.rt v, env2)
def forS (it : ISem) (g : GSem) (F : SSem) : SSem := fun env => M.bd (it env) fun items => forGo g F items env
theorem ss_for {it : ISem} {g : GSem} {vs : List Nat} {body : List Stmt} (hi : SI C sc tg iter it) (hg : SG C sc tg vs g) (hb : SSs C sc body F) : SS C sc (.For tg iter body [] pos) (forS it g F) := by
  obtain ⟨wi, p1, p2, k1⟩ := hi
  obtain ⟨_, g1, p3, k2⟩ := hg
  refine SS.of (fun X hX => ps_for hX.xe hX.calm (p1 X hX) (p3 X hX) (pss_tss hX) (fun x => p2 _ x)) fun q B0 H0 B H σ env st fl env' st' Dd g0 hf k => ?_
  obtain ⟨items, s1, h1, h2⟩ := M.bd_some hf
  refine k1 q B0 H0 B H σ env st items s1 _ g0 h1 fun J B1 H1 e1 d1 wk => ?_
  have gz := g0.step e1 d1
  refine for_it wk.w (fun i σ' H' => ∃ B' env1 st1, GS C.T q B0 H0 B' H' σ' env1 st1 ∧ Same B1 B' ∧ forGo g F (items.drop i) env1 st1 = some ((fl, env'), st')) ⟨B1, env, s1, gz, Same.refl _, h2⟩ (fun i σ' H' _ ⟨B', _, _, g', s', _⟩ => s'.trans g'.sub) (fun i x σ' H' H2 hi' hP hy => ?_) fun σ' H' hP => ?_
  · obtain ⟨B', env1, st1, g', s', hgo⟩ := hP
    obtain ⟨d, B2, hd, e2, r2⟩ := hy B' s' g'.sub
    have hdr : items.drop i = d :: items.drop (i + 1) := by
      obtain ⟨hl, he⟩ := List.getElem?_eq_some_iff.mp hd
      rw [← he]
      exact List.drop_eq_getElem_cons hl
    rw [hdr] at hgo
    obtain ⟨env2, s2, h3, h4⟩ := M.bd_some hgo
    obtain ⟨h3', rfl⟩ := M.lf_some h3
    obtain ⟨⟨fl2, env3⟩, s3, h5, h6⟩ := M.bd_some h4
    refine k2 q B0 H0 B2 H2 σ' env1 _ d x env2 _ (g'.step0 e2) r2 h3' fun σ3 g3 _ => ?_
    refine hb q B0 H0 B2 H2 σ3 env2 _ fl2 env3 s3 _ g3 h5 ?_
    cases fl2 with
    | nx => exact fun σ4 B4 H4 s4 g4 => ⟨B4, env3, s3, g4, (s'.trans e2.b).trans s4, h6⟩
    | ct => exact fun σ4 B4 H4 s4 g4 => ⟨B4, env3, s3, g4, (s'.trans e2.b).trans s4, h6⟩
    | bk => obtain ⟨h7, rfl⟩ := M.ret_some h6; cases h7; exact fun σ4 B4 H4 s4 g4 => k σ4 B4 H4 (((e1.b.trans s').trans e2.b).trans s4) g4
    | rt v => obtain ⟨h7, rfl⟩ := M.ret_some h6; cases h7; exact k
  · obtain ⟨B', env1, st1, g', s', hgo⟩ := hP
    rw [List.drop_length] at hgo
    obtain ⟨h7, rfl⟩ := M.ret_some hgo
    cases h7
    exact k σ' B' H' (e1.b.trans s') g'
/-- at most n turns -/
def whileN (c : TSem) (F : SSem) : Nat → List Var → M (Fl × List Var)
  | 0, _ => fun _ => none
  | n + 1, env => M.bd (c env) fun b => if b = true then M.bd (F env) fun r => (match r with
      | (.nx, env2) => whileN c F n env2
      | (.ct, env2) => whileN c F n env2
      | (.bk, env2) => M.ret (.nx, env2)
      | (.rt v, env2) => M.ret (.rt v, env2))
    else M.ret (.nx, env)
def whileS (n : Nat) (c : TSem) (F : SSem) : SSem := fun env => whileN c F n env
theorem ss_while {n : Nat} {cf : TSem} {body : List Stmt} (hc : ST C sc c cf) (hb : SSs C sc body F) : SS C sc (.While c body [] pos) (whileS n cf F) := by
  refine SS.of (fun X hX => ps_while hX.xe (pt_tt hX) (pss_tss hX)) fun q B0 H0 B H σ env st fl env' st' Dd g0 hf k => ?_
  refine ⟨fun m σ' H' => ∃ B' env1 st1, GS C.T q B0 H0 B' H' σ' env1 st1 ∧ Same B B' ∧ whileN cf F m env1 st1 = some ((fl, env'), st'), ⟨n, B, env, st, g0, Same.refl _, hf⟩, ?_⟩
  rintro m σ' H' ⟨B', env1, st1, g', s', hgo⟩
  cases m with
  | zero => cases hgo
  | succ m =>
    obtain ⟨b, s2, h1, h2⟩ := M.bd_some hgo
    refine hc q B0 H0 B' H' σ' env1 st1 b s2 _ g' h1 fun B2 H2 e2 d2 => ?_
    have g2 := g'.step e2 d2
    cases b with
    | false =>
      rw [if_neg (by decide)] at h2 ⊢
      obtain ⟨h7, rfl⟩ := M.ret_some h2
      cases h7
      exact k σ' B2 H2 (s'.trans e2.b) g2
    | true =>
      rw [if_pos rfl] at h2 ⊢
      obtain ⟨⟨fl2, env3⟩, s3, h5, h6⟩ := M.bd_some h2
      refine ⟨fun σ4 H4 => ∃ B4, GS C.T q B0 H0 B4 H4 σ4 env3 s3 ∧ Same B B4 ∧ whileN cf F m env3 s3 = some ((fl, env'), st'), fun σ4 H4 ⟨B4, g4, s4, h4⟩ => ⟨m, Nat.lt_succ_self _, B4, env3, s3, g4, s4, h4⟩, ?_⟩
      refine hb q B0 H0 B2 H2 σ' env1 s2 fl2 env3 s3 _ g2 h5 ?_
      cases fl2 with
      | nx => exact fun σ4 B4 H4 s4 g4 => ⟨B4, g4, (s'.trans e2.b).trans s4, h6⟩
      | ct => exact fun σ4 B4 H4 s4 g4 => ⟨B4, g4, (s'.trans e2.b).trans s4, h6⟩
      | bk => obtain ⟨h7, rfl⟩ := M.ret_some h6; cases h7; exact fun σ4 B4 H4 s4 g4 => k σ4 B4 H4 ((s'.trans e2.b).trans s4) g4
      | rt v => obtain ⟨h7, rfl⟩ := M.ret_some h6; cases h7; exact k
end
/-! ### comprehensions -/
section
variable {C : SC} {sc scope : Scope}
theorem lookup_keyed {φ : Str → NameKind → NameKind} {x : Str} : ∀ names : List (Str × NameKind), (names.map fun p => (p.1, φ p.1 p.2)).lookup x = (names.lookup x).map (φ x)
  | [] => rfl
  | (n, k) :: r => by
    rw [List.map_cons, List.lookup_cons, List.lookup_cons]
    cases hx : x == n with
    | true =>
      have e : x = n := by simpa using hx
      rw [e]
      rfl
    | false => exact lookup_keyed r
theorem relS_there {sc scope : Scope} {x : Str} {k : NameKind} (h : scope.names.lookup x = some k) : ∃ k', (relS scope sc).names.lookup x = some k' ∧ (k' = k ∨ (k = .free ∧ k' = .cell)) := by
  have e : (relS scope sc).names = scope.names.map fun p => (p.1, if (p.2 == NameKind.free && sc.kind == .function && sc.names.lookup p.1 == some .cell) = true then NameKind.cell else p.2) := by
    show scope.names.map _ = _
    refine List.map_congr_left fun p _ => ?_
    obtain ⟨n, k⟩ := p
    by_cases hc : (k == NameKind.free && sc.kind == .function && sc.names.lookup n == some .cell) = true
    · simp only [hc, if_true]
    · simp only [hc, if_false]; rfl
  rw [e, lookup_keyed (φ := fun n k => if (k == NameKind.free && sc.kind == .function && sc.names.lookup n == some .cell) = true then NameKind.cell else k), h]
  by_cases hc : (k == NameKind.free && sc.kind == .function && sc.names.lookup x == some .cell) = true
  · refine ⟨.cell, by simp only [Option.map_some, hc, if_true], .inr ⟨?_, rfl⟩⟩
    simp only [Bool.and_eq_true, beq_iff_eq] at hc
    exact hc.1.1
  · exact ⟨k, by simp only [Option.map_some, hc, if_false]; rfl, .inl rfl⟩
theorem relS_none {sc scope : Scope} {x : Str} (h : scope.names.lookup x = none) : (relS scope sc).names.lookup x = none := by
  have e : (relS scope sc).names = scope.names.map fun p => (p.1, if (p.2 == NameKind.free && sc.kind == .function && sc.names.lookup p.1 == some .cell) = true then NameKind.cell else p.2) := by
    show scope.names.map _ = _
    refine List.map_congr_left fun p _ => ?_
    obtain ⟨n, k⟩ := p
    by_cases hc : (k == NameKind.free && sc.kind == .function && sc.names.lookup n == some .cell) = true
    · simp only [hc, if_true]
    · simp only [hc, if_false]; rfl
  rw [e, lookup_keyed (φ := fun n k => if (k == NameKind.free && sc.kind == .function && sc.names.lookup n == some .cell) = true then NameKind.cell else k), h]
  rfl
theorem blk_ok {own : List (Str × Nat)} {X : Cx} (hX : XOk C sc X) (ok : BlkOk C.N sc scope own) : BlkOk X.N X.env.scope scope own := by
  refine ⟨ok.kind, ok.uniq, by rw [hX.N]; exact ok.ix, fun y hy e => ?_, by rw [hX.N]; exact ok.own⟩
  rcases ok.free y hy e with h | h
  · obtain ⟨k', h1, h2⟩ := hX.names _ _ h
    rcases h2 with rfl | ⟨z, _⟩
    · exact .inl h1
    · cases z
  · obtain ⟨k', h1, h2⟩ := hX.names _ _ h
    rcases h2 with rfl | ⟨_, rfl⟩
    · exact .inr h1
    · exact .inl h1
theorem blk_x {own : List (Str × Nat)} {X : Cx} (hX : XOk C sc X) (ok : BlkOk C.N sc scope own) (s : Shared) (H : Hp) (A : Addr) (cl : List (Str × Addr)) (fp : List Addr) : XOk C scope (X.blk s H scope (compEnvC scope cl A X.env) fp) := by
  refine ⟨hX.prog, hX.w, hX.K, hX.mg, hX.base, hX.N, hX.calm, PassesOwn.never, hX.room, hX.nd, ok.kind, fun x k h => ?_, fun x h => ?_, fun x h => relS_none (sc := X.env.scope) h⟩
  · exact relS_there (sc := X.env.scope) (scope := scope) h
  · show (scope.names.lookup x == some NameKind.cell) = true
    rw [h]
    rfl
/-! the slots of a block -/
def wipeE (env : List Var) : List Nat → List Var
  | [] => env
  | v :: vs => (wipeE env vs).set v .u
theorem wipeE_length (env : List Var) : ∀ vs, (wipeE env vs).length = env.length
  | [] => rfl
  | v :: vs => by rw [wipeE, List.length_set, wipeE_length env vs]
theorem wipeE_get {env : List Var} {i : Nat} {x : Var} : ∀ {vs : List Nat}, (wipeE env vs)[i]? = some x → x = .u ∨ (env[i]? = some x ∧ i ∉ vs)
  | [], h => .inr ⟨h, by simp⟩
  | v :: vs, h => by
    unfold wipeE at h
    by_cases hi : v = i
    · subst hi
      by_cases hl : v < (wipeE env vs).length
      · rw [List.getElem?_set_self hl] at h
        cases h
        exact .inl rfl
      · rw [List.getElem?_eq_none (by rw [List.length_set]; omega)] at h; cases h
    · rw [List.getElem?_set_ne hi] at h
      rcases wipeE_get h with h | ⟨h1, h2⟩
      · exact .inl h
      · exact .inr ⟨h1, by simp only [List.mem_cons, not_or]; exact ⟨fun e => hi e.symm, h2⟩⟩
theorem GS.wipe {T : PySem.W.Frag} {q : QA} {B0 H0 B H : Hp} {σ : St} {env : List Var} {st : DS} (g : GS T q B0 H0 B H σ env st) (vs : List Nat) : GS T q B0 H0 B H (wipe σ vs) (wipeE env vs) st := by
  refine ⟨g.ext, g.dr0, g.dr, g.out, by rw [wipe_length, wipeE_length]; exact g.len, fun i x h => ?_, fun i j d e h1 h2 h3 => ?_⟩
  · rcases wipeE_get h with rfl | ⟨h1, h2⟩
    · trivial
    · have z := g.vars i x h1
      cases x with
      | u => trivial
      | p d => obtain ⟨v, z1, z2⟩ := z; exact ⟨v, by rw [wipe_out h2]; exact z1, z2⟩
      | o d => obtain ⟨a, z1, z2⟩ := z; exact ⟨a, by rw [wipe_out h2]; exact z1, z2⟩
  · rcases wipeE_get h1 with z | ⟨a1, a2⟩
    · cases z
    · rcases wipeE_get h2 with z | ⟨b1, b2⟩
      · cases z
      · rw [wipe_out a2, wipe_out b2] at h3
        exact g.apart i j d e a1 b1 h3
theorem wipe_sub {σ σ' : St} {us vs : List Nat} (h : L2.wipe σ' us = L2.wipe σ us) (hs : ∀ i ∈ us, i ∈ vs) : L2.wipe σ' vs = L2.wipe σ vs := by
  obtain ⟨l, o⟩ := wipe_out' h
  exact wipe_cong l fun j hj => o j fun m => hj (hs j m)
theorem wipe_wipe (σ : St) (vs : List Nat) : L2.wipe (L2.wipe σ vs) vs = L2.wipe σ vs := wipe_cong (wipe_length _ _) fun j hj => wipe_out hj
/-! tests of a clause -/
def STs (C : SC) (sc : Scope) (ifs : List Expr) (c : TSem) : Prop := ∃ t : TT, (∀ X, XOk C sc X → PTs X ifs t) ∧ ∀ q B0 H0 B H σ env st b st' (Q : Bool → Hp → Prop), GS C.T q B0 H0 B H σ env st → c env st = some (b, st') → (∀ B' H', Ext q B H B' H' → DrAt q H' st' → Q b H') → t σ H Q
def yesT : TSem := fun _ => M.ret true
theorem sts_nil : STs C sc [] yesT := ⟨tYes, fun _ _ => pts_nil, fun q B0 H0 B H σ env st b st' Q g hf k => by
  obtain ⟨rfl, rfl⟩ := M.ret_some hf
  exact k B H (Ext.refl g.sub) g.dr⟩
theorem sts_one {c : Expr} {f : TSem} (h : ST C sc c f) : STs C sc [c] f := ⟨tt C sc c, fun X hX => pts_one (pt_tt hX), fun q B0 H0 B H σ env st b st' Q g hf k => h q B0 H0 B H σ env st b st' Q g hf k⟩
def compGo (g : GSem) (c : TSem) (f : ESem) (env0 : List Var) : List D → M (List D)
  | [] => M.ret []
  | d :: ds => M.bd (M.lf (g d env0)) fun env1 => M.bd (c env1) fun b => if b = true then M.bd (f env1) fun y => M.bd (compGo g c f env0 ds) fun ys => M.ret (y :: ys) else compGo g c f env0 ds
def compE (it : ISem) (g : GSem) (c : TSem) (f : ESem) (vs : List Nat) : ESem := fun env => M.bd (it env) fun items => M.bd (compGo g c f (wipeE env vs) items) fun ys => M.ret (.lst ys)
/-- where the new list of a comprehension stands -/
structure Acc (T : PySem.W.Frag) (q : QA) (B1 H1 B H : Hp) (D : Addr) (acc : List V) (ys : List Y.D) : Prop where
  ext : Ext q B1 H1 B H
  at_ : H D = some (.lst acc)
  nb : B D = none
  nq : ¬ q.has D
  rep : RepL T q B ys acc
theorem Acc.step {T : PySem.W.Frag} {q : QA} {B1 H1 B H B' H' : Hp} {D : Addr} {acc : List V} {ys : List Y.D} {st st1 : DS} (a : Acc T q B1 H1 B H D acc ys) (d0 : DrAt q H1 st) (d1 : DrAt q H st1) (e : Ext q B H B' H') : Acc T q B1 H1 B' H' D acc ys := by
  refine ⟨a.ext.trans d0 e ⟨_, d1⟩, e.h _ _ a.nq a.at_, ?_, a.nq, a.rep.mono e.b⟩
  cases h : B' D with
  | none => rfl
  | some o =>
    have := e.n D a.nb (by rw [h]; simp)
    rcases this with this | ⟨_, this⟩ <;> rw [a.at_] at this <;> cases this
theorem Acc.push {T : PySem.W.Frag} {q : QA} {B1 H1 B H : Hp} {D : Addr} {acc : List V} {ys : List Y.D} {y : Y.D} {v : V} (a : Acc T q B1 H1 B H D acc ys) (n1 : H1 D = none) (r : Rep T q B y v) : Acc T q B1 H1 B (upd H D (.lst (acc ++ [v]))) D (acc ++ [v]) (ys ++ [y]) := by
  refine ⟨⟨a.ext.b, fun c o m h => ?_, fun c o h => ?_, a.ext.n⟩, upd_same, a.nb, a.nq, a.rep.append (.cons r .nil)⟩
  · rw [upd_ne (ne_of_none h n1)]
    exact a.ext.h c o m h
  · rw [upd_ne (ne_of_none h a.nb)]
    exact a.ext.s c o h
/-- an owned or accumulated object changes: the frame's state stays -/
theorem GS.upd {T : PySem.W.Frag} {q : QA} {B0 H0 B H : Hp} {σ : St} {env : List Var} {st : DS} {D : Addr} {o : HO} (g : GS T q B0 H0 B H σ env st) (nb : B D = none) (n0 : H0 D = none) (nq : ¬ q.has D) (far : ∀ (j : Nat) (e : Y.D), env[j]? = some (Var.o e) → σ[j]? ≠ some (some (V.ref D))) : GS T q B0 H0 B (L2.upd H D o) σ env st := by
  refine ⟨⟨g.ext.b, fun c o' m h => ?_, fun c o' h => ?_, g.ext.n⟩, g.dr0, ?_, g.out, g.len, fun i x h => ?_, g.apart⟩
  · rw [upd_ne (ne_of_none h n0)]
    exact g.ext.h c o' m h
  · rw [upd_ne (ne_of_none h nb)]
    exact g.ext.s c o' h
  · have ne : ∀ a, q.has a → a ≠ D := fun a m z => nq (z ▸ m)
    exact ⟨by rw [upd_ne (ne _ (.inl rfl))]; exact g.dr.d, by rw [upd_ne (ne _ (.inr (.inl rfl)))]; exact g.dr.g, by rw [upd_ne (ne _ (.inr (.inr rfl)))]; exact g.dr.c, g.dr.gc⟩
  · have z := g.vars i x h
    cases x with
    | u => trivial
    | p d => exact z
    | o d =>
      obtain ⟨a, h1, h2, h3, h4, h5⟩ := z
      have hne : a ≠ D := fun z => far i d h (by rw [h1, z])
      exact ⟨a, h1, h2, h3, h4, h5.mono (Same.refl _) fun u hu => by rw [upd_ne hne]; exact hu⟩
end
end Y
end

section
set_option Elab.async false
set_option linter.all false
set_option maxRecDepth 100000
set_option autoImplicit false
namespace Y
open PySem PySem.Spec L2
open PyProof.Rows hiding St

theorem wipeE_out {env : List Var} {j : Nat} : ∀ {vs : List Nat}, j ∉ vs → (wipeE env vs)[j]? = env[j]?
  | [], _ => rfl
  | v :: vs, h => by
    rw [List.mem_cons, not_or] at h
    rw [wipeE, List.getElem?_set_ne (fun z => h.1 z.symm), wipeE_out h.2]
theorem wipeE_in {env : List Var} {j : Nat} : ∀ {vs : List Nat}, j ∈ vs → (wipeE env vs)[j]? = if j < env.length then some .u else none
  | [], h => by cases h
  | v :: vs, h => by
    by_cases e : v = j
    · subst e
      rw [wipeE]
      by_cases hl : v < env.length
      · rw [if_pos hl, List.getElem?_set_self (by rw [wipeE_length]; exact hl)]
      · rw [if_neg hl, List.getElem?_eq_none (by rw [List.length_set, wipeE_length]; omega)]
    · rw [wipeE, List.getElem?_set_ne e]
      rcases List.mem_cons.mp h with z | z
      · exact absurd z.symm e
      · exact wipeE_in z
theorem wipeE_cong {env env' : List Var} {vs : List Nat} (hl : env'.length = env.length) (h : ∀ j, j ∉ vs → env'[j]? = (wipeE env vs)[j]?) : wipeE env' vs = wipeE env vs := by
  apply List.ext_getElem?
  intro j
  by_cases hj : j ∈ vs
  · rw [wipeE_in hj, wipeE_in hj, hl]
  · rw [wipeE_out hj, h j hj]
theorem compGo_len {g : GSem} {c : TSem} {f : ESem} {env0 : List Var} : ∀ {ds : List D} {st st' : DS} {ys : List D}, compGo g c f env0 ds st = some (ys, st') → ys.length ≤ ds.length
  | [], _, _, _, h => by obtain ⟨rfl, _⟩ := M.ret_some h; exact Nat.le_refl _
  | d :: ds, st, st', ys, h => by
    obtain ⟨env1, s1, h1, h2⟩ := M.bd_some h
    obtain ⟨b, s2, h3, h4⟩ := M.bd_some h2
    cases b with
    | true =>
      rw [if_pos rfl] at h4
      obtain ⟨y, s3, h5, h6⟩ := M.bd_some h4
      obtain ⟨zs, s4, h7, h8⟩ := M.bd_some h6
      obtain ⟨rfl, _⟩ := M.ret_some h8
      have := compGo_len h7
      simp only [List.length_cons]
      omega
    | false =>
      rw [if_neg (by decide)] at h4
      have := compGo_len h4
      simp only [List.length_cons]
      omega
section
variable {C : SC} {sc scope : Scope} {elt tg iter : Expr} {ifs : List Expr} {pos p : Pos} {it : ISem} {g : GSem} {c : TSem} {f : ESem} {vs us : List Nat}
/-- the turns of a comprehension, from an accumulated list D -/
theorem lc_turns {q : QA} {B0 H0 B1 H1 Bs : Hp} {σ : St} {env : List Var} {s1 sz : DS} {st' : DS} {D : Addr} {J : It} {items ys : List Y.D} {g1 : TG} {t1 : TT} {vs us : List Nat}
    (k2 : ∀ q B0 H0 B H σ env st d v env' (Q : St → Hp → Prop), GS C.T q B0 H0 B H σ env st → Rep C.T q B d v → g d env = some env' → (∀ σ', GS C.T q B0 H0 B H σ' env' st → L2.wipe σ' us = L2.wipe σ us → Q σ' H) → g1 v σ H Q)
    (k3 : ∀ q B0 H0 B H σ env st b st' (Q : Bool → Hp → Prop), GS C.T q B0 H0 B H σ env st → c env st = some (b, st') → (∀ B' H', Ext q B H B' H' → DrAt q H' st' → Q b H') → t1 σ H Q)
    (he : SE C scope elt f) (hus : ∀ i ∈ us, i ∈ vs) (wk : Wk C.T q J Bs items) (dz : DrAt q H1 sz)
    (pre : List Y.D) (hlen : (pre ++ ys).length ≤ sizeLine) {H2 : Hp} {B2 : Hp} (g2 : GS C.T q B0 H0 B2 H2 (L2.wipe σ vs) (wipeE env vs) s1) (s2 : Same Bs B2) {acc0 : List V} (a2 : Acc C.T q B1 H1 B2 H2 D acc0 pre) (n1 : H1 D = none) (h0D : H0 D = none)
    (far : ∀ (j : Nat) (e : Y.D), (wipeE env vs)[j]? = some (Var.o e) → (L2.wipe σ vs)[j]? ≠ some (some (V.ref D)))
    (hgo : compGo g c f (wipeE env vs) items s1 = some (ys, st')) {Qd : Hp → Prop}
    (hd : ∀ H B acc, GS C.T q B0 H0 B H (L2.wipe σ vs) (wipeE env vs) st' → Same Bs B → Acc C.T q B1 H1 B H D acc (pre ++ ys) → Qd H) :
    ∃ W : Nat → Nat → Hp → Prop, (∃ m, W 0 m H2) ∧ ∀ i m H, W i m H →
      (J.stop i H ∧ Qd H) ∨ (J.go i H ∧ ∃ Nx : Hp → Prop, (∀ H', Nx H' → ∃ m', m' < m ∧ W (i + 1) m' H') ∧ ∀ x H', J.yld i H x H' → g1 x (L2.wipe σ vs) H' fun σ2 H2 => L2.wipe σ2 vs = L2.wipe σ vs ∧ t1 σ2 H2 fun b H3 =>
        if b = true then te C scope elt σ2 H3 fun y H4 => ∃ acc, H4 D = some (.lst acc) ∧ acc.length < sizeLine ∧ Nx (upd H4 D (.lst (acc ++ [y]))) else Nx H3) := by
  let Pv : Nat → Hp → Prop := fun i H => ∃ B st acc zs rest, GS C.T q B0 H0 B H (L2.wipe σ vs) (wipeE env vs) st ∧ Same Bs B ∧ Acc C.T q B1 H1 B H D acc zs ∧ compGo g c f (wipeE env vs) (items.drop i) st = some (rest, st') ∧ zs ++ rest = pre ++ ys
  refine ⟨fun i m H => m = items.length - i ∧ i ≤ items.length ∧ Pv i H, ⟨items.length, by simp, Nat.zero_le _, B2, s1, acc0, pre, ys, g2, s2, a2, hgo, rfl⟩, ?_⟩
  rintro i m H ⟨rfl, hi, B, st, acc, zs, rest, gi, si, ai, goi, ei⟩
  have hG : Same Bs H := si.trans gi.sub
  by_cases hlt : i < items.length
  · refine .inr ⟨wk.w.goes i H hlt hG, Pv (i + 1), fun H' p' => ⟨items.length - (i + 1), by omega, rfl, hlt, p'⟩, fun x H' hy => ?_⟩
    obtain ⟨d, B', hd', e', r'⟩ := wk.w.yields i H x H' hlt hG hy B si gi.sub
    have hdr : items.drop i = d :: items.drop (i + 1) := by
      obtain ⟨hl, he⟩ := List.getElem?_eq_some_iff.mp hd'
      rw [← he]
      exact List.drop_eq_getElem_cons hl
    rw [hdr] at goi
    obtain ⟨env1, t2, h1, h2⟩ := M.bd_some goi
    obtain ⟨h1', rfl⟩ := M.lf_some h1
    obtain ⟨b, s3, h3, h4⟩ := M.bd_some h2
    have ai' := ai.step dz gi.dr e'.ext
    refine k2 q B0 H0 B' H' _ _ _ d x env1 _ (gi.step0 e') r' h1' fun σ2 g2 w2 => ?_
    have w2' : L2.wipe σ2 vs = L2.wipe σ vs := by
      have := wipe_sub w2 hus
      rw [wipe_wipe] at this
      exact this
    refine ⟨w2', k3 q B0 H0 B' H' σ2 env1 _ b s3 _ g2 h3 fun B3 H3 e3 d3 => ?_⟩
    have back : ∀ {B4 H4 : Hp} {s4 : DS}, Ext q B H B4 H4 → DrAt q H4 s4 → GS C.T q B0 H0 B4 H4 (L2.wipe σ vs) (wipeE env vs) s4 := fun e4 d4 => gi.step e4 d4
    have e13 := e'.ext.trans gi.dr e3 ⟨_, g2.dr⟩
    have ai3 := ai'.step dz g2.dr e3
    cases b with
    | false =>
      rw [if_neg (by decide)] at h4 ⊢
      exact ⟨B3, s3, acc, zs, rest, back e13 d3, (si.trans e13.b), ai3, h4, ei⟩
    | true =>
      rw [if_pos rfl] at h4 ⊢
      obtain ⟨y, s4, h5, h6⟩ := M.bd_some h4
      obtain ⟨rest', s5, h7, h8⟩ := M.bd_some h6
      obtain ⟨rfl, rfl⟩ := M.ret_some h8
      refine he q B0 H0 B3 H3 σ2 env1 s3 y s4 _ (g2.step e3 d3) h5 fun v B4 H4 e4 d4 r4 => ?_
      have e14 := e13.trans gi.dr e4 ⟨_, d3⟩
      have ai4 := ai3.step dz d3 e4
      refine ⟨acc, ai4.at_, ?_, B4, s4, acc ++ [v], zs ++ [y], rest', ?_, si.trans e14.b, ai4.push n1 r4, h7, by rw [List.append_assoc]; exact ei⟩
      · rw [← ai4.rep.length]
        have := congrArg List.length ei
        rw [List.length_append, List.length_cons] at this
        omega
      · exact (back e14 d4).upd ai4.nb h0D ai4.nq far
  · have e : i = items.length := by omega
    subst e
    rw [List.drop_length] at goi
    obtain ⟨rfl, rfl⟩ := M.ret_some goi
    rw [List.append_nil] at ei
    rw [ei] at ai
    exact .inl ⟨wk.w.stops H hG, hd H B acc gi si ai⟩
/-- what the rules of comprehensions ask of the text -/
structure LcOk (C : SC) (sc scope : Scope) (tg iter elt : Expr) (ifs : List Expr) (own : List (Str × Nat)) (it : ISem) (g : GSem) (c : TSem) (f : ESem) : Prop where
  ok : BlkOk C.N sc scope own
  src : SI C sc tg iter it
  tgt : ∃ us, (∀ i ∈ us, i ∈ own.map (·.2)) ∧ SG C scope tg us g
  ifs : STs C scope ifs c
  elt : SE C scope elt f
theorem lc_static {own : List (Str × Nat)} (L : LcOk C sc scope tg iter elt ifs own it g c f) : ∃ wi g1 t1, (∀ X, XOk C sc X → PE X (.ListComp elt [⟨tg, iter, ifs, 0⟩] scope pos) (tLc wi g1 t1 (te C scope elt) (own.map (·.2)))) ∧
    (∀ X i y py spos, XOk C sc X → C.N[i]? = some y → sc.names.lookup y = some .local → (py.line == pos.line) = true → (scope.names.any fun (n, k) => n == y && (k == .local || k == .cell)) = false → PS X (.Assign [.Name y py] (.ListComp elt [⟨tg, iter, ifs, 0⟩] scope pos) spos) (tAsg (tLc wi g1 t1 (te C scope elt) (own.map (·.2))) (gName i))) ∧
    ∀ q B0 H0 B H σ env st d st' (Q : VK), GS C.T q B0 H0 B H σ env st → compE it g c f (own.map (·.2)) env st = some (d, st') →
      (∀ a B' H', Ext q B H B' H' → DrAt q H' st' → H a = none → B' a = none → Own C.T q B' H' a d → Q (.ref a) H') → tLc wi g1 t1 (te C scope elt) (own.map (·.2)) σ H Q := by
  obtain ⟨wi, p1, p2, k1⟩ := L.src
  obtain ⟨us, hus, f1, g1, p3, k2⟩ := L.tgt
  obtain ⟨t1, p4, k3⟩ := L.ifs
  refine ⟨wi, g1, t1, fun X hX => ?_, fun X i y py spos hX hi hy hl ha => ?_, fun q B0 H0 B H σ env st d st' Q g0 hf k => ?_⟩
  · exact pe_lc hX.calm hX.nd (p1 X hX) (blk_ok hX L.ok) (fun s H A cl fp => p3 _ (blk_x hX L.ok s H A cl fp)) (fun s H A cl fp => p4 _ (blk_x hX L.ok s H A cl fp)) (fun s H A cl fp => pe_te (blk_x hX L.ok s H A cl fp)) (fun x => p2 _ x)
  · obtain ⟨k', z1, z2⟩ := hX.names y _ hy
    have z3 : X.env.scope.names.lookup y = some .local := by
      rcases z2 with rfl | ⟨z, _⟩
      · exact z1
      · cases z
    exact ps_setLc hX.calm hX.nd (by rw [hX.N]; exact hi) z3 (sw_true hX.kind z3 hl ha) (p1 X hX) (blk_ok hX L.ok) (fun s H A cl fp => p3 _ (blk_x hX L.ok s H A cl fp)) (fun s H A cl fp => p4 _ (blk_x hX L.ok s H A cl fp)) (fun s H A cl fp => pe_te (blk_x hX L.ok s H A cl fp)) (fun x => p2 _ x)
  · obtain ⟨items, s1, h1, h2⟩ := M.bd_some hf
    obtain ⟨ys, s2, h3, h4⟩ := M.bd_some h2
    obtain ⟨rfl, rfl⟩ := M.ret_some h4
    refine k1 q B0 H0 B H σ env st items s1 _ g0 h1 fun J B1 H1 e1 d1 wk D nD => ?_
    have gz := g0.step e1 d1
    have nB := Same.free e1.s nD
    have nq := d1.no nD
    have h0D := Ext.new0 gz nD
    have a0 : Acc C.T q B1 H1 B1 (upd H1 D (.lst [])) D [] [] := ⟨(Ext0.own e1.s nD).ext, upd_same, nB, nq, .nil⟩
    refine lc_turns k2 k3 L.elt hus wk d1 [] (Nat.le_trans (compGo_len h3) wk.len) ((gz.step0 (Ext0.own e1.s nD)).wipe _) (Same.refl _) a0 nD h0D (fun j e hj => (gz.wipe _).far nD j e hj) h3 fun H' B' acc g' s' a' => ?_
    have a'' := a'
    rw [List.nil_append] at a''
    exact k D B' H' (e1.trans g0.dr a'.ext ⟨_, d1⟩) g'.dr (new_back e1 d1 nD) a'.nb (.lst a''.at_ a''.rep)
theorem sf_lc {own : List (Str × Nat)} (L : LcOk C sc scope tg iter elt ifs own it g c f) : SF C sc (.ListComp elt [⟨tg, iter, ifs, 0⟩] scope pos) (compE it g c f (own.map (·.2))) := by
  obtain ⟨wi, g1, t1, hp, _, hr⟩ := lc_static (pos := pos) L
  exact SF.of hp hr
theorem set_run {i : Nat} {h : ESem} {t : TE} {F : Bool} (hr : ∀ q B0 H0 B H σ env st d st' (Q : VK), GS C.T q B0 H0 B H σ env st → h env st = some (d, st') →
      (∀ a B' H', Ext q B H B' H' → DrAt q H' st' → H a = none → B' a = none → Own C.T q B' H' a d → Q (.ref a) H') → t σ H Q) : ∀ q B0 H0 B H σ env st fl env' st' (Dd : Ends), GS C.T q B0 H0 B H σ env st → setOS i h env st = some ((fl, env'), st') → Post C.T q B0 H0 B fl env' st' Dd → tAsg t (gName i) Dd σ H :=
  fun q B0 H0 B H σ env st fl env' st' Dd g hf k => by
    obtain ⟨x, s1, h1, h2⟩ := M.bd_some hf
    obtain ⟨h3, rfl⟩ := M.ret_some h2
    cases h3
    exact hr q B0 H0 B H σ env st x _ _ g h1 fun a B' H' e1 d1 n1 n2 r1 => k _ B' H' e1.b (g.setN e1 d1 i n1 n2 r1)
theorem set_runP {i : Nat} {h : ESem} {t : TE} (hr : ∀ q B0 H0 B H σ env st d st' (Q : VK), GS C.T q B0 H0 B H σ env st → h env st = some (d, st') →
      (∀ a B' H', Ext q B H B' H' → DrAt q H' st' → H a = none → B' a = none → Own C.T q B' H' a d → Q (.ref a) H') → t σ H Q) : ∀ q B0 H0 B H σ env st fl env' st' (Dd : Ends), GS C.T q B0 H0 B H σ env st → setS i h env st = some ((fl, env'), st') → Post C.T q B0 H0 B fl env' st' Dd → tAsg t (gName i) Dd σ H :=
  fun q B0 H0 B H σ env st fl env' st' Dd g hf k => by
    obtain ⟨x, s1, h1, h2⟩ := M.bd_some hf
    obtain ⟨h3, rfl⟩ := M.ret_some h2
    cases h3
    refine hr q B0 H0 B H σ env st x _ _ g h1 fun a B' H' e1 d1 n1 n2 r1 => ?_
    obtain ⟨o, ho, r', t1, t2⟩ := r1.freeze n2 e1.s
    have e2 : Ext q B H (upd B' a o) H' := ⟨e1.b.trans t1, e1.h, t2, fun c w1 w2 => by
      by_cases hc : c = a
      · rw [hc]; exact .inl n1
      · rw [upd_ne hc] at w2; exact e1.n c w1 w2⟩
    exact k _ _ H' e2.b ((g.step e2 d1).setP i r')
theorem ss_setLcO {own : List (Str × Nat)} {i : Nat} {y : Str} {py spos : Pos} (L : LcOk C sc scope tg iter elt ifs own it g c f) (hi : C.N[i]? = some y) (hy : sc.names.lookup y = some .local) (hl : (py.line == pos.line) = true) (ha : (scope.names.any fun (n, k) => n == y && (k == .local || k == .cell)) = false) :
    SS C sc (.Assign [.Name y py] (.ListComp elt [⟨tg, iter, ifs, 0⟩] scope pos) spos) (setOS i (compE it g c f (own.map (·.2)))) := by
  obtain ⟨wi, g1, t1, _, hp, hr⟩ := lc_static (pos := pos) L
  exact SS.of (fun X hX => hp X i y py spos hX hi hy hl ha) (set_run (F := true) hr)
theorem ss_setLcP {own : List (Str × Nat)} {i : Nat} {y : Str} {py spos : Pos} (L : LcOk C sc scope tg iter elt ifs own it g c f) (hi : C.N[i]? = some y) (hy : sc.names.lookup y = some .local) (hl : (py.line == pos.line) = true) (ha : (scope.names.any fun (n, k) => n == y && (k == .local || k == .cell)) = false) :
    SS C sc (.Assign [.Name y py] (.ListComp elt [⟨tg, iter, ifs, 0⟩] scope pos) spos) (setS i (compE it g c f (own.map (·.2)))) := by
  obtain ⟨wi, g1, t1, _, hp, hr⟩ := lc_static (pos := pos) L
  exact SS.of (fun X hX => hp X i y py spos hX hi hy hl ha) (set_runP hr)
/-! two clauses -/
def comp2Go (g : GSem) (c : TSem) (it1 : ISem) (g1 : GSem) (c1 : TSem) (f : ESem) (vs1 : List Nat) (env0 : List Var) : List D → M (List D)
  | [] => M.ret []
  | d :: ds => M.bd (M.lf (g d env0)) fun env1 => M.bd (c env1) fun b => if b = true then
      M.bd (it1 env1) fun items => M.bd (compGo g1 c1 f (wipeE env1 vs1) items) fun ys => M.bd (comp2Go g c it1 g1 c1 f vs1 env0 ds) fun zs => M.ret (ys ++ zs)
    else comp2Go g c it1 g1 c1 f vs1 env0 ds
def comp2E (it : ISem) (g : GSem) (c : TSem) (it1 : ISem) (g1 : GSem) (c1 : TSem) (f : ESem) (vs vs1 : List Nat) : ESem := fun env => M.bd (it env) fun items => M.bd (comp2Go g c it1 g1 c1 f vs1 (wipeE env vs) items) fun ys => M.lf (if ys.length ≤ 1000000 then some (.lst ys) else none)
structure Lc2Ok (C : SC) (sc scope : Scope) (tg iter tg1 iter1 elt : Expr) (ifs ifs1 : List Expr) (own : List (Str × Nat)) (vs1 : List Nat) (it : ISem) (g : GSem) (c : TSem) (it1 : ISem) (g1 : GSem) (c1 : TSem) (f : ESem) : Prop where
  ok : BlkOk C.N sc scope own
  src : SI C sc tg iter it
  tgt : ∃ us, (∀ i ∈ us, i ∈ own.map (·.2)) ∧ SG C scope tg us g
  ifs : STs C scope ifs c
  src1 : SI C scope tg1 iter1 it1
  tgt1 : ∃ us, (∀ i ∈ us, i ∈ vs1) ∧ SG C scope tg1 us g1
  ifs1 : STs C scope ifs1 c1
  hv : ∀ i ∈ vs1, i ∈ own.map (·.2)
  elt : SE C scope elt f
variable {tg1 iter1 : Expr} {ifs1 : List Expr} {it1 : ISem} {g1' : GSem} {c1' : TSem} {vs1 : List Nat}
theorem lc2_static {own : List (Str × Nat)} (L : Lc2Ok C sc scope tg iter tg1 iter1 elt ifs ifs1 own vs1 it g c it1 g1' c1' f) : ∃ wi g1 t1 wi1 g2 t2, (∀ X, XOk C sc X → PE X (.ListComp elt [⟨tg, iter, ifs, 0⟩, ⟨tg1, iter1, ifs1, 0⟩] scope pos) (tLc2 wi g1 t1 wi1 g2 t2 (te C scope elt) (own.map (·.2)) vs1)) ∧
    (∀ X i y py spos, XOk C sc X → C.N[i]? = some y → sc.names.lookup y = some .local → (py.line == pos.line) = true → (scope.names.any fun (n, k) => n == y && (k == .local || k == .cell)) = false → PS X (.Assign [.Name y py] (.ListComp elt [⟨tg, iter, ifs, 0⟩, ⟨tg1, iter1, ifs1, 0⟩] scope pos) spos) (tAsg (tLc2 wi g1 t1 wi1 g2 t2 (te C scope elt) (own.map (·.2)) vs1) (gName i))) ∧
    ∀ q B0 H0 B H σ env st d st' (Q : VK), GS C.T q B0 H0 B H σ env st → comp2E it g c it1 g1' c1' f (own.map (·.2)) vs1 env st = some (d, st') →
      (∀ a B' H', Ext q B H B' H' → DrAt q H' st' → H a = none → B' a = none → Own C.T q B' H' a d → Q (.ref a) H') → tLc2 wi g1 t1 wi1 g2 t2 (te C scope elt) (own.map (·.2)) vs1 σ H Q := by
  obtain ⟨wi, p1, p2, k1⟩ := L.src
  obtain ⟨us, hus, f1, g1, p3, k2⟩ := L.tgt
  obtain ⟨t1, p4, k3⟩ := L.ifs
  obtain ⟨wi1, p5, p6, k4⟩ := L.src1
  obtain ⟨us1, hus1, _, g2, p7, k5⟩ := L.tgt1
  obtain ⟨t2, p8, k6⟩ := L.ifs1
  refine ⟨wi, g1, t1, wi1, g2, t2, fun X hX => ?_, fun X i y py spos hX hi hy hl ha => ?_, fun q B0 H0 B H σ env st d st' Q g0 hf k => ?_⟩
  · exact pe_lc2 hX.calm hX.nd (p1 X hX) (blk_ok hX L.ok) L.hv (fun s H A cl fp => p3 _ (blk_x hX L.ok s H A cl fp)) (fun s H A cl fp => p4 _ (blk_x hX L.ok s H A cl fp)) (fun s H A cl fp => p5 _ (blk_x hX L.ok s H A cl fp)) (fun s H A cl fp => p7 _ (blk_x hX L.ok s H A cl fp)) (fun s H A cl fp => p8 _ (blk_x hX L.ok s H A cl fp)) (fun s H A cl fp => pe_te (blk_x hX L.ok s H A cl fp)) (fun x => p2 _ x) p6
  · obtain ⟨k', z1, z2⟩ := hX.names y _ hy
    have z3 : X.env.scope.names.lookup y = some .local := by
      rcases z2 with rfl | ⟨z, _⟩
      · exact z1
      · cases z
    exact ps_setLc2 hX.calm hX.nd (by rw [hX.N]; exact hi) z3 (sw_true hX.kind z3 hl ha) (p1 X hX) (blk_ok hX L.ok) L.hv (fun s H A cl fp => p3 _ (blk_x hX L.ok s H A cl fp)) (fun s H A cl fp => p4 _ (blk_x hX L.ok s H A cl fp)) (fun s H A cl fp => p5 _ (blk_x hX L.ok s H A cl fp)) (fun s H A cl fp => p7 _ (blk_x hX L.ok s H A cl fp)) (fun s H A cl fp => p8 _ (blk_x hX L.ok s H A cl fp)) (fun s H A cl fp => pe_te (blk_x hX L.ok s H A cl fp)) (fun x => p2 _ x) p6
  · obtain ⟨items, s1, h1, h2⟩ := M.bd_some hf
    obtain ⟨ys, s2, h3, h4⟩ := M.bd_some h2
    obtain ⟨h4', rfl⟩ := M.lf_some h4
    have hlen : ys.length ≤ 1000000 ∧ d = .lst ys := by
      by_cases hz : ys.length ≤ 1000000
      · rw [if_pos hz] at h4'
        cases h4'
        exact ⟨hz, rfl⟩
      · rw [if_neg hz] at h4'
        cases h4'
    obtain ⟨hlen, rfl⟩ := hlen
    have hlen : ys.length ≤ sizeLine := by rw [sizeLine_eq]; omega
    refine k1 q B0 H0 B H σ env st items s1 _ g0 h1 fun J B1 H1 e1 d1 wk D nD => ?_
    have gz := g0.step e1 d1
    have nB := Same.free e1.s nD
    have nq := d1.no nD
    have h0D := Ext.new0 gz nD
    have a0 : Acc C.T q B1 H1 B1 (upd H1 D (.lst [])) D [] [] := ⟨(Ext0.own e1.s nD).ext, upd_same, nB, nq, .nil⟩
    generalize hvs : own.map (·.2) = vs at *
    let Pv : Nat → Hp → Prop := fun i H => ∃ B st acc zs rest, GS C.T q B0 H0 B H (L2.wipe σ vs) (wipeE env vs) st ∧ Same B1 B ∧ Acc C.T q B1 H1 B H D acc zs ∧ comp2Go g c it1 g1' c1' f vs1 (wipeE env vs) (items.drop i) st = some (rest, st') ∧ zs ++ rest = ys
    refine ⟨fun i m H => m = items.length - i ∧ i ≤ items.length ∧ Pv i H, ⟨items.length, by simp, Nat.zero_le _, B1, s1, [], [], ys, (gz.step0 (Ext0.own e1.s nD)).wipe _, Same.refl _, a0, h3, rfl⟩, ?_⟩
    rintro i m H ⟨rfl, hi, B', st1, acc, zs, rest, gi, si, ai, goi, ei⟩
    have hG : Same B1 H := si.trans gi.sub
    by_cases hlt : i < items.length
    · refine .inr ⟨wk.w.goes i H hlt hG, Pv (i + 1), fun H' p' => ⟨items.length - (i + 1), by omega, rfl, hlt, p'⟩, fun x H' hy => ?_⟩
      obtain ⟨d, B2, hd', e', r'⟩ := wk.w.yields i H x H' hlt hG hy B' si gi.sub
      have hdr : items.drop i = d :: items.drop (i + 1) := by
        obtain ⟨hl, he⟩ := List.getElem?_eq_some_iff.mp hd'
        rw [← he]
        exact List.drop_eq_getElem_cons hl
      rw [hdr] at goi
      obtain ⟨env1, t2', a1, a2⟩ := M.bd_some goi
      obtain ⟨a1', rfl⟩ := M.lf_some a1
      obtain ⟨b, s3, a3, a4⟩ := M.bd_some a2
      have ai' := ai.step d1 gi.dr e'.ext
      refine k2 q B0 H0 B2 H' _ _ _ d x env1 _ (gi.step0 e') r' a1' fun σ2 g2' w2 => ?_
      have w2' : L2.wipe σ2 vs = L2.wipe σ vs := by
        have := wipe_sub w2 hus
        rw [wipe_wipe] at this
        exact this
      refine ⟨w2', k3 q B0 H0 B2 H' σ2 env1 _ b s3 _ g2' a3 fun B3 H3 e3 d3 => ?_⟩
      have e13 := e'.ext.trans gi.dr e3 ⟨_, g2'.dr⟩
      have ai3 := ai'.step d1 g2'.dr e3
      have g3 := g2'.step e3 d3
      cases b with
      | false =>
        rw [if_neg (by decide)] at a4 ⊢
        exact ⟨B3, s3, acc, zs, rest, gi.step e13 d3, si.trans e13.b, ai3, a4, ei⟩
      | true =>
        rw [if_pos rfl] at a4 ⊢
        obtain ⟨items1, s4, a5, a6⟩ := M.bd_some a4
        obtain ⟨ys1, s5, a7, a8⟩ := M.bd_some a6
        obtain ⟨zs1, s6, a9, a10⟩ := M.bd_some a8
        obtain ⟨rfl, rfl⟩ := M.ret_some a10
        refine k4 q B0 H0 B3 H3 σ2 env1 s3 items1 s4 _ g3 a5 fun J1 B4 H4 e4 d4 wk1 => ?_
        have ai4 := ai3.step d1 d3 e4
        have g4 := g3.step e4 d4
        have e14 := e13.trans gi.dr e4 ⟨_, d3⟩
        have hl1 : (zs ++ ys1).length ≤ sizeLine := by
          have := congrArg List.length ei
          rw [List.length_append, List.length_append] at this
          rw [List.length_append]
          omega
        have farD : ∀ (j : Nat) (e : Y.D), env1[j]? = some (Var.o e) → σ2[j]? ≠ some (some (V.ref D)) := fun j e hj hs => by
          obtain ⟨a', b1, b2, b3, b4, b5⟩ := g2'.vars j _ hj
          rw [hs] at b1
          have b1' : D = a' := by injection (Option.some.inj (Option.some.inj b1))
          obtain ⟨x1, x2, x3⟩ := f1 _ _ _ a1'
          have y1 := x3 j e hj
          obtain ⟨_, w5⟩ := wipe_out' w2
          have hju : j ∉ us := fun m => by
            rcases wipeE_get y1 with z | ⟨_, z⟩
            · cases z
            · exact z (hus j m)
          rw [w5 j hju] at hs
          exact (gz.wipe vs).far nD j e y1 hs
        refine lc_turns k5 k6 L.elt hus1 wk1 d1 zs hl1 (g4.wipe vs1) (Same.refl _) ai4 nD h0D (fun j e hj => ?_) a7 fun H' B'' acc' g' s' a' => ?_
        · rcases wipeE_get hj with z | ⟨z1, z2⟩
          · cases z
          · rw [wipe_out z2]
            exact farD j e z1
        · have ew : L2.wipe (L2.wipe σ2 vs1) vs = L2.wipe σ vs := by
            rw [← w2']
            refine wipe_cong (by rw [wipe_length]) fun j hj => wipe_out fun m => hj (hvs ▸ L.hv j m)
          have ee : wipeE (wipeE env1 vs1) vs = wipeE env vs := by
            obtain ⟨x1, x2, x3⟩ := f1 _ _ _ a1'
            refine wipeE_cong (by rw [wipeE_length, x1, wipeE_length]) fun j hj => ?_
            rw [wipeE_out fun m => hj (hvs ▸ L.hv j m), x2 j fun m => hj (hus j m), wipeE_out hj]
          have gw := g'.wipe vs
          rw [ew, ee] at gw
          exact ⟨B'', _, acc', zs ++ ys1, zs1, gw, si.trans (e14.b.trans s'), a', a9, by rw [List.append_assoc]; exact ei⟩
    · have e : i = items.length := by omega
      subst e
      rw [List.drop_length] at goi
      obtain ⟨rfl, rfl⟩ := M.ret_some goi
      rw [List.append_nil] at ei
      rw [ei] at ai
      exact .inl ⟨wk.w.stops H hG, k D B' H (e1.trans g0.dr ai.ext ⟨_, d1⟩) gi.dr (new_back e1 d1 nD) ai.nb (.lst ai.at_ ai.rep)⟩
end
end Y
end

section
set_option Elab.async false
set_option linter.all false
set_option maxRecDepth 100000
set_option autoImplicit false
namespace Y
open PySem PySem.Spec L2
open PyProof.Rows hiding St

/-! ### an owned object is written -/
theorem set_own_inv {env : List Var} {i : Nat} {d d' : D} (he : env[i]? = some (.o d)) {j : Nat} {x : D} (h : (env.set i (.o d'))[j]? = some (.o x)) : ∃ y, env[j]? = some (.o y) := by
  by_cases hj : i = j
  · subst hj; exact ⟨d, he⟩
  · rw [List.getElem?_set_ne hj] at h; exact ⟨x, h⟩
theorem GS.write {T : PySem.W.Frag} {q : QA} {B0 H0 B H : Hp} {σ : St} {env : List Var} {st : DS} {i : Nat} {a : Addr} {d d' : D} {o : HO} (g : GS T q B0 H0 B H σ env st) (he : env[i]? = some (.o d)) (hs : σ[i]? = some (some (.ref a))) (r : Own T q B (L2.upd H a o) a d') :
    GS T q B0 H0 B (L2.upd H a o) σ (env.set i (.o d')) st := by
  obtain ⟨a', h1, h2, h3, h4, h5⟩ := g.vars i _ he
  rw [hs] at h1
  have h1' := Option.some.inj (Option.some.inj h1)
  injection h1' with h1'
  subst h1'
  have hil : i < env.length := (List.getElem?_eq_some_iff.mp he).1
  refine ⟨⟨g.ext.b, fun c o' m h => ?_, fun c o' h => ?_, g.ext.n⟩, g.dr0, ?_, g.out, by rw [List.length_set]; exact g.len, fun j x h => ?_, fun j k x y e1 e2 e3 => ?_⟩
  · rw [upd_ne (ne_of_none h h2)]
    exact g.ext.h c o' m h
  · rw [upd_ne (ne_of_none h h3)]
    exact g.ext.s c o' h
  · have ne : ∀ b, q.has b → b ≠ a := fun b m z => h4 (z ▸ m)
    exact ⟨by rw [upd_ne (ne _ (.inl rfl))]; exact g.dr.d, by rw [upd_ne (ne _ (.inr (.inl rfl)))]; exact g.dr.g, by rw [upd_ne (ne _ (.inr (.inr rfl)))]; exact g.dr.c, g.dr.gc⟩
  · by_cases hj : i = j
    · subst hj
      rw [List.getElem?_set_self hil] at h
      cases h
      exact ⟨a, hs, h2, h3, h4, r⟩
    · rw [List.getElem?_set_ne hj] at h
      have z := g.vars j x h
      cases x with
      | u => trivial
      | p d => exact z
      | o d =>
        obtain ⟨b, k1, k2, k3, k4, k5⟩ := z
        have hne : b ≠ a := fun z => hj (g.apart i j _ _ he h (by rw [hs, k1, z]))
        exact ⟨b, k1, k2, k3, k4, k5.mono (Same.refl _) fun u hu => by rw [upd_ne hne]; exact hu⟩
  · obtain ⟨x', e1'⟩ := set_own_inv he e1
    obtain ⟨y', e2'⟩ := set_own_inv he e2
    exact g.apart j k x' y' e1' e2' e3
theorem GS.lstAt {T : PySem.W.Frag} {q : QA} {B0 H0 B H : Hp} {σ : St} {env : List Var} {st : DS} {i : Nat} {xs : List D} (g : GS T q B0 H0 B H σ env st) (he : env[i]? = some (.o (.lst xs))) : ∃ a vs, σ[i]? = some (some (.ref a)) ∧ H a = some (.lst vs) ∧ RepL T q B xs vs := by
  obtain ⟨a, h1, _, _, _, h5⟩ := g.vars i _ he
  cases h5 with
  | lst h r => exact ⟨a, _, h1, h, r⟩
theorem GS.at1 {T : PySem.W.Frag} {q : QA} {B0 H0 B H B' H' : Hp} {σ : St} {env : List Var} {st : DS} {i : Nat} {xs : List D} {a : Addr} {vs : List V} (g : GS T q B0 H0 B H σ env st) (he : env[i]? = some (.o (.lst xs))) (hs : σ[i]? = some (some (.ref a))) (hH : H a = some (.lst vs)) (r : RepL T q B xs vs)
    (e : Ext q B H B' H') : H' a = some (.lst vs) ∧ RepL T q B' xs vs := by
  obtain ⟨a', h1, _, _, h4, h5⟩ := g.vars i _ he
  rw [hs] at h1
  have h1' := Option.some.inj (Option.some.inj h1)
  injection h1' with h1'
  subst h1'
  exact ⟨e.h _ _ h4 hH, r.mono e.b⟩
section
variable {C : SC} {sc : Scope} {e a b c : Expr} {f fa fb fc : ESem} {pos p apos cpos : Pos}
/-- what a call of a list's method asks of the text -/
structure MtT (o : Expr) (name : Str) (apos : Pos) (e : Expr) (cpos : Pos) : Prop where
  base : ∀ env, attributeBase o name env (eval o env) = eval o env
  few : ∀ env, ((backTo cpos (starEach [e] env)).all (fun x => !x.1) && (backToKw cpos (keywordEach [] env)).all (fun x => x.1.isSome)
      && decide (([e] : List Expr).length + ([] : List Keyword).length + (if ([] : List Keyword).isEmpty then 0 else 1) < 30)) = true
  line : (apos.endLine == cpos.line) = true
  one : ∀ env, starEach [e] env = (false, eval e env) :: starEach [] env
  pl : ∀ env, (backTo cpos (starEach [] env)).any (·.1) = false
def appV (env : List Var) (i : Nat) (d : D) : Option (List Var) := match env[i]? with
  | some (.o (.lst xs)) => if xs.length ≤ 1000000 then some (env.set i (.o (.lst (xs ++ [d])))) else none
  | _ => none
theorem appV_inv {i : Nat} {d : D} {env env' : List Var} (h : appV env i d = some env') : ∃ xs, env[i]? = some (.o (.lst xs)) ∧ xs.length ≤ 1000000 ∧ env' = env.set i (.o (.lst (xs ++ [d]))) := by
  unfold appV at h
  split at h
  · rename_i xs e
    split at h
    · rename_i hl
      cases h
      exact ⟨xs, e, hl, rfl⟩
    · cases h
  · cases h
def appS (i : Nat) (f : ESem) : SSem := fun env => M.bd (f env) fun d => M.bd (M.lf (appV env i d)) fun env' => M.ret (.nx, env')
theorem app_done {i : Nat} {q : QA} {B0 H0 B H : Hp} {σ : St} {env env1 : List Var} {st : DS} {d : D} {a : Addr} {vs : List V} {v : V} (g : GS C.T q B0 H0 B H σ env st) (h2 : appV env i d = some env1) (hs : σ[i]? = some (some (.ref a))) (hH : H a = some (.lst vs)) (r1 : Rep C.T q B d v) : vs.length < sizeLine ∧ GS C.T q B0 H0 B (L2.upd H a (.lst (vs ++ [v]))) σ env1 st := by
  obtain ⟨xs, he, hl, rfl⟩ := appV_inv h2
  obtain ⟨a', vs', hs', hH', r⟩ := g.lstAt he
  rw [hs] at hs'
  have h1' := Option.some.inj (Option.some.inj hs')
  injection h1' with h1'
  subst h1'
  rw [hH] at hH'
  cases hH'
  exact ⟨by rw [← r.length, sizeLine_eq]; omega, g.write he hs (.lst upd_same (r.append (.cons r1 .nil)))⟩
theorem pe_append {x : Str} {i : Nat} {px : Pos} {te' : TE} (hN : C.N[i]? = some x) (hv : VisB sc x = true) (m : MtT (.Name x px) "append" apos e cpos) (hd : (x == ("__debug__" : Str)) = false) (hcd : (x == ("__classdict__" : Str)) = false) {X : Cx} (hX : XOk C sc X) (he : PE X e te') :
    PE X (.Call (.Attribute (.Name x px) "append" apos) [e] [] cpos) (tBM C.K "list" rAppend (tVar i) (tCons te' tNil)) := by
  have z : PE X (.Call (.Attribute (.Name x px) "append" apos) [e] [] cpos) (tBM X.K "list" rAppend (tVar i) (tCons te' tNil)) := pe_bm PySem.F.plainAttrs_list PySem.F.slot_list_append PySem.F.type_list_append mt_append (pv_of hX hN hv hd hcd) (pa_cons he pa_nil (m.one _)) (m.base _) (m.few _) m.line (m.one _) (m.pl _)
  rw [hX.K] at z
  exact z
theorem pe_popAt {x : Str} {i : Nat} {px : Pos} {te' : TE} (hN : C.N[i]? = some x) (hv : VisB sc x = true) (m : MtT (.Name x px) "pop" apos e cpos) (hd : (x == ("__debug__" : Str)) = false) (hcd : (x == ("__classdict__" : Str)) = false) {X : Cx} (hX : XOk C sc X) (he : PE X e te') :
    PE X (.Call (.Attribute (.Name x px) "pop" apos) [e] [] cpos) (tBM C.K "list" rPopAt (tVar i) (tCons te' tNil)) := by
  have z : PE X (.Call (.Attribute (.Name x px) "pop" apos) [e] [] cpos) (tBM X.K "list" rPopAt (tVar i) (tCons te' tNil)) := pe_bm PySem.F.plainAttrs_list PySem.F.slot_list_pop PySem.F.type_list_pop mt_popAt (pv_of hX hN hv hd hcd) (pa_cons he pa_nil (m.one _)) (m.base _) (m.few _) m.line (m.one _) (m.pl _)
  rw [hX.K] at z
  exact z
theorem ss_append {x : Str} {i : Nat} {px : Pos} (hN : C.N[i]? = some x) (hv : VisB sc x = true) (h : SE C sc e f) (m : MtT (.Name x px) "append" apos e cpos) (hd : (x == ("__debug__" : Str)) = false := by decide) (hcd : (x == ("__classdict__" : Str)) = false := by decide)
    (hs : ∀ env, swapsWith (.Call (.Attribute (.Name x px) "append" apos) [e] [] cpos) none pos.line env = pure false := by intro _; rfl) :
    SS C sc (.Expr (.Call (.Attribute (.Name x px) "append" apos) [e] [] cpos) pos) (appS i f) :=
  SS.of (fun X hX => ps_expr (pe_append hN hv m hd hcd hX (pe_te hX)) (hs _)) fun q B0 H0 B H σ env st fl env' st' Dd g hf k => by
    obtain ⟨d, s1, h1, h2⟩ := M.bd_some hf
    obtain ⟨env1, s2, h3, h4⟩ := M.bd_some h2
    obtain ⟨h3', rfl⟩ := M.lf_some h3
    obtain ⟨hr, rfl⟩ := M.ret_some h4
    cases hr
    obtain ⟨xs, he, hl, _⟩ := appV_inv h3'
    obtain ⟨a, vs, hs, hH, r⟩ := g.lstAt he
    refine ⟨_, hs, .inl ⟨rfl, _, .inl (.inl hH)⟩, ?_⟩
    refine h q B0 H0 B H σ env st d _ _ g h1 fun v B' H' e1 d1 r1 => ?_
    obtain ⟨hH', r'⟩ := g.at1 he hs hH r e1
    obtain ⟨z1, z2⟩ := app_done (g.step e1 d1) h3' hs hH' r1
    exact ⟨a, vs, v, rfl, rfl, hH', z1, k σ B' _ e1.b z2⟩
/-- x = l.pop(e) -/
def popV (env : List Var) (i : Nat) (d : D) : Option (D × List Var) := match env[i]?, d with
  | some (.o (.lst xs)), .int k => if 0 ≤ k ∧ k ≤ 1000000 then (xs[k.toNat]?).map fun y => (y, env.set i (.o (.lst (xs.eraseIdx k.toNat)))) else none
  | _, _ => none
theorem popV_inv {i : Nat} {d y : D} {env env' : List Var} (h : popV env i d = some (y, env')) : ∃ xs k, env[i]? = some (.o (.lst xs)) ∧ d = .int k ∧ (0 ≤ k ∧ k ≤ 1000000) ∧ xs[k.toNat]? = some y ∧ env' = env.set i (.o (.lst (xs.eraseIdx k.toNat))) := by
  unfold popV at h
  split at h
  · rename_i xs k e
    split at h
    · rename_i hk
      obtain ⟨z, h1, h2⟩ := Option.map_eq_some_iff.mp h
      cases h2
      exact ⟨xs, k, e, rfl, hk, h1, rfl⟩
    · cases h
  · cases h
def popS (j i : Nat) (f : ESem) : SSem := fun env => M.bd (f env) fun d => M.bd (M.lf (popV env i d)) fun r => M.ret (.nx, r.2.set j (.p r.1))
/-- the step of a pop, for any continuation -/
theorem pop_run {i : Nat} {q : QA} {B0 H0 B H : Hp} {σ : St} {env env1 : List Var} {st s1 : DS} {d y : D} {Q : VK} (h : SE C sc e f) (g : GS C.T q B0 H0 B H σ env st) (h1 : f env st = some (d, s1)) (h2 : popV env i d = some (y, env1))
    (k : ∀ v B' H', Same B B' → GS C.T q B0 H0 B' H' σ env1 s1 → Rep C.T q B' y v → Q v H') : tBM C.K "list" rPopAt (tVar i) (tCons (te C sc e) tNil) σ H Q := by
  obtain ⟨xs, n, he, rfl, hn, hy, rfl⟩ := popV_inv h2
  obtain ⟨a, vs, hs, hH, r⟩ := g.lstAt he
  refine ⟨_, hs, .inl ⟨rfl, _, .inl (.inl hH)⟩, ?_⟩
  refine h q B0 H0 B H σ env st _ _ _ g h1 fun v B' H' e1 d1 r1 => ?_
  obtain ⟨hH', r'⟩ := g.at1 he hs hH r e1
  obtain ⟨w, hw, rw'⟩ := r'.get hy
  rw [rep_int r1]
  have hlt : n.toNat < vs.length := (List.getElem?_eq_some_iff.mp hw).1
  have gz := g.step e1 d1
  refine ⟨a, vs, n, n.toNat, w, rfl, rfl, hH', by omega, by omega, seqIndex_of hn.1 (by omega), hw, k w B' _ e1.b (gz.write he hs (.lst upd_same (r'.eraseIdx _))) rw'⟩
theorem ss_pop {x l : Str} {i j : Nat} {px pl : Pos} (hNj : C.N[j]? = some x) (hl : LocB sc x = true) (hN : C.N[i]? = some l) (hv : VisB sc l = true) (h : SE C sc e f) (m : MtT (.Name l pl) "pop" apos e cpos) (hd : (l == ("__debug__" : Str)) = false := by decide) (hcd : (l == ("__classdict__" : Str)) = false := by decide)
    (hs : ∀ env, swapsWith (.Call (.Attribute (.Name l pl) "pop" apos) [e] [] cpos) (some (.Name x px)) pos.line env = pure false := by intro _; rfl) :
    SS C sc (.Assign [.Name x px] (.Call (.Attribute (.Name l pl) "pop" apos) [e] [] cpos) pos) (popS j i f) :=
  SS.of (fun X hX => ps_set hX.nd (by rw [hX.N]; exact hNj) (hX.loc hl).1 (pe_popAt hN hv m hd hcd hX (pe_te hX)) (hs _) (hX.loc hl).2) fun q B0 H0 B H σ env st fl env' st' Dd g hf k => by
    obtain ⟨d, s1, h1, h2⟩ := M.bd_some hf
    obtain ⟨⟨y, env1⟩, s2, h3, h4⟩ := M.bd_some h2
    obtain ⟨h3', rfl⟩ := M.lf_some h3
    obtain ⟨hr, rfl⟩ := M.ret_some h4
    cases hr
    exact pop_run h g h1 h3' fun v B' H' s1 g1 r1 => k _ B' H' s1 (g1.setP j r1)
/-- y.append(l.pop(e)) -/
def appPopS (j i : Nat) (f : ESem) : SSem := fun env => M.bd (f env) fun d => M.bd (M.lf (popV env i d)) fun r => M.bd (M.lf (appV r.2 j r.1)) fun env' => M.ret (.nx, env')
theorem ss_appPop {x l : Str} {i j : Nat} {px pl : Pos} {apos2 cpos2 : Pos} (hNj : C.N[j]? = some x) (hvj : VisB sc x = true) (hN : C.N[i]? = some l) (hv : VisB sc l = true) (hij : i ≠ j) (h : SE C sc e f) (m : MtT (.Name l pl) "pop" apos e cpos) (m2 : MtT (.Name x px) "append" apos2 (.Call (.Attribute (.Name l pl) "pop" apos) [e] [] cpos) cpos2)
    (hd : (l == ("__debug__" : Str)) = false := by decide) (hcd : (l == ("__classdict__" : Str)) = false := by decide) (hdj : (x == ("__debug__" : Str)) = false := by decide) (hcdj : (x == ("__classdict__" : Str)) = false := by decide)
    (hs : ∀ env, swapsWith (.Call (.Attribute (.Name x px) "append" apos2) [.Call (.Attribute (.Name l pl) "pop" apos) [e] [] cpos] [] cpos2) none pos.line env = pure false := by intro _; rfl) :
    SS C sc (.Expr (.Call (.Attribute (.Name x px) "append" apos2) [.Call (.Attribute (.Name l pl) "pop" apos) [e] [] cpos] [] cpos2) pos) (appPopS j i f) :=
  SS.of (fun X hX => ps_expr (pe_append hNj hvj m2 hdj hcdj hX (pe_popAt hN hv m hd hcd hX (pe_te hX))) (hs _)) fun q B0 H0 B H σ env st fl env' st' Dd g hf k => by
    obtain ⟨d, s1, h1, h2⟩ := M.bd_some hf
    obtain ⟨⟨y, env1⟩, s2, h3, h4⟩ := M.bd_some h2
    obtain ⟨h3', rfl⟩ := M.lf_some h3
    obtain ⟨env2, s3, h5, h6⟩ := M.bd_some h4
    obtain ⟨h5', rfl⟩ := M.lf_some h5
    obtain ⟨hr, rfl⟩ := M.ret_some h6
    cases hr
    obtain ⟨xs, hj, _, _⟩ := appV_inv h5'
    have hj0 : env[j]? = some (.o (.lst xs)) := by
      obtain ⟨zs, n, w1, _, _, _, w2⟩ := popV_inv h3'
      rw [w2, List.getElem?_set_ne hij] at hj
      exact hj
    obtain ⟨a, vs, hs, hH, r⟩ := g.lstAt hj0
    refine ⟨_, hs, .inl ⟨rfl, _, .inl (.inl hH)⟩, ?_⟩
    refine pop_run h g h1 h3' fun v B' H' s1 g1 r1 => ?_
    obtain ⟨a', vs', hs', hH', r'⟩ := g1.lstAt hj
    rw [hs] at hs'
    have w := Option.some.inj (Option.some.inj hs')
    injection w with w
    subst w
    obtain ⟨z1, z2⟩ := app_done g1 h5' hs hH' r1
    exact ⟨a, vs', v, rfl, rfl, hH', z1, k σ B' _ s1 z2⟩
end
end Y
end

section
set_option Elab.async false
set_option linter.all false
set_option maxRecDepth 100000
set_option autoImplicit false
namespace Y
open PySem PySem.Spec L2
open PyProof.Rows hiding St

/-- d[k] = v on plain data -/
def dput (t : Bool) (kvs : List (D × D)) (k v : D) : Option (List (D × D)) := match keyOf t k with
  | none => none
  | some κ => some (if kvs.any (fun p => decide (keyOf t p.1 = some κ)) = true then kvs.map (fun p => if keyOf t p.1 = some κ then (p.1, v) else p) else kvs ++ [(k, v)])
section
variable {T : PySem.W.Frag} {q : QA} {B H : Hp}
theorem keyOf_keyD (k : Key) : keyOf false (keyD k) = some (.k k) := by show (keyAt (keyD k)).map Ky.k = _; rw [keyAt_keyD]; rfl
theorem keyOf_map (k : List Key) : keyOf true (.tup (k.map keyD)) = some (.t k) := by show (keysAt (k.map keyD)).map Ky.t = _; rw [keysAt_map]; rfl
theorem keyAt_inv {d : D} {k : Key} (h : keyAt d = some k) : d = keyD k := by
  cases d <;> first | (cases h; rfl) | cases h
theorem keysAt_inv : ∀ {ds : List D} {ks : List Key}, keysAt ds = some ks → ds = ks.map keyD
  | [], _, h => by cases h; rfl
  | d :: ds, _, h => by
    unfold keysAt at h
    split at h
    · rename_i k r e1 e2
      cases h
      rw [List.map_cons, ← keysAt_inv e2, ← keyAt_inv e1]
    · cases h
theorem RepK.any {κ : Key} : ∀ {ks : List (D × D)} {vs : List (Key × V)}, RepK T q B ks vs → (ks.any fun p => decide (keyOf false p.1 = some (.k κ))) = vs.any fun p => decide (p.1 = κ)
  | _, _, .nil => rfl
  | _, _, .cons (k := k) h r => by
    rw [List.any_cons, List.any_cons, RepK.any r, keyOf_keyD]
    congr 1
    by_cases e : k = κ
    · subst e; simp
    · simp [e]
theorem RepT.any {κ : List Key} : ∀ {ks : List (D × D)} {vs : List (List Key × V)}, RepT T q B ks vs → (ks.any fun p => decide (keyOf true p.1 = some (.t κ))) = vs.any fun p => decide (p.1 = κ)
  | _, _, .nil => rfl
  | _, _, .cons (k := k) h r => by
    rw [List.any_cons, List.any_cons, RepT.any r, keyOf_map]
    congr 1
    by_cases e : k = κ
    · subst e; simp
    · simp [e]
theorem RepK.append : ∀ {ks ks' : List (D × D)} {vs vs' : List (Key × V)}, RepK T q B ks vs → RepK T q B ks' vs' → RepK T q B (ks ++ ks') (vs ++ vs')
  | _, _, _, _, .nil, h => h
  | _, _, _, _, .cons h r, h' => .cons h (RepK.append r h')
theorem RepT.append : ∀ {ks ks' : List (D × D)} {vs vs' : List (List Key × V)}, RepT T q B ks vs → RepT T q B ks' vs' → RepT T q B (ks ++ ks') (vs ++ vs')
  | _, _, _, _, .nil, h => h
  | _, _, _, _, .cons h r, h' => .cons h (RepT.append r h')
theorem RepK.mapSet {κ : Key} {d : D} {v : V} (hv : Rep T q B d v) : ∀ {ks : List (D × D)} {vs : List (Key × V)}, RepK T q B ks vs → RepK T q B (ks.map fun p => if keyOf false p.1 = some (.k κ) then (p.1, d) else p) (vs.map fun p => if p.1 = κ then (p.1, v) else p)
  | _, _, .nil => .nil
  | _, _, .cons (k := k) h r => by
    rw [List.map_cons, List.map_cons]
    by_cases e : k = κ
    · subst e
      rw [if_pos (keyOf_keyD k), if_pos rfl]
      exact .cons hv (RepK.mapSet hv r)
    · rw [if_neg (by rw [keyOf_keyD]; intro z; cases z; exact e rfl), if_neg e]
      exact .cons h (RepK.mapSet hv r)
theorem RepT.mapSet {κ : List Key} {d : D} {v : V} (hv : Rep T q B d v) : ∀ {ks : List (D × D)} {vs : List (List Key × V)}, RepT T q B ks vs → RepT T q B (ks.map fun p => if keyOf true p.1 = some (.t κ) then (p.1, d) else p) (vs.map fun p => if p.1 = κ then (p.1, v) else p)
  | _, _, .nil => .nil
  | _, _, .cons (k := k) h r => by
    rw [List.map_cons, List.map_cons]
    by_cases e : k = κ
    · subst e
      rw [if_pos (keyOf_map k), if_pos rfl]
      exact .cons hv (RepT.mapSet hv r)
    · rw [if_neg (by rw [keyOf_map]; intro z; cases z; exact e rfl), if_neg e]
      exact .cons h (RepT.mapSet hv r)
theorem dput_len {t : Bool} {kvs kvs' : List (D × D)} {k v : D} (h : dput t kvs k v = some kvs') : kvs'.length ≤ kvs.length + 1 := by
  unfold dput at h
  split at h
  · cases h
  · cases h
    split
    · rw [List.length_map]; omega
    · rw [List.length_append, List.length_singleton]; omega
/-- what the machine does at a[k] = v, a with the object of an owned dict -/
theorem dput_run {t : Bool} {kvs kvs' : List (D × D)} {k v : D} {a : Addr} {y u : V} (hT : KindOk T t) (s : Same B H) (hx : Own T q B H a (.dic t kvs)) (hy : Rep T q B k y) (hv : Rep T q B v u) (hl : kvs.length < sizeLine) (h : dput t kvs k v = some kvs') :
    ∃ o, DPut H a y u (L2.upd H a o) ∧ Own T q B (L2.upd H a o) a (.dic t kvs') := by
  unfold dput at h
  cases hx with
  | dicK hH r =>
    rename_i vs
    split at h
    · cases h
    · rename_i κ e
      cases h
      obtain ⟨κ', e', rfl⟩ := Option.map_eq_some_iff.mp (show (keyAt k).map Ky.k = some κ from e)
      have ey := rep_key hy e'
      subst ey
      have ek := keyAt_inv e'
      subst ek
      refine ⟨.dK (putK vs κ' u), .inl ⟨vs, κ', hH, rfl, by rw [← r.length]; exact hl, rfl⟩, .dicK upd_same ?_⟩
      unfold putK
      rw [r.any]
      split
      · exact r.mapSet hv
      · exact r.append (.cons hv .nil)
  | dicT hH r =>
    rename_i vs
    have hT := hT rfl
    subst hT
    split at h
    · cases h
    · rename_i κ e
      cases h
      cases k with
      | tup ds =>
        obtain ⟨κ', e', rfl⟩ := Option.map_eq_some_iff.mp (show (keysAt ds).map Ky.t = some κ from e)
        cases hy with
        | tup w1 w2 =>
          have e2 := rep_keys w2 e'
          subst e2
          have ek := keysAt_inv e'
          subst ek
          refine ⟨.dT (putK vs κ' u), .inr ⟨vs, κ', _, hH, rfl, s _ _ w1.in, by rw [← r.length]; exact hl, rfl⟩, .dicT upd_same ?_⟩
          unfold putK
          rw [r.any]
          split
          · exact r.mapSet hv
          · exact r.append (.cons hv .nil)
      | _ => cases e
end
theorem GS.ownAt {T : PySem.W.Frag} {q : QA} {B0 H0 B H B' H' : Hp} {σ : St} {env : List Var} {st : DS} {i : Nat} {d : D} (g : GS T q B0 H0 B H σ env st) (he : env[i]? = some (.o d)) : ∃ a, σ[i]? = some (some (.ref a)) ∧ Own T q B H a d := by
  obtain ⟨a, h1, _, _, _, h5⟩ := g.vars i _ he
  exact ⟨a, h1, h5⟩
theorem GS.own2 {T : PySem.W.Frag} {q : QA} {B0 H0 B H : Hp} {σ : St} {env : List Var} {st : DS} {i : Nat} {d : D} {a : Addr} (g : GS T q B0 H0 B H σ env st) (he : env[i]? = some (.o d)) (hs : σ[i]? = some (some (.ref a))) : Own T q B H a d := by
  obtain ⟨a', h1, _, _, _, h5⟩ := g.vars i _ he
  rw [hs] at h1
  have w := Option.some.inj (Option.some.inj h1)
  injection w with w
  subst w
  exact h5
section
variable {C : SC} {sc : Scope} {e a b c : Expr} {f fa fb fc : ESem} {pos p apos cpos : Pos}
/-- d[k] = v, d a dict of its own -/
def putV (t : Bool) (env : List Var) (i : Nat) (k v : D) : Option (List Var) := match env[i]? with
  | some (.o (.dic t' kvs)) => if t' = t ∧ kvs.length ≤ 1000000 then (dput t kvs k v).map fun kvs' => env.set i (.o (.dic t kvs')) else none
  | _ => none
theorem putV_inv {t : Bool} {i : Nat} {k v : D} {env env' : List Var} (h : putV t env i k v = some env') : ∃ kvs kvs', env[i]? = some (.o (.dic t kvs)) ∧ kvs.length ≤ 1000000 ∧ dput t kvs k v = some kvs' ∧ env' = env.set i (.o (.dic t kvs')) := by
  unfold putV at h
  split at h
  · rename_i t' kvs e
    split at h
    · rename_i hc
      obtain ⟨rfl, hl⟩ := hc
      obtain ⟨kvs', h1, rfl⟩ := Option.map_eq_some_iff.mp h
      exact ⟨kvs, kvs', e, hl, h1, rfl⟩
    · cases h
  · cases h
def dputS (t : Bool) (i : Nat) (fk fv : ESem) : SSem := fun env => M.bd (fv env) fun v => M.bd (fk env) fun k => M.bd (M.lf (putV t env i k v)) fun env' => M.ret (.nx, env')
theorem ss_dput {t : Bool} {x : Str} {i : Nat} {px : Pos} (hT : KindOk C.T t) (hN : C.N[i]? = some x) (hv : VisB sc x = true) (hk : SE C sc a fa) (he : SE C sc e f) (hd : (x == ("__debug__" : Str)) = false := by decide) (hcd : (x == ("__classdict__" : Str)) = false := by decide)
    (hs : ∀ env, swapsWith e (some (.Subscript (.Name x px) a p)) pos.line env = pure false := by intro _; rfl) : SS C sc (.Assign [.Subscript (.Name x px) a p] e pos) (dputS t i fa f) :=
  SS.of (fun X hX => ps_dput hX.hu (pv_of hX hN hv hd hcd) (pe_te hX) (pe_te hX) (hs _)) fun q B0 H0 B H σ env st fl env' st' Dd g hf k => by
    obtain ⟨v, s1, h1, h2⟩ := M.bd_some hf
    obtain ⟨kd, s2, h3, h4⟩ := M.bd_some h2
    obtain ⟨env1, s3, h5, h6⟩ := M.bd_some h4
    obtain ⟨h5', rfl⟩ := M.lf_some h5
    obtain ⟨hr, rfl⟩ := M.ret_some h6
    cases hr
    obtain ⟨kvs, kvs', hj, hl, hp, rfl⟩ := putV_inv h5'
    refine he q B0 H0 B H σ env st v s1 _ g h1 fun u B1 H1 e1 d1 r1 => ?_
    have g1 := g.step e1 d1
    obtain ⟨a0, hs0, _⟩ := g1.ownAt (B' := B1) (H' := H1) hj
    refine ⟨_, hs0, ?_⟩
    refine hk q B0 H0 B1 H1 σ env s1 kd _ _ g1 h3 fun y B2 H2 e2 d2 r2 => ?_
    have g2 := g1.step e2 d2
    obtain ⟨o, w1, w2⟩ := dput_run hT g2.sub (g2.own2 hj hs0) r2 (r1.mono e2.b) (by rw [sizeLine_eq]; omega) hp
    exact ⟨a0, _, rfl, w1, k σ B2 _ (e1.b.trans e2.b) (g2.write hj hs0 w2)⟩
/-- l[i] = v, l a list of its own -/
def lsetV (env : List Var) (i : Nat) (k v : D) : Option (List Var) := match env[i]?, k with
  | some (.o (.lst xs)), .int n => if 0 ≤ n ∧ n.toNat < xs.length then some (env.set i (.o (.lst (xs.set n.toNat v)))) else none
  | _, _ => none
theorem lsetV_inv {i : Nat} {k v : D} {env env' : List Var} (h : lsetV env i k v = some env') : ∃ xs n, env[i]? = some (.o (.lst xs)) ∧ k = .int n ∧ 0 ≤ n ∧ n.toNat < xs.length ∧ env' = env.set i (.o (.lst (xs.set n.toNat v))) := by
  unfold lsetV at h
  split at h
  · rename_i xs n e
    split at h
    · rename_i hc
      cases h
      exact ⟨xs, n, e, rfl, hc.1, hc.2, rfl⟩
    · cases h
  · cases h
def lsetS (i : Nat) (fk fv : ESem) : SSem := fun env => M.bd (fv env) fun v => M.bd (fk env) fun k => M.bd (M.lf (lsetV env i k v)) fun env' => M.ret (.nx, env')
theorem ss_lset {x : Str} {i : Nat} {px : Pos} (hN : C.N[i]? = some x) (hv : VisB sc x = true) (hk : SE C sc a fa) (he : SE C sc e f) (hd : (x == ("__debug__" : Str)) = false := by decide) (hcd : (x == ("__classdict__" : Str)) = false := by decide)
    (ha : ∀ env v, assign (.Subscript (.Name x px) a p) env v = (do
      let ov ← holding [v] (eval (.Name x px) env)
      let iv ← holding [v, ov] (eval a env)
      standAt p
      holding [v, ov, iv] (setItem ov iv v)
      release [v, ov, iv] []) := by intro _ _; rfl)
    (hs : ∀ env, swapsWithSole [.Subscript (.Name x px) a p] e pos.line env = pure false := by intro _; rfl) (hw : ∀ env, swappedStores [.Subscript (.Name x px) a p] e env = pure none := by intro _; rfl) (h1 : ∀ env, (assignEach [.Subscript (.Name x px) a p] env).map (·.2) = [assign (.Subscript (.Name x px) a p) env] := by intro _; rfl) :
    SS C sc (.Assign [.Subscript (.Name x px) a p] e pos) (lsetS i fa f) :=
  SS.of (fun X hX => ps_asg (pe_te hX) (pg_sub (pv_of hX hN hv hd hcd) (pe_te hX) set_list (ha _)) (hs _) (hw _) (h1 _)) fun q B0 H0 B H σ env st fl env' st' Dd g hf k => by
    obtain ⟨v, s1, h1, h2⟩ := M.bd_some hf
    obtain ⟨kd, s2, h3, h4⟩ := M.bd_some h2
    obtain ⟨env1, s3, h5, h6⟩ := M.bd_some h4
    obtain ⟨h5', rfl⟩ := M.lf_some h5
    obtain ⟨hr, rfl⟩ := M.ret_some h6
    cases hr
    obtain ⟨xs, n, hj, rfl, hn, hl, rfl⟩ := lsetV_inv h5'
    refine he q B0 H0 B H σ env st v s1 _ g h1 fun u B1 H1 e1 d1 r1 => ?_
    have g1 := g.step e1 d1
    obtain ⟨a0, vs, hs0, hH, r⟩ := g1.lstAt hj
    refine ⟨_, hs0, ?_⟩
    refine hk q B0 H0 B1 H1 σ env s1 _ _ _ g1 h3 fun y B2 H2 e2 d2 r2 => ?_
    have g2 := g1.step e2 d2
    obtain ⟨hH2, r'⟩ := g1.at1 hj hs0 hH r e2
    rw [rep_int r2]
    refine ⟨a0, vs, n, n.toNat, rfl, rfl, hH2, ?_, k σ B2 _ (e1.b.trans e2.b) (g2.write hj hs0 (.lst upd_same (r'.set _ (r1.mono e2.b))))⟩
    unfold ixN
    rw [if_pos hn, if_pos (by have := r'.length; omega)]
/-- d.get(k, x) -/
structure MtT2 (o : Expr) (name : Str) (apos : Pos) (e f : Expr) (cpos : Pos) : Prop where
  base : ∀ env, attributeBase o name env (eval o env) = eval o env
  few : ∀ env, ((backTo cpos (starEach [e, f] env)).all (fun x => !x.1) && (backToKw cpos (keywordEach [] env)).all (fun x => x.1.isSome)
    && decide (([e, f] : List Expr).length + ([] : List Keyword).length + (if ([] : List Keyword).isEmpty then 0 else 1) < 30)) = true
  line : (apos.endLine == cpos.line) = true
  trees : ∀ env, backTo cpos (starEach [e, f] env) = [(false, eval e env), (false, eval f env)]
theorem dgetDE_inv {t : Bool} {fd fk fx : ESem} {env : List Var} {st st' : DS} {d : D} (h : dgetDE t fd fk fx env st = some (d, st')) : ∃ kvs s1 kd s2 x o, fd env st = some (.dic t kvs, s1) ∧ fk env s1 = some (kd, s2) ∧ fx env s2 = some (x, st') ∧ dget t kvs kd = some o ∧ d = o.getD x := by
  obtain ⟨d0, s1, h1, h2⟩ := M.bd_some h
  obtain ⟨kd, s2, h3, h4⟩ := M.bd_some h2
  obtain ⟨x, s3, h5, h6⟩ := M.bd_some h4
  cases d0 with
  | dic t' kvs =>
    by_cases e : t' = t
    · subst e
      simp only [if_true] at h6
      obtain ⟨o, s4, h7, h8⟩ := M.bd_some h6
      obtain ⟨h7', rfl⟩ := M.lf_some h7
      obtain ⟨rfl, rfl⟩ := M.ret_some h8
      exact ⟨kvs, s1, kd, s2, x, o, h1, h3, h5, h7', rfl⟩
    · simp only [if_neg e] at h6
      cases h6
  | _ => cases h6
theorem Pk.isD {T : PySem.W.Frag} {q : QA} {B H : Hp} {t : Bool} {kvs : List (D × D)} {v : V} (s : Same B H) (h : Pk T q B H (.dic t kvs) v) : ∃ a, v = .ref a ∧ IsD H a := by
  cases t with
  | false => obtain ⟨a, vs, rfl, h1, _⟩ := h.dicK s; exact ⟨a, rfl, .inl ⟨vs, h1⟩⟩
  | true => obtain ⟨a, vs, rfl, h1, _⟩ := h.dicT s; exact ⟨a, rfl, .inr ⟨vs, h1⟩⟩
theorem se_dget2 {t : Bool} (hT : KindOk C.T t) (ha : SP C sc a fa) (hb : SE C sc b fb) (hc : SE C sc c fc) (m : MtT2 a "get" apos b c cpos) : SE C sc (.Call (.Attribute a "get" apos) [b, c] [] cpos) (dgetDE t fa fb fc) :=
  SE.of (fun X hX => pe_dget2 hX.hu (pe_te hX) (pe_te hX) (pe_te hX) ⟨m.base _, m.few _, m.line, m.trees _⟩) fun q B0 H0 B H σ env st d st' Q g hf k => by
    obtain ⟨kvs, s1, kd, s2, x, o, h1, h2, h3, h4, rfl⟩ := dgetDE_inv hf
    refine ha q B0 H0 B H σ env st _ s1 _ g h1 fun v B1 H1 e1 d1 r1 => ?_
    obtain ⟨a0, rfl, hd⟩ := r1.isD e1.s
    refine ⟨a0, rfl, hd, ?_⟩
    have g1 := g.step e1 d1
    refine hb q B0 H0 B1 H1 σ env s1 kd s2 _ g1 h2 fun y B2 H2 e2 d2 r2 => ?_
    have g2 := g1.step e2 d2
    refine hc q B0 H0 B2 H2 σ env s2 x st' _ g2 h3 fun z B3 H3 e3 d3 r3 => ?_
    have e13 := (e1.trans g.dr e2 ⟨_, d1⟩).trans g.dr e3 ⟨_, d2⟩
    obtain ⟨a1, r, ea, w1, w2, w3⟩ := dget_run hT e3.s ((r1.step e2).step e3) (.inl (r2.mono e3.b)) h4
    cases ea
    refine ⟨r, w1, ?_⟩
    cases o with
    | none =>
      cases r with
      | none => exact k z B3 H3 e13 d3 r3
      | some _ => cases w2
    | some d =>
      obtain ⟨v', rfl, rv⟩ := w3 d rfl
      exact k v' B3 H3 e13 d3 rv
end
end Y
end

section
set_option Elab.async false
set_option linter.all false
set_option maxRecDepth 100000
set_option autoImplicit false
namespace Y
open PySem PySem.Spec L2
open PyProof.Rows hiding St

/-- a key goes into a dict of either kind, by a display or a comprehension -/
theorem dictSetP {X : Cx} {pins : List (Addr × Obj)} {σ : St} {H H' : Hp} {s : Shared} {E : Value → Shared → Prop} {A : Around} {dA : Addr} {y z : V} {u r : Value} {Qd : Unit → Shared → Prop} (hu : A.units < cLine) (I : Inv X pins σ H s) (g : DPut H dA y z H')
    (ry : RelV y u) (rz : RelV z r) (h : ∀ s', Inv X pins σ H' s' → Qd () s') : wpAny (model X.prog X.w) A (dictSet dA u r) Qd E s := by
  rcases g with ⟨kvs, κ, e, rfl, l, rfl⟩ | ⟨kvs, κ, b, e, rfl, eb, l, rfl⟩
  · obtain ⟨zl, hd, ws, rel, dd⟩ := dk_of I.hok e
    have lz : (putK kvs κ z).length ≤ sizeLine := Nat.le_trans (length_putK kvs κ z) l
    refine wpAny_dictSet_pairs (hsz := rel.length ▸ zl) (kV_is ry) dd fun h' dn hs => h _ ?_
    exact d_write I (by rw [e]; trivial) hs (Exists.elim dn fun q w => w.elim fun _ w => w.elim fun _ w => ⟨q, w.1⟩) (dk_new lz hd (rel.put κ rz) dn)
  · cases (show u = Value.ref b from ry)
    obtain ⟨zl, hd, ws, rel, dd⟩ := dt_of I.hok e
    have lz : (putK kvs κ z).length ≤ sizeLine := Nat.le_trans (length_putK kvs κ z) l
    refine wpAny_dictSet_heap (hsz := Paired.length rel ▸ zl) hu (key_of I.hok eb) dd fun h' dn hs => h _ ?_
    obtain ⟨ob, es, ep, w1, w2, w3, w4, _, w5⟩ := dn
    refine d_write I (by rw [e]; trivial) hs ⟨ob, w1⟩ ⟨lz, hd, _, (rel.put κ eb rz).keeps fun c ys ec => ?_, ob, es, ep, w1, w2, w3, w4, w5⟩
    rw [upd_ne (ne_of ec e (fun z => nomatch z))]
    exact ec
def hoE : Bool → HO
  | false => .dK []
  | true => .dT []
theorem hoE_ok {P : Program} {w : World} {H : Hp} (t : Bool) (h : Heap) (hb : sysModules < h.objs.size) : ObjOk P w H (h.push { cls := .type "dict", data := .dict #[] }) h.objs.size (hoE t) := by
  cases t
  · exact dk_empty h hb
  · exact dt_empty h hb
theorem own_hoE {T : PySem.W.Frag} {q : QA} {B H : Hp} {a : Addr} (t : Bool) (h : H a = some (hoE t)) : Own T q B H a (.dic t []) := by
  cases t
  · exact .dicK h .nil
  · exact .dicT h .nil
/-- {k: v} -/
def tDisp1 (t : Bool) (tk tv : TE) : TE := fun σ H Q => ∀ p, H p = none → tk σ (L2.upd H p (hoE t)) fun y H1 => tv σ H1 fun z H2 => ∃ H3, DPut H2 p y z H3 ∧ Q (.ref p) H3
theorem pe_disp1 {X : Cx} {pos : Pos} {k v : Expr} {tk tv : TE} (t : Bool) (hu : X.A.units < cLine) (hk : PE X k tk) (hv : PE X v tv) : PE X (.Dict [some k] [v] pos) (tDisp1 t tk tv) := by
  refine ⟨fun pins s σ H Q I h => ?_⟩
  have hn : H s.heap.objs.size = none := I.hok.fresh (Nat.le_refl _)
  have I1 := I.laid (a := s.heap.objs.size) (o := hoE t) (h' := s.heap.push { cls := .type "dict", data := .dict #[] }) (t' := s.toks) (fun _ _ q => Heap.get?_push_of_some _ q) (Nat.le_refl _) (hoE_ok t s.heap I.big)
  refine wpAny_Dict_any rfl rfl (by simp) (by simp) ?_
  refine pairTrees_cons_walk (thn (hk.run pins _ σ _ _ I1 (h _ hn)) fun u s1 ⟨y, H1, I2, ry, q1⟩ => thn (hv.run pins s1 σ H1 _ I2 q1) fun r s2 ⟨z, H2, I3, rz, H3, dp, q2⟩ => pairTrees_nil_walk ?_)
  unfold storeAll
  rw [List.forIn_cons]
  refine wpAny_bind (wpAny_bind (dictSetP hu I3 dp ry rz fun s3 I4 => wpAny_pure ?_))
  dsimp only
  rw [List.forIn_nil]
  exact wpAny_pure ⟨.ref s.heap.objs.size, H3, I4, rfl, q2⟩
def disp1E (t : Bool) (fk fv : ESem) : ESem := fun env => M.bd (fk env) fun k => M.bd (fv env) fun v => M.bd (M.lf (dput t [] k v)) fun kvs => M.ret (.dic t kvs)
/-! ### comprehensions of dicts, keys of either kind -/
section
variable {X : Cx}
def tDcP (t : Bool) (wi : TI) (g : TG) (tt : TT) (tk tv : TE) (vs : List Nat) : TE := fun σ H Q => wi σ H fun J H1 => ∀ dA, H1 dA = none →
  ∃ W : Nat → Nat → Hp → Prop, (∃ m, W 0 m (L2.upd H1 dA (hoE t))) ∧ ∀ i m H, W i m H → (J.stop i H ∧ Q (.ref dA) H) ∨
    (J.go i H ∧ ∃ Nx : Hp → Prop, (∀ H', Nx H' → ∃ m', m' < m ∧ W (i + 1) m' H') ∧ ∀ x H', J.yld i H x H' → g x (L2.wipe σ vs) H' fun σ2 H2 => L2.wipe σ2 vs = L2.wipe σ vs ∧
      tt σ2 H2 fun b H3 => if b = true then tk σ2 H3 fun y H4 => tv σ2 H4 fun z H5 => ∃ H6, DPut H5 dA y z H6 ∧ Nx H6 else Nx H3)
theorem pe_dcP {kx vx tg iter : Expr} {ifs : List Expr} {scope : Scope} {own : List (Str × Nat)} {pos : Pos} {wi : TI} {g : TG} {tt : TT} {tk tv : TE} (t : Bool) (hcalm : X.calm = true) (hnod : X.N.Nodup) (hu : X.A.units < cLine)
    (hit : PI X tg iter wi) (ok : BlkOk X.N X.env.scope scope own)
    (htg : ∀ (s : Shared) (H : Hp) (cA : Addr) (cl : List (Str × Addr)) (fp : List Addr), PG (X.blk s H scope (compEnvC scope cl cA X.env) fp) tg g)
    (htt : ∀ (s : Shared) (H : Hp) (cA : Addr) (cl : List (Str × Addr)) (fp : List Addr), PTs (X.blk s H scope (compEnvC scope cl cA X.env) fp) ifs tt)
    (htk : ∀ (s : Shared) (H : Hp) (cA : Addr) (cl : List (Str × Addr)) (fp : List Addr), PE (X.blk s H scope (compEnvC scope cl cA X.env) fp) kx tk)
    (htv : ∀ (s : Shared) (H : Hp) (cA : Addr) (cl : List (Str × Addr)) (fp : List Addr), PE (X.blk s H scope (compEnvC scope cl cA X.env) fp) vx tv)
    (hfs : ∀ x, foldedSetIterable iter X.env x = pure x) : PE X (.DictComp kx vx [⟨tg, iter, ifs, 0⟩] scope pos) (tDcP t wi g tt tk tv (own.map (·.2))) := by
  refine ⟨fun pins s σ H Q I h => ?_⟩
  rw [arm_eval_DictComp]
  refine wpAny_comprehension_free (use := none) rfl hfs (closure_ok fun y hy e => (ok.free y hy e).elim (fun w => I.ok.has _ (.inl w)) fun w => I.ok.has _ (.inr w)) ok.kind
    (fun y hy e => by rw [ok.uniq y hy, e]) (thn (hit.run pins s σ H _ I h) fun xv s1 hx => thn hx fun itv s2 h2 => ?_)
  obtain ⟨it, fp, tn, J, H2, rfl, I2, wk, st2, f2, q⟩ := h2
  refine wpAny_newObj_type (newEnv_comp ?_)
  generalize hdA : s2.heap.objs.size = dA
  have nD : H2 dA = none := I2.hok.fresh (Nat.le_of_eq hdA)
  obtain ⟨W, ⟨m0, w0⟩, turn⟩ := q dA nD
  generalize hs3 : ({ s2 with heap := s2.heap.push { cls := .type "dict", data := .dict #[] } } : Shared) = s3
  have I3 : Inv X pins σ (L2.upd H2 dA (hoE t)) s3 := by
    subst hs3 hdA
    exact I2.laid (t' := s2.toks) (fun b o e => Heap.get?_push_of_some _ e) (Nat.le_refl _) (hoE_ok t s2.heap I2.big)
  have hp3 : s3.heap = s2.heap.push { cls := .type "dict", data := .dict #[] } := hs3 ▸ rfl
  have under : ∀ b ∈ fp, b < s2.heap.objs.size := fun b hb => (wk.obj _ _ st2 b hb).elim fun o e => Heap.lt_size e.1
  have f3 : ∀ b ∈ fp, FpOk X pins (L2.upd H2 dA (hoE t)) b ∧ b < s3.heap.objs.size := fun b hb =>
    ⟨⟨by rw [upd_ne (by rw [← hdA]; exact Nat.ne_of_lt (under b hb))]; exact (f2 b hb).1, (f2 b hb).2⟩, by rw [hp3, Heap.size_push]; exact Nat.lt_succ_of_lt (under b hb)⟩
  have st3 : tn 0 s3.heap := wk.keep _ _ _ st2 fun b _ o e => by rw [hp3]; exact Heap.get?_push_of_some _ e
  have I4 := block_start I3 ok hnod f3
  generalize hcl : cellsFrom (s3.heap.objs.size + 1) scope.names (cloFrom X.env.cells scope.names []) = cl at I4
  have pg := htg s3 (L2.upd H2 dA (hoE t)) s3.heap.objs.size cl fp
  have pt := htt s3 (L2.upd H2 dA (hoE t)) s3.heap.objs.size cl fp
  have pk := htk s3 (L2.upd H2 dA (hoE t)) s3.heap.objs.size cl fp
  have pv := htv s3 (L2.upd H2 dA (hoE t)) s3.heap.objs.size cl fp
  show codeAny _ _ (.compStart (.DictComp kx vx [⟨tg, iter, ifs, 0⟩] scope pos) 0 (.ref it) (.ref dA) (compEnvC scope cl s3.heap.objs.size X.env))
    (compPost (model X.prog X.w) X.A X.xe none _ (.ref dA) s3.heap.objs.size) { s3 with heap := pushCells (s3.heap.push { cls := .type "dict", data := .dict #[] }) scope.names }
  have nfp : ∀ b ∈ fp, (L2.upd H2 dA (hoE t)) b = none := fun b hb => (f3 b hb).1.1
  generalize hce : compEnvC scope cl s3.heap.objs.size X.env = ce at I4 pg pt pk pv ⊢
  have loc : ce.locals = s3.heap.objs.size := hce ▸ rfl
  generalize hH3 : L2.upd H2 dA (hoE t) = H3 at I3 I4 pg pt pk pv w0 nfp f3
  generalize hs4 : ({ s3 with heap := pushCells (s3.heap.push { cls := .type "dict", data := .dict #[] }) scope.names } : Shared) = s4 at I4 ⊢
  have st4 : tn 0 s4.heap := wk.keep _ _ _ st3 fun b _ o e => by rw [← hs4]; exact pushCells_keeps _ _ _ _ (Heap.get?_push_of_some _ e)
  have still : ∀ {σ' : St} {H' : Hp} {s' : Shared}, Inv (X.blk s3 H3 scope ce fp) [] σ' H' s' → (∀ b ∈ fp, H' b = none) → ∀ b ∈ fp, FpOk (X.blk s3 H3 scope ce fp) [] H' b := fun {σ' H' s'} I' hn b hb =>
    ⟨hn b hb, (I'.ok.exf b hb).1, I'.ok.exfs b hb, .inl hb, fun x c e => (I'.ok.exf b hb).2 x c e, fun p hp => by cases (show p ∈ ([] : List (Addr × Obj)) from hp)⟩
  refine codeAny_compStart_dict ?loop (wk.self X.A 0 _ _ _ st4 ?loop)
  refine compLoop_anyD (fun n s' => ∃ i H', Inv (X.blk s3 H3 scope ce fp) [] (L2.wipe σ (own.map (·.2))) H' s' ∧ tn i s'.heap ∧ (∀ b ∈ fp, H' b = none) ∧ W i n H') ?_ m0 ⟨0, H3, I4, st4, nfp, w0⟩
  rintro n s5 ⟨i, H5, I5, st5, n5, w5⟩
  rcases turn i n H5 w5 with ⟨stop, qq⟩ | ⟨go, Nx, hNx, step⟩
  · refine thnF (wk.done (X.blk s3 H3 scope ce fp) rfl rfl rfl hcalm i [] s5 _ H5 (fun _ _ => False) I5 (still I5 n5) st5 stop) fun r s6 ⟨hr, I6⟩ => ?_
    subst hr
    have I7 : Inv X pins σ H5 s6 := I3.call' (ch := fp) I6.os I6.base I6.hok I6.bare fun b hb => ⟨(f3 b hb).1.2.2.2.1, (f3 b hb).1.2.1, (f3 b hb).1.2.2.2.2.1, (f3 b hb).1.2.2.2.2.2⟩
    have nC : H5 s3.heap.objs.size = none := loc ▸ (show H5 ce.locals = none from I6.free)
    obtain ⟨m, hn, _⟩ := I6.loc
    have hn : s6.heap.Ns s3.heap.objs.size m := loc ▸ (show s6.heap.Ns ce.locals m from hn)
    obtain ⟨f0, f1, f2', f3', f4, f5⟩ := I3.fpOk (Nat.le_refl _) nC
    refine ⟨m, hn, fun h'' sb => ?_⟩
    exact ⟨.ref dA, H5, I7.turned (t' := s6.toks) (fun b o hb e => (sb.2 b hb).trans e) f0 f1 f3' f4 f5, rfl, qq⟩
  · refine thnF (wk.item (X.blk s3 H3 scope ce fp) rfl rfl rfl hcalm i [] s5 _ H5 (fun _ _ => False) I5 (still I5 n5) st5 go) fun r s6 ⟨u, hr, h6⟩ => ?_
    subst hr
    refine thnF h6 fun _ s7 ⟨x, H7, I7, r7, y7, st7, n7⟩ => ?_
    refine thnF (pg.run _ s7 _ H7 x u _ (I7.pinned (still I7 n7) (wk.obj _ _ st7)) r7 (step x H7 y7)) fun _ s8 ⟨σ8, H8, I8, hw8, q8⟩ => ?_
    refine thnF (pt.run _ s8 σ8 H8 _ I8 q8) fun b s9 ⟨H9, I9, q9⟩ => ?_
    have fin : ∀ {s' : Shared} {H' : Hp}, Inv (X.blk s3 H3 scope ce fp) ([] ++ pinsAt fp s7.heap) σ8 H' s' → Nx H' →
        ∃ m, m < n ∧ ∃ i H', Inv (X.blk s3 H3 scope ce fp) [] (L2.wipe σ (own.map (·.2))) H' s' ∧ tn i s'.heap ∧ (∀ b ∈ fp, H' b = none) ∧ W i m H' := fun {s' H'} I' nx => by
      obtain ⟨m', hm, w'⟩ := hNx H' nx
      have pin' : ∀ b ∈ fp, ∀ o, s7.heap.get? b = some o → s'.heap.get? b = some o ∧ H' b = none := fun b hb o e => by
        have z := I'.pin (b, o) (List.mem_append_right _ (List.mem_append_right _ (mem_pinsAt hb e)))
        exact ⟨z.1, z.2.1⟩
      refine ⟨m', hm, i + 1, H', (I'.unpinned (pins := [])).weak (by rw [← hw8, wipe_length]) (fun j v e => (wipe_some (hw8 ▸ e)).1), ?_, fun b hb => ?_, w'⟩
      · exact wk.keep _ _ _ st7 fun b hb o e => (pin' b hb o e).1
      · exact (wk.obj _ _ st7 b hb).elim fun o e => (pin' b hb o e.1).2
    cases b with
    | false =>
      rw [if_neg (by decide)] at q9 ⊢
      exact fin I9 q9
    | true =>
      rw [if_pos rfl] at q9 ⊢
      refine thnF (pk.run _ s9 σ8 H9 _ I9 q9) fun _ s10 ⟨yk, H10, I10, r10, q10⟩ => thnF (pv.run _ s10 σ8 H10 _ I10 q10) fun _ s11 ⟨yv, H11, I11, r11, H12, dp, nx⟩ => ?_
      exact dictSetP (X := X.blk s3 H3 scope ce fp) hu I11 dp r10 r11 fun s12 I12 => fin I12 nx
end
section
variable {C : SC} {sc : Scope} {a b : Expr} {fa fb : ESem} {pos : Pos}
theorem sf_disp1 {t : Bool} (hT : KindOk C.T t) (ha : SE C sc a fa) (hb : SE C sc b fb) : SF C sc (.Dict [some a] [b] pos) (disp1E t fa fb) :=
  SF.of (fun X hX => pe_disp1 t hX.hu0 (pe_te hX) (pe_te hX)) fun q B0 H0 B H σ env st d st' Q g hf k p hp => by
    obtain ⟨kd, s1, h1, h2⟩ := M.bd_some hf
    obtain ⟨v, s2, h3, h4⟩ := M.bd_some h2
    obtain ⟨kvs, s3, h5, h6⟩ := M.bd_some h4
    obtain ⟨h5', rfl⟩ := M.lf_some h5
    obtain ⟨rfl, rfl⟩ := M.ret_some h6
    have e0 := Ext0.own g.sub (o := hoE t) hp
    have g0 := g.step0 e0
    have nB := Same.free g.sub hp
    have nq := g.dr.no hp
    have n0 := Ext.new0 g hp
    have o0 : Own C.T q B (L2.upd H p (hoE t)) p (.dic t []) := own_hoE t upd_same
    refine ha q B0 H0 B _ σ env st kd s1 _ g0 h1 fun y B1 H1 e1 d1 r1 => ?_
    have g1 := g0.step e1 d1
    refine hb q B0 H0 B1 H1 σ env s1 v _ _ g1 h3 fun z B2 H2 e2 d2 r2 => ?_
    have e12 := e1.trans g0.dr e2 ⟨_, d1⟩
    have pk : Pk C.T q B2 H2 (.dic t []) (.ref p) := (show Pk C.T q B (L2.upd H p (hoE t)) (.dic t []) (.ref p) from .inr ⟨p, rfl, nB, nq, o0⟩).step e12
    have own2 : B2 p = none ∧ Own C.T q B2 H2 p (.dic t []) := by
      have hh := e12.h p _ nq upd_same
      refine ⟨?_, own_hoE t hh⟩
      cases hb2 : B2 p with
      | none => rfl
      | some o => exact (o0.nw (e12.n p nB (by rw [hb2]; simp))).elim
    obtain ⟨o, w1, w2⟩ := dput_run hT e12.s own2.2 (r1.mono e2.b) r2 (by rw [sizeLine_eq]; simp) h5'
    refine ⟨_, w1, k p B2 _ ?_ ?_ hp own2.1 w2⟩
    · refine ⟨e12.b, fun c o' m h => ?_, fun c o' h => ?_, fun c n1 n2 => ?_⟩
      · rw [upd_ne (ne_of_none h hp)]
        exact e12.h c o' m (by rw [upd_ne (ne_of_none h hp)]; exact h)
      · rw [upd_ne (ne_of_none h own2.1)]
        exact e12.s c o' h
      · exact (e12.n c n1 n2).back fun o' h => e0.h c o' h
    · have ne : ∀ b, q.has b → b ≠ p := fun b m z => nq (z ▸ m)
      exact ⟨by rw [upd_ne (ne _ (.inl rfl))]; exact d2.d, by rw [upd_ne (ne _ (.inr (.inl rfl)))]; exact d2.g, by rw [upd_ne (ne _ (.inr (.inr rfl)))]; exact d2.c, d2.gc⟩
/-! ### a comprehension of a dict, on plain data -/
def dcGo (t : Bool) (g : GSem) (c : TSem) (fk fv : ESem) (env0 : List Var) : List D → List (D × D) → M (List (D × D))
  | [], acc => M.ret acc
  | d :: ds, acc => M.bd (M.lf (g d env0)) fun env1 => M.bd (c env1) fun b => if b = true then M.bd (fk env1) fun k => M.bd (fv env1) fun v => M.bd (M.lf (dput t acc k v)) fun acc' => dcGo t g c fk fv env0 ds acc' else dcGo t g c fk fv env0 ds acc
def dcE (t : Bool) (it : ISem) (g : GSem) (c : TSem) (fk fv : ESem) (vs : List Nat) : ESem := fun env => M.bd (it env) fun items => M.bd (dcGo t g c fk fv (wipeE env vs) items []) fun kvs => M.ret (.dic t kvs)
structure AccD (T : PySem.W.Frag) (q : QA) (B1 H1 B H : Hp) (dA : Addr) (d : D) : Prop where
  ext : Ext q B1 H1 B H
  own : Own T q B H dA d
  nb : B dA = none
  nq : ¬ q.has dA
theorem AccD.step {T : PySem.W.Frag} {q : QA} {B1 H1 B H B' H' : Hp} {dA : Addr} {d : D} {st st1 : DS} (a : AccD T q B1 H1 B H dA d) (d0 : DrAt q H1 st) (d1 : DrAt q H st1) (e : Ext q B H B' H') : AccD T q B1 H1 B' H' dA d := by
  refine ⟨a.ext.trans d0 e ⟨_, d1⟩, a.own.mono e.b fun o => e.h dA o a.nq, ?_, a.nq⟩
  cases h : B' dA with
  | none => rfl
  | some o => exact (a.own.nw (e.n dA a.nb (by rw [h]; simp))).elim
theorem AccD.put {T : PySem.W.Frag} {q : QA} {B1 H1 B H : Hp} {dA : Addr} {d d' : D} {o : HO} (a : AccD T q B1 H1 B H dA d) (n1 : H1 dA = none) (r : Own T q B (L2.upd H dA o) dA d') : AccD T q B1 H1 B (L2.upd H dA o) dA d' := by
  refine ⟨⟨a.ext.b, fun c o m h => ?_, fun c o h => ?_, a.ext.n⟩, r, a.nb, a.nq⟩
  · rw [upd_ne (ne_of_none h n1)]
    exact a.ext.h c o m h
  · rw [upd_ne (ne_of_none h a.nb)]
    exact a.ext.s c o h
structure DcOk (C : SC) (sc scope : Scope) (tg iter kx vx : Expr) (ifs : List Expr) (own : List (Str × Nat)) (it : ISem) (g : GSem) (c : TSem) (fk fv : ESem) : Prop where
  ok : BlkOk C.N sc scope own
  src : SI C sc tg iter it
  tgt : ∃ us, (∀ i ∈ us, i ∈ own.map (·.2)) ∧ SG C scope tg us g
  ifs : STs C scope ifs c
  key : SE C scope kx fk
  val : SE C scope vx fv
theorem sf_dc {t : Bool} {scope : Scope} {tg iter kx vx : Expr} {ifs : List Expr} {own : List (Str × Nat)} {it : ISem} {g : GSem} {c : TSem} {fk fv : ESem} (hT : KindOk C.T t) (L : DcOk C sc scope tg iter kx vx ifs own it g c fk fv) :
    SF C sc (.DictComp kx vx [⟨tg, iter, ifs, 0⟩] scope pos) (dcE t it g c fk fv (own.map (·.2))) := by
  obtain ⟨wi, p1, p2, k1⟩ := L.src
  obtain ⟨us, hus, f1, g1, p3, k2⟩ := L.tgt
  obtain ⟨t1, p4, k3⟩ := L.ifs
  refine SF.of (t := tDcP t wi g1 t1 (te C scope kx) (te C scope vx) (own.map (·.2))) (fun X hX => ?_) fun q B0 H0 B H σ env st d st' Q g0 hf k => ?_
  · exact pe_dcP t hX.calm hX.nd hX.hu0 (p1 X hX) (blk_ok hX L.ok) (fun s H A cl fp => p3 _ (blk_x hX L.ok s H A cl fp)) (fun s H A cl fp => p4 _ (blk_x hX L.ok s H A cl fp)) (fun s H A cl fp => pe_te (blk_x hX L.ok s H A cl fp)) (fun s H A cl fp => pe_te (blk_x hX L.ok s H A cl fp)) (fun x => p2 _ x)
  · obtain ⟨items, s1, h1, h2⟩ := M.bd_some hf
    obtain ⟨kvs, s2, h3, h4⟩ := M.bd_some h2
    obtain ⟨rfl, rfl⟩ := M.ret_some h4
    refine k1 q B0 H0 B H σ env st items s1 _ g0 h1 fun J B1 H1 e1 d1 wk dA nD => ?_
    have gz := g0.step e1 d1
    have nB := Same.free e1.s nD
    have nq := d1.no nD
    have h0D := Ext.new0 gz nD
    generalize own.map (·.2) = vs at *
    have a0 : AccD C.T q B1 H1 B1 (L2.upd H1 dA (hoE t)) dA (.dic t []) := ⟨(Ext0.own e1.s nD).ext, own_hoE t upd_same, nB, nq⟩
    have far : ∀ (j : Nat) (e : Y.D), (wipeE env vs)[j]? = some (Var.o e) → (L2.wipe σ vs)[j]? ≠ some (some (V.ref dA)) := fun j e hj => (gz.wipe _).far nD j e hj
    let Pv : Nat → Hp → Prop := fun i H => ∃ B st acc, GS C.T q B0 H0 B H (L2.wipe σ vs) (wipeE env vs) st ∧ Same B1 B ∧ AccD C.T q B1 H1 B H dA (.dic t acc) ∧ acc.length ≤ i ∧ dcGo t g c fk fv (wipeE env vs) (items.drop i) acc st = some (kvs, st')
    refine ⟨fun i m H => m = items.length - i ∧ i ≤ items.length ∧ Pv i H, ⟨items.length, by simp, Nat.zero_le _, B1, s1, [], (gz.step0 (Ext0.own e1.s nD)).wipe _, Same.refl _, a0, Nat.le_refl _, h3⟩, ?_⟩
    rintro i m H ⟨rfl, hi, B', st1, acc, gi, si, ai, li, goi⟩
    have hG : Same B1 H := si.trans gi.sub
    by_cases hlt : i < items.length
    · refine .inr ⟨wk.w.goes i H hlt hG, Pv (i + 1), fun H' p' => ⟨items.length - (i + 1), by omega, rfl, hlt, p'⟩, fun x H' hy => ?_⟩
      obtain ⟨d, B2, hd', e', r'⟩ := wk.w.yields i H x H' hlt hG hy B' si gi.sub
      have hdr : items.drop i = d :: items.drop (i + 1) := by
        obtain ⟨hl, he⟩ := List.getElem?_eq_some_iff.mp hd'
        rw [← he]
        exact List.drop_eq_getElem_cons hl
      rw [hdr] at goi
      obtain ⟨env1, t2', a1, a2⟩ := M.bd_some goi
      obtain ⟨a1', rfl⟩ := M.lf_some a1
      obtain ⟨b, s3, a3, a4⟩ := M.bd_some a2
      have ai' := ai.step d1 gi.dr e'.ext
      refine k2 q B0 H0 B2 H' _ _ _ d x env1 _ (gi.step0 e') r' a1' fun σ2 g2' w2 => ?_
      have w2' : L2.wipe σ2 vs = L2.wipe σ vs := by
        have := wipe_sub w2 hus
        rw [wipe_wipe] at this
        exact this
      refine ⟨w2', k3 q B0 H0 B2 H' σ2 env1 _ b s3 _ g2' a3 fun B3 H3 e3 d3 => ?_⟩
      have e13 := e'.ext.trans gi.dr e3 ⟨_, g2'.dr⟩
      have ai3 := ai'.step d1 g2'.dr e3
      have g3 := g2'.step e3 d3
      cases b with
      | false =>
        rw [if_neg (by decide)] at a4 ⊢
        exact ⟨B3, s3, acc, gi.step e13 d3, si.trans e13.b, ai3, by omega, a4⟩
      | true =>
        rw [if_pos rfl] at a4 ⊢
        obtain ⟨kd, s4, a5, a6⟩ := M.bd_some a4
        obtain ⟨v, s5, a7, a8⟩ := M.bd_some a6
        obtain ⟨acc', s6, a9, a10⟩ := M.bd_some a8
        obtain ⟨a9', rfl⟩ := M.lf_some a9
        refine L.key q B0 H0 B3 H3 σ2 env1 s3 kd s4 _ g3 a5 fun y B4 H4 e4 d4 r4 => ?_
        have g4 := g3.step e4 d4
        refine L.val q B0 H0 B4 H4 σ2 env1 s4 v _ _ g4 a7 fun z B5 H5 e5 d5 r5 => ?_
        have e14 := e13.trans gi.dr e4 ⟨_, d3⟩
        have e15 := e14.trans gi.dr e5 ⟨_, d4⟩
        have ai5 := (ai3.step d1 d3 e4).step d1 d4 e5
        have hlen : acc.length < sizeLine := by have := wk.len; omega
        obtain ⟨o, w1, w2⟩ := dput_run hT e5.s ai5.own (r4.mono e5.b) r5 hlen a9'
        refine ⟨_, w1, B5, _, acc', (gi.step e15 d5).upd ai5.nb h0D ai5.nq far, si.trans e15.b, ai5.put nD w2, by have := dput_len a9'; omega, a10⟩
    · have e : i = items.length := by omega
      subst e
      rw [List.drop_length] at goi
      obtain ⟨rfl, rfl⟩ := M.ret_some goi
      exact .inl ⟨wk.w.stops H hG, k dA B' H (e1.trans g0.dr ai.ext ⟨_, d1⟩) gi.dr (new_back e1 d1 nD) ai.nb ai.own⟩
end
end Y
end

section
set_option Elab.async false
set_option linter.all false
set_option maxRecDepth 100000
set_option autoImplicit false
namespace Y
open PySem PySem.Spec L2
open PyProof.Rows hiding St

/-! ### a, b, .. = x, y, .. -/
def evalC : List (Bool × ESem) → List Var → M (List D)
  | [], _ => M.ret []
  | c :: cs, env => M.bd (c.2 env) fun d => M.bd (evalC cs env) fun ds => M.ret (d :: ds)
inductive Cvs (T : PySem.W.Frag) (q : QA) (H0 B H : Hp) (σ : St) (env : List Var) : List Bool → List D → List V → Prop
  | nil : Cvs T q H0 B H σ env [] [] []
  | pure {o : List Bool} {d : D} {ds : List D} {v : V} {vs : List V} : Rep T q B d v → Cvs T q H0 B H σ env o ds vs → Cvs T q H0 B H σ env (false :: o) (d :: ds) (v :: vs)
  | own {o : List Bool} {d : D} {ds : List D} {a : Addr} {vs : List V} : Own T q B H a d → H0 a = none → B a = none → ¬ q.has a → (∀ (j : Nat) (e : D), env[j]? = some (Var.o e) → σ[j]? ≠ some (some (V.ref a))) →
      (∀ (k : Nat) (b : Addr), o[k]? = some true → vs[k]? = some (.ref b) → b ≠ a) → Cvs T q H0 B H σ env o ds vs → Cvs T q H0 B H σ env (true :: o) (d :: ds) (.ref a :: vs)
def setSt : List Nat → List V → St → St
  | i :: is, v :: vs, σ => setSt is vs (σ.set i (some v))
  | _, _, σ => σ
def mkV (o : Bool) (d : D) : Var := if o = true then .o d else .p d
def setEn : List Nat → List Bool → List D → List Var → List Var
  | i :: is, o :: os, d :: ds, env => setEn is os ds (env.set i (mkV o d))
  | _, _, _, env => env
section
variable {T : PySem.W.Frag} {q : QA} {B0 H0 B H B' H' : Hp} {σ : St} {env : List Var} {st st' : DS}
theorem Cvs.step {o : List Bool} {ds : List D} {vs : List V} (c : Cvs T q H0 B H σ env o ds vs) (e : Ext q B H B' H') : Cvs T q H0 B' H' σ env o ds vs := by
  induction c with
  | nil => exact .nil
  | pure h _ ih => exact .pure (h.mono e.b) ih
  | own h h0 hb hq far nd _ ih =>
    refine .own (h.mono e.b fun o => e.h _ o hq) h0 ?_ hq far nd ih
    rename_i a _ _
    cases z : B' a with
    | none => rfl
    | some u => exact (h.nw (e.n a hb (by rw [z]; simp))).elim
theorem Cvs.refar {σ' : St} {env' : List Var} {o : List Bool} {ds : List D} {vs : List V} (c : Cvs T q H0 B H σ env o ds vs)
    (h : ∀ (k : Nat) (b : Addr), o[k]? = some true → vs[k]? = some (.ref b) → (∀ (j : Nat) (e : D), env[j]? = some (Var.o e) → σ[j]? ≠ some (some (V.ref b))) → ∀ (j : Nat) (e : D), env'[j]? = some (Var.o e) → σ'[j]? ≠ some (some (V.ref b))) : Cvs T q H0 B H σ' env' o ds vs := by
  induction c with
  | nil => exact .nil
  | pure h' _ ih => exact .pure h' (ih fun k b h1 h2 => h (k + 1) b (by simpa using h1) (by simpa using h2))
  | own h' h0 hb hq far nd _ ih => exact .own h' h0 hb hq (h 0 _ rfl rfl far) nd (ih fun k b h1 h2 => h (k + 1) b (by simpa using h1) (by simpa using h2))
theorem Cvs.set {o : List Bool} {ds : List D} {vs : List V} : ∀ {is : List Nat} {σ : St} {env : List Var}, Cvs T q H0 B H σ env o ds vs → GS T q B0 H0 B H σ env st → is.length = o.length → GS T q B0 H0 B H (setSt is vs σ) (setEn is o ds env) st := by
  induction o generalizing ds vs with
  | nil => intro is σ env c g hl; cases c; cases is <;> exact g
  | cons o os ih =>
    intro is σ env c g hl
    cases is with
    | nil => cases hl
    | cons i is =>
      have hl' : is.length = os.length := by simpa using hl
      cases c with
      | pure h r =>
        refine ih (is := is) (r.refar fun k b _ _ far j e h1 => ?_) (g.setP i h) hl'
        by_cases hj : i = j
        · subst hj
          by_cases hi : i < env.length
          · rw [List.getElem?_set_self hi] at h1; cases h1
          · rw [List.getElem?_eq_none (by rw [List.length_set]; omega)] at h1; cases h1
        · rw [List.getElem?_set_ne hj] at h1 ⊢
          exact far j e h1
      | own h h0 hb hq far nd r =>
        refine ih (is := is) (r.refar fun k b hk hv far' j e h1 => ?_) (g.setO i h hb h0 hq fun j e _ => far j e) hl'
        by_cases hj : i = j
        · subst hj
          have hi : i < (env.set i (Var.o _)).length := (List.getElem?_eq_some_iff.mp h1).1
          rw [List.length_set] at hi
          rw [List.getElem?_set_self (by rw [g.len]; exact hi)]
          intro z
          have z' := Option.some.inj (Option.some.inj z)
          injection z' with z'
          exact nd k b hk hv z'.symm
        · rw [List.getElem?_set_ne hj] at h1 ⊢
          exact far' j e h1
end
def SAC (C : SC) (sc : Scope) (es : List Expr) (cs : List (Bool × ESem)) : Prop := ∀ q B0 H0 B H σ env st ds st' (Q : List V → Hp → Prop), GS C.T q B0 H0 B H σ env st → evalC cs env st = some (ds, st') →
  (∀ vs B' H', Ext q B H B' H' → DrAt q H' st' → Cvs C.T q H0 B' H' σ env (cs.map (·.1)) ds vs → (∀ (k : Nat) (b : Addr), (cs.map (·.1))[k]? = some true → vs[k]? = some (.ref b) → H b = none) → Q vs H') → ta C sc es σ H Q
section
variable {C : SC} {sc : Scope} {e a b c : Expr} {f fa fb fc : ESem} {pos p : Pos}
theorem sac_nil : SAC C sc [] [] := fun q B0 H0 B H σ env st ds st' Q g hf k X hX pos pins s I => (pa_nil).run pos pins s σ H Q I (by
  obtain ⟨rfl, rfl⟩ := M.ret_some hf
  exact k [] B H (Ext.refl g.sub) g.dr .nil (fun k b h => by simp at h))
theorem sac_p {es : List Expr} {cs : List (Bool × ESem)} (h : SE C sc e f) (hr : SAC C sc es cs) (hs : ∀ env, starEach (e :: es) env = (false, eval e env) :: starEach es env := by intro _; rfl) : SAC C sc (e :: es) ((false, f) :: cs) := fun q B0 H0 B H σ env st ds st' Q g hf k X hX pos pins s I =>
  (pa_cons (pe_te hX) (pa_ta hX) (hs _)).run pos pins s σ H Q I (by
    obtain ⟨x, s1, h1, hf⟩ := M.bd_some hf
    obtain ⟨xs, s2, h2, hf⟩ := M.bd_some hf
    obtain ⟨rfl, rfl⟩ := M.ret_some hf
    refine h q B0 H0 B H σ env st x s1 _ g h1 fun v B1 H1 e1 d1 r1 => ?_
    refine hr q B0 H0 B1 H1 σ env s1 xs _ _ (g.step e1 d1) h2 fun vs B2 H2 e2 d2 r2 n2 => ?_
    refine k _ B2 H2 (e1.trans g.dr e2 ⟨_, d1⟩) d2 (.pure (r1.mono e2.b) r2) fun k b hk hv => ?_
    cases k with
    | zero => cases hk
    | succ k => exact new_back e1 d1 (n2 k b (by simpa using hk) (by simpa using hv)))
theorem sac_o {es : List Expr} {cs : List (Bool × ESem)} (h : SF C sc e f) (hr : SAC C sc es cs) (hs : ∀ env, starEach (e :: es) env = (false, eval e env) :: starEach es env := by intro _; rfl) : SAC C sc (e :: es) ((true, f) :: cs) := fun q B0 H0 B H σ env st ds st' Q g hf k X hX pos pins s I =>
  (pa_cons (pe_te hX) (pa_ta hX) (hs _)).run pos pins s σ H Q I (by
    obtain ⟨x, s1, h1, hf⟩ := M.bd_some hf
    obtain ⟨xs, s2, h2, hf⟩ := M.bd_some hf
    obtain ⟨rfl, rfl⟩ := M.ret_some hf
    refine h q B0 H0 B H σ env st x s1 _ g h1 fun a B1 H1 e1 d1 n1 nb r1 => ?_
    refine hr q B0 H0 B1 H1 σ env s1 xs _ _ (g.step e1 d1) h2 fun vs B2 H2 e2 d2 r2 n2 => ?_
    have nq := g.dr.no n1
    refine k _ B2 H2 (e1.trans g.dr e2 ⟨_, d1⟩) d2 (.own (r1.mono e2.b fun o => e2.h _ o nq) (Ext.new0 g n1) ?_ nq (g.far n1) (fun k b hk hv z => ?_) r2) fun k b hk hv => ?_
    · cases z : B2 a with
      | none => rfl
      | some u => exact (r1.nw (e2.n a nb (by rw [z]; simp))).elim
    · have n3 := n2 k b hk hv
      subst z
      obtain ⟨o, ho⟩ := r1.there
      rw [ho] at n3; cases n3
    · cases k with
      | zero =>
        simp at hv
        rw [← hv]; exact n1
      | succ k => exact new_back e1 d1 (n2 k b (by simpa using hk) (by simpa using hv)))
def parS (is : List Nat) (cs : List (Bool × ESem)) : SSem := fun env => M.bd (evalC cs env) fun ds => M.ret (.nx, setEn is (cs.map (·.1)) ds env)
theorem par_done {is : List Nat} {cs : List (Bool × ESem)} {es : List Expr} (h : SAC C sc es cs) (hl : is.length = cs.length) {q : QA} {B0 H0 B H : Hp} {σ : St} {env : List Var} {st : DS} {fl : Fl} {env' : List Var} {st' : DS} {Dd : Ends} (g : GS C.T q B0 H0 B H σ env st)
    (hf : parS is cs env st = some ((fl, env'), st')) (k : Post C.T q B0 H0 B fl env' st' Dd) : ta C sc es σ H fun vs H1 => vs.length = cs.length ∧ (∀ H2, Same H1 H2 → (∃ p, H2 = L2.upd H1 p (.tup vs) ∧ H1 p = none) ∨ H2 = H1 → Dd.nx (setSt is vs σ) H2) := by
  obtain ⟨ds, s1, h1, h2⟩ := M.bd_some hf
  obtain ⟨hr, rfl⟩ := M.ret_some h2
  cases hr
  refine h q B0 H0 B H σ env st ds _ _ g h1 fun vs B' H' e1 d1 cv _ => ⟨?_, fun H2 s2 hc => ?_⟩
  · have : ∀ {o : List Bool} {ds : List D} {vs : List V}, Cvs C.T q H0 B' H' σ env o ds vs → vs.length = o.length := fun c => by
      induction c with
      | nil => rfl
      | pure _ _ ih => simp [ih]
      | own _ _ _ _ _ _ _ ih => simp [ih]
    rw [this cv, List.length_map]
  · have g1 := g.step e1 d1
    rcases hc with ⟨p, rfl, hp⟩ | rfl
    · have e2 := Ext0.own g1.sub (o := .tup vs) hp
      exact k _ B' _ e1.b ((cv.step e2.ext).set (g1.step0 e2) (by rw [List.length_map]; exact hl))
    · exact k _ B' _ e1.b (cv.set g1 (by rw [List.length_map]; exact hl))
theorem ss_par2 {x y : Str} {i j : Nat} {cs : List (Bool × ESem)} {px py pt : Pos} {kt k2 : Nat} {pt2 : Pos} (hi : C.N[i]? = some x) (hj : C.N[j]? = some y) (hij : i ≠ j) (hx : sc.names.lookup x = some .local) (hy : sc.names.lookup y = some .local) (h : SAC C sc [a, b] cs) (hl : cs.length = 2)
    (hw : ∀ X, XOk C sc X → swappedStores [.Tuple [.Name x px, .Name y py] kt pt] (.Tuple [a, b] k2 pt2) X.env = pure (some [x, y])) (hs : ∀ env, swapsWithSole [.Tuple [.Name x px, .Name y py] kt pt] (.Tuple [a, b] k2 pt2) pos.line env = pure false := by intro _; rfl) :
    SS C sc (.Assign [.Tuple [.Name x px, .Name y py] kt pt] (.Tuple [a, b] k2 pt2) pos) (parS [i, j] cs) := by
  have up : ∀ {X : Cx} {z : Str}, XOk C sc X → sc.names.lookup z = some .local → X.env.scope.names.lookup z = some .local := fun {X z} hX hz => by
    obtain ⟨k', w1, w2⟩ := hX.names _ _ hz
    rcases w2 with rfl | ⟨z, _⟩
    · exact w1
    · cases z
  refine SS.of (t := tPar i j (ta C sc [a, b])) (fun X hX => ps_par hX.calm hX.nd (by rw [hX.N]; exact hi) (by rw [hX.N]; exact hj) hij (up hX hx) (up hX hy) (pa_ta hX) (hw X hX) (hs _)) fun q B0 H0 B H σ env st fl env' st' Dd g hf k => ?_
  have z := par_done h (is := [i, j]) (by rw [hl]; rfl) g hf k
  intro X hX pos pins s I
  refine wpAny_mono (z X hX pos pins s I) (fun us s1 hq => ?_) fun _ _ h => h
  obtain ⟨vs, H1, I1, r1, hlen, q1⟩ := hq
  refine ⟨vs, H1, I1, r1, ?_⟩
  rw [hl] at hlen
  match vs, hlen with
  | [v, w], _ => exact ⟨v, w, rfl, q1 H1 (Same.refl _) (.inr rfl)⟩
theorem ss_par3 {x y z : Str} {i j l : Nat} {cs : List (Bool × ESem)} {px py pz pt : Pos} {kt k2 : Nat} {pt2 : Pos} (hi : C.N[i]? = some x) (hj : C.N[j]? = some y) (hk : C.N[l]? = some z) (hij : i ≠ j) (hil : i ≠ l) (hjl : j ≠ l) (hx : sc.names.lookup x = some .local) (hy : sc.names.lookup y = some .local) (hz : sc.names.lookup z = some .local) (h : SAC C sc [a, b, c] cs) (hl : cs.length = 3)
    (hw : ∀ X, XOk C sc X → swappedStores [.Tuple [.Name x px, .Name y py, .Name z pz] kt pt] (.Tuple [a, b, c] k2 pt2) X.env = pure (some [x, y, z])) (hs : ∀ env, swapsWithSole [.Tuple [.Name x px, .Name y py, .Name z pz] kt pt] (.Tuple [a, b, c] k2 pt2) pos.line env = pure false := by intro _; rfl) :
    SS C sc (.Assign [.Tuple [.Name x px, .Name y py, .Name z pz] kt pt] (.Tuple [a, b, c] k2 pt2) pos) (parS [i, j, l] cs) := by
  have up : ∀ {X : Cx} {z : Str}, XOk C sc X → sc.names.lookup z = some .local → X.env.scope.names.lookup z = some .local := fun {X z} hX hz => by
    obtain ⟨k', w1, w2⟩ := hX.names _ _ hz
    rcases w2 with rfl | ⟨z, _⟩
    · exact w1
    · cases z
  refine SS.of (t := tPar3 i j l (ta C sc [a, b, c])) (fun X hX => ps_par3 hX.calm hX.nd (by rw [hX.N]; exact hi) (by rw [hX.N]; exact hj) (by rw [hX.N]; exact hk) hij hil hjl (up hX hx) (up hX hy) (up hX hz) (pa_ta hX) (hw X hX) (hs _)) fun q B0 H0 B H σ env st fl env' st' Dd g hf k => ?_
  have z := par_done h (is := [i, j, l]) (by rw [hl]; rfl) g hf k
  intro X hX pos pins s I
  refine wpAny_mono (z X hX pos pins s I) (fun us s1 hq => ?_) fun _ _ h => h
  obtain ⟨vs, H1, I1, r1, hlen, q1⟩ := hq
  refine ⟨vs, H1, I1, r1, ?_⟩
  rw [hl] at hlen
  match vs, hlen with
  | [v, w, u], _ => exact ⟨v, w, u, rfl, q1 H1 (Same.refl _) (.inr rfl)⟩
/-- by a tuple that is laid and taken apart -/
def gNames : List Nat → TGs
  | [] => gNil
  | i :: is => gCons (gName i) (gNames is)
theorem gNames_run : ∀ {is : List Nat} {vs : List V} {σ : St} {H : Hp} {Q : St → Hp → Prop}, vs.length = is.length → Q (setSt is vs σ) H → gNames is vs σ H Q
  | [], [], _, _, _, _, h => ⟨rfl, h⟩
  | i :: is, v :: vs, σ, H, Q, hl, h => ⟨v, vs, rfl, gNames_run (by simpa using hl) h⟩
def NamesOk (C : SC) (sc : Scope) : List (Str × Pos) → List Nat → Prop
  | [], [] => True
  | t :: ts, i :: is => C.N[i]? = some t.1 ∧ LocB sc t.1 = true ∧ NamesOk C sc ts is
  | _, _ => False
theorem pgs_names {X : Cx} (hX : XOk C sc X) : ∀ {ts : List (Str × Pos)} {is : List Nat}, NamesOk C sc ts is →
    (∀ x p (r : List (Str × Pos)), (assignEach ((.Name x p) :: r.map fun t => Expr.Name t.1 t.2) X.env).map (·.2) = assign (.Name x p) X.env :: (assignEach (r.map fun t => Expr.Name t.1 t.2) X.env).map (·.2)) → PGs X (ts.map fun t => Expr.Name t.1 t.2) (gNames is)
  | [], [], _, _ => pgs_nil
  | t :: ts, i :: is, h, hs => pgs_cons (pg_name hX.nd (by rw [hX.N]; exact h.1) (hX.loc h.2.1).1 (hX.loc h.2.1).2) (pgs_names hX h.2.2 hs) (hs _ _ _)
theorem ss_parT {ts : List (Str × Pos)} {tgs : List Expr} {is : List Nat} {es : List Expr} {cs : List (Bool × ESem)} {pt : Pos} {kt k2 : Nat} {pt2 : Pos} (htg : tgs = ts.map fun t => Expr.Name t.1 t.2) (hi : NamesOk C sc ts is) (h : SAC C sc es cs) (hl : is.length = cs.length) (h4 : is.length ≤ 1000)
    (hn : ∀ env, (assignEach tgs env).length = is.length := by intro _; rfl) (hst : ∀ env, (assignEach tgs env).findIdx? (·.1) = none := by intro _; rfl)
    (hs : ∀ env, swapsWithSole [.Tuple tgs kt pt] (.Tuple es k2 pt2) pos.line env = pure false := by intro _; rfl) (hw : ∀ X, XOk C sc X → swappedStores [.Tuple tgs kt pt] (.Tuple es k2 pt2) X.env = pure none) (h1 : ∀ env, (assignEach [.Tuple tgs kt pt] env).map (·.2) = [assign (.Tuple tgs kt pt) env] := by intro _; rfl)
    (hc : ∀ env x p (r : List (Str × Pos)), (assignEach ((.Name x p) :: r.map fun t => Expr.Name t.1 t.2) env).map (·.2) = assign (.Name x p) env :: (assignEach (r.map fun t => Expr.Name t.1 t.2) env).map (·.2) := by intro _ _ _ _; rfl) :
    SS C sc (.Assign [.Tuple tgs kt pt] (.Tuple es k2 pt2) pos) (parS is cs) := by
  refine SS.of (t := tAsg (tTup (ta C sc es)) (gTup C.K is.length (gNames is))) (fun X hX => ?_) fun q B0 H0 B H σ env st fl env' st' Dd g hf k => ?_
  · have z : PG X (.Tuple tgs kt pt) (gTup X.K is.length (gNames is)) := pg_tup hX.calm (by rw [htg]; exact pgs_names hX hi (hc _)) (hn _) (hst _)
    rw [hX.K] at z
    exact ps_asg (pe_tup (pa_ta hX)) z (hs _) (hw X hX) (h1 _)
  · have z := par_done h hl g hf k
    intro X hX pos pins s I
    refine wpAny_mono (z X hX pos pins s I) (fun us s1 hq => ?_) fun _ _ h => h
    obtain ⟨vs, H1, I1, r1, hlen, q1⟩ := hq
    refine ⟨vs, H1, I1, r1, Nat.le_of_lt (small1000 (by rw [hlen, ← hl]; exact h4)), fun p hp => ?_⟩
    refine ⟨p, vs, rfl, .inl (.inl upd_same), by rw [hlen, hl], gNames_run (by rw [hlen, hl]) ?_⟩
    exact q1 _ (fun c o hc => by rw [upd_ne (ne_of_none hc hp)]; exact hc) (.inl ⟨p, rfl, hp⟩)
end
end Y
end

section
set_option Elab.async false
set_option linter.all false
set_option maxRecDepth 100000
set_option autoImplicit false
namespace Y
open PySem PySem.Spec L2
open PyProof.Rows hiding St

/-! ### sorted, whatever is walked -/
section
variable {X : Cx} {pins : List (Addr × Obj)} {σ : St} {H : Hp} {s : Shared}
/-- what a walk of a gives -/
def Gives (X : Cx) (s : Shared) (a : Addr) (cond : List Value → Prop) : Prop := ∀ (R : List Value → Shared → Prop),
  (∀ (h' : Heap) (tk : Nat) (vs : List Value), (∀ b o, s.heap.get? b = some o → h'.get? b = some o) → cond vs → R vs { s with heap := h', toks := tk }) → wpAny (model X.prog X.w) X.A.in1 (collect (.ref a)) R X.xe s
theorem gives_tup {a : Addr} {xs : List V} (I : Inv X pins σ H s) (h : SqT X.K H a xs) : Gives X s a (fun vs => Vals xs vs) := by
  intro R k
  obtain ⟨its, rv, ⟨o, ho, hc, n, hd⟩, hz⟩ := I.tuple h
  refine wpAny_collect_seq a (.inr rfl) ho hc hd (fun h' hk => ?_) (by rw [List.size_toArray, ← rv.length]; exact hz)
  have z := k h' s.toks its hk rv
  exact z
theorem gives_dT {a : Addr} {kvs : List (List Key × V)} (hc : X.calm = true) (I : Inv X pins σ H s) (h : Rd H a (.dT kvs)) : Gives X s a (fun vs => ∃ bs, IsKeys H kvs bs ∧ vs = bs.map Value.ref) := by
  intro R k
  obtain ⟨z, hs, ks, pr, o, es, ep, ho, hx, hdt, he, hn⟩ := (show ObjOk X.prog X.w H s.heap a (.dT kvs) from h.ok I.hok)
  have l1 : es.size = ks.length := size_of_entries he
  have l2 : kvs.length = ks.length := Paired.length pr
  refine PySem.W.kdu_collect (A := X.A.in1) (kdl_raw hs hx hdt) (I.ok.hd hc) ho (by omega) fun h' tk acc hk it => k h' tk _ hk ⟨_, isKeys_of pr, ?_⟩
  have ll : acc.toList.length = ks.length := by rw [Array.length_toList, it.1]; exact l1
  refine List.ext_getElem? fun j => ?_
  rw [List.getElem?_map, List.getElem?_map]
  cases hj : acc.toList[j]? with
  | none => rw [List.getElem?_eq_none (by have := List.getElem?_eq_none_iff.mp hj; omega)]; rfl
  | some v =>
    obtain ⟨en, hen, hv⟩ := it.2 j v (by rw [← Array.getElem?_toList]; exact hj)
    have qe := entry_at he j
    rw [hen] at qe
    cases hb : ks[j]? with
    | none => rw [hb] at qe; cases qe
    | some b =>
      rw [hb] at qe
      have e2 : en = entryOfKey (tupleKind (mixKind X.prog X.w)) b := Option.some.inj qe
      rw [hv, e2]
      rfl
theorem sortedC_I {Q : VK} {a : Addr} {ns : List Int} (I : Inv X pins σ H s) (g : Gives X s a (fun vs => Vals (ns.map V.int) vs)) (h64 : ns.length < 64)
    (q : ∀ (ys : List Int) (p : Addr), ys.Perm ns → ys.Pairwise (· ≤ ·) → H p = none → Q (.ref p) (L2.upd H p (.lst (ys.map V.int)))) : wpAny (model X.prog X.w) X.A (call (.builtin "sorted") [.ref a]) (EP X pins σ Q) X.xe s := by
  refine Calls.call_function_entry PyProof.Rows.kind_sorted PyProof.Rows.plain_sorted PyProof.Rows.entry_sorted (PyProof.Rows.args_sorted1 _) ?_
  unfold Builtin.«sorted»
  refine wpAny_bind (m := checkCount "sorted" 1 1 _) (wpAny_pure (wpAny_bind (g _ fun h' tk vs hk rv => ?_)))
  have hS : IntsAre vs ns := ints_of_vals rv
  have hal : vs.length = ns.length := by rw [← rv.length, List.length_map]
  have I1 : Inv X pins σ H { s with heap := h', toks := tk } := I.kept hk
  refine wpAny_bind (wpAny_newList ?_ (by rw [hal, sizeLine_eq]; omega))
  have hoL : (h'.push (seqObj "list" vs.toArray 0)).get? h'.objs.size = some (seqObj "list" vs.toArray 0) := Heap.get?_push_size _ rfl
  refine wpAny_bind (wpAny_holding (wpAny_call_entry (s := { s with heap := h'.push (seqObj "list" vs.toArray 0), toks := tk }) PyProof.Rows.slot_list_sort ⟨_, hoL, rfl⟩ PyProof.Rows.entry_list_sort
    (PyProof.Rows.list_sort_tree (s := { s with heap := h'.push (seqObj "list" vs.toArray 0), toks := tk }) hoL hS (hal ▸ h64) fun out ys g1 g2 g3 => ⟨_, rfl, ?_⟩) (PyProof.Rows.args_list_sort _)))
  obtain ⟨e', he'⟩ := PyProof.Rows.sortedHeap_at (vs := vs) (out := out) hoL
  refine wpAny_pure ⟨_, rfl, .ref h'.objs.size, L2.upd H h'.objs.size (.lst (ys.map V.int)), I1.laid (t' := tk) (fun b u e => ?_) (Nat.le_refl _) ⟨?_, out.toList, e', vals_of_ints g1, by rw [Array.toArray_toList]; exact he'⟩, rfl, q ys _ g2 g3 (I1.hok.fresh (Nat.le_refl _))⟩
  · have lt := Heap.lt_size e
    rw [PyProof.Rows.sortedHeap_old (Nat.ne_of_lt lt) (Nat.lt_of_lt_of_eq (Nat.lt_succ_of_lt lt) (size_push' _ _).symm)]
    exact Heap.get?_push_of_some _ e
  · rw [List.length_map, g2.length_eq, sizeLine_eq]; omega
theorem sortedC_T {Q : VK} {a : Addr} {xs : List V} {d : Nat} {Bb : Int} (hd : 1 ≤ d) (I : Inv X pins σ H s) (g : Gives X s a (fun vs => Vals xs vs)) (h64 : xs.length < 64) (hx : ∀ x ∈ xs, ∃ ns, TupI X.K H x ns ∧ ns.length = d ∧ TS.Bd Bb ns)
    (q : ∀ (ys : List V) (p : Addr), ys.Perm xs → ys.Pairwise (fun x y => ∀ n m, TupI X.K H x n → TupI X.K H y m → TS.code Bb n ≤ TS.code Bb m) → H p = none → Q (.ref p) (L2.upd H p (.lst ys))) : wpAny (model X.prog X.w) X.A (call (.builtin "sorted") [.ref a]) (EP X pins σ Q) X.xe s := by
  refine Calls.call_function_entry PyProof.Rows.kind_sorted PyProof.Rows.plain_sorted PyProof.Rows.entry_sorted (PyProof.Rows.args_sorted1 _) ?_
  unfold Builtin.«sorted»
  refine wpAny_bind (m := checkCount "sorted" 1 1 _) (wpAny_pure (wpAny_bind (g _ fun h' tk vs hk rv => ?_)))
  have hal : vs.length = xs.length := rv.length.symm
  have I1 : Inv X pins σ H { s with heap := h', toks := tk } := I.kept hk
  obtain ⟨e1, e2⟩ := bkV_refs rv fun x m => (hx x m).elim fun ns w => w.1.elim fun t w => ⟨t, w.1⟩
  have ti : ∀ v ∈ vs, ∃ ns, TS.TupInts h' v ns ∧ ns.length = d ∧ TS.Bd Bb ns := fun v hv => by
    obtain ⟨t, rfl⟩ := e2 v hv
    obtain ⟨ns, ⟨t', e, ht⟩, hn, hb⟩ := hx (.ref t) (by rw [e1]; exact List.mem_map.mpr ⟨_, hv, rfl⟩)
    cases e
    exact ⟨ns, tupI_raw I1 ht, hn, hb⟩
  refine wpAny_bind (wpAny_newList ?_ (by rw [hal, sizeLine_eq]; omega))
  have hoL : (h'.push (seqObj "list" vs.toArray 0)).get? h'.objs.size = some (seqObj "list" vs.toArray 0) := Heap.get?_push_size _ rfl
  have keep : ∀ b o, h'.get? b = some o → (h'.push (seqObj "list" vs.toArray 0)).get? b = some o := fun b o e => Heap.get?_push_of_some _ e
  refine wpAny_bind (wpAny_holding (wpAny_call_entry (s := { s with heap := h'.push (seqObj "list" vs.toArray 0), toks := tk }) PyProof.Rows.slot_list_sort ⟨_, hoL, rfl⟩ PyProof.Rows.entry_list_sort
    (TS.sort_tups (s := { s with heap := h'.push (seqObj "list" vs.toArray 0), toks := tk }) hoL (hal ▸ h64) hd (TS.TupsOk.keeps (h := h') ti fun b o e _ => keep b o e) (fun v => TS.code Bb (TS.intsOf h' v)) (fun v hv ns t => ?_) fun out g1 g2 => ⟨_, rfl, ?_⟩) (PyProof.Rows.args_list_sort _)))
  · obtain ⟨ns0, t0, _⟩ := ti v hv
    have en : ns = ns0 := t.ints.symm.trans (t0.keeps fun b o e _ => keep b o e).ints
    rw [en]
    show TS.code Bb (TS.intsOf h' v) = TS.code Bb ns0
    rw [t0.ints]
  · obtain ⟨e', he'⟩ := PyProof.Rows.sortedHeap_at (vs := vs) (out := out) hoL
    have e3 : ∀ u ∈ out.toList, ∃ b, u = Value.ref b := fun u hu => e2 u (g1.mem_iff.mp hu)
    have pm : (out.toList.map bkV).Perm xs := by rw [e1]; exact g1.map bkV
    refine wpAny_pure ⟨_, rfl, .ref h'.objs.size, L2.upd H h'.objs.size (.lst (out.toList.map bkV)), I1.laid (t' := tk) (fun b u e => ?_) (Nat.le_refl _) ⟨?_, out.toList, e', bkV_vals e3, by rw [Array.toArray_toList]; exact he'⟩, rfl, q _ _ pm ?_ (I1.hok.fresh (Nat.le_refl _))⟩
    · have lt := Heap.lt_size e
      rw [PyProof.Rows.sortedHeap_old (Nat.ne_of_lt lt) (Nat.lt_of_lt_of_eq (Nat.lt_succ_of_lt lt) (size_push' _ _).symm)]
      exact keep b u e
    · rw [pm.length_eq, sizeLine_eq]; omega
    · rw [List.pairwise_map]
      refine g2.imp fun {u v} huv n m hn hm => ?_
      obtain ⟨t, et, ht⟩ := hn
      obtain ⟨t', et', ht'⟩ := hm
      have eu := bkV_ref et
      have ev := bkV_ref et'
      subst eu ev
      rw [← (tupI_raw I1 ht).ints, ← (tupI_raw I1 ht').ints]
      exact huv
end
end Y
end

section
set_option Elab.async false
set_option linter.all false
set_option maxRecDepth 100000
set_option autoImplicit false
namespace Y
open PySem PySem.Spec L2
open PyProof.Rows hiding St

/-! ### a tuple from behind -/
section
variable {prog : Program} {w : World} {A : Around} {E : Value → Shared → Prop} {s : Shared}
theorem pick_rev (xs : Array Value) : ((List.range xs.size).filterMap fun (m : Nat) => xs[(((xs.size : Int) - 1) + (m : Int) * (-1)).toNat]?).toArray = xs.toList.reverse.toArray := by
  have e : (fun (m : Nat) => xs[(((xs.size : Int) - 1) + (m : Int) * (-1)).toNat]?) = (fun x => xs[x]?) ∘ fun m => xs.size - 1 - m := by
    funext m
    have : (((xs.size : Int) - 1) + (m : Int) * (-1)).toNat = xs.size - 1 - m := by omega
    rw [this]
    rfl
  rw [e, ← List.filterMap_map, PySem.W.krv_range, List.filterMap_reverse, PySem.W.krv_all]
theorem getItem_tuple_rev {t sl : Addr} {items : Array Value} {vk : Value} {Q : Value → Shared → Prop} (ht : IsTup s.heap t items) (hs : s.heap.IsSliceOf sl .none .none vk) (pk : IsPart vk (some (-1))) (hz : items.size ≤ sizeLine)
    (h : Q (.ref s.heap.objs.size) { s with heap := s.heap.push { cls := .type "tuple", data := .seq items.toList.reverse.toArray } }) : wpAny (model prog w) A (getItem (.ref t) (.ref sl)) Q E s := by
  obtain ⟨os, hos, hcs, hds⟩ := id hs
  have tS : s.TypeIs (.ref sl) "slice" := ⟨os, hos, hcs⟩
  have fits : sizeOk (.seq items.toList.reverse.toArray) := by
    show items.toList.reverse.toArray.size ≤ sizeLine
    rw [List.size_toArray, List.length_reverse, Array.length_toList]
    exact hz
  unfold getItem
  try with_reducible refine wpAny_holding ?_
  first | refine wpAny_bind (wpAny_pure ?_) | skip
  refine wpAny_bind (wpAny_sequenceKey ht.typeIs (by decide) (wpAny_bind (wpAny_callSpecial?_slot (name := Str.ofString "__getitem__") ht.typeIs PyProof.Rows.slot_tuple_getitem (wpAny_call_entry PyProof.Rows.slot_tuple_getitem ht.typeIs entry_tuple_getitem ?_ (args_tuple_getitem _ _)))))
  refine wpAny_bind (m := Builtin.Tuple.tupleItemsOf (.ref t)) (tupleItemsOf_ ht (wpAny_bind (wpAny_typeOf tS ?_)))
  rw [if_pos (by decide)]
  have key : ∀ {R : Int × Int × Nat → Shared → Prop} {E' : Value → Shared → Prop}, R ((items.size : Int) - 1, -1, items.size) s → wpAny (model prog w) A.in1 (Builtin.Slice.sliceApplied (.ref sl) (pure (items.size : Int))) R E' s := fun {R E'} hr => by
    unfold Builtin.Slice.sliceApplied Builtin.Slice.sliceFields
    refine wpAny_bind (wpAny_bind (wpAny_field hos hds (x := .none) rfl (wpAny_bind (wpAny_field hos hds (x := .none) rfl (wpAny_bind (wpAny_field hos hds (x := vk) rfl (wpAny_pure ?_)))))))
    refine wpAny_bind (HT.slicePart_ pk ?_)
    show wpAny _ _ (if ((-1 : Int) == 0) = true then _ else _) _ _ s
    rw [if_neg (by decide)]
    refine wpAny_bind (slicePart_none (wpAny_bind (slicePart_none (wpAny_bind (wpAny_pure ?_)))))
    have e1 : Builtin.Slice.sliceAdjust none none (-1) (items.size : Int) = ((items.size : Int) - 1, -1) := rfl
    have e2 : Builtin.Slice.slicePlaces ((items.size : Int) - 1) (-1) (-1) = items.size := by
      unfold Builtin.Slice.slicePlaces
      rw [if_neg (by decide), show (- (-1) : Int) = 1 from rfl, Int.ediv_one]
      split <;> omega
    show wpAny _ _ (match Builtin.Slice.sliceAdjust none none (-1) (items.size : Int) with | (lo, hi) => pure (lo, (-1 : Int), Builtin.Slice.slicePlaces lo hi (-1))) _ _ s
    rw [e1]
    show wpAny _ _ (pure ((items.size : Int) - 1, (-1 : Int), Builtin.Slice.slicePlaces ((items.size : Int) - 1) (-1) (-1))) _ _ s
    rw [e2]
    exact wpAny_pure hr
  refine wpAny_bind (key ?_)
  have hno : ¬ ((((items.size : Int) - 1) == 0 && (-1 : Int) == 1 && items.size == items.size) = true) := by simp
  show wpAny _ _ (if (((items.size : Int) - 1) == 0 && (-1 : Int) == 1 && items.size == items.size) = true then _ else _) _ _ s
  rw [if_neg hno, pick_rev]
  first
    | exact wpAny_bind (m := Builtin.Tuple.tupleExact _) (wpAny_newObj_type (wpAny_pure ⟨_, rfl, wpAny_pure h⟩) fits)
    | exact wpAny_bind (m := Builtin.Tuple.tupleExact _) (wpAny_newObj_type (wpAny_bind (wpAny_pure (wpAny_pure ⟨_, rfl, wpAny_pure h⟩))) fits)
    | exact wpAny_bind (wpAny_bind (m := Builtin.Tuple.tupleExact _) (wpAny_newObj_type (wpAny_pure (wpAny_pure ⟨_, rfl, wpAny_pure h⟩)) fits))
    | exact wpAny_bind (wpAny_bind (m := Builtin.Tuple.tupleExact _) (wpAny_newObj_type (wpAny_pure ⟨_, rfl, wpAny_pure h⟩) fits))
end
def tRevT (K : PySem.W.Frag) (te : TE) : TE := fun σ H Q => te σ H fun x H1 => ∃ a xs, x = .ref a ∧ SqT K H1 a xs ∧ ∀ p, H1 p = none → Q (.ref p) (L2.upd H1 p (.tup xs.reverse))
theorem pe_revT {X : Cx} {pos : Pos} {e : Expr} {te : TE} {k : Nat} {p1 p2 p3 : Pos} (he : PE X e te) : PE X (.Subscript e (.Slice none none (some (.UnaryOp .USub (.Constant (.int 1) k p1) p2)) p3) pos) (tRevT X.K te) := by
  refine ⟨fun pins s σ H Q I h => Subscript_ (thn (he.run pins s σ H _ I h) fun v s1 ⟨x, H1, I1, r1, a, xs, ex, hx, q⟩ => ?_)⟩
  subst ex
  cases r1
  have hst : PO X (some (.UnaryOp .USub (.Constant (.int 1) k p1) p2)) (tPart (tUn (rU fun i => .int (-i)) (tC (.int 1)))) := po_some (pe_un un_neg pe_int)
  refine wpAny_Slice (thn (po_none.run pins s1 σ H1 (fun o H2 => o = none ∧ H2 = H1) I1 ⟨rfl, rfl⟩) fun vl s2 ⟨l, H2, I2, pl, el, e2⟩ => ?_)
  subst el e2
  refine thn (po_none.run pins s2 σ H2 (fun o H3 => o = none ∧ H3 = H2) I2 ⟨rfl, rfl⟩) fun vu s3 ⟨u, H3, I3, pu, eu, e3⟩ => thn (hst.run pins s3 σ H3 (fun o H4 => o = some (-1) ∧ H4 = H3) I3 ⟨1, rfl, -1, rfl, rfl, rfl⟩) fun vs s4 ⟨o, H4, I4, ps, eo, e4⟩ => ?_
  subst eu e3 eo e4
  have I5 : Inv X pins σ H4 { s4 with heap := s4.heap.push { cls := .type "slice", data := .fields #[vl, vu, vs] } } := I4.kept (t' := s4.toks) fun b ob q => Heap.get?_push_of_some _ q
  obtain ⟨its, r, ht, hz⟩ := I5.tuple hx
  cases pl
  cases pu
  show wpAny (model X.prog X.w) X.A (subscriptTail e (.Slice none none (some (.UnaryOp .USub (.Constant (.int 1) k p1) p2)) p3) (.ref a) (.ref s4.heap.objs.size)) (EP X pins σ Q) X.xe
    { s4 with heap := s4.heap.push { cls := .type "slice", data := .fields #[.none, .none, vs] } }
  refine tail_any (ops := [.ref a, .ref s4.heap.objs.size]) ht.typeIs PyProof.Rows.slot_tuple_getitem.lookup (getItem_tuple_rev ht (Heap.IsSliceOf.new _ .none .none vs) ps (by rw [List.size_toArray, ← r.length]; exact hz) ?_) (by with_unfolding_all rfl)
  refine ⟨.ref _, _, I5.laid (t' := s4.toks) (o := .tup xs.reverse) (fun b ob q => Heap.get?_push_of_some _ q) (Nat.le_refl _) ⟨by rw [List.length_reverse]; exact hz, its.reverse, r.reverse, ?_⟩, rfl, q _ (I5.hok.fresh (Nat.le_refl _))⟩
  exact IsTup.new _ _
section
variable {C : SC} {sc : Scope} {e : Expr} {f : ESem} {pos : Pos}
def revTD : D → Option D
  | .tup xs => some (.tup xs.reverse)
  | _ => none
theorem se_revT {k : Nat} {p1 p2 p3 : Pos} (ha : SP C sc e f) : SE C sc (.Subscript e (.Slice none none (some (.UnaryOp .USub (.Constant (.int 1) k p1) p2)) p3) pos) (un revTD f) := by
  refine SE.of (t := tRevT C.K (te C sc e)) (fun X hX => ?_) fun q B0 H0 B H σ env st d st' Q g0 hf k => ?_
  · have z : PE X (.Subscript e (.Slice none none (some (.UnaryOp .USub (.Constant (.int 1) k p1) p2)) p3) pos) (tRevT X.K (te C sc e)) := pe_revT (pe_te hX)
    rw [hX.K] at z
    exact z
  · obtain ⟨x, s1, h1, h2⟩ := M.bd_some hf
    obtain ⟨h3, rfl⟩ := M.lf_some h2
    unfold revTD at h3
    split at h3
    · rename_i xs
      cases h3
      refine ha q B0 H0 B H σ env st _ _ _ g0 h1 fun v B1 H1 e1 d1 r1 => ?_
      obtain ⟨a, vs, rfl, w1, w2, _⟩ := r1.tup C.TK e1.s
      refine ⟨a, vs, rfl, w1, fun p hp => ?_⟩
      have e2 := Ext0.new e1.s (o := .tup vs.reverse) hp
      exact k _ _ _ (e1.trans g0.dr e2.ext ⟨_, d1⟩) (d1.mono e2.h) (.tup (.inl upd_same) (w2.reverse.mono e2.b))
    · cases h3
end
/-! ### sum of a tuple, min of a list of tuples -/
section
variable {X : Cx}
def rSumT (K : PySem.W.Frag) : List V → Hp → VK → Prop := fun vs H Q => ∃ (a : Addr) (ns : List Int), vs = [V.ref a] ∧ SqT K H a (ns.map V.int) ∧ Q (.int ns.sum) H
theorem cr_sumT (hc : X.calm = true) : CallR X (.builtin "sum") (rSumT X.K) := by
  intro pins s σ H vs us Q I r h
  obtain ⟨a, ns, rfl, hs, q⟩ := h
  obtain ⟨its, rv, ⟨o, ho, hcl, n, hd⟩, _⟩ := I.tuple hs
  rw [Vals.ref1 r]
  obtain ⟨xs, e⟩ := rv.ints.allInts.items
  have hn : numsOf (intItems xs).toList = ns := by rw [← e]; exact rv.ints.numsOf
  rw [nums_intItems] at hn
  refine PySem.W.ktm_sumG (xs := xs) (I.ok.hd hc) ⟨o, ho, hcl, n, by rw [← e]; exact hd⟩ fun h' tk t' hk => ⟨.int ns.sum, H, I.kept hk, ⟨t', ?_⟩, q⟩
  rw [preSum_eq, List.take_of_length_le (by simp), hn]
def bestT (nss : List (List Int)) : Nat := argBest (fun i j => HT.lexLt ((nss[i]?).getD []) ((nss[j]?).getD [])) (nss.length - 1)
def rMinTs (K : PySem.W.Frag) : List V → Hp → VK → Prop := fun vs H Q => ∃ (a : Addr) (xs : List V) (nss : List (List Int)) (v : V), vs = [V.ref a] ∧ SqL K H a xs ∧ xs.length = nss.length ∧ (∀ (i : Nat) (x : V), xs[i]? = some x → ∃ ns, nss[i]? = some ns ∧ TupI K H x ns) ∧
  0 < nss.length ∧ xs[bestT nss]? = some v ∧ Q v H
theorem cr_minTs (hc : X.calm = true) (hu : X.A.units + 1 < cLine) : CallR X (.builtin "min") (rMinTs X.K) := by
  intro pins s σ H vs us Q I r h
  obtain ⟨a, xs, nss, v, rfl, hs, hl, hx, h0, hv, q⟩ := h
  rw [Vals.ref1 r]
  obtain ⟨its, rv, hli, _⟩ := I.list hs
  have lt : a < s.heap.objs.size := by obtain ⟨_, e, _⟩ := hli.isList; exact Heap.lt_size e
  have ll : its.length = nss.length := by rw [← rv.length]; exact hl
  refine PySem.call_min_walkH (wpAny_pyIter_list hli.isList ?_)
  have W := (Walks.list (prog := X.prog) (w := X.w) (A := X.A.in1) (I.ok.hd hc) s.heap.objs.size a (Nat.ne_of_lt lt) its.toArray).toS
  have hsz : its.toArray.size = nss.length := by rw [List.size_toArray]; exact ll
  rw [hsz] at W
  refine ⟨s.heap.objs.size, _, _, _, _, _, _, s.heap, fun i j => HT.lexLt ((nss[i]?).getD []) ((nss[j]?).getD []), rfl, W, ⟨⟨_, Heap.get?_push_size _ rfl, rfl, rfl⟩, hli.isList.push _⟩, fun b hb => ?_, h0, fun b o e hb => ?_, fun b o e => Heap.get?_push_of_some _ e, ?_, fun u s' hP hm => ?_⟩
  · rw [Heap.size_push]
    rcases List.mem_cons.mp hb with rfl | hb
    · exact Nat.lt_succ_self _
    · obtain rfl := List.mem_singleton.mp hb
      exact Nat.lt_succ_of_lt lt
  · exact absurd (Heap.lt_size e) ((List.mem_singleton.mp hb) ▸ Nat.lt_irrefl _)
  · intro i j vi vj s0 Q0 E0 hk hi hj hq
    have get : ∀ {i : Nat} {vi : Value}, its.toArray[i]? = some vi → ∃ ns t items, nss[i]? = some ns ∧ vi = .ref t ∧ IsTup s0.heap t items ∧ IntsAre items.toList ns := fun {i vi} hi => by
      have hi' : its[i]? = some vi := by rw [← Array.getElem?_toList] at hi; exact hi
      have li : i < xs.length := by rw [rv.length]; exact (List.getElem?_eq_some_iff.mp hi').1
      obtain ⟨ns, e1, t, e2, e3⟩ := hx i _ (List.getElem?_eq_getElem li)
      obtain ⟨u, e4, e5⟩ := rv.get (List.getElem?_eq_getElem li)
      rw [hi'] at e4
      cases e4
      rw [e2] at e5
      cases e5
      obtain ⟨b, zs, e6, ⟨o, ho, w1, w2⟩, e7⟩ := tupI_raw I e3
      cases e6
      exact ⟨ns, t, zs, e1, rfl, ⟨o, hk _ _ ho, w1, w2⟩, e7⟩
    obtain ⟨n1, t1, i1, a1, rfl, a3, a4⟩ := get hi
    obtain ⟨n2, t2, i2, b1, rfl, b3, b4⟩ := get hj
    dsimp only at hq
    rw [a1, b1] at hq
    exact HT.lt_tupInts a3 b3 a4 b4 hu hq
  · have hP' : its[bestT nss]? = some u := by
      have z : its.toArray[bestT nss]? = some u := hP
      rw [← Array.getElem?_toList] at z
      exact z
    obtain ⟨u', e1, e2⟩ := rv.get hv
    rw [hP'] at e1
    cases e1
    obtain ⟨h', g', d', tk', os'⟩ := s'
    have e1 : g' = s.gens := hm.gens
    have e2' : d' = s.drawn := hm.drawn
    have e3 : os' = s.os := hm.os
    subst e1 e2' e3
    refine ⟨v, H, I.kept (h' := h') (t' := tk') fun b o e => hm.heap b o (fun hb => absurd (Heap.lt_size e) ((List.mem_singleton.mp hb) ▸ Nat.lt_irrefl _)) (Heap.get?_push_of_some _ e), e2, q⟩
end
end Y
end

section
set_option Elab.async false
set_option linter.all false
set_option maxRecDepth 100000
set_option autoImplicit false
namespace Y
open PySem PySem.Spec L2
open PyProof.Rows hiding St
section
variable {T K : PySem.W.Frag} {q : QA} {B H : Hp}
/-! ### sum, min -/
def seqOf : D → Option (List D)
  | .lst xs => some xs
  | .tup xs => some xs
  | _ => none
def sumAD : List D → Option D
  | [d] => (seqOf d).bind fun xs => (allI xs).map fun ns => .int ns.sum
  | _ => none
def rSumA (K : PySem.W.Frag) : List V → Hp → VK → Prop := fun vs H Q => rSum K vs H Q ∨ rSumT K vs H Q
theorem cr_sumA {X : Cx} (hc : X.calm = true) : CallR X (.builtin "sum") (rSumA X.K) := (cr_sum hc).or (cr_sumT hc)
theorem cd_sumA (t : Sub T K) : CallD T (rSumA K) sumAD := by
  intro q B H ds vs d s hp hg Q k
  unfold sumAD at hg
  split at hg
  · obtain ⟨xs, h1, h2⟩ := Option.bind_eq_some_iff.mp hg
    obtain ⟨ns, h3, rfl⟩ := Option.map_eq_some_iff.mp h2
    obtain ⟨v, rfl, h⟩ := hp.one
    unfold seqOf at h1
    split at h1
    · cases h1
      obtain ⟨a, ws, rfl, w1, w2⟩ := h.lst s
      have := w2.ints h3
      subst this
      exact .inl ⟨a, ns, rfl, .inl (.inl w1), k _ _ _ (Ext0.refl s) (.int _)⟩
    · cases h1
      obtain ⟨a, ws, rfl, w1, w2, _⟩ := h.tup t s
      have := w2.ints h3
      subst this
      exact .inr ⟨a, ns, rfl, w1, k _ _ _ (Ext0.refl s) (.int _)⟩
    · cases h1
  · cases hg
def tupI : D → Option (List Int)
  | .tup xs => allI xs
  | _ => none
def allTI : List D → Option (List (List Int))
  | [] => some []
  | d :: ds => match tupI d, allTI ds with
    | some ns, some r => some (ns :: r)
    | _, _ => none
def tupD (ns : List Int) : D := .tup (ns.map .int)
theorem allI_inv : ∀ {ds : List D} {ns : List Int}, allI ds = some ns → ds = ns.map .int
  | [], _, h => by cases h; rfl
  | d :: ds, _, h => by
    unfold allI at h
    split at h
    · rename_i i r e0 e
      cases h
      rw [List.map_cons, ← allI_inv e, ← asI_some e0]
    · cases h
theorem allI_map : ∀ ns : List Int, allI (ns.map D.int) = some ns
  | [] => rfl
  | n :: ns => by rw [List.map_cons, allI, allI_map ns]; rfl
theorem tupI_inv {d : D} {ns : List Int} (h : tupI d = some ns) : d = tupD ns := by
  cases d <;> first | cases h | skip
  rw [tupD, ← allI_inv h]
theorem allTI_inv : ∀ {ds : List D} {nss : List (List Int)}, allTI ds = some nss → ds = nss.map tupD
  | [], _, h => by cases h; rfl
  | d :: ds, _, h => by
    unfold allTI at h
    split at h
    · rename_i i r e1 e2
      cases h
      rw [List.map_cons, ← allTI_inv e2, ← tupI_inv e1]
    · cases h
theorem rep_tupI (t : Sub T K) (s : Same B H) {ns : List Int} {v : V} (h : Rep T q B (tupD ns) v) : TupI K H v ns := by
  cases h with
  | tup h1 h2 =>
    have := h2.ints (bs := ns) (allI_map ns)
    subst this
    exact ⟨_, rfl, h1.sq t s⟩
def minAD : List D → Option D
  | [.lst xs] => match allI xs with
    | some ns => (minI ns).map .int
    | none => (allTI xs).bind fun nss => if nss.length = 0 then none else xs[bestT nss]?
  | _ => none
def rMinA (K : PySem.W.Frag) : List V → Hp → VK → Prop := fun vs H Q => rMin K vs H Q ∨ rMinTs K vs H Q
theorem cr_minA {X : Cx} (hc : X.calm = true) (hu : X.A.units + 1 < cLine) : CallR X (.builtin "min") (rMinA X.K) := (cr_min hc).or (cr_minTs hc hu)
theorem cd_minA (t : Sub T K) : CallD T (rMinA K) minAD := by
  intro q B H ds vs d s hp hg Q k
  unfold minAD at hg
  split at hg
  · rename_i xs
    split at hg
    · rename_i ns e
      refine .inl (cd_min (K := K) q B H _ vs d s hp ?_ Q k)
      show (allI xs).bind _ = _
      rw [e]
      exact hg
    · obtain ⟨nss, h1, h2⟩ := Option.bind_eq_some_iff.mp hg
      split at h2
      · cases h2
      · rename_i h0
        obtain ⟨v, rfl, h⟩ := hp.one
        obtain ⟨a, ws, rfl, w1, w2⟩ := h.lst s
        have e := allTI_inv h1
        obtain ⟨u, hu, ru⟩ := w2.get h2
        refine .inr ⟨a, ws, nss, u, rfl, .inl (.inl w1), ?_, fun i x hx => ?_, by omega, hu, k u B H (Ext0.refl s) ru⟩
        · rw [← w2.length, e, List.length_map]
        · obtain ⟨y, hy, ry⟩ := w2.get' hx
          rw [e, List.getElem?_map] at hy
          obtain ⟨ns, hn, rfl⟩ := Option.map_eq_some_iff.mp hy
          exact ⟨ns, hn, rep_tupI t s ry⟩
  · cases hg
/-! ### sorted -/
abbrev BB : Int := 1000000000000
def insC (x : List Int) : List (List Int) → List (List Int)
  | [] => [x]
  | y :: ys => if TS.code BB x ≤ TS.code BB y then x :: y :: ys else y :: insC x ys
def sortC : List (List Int) → List (List Int)
  | [] => []
  | x :: xs => insC x (sortC xs)
theorem insC_perm (x : List Int) : ∀ ys, (insC x ys).Perm (x :: ys)
  | [] => .refl _
  | y :: ys => by
    unfold insC
    split
    · exact .refl _
    · exact ((insC_perm x ys).cons y).trans (.swap x y ys)
theorem sortC_perm : ∀ xs, (sortC xs).Perm xs
  | [] => .refl _
  | x :: xs => (insC_perm x (sortC xs)).trans ((sortC_perm xs).cons x)
abbrev CLe (x y : List Int) : Prop := TS.code BB x ≤ TS.code BB y
theorem insC_sorted (x : List Int) : ∀ ys, ys.Pairwise CLe → (insC x ys).Pairwise CLe
  | [], _ => by simp [insC]
  | y :: ys, h => by
    unfold insC
    split
    · rename_i hxy
      refine List.pairwise_cons.mpr ⟨fun z hz => ?_, h⟩
      rcases List.mem_cons.mp hz with rfl | hz
      · exact hxy
      · exact Int.le_trans hxy ((List.pairwise_cons.mp h).1 z hz)
    · rename_i hxy
      refine List.pairwise_cons.mpr ⟨fun z hz => ?_, insC_sorted x ys (List.pairwise_cons.mp h).2⟩
      rcases List.mem_cons.mp ((insC_perm x ys).mem_iff.mp hz) with rfl | hz
      · show TS.code BB y ≤ TS.code BB z
        omega
      · exact (List.pairwise_cons.mp h).1 z hz
theorem sortC_sorted : ∀ xs, (sortC xs).Pairwise CLe
  | [] => .nil
  | x :: xs => insC_sorted x _ (sortC_sorted xs)
theorem code_inj : ∀ {x y : List Int}, x.length = y.length → TS.Bd BB x → TS.Bd BB y → TS.code BB x = TS.code BB y → x = y
  | [], [], _, _, _, _ => rfl
  | [], _ :: _, h, _, _, _ => by cases h
  | _ :: _, [], h, _, _, _ => by cases h
  | a :: x, b :: y, h, h1, h2, e => by
    have hl : x.length = y.length := by simpa using h
    rcases Int.lt_trichotomy a b with z | z | z
    · have := TS.code_lt hl h1.tail h2.tail z; omega
    · subst z
      have e' : TS.code BB x = TS.code BB y := by
        have e0 : a * BB ^ x.length + TS.code BB x = a * BB ^ y.length + TS.code BB y := e
        rw [hl] at e0
        omega
      rw [code_inj hl h1.tail h2.tail e']
    · have := TS.code_lt hl.symm h2.tail h1.tail z; omega
theorem sortC_uniq {d : Nat} : ∀ {xs ys : List (List Int)}, xs.Perm ys → xs.Pairwise CLe → ys.Pairwise CLe → (∀ x ∈ xs, x.length = d ∧ TS.Bd BB x) → xs = ys
  | [], ys, h, _, _, _ => (List.nil_perm.mp h).symm
  | x :: xs, [], h, _, _, _ => by cases List.perm_nil.mp h
  | x :: xs, y :: ys, h, hx, hy, hb => by
    have e : x = y := by
      have mx : x ∈ y :: ys := h.mem_iff.mp List.mem_cons_self
      have my : y ∈ x :: xs := h.mem_iff.mpr List.mem_cons_self
      have h1 : TS.code BB y ≤ TS.code BB x := by
        rcases List.mem_cons.mp mx with e | e
        · rw [e]; exact Int.le_refl _
        · exact (List.pairwise_cons.mp hy).1 x e
      have h2 : TS.code BB x ≤ TS.code BB y := by
        rcases List.mem_cons.mp my with e | e
        · rw [e]; exact Int.le_refl _
        · exact (List.pairwise_cons.mp hx).1 y e
      exact code_inj ((hb x List.mem_cons_self).1.trans (hb y my).1.symm) (hb x List.mem_cons_self).2 (hb y my).2 (Int.le_antisymm h2 h1)
    subst e
    rw [sortC_uniq h.cons_inv (List.pairwise_cons.mp hx).2 (List.pairwise_cons.mp hy).2 fun z hz => hb z (List.mem_cons_of_mem _ hz)]
theorem rep_perm {xs ys : List V} (h : ys.Perm xs) : ∀ {ds : List D}, RepL T q B ds xs → ∃ ds', ds'.Perm ds ∧ RepL T q B ds' ys := by
  induction h with
  | nil => intro ds r; exact ⟨ds, .refl _, r⟩
  | cons x _ ih =>
    intro ds r
    cases r with
    | cons a b =>
      obtain ⟨ds', p, r'⟩ := ih b
      exact ⟨_ :: ds', p.cons _, .cons a r'⟩
  | swap x y l =>
    intro ds r
    cases r with
    | cons a b =>
      cases b with
      | cons c d => exact ⟨_, .swap _ _ _, .cons c (.cons a d)⟩
  | trans _ _ ih1 ih2 =>
    intro ds r
    obtain ⟨d1, p1, r1⟩ := ih2 r
    obtain ⟨d2, p2, r2⟩ := ih1 r1
    exact ⟨d2, p2.trans p1, r2⟩
/-- tuples of one length, of small numbers -/
def okC (nss : List (List Int)) : Bool := nss.length < 64 && 1 ≤ ((nss.head?).getD [0]).length && nss.all fun ns => ns.length == ((nss.head?).getD [0]).length && ns.all fun n => decide (0 ≤ n ∧ n < BB)
theorem okC_ok {nss : List (List Int)} (h : okC nss = true) : nss.length < 64 ∧ ∃ d, 1 ≤ d ∧ ∀ x ∈ nss, x.length = d ∧ TS.Bd BB x := by
  unfold okC at h
  simp only [Bool.and_eq_true, decide_eq_true_eq, List.all_eq_true, beq_iff_eq] at h
  exact ⟨h.1.1, _, h.1.2, fun x hx => ⟨(h.2 x hx).1, fun m hm => (h.2 x hx).2 m hm⟩⟩
theorem sortT_end (t : Sub T K) (s : Same B H) {nss : List (List Int)} {ds : List D} {xs ys : List V} {d : Nat} (hd : ∀ x ∈ nss, x.length = d ∧ TS.Bd BB x) (hds : ds = nss.map tupD) (r : RepL T q B ds xs) (hp : ys.Perm xs)
    (hw : ys.Pairwise (fun x y => ∀ n m, TupI K H x n → TupI K H y m → TS.code BB n ≤ TS.code BB m)) : RepL T q B ((sortC nss).map tupD) ys := by
  obtain ⟨ds', p, r'⟩ := rep_perm hp r
  subst hds
  have hm : ∀ {ds' : List D} {ys : List V}, RepL T q B ds' ys → (∀ x ∈ ds', ∃ ns ∈ nss, x = tupD ns) → ys.Pairwise (fun x y => ∀ n m, TupI K H x n → TupI K H y m → TS.code BB n ≤ TS.code BB m) → ∃ mss : List (List Int), ds' = mss.map tupD ∧ mss.Pairwise CLe := by
    intro ds' ys r
    induction ys generalizing ds' with
    | nil => intro _ _; cases r; exact ⟨[], rfl, .nil⟩
    | cons y ys ih =>
      intro hx hpw
      cases r with
      | cons a b =>
        rename_i d0 ds0
        obtain ⟨mss, e, pw⟩ := ih b (fun x hx' => hx x (List.mem_cons_of_mem _ hx')) (List.pairwise_cons.mp hpw).2
        obtain ⟨ns, _, e0⟩ := hx d0 List.mem_cons_self
        subst e0
        refine ⟨ns :: mss, by rw [List.map_cons, ← e], List.pairwise_cons.mpr ⟨fun ms hms => ?_, pw⟩⟩
        obtain ⟨j, hj⟩ := List.mem_iff_getElem?.mp hms
        have hj2 : ds0[j]? = some (tupD ms) := by rw [e, List.getElem?_map, hj]; rfl
        obtain ⟨v, hv, rv⟩ := b.get hj2
        exact (List.pairwise_cons.mp hpw).1 v (List.mem_of_getElem? hv) ns ms (rep_tupI t s a) (rep_tupI t s rv)
  obtain ⟨mss, e, pw⟩ := hm r' (fun x hx => by
    obtain ⟨ns, h1, h2⟩ := List.mem_map.mp (p.mem_iff.mp hx)
    exact ⟨ns, h1, h2.symm⟩) hw
  have hinj : ∀ {a b : List Int}, tupD a = tupD b → a = b := fun {a b} h => by
    have h' : a.map D.int = b.map D.int := by injection h
    exact (List.map_inj_right (fun x y hxy => by injection hxy)).mp h'
  have pm : mss.Perm nss := by
    rw [e] at p
    have back : ∀ {l m : List D}, l.Perm m → (l.filterMap tupI).Perm (m.filterMap tupI) := fun h => h.filterMap _
    have z := back p
    have id' : ∀ l : List (List Int), (l.map tupD).filterMap tupI = l := fun l => by
      induction l with
      | nil => rfl
      | cons a l ih =>
        have ea : tupI (tupD a) = some a := by
          exact allI_map a
        rw [List.map_cons, List.filterMap_cons, ea, ih]
    rw [id', id'] at z
    exact z
  have eq := sortC_uniq (pm.trans (sortC_perm nss).symm) pw (sortC_sorted nss) fun x hx => hd x (pm.mem_iff.mp hx)
  rw [e, eq] at r'
  exact r'
end
end Y
end

section
set_option Elab.async false
set_option linter.all false
set_option maxRecDepth 100000
set_option autoImplicit false
namespace Y
open PySem PySem.Spec L2
open PyProof.Rows hiding St
section
variable {X : Cx}
def rSortedTI (K : PySem.W.Frag) : List V → Hp → VK → Prop := fun vs H Q => ∃ (a : Addr) (ns : List Int), vs = [V.ref a] ∧ SqT K H a (ns.map V.int) ∧ ns.length < 64 ∧
  ∀ (ys : List Int) (p : Addr), ys.Perm ns → ys.Pairwise (· ≤ ·) → H p = none → Q (.ref p) (L2.upd H p (.lst (ys.map V.int)))
theorem cr_sortedTI : CallR X (.builtin "sorted") (rSortedTI X.K) := by
  intro pins s σ H vs us Q I r h
  obtain ⟨a, ns, rfl, hs, h64, q⟩ := h
  rw [Vals.ref1 r]
  exact sortedC_I I (gives_tup I hs) h64 q
def rSortedUD (K : PySem.W.Frag) : List V → Hp → VK → Prop := fun vs H Q => ∃ d, 1 ≤ d ∧ rSortU K d BB vs H Q
theorem cr_sortedUD : CallR X (.builtin "sorted") (rSortedUD X.K) := by
  intro pins s σ H vs us Q I r ⟨d, hd, h⟩
  exact cr_sortT hd pins s σ H vs us Q I r h
def rSortedDI : List V → Hp → VK → Prop := fun xs H Q => ∃ (a : Addr) (kvs : List (Key × V)) (ks : List Int), xs = [.ref a] ∧ Rd H a (.dK kvs) ∧ kvs.map (·.1) = ks.map Sum.inl ∧ ks.length < 64 ∧
    ∀ (ys : List Int) (p : Addr), ys.Perm ks → ys.Pairwise (· ≤ ·) → H p = none → Q (.ref p) (L2.upd H p (.lst (ys.map V.int)))
/-- sorted(d), the keys tuples of ints -/
def rSortedDT (K : PySem.W.Frag) : List V → Hp → VK → Prop := fun vs H Q => ∃ (a : Addr) (kvs : List (List Key × V)) (d : Nat), vs = [V.ref a] ∧ Rd H a (.dT kvs) ∧ 1 ≤ d ∧ kvs.length < 64 ∧ (∀ p ∈ kvs, ∃ ns : List Int, p.1 = ns.map Sum.inl ∧ ns.length = d ∧ TS.Bd BB ns) ∧
  ∀ (bs : List Addr), IsKeys H kvs bs → ∀ (ys : List V) (p : Addr), ys.Perm (bs.map V.ref) → ys.Pairwise (fun x y => ∀ n m, TupI K H x n → TupI K H y m → TS.code BB n ≤ TS.code BB m) → H p = none → Q (.ref p) (L2.upd H p (.lst ys))
theorem isKeys_mem {H : Hp} {kvs : List (List Key × V)} {bs : List Addr} (h : IsKeys H kvs bs) : ∀ b ∈ bs, ∃ p ∈ kvs, H b = some (.tup (p.1.map kV)) := by
  unfold IsKeys at h
  induction h with
  | nil => intro b hb; cases hb
  | @cons p b ps bs hp t ih =>
    intro c hc
    rcases List.mem_cons.mp hc with rfl | hc
    · exact ⟨p, List.mem_cons_self, hp⟩
    · obtain ⟨p', h1, h2⟩ := ih c hc
      exact ⟨p', List.mem_cons_of_mem _ h1, h2⟩
theorem isKeys_len {H : Hp} {kvs : List (List Key × V)} {bs : List Addr} (h : IsKeys H kvs bs) : kvs.length = bs.length := Paired.length h
theorem cr_sortedDT (hc : X.calm = true) : CallR X (.builtin "sorted") (rSortedDT X.K) := by
  intro pins s σ H vs us Q I r h
  obtain ⟨a, kvs, d, rfl, hd, hd1, h64, hk, q⟩ := h
  rw [Vals.ref1 r]
  have g := gives_dT hc I hd
  -- the keys' addresses are one list
  obtain ⟨z, hs, ks, pr, o, es, ep, ho, hx, hdt, he, hn⟩ := (show ObjOk X.prog X.w H s.heap a (.dT kvs) from hd.ok I.hok)
  have ik := isKeys_of pr
  refine sortedC_T (xs := (ks.map fun x => x.2.1).map V.ref) hd1 I (fun R k => ?_) (by rw [List.length_map, ← isKeys_len ik]; exact h64) (fun x hx' => ?_) (q _ ik)
  · have l1 : es.size = ks.length := size_of_entries he
    refine PySem.W.kdu_collect (A := X.A.in1) (kdl_raw hs hx hdt) (I.ok.hd hc) ho (by have := Paired.length pr; omega) fun h' tk acc hk' it => k h' tk _ hk' ?_
    have ll : acc.toList.length = ks.length := by rw [Array.length_toList, it.1]; exact l1
    have e : acc.toList = (ks.map fun x => x.2.1).map Value.ref := by
      refine List.ext_getElem? fun j => ?_
      rw [List.getElem?_map, List.getElem?_map]
      cases hj : acc.toList[j]? with
      | none => rw [List.getElem?_eq_none (by have := List.getElem?_eq_none_iff.mp hj; omega)]; rfl
      | some v =>
        obtain ⟨en, hen, hv⟩ := it.2 j v (by rw [← Array.getElem?_toList]; exact hj)
        have qe := entry_at he j
        rw [hen] at qe
        cases hb : ks[j]? with
        | none => rw [hb] at qe; cases qe
        | some b =>
          rw [hb] at qe
          have e2 : en = entryOfKey (tupleKind (mixKind X.prog X.w)) b := Option.some.inj qe
          rw [hv, e2]
          rfl
    rw [e]
    exact vals_refs _
  · obtain ⟨b, hb, rfl⟩ := List.mem_map.mp hx'
    obtain ⟨p, hp, hH⟩ := isKeys_mem ik b hb
    obtain ⟨ns, e1, e2, e3⟩ := hk p hp
    refine ⟨ns, ⟨b, rfl, .inl (.inl ?_)⟩, e2, e3⟩
    rw [hH, e1, List.map_map]
    rfl
def rSortA (K : PySem.W.Frag) : List V → Hp → VK → Prop := fun vs H Q => rSortedI K vs H Q ∨ rSortedUD K vs H Q ∨ rSortedTI K vs H Q ∨ rSortedDI vs H Q ∨ rSortedDT K vs H Q
theorem cr_sortA (hc : X.calm = true) : CallR X (.builtin "sorted") (rSortA X.K) := cr_sortedI.or (cr_sortedUD.or (cr_sortedTI.or ((show CallR X (.builtin "sorted") rSortedDI from call_sortedDI hc).or (cr_sortedDT hc))))
end
section
variable {T K : PySem.W.Frag} {q : QA} {B H : Hp}
/-- the keys of a dict with tuples for keys go into the base -/
theorem keys_in (t : Sub T K) : ∀ {kvs : List (List Key × V)} {bs : List Addr} {B : Hp}, IsKeys H kvs bs → Same B H → ∃ B', Ext0 B H B' H ∧ RepL T q B' (kvs.map fun p => .tup (p.1.map keyD)) (bs.map V.ref) := by
  intro kvs bs B h
  unfold IsKeys at h
  induction h generalizing B with
  | nil => intro s; exact ⟨B, Ext0.refl s, .nil⟩
  | @cons p b ps bs hp _ ih =>
    intro s
    have key : ∃ B1, Ext0 B H B1 H ∧ B1 b = some (.tup (p.1.map kV)) := by
      cases e : B b with
      | some o =>
        have := s _ _ e
        rw [hp] at this
        cases this
        exact ⟨B, Ext0.refl s, e⟩
      | none =>
        refine ⟨L2.upd B b (.tup (p.1.map kV)), ⟨fun c o hc => by rw [upd_ne (ne_of_none hc e)]; exact hc, Same.refl _, fun c o hc => ?_, fun c h1 h2 => ?_⟩, upd_same⟩
        · by_cases z : c = b
          · subst z; rw [upd_same] at hc; rw [hp]; exact hc
          · rw [upd_ne z] at hc; exact s _ _ hc
        · by_cases z : c = b
          · subst z; exact .inr ⟨_, hp⟩
          · rw [upd_ne z] at h2; exact absurd h1 h2
    obtain ⟨B1, e1, h1⟩ := key
    obtain ⟨B2, e2, r⟩ := ih e1.s
    refine ⟨B2, e1.trans e2, .cons (.tup (.inl (e2.b _ _ h1)) ?_) r⟩
    have : ∀ ks : List Key, RepL T q B2 (ks.map keyD) (ks.map kV) := fun ks => by
      induction ks with
      | nil => exact .nil
      | cons k ks ih => exact .cons (rep_kV k) ih
    exact this _
theorem RepT.keyL : ∀ {ks : List (D × D)} {vs : List (List Key × V)}, RepT T q B ks vs → ks.map (·.1) = vs.map fun p => .tup (p.1.map keyD)
  | _, _, .nil => rfl
  | _, _, .cons h r => by rw [List.map_cons, List.map_cons, RepT.keyL r]
theorem RepK.keyL : ∀ {ks : List (D × D)} {vs : List (Key × V)}, RepK T q B ks vs → ks.map (·.1) = vs.map fun p => keyD p.1
  | _, _, .nil => rfl
  | _, _, .cons h r => by rw [List.map_cons, List.map_cons, RepK.keyL r]
theorem keyD_int {k : Key} {i : Int} (h : keyD k = .int i) : k = .inl i := by
  cases k <;> cases h <;> rfl
theorem keyD_ints : ∀ {ks : List Key} {ns : List Int}, ks.map keyD = ns.map D.int → ks = ns.map Sum.inl
  | [], [], _ => rfl
  | [], _ :: _, h => by cases h
  | _ :: _, [], h => by cases h
  | k :: ks, n :: ns, h => by
    rw [List.map_cons, List.map_cons] at h
    injection h with h1 h2
    rw [List.map_cons, keyD_int h1, keyD_ints h2]
def sortedAD : List D → Option D
  | [.lst xs] => match allI xs with
    | some ns => some (.lst ((sortI ns).map .int))
    | none => (allTI xs).bind fun nss => if okC nss = true then some (.lst ((sortC nss).map tupD)) else none
  | [.tup xs] => (allI xs).bind fun ns => if ns.length < 64 then some (.lst ((sortI ns).map .int)) else none
  | [.dic false kvs] => (allI (kvs.map (·.1))).bind fun ns => if ns.length < 64 then some (.lst ((sortI ns).map .int)) else none
  | [.dic true kvs] => (allTI (kvs.map (·.1))).bind fun nss => if okC nss = true then some (.lst ((sortC nss).map tupD)) else none
  | _ => none
theorem sortI_eq {ns ys : List Int} (h : ys.Perm ns) (p : ys.Pairwise (· ≤ ·)) : ys = sortI ns := sorted_uniq (h.trans (sortI_perm ns).symm) p (sortI_sorted ns)
theorem cf_sortA (t : Sub T K) : CallF T (rSortA K) sortedAD := by
  intro q B H ds vs d s hp hg Q k
  have fin : ∀ (ys : List Int) (p : Addr), H p = none → d = .lst (ys.map .int) → Q (.ref p) (L2.upd H p (.lst (ys.map V.int))) := fun ys p hp e => by
    rw [e] at k
    exact k _ _ _ (Ext0.own s hp) hp (Same.free s hp) (.lst upd_same (repL_ints _))
  unfold sortedAD at hg
  split at hg
  · rename_i xs
    split at hg
    · rename_i ns e
      cases hg
      obtain ⟨v, rfl, h⟩ := hp.one
      obtain ⟨a, ws, rfl, w1, w2⟩ := h.lst s
      have := w2.ints e
      subst this
      exact .inl ⟨a, ns, rfl, .inl (.inl w1), fun ys p pm pw hp => fin ys p hp (by rw [sortI_eq pm pw])⟩
    · obtain ⟨nss, h1, h2⟩ := Option.bind_eq_some_iff.mp hg
      split at h2
      · rename_i hok
        cases h2
        obtain ⟨h64, dl, hd1, hd⟩ := okC_ok hok
        obtain ⟨v, rfl, h⟩ := hp.one
        obtain ⟨a, ws, rfl, w1, w2⟩ := h.lst s
        have e := allTI_inv h1
        refine .inr (.inl ⟨dl, hd1, a, ws, rfl, .inl (.inl w1), by rw [← w2.length, e, List.length_map]; exact h64, fun x hx => ?_, fun ys p pm pw hp => ?_⟩)
        · obtain ⟨j, hj⟩ := List.mem_iff_getElem?.mp hx
          obtain ⟨y, hy, ry⟩ := w2.get' hj
          rw [e, List.getElem?_map] at hy
          obtain ⟨ns, hn, rfl⟩ := Option.map_eq_some_iff.mp hy
          exact ⟨ns, rep_tupI t s ry, hd ns (List.mem_of_getElem? hn)⟩
        · exact k _ _ _ (Ext0.own s hp) hp (Same.free s hp) (.lst upd_same (sortT_end t s hd e w2 pm pw))
      · cases h2
  · obtain ⟨ns, h1, h2⟩ := Option.bind_eq_some_iff.mp hg
    split at h2
    · rename_i h64
      cases h2
      obtain ⟨v, rfl, h⟩ := hp.one
      obtain ⟨a, ws, rfl, w1, w2, _⟩ := h.tup t s
      have := w2.ints h1
      subst this
      exact .inr (.inr (.inl ⟨a, ns, rfl, w1, h64, fun ys p pm pw hp => fin ys p hp (by rw [sortI_eq pm pw])⟩))
    · cases h2
  · obtain ⟨ns, h1, h2⟩ := Option.bind_eq_some_iff.mp hg
    split at h2
    · rename_i h64
      cases h2
      obtain ⟨v, rfl, h⟩ := hp.one
      obtain ⟨a, ws, rfl, w1, w2⟩ := h.dicK s
      refine .inr (.inr (.inr (.inl ⟨a, ws, ns, rfl, w1, ?_, h64, fun ys p pm pw hp => fin ys p hp (by rw [sortI_eq pm pw])⟩)))
      have e := allI_inv h1
      rw [w2.keyL] at e
      refine keyD_ints (ks := ws.map (·.1)) ?_
      rw [List.map_map]
      exact e
    · cases h2
  · obtain ⟨nss, h1, h2⟩ := Option.bind_eq_some_iff.mp hg
    split at h2
    · rename_i hok
      cases h2
      obtain ⟨h64, dl, hd1, hd⟩ := okC_ok hok
      obtain ⟨v, rfl, h⟩ := hp.one
      obtain ⟨a, ws, rfl, w1, w2⟩ := h.dicT s
      have e := allTI_inv h1
      rw [w2.keyL] at e
      have hlen : ws.length = nss.length := by have := congrArg List.length e; simpa using this
      refine .inr (.inr (.inr (.inr ⟨a, ws, dl, rfl, w1, hd1, by rw [hlen]; exact h64, fun p hp' => ?_, fun bs ik ys p pm pw hp => ?_⟩)))
      · obtain ⟨j, hj⟩ := List.mem_iff_getElem?.mp hp'
        have e2 := congrArg (fun l => l[j]?) e
        rw [List.getElem?_map, List.getElem?_map, hj] at e2
        obtain ⟨ns, hn, en⟩ := Option.map_eq_some_iff.mp e2.symm
        refine ⟨ns, keyD_ints ?_, hd ns (List.mem_of_getElem? hn)⟩
        have en' : D.tup (ns.map D.int) = D.tup (p.1.map keyD) := en
        injection en' with en'
        exact en'.symm
      · obtain ⟨B1, x1, r1⟩ := keys_in (q := q) t ik s
        have r2 := sortT_end t x1.s hd e r1 pm pw
        exact k _ _ _ (x1.trans (Ext0.own x1.s hp)) hp (Same.free x1.s hp) (.lst upd_same r2)
    · cases h2
  · cases hg
/-! ### list -/
def listAD : List D → Option D
  | [.lst xs] => some (.lst xs)
  | [.tup xs] => some (.lst xs)
  | [.dic _ kvs] => some (.lst (kvs.map (·.1)))
  | _ => none
def rListDT : List V → Hp → VK → Prop := fun xs H Q => ∃ d kvs, xs = [V.ref d] ∧ Rd H d (.dT kvs) ∧ ∀ p bs, H p = none → IsKeys H kvs bs → Q (.ref p) (L2.upd H p (.lst (bs.map V.ref)))
def rListAA (K : PySem.W.Frag) : List V → Hp → VK → Prop := fun xs H Q => rListA K xs H Q ∨ rListDic xs H Q ∨ rListDT xs H Q
theorem cf_listA (t : Sub T K) : CallF T (rListAA K) listAD := by
  intro q B H ds vs d s hp hg Q k
  unfold listAD at hg
  split at hg
  · exact .inl (cf_list t q B H _ vs d s hp hg Q k)
  · exact .inl (cf_list t q B H _ vs d s hp hg Q k)
  · rename_i tt kvs
    cases hg
    obtain ⟨v, rfl, h⟩ := hp.one
    cases tt with
    | false =>
      obtain ⟨a, ws, rfl, w1, w2⟩ := h.dicK s
      exact .inr (.inl ⟨a, ws, rfl, w1, fun p hp => k _ _ _ (Ext0.own s hp) hp (Same.free s hp) (.lst upd_same w2.keys)⟩)
    | true =>
      obtain ⟨a, ws, rfl, w1, w2⟩ := h.dicT s
      refine .inr (.inr ⟨a, ws, rfl, w1, fun p bs hp ik => ?_⟩)
      obtain ⟨B1, x1, r1⟩ := keys_in (q := q) t ik s
      rw [← w2.keyL] at r1
      exact k _ _ _ (x1.trans (Ext0.own x1.s hp)) hp (Same.free x1.s hp) (.lst upd_same r1)
  · cases hg
end
theorem cr_listA {X : Cx} (hc : X.calm = true) (h1 : CallR X (.type "list") (rListA X.K)) : CallR X (.type "list") (rListAA X.K) := h1.or ((show CallR X (.type "list") rListDic from call_listD hc).or (show CallR X (.type "list") rListDT from call_list_dT hc))
end Y
end

section
set_option Elab.async false
set_option linter.all false
set_option maxRecDepth 100000
set_option autoImplicit false
namespace Y
open PySem PySem.Spec L2
open PyProof.Rows hiding St
section
variable {T K : PySem.W.Frag} {q : QA} {B H : Hp}
/-! ### dict of pairs -/
def dputAll : List (D × D) → List (D × D) → Option (List (D × D))
  | acc, [] => some acc
  | acc, p :: ps => (dput false acc p.1 p.2).bind fun acc' => dputAll acc' ps
def pairsOf' : List D → Option (List (D × D))
  | [] => some []
  | .tup [k, v] :: ds => (pairsOf' ds).map fun r => (k, v) :: r
  | _ => none
def dictPD : List D → Option D
  | [.lst xs] => (pairsOf' xs).bind fun ps => (dputAll [] ps).map fun kvs => .dic false kvs
  | _ => none
def rDictP (K : PySem.W.Frag) : List V → Hp → VK → Prop := fun xs H Q => ∃ (a : Addr) (ps : List Addr) (kvs : List (Key × V)), xs = [.ref a] ∧ SqL K H a (ps.map V.ref) ∧ Paired (fun p kv => SqT K H p [kV kv.1, kv.2]) ps kvs ∧
    ∀ p, H p = none → Q (.ref p) (L2.upd H p (.dK (mergeK [] kvs)))
theorem RepK.put1 {ks ks' : List (D × D)} {vs : List (Key × V)} {k d : D} {v : V} {κ : Key} (r : RepK T q B ks vs) (e : keyAt k = some κ) (hv : Rep T q B d v) (h : dput false ks k d = some ks') : RepK T q B ks' (putK vs κ v) := by
  unfold dput at h
  rw [show keyOf false k = some (.k κ) by show (keyAt k).map Ky.k = _; rw [e]; rfl] at h
  have h := Option.some.inj h
  subst h
  have ek := keyAt_inv e
  subst ek
  unfold putK
  rw [r.any]
  split
  · exact r.mapSet hv
  · exact r.append (.cons hv .nil)
theorem dput_key {ks ks' : List (D × D)} {k d : D} (h : dput false ks k d = some ks') : ∃ κ, keyAt k = some κ := by
  unfold dput at h
  split at h
  · cases h
  · rename_i κ e
    obtain ⟨κ', e', _⟩ := Option.map_eq_some_iff.mp (show (keyAt k).map Ky.k = some κ from e)
    exact ⟨κ', e'⟩
theorem dputAll_rep (t : Sub T K) (s : Same B H) : ∀ {xs : List D} {ps acc kvs : List (D × D)} {vs : List V} {ws : List (Key × V)}, RepL T q B xs vs → pairsOf' xs = some ps → dputAll acc ps = some kvs → RepK T q B acc ws →
    ∃ (as : List Addr) (us : List (Key × V)), vs = as.map V.ref ∧ Paired (fun p kv => SqT K H p [kV kv.1, kv.2]) as us ∧ RepK T q B kvs (mergeK ws us)
  | [], ps, acc, kvs, vs, ws, r, h1, h2, h3 => by
    cases r
    cases h1
    cases h2
    exact ⟨[], [], rfl, .nil, h3⟩
  | d :: ds, ps, acc, kvs, vs, ws, r, h1, h2, h3 => by
    cases r with
    | cons a b =>
      unfold pairsOf' at h1
      split at h1
      · rename_i e; cases e
      · rename_i k v ds' e
        cases e
        obtain ⟨ps', e1, rfl⟩ := Option.map_eq_some_iff.mp h1
        obtain ⟨acc', e2, e3⟩ := Option.bind_eq_some_iff.mp h2
        obtain ⟨κ, ek⟩ := dput_key e2
        cases a with
        | tup w1 w2 =>
          cases w2 with
          | cons r1 w2 =>
            cases w2 with
            | cons r2 w2 =>
              cases w2
              have ev := rep_key r1 ek
              subst ev
              obtain ⟨as, us, rfl, p, r'⟩ := dputAll_rep t s b e1 e3 (h3.put1 ek r2 e2)
              exact ⟨_ :: as, (κ, _) :: us, rfl, .cons (w1.sq t s) p, r'⟩
      · cases h1
theorem cf_dictP (t : Sub T K) : CallF T (rDictP K) dictPD := by
  intro q B H ds vs d s hp hg Q k
  unfold dictPD at hg
  split at hg
  · obtain ⟨ps, h1, h2⟩ := Option.bind_eq_some_iff.mp hg
    obtain ⟨kvs, h3, rfl⟩ := Option.map_eq_some_iff.mp h2
    obtain ⟨v, rfl, h⟩ := hp.one
    obtain ⟨a, ws, rfl, w1, w2⟩ := h.lst s
    obtain ⟨as, us, rfl, p, r⟩ := dputAll_rep t s w2 h1 h3 .nil
    exact ⟨a, as, us, rfl, .inl (.inl w1), p, fun c hc => k _ _ _ (Ext0.own s hc) hc (Same.free s hc) (.dicK upd_same r)⟩
  · cases hg
end
theorem cr_dictP {X : Cx} (hc : X.calm = true) : CallR X (.type "dict") (rDictP X.K) := call_dictP hc
/-! ### list(range(..)), tuple(range(..)) -/
section
variable {C : SC} {sc : Scope} {a b : Expr} {f g : ESem} {pos p : Pos}
def rangeLstE (it : ISem) : ESem := fun env => M.bd (it env) fun items => M.ret (.lst items)
theorem rgV_rep {T : PySem.W.Frag} {q : QA} {B : Hp} (a b : Int) : RepL T q B (rangeL a b) (rgV a b) := by
  unfold rangeL rgV
  generalize List.range (b - a).toNat = l
  induction l with
  | nil => exact .nil
  | cons n l ih => exact .cons (.int _) ih
theorem sf_listRange1 {x y : Str} {p2 pos2 : Pos} (hx : x = "list") (hy : y = "range") (hg : sc.names.lookup x = some .globalImplicit) (hm : C.mg x = none) (hg2 : sc.names.lookup y = some .globalImplicit) (hm2 : C.mg y = none) (ha : SP C sc a f)
    (hs : ∀ env, starEach [.Call (.Name y p2) [a] [] pos2] env = (false, eval (.Call (.Name y p2) [a] [] pos2) env) :: starEach [] env := by intro _; rfl) (hs2 : ∀ env, starEach [a] env = (false, eval a env) :: starEach [] env := by intro _; rfl) :
    SF C sc (.Call (.Name x p) [.Call (.Name y p2) [a] [] pos2] [] pos) (rangeLstE (range1I f)) := by
  subst hx hy
  refine SF.of (fun X hX => pe_listRg hX.calm (hX.gl hg) (by rw [hX.mg]; exact hm) (prg_1 (hX.gl hg2) (by rw [hX.mg]; exact hm2) (pe_te hX) (hs2 _)) (hs _)) fun q B0 H0 B H σ env st d st' Q g0 hf k => ?_
  obtain ⟨items, s1, h1, h2⟩ := M.bd_some hf
  obtain ⟨rfl, rfl⟩ := M.ret_some h2
  obtain ⟨d, s2, h3, h4⟩ := M.bd_some h1
  obtain ⟨h5, rfl⟩ := M.lf_some h4
  obtain ⟨n, h6, h7⟩ := Option.bind_eq_some_iff.mp h5
  have e := asI_some h6
  subst e
  split at h7
  · rename_i hn
    cases h7
    refine ha q B0 H0 B H σ env st _ _ _ g0 h3 fun v B1 H1 e1 d1 r1 => ⟨n, r1.int, ⟨by omega, by omega, by omega, by omega, by omega⟩, fun c hc => ?_⟩
    have e2 := Ext0.own e1.s (o := .lst (rgV 0 n)) hc
    exact k _ _ _ (e1.trans g0.dr e2.ext ⟨_, d1⟩) (d1.mono e2.h) (new_back e1 d1 hc) (Same.free e1.s hc) (.lst upd_same (rgV_rep 0 n))
  · cases h7
theorem sf_listRange2 {x y : Str} {p2 pos2 : Pos} (hx : x = "list") (hy : y = "range") (hg : sc.names.lookup x = some .globalImplicit) (hm : C.mg x = none) (hg2 : sc.names.lookup y = some .globalImplicit) (hm2 : C.mg y = none) (ha : SP C sc a f) (hb : SP C sc b g)
    (hs : ∀ env, starEach [.Call (.Name y p2) [a, b] [] pos2] env = (false, eval (.Call (.Name y p2) [a, b] [] pos2) env) :: starEach [] env := by intro _; rfl) (hs2 : ∀ env, starEach [a, b] env = (false, eval a env) :: starEach [b] env := by intro _; rfl) (hs3 : ∀ env, starEach [b] env = (false, eval b env) :: starEach [] env := by intro _; rfl) (hs4 : ∀ env, (backTo pos2 (starEach [b] env)).any (·.1) = false := by intro _; rfl) :
    SF C sc (.Call (.Name x p) [.Call (.Name y p2) [a, b] [] pos2] [] pos) (rangeLstE (range2I f g)) := by
  subst hx hy
  refine SF.of (fun X hX => pe_listRg hX.calm (hX.gl hg) (by rw [hX.mg]; exact hm) (prg_2 (hX.gl hg2) (by rw [hX.mg]; exact hm2) (pe_te hX) (pe_te hX) (hs2 _) (hs3 _) (hs4 _)) (hs _)) fun q B0 H0 B H σ env st d st' Q g0 hf k => ?_
  obtain ⟨items, s1, h1, h2⟩ := M.bd_some hf
  obtain ⟨rfl, rfl⟩ := M.ret_some h2
  obtain ⟨d, s2, h3, h4⟩ := M.bd_some h1
  obtain ⟨d', s3, h3', h4'⟩ := M.bd_some h4
  obtain ⟨h5, rfl⟩ := M.lf_some h4'
  obtain ⟨n, h6, h7⟩ := Option.bind_eq_some_iff.mp h5
  obtain ⟨m, h8, h9⟩ := Option.bind_eq_some_iff.mp h7
  have e := asI_some h6
  subst e
  have e := asI_some h8
  subst e
  split at h9
  · rename_i hn
    cases h9
    refine ha q B0 H0 B H σ env st _ _ _ g0 h3 fun v B1 H1 e1 d1 r1 => ?_
    refine hb q B0 H0 B1 H1 σ env _ _ _ _ (g0.step e1 d1) h3' fun v' B2 H2 e2 d2 r2 => ⟨n, m, r1.int, r2.int, ⟨by omega, by omega, by omega, by omega, by omega⟩, fun c hc => ?_⟩
    have e12 := e1.trans g0.dr e2 ⟨_, d1⟩
    have e3 := Ext0.own e12.s (o := .lst (rgV n m)) hc
    exact k _ _ _ (e12.trans g0.dr e3.ext ⟨_, d2⟩) (d2.mono e3.h) (new_back e12 d2 hc) (Same.free e12.s hc) (.lst upd_same (rgV_rep n m))
  · cases h9
/-! ### comprehensions of two clauses -/
variable {scope : Scope} {elt tg iter tg1 iter1 : Expr} {ifs ifs1 : List Expr} {it it1 : ISem} {gg g1 : GSem} {c c1 : TSem} {ff : ESem} {vs1 : List Nat}
theorem sf_lc2 {own : List (Str × Nat)} (L : Lc2Ok C sc scope tg iter tg1 iter1 elt ifs ifs1 own vs1 it gg c it1 g1 c1 ff) : SF C sc (.ListComp elt [⟨tg, iter, ifs, 0⟩, ⟨tg1, iter1, ifs1, 0⟩] scope pos) (comp2E it gg c it1 g1 c1 ff (own.map (·.2)) vs1) := by
  obtain ⟨wi, a1, t1, wi1, a2, t2, hp, _, hr⟩ := lc2_static (pos := pos) L
  exact SF.of hp hr
theorem ss_setLc2O {own : List (Str × Nat)} {i : Nat} {y : Str} {py spos : Pos} (L : Lc2Ok C sc scope tg iter tg1 iter1 elt ifs ifs1 own vs1 it gg c it1 g1 c1 ff) (hi : C.N[i]? = some y) (hy : sc.names.lookup y = some .local) (hl : (py.line == pos.line) = true) (ha : (scope.names.any fun (n, k) => n == y && (k == .local || k == .cell)) = false) :
    SS C sc (.Assign [.Name y py] (.ListComp elt [⟨tg, iter, ifs, 0⟩, ⟨tg1, iter1, ifs1, 0⟩] scope pos) spos) (setOS i (comp2E it gg c it1 g1 c1 ff (own.map (·.2)) vs1)) := by
  obtain ⟨wi, a1, t1, wi1, a2, t2, _, hp, hr⟩ := lc2_static (pos := pos) L
  exact SS.of (fun X hX => hp X i y py spos hX hi hy hl ha) (set_run (F := true) hr)
theorem ss_setLc2P {own : List (Str × Nat)} {i : Nat} {y : Str} {py spos : Pos} (L : Lc2Ok C sc scope tg iter tg1 iter1 elt ifs ifs1 own vs1 it gg c it1 g1 c1 ff) (hi : C.N[i]? = some y) (hy : sc.names.lookup y = some .local) (hl : (py.line == pos.line) = true) (ha : (scope.names.any fun (n, k) => n == y && (k == .local || k == .cell)) = false) :
    SS C sc (.Assign [.Name y py] (.ListComp elt [⟨tg, iter, ifs, 0⟩, ⟨tg1, iter1, ifs1, 0⟩] scope pos) spos) (setS i (comp2E it gg c it1 g1 c1 ff (own.map (·.2)) vs1)) := by
  obtain ⟨wi, a1, t1, wi1, a2, t2, _, hp, hr⟩ := lc2_static (pos := pos) L
  exact SS.of (fun X hX => hp X i y py spos hX hi hy hl ha) (set_runP hr)
end
end Y
end

section
set_option Elab.async false
set_option linter.all false
set_option maxRecDepth 100000
set_option autoImplicit false
namespace Y
open PySem PySem.Spec L2
open PyProof.Rows hiding St
section
variable {C : SC} {sc : Scope} {e a b c : Expr} {f g fa fb fc : ESem} {pos p : Pos}
theorem SE.or2 {k : ESem} (h1 : SE C sc e f) (h2 : SE C sc e g) (hi : ∀ env st r, k env st = some r → f env st = some r ∨ g env st = some r) : SE C sc e k := fun q B0 H0 B H σ env st d st' Q g0 hf kk =>
  (hi _ _ _ hf).elim (fun w => h1 q B0 H0 B H σ env st d st' Q g0 w kk) fun w => h2 q B0 H0 B H σ env st d st' Q g0 w kk
theorem bin_imp {k r r' : D → D → Option D} (h : ∀ x y d, k x y = some d → r x y = some d ∨ r' x y = some d) : ∀ env st z, bin k fa fb env st = some z → bin r fa fb env st = some z ∨ bin r' fa fb env st = some z := by
  intro env st z hf
  obtain ⟨x, s1, h1, h2⟩ := M.bd_some hf
  obtain ⟨y, s2, h3, h4⟩ := M.bd_some h2
  obtain ⟨d, s3⟩ := z
  obtain ⟨h5, rfl⟩ := M.lf_some h4
  have key : ∀ {k' : D → D → Option D}, k' x y = some d → bin k' fa fb env st = some (d, s3) := fun {k'} hk => by
    show (M.bd (fa env) fun x => M.bd (fb env) fun y => M.lf (k' x y)) st = _
    simp only [M.bd, h1, h3, M.lf, hk]
  exact (h x y d h5).imp key key
theorem un_imp {k r r' : D → Option D} (h : ∀ x d, k x = some d → r x = some d ∨ r' x = some d) : ∀ env st z, un k fa env st = some z → un r fa env st = some z ∨ un r' fa env st = some z := by
  intro env st z hf
  obtain ⟨x, s1, h1, h2⟩ := M.bd_some hf
  obtain ⟨d, s3⟩ := z
  obtain ⟨h5, rfl⟩ := M.lf_some h2
  have key : ∀ {k' : D → Option D}, k' x = some d → un k' fa env st = some (d, s3) := fun {k'} hk => by
    show (M.bd (fa env) fun x => M.lf (k' x)) st = _
    simp only [M.bd, h1, M.lf, hk]
  exact (h x d h5).imp key key
/-! ### operations -/
theorem e_add (ha : SP C sc a fa) (hb : SP C sc b fb) : SE C sc (.BinOp a .Add b pos) (bin addD fa fb) := se_bin (r := rAddA C.K) (fun X hX => hX.K ▸ op_addA) (od_add C.TK) ha hb
theorem f_add (ha : SP C sc a fa) (hb : SP C sc b fb) : SF C sc (.BinOp a .Add b pos) (bin catL fa fb) := sf_bin (fun X hX => op_cat) of_cat ha hb
theorem e_sub (ha : SP C sc a fa) (hb : SP C sc b fb) : SE C sc (.BinOp a .Sub b pos) (bin subD fa fb) := se_bin (fun X hX => op_sub) od_sub ha hb
theorem e_mul (ha : SP C sc a fa) (hb : SP C sc b fb) : SE C sc (.BinOp a .Mult b pos) (bin mulD fa fb) := se_bin (r := rMulA C.K) (fun X hX => hX.K ▸ op_mulA) (od_mul C.TK) ha hb
theorem f_mul (ha : SP C sc a fa) (hb : SP C sc b fb) : SF C sc (.BinOp a .Mult b pos) (bin repL fa fb) := sf_bin (fun X hX => op_rep) of_rep ha hb
theorem e_fdiv (ha : SP C sc a fa) (hb : SP C sc b fb) : SE C sc (.BinOp a .FloorDiv b pos) (bin fdivD fa fb) := se_bin (fun X hX => op_fdivW) od_fdiv ha hb
theorem e_mod (ha : SP C sc a fa) (hb : SP C sc b fb) : SE C sc (.BinOp a .Mod b pos) (bin modD fa fb) := se_bin (fun X hX => op_mod) od_mod ha hb
theorem e_pow (ha : SP C sc a fa) (hb : SP C sc b fb) : SE C sc (.BinOp a .Pow b pos) (bin powD fa fb) := se_bin (fun X hX => op_pow) od_pow ha hb
/-! ### comparisons -/
def inAD (tt : Bool) (x : D) (d : D) : Option D := match d with
  | .dic t kvs => if t = true ∧ tt = false then none else (dget t kvs x).map fun o => .bl o.isSome
  | d => inD x d
def notInAD (tt : Bool) (x : D) (d : D) : Option D := match d with
  | .dic t kvs => if t = true ∧ tt = false then none else (dget t kvs x).map fun o => .bl (!o.isSome)
  | d => notInD x d
def rInAA (K : PySem.W.Frag) : R2 := fun x y H Q => rInA K x y H Q ∨ rDIn x y H Q
def rNotInAA (K : PySem.W.Frag) : R2 := fun x y H Q => rNotInA K x y H Q ∨ rDNotIn x y H Q
theorem op_inAA {X : Cx} (h : XOk C sc X) : OpR X (compareOp .In) (rInAA X.K) := (op_inA h.hu65).or (op_dIn h.hu)
theorem op_notInAA {X : Cx} (h : XOk C sc X) : OpR X (compareOp .NotIn) (rNotInAA X.K) := (op_notInA h.hu65).or (op_dNotIn h.hu)
theorem kind_sub {T : PySem.W.Frag} {tt t : Bool} (hT : KindOk T tt) (h : ¬ (t = true ∧ tt = false)) : KindOk T t := fun e => by
  cases tt with
  | true => exact hT rfl
  | false => exact absurd ⟨e, rfl⟩ h
theorem od_inAA {tt : Bool} {T K : PySem.W.Frag} (t : Sub T K) (hT : KindOk T tt) : OpD T (rInAA K) (inAD tt) := by
  intro q B H a b x y d s ha hb hg Q k
  unfold inAD at hg
  split at hg
  · rename_i t' kvs
    split at hg
    · cases hg
    · rename_i hn
      exact .inr (od_din (t := t') (kind_sub hT hn) q B H a _ x y d s ha hb (by simp only [dinK, if_true]; exact hg) Q k)
  · exact .inl (od_in t q B H a b x y d s ha hb hg Q k)
theorem od_notInAA {tt : Bool} {T K : PySem.W.Frag} (t : Sub T K) (hT : KindOk T tt) : OpD T (rNotInAA K) (notInAD tt) := by
  intro q B H a b x y d s ha hb hg Q k
  unfold notInAD at hg
  split at hg
  · rename_i t' kvs
    split at hg
    · cases hg
    · rename_i hn
      exact .inr (od_dnotIn (t := t') (kind_sub hT hn) q B H a _ x y d s ha hb (by simp only [dnotInK, if_true]; exact hg) Q k)
  · exact .inl (od_notIn t q B H a b x y d s ha hb hg Q k)
/-- one comparison: the machine's word, its reading, the function -/
structure Cmp (C : SC) (sc : Scope) (op : CmpOp) (g : D → D → Option D) : Prop where
  run : ∃ r : R2, (∀ X, XOk C sc X → OpR X (compareOp op) r) ∧ OpD C.T r g
theorem c_lt : Cmp C sc .Lt ltD := ⟨_, fun X hX => op_lt, od_lt⟩
theorem c_le : Cmp C sc .LtE leD := ⟨_, fun X hX => op_le, od_le⟩
theorem c_gt : Cmp C sc .Gt gtD := ⟨_, fun X hX => op_gt, od_gt⟩
theorem c_ge : Cmp C sc .GtE geD := ⟨_, fun X hX => op_ge, od_ge⟩
theorem c_eq : Cmp C sc .Eq eqD := ⟨rEqD C.K, fun X hX => hX.K ▸ op_eqD hX.hu64, od_eq C.TK⟩
theorem c_ne : Cmp C sc .NotEq neD := ⟨rNeD C.K, fun X hX => hX.K ▸ op_neD hX.hu64, od_ne C.TK⟩
theorem c_is : Cmp C sc .Is isD := ⟨_, fun X hX => op_isA, od_is⟩
theorem c_isNot : Cmp C sc .IsNot isNotD := ⟨_, fun X hX => op_isNotA, od_isNot⟩
theorem c_in {tt : Bool} (hT : KindOk C.T tt) : Cmp C sc .In (inAD tt) := ⟨rInAA C.K, fun X hX => hX.K ▸ op_inAA hX, od_inAA C.TK hT⟩
theorem c_notIn {tt : Bool} (hT : KindOk C.T tt) : Cmp C sc .NotIn (notInAD tt) := ⟨rNotInAA C.K, fun X hX => hX.K ▸ op_notInAA hX, od_notInAA C.TK hT⟩
theorem e_cmp {op : CmpOp} {g : D → D → Option D} (h : Cmp C sc op g) (ha : SP C sc a fa) (hb : SP C sc b fb) (hm : behindInMarks op b = false := by with_unfolding_all rfl) : SE C sc (.Compare a [op] [b] pos) (bin g fa fb) := by
  obtain ⟨r, h1, h2⟩ := h.run
  exact se_cmp h1 h2 ha hb hm
theorem t_cmp {op : CmpOp} {g : D → D → Option D} (h : Cmp C sc op g) (ha : SP C sc a fa) (hb : SP C sc b fb) (hm : behindInMarks op b = false := by with_unfolding_all rfl) : ST C sc (.Compare a [op] [b] pos) (testE (bin g fa fb)) := by
  obtain ⟨r, h1, h2⟩ := h.run
  exact st_cmp h1 h2 ha hb hm
theorem e_chain {op op' : CmpOp} {g g' : D → D → Option D} (h : Cmp C sc op g) (h' : Cmp C sc op' g') (ha : SP C sc a fa) (hb : SP C sc b fb) (hc : SP C sc c fc) (hm : lastMarks [op, op'] [b, c] = false := by with_unfolding_all rfl) : SE C sc (.Compare a [op, op'] [b, c] pos) (chainE g g' fa fb fc) := by
  obtain ⟨r, h1, h2⟩ := h.run
  obtain ⟨r', h3, h4⟩ := h'.run
  exact se_chain h1 h3 h2 h4 ha hb hc hm
theorem t_chain {op op' : CmpOp} {g g' : D → D → Option D} (h : Cmp C sc op g) (h' : Cmp C sc op' g') (ha : SP C sc a fa) (hb : SP C sc b fb) (hc : SP C sc c fc) (hm : lastMarks [op, op'] [b, c] = false := by with_unfolding_all rfl) : ST C sc (.Compare a [op, op'] [b, c] pos) (testE (chainE g g' fa fb fc)) := by
  obtain ⟨r, h1, h2⟩ := h.run
  obtain ⟨r', h3, h4⟩ := h'.run
  exact st_chain h1 h3 h2 h4 ha hb hc hm
/-! ### subscripts -/
def getAD (tt : Bool) (d k : D) : Option D := match d with
  | .dic t kvs => if t = true ∧ tt = false then none else (dget t kvs k).bind id
  | d => getD' d k
theorem e_get {tt : Bool} (hT : KindOk C.T tt) (ha : SP C sc a fa) (hb : SP C sc b fb) (hs : PlainIx b := by exact fun _ _ => rfl) (hs2 : NoSl b := by exact fun _ _ => rfl) : SE C sc (.Subscript a b pos) (bin (getAD tt) fa fb) := by
  have h0 : SE C sc (.Subscript a b pos) (bin getD' fa fb) := se_ix (r := rIxA C.K) (fun X hX => hX.K ▸ ix_A) (od_get C.TK) ha hb hs
  have h1 : SE C sc (.Subscript a b pos) (bin (dgetK false) fa fb) := se_dget (fun e => by cases e) ha hb hs2
  cases tt with
  | false =>
    refine SE.or2 h0 h1 (bin_imp fun x y d h => ?_)
    unfold getAD at h
    split at h
    · rename_i t kvs
      cases t with
      | true => rw [if_pos ⟨rfl, rfl⟩] at h; cases h
      | false => rw [if_neg (by simp)] at h; exact .inr h
    · exact .inl h
  | true =>
    have h2 : SE C sc (.Subscript a b pos) (bin (dgetK true) fa fb) := se_dget hT ha hb hs2
    have h3 : SE C sc (.Subscript a b pos) (bin (fun x y => match x with
      | .dic _ _ => dgetK true x y
      | _ => getD' x y) fa fb) := SE.or2 h0 h2 (bin_imp fun x y d h => by
        split at h
        · exact .inr h
        · exact .inl h)
    refine SE.or2 h3 h1 (bin_imp fun x y d h => ?_)
    unfold getAD at h
    split at h
    · rename_i t kvs
      rw [if_neg (by simp)] at h
      cases t with
      | true => exact .inl h
      | false => exact .inr h
    · rename_i hx
      exact .inl h
def revAD : D → Option D
  | .tup xs => some (.tup xs.reverse)
  | .lst xs => some (.lst xs.reverse)
  | _ => none
theorem e_rev {k : Nat} {p1 p2 p3 : Pos} (ha : SP C sc e f) : SE C sc (.Subscript e (.Slice none none (some (.UnaryOp .USub (.Constant (.int 1) k p1) p2)) p3) pos) (un revAD f) :=
  SE.or2 (se_revT ha) (sf_revL ha).se (un_imp fun x d h => by
    cases x with
    | tup xs => exact .inl h
    | lst xs => exact .inr h
    | _ => cases h)
/-! ### built-ins -/
variable {es : List Expr} {fs : ASem}
theorem e_len (h : SP C sc a fa) (hm : C.mg ("len" : Str) = none) (hg : sc.names.lookup ("len" : Str) = some .globalImplicit := by kernel_rfl) (hs : ∀ env, starEach [a] env = (false, eval a env) :: starEach [] env := by intro _; rfl) : SE C sc (.Call (.Name "len" p) [a] [] pos) (callE lenD (consA fa nilA)) :=
  se_callB (r := rLenA C.K) (fun X hX => hX.K ▸ call_len_seq) (cd_len C.TK) hg hm (by decide +kernel) (sap_cons h sap_nil hs) (by decide) (by decide) hs
theorem e_sum (h : SP C sc a fa) (hm : C.mg ("sum" : Str) = none) (hg : sc.names.lookup ("sum" : Str) = some .globalImplicit := by kernel_rfl) (hs : ∀ env, starEach [a] env = (false, eval a env) :: starEach [] env := by intro _; rfl) : SE C sc (.Call (.Name "sum" p) [a] [] pos) (callE sumAD (consA fa nilA)) :=
  se_callB (r := rSumA C.K) (fun X hX => hX.K ▸ cr_sumA hX.calm) (cd_sumA C.TK) hg hm (by decide +kernel) (sap_cons h sap_nil hs) (by decide) (by decide) hs
theorem e_min (h : SP C sc a fa) (hm : C.mg ("min" : Str) = none) (hg : sc.names.lookup ("min" : Str) = some .globalImplicit := by kernel_rfl) (hs : ∀ env, starEach [a] env = (false, eval a env) :: starEach [] env := by intro _; rfl) : SE C sc (.Call (.Name "min" p) [a] [] pos) (callE minAD (consA fa nilA)) :=
  se_callB (r := rMinA C.K) (fun X hX => hX.K ▸ cr_minA hX.calm hX.hu) (cd_minA C.TK) hg hm (by decide +kernel) (sap_cons h sap_nil hs) (by decide) (by decide) hs
theorem e_max (h : SP C sc a fa) (hm : C.mg ("max" : Str) = none) (hg : sc.names.lookup ("max" : Str) = some .globalImplicit := by kernel_rfl) (hs : ∀ env, starEach [a] env = (false, eval a env) :: starEach [] env := by intro _; rfl) : SE C sc (.Call (.Name "max" p) [a] [] pos) (callE maxD (consA fa nilA)) :=
  se_callB (r := rMax C.K) (fun X hX => hX.K ▸ cr_max hX.calm) cd_max hg hm (by decide +kernel) (sap_cons h sap_nil hs) (by decide) (by decide) hs
theorem e_all (h : SP C sc a fa) (hm : C.mg ("all" : Str) = none) (hg : sc.names.lookup ("all" : Str) = some .globalImplicit := by kernel_rfl) (hs : ∀ env, starEach [a] env = (false, eval a env) :: starEach [] env := by intro _; rfl) : SE C sc (.Call (.Name "all" p) [a] [] pos) (callE allD (consA fa nilA)) :=
  se_callB (r := rAll C.K) (fun X hX => hX.K ▸ cr_all hX.calm) cd_all hg hm (by decide +kernel) (sap_cons h sap_nil hs) (by decide) (by decide) hs
theorem e_any (h : SP C sc a fa) (hm : C.mg ("any" : Str) = none) (hg : sc.names.lookup ("any" : Str) = some .globalImplicit := by kernel_rfl) (hs : ∀ env, starEach [a] env = (false, eval a env) :: starEach [] env := by intro _; rfl) : SE C sc (.Call (.Name "any" p) [a] [] pos) (callE anyD (consA fa nilA)) :=
  se_callB (r := rAny C.K) (fun X hX => hX.K ▸ cr_any hX.calm) cd_any hg hm (by decide +kernel) (sap_cons h sap_nil hs) (by decide) (by decide) hs
theorem e_abs (h : SP C sc a fa) (hm : C.mg ("abs" : Str) = none) (hg : sc.names.lookup ("abs" : Str) = some .globalImplicit := by kernel_rfl) (hs : ∀ env, starEach [a] env = (false, eval a env) :: starEach [] env := by intro _; rfl) : SE C sc (.Call (.Name "abs" p) [a] [] pos) (callE absD (consA fa nilA)) :=
  se_callB (fun X hX => call_abs) cd_abs hg hm (by decide +kernel) (sap_cons h sap_nil hs) (by decide) (by decide) hs
theorem e_int (h : SP C sc a fa) (hm : C.mg ("int" : Str) = none) (hg : sc.names.lookup ("int" : Str) = some .globalImplicit := by kernel_rfl) (hs : ∀ env, starEach [a] env = (false, eval a env) :: starEach [] env := by intro _; rfl) : SE C sc (.Call (.Name "int" p) [a] [] pos) (callE intD (consA fa nilA)) :=
  se_callTy (fun X hX => call_int1) cd_int hg hm (by decide +kernel) (sap_cons h sap_nil hs) (by decide) (by decide) hs
theorem e_tuple (h : SP C sc a fa) (hm : C.mg ("tuple" : Str) = none) (hg : sc.names.lookup ("tuple" : Str) = some .globalImplicit := by kernel_rfl) (hs : ∀ env, starEach [a] env = (false, eval a env) :: starEach [] env := by intro _; rfl) : SE C sc (.Call (.Name "tuple" p) [a] [] pos) (callE tupleD (consA fa nilA)) :=
  se_callTy (r := rTupleA C.K) (fun X hX => hX.K ▸ call_tuple_of) (cd_tuple C.TK) hg hm (by decide +kernel) (sap_cons h sap_nil hs) (by decide) (by decide) hs
theorem f_list (h : SP C sc a fa) (hm : C.mg ("list" : Str) = none) (hg : sc.names.lookup ("list" : Str) = some .globalImplicit := by kernel_rfl) (hs : ∀ env, starEach [a] env = (false, eval a env) :: starEach [] env := by intro _; rfl) : SF C sc (.Call (.Name "list" p) [a] [] pos) (callE listAD (consA fa nilA)) :=
  sf_callTy (r := rListAA C.K) (fun X hX => hX.K ▸ cr_listA hX.calm call_list_of) (cf_listA C.TK) hg hm (by decide +kernel) (sap_cons h sap_nil hs) (by decide) (by decide) hs
theorem f_sorted (h : SP C sc a fa) (hm : C.mg ("sorted" : Str) = none) (hg : sc.names.lookup ("sorted" : Str) = some .globalImplicit := by kernel_rfl) (hs : ∀ env, starEach [a] env = (false, eval a env) :: starEach [] env := by intro _; rfl) : SF C sc (.Call (.Name "sorted" p) [a] [] pos) (callE sortedAD (consA fa nilA)) :=
  sf_callB (r := rSortA C.K) (fun X hX => hX.K ▸ cr_sortA hX.calm) (cf_sortA C.TK) hg hm (by decide +kernel) (sap_cons h sap_nil hs) (by decide) (by decide) hs
theorem f_dict (h : SP C sc a fa) (hm : C.mg ("dict" : Str) = none) (hg : sc.names.lookup ("dict" : Str) = some .globalImplicit := by kernel_rfl) (hs : ∀ env, starEach [a] env = (false, eval a env) :: starEach [] env := by intro _; rfl) : SF C sc (.Call (.Name "dict" p) [a] [] pos) (callE dictPD (consA fa nilA)) :=
  sf_callTy (r := rDictP C.K) (fun X hX => hX.K ▸ cr_dictP hX.calm) (cf_dictP C.TK) hg hm (by decide +kernel) (sap_cons h sap_nil hs) (by decide) (by decide) hs
theorem e_min2 (h : SP C sc a fa) (h' : SP C sc b fb) (hm : C.mg ("min" : Str) = none) (hg : sc.names.lookup ("min" : Str) = some .globalImplicit := by kernel_rfl) (hs : ∀ env, starEach [a, b] env = (false, eval a env) :: starEach [b] env := by intro _; rfl) (hs' : ∀ env, starEach [b] env = (false, eval b env) :: starEach [] env := by intro _; rfl) (hpl : ∀ env, (backTo pos (starEach [b] env)).any (·.1) = false := by intro _; rfl) : SE C sc (.Call (.Name "min" p) [a, b] [] pos) (callE min2D (consA fa (consA fb nilA))) :=
  se_callB (fun X hX => call_min2 hX.calm) cd_min2 hg hm (by decide +kernel) (sap_cons h (sap_cons h' sap_nil hs') hs) (by decide) (by decide) hs hpl
theorem e_max2 (h : SP C sc a fa) (h' : SP C sc b fb) (hm : C.mg ("max" : Str) = none) (hg : sc.names.lookup ("max" : Str) = some .globalImplicit := by kernel_rfl) (hs : ∀ env, starEach [a, b] env = (false, eval a env) :: starEach [b] env := by intro _; rfl) (hs' : ∀ env, starEach [b] env = (false, eval b env) :: starEach [] env := by intro _; rfl) (hpl : ∀ env, (backTo pos (starEach [b] env)).any (·.1) = false := by intro _; rfl) : SE C sc (.Call (.Name "max" p) [a, b] [] pos) (callE max2D (consA fa (consA fb nilA))) :=
  se_callB (fun X hX => call_max2 hX.calm) cd_max2 hg hm (by decide +kernel) (sap_cons h (sap_cons h' sap_nil hs') hs) (by decide) (by decide) hs hpl
theorem e_isi {ty : Str} {t : String} {p2 : Pos} (ha : SP C sc a fa) (hm : C.mg ("isinstance" : Str) = none) (hm2 : C.mg ty = none) (hv2 : bootBuiltins ty = some (.type t)) (hg : sc.names.lookup ("isinstance" : Str) = some .globalImplicit := by kernel_rfl) (hg2 : sc.names.lookup ty = some .globalImplicit := by kernel_rfl) (hn2 : ty ≠ "__name__" := by decide) (hd2 : (ty == ("__debug__" : Str)) = false := by decide)
    (he : ∀ env, starEach [a, .Name ty p2] env = (false, eval a env) :: starEach [.Name ty p2] env := by intro _; rfl) : SE C sc (.Call (.Name "isinstance" p) [a, .Name ty p2] [] pos) (un (fun d => (isiD t d).map .bl) fa) :=
  se_isi ha hg hm rfl hg2 hm2 hv2 hn2 hd2 he
end
end Y
end

section
set_option Elab.async false
set_option linter.all false
set_option maxRecDepth 100000
set_option autoImplicit false
namespace Y
open PySem PySem.Spec L2
open PyProof.Rows hiding St
section
variable {C : SC} {sc : Scope}
theorem swp_congr {env env' : Env} {ts vs : List Expr} {kt k2 : Nat} {pt pt2 : Pos} (hb : env.blockKind = env'.blockKind) (hk : ∀ x, (env.kindOf x == some .local) = (env'.kindOf x == some .local)) :
    swappedStores [.Tuple ts kt pt] (.Tuple vs k2 pt2) env = swappedStores [.Tuple ts kt pt] (.Tuple vs k2 pt2) env' := by
  unfold swappedStores
  simp only [hb, hk]
theorem swp_run {X : Cx} (hX : XOk C sc X) {ts vs : List Expr} {kt k2 : Nat} {pt pt2 : Pos} {o : Option (List Str)} (hf : sc.kind = .function)
    (h : ∀ env : Env, swappedStores [.Tuple ts kt pt] (.Tuple vs k2 pt2) { env with scope := sc } = pure o) : swappedStores [.Tuple ts kt pt] (.Tuple vs k2 pt2) X.env = pure o := by
  rw [← h X.env]
  refine swp_congr ?_ fun x => ?_
  · unfold Env.blockKind
    rw [hX.kind, hf]
  · show (X.env.scope.names.lookup x == _) = (sc.names.lookup x == _)
    cases e : sc.names.lookup x with
    | none => rw [hX.out x e]
    | some k =>
      obtain ⟨k', w1, w2⟩ := hX.names _ _ e
      rcases w2 with rfl | ⟨rfl, rfl⟩
      · rw [w1]
      · rw [w1]; rfl
end
end Y
end

section
set_option Elab.async false
set_option linter.all false
set_option maxRecDepth 100000
set_option autoImplicit false
namespace Y
open PySem PySem.Spec L2
open PyProof.Rows hiding St
/-! ### the state of the draws, read and written -/
def drKvs (q : QA) (st : DS) : List (Key × V) := [(.inr "great", .ref q.g), (.inr "cells", .ref q.c), (.inr "rest", .int st.rest), (.inr "turn", .int st.turn)]
theorem flatL_ints (n : Nat) : ∀ ns : List Int, flatL (n + 1) (ns.map D.int) = true
  | [] => rfl
  | i :: ns => by
    rw [List.map_cons, flatL, flatL_ints n ns]
    rfl
theorem flat_ints (ns : List Int) : (D.lst (ns.map D.int)).flat 60 = true := flatL_ints _ ns
section
variable {C : SC} {sc : Scope} {e a b : Expr} {f fa fb : ESem} {pos p p2 px : Pos} {x : Str} {i : Nat}
def isDrw (env : List Var) (i : Nat) : Bool := match env[i]? with
  | some (.p .drw) => true
  | _ => false
theorem isDrw_at {T : PySem.W.Frag} {q : QA} {B0 H0 B H : Hp} {σ : St} {env : List Var} {st : DS} (g : GS T q B0 H0 B H σ env st) (h : isDrw env i = true) : σ[i]? = some (some (.ref q.d)) := by
  unfold isDrw at h
  split at h
  · rename_i e
    obtain ⟨v, h1, h2⟩ := g.vars i _ e
    cases h2
    exact h1
  · cases h
theorem DrAt.get {q : QA} {H : Hp} {st : DS} (d : DrAt q H st) {k : Str} {v : V} (h : valV (drKvs q st) (.inr k) = some v) : DGet H q.d (.str k) (some v) := .inl ⟨drKvs q st, .inr k, .inl d.d, rfl, h.symm⟩
/-- state['rest'], state['turn'] -/
def drE (i : Nat) (get : DS → Int) : ESem := fun env st => if isDrw env i = true then some (.int (get st), st) else none
theorem pe_dr {k : Str} {j : Nat} (hN : C.N[i]? = some x) (hv : VisB sc x = true) (hd : (x == ("__debug__" : Str)) = false) (hcd : (x == ("__classdict__" : Str)) = false) (hs : NoSl (.Constant (.str k) j p2)) {X : Cx} (hX : XOk C sc X) :
    PE X (.Subscript (.Name x px) (.Constant (.str k) j p2) pos) (tDGet (tVar i) (tC (.str k))) := pe_dget hX.hu (pv_of hX hN hv hd hcd) pe_str hs
theorem se_dr {k : Str} {j : Nat} {get : DS → Int} (hN : C.N[i]? = some x) (hv : VisB sc x = true) (hk : ∀ q st, valV (drKvs q st) (.inr k) = some (.int (get st))) (hs : NoSl (.Constant (.str k) j p2) := by exact fun _ _ => rfl) (hd : (x == ("__debug__" : Str)) = false := by decide) (hcd : (x == ("__classdict__" : Str)) = false := by decide) :
    SE C sc (.Subscript (.Name x px) (.Constant (.str k) j p2) pos) (drE i get) :=
  SE.of (fun X hX => pe_dr hN hv hd hcd hs hX) fun q B0 H0 B H σ env st d st' Q g hf kk => by
    unfold drE at hf
    split at hf
    · rename_i hc
      cases hf
      exact ⟨_, isDrw_at g hc, q.d, .int (get st), rfl, g.dr.get (hk q st), kk _ B H (Ext.refl g.sub) g.dr (.int _)⟩
    · cases hf
/-- a write to one of the draws' own objects -/
theorem GS.drw {T : PySem.W.Frag} {q : QA} {B0 H0 B H : Hp} {σ : St} {env : List Var} {st st' : DS} {a : Addr} {o : HO} (g : GS T q B0 H0 B H σ env st) (m : q.has a) (d : DrAt q (L2.upd H a o) st') : Ext q B H B (L2.upd H a o) ∧ GS T q B0 H0 B (L2.upd H a o) σ env st' := by
  have e : Ext q B H B (L2.upd H a o) := ⟨Same.refl _, fun c u nc h => by rw [upd_ne (fun z => nc (by rw [z]; exact m))]; exact h, fun c u h => by rw [upd_ne (ne_of_none h (g.out a m))]; exact g.sub _ _ h, fun c h1 h2 => absurd h1 h2⟩
  exact ⟨e, g.step e d⟩
theorem dr_gd {q : QA} {H : Hp} {st : DS} (d : DrAt q H st) : q.g ≠ q.d ∧ q.c ≠ q.d := by
  constructor
  · intro z
    have := d.g
    rw [z, d.d] at this
    cases this
  · intro z
    have := d.c
    rw [z, d.d] at this
    cases this
theorem DrAt.put {q : QA} {H : Hp} {st st' : DS} (d : DrAt q H st) (h1 : st'.great = st.great) (h2 : st'.cells = st.cells) : DrAt q (L2.upd H q.d (.dK (drKvs q st'))) st' := by
  obtain ⟨n1, n2⟩ := dr_gd d
  exact ⟨upd_same, by rw [upd_ne n1, h1]; exact d.g, by rw [upd_ne n2, h2]; exact d.c, d.gc⟩
/-- state['rest'] = e, state['turn'] = e -/
def drPutS (i : Nat) (set : DS → Int → DS) (f : ESem) : SSem := fun env => M.bd (f env) fun d => M.bd (M.lf (asI d)) fun n => fun st => if isDrw env i = true then some ((.nx, env), set st n) else none
theorem ss_drPut {k : Str} {j : Nat} {set : DS → Int → DS} (hN : C.N[i]? = some x) (hv : VisB sc x = true) (he : SE C sc e f) (hk : ∀ q st n, putK (drKvs q st) (.inr k) (.int n) = drKvs q (set st n)) (h1 : ∀ st n, (set st n).great = st.great ∧ (set st n).cells = st.cells)
    (hs : ∀ env, swapsWith e (some (.Subscript (.Name x px) (.Constant (.str k) j p2) p)) pos.line env = pure false := by intro _; rfl) (hd : (x == ("__debug__" : Str)) = false := by decide) (hcd : (x == ("__classdict__" : Str)) = false := by decide) :
    SS C sc (.Assign [.Subscript (.Name x px) (.Constant (.str k) j p2) p] e pos) (drPutS i set f) :=
  SS.of (fun X hX => ps_dput hX.hu (pv_of hX hN hv hd hcd) pe_str (pe_te hX) (hs _)) fun q B0 H0 B H σ env st fl env' st' Dd g hf kk => by
    obtain ⟨d, s1, h2, h3⟩ := M.bd_some hf
    obtain ⟨n, s2, h4, h5⟩ := M.bd_some h3
    obtain ⟨h4', rfl⟩ := M.lf_some h4
    have e := asI_some h4'
    subst e
    split at h5
    · rename_i hc
      cases h5
      refine he q B0 H0 B H σ env st _ _ _ g h2 fun v B1 H1 e1 d1 r1 => ?_
      have g1 := g.step e1 d1
      rw [rep_int r1]
      refine ⟨_, isDrw_at g1 hc, q.d, _, rfl, .inl ⟨drKvs q _, .inr k, d1.d, rfl, ?_, rfl⟩, ?_⟩
      · show 4 < sizeLine
        rw [sizeLine_eq]; omega
      · rw [hk q _ n]
        have dp := d1.put (st' := set _ n) (h1 _ n).1 (h1 _ n).2
        exact kk σ B1 _ e1.b (g1.drw (.inl rfl) dp).2
    · cases h5
/-- state['great'].pop(0) -/
def drPopE (i : Nat) : ESem := fun env st => if isDrw env i = true then match st.great with
    | a :: r => some (.int a, { st with great := r })
    | [] => none
  else none
theorem se_drPop {j j0 : Nat} {apos cpos p0 : Pos} (hN : C.N[i]? = some x) (hv : VisB sc x = true) (m : MtT (.Subscript (.Name x px) (.Constant (.str "great") j p2) p) "pop" apos (.Constant (.int 0) j0 p0) cpos) (hs : NoSl (.Constant (.str "great") j p2) := by exact fun _ _ => rfl)
    (hd : (x == ("__debug__" : Str)) = false := by decide) (hcd : (x == ("__classdict__" : Str)) = false := by decide) :
    SE C sc (.Call (.Attribute (.Subscript (.Name x px) (.Constant (.str "great") j p2) p) "pop" apos) [.Constant (.int 0) j0 p0] [] cpos) (drPopE i) := by
  refine SE.of (t := tBM C.K "list" rPopAt (tDGet (tVar i) (tC (.str "great"))) (tCons (tC (.int 0)) tNil)) (fun X hX => ?_) fun q B0 H0 B H σ env st d st' Q g hf kk => ?_
  · have z : PE X (.Call (.Attribute (.Subscript (.Name x px) (.Constant (.str "great") j p2) p) "pop" apos) [.Constant (.int 0) j0 p0] [] cpos) (tBM X.K "list" rPopAt (tDGet (tVar i) (tC (.str "great"))) (tCons (tC (.int 0)) tNil)) :=
      pe_bm PySem.F.plainAttrs_list PySem.F.slot_list_pop PySem.F.type_list_pop mt_popAt (pe_dr hN hv hd hcd hs hX) (pa_cons pe_int pa_nil (m.one _)) (m.base _) (m.few _) m.line (m.one _) (m.pl _)
    rw [hX.K] at z
    exact z
  · unfold drPopE at hf
    split at hf
    · rename_i hc
      split at hf
      · rename_i a r hg
        cases hf
        have hG : H q.g = some (.lst (st.great.map V.int)) := g.dr.g
        refine ⟨_, isDrw_at g hc, q.d, .ref q.g, rfl, g.dr.get rfl, .inl ⟨rfl, _, .inl (.inl hG)⟩, ?_⟩
        refine ⟨q.g, _, 0, 0, .int a, rfl, rfl, hG, by omega, by omega, ?_, ?_, ?_⟩
        · rw [hg]; exact seqIndex_of (by omega) (by simp)
        · rw [hg]; rfl
        · rw [hg]
          have n1 := (dr_gd g.dr).1
          have dn : DrAt q (L2.upd H q.g (.lst (((a :: r).map V.int).eraseIdx 0))) { st with great := r } := ⟨by rw [upd_ne (fun z => n1 z.symm)]; exact g.dr.d, upd_same, by rw [upd_ne (fun z => g.dr.gc z.symm)]; exact g.dr.c, g.dr.gc⟩
          exact kk _ B _ (g.drw (.inr (.inl rfl)) dn).1 dn (.int a)
      · cases hf
    · cases hf
/-- state['great'] != [] -/
def drNeT (i : Nat) : TSem := fun env st => if isDrw env i = true then some (!st.great.isEmpty, st) else none
theorem st_drNe {j : Nat} {pl : Pos} (hN : C.N[i]? = some x) (hv : VisB sc x = true) (hs : NoSl (.Constant (.str "great") j p2) := by exact fun _ _ => rfl) (hm : behindInMarks .NotEq (.List [] pl) = false := by with_unfolding_all rfl) (hd : (x == ("__debug__" : Str)) = false := by decide) (hcd : (x == ("__classdict__" : Str)) = false := by decide) :
    ST C sc (.Compare (.Subscript (.Name x px) (.Constant (.str "great") j p2) p) [.NotEq] [.List [] pl] pos) (drNeT i) := by
  refine ST.of (t := tTest (tOp (rNeD C.K) (tDGet (tVar i) (tC (.str "great"))) (tLst tNil))) (fun X hX => ?_) fun q B0 H0 B H σ env st b st' Q g hf kk => ?_
  · have z := pt_cmpR (pos := pos) (op_neD (X := X) hX.hu64) (pe_dr (p2 := p2) (px := px) (pos := p) hN hv hd hcd hs hX) (pe_lst (pos := pl) (pa_nil (X := X))) hm
    rw [hX.K] at z
    exact z
  · unfold drNeT at hf
    split at hf
    · rename_i hc
      cases hf
      have hG : H q.g = some (.lst (st.great.map V.int)) := g.dr.g
      refine ⟨_, isDrw_at g hc, q.d, .ref q.g, rfl, g.dr.get rfl, by show 0 ≤ sizeLine; omega, fun l hl => ?_⟩
      have e0 := Ext0.own g.sub (o := .lst []) hl
      have hx : Pk C.T q (L2.upd H l (.lst [])) (L2.upd H l (.lst [])) (.lst (st.great.map D.int)) (.ref q.g) := .inl (.lst (e0.h _ _ hG) (repL_ints _))
      have hy : Pk C.T q (L2.upd H l (.lst [])) (L2.upd H l (.lst [])) (.lst []) (.ref l) := .inl (.lst upd_same .nil)
      refine od_ne C.TK q _ _ _ _ _ _ (.bl (!st.great.isEmpty)) (Same.refl _) hx hy ?_ _ fun v B' H' e1 r1 => ⟨_, rep_bl r1, ?_⟩
      · unfold neD
        rw [flat_ints, if_pos (by rfl)]
        cases st.great <;> rfl
      · have e2 : Ext0 B (L2.upd H l (.lst [])) B H' := ⟨Same.refl _, e1.h, e0.s.trans e1.h, fun c h1 h2 => absurd h1 h2⟩
        exact kk B H' (e0.trans e2).ext (g.dr.mono (e0.trans e2).h)
    · cases hf
/-- for cell in state['cells'] -/
def forCellsS (i : Nat) (g : GSem) (F : SSem) : SSem := fun env st => if isDrw env i = true then forGo g F (st.cells.map .int) env st else none
theorem ss_forCells {j : Nat} {tg : Expr} {vs : List Nat} {g : GSem} {F : SSem} {body : List Stmt} (hN : C.N[i]? = some x) (hv : VisB sc x = true) (hg : SG C sc tg vs g) (hb : SSs C sc body F) (hF : ∀ env st r st', F env st = some (r, st') → st'.cells = st.cells)
    (hs : NoSl (.Constant (.str "cells") j p2) := by exact fun _ _ => rfl) (hfs : ∀ env y, foldedSetIterable (.Subscript (.Name x px) (.Constant (.str "cells") j p2) p) env y = pure y := by intro _ _; rfl) (hd : (x == ("__debug__" : Str)) = false := by decide) (hcd : (x == ("__classdict__" : Str)) = false := by decide) :
    SS C sc (.For tg (.Subscript (.Name x px) (.Constant (.str "cells") j p2) p) body [] pos) (forCellsS i g F) := by
  obtain ⟨_, g1, p3, k2⟩ := hg
  refine SS.of (t := tFor (iList C.K (tDGet (tVar i) (tC (.str "cells")))) g1 (tss C sc body)) (fun X hX => ?_) fun q B0 H0 B H σ env st fl env' st' Dd g0 hf k => ?_
  · have z : PI X tg (.Subscript (.Name x px) (.Constant (.str "cells") j p2) p) (iList X.K (tDGet (tVar i) (tC (.str "cells")))) := pi_list (pe_dr hN hv hd hcd hs hX)
    rw [hX.K] at z
    exact ps_for hX.xe hX.calm z (p3 X hX) (pss_tss hX) (fun y => hfs _ y)
  · unfold forCellsS at hf
    split at hf
    · rename_i hc
      have hC : H q.c = some (.lst (st.cells.map V.int)) := g0.dr.c
      refine ⟨_, isDrw_at g0 hc, q.d, .ref q.c, rfl, g0.dr.get rfl, q.c, rfl, ⟨_, .inl (.inl hC)⟩, ?_⟩
      refine for_it (walk_list (K := C.K) (a := q.c) (xs := st.cells.map V.int)) (fun n σ' H' => ∃ B' env1 st1, GS C.T q B0 H0 B' H' σ' env1 st1 ∧ Same B B' ∧ st1.cells = st.cells ∧ forGo g F ((st.cells.map D.int).drop n) env1 st1 = some ((fl, env'), st')) ⟨B, env, st, g0, Same.refl _, rfl, hf⟩
        (fun n σ' H' _ ⟨B', _, st1, g', _, ec, _⟩ => .inl (.inl (ec ▸ g'.dr.c))) (fun n y σ' H' H2 hi' hP hy => ?_) fun σ' H' hP => ?_
      · obtain ⟨B', env1, st1, g', s', ec, hgo⟩ := hP
        obtain ⟨rfl, hy⟩ := hy
        rw [List.getElem?_map] at hy
        obtain ⟨m, hm, rfl⟩ := Option.map_eq_some_iff.mp hy
        have hdr : (st.cells.map D.int).drop n = .int m :: (st.cells.map D.int).drop (n + 1) := by
          have h1 : (st.cells.map D.int)[n]? = some (.int m) := by rw [List.getElem?_map, hm]; rfl
          obtain ⟨hl, he⟩ := List.getElem?_eq_some_iff.mp h1
          rw [← he]
          exact List.drop_eq_getElem_cons hl
        rw [hdr] at hgo
        obtain ⟨env2, s2, h3, h4⟩ := M.bd_some hgo
        obtain ⟨h3', rfl⟩ := M.lf_some h3
        obtain ⟨⟨fl2, env3⟩, s3, h5, h6⟩ := M.bd_some h4
        have e5 := hF _ _ _ _ h5
        refine k2 q B0 H0 B' H2 σ' env1 _ (.int m) (.int m) env2 _ g' (.int m) h3' fun σ3 g3 _ => ?_
        refine hb q B0 H0 B' H2 σ3 env2 _ fl2 env3 s3 _ g3 h5 ?_
        cases fl2 with
        | nx => exact fun σ4 B4 H4 s4 g4 => ⟨B4, env3, s3, g4, s'.trans s4, e5.trans ec, h6⟩
        | ct => exact fun σ4 B4 H4 s4 g4 => ⟨B4, env3, s3, g4, s'.trans s4, e5.trans ec, h6⟩
        | bk => obtain ⟨h7, rfl⟩ := M.ret_some h6; cases h7; exact fun σ4 B4 H4 s4 g4 => k σ4 B4 H4 (s'.trans s4) g4
        | rt v => obtain ⟨h7, rfl⟩ := M.ret_some h6; cases h7; exact k
      · obtain ⟨B', env1, st1, g', s', ec, hgo⟩ := hP
        rw [List.length_map, List.drop_eq_nil_of_le (by rw [List.length_map]; exact Nat.le_refl _)] at hgo
        obtain ⟨h7, rfl⟩ := M.ret_some hgo
        cases h7
        exact k σ' B' H' s' g'
    · cases hf
end
end Y
end

section
set_option Elab.async false
set_option linter.all false
set_option maxRecDepth 100000
set_option autoImplicit false
namespace Y
open PySem PySem.Spec L2 PySem.W
open PyProof.Rows hiding St

/-! ### iterators that may write more than their own cell: zips of zips -/
abbrev KB (S : List Addr) (h h' : Heap) : Prop := ∀ (b : Addr) (o : Obj), b ∉ S → h.get? b = some o → h'.get? b = some o
abbrev PV := Nat → Value → Addr → Addr → Heap → Prop
structure Dr (prog : Program) (w : World) (A : Around) (it : Addr) (fp wr : List Addr) (n : Nat) (P : PV) (St : Nat → Heap → Prop) : Prop where
  sub : ∀ b ∈ wr, b ∈ fp
  live : ∀ i h, St i h → ∀ b ∈ fp, ∃ o, h.get? b = some o
  frame : ∀ i h h', St i h → (∀ b ∈ fp, ∀ o, h.get? b = some o → h'.get? b = some o) → St i h'
  mono : ∀ i v lo hi lo' hi' h h', P i v lo hi h → lo' ≤ lo → hi ≤ hi' → (∀ b o, lo ≤ b → b < hi → h.get? b = some o → h'.get? b = some o) → P i v lo' hi' h'
  item : ∀ i (s : Shared) (Q : Value → Shared → Prop) (E : Value → Shared → Prop), i < n → St i s.heap →
    (∀ x h' tk, P i x s.heap.objs.size h'.objs.size h' → St (i + 1) h' → KB wr s.heap h' → s.heap.objs.size ≤ h'.objs.size → Q x { s with heap := h', toks := tk }) → wpAny (model prog w) A (Builtin.SmallTypes.nextOf (.ref it)) Q E s
  done : ∀ (s : Shared) (Q : Value → Shared → Prop) (E : Value → Shared → Prop), St n s.heap →
    (∀ h' tk e, KB wr s.heap h' → (∃ o, h'.get? e = some o ∧ o.cls = .type "StopIteration") → E (.ref e) { s with heap := h', toks := tk }) → wpAny (model prog w) A (Builtin.SmallTypes.nextOf (.ref it)) Q E s
theorem Dr.of {prog : Program} {w : World} {A : Around} {it a : Addr} {n : Nat} {P : Nat → Value → Prop} {St : Nat → Heap → Prop} (D : Draws prog w A it [it, a] n P St) (hl : ∀ i h, St i h → ∃ o, h.get? a = some o) : Dr prog w A it [it, a] [it] n (fun i v _ _ _ => P i v) St where
  sub := fun b hb => by simp at hb; simp [hb]
  live := fun i h st b hb => by
    simp only [List.mem_cons, List.not_mem_nil, or_false] at hb
    rcases hb with rfl | rfl
    · exact D.live i h st
    · exact hl i h st
  frame := D.frame
  mono := fun _ _ _ _ _ _ _ _ p _ _ _ => p
  item := fun i s Q E hi st k => D.item i s Q E hi st fun x h' tk p st' sb => k x h' tk p st' (fun b o hb e => sb.extBut b o (fun z => hb (by simp [z])) e) (by rw [sb.1]; exact Nat.le_refl _)
  done := fun s Q E st k => D.done s Q E st fun h' e eb he => k h' s.toks e (fun b o hb x => eb b o (fun z => hb (by simp [z])) x) he
/-- the cell of a zip -/
abbrev ZV (h : Heap) (z TI TO : Addr) (v : Value) (f : Bool) : Prop := h.get? z = some { cls := .type "zip", dict := none, data := .fields #[v, .bool f, .bool false, .ref TI, .ref TO], slots := #[] }
structure Sep (z TI TO : Addr) (fp1 fp2 wr1 wr2 : List Addr) : Prop where
  zTI : z ≠ TI
  zTO : z ≠ TO
  TT : TI ≠ TO
  z1 : z ∉ fp1
  z2 : z ∉ fp2
  I1 : TI ∉ fp1
  I2 : TI ∉ fp2
  O1 : TO ∉ fp1
  O2 : TO ∉ fp2
  d12 : ∀ b ∈ fp1, b ∉ wr2
  d21 : ∀ b ∈ fp2, b ∉ wr1
section
variable {prog : Program} {w : World} {A : Around} {E : Value → Shared → Prop} {s : Shared}
theorem own_free {z TI TO : Addr} {v : Value} {f : Bool} {R : Bool → Shared → Prop} (hz : ZV s.heap z TI TO v f) (hv : v = .none ∨ ∃ T : Addr, v = rawInt (T : Nat)) (ht : R true s) (hf : ∀ h', ZV h' z TI TO v true → Heap.SameBut z s.heap h' → R false { s with heap := h' }) :
    wpAny (model prog w) A (Builtin.SmallTypes.ownedTupleIsFree (.ref z)) R E s := by
  unfold Builtin.SmallTypes.ownedTupleIsFree
  rcases hv with rfl | ⟨T, rfl⟩
  · exact wpAny_bind (wpAny_field hz rfl (x := .none) rfl (wpAny_pure ht))
  · refine wpAny_bind (wpAny_field hz rfl (x := rawInt (T : Nat)) rfl ?_)
    show wpAny _ _ (loadIfAlive ((T : Int).toNat) >>= _) _ _ _
    rw [Int.toNat_natCast]
    have al : ∀ {Q : Option Obj → Shared → Prop}, Q (s.heap.get? T) s → wpAny (model prog w) A (loadIfAlive T) Q E s := fun h => fun _ _ _ => h
    refine wpAny_bind (al ?_)
    cases s.heap.get? T with
    | none =>
      simp only [Option.isNone_none, if_true]
      exact wpAny_pure ht
    | some o =>
      simp only [Option.isNone_some, Bool.false_eq_true, if_false]
      refine wpAny_bind (wpAny_field hz rfl (x := .bool f) rfl ?_)
      cases f with
      | true =>
        rw [if_neg (by decide)]
        exact wpAny_pure (hf s.heap hz (Heap.SameBut.refl _ _))
      | false =>
        rw [if_pos (by decide)]
        exact wpAny_bind (wpAny_setField_rec hz (by simp) fun h₁ hz₁ hs₁ => wpAny_pure (hf h₁ hz₁ hs₁))
variable {z TI TO i1 i2 : Addr} {fp1 fp2 wr1 wr2 : List Addr} {n1 n2 i : Nat} {P1 P2 : PV} {St1 St2 : Nat → Heap → Prop}
theorem sb_kb {a : Addr} {S : List Addr} {h h' : Heap} (x : Heap.SameBut a h h') (m : a ∈ S) : KB S h h' := fun b o hb e => x.extBut b o (fun q => hb (q ▸ m)) e
theorem Dr.over {it : Addr} {fp wr : List Addr} {n : Nat} {P : PV} {St : Nat → Heap → Prop} (D : Dr prog w A it fp wr n P St) {i : Nat} {h h' : Heap} {S : List Addr} (st : St i h) (k : KB S h h') (hS : ∀ b ∈ fp, b ∉ S) : St i h' :=
  D.frame i h h' st fun b hb o e => k b o (hS b hb) e
theorem zip_item {v : Value} {f : Bool} {Q : Value → Shared → Prop} (S : Sep z TI TO fp1 fp2 wr1 wr2) (D1 : Dr prog w A i1 fp1 wr1 n1 P1 St1) (D2 : Dr prog w A i2 fp2 wr2 n2 P2 St2) (hz : ZV s.heap z TI TO v f) (hv : v = .none ∨ ∃ T : Addr, v = rawInt (T : Nat))
    (hTI : IsTupOf2 s.heap TI (.ref i1) (.ref i2)) (hTO : ∃ a b, IsTupOf2 s.heap TO a b) (st1 : St1 i s.heap) (st2 : St2 i s.heap) (l1 : i < n1) (l2 : i < n2)
    (hQ : ∀ T x1 x2 h' tk v' f', (v' = .none ∨ ∃ T' : Addr, v' = rawInt (T' : Nat)) → ZV h' z TI TO v' f' → IsTupOf2 h' TI (.ref i1) (.ref i2) → (∃ a b, IsTupOf2 h' TO a b) → St1 (i + 1) h' → St2 (i + 1) h' → s.heap.objs.size ≤ T → T < h'.objs.size → IsTupOf2 h' T x1 x2 →
      P1 i x1 s.heap.objs.size T h' → P2 i x2 s.heap.objs.size T h' → KB (z :: TO :: (wr1 ++ wr2)) s.heap h' → Q (.ref T) { s with heap := h', toks := tk }) :
    wpAny (model prog w) A (Builtin.«zip.__next__» ⟨[.ref z], []⟩) (fun fin s' => ∃ v, fin = .done (.ret v) ∧ Q v s') E s := by
  have w12 := S.d12
  have w21 := S.d21
  have o1 : ∀ {S' : List Addr}, (∀ b ∈ S', b = z ∨ b = TO) → ∀ b ∈ fp1, b ∉ S' := fun hS' b hb m => by
    rcases hS' b m with rfl | rfl
    · exact S.z1 hb
    · exact S.O1 hb
  have o2 : ∀ {S' : List Addr}, (∀ b ∈ S', b = z ∨ b = TO) → ∀ b ∈ fp2, b ∉ S' := fun hS' b hb m => by
    rcases hS' b m with rfl | rfl
    · exact S.z2 hb
    · exact S.O2 hb
  have zw1 : z ∉ wr1 := fun m => S.z1 (D1.sub _ m)
  have zw2 : z ∉ wr2 := fun m => S.z2 (D2.sub _ m)
  have Ow1 : TO ∉ wr1 := fun m => S.O1 (D1.sub _ m)
  have Ow2 : TO ∉ wr2 := fun m => S.O2 (D2.sub _ m)
  have Iw1 : TI ∉ wr1 := fun m => S.I1 (D1.sub _ m)
  have Iw2 : TI ∉ wr2 := fun m => S.I2 (D2.sub _ m)
  obtain ⟨a1, a2, hTO⟩ := hTO
  obtain ⟨hp, g, d, tk0, os⟩ := s
  show wpAny _ _ (field (.ref z) 2 >>= _) _ _ _
  refine wpAny_bind (wpAny_field hz rfl (x := .bool false) rfl ?_)
  show wpAny _ _ (field (.ref z) 3 >>= _) _ _ _
  refine wpAny_bind (wpAny_field hz rfl (x := .ref TI) rfl (wpAny_bind (wpAny_seqItems hTI rfl ?_)))
  show wpAny _ _ (Builtin.SmallTypes.ownedTupleIsFree (.ref z) >>= _) _ _ _
  refine wpAny_bind (own_free hz hv ?_ fun g0 hz0 hs0 => ?_)
  · simp only [if_true]
    refine wpAny_bind (wpAny_rule (wpAny_bind (wpAny_field hz rfl (x := .ref TO) rfl ?_)))
    refine wpAny_bind (wpAny_setField_rec hz (by simp) fun g0 hz0 hs0 => ?_)
    replace hz0 : ZV g0 z TI TO .ellipsis f := hz0
    replace hs0 : Heap.SameBut z hp g0 := hs0
    have k0 : KB [z] hp g0 := sb_kb hs0 (List.mem_singleton_self z)
    refine wpAny_bind ?_
    simp only [List.zipIdx_cons, List.zipIdx_nil, List.forIn_cons, List.forIn_nil]
    refine wpAny_bind (wpAny_bind (wpAny_onRaise ?_))
    show wpAny _ _ (Builtin.SmallTypes.nextOf (.ref i1) >>= _) _ _ ⟨g0, g, d, tk0, os⟩
    refine wpAny_bind (D1.item i ⟨g0, g, d, tk0, os⟩ _ _ l1 (D1.over st1 k0 (o1 (by simp))) fun x1 p1 tk1 hx1 sn1 kb1 sz1 => wpAny_pure ?_)
    replace hx1 : P1 i x1 g0.objs.size p1.objs.size p1 := hx1
    replace kb1 : KB wr1 g0 p1 := kb1
    replace sz1 : g0.objs.size ≤ p1.objs.size := sz1
    have U1 : IsTupOf2 p1 TO a1 a2 := kb1 _ _ Ow1 (k0 _ _ (by simp; exact fun e => S.zTO e.symm) hTO)
    refine wpAny_bind (wpAny_seqItems (s := ⟨p1, g, d, tk1, os⟩) U1 rfl (wpAny_bind (updateSeq_IsTupOf2 (s := ⟨p1, g, d, tk1, os⟩) U1 fun g1 hT1 hs1 => ?_)))
    replace hT1 : IsTupOf2 g1 TO x1 a2 := hT1
    replace hs1 : Heap.SameBut TO p1 g1 := hs1
    have k1 : KB [TO] p1 g1 := sb_kb hs1 (List.mem_singleton_self TO)
    refine wpAny_bind (wpAny_letGo (wpAny_pure ?_))
    refine wpAny_bind (wpAny_bind (wpAny_onRaise ?_))
    show wpAny _ _ (Builtin.SmallTypes.nextOf (.ref i2) >>= _) _ _ ⟨g1, g, d, tk1, os⟩
    refine wpAny_bind (D2.item i ⟨g1, g, d, tk1, os⟩ _ _ l2 (D2.over (D2.over (D2.over st2 k0 (o2 (by simp))) kb1 w21) k1 (o2 (by simp))) fun x2 p2 tk2 hx2 sn2 kb2 sz2 => wpAny_pure ?_)
    replace hx2 : P2 i x2 g1.objs.size p2.objs.size p2 := hx2
    replace kb2 : KB wr2 g1 p2 := kb2
    replace sz2 : g1.objs.size ≤ p2.objs.size := sz2
    have U2 : IsTupOf2 p2 TO x1 a2 := kb2 _ _ Ow2 hT1
    refine wpAny_bind (wpAny_seqItems (s := ⟨p2, g, d, tk2, os⟩) U2 rfl (wpAny_bind (updateSeq_IsTupOf2 (s := ⟨p2, g, d, tk2, os⟩) U2 fun g2 hT2 hs2 => ?_)))
    replace hT2 : IsTupOf2 g2 TO x1 x2 := hT2
    replace hs2 : Heap.SameBut TO p2 g2 := hs2
    have k2 : KB [TO] p2 g2 := sb_kb hs2 (List.mem_singleton_self TO)
    refine wpAny_bind (wpAny_letGo (wpAny_pure (wpAny_pure ?_)))
    refine wpAny_bind (wpAny_seqItems (s := ⟨g2, g, d, tk2, os⟩) hT2 rfl (wpAny_bind (wpAny_newTuple ?_)))
    have zne : z ∉ [TO] := by simp; exact S.zTO
    have hz2 : ZV g2 z TI TO .ellipsis f := k2 _ _ zne (kb2 _ _ zw2 (k1 _ _ zne (kb1 _ _ zw1 hz0)))
    have s0 : g0.objs.size = hp.objs.size := hs0.1
    have s1 : g1.objs.size = p1.objs.size := hs1.1
    have s2 : g2.objs.size = p2.objs.size := hs2.1
    have zlt : z < g2.objs.size := Heap.lt_size hz2
    show wpAny _ _ (Builtin.SmallTypes.ownedTupleHandOut (.ref z) (.ref g2.objs.size) >>= _) _ _ ⟨g2.push { cls := .type "tuple", data := .seq #[x1, x2] }, g, d, tk2, os⟩
    refine wpAny_bind ?_
    unfold Builtin.SmallTypes.ownedTupleHandOut
    have hz3 : ZV (g2.push { cls := .type "tuple", data := .seq #[x1, x2] }) z TI TO .ellipsis f := Heap.get?_push_of_some _ hz2
    refine wpAny_bind (wpAny_setField_rec hz3 (by simp) fun h₇ hz₇ hs₇ => ?_)
    replace hz₇ : ZV h₇ z TI TO (rawInt g2.objs.size) f := hz₇
    refine wpAny_setField_rec hz₇ (by simp) fun h₈ hz₈ hs₈ => ?_
    replace hz₈ : ZV h₈ z TI TO (rawInt g2.objs.size) false := hz₈
    replace hs₇ : Heap.SameBut z (g2.push { cls := .type "tuple", data := .seq #[x1, x2] }) h₇ := hs₇
    replace hs₈ : Heap.SameBut z h₇ h₈ := hs₈
    have up : KB [z] g2 h₈ := fun c o c1 e => hs₈.extBut _ _ (fun q => c1 (by simp [q])) (hs₇.extBut _ _ (fun q => c1 (by simp [q])) (Heap.get?_push_of_some _ e))
    have tz : g2.objs.size ≠ z := Nat.ne_of_gt zlt
    have hT₈ : IsTupOf2 h₈ g2.objs.size x1 x2 := hs₈.extBut _ _ tz (hs₇.extBut _ _ tz (Heap.get?_push_size _ rfl))
    have s8 : h₈.objs.size = g2.objs.size + 1 := by rw [hs₈.1, hs₇.1, Heap.size_push]
    have Iz : TI ∉ [z] := by simp; exact fun e => S.zTI e.symm
    have IO : TI ∉ [TO] := by simp; exact S.TT
    have Oz : TO ∉ [z] := by simp; exact fun e => S.zTO e.symm
    have tot : KB (z :: TO :: (wr1 ++ wr2)) hp h₈ := fun c o hc e => by
      simp only [List.mem_cons, List.mem_append, not_or] at hc
      exact up _ _ (by simp; exact hc.1) (k2 _ _ (by simp; exact hc.2.1) (kb2 _ _ hc.2.2.2 (k1 _ _ (by simp; exact hc.2.1) (kb1 _ _ hc.2.2.1 (k0 _ _ (by simp; exact hc.1) e)))))
    have alt1 : ∀ {b : Addr} {o : Obj}, g0.objs.size ≤ b → b < p1.objs.size → p1.get? b = some o → h₈.get? b = some o := fun {b o} hb1 hb2 e => by
      have nf : ∀ {c : Addr} {u : Obj}, hp.get? c = some u → c < g0.objs.size := fun x => by rw [s0]; exact Heap.lt_size x
      have nO : b ∉ [TO] := by simp; exact fun z => absurd (nf hTO) (by rw [← z]; exact Nat.not_lt.mpr hb1)
      have n2' : b ∉ wr2 := fun m => by
        obtain ⟨o', e'⟩ := D2.live _ _ st2 b (D2.sub b m)
        exact absurd (nf e') (Nat.not_lt.mpr hb1)
      have nz : b ∉ [z] := by simp; exact fun q => absurd (nf hz) (by rw [← q]; exact Nat.not_lt.mpr hb1)
      exact up _ _ nz (k2 _ _ nO (kb2 _ _ n2' (k1 _ _ nO e)))
    have alt2 : ∀ {b : Addr} {o : Obj}, g1.objs.size ≤ b → b < p2.objs.size → p2.get? b = some o → h₈.get? b = some o := fun {b o} hb1 hb2 e => by
      have nf : ∀ {c : Addr} {u : Obj}, hp.get? c = some u → c < g1.objs.size := fun x => by rw [s1]; exact Nat.lt_of_lt_of_le (by rw [s0]; exact Heap.lt_size x) sz1
      have nO : b ∉ [TO] := by simp; exact fun z => absurd (nf hTO) (by rw [← z]; exact Nat.not_lt.mpr hb1)
      have nz : b ∉ [z] := by simp; exact fun q => absurd (nf hz) (by rw [← q]; exact Nat.not_lt.mpr hb1)
      exact up _ _ nz (k2 _ _ nO e)
    refine wpAny_pure ⟨_, rfl, ?_⟩
    refine hQ g2.objs.size x1 x2 h₈ tk2 _ _ (.inr ⟨g2.objs.size, rfl⟩) hz₈ (up _ _ Iz (k2 _ _ IO (kb2 _ _ Iw2 (k1 _ _ IO (kb1 _ _ Iw1 (k0 _ _ Iz hTI)))))) ⟨_, _, up _ _ Oz hT2⟩
      (D1.over (D1.over (D1.over (D1.over sn1 k1 (o1 (by simp))) kb2 w12) k2 (o1 (by simp))) up (o1 (by simp))) (D2.over (D2.over sn2 k2 (o2 (by simp))) up (o2 (by simp))) ?_ (by rw [s8]; exact Nat.lt_succ_self _) hT₈ ?_ ?_ tot
    · show hp.objs.size ≤ g2.objs.size
      omega
    · exact D1.mono _ _ _ _ _ _ _ _ hx1 (by rw [s0]; exact Nat.le_refl _) (show p1.objs.size ≤ g2.objs.size by omega) fun b o b1 b2 e => alt1 b1 b2 e
    · exact D2.mono _ _ _ _ _ _ _ _ hx2 (show hp.objs.size ≤ g1.objs.size by omega) (show p2.objs.size ≤ g2.objs.size by omega) fun b o b1 b2 e => alt2 b1 b2 e
  · simp only [Bool.false_eq_true, if_false]
    replace hz0 : ZV g0 z TI TO v true := hz0
    replace hs0 : Heap.SameBut z hp g0 := hs0
    have k0 : KB [z] hp g0 := sb_kb hs0 (List.mem_singleton_self z)
    refine wpAny_bind ?_
    rw [← Array.forIn_toList]
    simp only [List.forIn_cons, List.forIn_nil]
    refine wpAny_bind (wpAny_bind (wpAny_holding ?_))
    show wpAny _ _ (Builtin.SmallTypes.nextOf (.ref i1) >>= _) _ _ ⟨g0, g, d, tk0, os⟩
    refine wpAny_bind (D1.item i ⟨g0, g, d, tk0, os⟩ _ _ l1 (D1.over st1 k0 (o1 (by simp))) fun x1 p1 tk1 hx1 sn1 kb1 sz1 => wpAny_pure (wpAny_pure ?_))
    replace hx1 : P1 i x1 g0.objs.size p1.objs.size p1 := hx1
    replace kb1 : KB wr1 g0 p1 := kb1
    replace sz1 : g0.objs.size ≤ p1.objs.size := sz1
    refine wpAny_bind (wpAny_bind (wpAny_holding ?_))
    show wpAny _ _ (Builtin.SmallTypes.nextOf (.ref i2) >>= _) _ _ ⟨p1, g, d, tk1, os⟩
    refine wpAny_bind (D2.item i ⟨p1, g, d, tk1, os⟩ _ _ l2 (D2.over (D2.over st2 k0 (o2 (by simp))) kb1 w21) fun x2 p2 tk2 hx2 sn2 kb2 sz2 => wpAny_pure (wpAny_pure (wpAny_pure ?_)))
    replace hx2 : P2 i x2 p1.objs.size p2.objs.size p2 := hx2
    replace kb2 : KB wr2 p1 p2 := kb2
    replace sz2 : p1.objs.size ≤ p2.objs.size := sz2
    show wpAny _ _ (newTuple [x1, x2] >>= _) _ _ ⟨p2, g, d, tk2, os⟩
    refine wpAny_bind (wpAny_newTuple ?_)
    have s0 : g0.objs.size = hp.objs.size := hs0.1
    have hz2 : ZV p2 z TI TO v true := kb2 _ _ zw2 (kb1 _ _ zw1 hz0)
    have Iz : TI ∉ [z] := by simp; exact fun e => S.zTI e.symm
    have Oz : TO ∉ [z] := by simp; exact fun e => S.zTO e.symm
    have up : KB [] p2 (p2.push { cls := .type "tuple", data := .seq #[x1, x2] }) := fun c o _ e => Heap.get?_push_of_some _ e
    have hTI2 : IsTupOf2 p2 TI (.ref i1) (.ref i2) := kb2 _ _ Iw2 (kb1 _ _ Iw1 (k0 _ _ Iz hTI))
    have hTO2 : IsTupOf2 p2 TO a1 a2 := kb2 _ _ Ow2 (kb1 _ _ Ow1 (k0 _ _ Oz hTO))
    have alt1 : ∀ {b : Addr} {o : Obj}, g0.objs.size ≤ b → p1.get? b = some o → p2.get? b = some o := fun {b o} hb1 e => by
      have n2' : b ∉ wr2 := fun m => by
        obtain ⟨o', e'⟩ := D2.live _ _ st2 b (D2.sub b m)
        have := Heap.lt_size e'
        have hb1 : hp.objs.size ≤ b := by rw [← s0]; exact hb1
        exact absurd this (Nat.not_lt.mpr hb1)
      exact kb2 _ _ n2' e
    refine wpAny_pure ⟨_, rfl, ?_⟩
    refine hQ p2.objs.size x1 x2 (p2.push { cls := .type "tuple", data := .seq #[x1, x2] }) tk2 _ _ hv (up _ _ (by simp) hz2) (up _ _ (by simp) hTI2) ⟨_, _, up _ _ (by simp) hTO2⟩
      (D1.over (D1.over sn1 kb2 w12) up (by simp)) (D2.over sn2 up (by simp)) ?_ (by rw [Heap.size_push]; exact Nat.lt_succ_self _) (Heap.get?_push_size _ rfl) ?_ ?_ fun c o hc e => ?_
    · show hp.objs.size ≤ p2.objs.size
      omega
    · exact D1.mono _ _ _ _ _ _ _ _ hx1 (by rw [s0]; exact Nat.le_refl _) sz2 fun b o b1 b2 e => up _ _ (by simp) (alt1 b1 e)
    · exact D2.mono _ _ _ _ _ _ _ _ hx2 (show hp.objs.size ≤ p1.objs.size by omega) (Nat.le_refl _) fun b o b1 b2 e => up _ _ (by simp) e
    · simp only [List.mem_cons, List.mem_append, not_or] at hc
      exact up _ _ (by simp) (kb2 _ _ hc.2.2.2 (kb1 _ _ hc.2.2.1 (k0 _ _ (by simp; exact hc.1) e)))
theorem zip_done {v : Value} {f : Bool} {Q : Fin → Shared → Prop} (S : Sep z TI TO fp1 fp2 wr1 wr2) (D1 : Dr prog w A i1 fp1 wr1 n1 P1 St1) (D2 : Dr prog w A i2 fp2 wr2 n2 P2 St2) (hz : ZV s.heap z TI TO v f) (hv : v = .none ∨ ∃ T : Addr, v = rawInt (T : Nat))
    (hTI : IsTupOf2 s.heap TI (.ref i1) (.ref i2)) (hTO : ∃ a b, IsTupOf2 s.heap TO a b) (st1 : St1 i s.heap) (st2 : St2 i s.heap) (l1 : i ≤ n1) (l2 : i ≤ n2) (hend : i = n1 ∨ i = n2)
    (hE : ∀ h' tk e, KB (z :: TO :: (wr1 ++ wr2)) s.heap h' → (∃ o, h'.get? e = some o ∧ o.cls = .type "StopIteration") → E (.ref e) { s with heap := h', toks := tk }) :
    wpAny (model prog w) A (Builtin.«zip.__next__» ⟨[.ref z], []⟩) Q E s := by
  have w21 := S.d21
  have o1 : ∀ {S' : List Addr}, (∀ b ∈ S', b = z ∨ b = TO) → ∀ b ∈ fp1, b ∉ S' := fun hS' b hb m => by
    rcases hS' b m with rfl | rfl
    · exact S.z1 hb
    · exact S.O1 hb
  have o2 : ∀ {S' : List Addr}, (∀ b ∈ S', b = z ∨ b = TO) → ∀ b ∈ fp2, b ∉ S' := fun hS' b hb m => by
    rcases hS' b m with rfl | rfl
    · exact S.z2 hb
    · exact S.O2 hb
  have zw1 : z ∉ wr1 := fun m => S.z1 (D1.sub _ m)
  have zw2 : z ∉ wr2 := fun m => S.z2 (D2.sub _ m)
  have Ow1 : TO ∉ wr1 := fun m => S.O1 (D1.sub _ m)
  have zne : z ∉ [TO] := by simp; exact S.zTO
  obtain ⟨a1, a2, hTO⟩ := hTO
  obtain ⟨hp, g, d, tk0, os⟩ := s
  show wpAny _ _ (field (.ref z) 2 >>= _) _ _ _
  refine wpAny_bind (wpAny_field hz rfl (x := .bool false) rfl ?_)
  show wpAny _ _ (field (.ref z) 3 >>= _) _ _ _
  refine wpAny_bind (wpAny_field hz rfl (x := .ref TI) rfl (wpAny_bind (wpAny_seqItems hTI rfl ?_)))
  show wpAny _ _ (Builtin.SmallTypes.ownedTupleIsFree (.ref z) >>= _) _ _ _
  refine wpAny_bind (own_free hz hv ?_ fun g0 hz0 hs0 => ?_)
  · simp only [if_true]
    refine wpAny_bind (wpAny_rule (wpAny_bind (wpAny_field hz rfl (x := .ref TO) rfl ?_)))
    refine wpAny_bind (wpAny_setField_rec hz (by simp) fun g0 hz0 hs0 => ?_)
    replace hz0 : ZV g0 z TI TO .ellipsis f := hz0
    replace hs0 : Heap.SameBut z hp g0 := hs0
    have k0 : KB [z] hp g0 := sb_kb hs0 (List.mem_singleton_self z)
    refine wpAny_bind ?_
    simp only [List.zipIdx_cons, List.zipIdx_nil, List.forIn_cons, List.forIn_nil]
    refine wpAny_bind (wpAny_bind (wpAny_onRaise ?_))
    show wpAny _ _ (Builtin.SmallTypes.nextOf (.ref i1) >>= _) _ _ ⟨g0, g, d, tk0, os⟩
    by_cases lt1 : i < n1
    · refine wpAny_bind (D1.item i ⟨g0, g, d, tk0, os⟩ _ _ lt1 (D1.over st1 k0 (o1 (by simp))) fun x1 p1 tk1 hx1 sn1 kb1 sz1 => wpAny_pure ?_)
      replace kb1 : KB wr1 g0 p1 := kb1
      have U1 : IsTupOf2 p1 TO a1 a2 := kb1 _ _ Ow1 (k0 _ _ (by simp; exact fun e => S.zTO e.symm) hTO)
      refine wpAny_bind (wpAny_seqItems (s := ⟨p1, g, d, tk1, os⟩) U1 rfl (wpAny_bind (updateSeq_IsTupOf2 (s := ⟨p1, g, d, tk1, os⟩) U1 fun g1 hT1 hs1 => ?_)))
      replace hs1 : Heap.SameBut TO p1 g1 := hs1
      have k1 : KB [TO] p1 g1 := sb_kb hs1 (List.mem_singleton_self TO)
      refine wpAny_bind (wpAny_letGo (wpAny_pure ?_))
      have e2 : i = n2 := by omega
      refine wpAny_bind (wpAny_bind (wpAny_onRaise ?_))
      show wpAny _ _ (Builtin.SmallTypes.nextOf (.ref i2) >>= _) _ _ ⟨g1, g, d, tk1, os⟩
      refine wpAny_bind (D2.done ⟨g1, g, d, tk1, os⟩ _ _ (by rw [← e2]; exact D2.over (D2.over (D2.over st2 k0 (o2 (by simp))) kb1 w21) k1 (o2 (by simp))) fun q tk2 e kq he => ?_)
      replace kq : KB wr2 g1 q := kq
      obtain ⟨oe, hoe, hce⟩ := he
      replace hoe : q.get? e = some oe := hoe
      have hzq : ZV q z TI TO .ellipsis f := kq _ _ zw2 (k1 _ _ zne (kb1 _ _ zw1 hz0))
      have hez : e ≠ z := fun x => by subst x; rw [hzq] at hoe; cases hoe; simp at hce
      refine wpAny_setField_rec (s := ⟨q, g, d, tk2, os⟩) hzq (by simp) fun q' _ hq' => ?_
      replace hq' : Heap.SameBut z q q' := hq'
      refine hE q' tk2 e (fun c o hc x => ?_) ⟨oe, hq'.extBut _ _ hez hoe, hce⟩
      simp only [List.mem_cons, List.mem_append, not_or] at hc
      exact hq'.extBut _ _ hc.1 (kq _ _ hc.2.2.2 (k1 _ _ (by simp; exact hc.2.1) (kb1 _ _ hc.2.2.1 (k0 _ _ (by simp; exact hc.1) x))))
    · have e1 : i = n1 := by omega
      refine wpAny_bind (D1.done ⟨g0, g, d, tk0, os⟩ _ _ (by rw [← e1]; exact D1.over st1 k0 (o1 (by simp))) fun q tk2 e kq he => ?_)
      replace kq : KB wr1 g0 q := kq
      obtain ⟨oe, hoe, hce⟩ := he
      replace hoe : q.get? e = some oe := hoe
      have hzq : ZV q z TI TO .ellipsis f := kq _ _ zw1 hz0
      have hez : e ≠ z := fun x => by subst x; rw [hzq] at hoe; cases hoe; simp at hce
      refine wpAny_setField_rec (s := ⟨q, g, d, tk2, os⟩) hzq (by simp) fun q' _ hq' => ?_
      replace hq' : Heap.SameBut z q q' := hq'
      refine hE q' tk2 e (fun c o hc x => ?_) ⟨oe, hq'.extBut _ _ hez hoe, hce⟩
      simp only [List.mem_cons, List.mem_append, not_or] at hc
      exact hq'.extBut _ _ hc.1 (kq _ _ hc.2.2.1 (k0 _ _ (by simp; exact hc.1) x))
  · simp only [Bool.false_eq_true, if_false]
    replace hz0 : ZV g0 z TI TO v true := hz0
    replace hs0 : Heap.SameBut z hp g0 := hs0
    have k0 : KB [z] hp g0 := sb_kb hs0 (List.mem_singleton_self z)
    refine wpAny_bind ?_
    rw [← Array.forIn_toList]
    simp only [List.forIn_cons, List.forIn_nil]
    refine wpAny_bind (wpAny_bind (wpAny_holding ?_))
    show wpAny _ _ (Builtin.SmallTypes.nextOf (.ref i1) >>= _) _ _ ⟨g0, g, d, tk0, os⟩
    by_cases lt1 : i < n1
    · refine wpAny_bind (D1.item i ⟨g0, g, d, tk0, os⟩ _ _ lt1 (D1.over st1 k0 (o1 (by simp))) fun x1 p1 tk1 hx1 sn1 kb1 sz1 => wpAny_pure (wpAny_pure ?_))
      replace kb1 : KB wr1 g0 p1 := kb1
      have e2 : i = n2 := by omega
      refine wpAny_bind (wpAny_bind (wpAny_holding ?_))
      show wpAny _ _ (Builtin.SmallTypes.nextOf (.ref i2) >>= _) _ _ ⟨p1, g, d, tk1, os⟩
      refine wpAny_bind (D2.done ⟨p1, g, d, tk1, os⟩ _ _ (by rw [← e2]; exact D2.over (D2.over st2 k0 (o2 (by simp))) kb1 w21) fun q tk2 e kq he => hE q tk2 e (fun c o hc x => ?_) he)
      replace kq : KB wr2 p1 q := kq
      simp only [List.mem_cons, List.mem_append, not_or] at hc
      exact kq _ _ hc.2.2.2 (kb1 _ _ hc.2.2.1 (k0 _ _ (by simp; exact hc.1) x))
    · have e1 : i = n1 := by omega
      refine wpAny_bind (D1.done ⟨g0, g, d, tk0, os⟩ _ _ (by rw [← e1]; exact D1.over st1 k0 (o1 (by simp))) fun q tk2 e kq he => hE q tk2 e (fun c o hc x => ?_) he)
      replace kq : KB wr1 g0 q := kq
      simp only [List.mem_cons, List.mem_append, not_or] at hc
      exact kq _ _ hc.2.2.1 (k0 _ _ (by simp; exact hc.1) x)
/-- the state of a zip -/
def ZSt (z TI TO i1 i2 : Addr) (St1 St2 : Nat → Heap → Prop) (i : Nat) (h : Heap) : Prop :=
  ∃ v f, (v = .none ∨ ∃ T : Addr, v = rawInt (T : Nat)) ∧ ZV h z TI TO v f ∧ IsTupOf2 h TI (.ref i1) (.ref i2) ∧ (∃ a b, IsTupOf2 h TO a b) ∧ St1 i h ∧ St2 i h
def ZP (P1 P2 : PV) : PV := fun i v lo hi h => ∃ T x1 x2, v = .ref T ∧ lo ≤ T ∧ T < hi ∧ IsTupOf2 h T x1 x2 ∧ P1 i x1 lo T h ∧ P2 i x2 lo T h
theorem Dr.zip (S : Sep z TI TO fp1 fp2 wr1 wr2) (D1 : Dr prog w A.in1 i1 fp1 wr1 n1 P1 St1) (D2 : Dr prog w A.in1 i2 fp2 wr2 n2 P2 St2) :
    Dr prog w A z (z :: TI :: TO :: (fp1 ++ fp2)) (z :: TO :: (wr1 ++ wr2)) (min n1 n2) (ZP P1 P2) (ZSt z TI TO i1 i2 St1 St2) where
  sub := fun b hb => by
    simp only [List.mem_cons, List.mem_append] at hb ⊢
    rcases hb with hb | hb | hb | hb
    · exact .inl hb
    · exact .inr (.inr (.inl hb))
    · exact .inr (.inr (.inr (.inl (D1.sub b hb))))
    · exact .inr (.inr (.inr (.inr (D2.sub b hb))))
  live := fun i h ⟨v, f, _, hz, hTI, ⟨a, b', hTO⟩, st1, st2⟩ b hb => by
    simp only [List.mem_cons, List.mem_append] at hb
    rcases hb with rfl | rfl | rfl | hb | hb
    · exact ⟨_, hz⟩
    · exact ⟨_, hTI⟩
    · exact ⟨_, hTO⟩
    · exact D1.live _ _ st1 b hb
    · exact D2.live _ _ st2 b hb
  frame := fun i h h' ⟨v, f, hv, hz, hTI, ⟨a, b', hTO⟩, st1, st2⟩ k => ⟨v, f, hv, k z (by simp) _ hz, k TI (by simp) _ hTI, ⟨a, b', k TO (by simp) _ hTO⟩, D1.frame _ _ _ st1 fun b hb o e => k b (by simp [hb]) o e, D2.frame _ _ _ st2 fun b hb o e => k b (by simp [hb]) o e⟩
  mono := fun i v lo hi lo' hi' h h' ⟨T, x1, x2, ev, t1, t2, hT, p1, p2⟩ a b k => ⟨T, x1, x2, ev, Nat.le_trans a t1, Nat.lt_of_lt_of_le t2 b, k T _ t1 t2 hT,
    D1.mono _ _ _ _ _ _ _ _ p1 a (Nat.le_refl _) fun c o c1 c2 e => k c o c1 (Nat.lt_trans c2 t2) e, D2.mono _ _ _ _ _ _ _ _ p2 a (Nat.le_refl _) fun c o c1 c2 e => k c o c1 (Nat.lt_trans c2 t2) e⟩
  item := fun i s Q E hi ⟨v, f, hv, hz, hTI, hTO, st1, st2⟩ k => by
    have hT : s.TypeIs (.ref z) "zip" := ⟨_, hz, rfl⟩
    unfold Builtin.SmallTypes.nextOf
    refine wpAny_bind (wpAny_callSpecial?_slot (name := Str.ofString "__next__") hT F.slot_zip_next (wpAny_call_entry F.slot_zip_next hT F.entry_zip_next
      (zip_item S D1 D2 hz hv hTI hTO st1 st2 (by omega) (by omega) fun T x1 x2 h' tk v' f' hv' hz' hTI' hTO' s1 s2 t1 t2 hT' p1 p2 kb => wpAny_pure (k (.ref T) h' tk ⟨T, x1, x2, rfl, t1, t2, hT', p1, p2⟩ ⟨v', f', hv', hz', hTI', hTO', s1, s2⟩ kb (Nat.le_of_lt (Nat.lt_of_le_of_lt t1 t2)))) (F.args_zip_next_1 _)))
  done := fun s Q E ⟨v, f, hv, hz, hTI, hTO, st1, st2⟩ k => by
    have hT : s.TypeIs (.ref z) "zip" := ⟨_, hz, rfl⟩
    unfold Builtin.SmallTypes.nextOf
    exact wpAny_bind (wpAny_callSpecial?_slot (name := Str.ofString "__next__") hT F.slot_zip_next (wpAny_call_entry F.slot_zip_next hT F.entry_zip_next
      (zip_done S D1 D2 hz hv hTI hTO st1 st2 (by omega) (by omega) (by omega) fun h' tk e kb he => k h' tk e kb he) (F.args_zip_next_1 _)))
end
end Y
end

section
set_option Elab.async false
set_option linter.all false
set_option maxRecDepth 100000
set_option autoImplicit false
namespace PySem
open Sem (wp)
theorem meets_zip_newY {y TI2 TO2 : Addr} {v2 : Value} {o2 : Obj} {H2 : Heap → Prop} (B2 : Begins v2 o2 H2) :
    Meets (Builtin.«zip.__new__» ⟨[.type "zip", .ref y, v2], []⟩) (fun _ R s => (IsZip s.heap y TI2 TO2 .none ∧ H2 s.heap) ∧
      R (.ok (.ret (.ref (((s.heap.push o2).push { cls := .type "tuple", data := .seq #[.ref y, .ref s.heap.objs.size] }).push { cls := .type "tuple", data := .seq #[.none, .none] }).objs.size)))
        { s with heap := (((s.heap.push o2).push { cls := .type "tuple", data := .seq #[.ref y, .ref s.heap.objs.size] }).push { cls := .type "tuple", data := .seq #[.none, .none] }).push { cls := .type "zip", data := .fields #[.none, .bool false, .bool false, .ref (s.heap.push o2).objs.size, .ref ((s.heap.push o2).push { cls := .type "tuple", data := .seq #[.ref y, .ref s.heap.objs.size] }).objs.size] } }) :=
  .of_wp fun prog w A R s h => by
    obtain ⟨hp, g, d, tk, os⟩ := s
    obtain ⟨⟨h1, h2⟩, h⟩ := h
    have hsub := sub_zip
    have q1 : ∀ {A' : Around} {E : Value → Shared → Prop} {Q : Value → Shared → Prop}, Q (.ref y) ⟨hp, g, d, tk, os⟩ → wpAny (model prog w) A' (pyIter (.ref y)) Q E ⟨hp, g, d, tk, os⟩ := fun q => wpAny_pyIter_zip (s := ⟨hp, g, d, tk, os⟩) h1 q
    have q2 : ∀ {A' : Around} {E : Value → Shared → Prop} {Q : Value → Shared → Prop}, Q (.ref hp.objs.size) ⟨hp.push o2, g, d, tk, os⟩ → wpAny (model prog w) A' (pyIter v2) Q E ⟨hp, g, d, tk, os⟩ :=
      fun q => B2.iter prog w _ _ ⟨hp, g, d, tk, os⟩ _ h2 q
    wp_walk using q1, q2
    exact ⟨_, rfl, h⟩
end PySem
namespace Y
open PySem PySem.Spec L2 PySem.W
open PyProof.Rows hiding St
theorem ZSt.map {z TI TO i1 i2 : Addr} {St1 St2 St1' St2' : Nat → Heap → Prop} {i : Nat} {h : Heap} (x : ZSt z TI TO i1 i2 St1 St2 i h) (f : St1 i h → St1' i h) (g : St2 i h → St2' i h) : ZSt z TI TO i1 i2 St1' St2' i h := by
  obtain ⟨v, b, h1, h2, h3, h4, h5, h6⟩ := x
  exact ⟨v, b, h1, h2, h3, h4, f h5, g h6⟩
/-- rows of a zip of a zip, both tuples new -/
def Jn (n : Nat) (row : Nat → List V) (last : Nat → V) (G : Hp → Prop) : It :=
  ⟨fun i H => i < n ∧ G H, fun i H x H' => ∃ T1 T, x = .ref T ∧ H T1 = none ∧ (L2.upd H T1 (.tup (row i))) T = none ∧ H' = L2.upd (L2.upd H T1 (.tup (row i))) T (.tup [.ref T1, last i]), fun i H => i = n ∧ G H⟩
def Zst2 (k1 k2 k3 : Kd) (z TI TO y TI2 TO2 i1 i2 i3 a b c : Addr) : Nat → Heap → Prop :=
  ZSt z TI TO y i3 (ZSt y TI2 TO2 i1 i2 (fun i h => KIt k1 h i1 a i) (fun i h => KIt k2 h i2 b i)) (fun i h => KIt k3 h i3 c i)
section
variable {prog : Program} {w : World} {A : Around} {E : Value → Shared → Prop} {s : Shared}
theorem go_zip {elts : List Expr} {k : Nat} {pos : Pos} {z TI TO T : Addr} {v : Value} {f : Bool} {Q : Unit → Shared → Prop} (hz : ZV s.heap z TI TO v f) (hv : v = .none ∨ ∃ T : Addr, v = rawInt (T : Nat))
    (hQ : ∀ h' v', (v' = .none ∨ ∃ T : Addr, v' = rawInt (T : Nat)) → ZV h' z TI TO v' f → Heap.SameBut z s.heap h' → Q () { s with heap := h' }) : wpAny (model prog w) A (letOwnedTupleGo (.Tuple elts k pos) (.ref z) (.ref T)) Q E s := by
  unfold letOwnedTupleGo
  refine wpAny_bind (wpAny_load hz ?_)
  show wpAny _ _ (if (["enumerate", "zip", "dict_itemiterator", "dict_reverseitemiterator", "odict_iterator", "itertools.zip_longest", "itertools.pairwise"].contains "zip" &&
    (#[v, .bool f, .bool false, .ref TI, .ref TO] : Array Value)[0]? == some (rawInt T)) = true then _ else _) Q E s
  split
  · refine wpAny_bind (wpAny_rule ?_)
    show wpAny _ _ (setField (.ref z) 0 .none) Q E s
    exact wpAny_setField_rec hz (by simp) fun h' hz' hs' => hQ h' .none (.inl rfl) hz' hs'
  · exact wpAny_pure (hQ s.heap v hv hz (Heap.SameBut.refl _ _))
end
theorem nodup9 {l : List Addr} (h : l.Nodup) {i j : Nat} {x y : Addr} (hi : l[i]? = some x) (hj : l[j]? = some y) (hn : i ≠ j) : x ≠ y := fun e => by
  subst e
  obtain ⟨hi1, hi2⟩ := List.getElem?_eq_some_iff.mp hi
  obtain ⟨hj1, hj2⟩ := List.getElem?_eq_some_iff.mp hj
  have pw := List.pairwise_iff_getElem.mp h
  rcases Nat.lt_or_gt_of_ne hn with g | g
  · exact pw i j hi1 hj1 g (hi2.trans hj2.symm)
  · exact pw j i hj1 hi1 g (hj2.trans hi2.symm)
section
variable {X : Cx} {pins : List (Addr × Obj)} {σ : St} {H : Hp} {s : Shared} {k1 k2 k3 : Kd} {z TI TO y TI2 TO2 i1 i2 i3 a b c : Addr} {xs ys zs : List V}
/-- the draws of both zips, where the lists stand -/
theorem zz_draws (nd : [z, TI, TO, i3, y, TI2, TO2, i1, i2].Nodup) (I : Inv X pins σ H s) (hc : X.calm = true) (hf : ∀ e ∈ [z, TI, TO, i3, y, TI2, TO2, i1, i2], FpOk X pins H e) (h1 : KSq k1 X.K H a xs) (h2 : KSq k2 X.K H b ys) (h3 : KSq k3 X.K H c zs) :
    ∃ its jts kts : List Value, Vals xs its ∧ Vals ys jts ∧ Vals zs kts ∧ KIs k1 s.heap a its.toArray ∧ KIs k2 s.heap b jts.toArray ∧ KIs k3 s.heap c kts.toArray ∧
      Sep z TI TO (y :: TI2 :: TO2 :: ([i1, a] ++ [i2, b])) [i3, c] (y :: TO2 :: ([i1] ++ [i2])) [i3] ∧
      Dr X.prog X.w X.A.in1 y (y :: TI2 :: TO2 :: ([i1, a] ++ [i2, b])) (y :: TO2 :: ([i1] ++ [i2])) (min xs.length ys.length) (ZP (fun i v _ _ _ => its.toArray[i]? = some v) (fun i v _ _ _ => jts.toArray[i]? = some v))
        (ZSt y TI2 TO2 i1 i2 (fun i h => KIt k1 h i1 a i ∧ KIs k1 h a its.toArray) (fun i h => KIt k2 h i2 b i ∧ KIs k2 h b jts.toArray)) ∧
      Dr X.prog X.w X.A.in1 i3 [i3, c] [i3] zs.length (fun i v _ _ _ => kts.toArray[i]? = some v) (fun i h => KIt k3 h i3 c i ∧ KIs k3 h c kts.toArray) := by
  obtain ⟨its, r1, p1, _⟩ := kd_of I h1
  obtain ⟨jts, r2, p2, _⟩ := kd_of I h2
  obtain ⟨kts, r3, p3, _⟩ := kd_of I h3
  have ne : ∀ {i j : Nat} {x y' : Addr}, [z, TI, TO, i3, y, TI2, TO2, i1, i2][i]? = some x → [z, TI, TO, i3, y, TI2, TO2, i1, i2][j]? = some y' → i ≠ j → x ≠ y' := fun h h' n => nodup9 nd h h' n
  have aa : ∀ e ∈ [z, TI, TO, i3, y, TI2, TO2, i1, i2], a ≠ e := fun e he => kd_apart I h1 (hf e he)
  have bb : ∀ e ∈ [z, TI, TO, i3, y, TI2, TO2, i1, i2], b ≠ e := fun e he => kd_apart I h2 (hf e he)
  have cc : ∀ e ∈ [z, TI, TO, i3, y, TI2, TO2, i1, i2], c ≠ e := fun e he => kd_apart I h3 (hf e he)
  have hh : X.A.in1.in1.handled = none := I.ok.hd hc
  have hh1 : X.A.in1.handled = none := I.ok.hd hc
  have kl : ∀ {k : Kd} {h : Heap} {l : Addr} {it : Array Value}, KIs k h l it → ∃ o, h.get? l = some o := fun {k h l it} x => by
    cases k
    · obtain ⟨o, e, _⟩ := x; exact ⟨o, e⟩
    · obtain ⟨o, e, _⟩ := x; exact ⟨o, e⟩
  have e1 : its.toArray.size = xs.length := by rw [List.size_toArray]; exact r1.length.symm
  have e2 : jts.toArray.size = ys.length := by rw [List.size_toArray]; exact r2.length.symm
  have e3 : kts.toArray.size = zs.length := by rw [List.size_toArray]; exact r3.length.symm
  have D1 := Dr.of (kd_draws (prog := X.prog) (w := X.w) hh k1 i1 a (aa i1 (by simp)) its.toArray) fun i h st => kl st.2
  have D2 := Dr.of (kd_draws (prog := X.prog) (w := X.w) hh k2 i2 b (bb i2 (by simp)) jts.toArray) fun i h st => kl st.2
  have D3 := Dr.of (kd_draws (prog := X.prog) (w := X.w) hh1 k3 i3 c (cc i3 (by simp)) kts.toArray) fun i h st => kl st.2
  rw [e1] at D1
  rw [e2] at D2
  rw [e3] at D3
  have S2 : Sep y TI2 TO2 [i1, a] [i2, b] [i1] [i2] := by
    refine ⟨ne (i := 4) (j := 5) rfl rfl (by decide), ne (i := 4) (j := 6) rfl rfl (by decide), ne (i := 5) (j := 6) rfl rfl (by decide), ?_, ?_, ?_, ?_, ?_, ?_, ?_, ?_⟩
    · simp only [List.mem_cons, List.not_mem_nil, or_false, not_or]; exact ⟨ne (i := 4) (j := 7) rfl rfl (by decide), fun e => aa y (by simp) e.symm⟩
    · simp only [List.mem_cons, List.not_mem_nil, or_false, not_or]; exact ⟨ne (i := 4) (j := 8) rfl rfl (by decide), fun e => bb y (by simp) e.symm⟩
    · simp only [List.mem_cons, List.not_mem_nil, or_false, not_or]; exact ⟨ne (i := 5) (j := 7) rfl rfl (by decide), fun e => aa TI2 (by simp) e.symm⟩
    · simp only [List.mem_cons, List.not_mem_nil, or_false, not_or]; exact ⟨ne (i := 5) (j := 8) rfl rfl (by decide), fun e => bb TI2 (by simp) e.symm⟩
    · simp only [List.mem_cons, List.not_mem_nil, or_false, not_or]; exact ⟨ne (i := 6) (j := 7) rfl rfl (by decide), fun e => aa TO2 (by simp) e.symm⟩
    · simp only [List.mem_cons, List.not_mem_nil, or_false, not_or]; exact ⟨ne (i := 6) (j := 8) rfl rfl (by decide), fun e => bb TO2 (by simp) e.symm⟩
    · intro e he
      simp only [List.mem_cons, List.not_mem_nil, or_false] at he ⊢
      rcases he with rfl | rfl
      · exact ne (i := 7) (j := 8) rfl rfl (by decide)
      · exact aa i2 (by simp)
    · intro e he
      simp only [List.mem_cons, List.not_mem_nil, or_false] at he ⊢
      rcases he with rfl | rfl
      · exact ne (i := 8) (j := 7) rfl rfl (by decide)
      · exact bb i1 (by simp)
  have DZ := Dr.zip S2 D1 D2
  refine ⟨its, jts, kts, r1, r2, r3, p1, p2, p3, ?_, DZ, D3⟩
  have mem7 : ∀ e, e ∈ (y :: TI2 :: TO2 :: ([i1, a] ++ [i2, b])) → e = a ∨ e = b ∨ e = y ∨ e = TI2 ∨ e = TO2 ∨ e = i1 ∨ e = i2 := fun e he => by
    simp only [List.mem_cons, List.mem_append, List.not_mem_nil, or_false] at he
    rcases he with h | h | h | (h | h) | h | h
    · exact .inr (.inr (.inl h))
    · exact .inr (.inr (.inr (.inl h)))
    · exact .inr (.inr (.inr (.inr (.inl h))))
    · exact .inr (.inr (.inr (.inr (.inr (.inl h)))))
    · exact .inl h
    · exact .inr (.inr (.inr (.inr (.inr (.inr h)))))
    · exact .inr (.inl h)
  have out : ∀ (k : Nat) (x : Addr), [z, TI, TO, i3, y, TI2, TO2, i1, i2][k]? = some x → k < 4 → x ∉ (y :: TI2 :: TO2 :: ([i1, a] ++ [i2, b])) := fun k x hx hk m => by
    have hxm : x ∈ [z, TI, TO, i3, y, TI2, TO2, i1, i2] := List.mem_of_getElem? hx
    rcases mem7 x m with e | e | e | e | e | e | e
    · exact aa x hxm e.symm
    · exact bb x hxm e.symm
    · exact ne (j := 4) hx rfl (by omega) e
    · exact ne (j := 5) hx rfl (by omega) e
    · exact ne (j := 6) hx rfl (by omega) e
    · exact ne (j := 7) hx rfl (by omega) e
    · exact ne (j := 8) hx rfl (by omega) e
  refine ⟨ne (i := 0) (j := 1) rfl rfl (by decide), ne (i := 0) (j := 2) rfl rfl (by decide), ne (i := 1) (j := 2) rfl rfl (by decide), out 0 z rfl (by decide), ?_, out 1 TI rfl (by decide), ?_, out 2 TO rfl (by decide), ?_, ?_, ?_⟩
  · simp only [List.mem_cons, List.not_mem_nil, or_false, not_or]; exact ⟨ne (i := 0) (j := 3) rfl rfl (by decide), fun e => cc z (by simp) e.symm⟩
  · simp only [List.mem_cons, List.not_mem_nil, or_false, not_or]; exact ⟨ne (i := 1) (j := 3) rfl rfl (by decide), fun e => cc TI (by simp) e.symm⟩
  · simp only [List.mem_cons, List.not_mem_nil, or_false, not_or]; exact ⟨ne (i := 2) (j := 3) rfl rfl (by decide), fun e => cc TO (by simp) e.symm⟩
  · intro e he m
    simp only [List.mem_cons, List.not_mem_nil, or_false] at m
    subst m
    exact out 3 _ rfl (by decide) he
  · intro e he m
    have m' : e ∈ (y :: TI2 :: TO2 :: ([i1, a] ++ [i2, b])) := DZ.sub e m
    simp only [List.mem_cons, List.not_mem_nil, or_false] at he
    rcases he with rfl | rfl
    · exact out 3 _ rfl (by decide) m'
    · simp only [List.mem_cons, List.mem_append, List.not_mem_nil, or_false] at m
      rcases m with h | h | h | h
      · exact cc y (by simp) h
      · exact cc TO2 (by simp) h
      · exact cc i1 (by simp) h
      · exact cc i2 (by simp) h
end
theorem iter_zip {prog : Program} {w : World} {A : Around} {E : Value → Shared → Prop} {s : Shared} {z TI TO : Addr} {v : Value} {f : Bool} {Q : Value → Shared → Prop} (hz : ZV s.heap z TI TO v f) (h : Q (.ref z) s) : wpAny (model prog w) A (pyIter (.ref z)) Q E s := by
  have hT : s.TypeIs (.ref z) "zip" := ⟨_, hz, rfl⟩
  refine wpAny_pyIter_slot hT F.slot_zip_iter (wpAny_call_entry F.slot_zip_iter hT F.entry_zip_iter ?_ (F.args_zip_iter_1 _))
  show wpAny _ _ (ret (.ref z)) _ _ s
  exact wpAny_pure ⟨_, rfl, "zip", _, hT, F.slot_zip_next.lookup, h⟩
section
variable {k1 k2 k3 : Kd} {z TI TO y TI2 TO2 i1 i2 i3 a b c : Addr} {xs ys zs : List V}
theorem turn_zz {P : Program} {w : World} {K : PySem.W.Frag} {elts : List Expr} {kk : Nat} {tpos : Pos} (nd : [z, TI, TO, i3, y, TI2, TO2, i1, i2].Nodup) :
    Turn P w K (.Tuple elts kk tpos) (Jn (min (min xs.length ys.length) zs.length) (fun i => [at' xs i, at' ys i]) (fun i => at' zs i) fun H => KSq k1 K H a xs ∧ KSq k2 K H b ys ∧ KSq k3 K H c zs) [z, TI, TO, i3, y, TI2, TO2, i1, i2] z
      (Zst2 k1 k2 k3 z TI TO y TI2 TO2 i1 i2 i3 a b c) where
  mem := List.mem_cons_self ..
  obj := fun i h st e he => by
    obtain ⟨v, f, _, q1, q2, ⟨x1, x2, q3⟩, ⟨v2, f2, _, q4, q5, ⟨x3, x4, q6⟩, q7, q8⟩, q9⟩ := st
    simp only [List.mem_cons, List.not_mem_nil, or_false] at he
    rcases he with rfl | rfl | rfl | rfl | rfl | rfl | rfl | rfl | rfl
    · exact ⟨_, q1, fun _ e => nomatch e⟩
    · exact ⟨_, q2, fun _ e => nomatch e⟩
    · exact ⟨_, q3, fun _ e => nomatch e⟩
    · exact q9.there
    · exact ⟨_, q4, fun _ e => nomatch e⟩
    · exact ⟨_, q5, fun _ e => nomatch e⟩
    · exact ⟨_, q6, fun _ e => nomatch e⟩
    · exact q7.there
    · exact q8.there
  keep := fun i h h' st k => by
    obtain ⟨v, f, hv, q1, q2, ⟨x1, x2, q3⟩, ⟨v2, f2, hv2, q4, q5, ⟨x3, x4, q6⟩, q7, q8⟩, q9⟩ := st
    exact ⟨v, f, hv, k _ (by simp) _ q1, k _ (by simp) _ q2, ⟨x1, x2, k _ (by simp) _ q3⟩, ⟨v2, f2, hv2, k _ (by simp) _ q4, k _ (by simp) _ q5, ⟨x3, x4, k _ (by simp) _ q6⟩, q7.keep (k _ (by simp)), q8.keep (k _ (by simp))⟩, q9.keep (k _ (by simp))⟩
  item := by
    intro X hP hw hK hc i pins s σ H E I hf st ⟨hi, hg1, hg2, hg3⟩
    subst hP hw hK
    obtain ⟨its, jts, kts, r1, r2, r3, p1, p2, p3, S, DZ, D3⟩ := zz_draws nd I hc hf hg1 hg2 hg3
    obtain ⟨v, f, hv, q1, q2, q3, q4, q5⟩ := st
    have q4' : ZSt y TI2 TO2 i1 i2 (fun i h => KIt k1 h i1 a i ∧ KIs k1 h a its.toArray) (fun i h => KIt k2 h i2 b i ∧ KIs k2 h b jts.toArray) i s.heap := q4.map (fun x => ⟨x, p1⟩) fun x => ⟨x, p2⟩
    have hT : s.TypeIs (.ref z) "zip" := ⟨_, q1, rfl⟩
    have hll : ∀ e ∈ [z, TI, TO, i3, y, TI2, TO2, i1, i2], e < s.heap.objs.size := fun e he => by
      obtain ⟨v, f, _, w1, w2, ⟨x1, x2, w3⟩, ⟨v2, f2, _, w4, w5, ⟨x3, x4, w6⟩, w7, w8⟩, w9⟩ := (show Zst2 k1 k2 k3 z TI TO y TI2 TO2 i1 i2 i3 a b c i s.heap from ⟨v, f, hv, q1, q2, q3, q4, q5⟩)
      simp only [List.mem_cons, List.not_mem_nil, or_false] at he
      rcases he with rfl | rfl | rfl | rfl | rfl | rfl | rfl | rfl | rfl
      · exact Heap.lt_size w1
      · exact Heap.lt_size w2
      · exact Heap.lt_size w3
      · obtain ⟨o, e, _⟩ := w9.there; exact Heap.lt_size e
      · exact Heap.lt_size w4
      · exact Heap.lt_size w5
      · exact Heap.lt_size w6
      · obtain ⟨o, e, _⟩ := w7.there; exact Heap.lt_size e
      · obtain ⟨o, e, _⟩ := w8.there; exact Heap.lt_size e
    unfold pyNext
    refine wpAny_bind (wpAny_attempt (wpAny_callSpecial?_slot (name := Str.ofString "__next__") hT F.slot_zip_next (wpAny_call_entry F.slot_zip_next hT F.entry_zip_next
      (zip_item S DZ D3 q1 hv q2 q3 q4' ⟨q5, p3⟩ (by omega) (by omega) fun T x1 x2 h' tk v' f' hv' hz' hTI' hTO' s1 s2 t1 t2 hT' pp1 pp2 kb => wpAny_pure ⟨_, rfl, ?_⟩) (F.args_zip_next_1 _))))
    refine go_zip (s := { s with heap := h', toks := tk }) hz' hv' fun h'' v'' hv'' hz'' sb => ?_
    obtain ⟨T1, y1, y2, rfl, u1, u2, u3, u4, u5⟩ := pp1
    have sbk : ∀ (b : Addr) (o : Obj), b ≠ z → h'.get? b = some o → h''.get? b = some o := fun b o hb e => sb.extBut b o hb e
    have Tz : T ≠ z := fun e => absurd (hll z (by simp)) (by rw [← e]; exact Nat.not_lt.mpr t1)
    have T1z : T1 ≠ z := fun e => absurd (hll z (by simp)) (by rw [← e]; exact Nat.not_lt.mpr u1)
    have kall : ∀ (e : Addr) (o : Obj), e ∉ [z, TI, TO, i3, y, TI2, TO2, i1, i2] → s.heap.get? e = some o → h''.get? e = some o := fun e o he x => by
      simp only [List.mem_cons, List.not_mem_nil, or_false, not_or] at he
      refine sbk e o he.1 (kb e o ?_ x)
      simp only [List.mem_cons, List.mem_append, List.not_mem_nil, or_false, not_or]
      exact ⟨he.1, he.2.2.1, ⟨he.2.2.2.2.1, he.2.2.2.2.2.2.1, he.2.2.2.2.2.2.2.1, he.2.2.2.2.2.2.2.2⟩, he.2.2.2.1⟩
    have I1 := tup_new (tk := tk) (T := T1) (vs := [at' xs i, at' ys i]) (its := [y1, y2]) I hf kall u1 (show h''.IsTuple T1 _ from ⟨_, sbk _ _ T1z u3, rfl, _, rfl⟩) (.cons (at_rel r1 u4) (.cons (at_rel r2 u5) .nil)) (by show 2 ≤ sizeLine; decide)
    have nT : (L2.upd H T1 (.tup [at' xs i, at' ys i])) T = none := by
      rw [upd_ne (Nat.ne_of_gt u2)]
      exact I.hok.fresh t1
    have I2 : Inv X pins σ (L2.upd (L2.upd H T1 (.tup [at' xs i, at' ys i])) T (.tup [.ref T1, at' zs i])) { s with heap := h'', toks := tk } := I1.take (h' := h'') (t' := tk) (fun b ob _ e => e) (I.fpOk t1 nT)
      ⟨by show 2 ≤ sizeLine; decide, [.ref T1, x2], .cons rfl (.cons (at_rel r3 pp2) .nil), ⟨_, sbk _ _ Tz hT', rfl, _, rfl⟩⟩
    refine ⟨.ref T, _, I2, rfl, ⟨T1, T, rfl, I.hok.fresh u1, nT, rfl⟩, ?_, fun e he => ?_⟩
    · have lz : ∀ (k : Nat) (x : Addr), [z, TI, TO, i3, y, TI2, TO2, i1, i2][k]? = some x → k ≠ 0 → x ≠ z := fun k x hx hk => nodup9 nd hx (j := 0) rfl hk
      obtain ⟨v2, f2, hv2, w4, w5, ⟨x3, x4, w6⟩, ⟨w7, _⟩, ⟨w8, _⟩⟩ := s1
      obtain ⟨g1, g2, g3⟩ := hTO'
      exact ⟨v'', f', hv'', hz'', sbk _ _ (lz 1 TI rfl (by decide)) hTI', ⟨g1, g2, sbk _ _ (lz 2 TO rfl (by decide)) g3⟩, ⟨v2, f2, hv2, sbk _ _ (lz 4 y rfl (by decide)) w4, sbk _ _ (lz 5 TI2 rfl (by decide)) w5, ⟨x3, x4, sbk _ _ (lz 6 TO2 rfl (by decide)) w6⟩,
        w7.keep (fun o e => sbk _ o (lz 7 i1 rfl (by decide)) e), w8.keep (fun o e => sbk _ o (lz 8 i2 rfl (by decide)) e)⟩, s2.1.keep (fun o e => sbk _ o (lz 3 i3 rfl (by decide)) e)⟩
    · have l := hll e he
      rw [upd_ne (Nat.ne_of_lt (Nat.lt_of_lt_of_le l t1)), upd_ne (Nat.ne_of_lt (Nat.lt_of_lt_of_le l u1))]
      exact (hf e he).1
  done := by
    intro X hP hw hK hc i pins s σ H E I hf st ⟨hi, hg1, hg2, hg3⟩
    subst hP hw hK
    obtain ⟨its, jts, kts, r1, r2, r3, p1, p2, p3, S, DZ, D3⟩ := zz_draws nd I hc hf hg1 hg2 hg3
    obtain ⟨v, f, hv, q1, q2, q3, q4, q5⟩ := st
    have q4' : ZSt y TI2 TO2 i1 i2 (fun i h => KIt k1 h i1 a i ∧ KIs k1 h a its.toArray) (fun i h => KIt k2 h i2 b i ∧ KIs k2 h b jts.toArray) i s.heap := q4.map (fun x => ⟨x, p1⟩) fun x => ⟨x, p2⟩
    have hT : s.TypeIs (.ref z) "zip" := ⟨_, q1, rfl⟩
    unfold pyNext
    refine wpAny_bind (wpAny_attempt (wpAny_callSpecial?_slot (name := Str.ofString "__next__") hT F.slot_zip_next (wpAny_call_entry F.slot_zip_next hT F.entry_zip_next
      (zip_done S DZ D3 q1 hv q2 q3 q4' ⟨q5, p3⟩ (by omega) (by omega) (by omega) fun h' tk e kb he => ?_) (F.args_zip_next_1 _))))
    obtain ⟨o, ho, hcl⟩ := he
    refine wpAny_bind (wpAny_isInstance (T := "StopIteration") (b := true) ⟨o, ho, hcl⟩ isSubtype_stop (wpAny_pure ⟨rfl, ?_⟩))
    refine I.turnedL (t' := tk) (ch := [z, TI, TO, i3, y, TI2, TO2, i1, i2]) (fun e o he x => kb e o ?_ x) hf
    simp only [List.mem_cons, List.mem_append, List.not_mem_nil, or_false, not_or] at he ⊢
    exact ⟨he.1, he.2.2.1, ⟨he.2.2.2.2.1, he.2.2.2.2.2.2.1, he.2.2.2.2.2.2.2.1, he.2.2.2.2.2.2.2.2⟩, he.2.2.2.1⟩
  self := fun A i s Q E st h => by
    obtain ⟨v, f, _, q1, _⟩ := st
    exact iter_zip q1 h
end
theorem zip_beginsY {prog : Program} {w : World} {A : Around} {E : Value → Shared → Prop} {s : Shared} {y TI2 TO2 : Addr} {v2 : Value} {o2 : Obj} {H2 : Heap → Prop} {Q : Value → Shared → Prop} (B2 : Begins v2 o2 H2) (h1 : IsZip s.heap y TI2 TO2 .none) (h2 : H2 s.heap)
    (h : ∀ h', IsZip h' (s.heap.objs.size + 3) (s.heap.objs.size + 1) (s.heap.objs.size + 2) .none → IsTupOf2 h' (s.heap.objs.size + 1) (.ref y) (.ref s.heap.objs.size) → IsTupOf2 h' (s.heap.objs.size + 2) .none .none → h'.get? s.heap.objs.size = some o2 →
      (∀ c o, s.heap.get? c = some o → h'.get? c = some o) → Q (.ref (s.heap.objs.size + 3)) { s with heap := h' }) : wpAny (model prog w) A (call (.type "zip") [.ref y, v2]) Q E s := by
  refine callType_new F.called_zip (by decide) (F.typeCall_zip_2 _ _) (F.newCall_zip_2 _ _) (fun obj => F.args_object_init_3 obj _ _) F.entry_zip_new (meets_zip_newY (y := y) (TI2 := TI2) (TO2 := TO2) B2) ⟨⟨h1, h2⟩, ?_⟩
  have z1 : (s.heap.push o2).objs.size = s.heap.objs.size + 1 := by rw [Heap.size_push]
  generalize hA : s.heap.push o2 = hA' at z1 ⊢
  have gA : hA'.get? s.heap.objs.size = some o2 := by rw [← hA]; exact Heap.get?_push_size _ B2.free
  have kA : ∀ c o, s.heap.get? c = some o → hA'.get? c = some o := fun c o e => by rw [← hA]; exact Heap.get?_push_of_some _ e
  have z2 : (hA'.push { cls := .type "tuple", data := .seq #[.ref y, .ref s.heap.objs.size] }).objs.size = s.heap.objs.size + 2 := by rw [Heap.size_push, z1]
  have gT : (hA'.push { cls := .type "tuple", data := .seq #[.ref y, .ref s.heap.objs.size] }).get? hA'.objs.size = some { cls := .type "tuple", data := .seq #[.ref y, .ref s.heap.objs.size] } := Heap.get?_push_size _ rfl
  generalize hB : hA'.push { cls := .type "tuple", data := .seq #[.ref y, .ref s.heap.objs.size] } = hB' at z2 gT ⊢
  have kB : ∀ c o, hA'.get? c = some o → hB'.get? c = some o := fun c o e => by rw [← hB]; exact Heap.get?_push_of_some _ e
  have z3 : (hB'.push { cls := .type "tuple", data := .seq #[.none, .none] }).objs.size = s.heap.objs.size + 3 := by rw [Heap.size_push, z2]
  have gO : (hB'.push { cls := .type "tuple", data := .seq #[.none, .none] }).get? hB'.objs.size = some { cls := .type "tuple", data := .seq #[.none, .none] } := Heap.get?_push_size _ rfl
  generalize hC : hB'.push { cls := .type "tuple", data := .seq #[.none, .none] } = hC' at z3 gO ⊢
  have kC : ∀ c o, hB'.get? c = some o → hC'.get? c = some o := fun c o e => by rw [← hC]; exact Heap.get?_push_of_some _ e
  have gZ : (hC'.push { cls := .type "zip", data := .fields #[.none, .bool false, .bool false, .ref hA'.objs.size, .ref hB'.objs.size] }).get? hC'.objs.size = some { cls := .type "zip", data := .fields #[.none, .bool false, .bool false, .ref hA'.objs.size, .ref hB'.objs.size] } := Heap.get?_push_size _ rfl
  have kD : ∀ c o, hC'.get? c = some o → (hC'.push { cls := .type "zip", data := .fields #[.none, .bool false, .bool false, .ref hA'.objs.size, .ref hB'.objs.size] }).get? c = some o := fun c o e => Heap.get?_push_of_some _ e
  rw [z1, z2, z3] at gZ
  rw [z1] at gT
  rw [z2] at gO
  rw [z1, z2] at kD ⊢
  rw [z3]
  exact ⟨⟨_, gZ, rfl⟩, h _ gZ (kD _ _ (kC _ _ gT)) (kD _ _ gO) (kD _ _ (kC _ _ (kB _ _ gA))) fun c o e => kD _ _ (kC _ _ (kB _ _ (kA _ _ e)))⟩
def iZipZ (K : PySem.W.Frag) (t1 : TA) (t3 : TE) : TI := fun σ H R => t1 σ H fun vs H1 => ∃ k1 k2 a b xs ys, vs = [.ref a, .ref b] ∧ KSq k1 K H1 a xs ∧ KSq k2 K H1 b ys ∧ t3 σ H1 fun v H2 => ∃ k3 c zs, v = .ref c ∧ KSq k1 K H2 a xs ∧ KSq k2 K H2 b ys ∧ KSq k3 K H2 c zs ∧
  (xs.length ≤ sizeLine → R (Jn (min (min xs.length ys.length) zs.length) (fun i => [at' xs i, at' ys i]) (fun i => at' zs i) fun H => KSq k1 K H a xs ∧ KSq k2 K H b ys ∧ KSq k3 K H c zs) H2)
theorem pi_zipZ {X : Cx} {e1 e2 e3 : Expr} {t1 : TA} {t3 : TE} {p pos p2 pos2 tpos : Pos} {elts : List Expr} {kk : Nat} (hg : Gl X "zip") (hm : X.mg "zip" = none) (ha : PA X [e1, e2] t1) (h3 : PE X e3 t3)
    (hs : starEach [.Call (.Name "zip" p2) [e1, e2] [] pos2, e3] X.env = (false, eval (.Call (.Name "zip" p2) [e1, e2] [] pos2) X.env) :: starEach [e3] X.env) (hpl : (backTo pos (starEach [e3] X.env)).any (·.1) = false) (hs3 : starEach [e3] X.env = (false, eval e3 X.env) :: starEach [] X.env)
    (hs2 : starEach [e1, e2] X.env = (false, eval e1 X.env) :: starEach [e2] X.env) (hpl2 : (backTo pos2 (starEach [e2] X.env)).any (·.1) = false) :
    PI X (.Tuple elts kk tpos) (.Call (.Name "zip" p) [.Call (.Name "zip" p2) [e1, e2] [] pos2, e3] [] pos) (iZipZ X.K t1 t3) := by
  refine ⟨fun pins s σ H R I h => ?_⟩
  refine Call_ (ld_blt I hg hm boot_zip (callWith_type1 ?_ hs hpl))
  rw [hs]
  show wpAny _ _ (spliced ((false, eval (.Call (.Name "zip" p2) [e1, e2] [] pos2) X.env) :: backTo pos (starEach [e3] X.env))) _ _ s
  refine Calls.spliced_cons (Call_ (ld_blt I hg hm boot_zip (callWith_type1 (thn (ha.run pos2 pins s σ H _ I h) fun us s1 ⟨vs, H1, I1, r1, q1⟩ => ?_) hs2 hpl2)))
  obtain ⟨k1, k2, a, b, xs, ys, rfl, g1, g2, q1⟩ := q1
  obtain ⟨u1, u2, rfl, ra, rb⟩ := r1.two
  cases ra
  cases rb
  obtain ⟨its, w1, p1, z1⟩ := kd_of I1 g1
  obtain ⟨jts, w2, pp2, _⟩ := kd_of I1 g2
  refine zip_begins2 (kd_begins k1 a its.toArray) (kd_begins k2 b jts.toArray) p1 pp2 fun h' b1 b2 b3 b4 b5 b6 hk => ?_
  have I2 : Inv X pins σ H1 { s1 with heap := h' } := I1.kept (t' := s1.toks) hk
  generalize hN : s1.heap.objs.size = N at b1 b2 b3 b4 b5 b6
  have hle : ∀ c ∈ [N + 4, N + 2, N + 3, N, N + 1], s1.heap.objs.size ≤ c := fun c hc' => by
    simp only [List.mem_cons, List.not_mem_nil, or_false] at hc'
    rw [hN]
    rcases hc' with rfl | rfl | rfl | rfl | rfl
    · exact Nat.le_add_right _ _
    · exact Nat.le_add_right _ _
    · exact Nat.le_add_right _ _
    · exact Nat.le_refl _
    · exact Nat.le_add_right _ _
  have hf : ∀ c ∈ [N + 4, N + 2, N + 3, N, N + 1], FpOk X pins H1 c := fun c hc' => I1.fpOk (hle c hc') (I1.hok.fresh (hle c hc'))
  have ho : ∀ c ∈ [N + 4, N + 2, N + 3, N, N + 1], ∃ o, h'.get? c = some o ∧ ∀ v, o.data ≠ .cell v := fun c hc' => by
    simp only [List.mem_cons, List.not_mem_nil, or_false] at hc'
    rcases hc' with rfl | rfl | rfl | rfl | rfl
    · exact ⟨_, b1, fun _ e => nomatch e⟩
    · exact ⟨_, b2, fun _ e => nomatch e⟩
    · exact ⟨_, b3, fun _ e => nomatch e⟩
    · exact (KIt.zero b4).there
    · exact (KIt.zero b5).there
  have I3 := I2.pinned hf ho
  rw [hs3]
  show wpAny _ _ (spliced ((false, eval e3 X.env) :: backTo pos (starEach [] X.env))) _ _ _
  refine Calls.spliced_cons (thn (h3.run _ _ σ H1 _ I3 q1) fun u s2 ⟨x, H2, I4, r2, q2⟩ => Calls.spliced_nil ?_)
  obtain ⟨k3, c, zs, rfl, y1, y2, y3, q2⟩ := q2
  cases r2
  have pin : ∀ e ∈ [N + 4, N + 2, N + 3, N, N + 1], ∀ o, h'.get? e = some o → s2.heap.get? e = some o ∧ H2 e = none := fun e he o x => by
    have z := I4.pin (e, o) (List.mem_append_right _ (List.mem_append_right _ (mem_pinsAt he x)))
    exact ⟨z.1, z.2.1⟩
  have I5 := I4.unpinned
  obtain ⟨kts, w3, p3, _⟩ := kd_of I5 y3
  have c1 := (pin (N + 4) (by simp) _ b1).1
  have c2 := (pin (N + 2) (by simp) _ b2).1
  have c3 := (pin (N + 3) (by simp) _ b3).1
  have c4 := (pin N (by simp) _ b4).1
  have c5 := (pin (N + 1) (by simp) _ b5).1
  refine zip_beginsY (kd_begins k3 c kts.toArray) c1 p3 fun h2 d1 d2 d3 d4 hk2 => wpAny_pyIter_zip d1 ?_
  have I6 : Inv X pins σ H2 { s2 with heap := h2 } := I5.kept (t' := s2.toks) hk2
  have hMN : (N + 4 : Nat) < s2.heap.objs.size := Heap.lt_size c1
  generalize hM : s2.heap.objs.size = M at d1 d2 d3 d4 hMN
  have hle2 : ∀ c ∈ [M + 3, M + 1, M + 2, M], s2.heap.objs.size ≤ c := fun c hc' => by
    simp only [List.mem_cons, List.not_mem_nil, or_false] at hc'
    rw [hM]
    rcases hc' with rfl | rfl | rfl | rfl
    · exact Nat.le_add_right _ _
    · exact Nat.le_add_right _ _
    · exact Nat.le_add_right _ _
    · exact Nat.le_refl _
  have nd : ([M + 3, M + 1, M + 2, M, N + 4, N + 2, N + 3, N, N + 1] : List Addr).Nodup := by
    show List.Nodup (α := Nat) [M + 3, M + 1, M + 2, M, N + 4, N + 2, N + 3, N, N + 1]
    have hMN' : @LT.lt Nat _ (N + 4) M := hMN
    simp only [List.nodup_cons, List.mem_cons, List.not_mem_nil, or_false, not_or, not_false_eq_true, and_true, List.nodup_nil]
    refine ⟨⟨?_, ?_, ?_, ?_, ?_, ?_, ?_, ?_⟩, ⟨?_, ?_, ?_, ?_, ?_, ?_, ?_⟩, ⟨?_, ?_, ?_, ?_, ?_, ?_⟩, ⟨?_, ?_, ?_, ?_, ?_⟩, ⟨?_, ?_, ?_, ?_⟩, ⟨?_, ?_, ?_⟩, ⟨?_, ?_⟩, ?_⟩ <;> omega
  refine ⟨_, [M + 3, M + 1, M + 2, M, N + 4, N + 2, N + 3, N, N + 1], _, _, H2, rfl, I6, turn_zz (k1 := k1) (k2 := k2) (k3 := k3) (a := a) (b := b) (c := c) nd, ⟨.none, false, .inl rfl, d1, d2, ⟨_, _, d3⟩, ⟨.none, false, .inl rfl, hk2 _ _ c1, hk2 _ _ c2, ⟨_, _, hk2 _ _ c3⟩, .zero (hk2 _ _ c4), .zero (hk2 _ _ c5)⟩, .zero d4⟩, fun e he => ?_, q2 z1⟩
  have he' : e ∈ [M + 3, M + 1, M + 2, M] ∨ e ∈ [N + 4, N + 2, N + 3, N, N + 1] := by
    simp only [List.mem_cons, List.not_mem_nil, or_false] at he ⊢
    rcases he with h | h | h | h | h
    · exact .inl (.inl h)
    · exact .inl (.inr (.inl h))
    · exact .inl (.inr (.inr (.inl h)))
    · exact .inl (.inr (.inr (.inr h)))
    · exact .inr h
  rcases he' with he | he
  · exact I5.fpOk (hle2 e he) (I5.hok.fresh (hle2 e he))
  · obtain ⟨o, ho', _⟩ := ho e he
    exact ⟨(pin e he o ho').2, (hf e he).2⟩
theorem wk_rows2 {T : PySem.W.Frag} {q : QA} {B1 : Hp} {items : List D} {n : Nat} {row : Nat → List V} {last : Nat → V} {rd : Nat → List D} {ld : Nat → D} {G : Hp → Prop} (hG : ∀ H, Same B1 H → G H) (hn : items.length = n) (hz : n ≤ sizeLine)
    (hr : ∀ i, i < n → items[i]? = some (.tup [.tup (rd i), ld i]) ∧ RepL T q B1 (rd i) (row i) ∧ Rep T q B1 (ld i) (last i)) : Wk T q (Jn n row last G) B1 items := by
  subst hn
  refine ⟨⟨fun i H hi s => ⟨hi, hG H s⟩, fun H s => ⟨rfl, hG H s⟩, fun i H x H' hi s ⟨t1, t, e1, n1, n2, e3⟩ B s1 s2 => ?_⟩, hz⟩
  obtain ⟨h1, h2, h3⟩ := hr i hi
  rw [e1, e3]
  have x1 := Ext0.new s2 (o := .tup (row i)) n1
  have x2 := Ext0.new x1.s (o := .tup [.ref t1, last i]) n2
  have r1 : Rep T q (L2.upd B t1 (.tup (row i))) (.tup (rd i)) (.ref t1) := .tup (.inl upd_same) ((h2.mono s1).mono x1.b)
  exact ⟨_, _, h1, x1.trans x2, .tup (.inl upd_same) (.cons (r1.mono x2.b) (.cons (((h3.mono s1).mono x1.b).mono x2.b) .nil))⟩
def zipZI (f g h : ESem) : ISem := fun env => M.bd (f env) fun d => M.bd (g env) fun e => M.bd (h env) fun k => M.lf ((asSeq d).bind fun xs => (asSeq e).bind fun ys => (asSeq k).map fun zs => zip2L (zip2L xs ys) zs)
theorem si_zipZ {C : SC} {sc : Scope} {x x' : Str} {a b c : Expr} {f g' h' : ESem} {elts : List Expr} {kk : Nat} {tpos p pos p2 pos2 : Pos} (hx : x = "zip") (hx' : x' = "zip") (hg : sc.names.lookup x = some .globalImplicit) (hm : C.mg x = none) (h1 : SE C sc a f) (h2 : SE C sc b g') (h3 : SE C sc c h')
    (hs : ∀ env, starEach [.Call (.Name x' p2) [a, b] [] pos2, c] env = (false, eval (.Call (.Name x' p2) [a, b] [] pos2) env) :: starEach [c] env := by intro _; rfl) (hpl : ∀ env, (backTo pos (starEach [c] env)).any (·.1) = false := by intro _; rfl) (hs3 : ∀ env, starEach [c] env = (false, eval c env) :: starEach [] env := by intro _; rfl)
    (hs2 : ∀ env, starEach [a, b] env = (false, eval a env) :: starEach [b] env := by intro _; rfl) (hs2' : ∀ env, starEach [b] env = (false, eval b env) :: starEach [] env := by intro _; rfl) (hpl2 : ∀ env, (backTo pos2 (starEach [b] env)).any (·.1) = false := by intro _; rfl)
    (hf' : ∀ env y, foldedSetIterable (.Call (.Name x p) [.Call (.Name x' p2) [a, b] [] pos2, c] [] pos) env y = pure y := by intro _ _; rfl) : SI C sc (.Tuple elts kk tpos) (.Call (.Name x p) [.Call (.Name x' p2) [a, b] [] pos2, c] [] pos) (zipZI f g' h') := by
  subst hx hx'
  refine ⟨iZipZ C.K (tCons (te C sc a) (tCons (te C sc b) tNil)) (te C sc c), fun X hX => ?_, hf', fun q B0 H0 B H σ env st items st' R g hf k => ?_⟩
  · have z : PI X (.Tuple elts kk tpos) (.Call (.Name "zip" p) [.Call (.Name "zip" p2) [a, b] [] pos2, c] [] pos) (iZipZ X.K (tCons (te C sc a) (tCons (te C sc b) tNil)) (te C sc c)) :=
      pi_zipZ (hX.gl hg) (by rw [hX.mg]; exact hm) (pa_cons (pe_te hX) (pa_cons (pe_te hX) pa_nil (hs2' _)) (hs2 _)) (pe_te hX) (hs _) (hpl _) (hs3 _) (hs2 _) (hpl2 _)
    rw [hX.K] at z
    exact z
  · obtain ⟨d, s1, w1, w2⟩ := M.bd_some hf
    obtain ⟨d', s2, w3, w4⟩ := M.bd_some w2
    obtain ⟨d'', s3, w5, w6⟩ := M.bd_some w4
    obtain ⟨w7, rfl⟩ := M.lf_some w6
    obtain ⟨xs, e1, w8⟩ := Option.bind_eq_some_iff.mp w7
    obtain ⟨ys, e2, w9⟩ := Option.bind_eq_some_iff.mp w8
    obtain ⟨zs, e3, rfl⟩ := Option.map_eq_some_iff.mp w9
    refine h1 q B0 H0 B H σ env st _ _ _ g w1 fun v B1 H1 x1 d1 r1 => ?_
    have g1 := g.step x1 d1
    refine h2 q B0 H0 B1 H1 σ env _ _ _ _ g1 w3 fun v' B2 H2 x2 d2 r2 => ?_
    have g2 := g1.step x2 d2
    obtain ⟨ka, a1, vs, rfl, u1, u2, u3⟩ := wk_seq C.TK x2.s (r1.mono x2.b) e1
    obtain ⟨kb, b1, us, rfl, y1, y2, y3⟩ := wk_seq C.TK x2.s r2 e2
    refine ⟨ka, kb, a1, b1, vs, us, rfl, u1, y1, ?_⟩
    refine h3 q B0 H0 B2 H2 σ env _ _ _ _ g2 w5 fun v'' B3 H3 x3 d3 r3 => ?_
    obtain ⟨kc, c1, ws, rfl, z1, z2, z3⟩ := wk_seq C.TK x3.s r3 e3
    have s23 : ∀ H', Same B3 H' → Same B2 H' := fun H' s => x3.b.trans s
    refine ⟨kc, c1, ws, rfl, u3 _ (s23 _ x3.s), y3 _ (s23 _ x3.s), z1, fun hz => ?_⟩
    refine k _ B3 H3 ((x1.trans g.dr x2 ⟨_, d1⟩).trans g.dr x3 ⟨_, d2⟩) d3 (wk_rows2 (rd := fun i => [(xs[i]?).getD .non, (ys[i]?).getD .non]) (ld := fun i => (zs[i]?).getD .non) (fun H' s' => ⟨u3 H' (s23 _ s'), y3 H' (s23 _ s'), z3 H' s'⟩)
      (by rw [zip2L_length, zip2L_length, u2.length, y2.length, z2.length]) (Nat.le_trans (Nat.min_le_left _ _) (Nat.le_trans (Nat.min_le_left _ _) hz)) fun i hi => ?_)
    have l1 : i < xs.length := by rw [u2.length]; omega
    have l2 : i < ys.length := by rw [y2.length]; omega
    have l3 : i < zs.length := by rw [z2.length]; omega
    have f1 := List.getElem?_eq_getElem l1
    have f2 := List.getElem?_eq_getElem l2
    have f3 := List.getElem?_eq_getElem l3
    rw [f1, f2, f3]
    exact ⟨zip2L_get _ _ i _ _ (zip2L_get xs ys i _ _ f1 f2) f3, .cons ((rep_at u2 f1).mono x3.b) (.cons ((rep_at y2 f2).mono x3.b) .nil), rep_at z2 f3⟩
end Y
end

section
set_option Elab.async false
set_option linter.all false
set_option maxRecDepth 100000
set_option autoImplicit false
namespace Y
open PySem PySem.Spec L2 PySem.W
open PyProof.Rows hiding St
/-! ### two dicts with tuples for keys, alike -/
section
variable {prog : Program} {w : World} {K : Type} [DecidableEq K] {knd : HeapKind prog w K} {A : Around} {E : Value → Shared → Prop} {s : Shared}
theorem samePairsT {nm : String} {a b : Addr} {xa xb : List (K × Addr × Value)} {Q : Bool → Shared → Prop} (hu : knd.room A) (ha : (a == sysModules) = false) (hb : (b == sysModules) = false) (da : s.heap.DictOfH knd a xa) (db : s.heap.DictOfH knd b xb) (hl : xa.length = xb.length)
    (hits : ∀ x ∈ xa, ∃ (j : Nat) (p : Addr × Value), xb[j]? = some (x.1, p) ∧ SeqAt.EqAt A s x.2.2 p.2 true) (h : Q true s) : wpAny (model prog w) A (Builtin.Dict.samePairs nm a b) Q E s := by
  obtain ⟨oa, es, ep, hoa, _, hda, hea, hia, hna⟩ := da
  obtain ⟨ob, es', ep', hob, _, hdb, heb, hib, hnb⟩ := db
  have la : es.size = xa.length := size_of_entries hea
  have lb : es'.size = xb.length := size_of_entries heb
  have hsz : es.size = es'.size := by omega
  unfold Builtin.Dict.samePairs Builtin.Dict.showsAll
  rw [if_neg (by rw [ha]; decide), if_neg (by rw [hb]; decide)]
  refine wpAny_bind (wpAny_pure (wpAny_bind (wpAny_pure (wpAny_bind (wpAny_dictEntries hoa hda ?_)))))
  dsimp only
  refine wpAny_bind (wpAny_dictEntries hob hdb ?_)
  rw [if_neg (by rw [hsz]; simp)]
  refine wpAny_bind (wpAny_dictEpoch hoa hda (wpAny_bind ?_))
  rw [Std.Legacy.Range.forIn_eq_forIn_range']
  simp only [Std.Legacy.Range.size, Nat.sub_zero, Nat.add_sub_cancel, Nat.div_one]
  refine wpAny_forIn_list _ (fun rest q s' => s' = s ∧ q = (none, ()) ∧ ∃ i, rest = List.range' i (es.size - i) ∧ i ≤ es.size) _ ?_ ?_ _ _ ⟨rfl, rfl, 0, by simp, Nat.zero_le _⟩
  · rintro x rest q s' ⟨rfl, rfl, i, hr, hi⟩
    have hlt : i < es.size := by
      rcases Nat.lt_or_ge i es.size with h | h
      · exact h
      · rw [Nat.sub_eq_zero_of_le h] at hr; simp at hr
    obtain ⟨rfl, hrest⟩ : x = i ∧ rest = List.range' (i + 1) (es.size - (i + 1)) := by
      rw [show es.size - i = (es.size - (i + 1)) + 1 by omega, List.range'_succ] at hr
      injection hr with h1 h2
      exact ⟨h1, h2⟩
    refine wpAny_bind (wpAny_dictEntries hoa hda ?_)
    have hxl : x < xa.length := by omega
    have hxa : xa[x]? = some xa[x] := List.getElem?_eq_getElem hxl
    have e1 := entry_at hea x
    rw [hxa] at e1
    rw [e1]
    obtain ⟨j0, p0, hj0, heq⟩ := hits xa[x] (List.getElem_mem hxl)
    generalize xa[x] = kx at hxa heq hj0 e1
    have hk : knd.is s'.heap kx.1 kx.2.1 := hia kx (List.mem_of_getElem? hxa)
    show wpAny _ _ (holding [Value.ref kx.2.1, kx.2.2] _ >>= _) _ _ _
    refine wpAny_bind (wpAny_holding (wpAny_bind (wpAny_dictFind_heap hu hk hob hdb heb hib hnb (fun hn => absurd hj0 (hn j0 p0)) fun j p hj => ?_)))
    have ej : j = j0 := by
      have pw := List.pairwise_iff_getElem.mp hnb
      obtain ⟨g1, g2⟩ := List.getElem?_eq_some_iff.mp hj
      obtain ⟨g3, g4⟩ := List.getElem?_eq_some_iff.mp hj0
      have k1 : (xb.map (·.1))[j]'(by rw [List.length_map]; exact g1) = kx.1 := by rw [List.getElem_map, g2]
      have k2 : (xb.map (·.1))[j0]'(by rw [List.length_map]; exact g3) = kx.1 := by rw [List.getElem_map, g4]
      rcases Nat.lt_trichotomy j j0 with l | l | l
      · exact absurd (k1.trans k2.symm) (pw j j0 _ _ l)
      · exact l
      · exact absurd (k2.trans k1.symm) (pw j0 j _ _ l)
    subst ej
    rw [hj0] at hj
    cases hj
    refine wpAny_bind (wpAny_dictEntries hob hdb ?_)
    have e2 := entry_at heb j
    rw [hj0] at e2
    rw [e2]
    refine wpAny_holding (heq _ _ _ _ ?_)
    show wpAny _ _ (if (!true) = true then _ else _) _ _ _
    rw [if_neg (by decide)]
    refine wpAny_bind (wpAny_dictEpoch hoa hda ?_)
    rw [if_neg (by simp)]
    exact wpAny_pure ⟨rfl, rfl, x + 1, hrest, hlt⟩
  · rintro q s' ⟨rfl, rfl, i, hr, hi⟩
    exact wpAny_pure h
theorem neDicts {a b : Addr} {xa xb : List (K × Addr × Value)} {Q : Value → Shared → Prop} (hr : knd.room A.in1) (hu : A.units < cLine) (ha : (a == sysModules) = false) (hb : (b == sysModules) = false) (ta : s.TypeIs (.ref a) "dict") (tb : s.TypeIs (.ref b) "dict") (da : s.heap.DictOfH knd a xa) (db : s.heap.DictOfH knd b xb) (hl : xa.length = xb.length)
    (hits : ∀ x ∈ xa, ∃ (j : Nat) (p : Addr × Value), xb[j]? = some (x.1, p) ∧ SeqAt.EqAt A.in1 s x.2.2 p.2 true) (h : Q (.bool false) s) : wpAny (model prog w) A (compareOp .NotEq (.ref a) (.ref b)) Q E s := by
  refine wpAny_richCompare_same_room (op := .NotEq) ta tb PySem.F.slot_dict_ne (wpAny_call_entry PySem.F.slot_dict_ne ta PySem.F.entry_dict_ne ?_ (PySem.F.args_dict_ne_2 _ _)) hu
  show wpAny _ _ (Builtin.Dict.dictSlotArgs "__ne__" ⟨[.ref a, .ref b], []⟩ >>= _) _ _ s
  refine wpAny_bind ?_
  unfold Builtin.Dict.dictSlotArgs
  refine wpAny_bind (wpAny_notOrdered_dict ta ?_)
  show wpAny _ _ (pure (Value.ref a, Value.ref b)) _ _ s
  refine wpAny_pure (wpAny_bind (wpAny_isInstance (T := "dict") tb PySem.F.sub_dict_dict ?_))
  simp only [Bool.not_true, Bool.false_eq_true, if_false]
  refine wpAny_bind (wpAny_pure (wpAny_bind (wpAny_pure (wpAny_bind (samePairsT hr ha hb da db hl hits ?_)))))
  exact wpAny_pure ⟨_, rfl, (fun x => nomatch x), h⟩
end
def rNeDT (K : PySem.W.Frag) : R2 := fun x y H Q => ∃ a b ks ls, x = .ref a ∧ y = .ref b ∧ Rd H a (.dT ks) ∧ Rd H b (.dT ls) ∧ ks.length = ls.length ∧
  (∀ p ∈ ks, ∃ v d e, valV ls p.1 = some v ∧ Dp K H p.2 d ∧ Dp K H v e ∧ SeqAt.shaped d = true ∧ SeqAt.shaped e = true ∧ PyData.eqv d e = true) ∧ Q (.bl false) H
theorem kt_get {H : Hp} {j : Nat} {x : List Key × Addr × Value} : ∀ {kvs : List (List Key × V)} {xs : List (List Key × Addr × Value)} {j : Nat}, KT H kvs xs → xs[j]? = some x → ∃ p, kvs[j]? = some p ∧ p.1 = x.1 ∧ RelV p.2 x.2.2 := by
  intro kvs xs j r
  induction r generalizing j with
  | nil => intro h; simp at h
  | @cons p q ps qs h t ih =>
    intro e
    cases j with
    | zero => simp at e; subst e; exact ⟨p, rfl, h.1, h.2.2⟩
    | succ j => obtain ⟨p', e1, e2⟩ := ih (j := j) (by simpa using e); exact ⟨p', by simpa using e1, e2⟩
theorem kt_get' {H : Hp} : ∀ {kvs : List (List Key × V)} {xs : List (List Key × Addr × Value)} {j : Nat} {p : List Key × V}, KT H kvs xs → kvs[j]? = some p → ∃ x, xs[j]? = some x ∧ p.1 = x.1 ∧ RelV p.2 x.2.2 := by
  intro kvs xs j p0 r
  induction r generalizing j with
  | nil => intro h; simp at h
  | @cons p q ps qs h t ih =>
    intro e
    cases j with
    | zero => simp at e; subst e; exact ⟨q, rfl, h.1, h.2.2⟩
    | succ j => obtain ⟨p', e1, e2⟩ := ih (j := j) (by simpa using e); exact ⟨p', by simpa using e1, e2⟩
theorem valV_at {kvs : List (List Key × V)} {k : List Key} {v : V} (h : valV kvs k = some v) : ∃ j : Nat, kvs[j]? = some (k, v) := by
  unfold valV at h
  obtain ⟨p, h1, h2⟩ := Option.map_eq_some_iff.mp h
  have hk := List.find?_some h1
  have hm := List.mem_of_find?_eq_some h1
  obtain ⟨j, hj⟩ := List.mem_iff_getElem?.mp hm
  refine ⟨j, ?_⟩
  rw [hj]
  obtain ⟨p1, p2⟩ := p
  have : p1 = k := by simpa using hk
  subst this
  cases h2
  rfl
theorem op_neDT {X : Cx} (hu : X.A.units + 66 < cLine) : OpR X (compareOp .NotEq) (rNeDT X.K) := by
  intro pins s σ H x y v u Q I rx ry h
  obtain ⟨a, b, ks, ls, rfl, rfl, ha, hb, hl, hits, q⟩ := h
  cases rx
  cases ry
  obtain ⟨_, sa, xa, ra, da⟩ := dt_rd I.hok ha
  obtain ⟨_, sb, xb, rb, db⟩ := dt_rd I.hok hb
  have ta : s.TypeIs (.ref a) "dict" := da.typeIs
  have tb : s.TypeIs (.ref b) "dict" := db.typeIs
  have e1 : (X.A.in1).units ≤ X.A.units + 1 := Nat.le_refl _
  refine neDicts (knd := tupleKind (mixKind X.prog X.w)) (show X.A.in1.units < cLine by show X.A.units + 1 < cLine; omega) (by omega) sa sb ta tb da db (by rw [← Paired.length ra, ← Paired.length rb]; exact hl) (fun z hz => ?_) ⟨.bl false, H, I, rfl, q⟩
  obtain ⟨j, hj⟩ := List.mem_iff_getElem?.mp hz
  obtain ⟨p, hp, ek, er⟩ := kt_get (j := j) ra hj
  obtain ⟨v, d, e, hv, dd, de, sd, se, eqv⟩ := hits p (List.mem_of_getElem? hp)
  obtain ⟨j', hj'⟩ := valV_at hv
  obtain ⟨x', hx', ek', er'⟩ := kt_get' rb hj'
  obtain ⟨as, r1⟩ := Dp.reads I d _ _ dd er
  obtain ⟨bs, r2⟩ := Dp.reads I e _ _ de er'
  refine ⟨j', x'.2, ?_, ?_⟩
  · rw [hx']
    have : x'.1 = z.1 := by rw [← ek', ← ek]
    rw [← this]
  · have z := keq_at (A := X.A) r1 r2 sd se (show X.A.units + 1 + 64 < cLine by omega)
    rw [eqv] at z
    exact z
/-- != of two dicts with tuples for keys: alike, or nothing is said -/
def neDT (x y : D) : Option D := match x, y with
  | .dic true ks, .dic true ls => if ks.length = ls.length ∧ (ks.all fun p => match dget true ls p.1 with
      | some (some v) => p.2.flat 60 && v.flat 60 && PyData.eqv p.2.py v.py
      | _ => false) = true then some (.bl false) else none
  | _, _ => none
section
variable {T K : PySem.W.Frag} {q : QA} {B H : Hp}
theorem repT_mem : ∀ {ks : List (D × D)} {vs : List (List Key × V)}, RepT T q B ks vs → ∀ p ∈ vs, ∃ d, (D.tup (p.1.map keyD), d) ∈ ks ∧ Rep T q B d p.2
  | _, _, .nil, p, h => by cases h
  | _, _, .cons h r, p, hp => by
    rcases List.mem_cons.mp hp with rfl | hp
    · exact ⟨_, List.mem_cons_self, h⟩
    · obtain ⟨d, h1, h2⟩ := repT_mem r p hp
      exact ⟨d, List.mem_cons_of_mem _ h1, h2⟩
theorem od_neDT (t : Sub T K) : OpD T (rNeDT K) neDT := by
  intro q B H a b x y d s ha hb hg Q k
  unfold neDT at hg
  split at hg
  · rename_i ks ls
    split at hg
    · rename_i hc
      cases hg
      obtain ⟨a1, vs, rfl, h1, r1⟩ := ha.dicT s
      obtain ⟨b1, us, rfl, h2, r2⟩ := hb.dicT s
      refine ⟨a1, b1, vs, us, rfl, rfl, h1, h2, by rw [← r1.length, ← r2.length]; exact hc.1, fun p hp => ?_, k _ B H (Ext0.refl s) (.bl _)⟩
      obtain ⟨dv, m, rv⟩ := repT_mem r1 p hp
      have z := List.all_eq_true.mp hc.2 _ m
      dsimp only at z
      split at z
      · rename_i v hv
        simp only [Bool.and_eq_true] at z
        have hk := keyOf_map p.1
        have w := r2.val p.1
        have hv' : (ls.find? fun p_1 => decide (keyOf true p_1.1 = some (.t p.1))).map (·.2) = some v := by
          unfold dget at hv
          rw [hk] at hv
          exact Option.some.inj hv
        rw [hv'] at w
        obtain ⟨u, e1, e2⟩ := w
        exact ⟨u, dv.py, v.py, e1, rv.dp t s _ z.1.1, e2.dp t s _ z.1.2, flat_shaped z.1.1, flat_shaped z.1.2, z.2⟩
      · cases z
    · cases hg
  · cases hg
end
theorem c_neDT {C : SC} {sc : Scope} : Cmp C sc .NotEq neDT := ⟨rNeDT C.K, fun X hX => hX.K ▸ op_neDT (by have := hX.room.un; omega), od_neDT C.TK⟩
end Y
end

section
set_option Elab.async false
set_option linter.all false
set_option autoImplicit false
namespace Y
open PySem PySem.Spec L2
open PyProof.Rows hiding St
/-! ### what leaves the draws alone -/
def KpE (f : ESem) : Prop := ∀ env st d st', f env st = some (d, st') → st' = st
def KpA (f : ASem) : Prop := ∀ env st d st', f env st = some (d, st') → st' = st
def KpS (F : SSem) : Prop := ∀ env st r st', F env st = some (r, st') → st' = st
theorem kp_cells {F : SSem} (h : KpS F) : ∀ env st r st', F env st = some (r, st') → st'.cells = st.cells := fun env st r st' hf => by rw [h env st r st' hf]
theorem kp_peek {i : Nat} : KpE (peekE i) := fun env st d st' h => by
  unfold peekE at h
  split at h
  · cases h; rfl
  · cases h; rfl
  · cases h
theorem kp_var {i : Nat} : KpE (varE i) := fun env st d st' h => by
  unfold varE at h
  split at h
  · cases h; rfl
  · cases h
theorem kp_c {d : D} : KpE (cE d) := fun env st d' st' h => (M.ret_some h).2
theorem kp_bin {g : D → D → Option D} {f f' : ESem} (h : KpE f) (h' : KpE f') : KpE (bin g f f') := fun env st d st' hf => by
  obtain ⟨x, s1, h1, h2⟩ := M.bd_some hf
  obtain ⟨y, s2, h3, h4⟩ := M.bd_some h2
  obtain ⟨_, rfl⟩ := M.lf_some h4
  rw [h' _ _ _ _ h3, h _ _ _ _ h1]
theorem kp_nil : KpA nilA := fun env st d st' h => (M.ret_some h).2
theorem kp_cons {f : ESem} {r : ASem} (h : KpE f) (h' : KpA r) : KpA (consA f r) := fun env st d st' hf => by
  obtain ⟨x, s1, h1, h2⟩ := M.bd_some hf
  obtain ⟨y, s2, h3, h4⟩ := M.bd_some h2
  obtain ⟨_, rfl⟩ := M.ret_some h4
  rw [h' _ _ _ _ h3, h _ _ _ _ h1]
theorem kp_call {g : List D → Option D} {r : ASem} (h : KpA r) : KpE (callE g r) := fun env st d st' hf => by
  obtain ⟨x, s1, h1, h2⟩ := M.bd_some hf
  obtain ⟨_, rfl⟩ := M.lf_some h2
  exact h _ _ _ _ h1
theorem kp_setS {i : Nat} {f : ESem} (h : KpE f) : KpS (setS i f) := fun env st r st' hf => by
  obtain ⟨x, s1, h1, h2⟩ := M.bd_some hf
  obtain ⟨_, rfl⟩ := M.ret_some h2
  exact h _ _ _ _ h1
theorem kp_seq {F G : SSem} (h : KpS F) (h' : KpS G) : KpS (seqS F G) := fun env st r st' hf => by
  obtain ⟨⟨fl, e1⟩, s1, h1, h2⟩ := M.bd_some hf
  cases fl with
  | nx => rw [h' _ _ _ _ h2, h _ _ _ _ h1]
  | _ => obtain ⟨_, rfl⟩ := M.ret_some h2; exact h _ _ _ _ h1
end Y
end

section
set_option Elab.async false
set_option linter.all false
set_option maxRecDepth 100000
set_option autoImplicit false
namespace Y
open PySem PySem.Spec L2
open PyProof.Rows hiding St
/-! ### the draws begin -/
def absI (n : Int) : Int := if n < 0 then -n else n
def greatL (ns : List Int) : List Int := (ns.filter fun n => decide ((10 : Int) ^ (18 : Int).toNat ≤ absI n)).map fun n => absI n - (10 : Int) ^ (18 : Int).toNat
def beginSt (ns : List Int) : DS := ⟨greatL ns, ns.map absI, 0, 0⟩
def spBegun (K : PySem.W.Frag) : Sp := fun vs H Q _ => ∃ a ns, vs = [.ref a] ∧ SqL K H a (ns.map V.int) ∧ ns.length ≤ 63 ∧ ∀ q H', Same H H' → DrAt q H' (beginSt ns) → (∀ b, q.has b → H b = none) → Q (.ref q.d) H'
def tAbs (i : Nat) : TE := tCB (fun xs H Q => ∃ i, xs = [.int i] ∧ Q (.int (if i < 0 then -i else i)) H) (tCons (tVar i) tNil)
def tBig : TE := tOp (rI CPow fun i j => .int (i ^ j.toNat)) (tC (.int 10)) (tC (.int 18))
theorem tAbs_run {i : Nat} {n : Int} {σ : St} {H : Hp} {Q : VK} (h : σ[i]? = some (some (.int n))) (k : Q (.int (absI n)) H) : tAbs i σ H Q := ⟨_, h, n, rfl, k⟩
theorem tBig_run {σ : St} {H : Hp} {Q : VK} (k : Q (.int ((10 : Int) ^ (18 : Int).toNat)) H) : tBig σ H Q := ⟨10, 18, rfl, rfl, ⟨by omega, by omega, by decide⟩, k⟩
def tGreatTest : TT := tTest (tOp (rI0 fun i j => .bl (decide (j ≤ i))) (tAbs 2) tBig)
def tGreatElt : TE := tOp (rI0 fun i j => .int (i - j)) (tAbs 2) tBig
theorem tGreatTest_run {n : Int} {σ : St} {H : Hp} {Q : Bool → Hp → Prop} (h : σ[2]? = some (some (.int n))) (k : Q (decide ((10 : Int) ^ (18 : Int).toNat ≤ absI n)) H) : tGreatTest σ H Q := by
  show tAbs 2 σ H (fun x H1 => tBig σ H1 fun y H2 => (rI0 fun i j => V.bl (decide (j ≤ i))) x y H2 (fun x H' => ∃ k, x = .bl k ∧ Q k H'))
  exact tAbs_run h (tBig_run ⟨_, _, rfl, rfl, _, rfl, k⟩)
theorem tGreatElt_run {n : Int} {σ : St} {H : Hp} {Q : VK} (h : σ[2]? = some (some (.int n))) (k : Q (.int (absI n - (10 : Int) ^ (18 : Int).toNat)) H) : tGreatElt σ H Q := by
  show tAbs 2 σ H (fun x H1 => tBig σ H1 fun y H2 => (rI0 fun i j => V.int (i - j)) x y H2 Q)
  exact tAbs_run h (tBig_run ⟨_, _, rfl, rfl, k⟩)
def tGreat (K : PySem.W.Frag) : TE := tLc (iList K (tVar 0)) (gName 2) tGreatTest tGreatElt [2]
def tCells (K : PySem.W.Frag) : TE := tLc (iList K (tVar 0)) (gName 2) tYes (tAbs 2) [2]
theorem greatL_snoc (l : List Int) (n : Int) : greatL (l ++ [n]) = greatL l ++ (if decide ((10 : Int) ^ (18 : Int).toNat ≤ absI n) = true then [absI n - (10 : Int) ^ (18 : Int).toNat] else []) := by
  unfold greatL
  rw [List.filter_append, List.map_append]
  congr 1
  rw [List.filter_cons]
  split
  · rfl
  · rfl
theorem take_snoc {α : Type} {l : List α} {i : Nat} {x : α} (h : l[i]? = some x) : l.take (i + 1) = l.take i ++ [x] := by
  rw [List.take_succ, h]
  rfl
theorem greatL_len (l : List Int) : (greatL l).length ≤ l.length := by
  unfold greatL
  rw [List.length_map]
  exact List.length_filter_le _ _
theorem tGreat_run {K : PySem.W.Frag} {a : Addr} {ns : List Int} {u1 u2 : Option V} {H : Hp} {Q : VK} (hS : SqL K H a (ns.map V.int)) (hl : ns.length ≤ 63) (k : ∀ p, H p = none → Q (.ref p) (L2.upd H p (.lst ((greatL ns).map V.int)))) : tGreat K [some (.ref a), u1, u2] H Q := by
  refine ⟨_, rfl, a, rfl, ⟨_, hS⟩, fun D nD => ?_⟩
  have keep : ∀ (acc : List V), SqL K (L2.upd H D (.lst acc)) a (ns.map V.int) := fun acc => by
    rcases hS with hS | hS
    · refine .inl ?_
      rcases hS with h | ⟨o, h⟩
      · exact .inl (by rw [upd_ne (ne_of_none h nD)]; exact h)
      · exact .inr ⟨o, by rw [upd_ne (ne_of_none h nD)]; exact h⟩
    · exact .inr hS
  refine lc_it (walk_list (K := K) (a := a) (xs := ns.map V.int)) (fun i H' => H' = L2.upd H D (.lst ((greatL (ns.take i)).map V.int))) (by rfl) (fun i H' _ e => by rw [e]; exact keep _) (fun i x H1 H2 hi e hy => ?_) fun H' e => ?_
  · obtain ⟨rfl, hy⟩ := hy
    rw [List.getElem?_map] at hy
    obtain ⟨n, hn, rfl⟩ := Option.map_eq_some_iff.mp hy
    subst e
    have eq := take_snoc hn
    refine ⟨rfl, tGreatTest_run (n := n) rfl ?_⟩
    cases hb : decide ((10 : Int) ^ (18 : Int).toNat ≤ absI n) with
    | true =>
      rw [if_pos rfl]
      refine tGreatElt_run (n := n) rfl ⟨(greatL (ns.take i)).map V.int, upd_same, ?_, ?_⟩
      · rw [List.length_map, sizeLine_eq]
        have := greatL_len (ns.take i)
        rw [List.length_take] at this
        omega
      · show L2.upd (L2.upd H D _) D _ = _
        rw [eq, greatL_snoc, hb, if_pos rfl, List.map_append]
        funext b
        by_cases e : b = D
        · subst e; rw [upd_same, upd_same]; rfl
        · rw [upd_ne e, upd_ne e, upd_ne e]
    | false =>
      rw [if_neg (by decide)]
      show L2.upd H D _ = _
      rw [eq, greatL_snoc, hb, if_neg (by decide), List.append_nil]
  · rw [e, List.length_map, List.take_length]
    exact k D nD
theorem tCells_run {K : PySem.W.Frag} {a : Addr} {ns : List Int} {u1 u2 : Option V} {H : Hp} {Q : VK} (hS : SqL K H a (ns.map V.int)) (hl : ns.length ≤ 63) (k : ∀ p, H p = none → Q (.ref p) (L2.upd H p (.lst ((ns.map absI).map V.int)))) : tCells K [some (.ref a), u1, u2] H Q := by
  refine ⟨_, rfl, a, rfl, ⟨_, hS⟩, fun D nD => ?_⟩
  have keep : ∀ (acc : List V), SqL K (L2.upd H D (.lst acc)) a (ns.map V.int) := fun acc => by
    rcases hS with hS | hS
    · refine .inl ?_
      rcases hS with h | ⟨o, h⟩
      · exact .inl (by rw [upd_ne (ne_of_none h nD)]; exact h)
      · exact .inr ⟨o, by rw [upd_ne (ne_of_none h nD)]; exact h⟩
    · exact .inr hS
  refine lc_it (walk_list (K := K) (a := a) (xs := ns.map V.int)) (fun i H' => H' = L2.upd H D (.lst (((ns.take i).map absI).map V.int))) (by rfl) (fun i H' _ e => by rw [e]; exact keep _) (fun i x H1 H2 hi e hy => ?_) fun H' e => ?_
  · obtain ⟨rfl, hy⟩ := hy
    rw [List.getElem?_map] at hy
    obtain ⟨n, hn, rfl⟩ := Option.map_eq_some_iff.mp hy
    subst e
    have eq := take_snoc hn
    refine ⟨rfl, ?_⟩
    unfold tYes
    dsimp only
    rw [if_pos rfl]
    refine tAbs_run (n := n) rfl ⟨((ns.take i).map absI).map V.int, upd_same, ?_, ?_⟩
    · rw [List.length_map, List.length_map, List.length_take, sizeLine_eq]
      omega
    · show L2.upd (L2.upd H D _) D _ = _
      rw [eq, List.map_append, List.map_append]
      funext b
      by_cases e : b = D
      · subst e; rw [upd_same, upd_same]; rfl
      · rw [upd_ne e, upd_ne e, upd_ne e]
  · rw [e, List.length_map, List.take_length]
    exact k D nD
def tBegun (K : PySem.W.Frag) : TS := tSeq (tAsg (tGreat K) (gName 1)) (tRet (tDisp [(tC (.str "great"), tVar 1), (tC (.str "cells"), tCells K), (tC (.str "rest"), tC (.int 0)), (tC (.str "turn"), tC (.int 0))]))
theorem pure_begun {K : PySem.W.Frag} (vs : List V) (H : Hp) (Q : VK) (E : XK) (h : spBegun K vs H Q E) : tBegun K { nx := fun _ H' => Q .non H', rt := Q } (L2.start ["script", "great", "cell"] vs) H := by
  obtain ⟨a, ns, rfl, hS, hl, k⟩ := h
  have e : L2.start ["script", "great", "cell"] [V.ref a] = [some (.ref a), none, none] := rfl
  rw [e]
  unfold tBegun tSeq tAsg
  refine tGreat_run hS hl fun g ng => ?_
  intro d nd
  refine ⟨_, rfl, ?_⟩
  have dg : d ≠ g := fun e => by rw [e, upd_same] at nd; cases nd
  have hn : H d = none := by rw [upd_ne dg] at nd; exact nd
  have hS2 : SqL K (L2.upd (L2.upd H g (.lst ((greatL ns).map V.int))) d (.dK [])) a (ns.map V.int) := by
    rcases hS with hS | hS
    · refine .inl ?_
      rcases hS with h | ⟨o, h⟩
      · exact .inl (by rw [upd_ne (ne_of_none h hn), upd_ne (ne_of_none h ng)]; exact h)
      · exact .inr ⟨o, by rw [upd_ne (ne_of_none h hn), upd_ne (ne_of_none h ng)]; exact h⟩
    · exact .inr hS
  simp only [tPairs, tC]
  rw [show ([some (V.ref a), none, none] : St).set 1 (some (V.ref g)) = [some (V.ref a), some (V.ref g), none] from rfl]
  refine tCells_run hS2 hl fun c nc => ?_
  have cd : c ≠ d := fun e => by rw [e, upd_same] at nc; cases nc
  have cg : c ≠ g := fun e => by rw [e, upd_ne (fun z => dg z.symm), upd_same] at nc; cases nc
  have hc : H c = none := by rw [upd_ne cd, upd_ne cg] at nc; exact nc
  refine ⟨by rw [upd_ne (fun z => cd z.symm), upd_same], [(.inr "great", .ref g), (.inr "cells", .ref c), (.inr "rest", .int 0), (.inr "turn", .int 0)], rfl, by simp, ?_⟩
  refine k ⟨d, g, c⟩ _ (fun b o hb => ?_) ⟨?_, ?_, ?_, fun z => cg z.symm⟩ fun b hb => ?_
  · rw [upd_ne (ne_of_none hb hn), upd_ne (ne_of_none hb hc), upd_ne (ne_of_none hb hn), upd_ne (ne_of_none hb ng)]
    exact hb
  · show L2.upd _ d _ d = _
    rw [upd_same]
    rfl
  · show L2.upd _ d _ g = _
    rw [upd_ne (fun z => dg z.symm), upd_ne (fun z => cg z.symm), upd_ne (fun z => dg z.symm), upd_same]
    rfl
  · show L2.upd _ d _ c = _
    rw [upd_ne cd, upd_same]
    rfl
  · rcases hb with rfl | rfl | rfl
    · exact hn
    · exact ng
    · exact hc
end Y
end

section
set_option Elab.async false
set_option linter.all false
set_option maxRecDepth 100000
set_option maxHeartbeats 0
set_option autoImplicit false
namespace Y
open PySem PySem.Spec L2
open PyProof.Rows hiding St
structure Fc (E : En) : Prop where
  T0 : E.T = []
  b_abs : E.mg ("abs" : Str) = none
  b_all : E.mg ("all" : Str) = none
  b_bool : E.mg ("bool" : Str) = none
  b_dict : E.mg ("dict" : Str) = none
  b_enumerate : E.mg ("enumerate" : Str) = none
  b_int : E.mg ("int" : Str) = none
  b_isinstance : E.mg ("isinstance" : Str) = none
  b_len : E.mg ("len" : Str) = none
  b_list : E.mg ("list" : Str) = none
  b_min : E.mg ("min" : Str) = none
  b_range : E.mg ("range" : Str) = none
  b_sorted : E.mg ("sorted" : Str) = none
  b_str : E.mg ("str" : Str) = none
  b_sum : E.mg ("sum" : Str) = none
  b_tuple : E.mg ("tuple" : Str) = none
  b_zip : E.mg ("zip" : Str) = none
  MOST_PERSONS : ∃ t, E.mg ("MOST_PERSONS" : Str) = some (.int 4 t)
  MOST_WORKS : ∃ t, E.mg ("MOST_WORKS" : Str) = some (.int 8 t)
  MOST_HOURS : ∃ t, E.mg ("MOST_HOURS" : Str) = some (.int 1000000000 t)
  MOST_USE : ∃ t, E.mg ("MOST_USE" : Str) = some (.int 1000000 t)
  d_is_whole : ∃ f fd, FunD E.K "is_whole" "is_whole" (defArgs (Hd.top 7)) (defBody (Hd.top 7)) (defScope (Hd.top 7)) [] [] f fd ∧ E.mg ("is_whole" : Str) = some (.ref f)
  d_persons_many : ∃ f fd, FunD E.K "persons_many" "persons_many" (defArgs (Hd.top 13)) (defBody (Hd.top 13)) (defScope (Hd.top 13)) [] [] f fd ∧ E.mg ("persons_many" : Str) = some (.ref f)
  d_columns_many : ∃ f fd, FunD E.K "columns_many" "columns_many" (defArgs (Hd.top 14)) (defBody (Hd.top 14)) (defScope (Hd.top 14)) [] [] f fd ∧ E.mg ("columns_many" : Str) = some (.ref f)
  d_are_hours : ∃ f fd, FunD E.K "are_hours" "are_hours" (defArgs (Hd.top 15)) (defBody (Hd.top 15)) (defScope (Hd.top 15)) [] [] f fd ∧ E.mg ("are_hours" : Str) = some (.ref f)
  d_are_uses : ∃ f fd, FunD E.K "are_uses" "are_uses" (defArgs (Hd.top 16)) (defBody (Hd.top 16)) (defScope (Hd.top 16)) [] [] f fd ∧ E.mg ("are_uses" : Str) = some (.ref f)
  d_are_all : ∃ f fd, FunD E.K "are_all" "are_all" (defArgs (Hd.top 17)) (defBody (Hd.top 17)) (defScope (Hd.top 17)) [] [] f fd ∧ E.mg ("are_all" : Str) = some (.ref f)
  d_used_by : ∃ f fd, FunD E.K "used_by" "used_by" (defArgs (Hd.top 18)) (defBody (Hd.top 18)) (defScope (Hd.top 18)) [] [] f fd ∧ E.mg ("used_by" : Str) = some (.ref f)
  d_is_book : ∃ f fd, FunD E.K "is_book" "is_book" (defArgs (Hd.top 19)) (defBody (Hd.top 19)) (defScope (Hd.top 19)) [] [] f fd ∧ E.mg ("is_book" : Str) = some (.ref f)
  d_need_book : ∃ f fd, FunD E.K "need_book" "need_book" (defArgs (Hd.top 20)) (defBody (Hd.top 20)) (defScope (Hd.top 20)) [] [] f fd ∧ E.mg ("need_book" : Str) = some (.ref f)
  d_is_below : ∃ f fd, FunD E.K "is_below" "is_below" (defArgs (Hd.top 21)) (defBody (Hd.top 21)) (defScope (Hd.top 21)) [] [] f fd ∧ E.mg ("is_below" : Str) = some (.ref f)
  d_need_column : ∃ f fd, FunD E.K "need_column" "need_column" (defArgs (Hd.top 22)) (defBody (Hd.top 22)) (defScope (Hd.top 22)) [] [] f fd ∧ E.mg ("need_column" : Str) = some (.ref f)
  d_taste_in : ∃ f fd, FunD E.K "taste_in" "taste_in" (defArgs (Hd.top 23)) (defBody (Hd.top 23)) (defScope (Hd.top 23)) [] [] f fd ∧ E.mg ("taste_in" : Str) = some (.ref f)
  d_tastes_in : ∃ f fd, FunD E.K "tastes_in" "tastes_in" (defArgs (Hd.top 24)) (defBody (Hd.top 24)) (defScope (Hd.top 24)) [] [] f fd ∧ E.mg ("tastes_in" : Str) = some (.ref f)
  d_lots_in : ∃ f fd, FunD E.K "lots_in" "lots_in" (defArgs (Hd.top 26)) (defBody (Hd.top 26)) (defScope (Hd.top 26)) [] [] f fd ∧ E.mg ("lots_in" : Str) = some (.ref f)
  d_least_places : ∃ f fd, FunD E.K "least_places" "least_places" (defArgs (Hd.top 27)) (defBody (Hd.top 27)) (defScope (Hd.top 27)) [] [] f fd ∧ E.mg ("least_places" : Str) = some (.ref f)
  d_columns_above : ∃ f fd, FunD E.K "columns_above" "columns_above" (defArgs (Hd.top 28)) (defBody (Hd.top 28)) (defScope (Hd.top 28)) [] [] f fd ∧ E.mg ("columns_above" : Str) = some (.ref f)
  d_is_lot_of : ∃ f fd, FunD E.K "is_lot_of" "is_lot_of" (defArgs (Hd.top 29)) (defBody (Hd.top 29)) (defScope (Hd.top 29)) [] [] f fd ∧ E.mg ("is_lot_of" : Str) = some (.ref f)
  d_need_lot : ∃ f fd, FunD E.K "need_lot" "need_lot" (defArgs (Hd.top 30)) (defBody (Hd.top 30)) (defScope (Hd.top 30)) [] [] f fd ∧ E.mg ("need_lot" : Str) = some (.ref f)
  d_rooms_in : ∃ f fd, FunD E.K "rooms_in" "rooms_in" (defArgs (Hd.top 31)) (defBody (Hd.top 31)) (defScope (Hd.top 31)) [] [] f fd ∧ E.mg ("rooms_in" : Str) = some (.ref f)
  d_rooms_of : ∃ f fd, FunD E.K "rooms_of" "rooms_of" (defArgs (Hd.top 32)) (defBody (Hd.top 32)) (defScope (Hd.top 32)) [] [] f fd ∧ E.mg ("rooms_of" : Str) = some (.ref f)
  d_is_room_of : ∃ f fd, FunD E.K "is_room_of" "is_room_of" (defArgs (Hd.top 33)) (defBody (Hd.top 33)) (defScope (Hd.top 33)) [] [] f fd ∧ E.mg ("is_room_of" : Str) = some (.ref f)
  d_is_room : ∃ f fd, FunD E.K "is_room" "is_room" (defArgs (Hd.top 34)) (defBody (Hd.top 34)) (defScope (Hd.top 34)) [] [] f fd ∧ E.mg ("is_room" : Str) = some (.ref f)
  d_need_room : ∃ f fd, FunD E.K "need_room" "need_room" (defArgs (Hd.top 35)) (defBody (Hd.top 35)) (defScope (Hd.top 35)) [] [] f fd ∧ E.mg ("need_room" : Str) = some (.ref f)
  d_homes_in : ∃ f fd, FunD E.K "homes_in" "homes_in" (defArgs (Hd.top 36)) (defBody (Hd.top 36)) (defScope (Hd.top 36)) [] [] f fd ∧ E.mg ("homes_in" : Str) = some (.ref f)
  d_homes_of : ∃ f fd, FunD E.K "homes_of" "homes_of" (defArgs (Hd.top 37)) (defBody (Hd.top 37)) (defScope (Hd.top 37)) [] [] f fd ∧ E.mg ("homes_of" : Str) = some (.ref f)
  d_above_all : ∃ f fd, FunD E.K "above_all" "above_all" (defArgs (Hd.top 38)) (defBody (Hd.top 38)) (defScope (Hd.top 38)) [] [] f fd ∧ E.mg ("above_all" : Str) = some (.ref f)
  d_is_face : ∃ f fd, FunD E.K "is_face" "is_face" (defArgs (Hd.top 39)) (defBody (Hd.top 39)) (defScope (Hd.top 39)) [] [] f fd ∧ E.mg ("is_face" : Str) = some (.ref f)
  d_face_counts : ∃ f fd, FunD E.K "face_counts" "face_counts" (defArgs (Hd.top 40)) (defBody (Hd.top 40)) (defScope (Hd.top 40)) [] [] f fd ∧ E.mg ("face_counts" : Str) = some (.ref f)
  d_without : ∃ f fd, FunD E.K "without" "without" (defArgs (Hd.top 42)) (defBody (Hd.top 42)) (defScope (Hd.top 42)) [] [] f fd ∧ E.mg ("without" : Str) = some (.ref f)
  d_other_room : ∃ f fd, FunD E.K "other_room" "other_room" (defArgs (Hd.top 43)) (defBody (Hd.top 43)) (defScope (Hd.top 43)) [] [] f fd ∧ E.mg ("other_room" : Str) = some (.ref f)
  d_room_beyond : ∃ f fd, FunD E.K "room_beyond" "room_beyond" (defArgs (Hd.top 44)) (defBody (Hd.top 44)) (defScope (Hd.top 44)) [] [] f fd ∧ E.mg ("room_beyond" : Str) = some (.ref f)
  d_walls_of : ∃ f fd, FunD E.K "walls_of" "walls_of" (defArgs (Hd.top 45)) (defBody (Hd.top 45)) (defScope (Hd.top 45)) [] [] f fd ∧ E.mg ("walls_of" : Str) = some (.ref f)
  d_need_rooms : ∃ f fd, FunD E.K "need_rooms" "need_rooms" (defArgs (Hd.top 46)) (defBody (Hd.top 46)) (defScope (Hd.top 46)) [] [] f fd ∧ E.mg ("need_rooms" : Str) = some (.ref f)
  d_room_way : ∃ f fd, FunD E.K "room_way" "room_way" (defArgs (Hd.top 47)) (defBody (Hd.top 47)) (defScope (Hd.top 47)) [] [] f fd ∧ E.mg ("room_way" : Str) = some (.ref f)
  d_is_room_way : ∃ f fd, FunD E.K "is_room_way" "is_room_way" (defArgs (Hd.top 48)) (defBody (Hd.top 48)) (defScope (Hd.top 48)) [] [] f fd ∧ E.mg ("is_room_way" : Str) = some (.ref f)
  d__law_ln_chain : ∃ f fd, FunD E.K "_law_ln_chain" "_law_ln_chain" (defArgs (Hd.top 50)) (defBody (Hd.top 50)) (defScope (Hd.top 50)) [] [] f fd ∧ E.mg ("_law_ln_chain" : Str) = some (.ref f)
  d__law_ln_two : ∃ f fd, FunD E.K "_law_ln_two" "_law_ln_two" (defArgs (Hd.top 51)) (defBody (Hd.top 51)) (defScope (Hd.top 51)) [] [] f fd ∧ E.mg ("_law_ln_two" : Str) = some (.ref f)
  d__law_begun : ∃ f fd, FunD E.K "_law_begun" "_law_begun" (defArgs (Hd.top 52)) (defBody (Hd.top 52)) (defScope (Hd.top 52)) [] [] f fd ∧ E.mg ("_law_begun" : Str) = some (.ref f)
  d__law_blended : ∃ f fd, FunD E.K "_law_blended" "_law_blended" (defArgs (Hd.top 53)) (defBody (Hd.top 53)) (defScope (Hd.top 53)) [] [] f fd ∧ E.mg ("_law_blended" : Str) = some (.ref f)
  d__law_draw : ∃ f fd, FunD E.K "_law_draw" "_law_draw" (defArgs (Hd.top 54)) (defBody (Hd.top 54)) (defScope (Hd.top 54)) [] [] f fd ∧ E.mg ("_law_draw" : Str) = some (.ref f)
  d__law_shuffled : ∃ f fd, FunD E.K "_law_shuffled" "_law_shuffled" (defArgs (Hd.top 55)) (defBody (Hd.top 55)) (defScope (Hd.top 55)) [] [] f fd ∧ E.mg ("_law_shuffled" : Str) = some (.ref f)
  d__law_likes : ∃ f fd, FunD E.K "_law_likes" "_law_likes" (defArgs (Hd.top 56)) (defBody (Hd.top 56)) (defScope (Hd.top 56)) [] [] f fd ∧ E.mg ("_law_likes" : Str) = some (.ref f)
  d__law_taste : ∃ f fd, FunD E.K "_law_taste" "_law_taste" (defArgs (Hd.top 57)) (defBody (Hd.top 57)) (defScope (Hd.top 57)) [] [] f fd ∧ E.mg ("_law_taste" : Str) = some (.ref f)
  d__law_tastes : ∃ f fd, FunD E.K "_law_tastes" "_law_tastes" (defArgs (Hd.top 58)) (defBody (Hd.top 58)) (defScope (Hd.top 58)) [] [] f fd ∧ E.mg ("_law_tastes" : Str) = some (.ref f)
  d__law_goes : ∃ f fd, FunD E.K "_law_goes" "_law_goes" (defArgs (Hd.top 59)) (defBody (Hd.top 59)) (defScope (Hd.top 59)) [] [] f fd ∧ E.mg ("_law_goes" : Str) = some (.ref f)
  d__law_ways_go : ∃ f fd, FunD E.K "_law_ways_go" "_law_ways_go" (defArgs (Hd.top 60)) (defBody (Hd.top 60)) (defScope (Hd.top 60)) [] [] f fd ∧ E.mg ("_law_ways_go" : Str) = some (.ref f)
  d__law_above_goes : ∃ f fd, FunD E.K "_law_above_goes" "_law_above_goes" (defArgs (Hd.top 61)) (defBody (Hd.top 61)) (defScope (Hd.top 61)) [] [] f fd ∧ E.mg ("_law_above_goes" : Str) = some (.ref f)
  d_law : ∃ f fd, FunD E.K "law" "law" (defArgs (Hd.top 62)) (defBody (Hd.top 62)) (defScope (Hd.top 62)) [] [] f fd ∧ E.mg ("law" : Str) = some (.ref f)
def N_is_whole : List Str := ["value"]
def B_is_whole : SSem := (retS (andE (un (fun d => (isiD "int" d).map .bl) (peekE 0)) (notE (un (fun d => (isiD "bool" d).map .bl) (peekE 0)))))
def F_is_whole : FSem := bodyF N_is_whole B_is_whole
theorem b_is_whole {E : En} (h : Fc E)  : SSs ⟨E, N_is_whole, 0⟩ (defScope (Hd.top 7)) (defBody (Hd.top 7)) B_is_whole :=
  (ss_one (ss_ret (se_and (e_isi (sp_var (i := 0) rfl (by kernel_rfl)) h.b_isinstance h.b_int (by decide +kernel)) (se_one (se_not (e_isi (sp_var (i := 0) rfl (by kernel_rfl)) h.b_isinstance h.b_bool (by decide +kernel)))))))
theorem ok_is_whole {E : En} (h : Fc E)  : FnS E 1 "is_whole" 1 F_is_whole := by
  obtain ⟨f, fd, FD, hm⟩ := h.d_is_whole
  exact fn_def (ps := ["value"]) FD ⟨rfl, rfl, rfl, by decide +kernel, rfl, by decide +kernel, by decide +kernel⟩ hm rfl (fun _ _ _ _ _ _ us hl => match us, hl with | [_], _ => rfl) (b_is_whole h )
def N_persons_many : List Str := ["book"]
def B_persons_many : SSem := (retS (callE lenD (consA (bin (getAD true) (peekE 0) (cE (.int 1))) nilA)))
def F_persons_many : FSem := bodyF N_persons_many B_persons_many
theorem b_persons_many {E : En} (h : Fc E)  : SSs ⟨E, N_persons_many, 0⟩ (defScope (Hd.top 13)) (defBody (Hd.top 13)) B_persons_many :=
  (ss_one (ss_ret (e_len (SE.sp (e_get (fun _ => h.T0) (sp_var (i := 0) rfl (by kernel_rfl)) (SE.sp se_int))) h.b_len)))
theorem ok_persons_many {E : En} (h : Fc E)  : FnS E 1 "persons_many" 1 F_persons_many := by
  obtain ⟨f, fd, FD, hm⟩ := h.d_persons_many
  exact fn_def (ps := ["book"]) FD ⟨rfl, rfl, rfl, by decide +kernel, rfl, by decide +kernel, by decide +kernel⟩ hm rfl (fun _ _ _ _ _ _ us hl => match us, hl with | [_], _ => rfl) (b_persons_many h )
def N_columns_many : List Str := ["book"]
def B_columns_many : SSem := (retS (bin addD (callE lenD (consA (bin (getAD true) (peekE 0) (cE (.int 1))) nilA)) (callE lenD (consA (bin (getAD true) (peekE 0) (cE (.int 2))) nilA))))
def F_columns_many : FSem := bodyF N_columns_many B_columns_many
theorem b_columns_many {E : En} (h : Fc E)  : SSs ⟨E, N_columns_many, 0⟩ (defScope (Hd.top 14)) (defBody (Hd.top 14)) B_columns_many :=
  (ss_one (ss_ret (e_add (SE.sp (e_len (SE.sp (e_get (fun _ => h.T0) (sp_var (i := 0) rfl (by kernel_rfl)) (SE.sp se_int))) h.b_len)) (SE.sp (e_len (SE.sp (e_get (fun _ => h.T0) (sp_var (i := 0) rfl (by kernel_rfl)) (SE.sp se_int))) h.b_len)))))
theorem ok_columns_many {E : En} (h : Fc E)  : FnS E 1 "columns_many" 1 F_columns_many := by
  obtain ⟨f, fd, FD, hm⟩ := h.d_columns_many
  exact fn_def (ps := ["book"]) FD ⟨rfl, rfl, rfl, by decide +kernel, rfl, by decide +kernel, by decide +kernel⟩ hm rfl (fun _ _ _ _ _ _ us hl => match us, hl with | [_], _ => rfl) (b_columns_many h )
def N_used_by : List Str := ["works", "person", "number", "uses"]
def B_used_by : SSem := (retS (compE (enumI (varE 0)) (tupG (consG (nameG 2) (consG (nameG 3) nilG))) (testE (bin gtD (bin (getAD true) (peekE 3) (peekE 1)) (cE (.int 0)))) (varE 2) [2, 3]))
def F_used_by : FSem := bodyF N_used_by B_used_by
theorem b_used_by {E : En} (h : Fc E)  : SSs ⟨E, N_used_by, 0⟩ (defScope (Hd.top 18)) (defBody (Hd.top 18)) B_used_by :=
  (ss_one (ss_ret (SF.se (sf_lc (own := [(("number" : Str), 2), (("uses" : Str), 3)]) ⟨(show BlkOk N_used_by _ _ _ from ⟨rfl, (by decide +kernel), (by decide +kernel), (by decide +kernel), (by decide +kernel)⟩), (si_enum rfl (by kernel_rfl) h.b_enumerate (se_var (i := 0) rfl (by kernel_rfl))), ⟨_, (by decide), (sg_tup (sgs_cons (sg_name (i := 2) rfl (by kernel_rfl)) (sgs_cons (sg_name (i := 3) rfl (by kernel_rfl)) sgs_nil)) (glen_cons (glen_cons glen_nil)))⟩, (sts_one (t_cmp c_gt (SE.sp (e_get (fun _ => h.T0) (sp_var (i := 3) rfl (by kernel_rfl)) (sp_var (i := 1) rfl (by kernel_rfl)))) (SE.sp se_int))), (se_var (i := 2) rfl (by kernel_rfl))⟩))))
theorem ok_used_by {E : En} (h : Fc E)  : FnS E 1 "used_by" 2 F_used_by := by
  obtain ⟨f, fd, FD, hm⟩ := h.d_used_by
  exact fn_def (ps := ["works", "person"]) FD ⟨rfl, rfl, rfl, by decide +kernel, rfl, by decide +kernel, by decide +kernel⟩ hm rfl (fun _ _ _ _ _ _ us hl => match us, hl with | [_, _], _ => rfl) (b_used_by h )
def N_taste_in : List Str := ["book", "person", "others", "idle", "many", "own", "work", "other"]
def B_taste_in : SSem := (seqS (parS [4, 5] [(false, (callE lenD (consA (bin (getAD true) (peekE 0) (cE (.int 1))) nilA))), (false, (bin (getAD true) (bin (getAD true) (peekE 0) (cE (.int 3))) (peekE 1)))]) (seqS (setS 2 (compE (range1I (callE lenD (consA (bin (getAD true) (peekE 0) (cE (.int 2))) nilA))) (nameG 6) (testE (bin (notInAD true) (peekE 6) (peekE 5))) (varE 6) [6])) (seqS (setS 3 (compE (range1I (peekE 4)) (nameG 7) (testE (bin neD (peekE 7) (peekE 1))) (varE 7) [7])) (retS (callE tupleD (consA (bin addD (bin addD (bin addD (lstE (consA (varE 1) nilA)) (compE (seqI (un revAD (peekE 5))) (nameG 6) yesT (bin addD (peekE 4) (peekE 6)) [6])) (compE (seqI (varE 2)) (nameG 6) yesT (bin addD (peekE 4) (peekE 6)) [6])) (peekE 3)) nilA))))))
def F_taste_in : FSem := bodyF N_taste_in B_taste_in
theorem b_taste_in {E : En} (h : Fc E)  : SSs ⟨E, N_taste_in, 0⟩ (defScope (Hd.top 23)) (defBody (Hd.top 23)) B_taste_in :=
  (ss_cons (ss_parT (ts := [("many", _), ("own", _)]) (is := [4, 5]) rfl ⟨rfl, (by kernel_rfl), rfl, (by kernel_rfl), trivial⟩ (sac_p (e_len (SE.sp (e_get (fun _ => h.T0) (sp_var (i := 0) rfl (by kernel_rfl)) (SE.sp se_int))) h.b_len) (sac_p (e_get (fun _ => h.T0) (SE.sp (e_get (fun _ => h.T0) (sp_var (i := 0) rfl (by kernel_rfl)) (SE.sp se_int))) (sp_var (i := 1) rfl (by kernel_rfl))) sac_nil)) rfl (by decide) (hw := (fun X hX => swp_run hX rfl (by intro _; rfl)))) (ss_cons (ss_setLcP (i := 2) (own := [(("work" : Str), 6)]) ⟨(show BlkOk N_taste_in _ _ _ from ⟨rfl, (by decide +kernel), (by decide +kernel), (by decide +kernel), (by decide +kernel)⟩), (si_range1 rfl (by kernel_rfl) h.b_range (SE.sp (e_len (SE.sp (e_get (fun _ => h.T0) (sp_var (i := 0) rfl (by kernel_rfl)) (SE.sp se_int))) h.b_len))), ⟨_, (by decide), (sg_name (i := 6) rfl (by kernel_rfl))⟩, (sts_one (t_cmp (c_notIn (fun _ => h.T0)) (sp_var (i := 6) rfl (by kernel_rfl)) (sp_var (i := 5) rfl (by kernel_rfl)))), (se_var (i := 6) rfl (by kernel_rfl))⟩ rfl (by kernel_rfl) (by rfl) (by kernel_rfl)) (ss_cons (ss_setLcP (i := 3) (own := [(("other" : Str), 7)]) ⟨(show BlkOk N_taste_in _ _ _ from ⟨rfl, (by decide +kernel), (by decide +kernel), (by decide +kernel), (by decide +kernel)⟩), (si_range1 rfl (by kernel_rfl) h.b_range (sp_var (i := 4) rfl (by kernel_rfl))), ⟨_, (by decide), (sg_name (i := 7) rfl (by kernel_rfl))⟩, (sts_one (t_cmp c_ne (sp_var (i := 7) rfl (by kernel_rfl)) (sp_var (i := 1) rfl (by kernel_rfl)))), (se_var (i := 7) rfl (by kernel_rfl))⟩ rfl (by kernel_rfl) (by rfl) (by kernel_rfl)) (ss_one (ss_ret (e_tuple (SE.sp (e_add (SE.sp (e_add (SE.sp (e_add (SE.sp (SF.se (sf_lst (sa_cons (se_var (i := 1) rfl (by kernel_rfl)) sa_nil) (len_cons len_nil)))) (SE.sp (SF.se (sf_lc (own := [(("work" : Str), 6)]) ⟨(show BlkOk N_taste_in _ _ _ from ⟨rfl, (by decide +kernel), (by decide +kernel), (by decide +kernel), (by decide +kernel)⟩), (si_seq (e_rev (sp_var (i := 5) rfl (by kernel_rfl)))), ⟨_, (by decide), (sg_name (i := 6) rfl (by kernel_rfl))⟩, sts_nil, (e_add (sp_var (i := 4) rfl (by kernel_rfl)) (sp_var (i := 6) rfl (by kernel_rfl)))⟩))))) (SE.sp (SF.se (sf_lc (own := [(("work" : Str), 6)]) ⟨(show BlkOk N_taste_in _ _ _ from ⟨rfl, (by decide +kernel), (by decide +kernel), (by decide +kernel), (by decide +kernel)⟩), (si_seq (se_var (i := 2) rfl (by kernel_rfl))), ⟨_, (by decide), (sg_name (i := 6) rfl (by kernel_rfl))⟩, sts_nil, (e_add (sp_var (i := 4) rfl (by kernel_rfl)) (sp_var (i := 6) rfl (by kernel_rfl)))⟩))))) (sp_var (i := 3) rfl (by kernel_rfl)))) h.b_tuple))))))
theorem ok_taste_in {E : En} (h : Fc E)  : FnS E 1 "taste_in" 2 F_taste_in := by
  obtain ⟨f, fd, FD, hm⟩ := h.d_taste_in
  exact fn_def (ps := ["book", "person"]) FD ⟨rfl, rfl, rfl, by decide +kernel, rfl, by decide +kernel, by decide +kernel⟩ hm rfl (fun _ _ _ _ _ _ us hl => match us, hl with | [_, _], _ => rfl) (b_taste_in h )
def N_lots_in : List Str := ["many", "size", "found", "lap", "own", "number"]
def B_lots_in : SSem := (seqS (setS 2 (lstE (consA (tupE 0 nilA) nilA))) (seqS (forS (range1I (peekE 1)) (nameG 3) (setS 2 (comp2E (seqI (varE 2)) (nameG 4) yesT (range2I (iteE (testE (bin neD (peekE 4) (tupE 0 nilA))) (bin addD (bin (getAD true) (peekE 4) (un negD (cE (.int 1)))) (cE (.int 1))) (cE (.int 0))) (peekE 0)) (nameG 5) yesT (bin addD (peekE 4) (tupE 1 (consA (varE 5) nilA))) [4, 5] [5]))) (retVS 2)))
def F_lots_in : FSem := bodyF N_lots_in B_lots_in
theorem b_lots_in {E : En} (h : Fc E)  : SSs ⟨E, N_lots_in, 0⟩ (defScope (Hd.top 26)) (defBody (Hd.top 26)) B_lots_in :=
  (ss_cons (ss_set (i := 2) rfl (by kernel_rfl) (SF.se (sf_lst (sa_cons (se_tup sa_nil len_nil) sa_nil) (len_cons len_nil)))) (ss_cons (ss_for (si_range1 rfl (by kernel_rfl) h.b_range (sp_var (i := 1) rfl (by kernel_rfl))) (sg_name (i := 3) rfl (by kernel_rfl)) (ss_one (ss_setLc2P (i := 2) (own := [(("own" : Str), 4), (("number" : Str), 5)]) (vs1 := [5]) ⟨(show BlkOk N_lots_in _ _ _ from ⟨rfl, (by decide +kernel), (by decide +kernel), (by decide +kernel), (by decide +kernel)⟩), (si_seq (se_var (i := 2) rfl (by kernel_rfl))), ⟨_, (by decide), (sg_name (i := 4) rfl (by kernel_rfl))⟩, sts_nil, (si_range2 rfl (by kernel_rfl) h.b_range (SE.sp (se_ite (t_cmp c_ne (sp_var (i := 4) rfl (by kernel_rfl)) (SE.sp (se_tup sa_nil len_nil))) (e_add (SE.sp (e_get (fun _ => h.T0) (sp_var (i := 4) rfl (by kernel_rfl)) (SE.sp (se_neg (SE.sp se_int))))) (SE.sp se_int)) se_int)) (sp_var (i := 0) rfl (by kernel_rfl))), ⟨_, (by decide), (sg_name (i := 5) rfl (by kernel_rfl))⟩, sts_nil, (by decide), (e_add (sp_var (i := 4) rfl (by kernel_rfl)) (SE.sp (se_tup (sa_cons (se_var (i := 5) rfl (by kernel_rfl)) sa_nil) (len_cons len_nil))))⟩ rfl (by kernel_rfl) (by rfl) (by kernel_rfl)))) (ss_one (ss_retV (i := 2) rfl (by kernel_rfl)))))
theorem ok_lots_in {E : En} (h : Fc E)  : FnS E 1 "lots_in" 2 F_lots_in := by
  obtain ⟨f, fd, FD, hm⟩ := h.d_lots_in
  exact fn_def (ps := ["many", "size"]) FD ⟨rfl, rfl, rfl, by decide +kernel, rfl, by decide +kernel, by decide +kernel⟩ hm rfl (fun _ _ _ _ _ _ us hl => match us, hl with | [_, _], _ => rfl) (b_lots_in h )
def N_least_places : List Str := ["tastes", "lot", "places", "column"]
def B_least_places : SSem := (retS (compE (seqI (varE 0)) (nameG 2) yesT (callE minAD (consA (compE (seqI (varE 1)) (nameG 3) yesT (bin (getAD true) (peekE 2) (peekE 3)) [3]) nilA)) [2]))
def F_least_places : FSem := bodyF N_least_places B_least_places
theorem b_least_places {E : En} (h : Fc E)  : SSs ⟨E, N_least_places, 0⟩ (defScope (Hd.top 27)) (defBody (Hd.top 27)) B_least_places :=
  (ss_one (ss_ret (SF.se (sf_lc (own := [(("places" : Str), 2)]) ⟨(show BlkOk N_least_places _ _ _ from ⟨rfl, (by decide +kernel), (by decide +kernel), (by decide +kernel), (by decide +kernel)⟩), (si_seq (se_var (i := 0) rfl (by kernel_rfl))), ⟨_, (by decide), (sg_name (i := 2) rfl (by kernel_rfl))⟩, sts_nil, (e_min (SE.sp (SF.se (sf_lc (own := [(("column" : Str), 3)]) ⟨(show BlkOk N_least_places _ _ _ from ⟨rfl, (by decide +kernel), (by decide +kernel), (by decide +kernel), (by decide +kernel)⟩), (si_seq (se_var (i := 1) rfl (by kernel_rfl))), ⟨_, (by decide), (sg_name (i := 3) rfl (by kernel_rfl))⟩, sts_nil, (e_get (fun _ => h.T0) (sp_var (i := 2) rfl (by kernel_rfl)) (sp_var (i := 3) rfl (by kernel_rfl)))⟩))) h.b_min)⟩))))
theorem ok_least_places {E : En} (h : Fc E)  : FnS E 1 "least_places" 2 F_least_places := by
  obtain ⟨f, fd, FD, hm⟩ := h.d_least_places
  exact fn_def (ps := ["tastes", "lot"]) FD ⟨rfl, rfl, rfl, by decide +kernel, rfl, by decide +kernel, by decide +kernel⟩ hm rfl (fun _ _ _ _ _ _ us hl => match us, hl with | [_, _], _ => rfl) (b_least_places h )
def N_without : List Str := ["lot", "column", "own"]
def B_without : SSem := (retS (callE tupleD (consA (compE (seqI (varE 0)) (nameG 2) (testE (bin neD (peekE 2) (peekE 1))) (varE 2) [2]) nilA)))
def F_without : FSem := bodyF N_without B_without
theorem b_without {E : En} (h : Fc E)  : SSs ⟨E, N_without, 0⟩ (defScope (Hd.top 42)) (defBody (Hd.top 42)) B_without :=
  (ss_one (ss_ret (e_tuple (SE.sp (SF.se (sf_lc (own := [(("own" : Str), 2)]) ⟨(show BlkOk N_without _ _ _ from ⟨rfl, (by decide +kernel), (by decide +kernel), (by decide +kernel), (by decide +kernel)⟩), (si_seq (se_var (i := 0) rfl (by kernel_rfl))), ⟨_, (by decide), (sg_name (i := 2) rfl (by kernel_rfl))⟩, (sts_one (t_cmp c_ne (sp_var (i := 2) rfl (by kernel_rfl)) (sp_var (i := 1) rfl (by kernel_rfl)))), (se_var (i := 2) rfl (by kernel_rfl))⟩))) h.b_tuple)))
theorem ok_without {E : En} (h : Fc E)  : FnS E 1 "without" 2 F_without := by
  obtain ⟨f, fd, FD, hm⟩ := h.d_without
  exact fn_def (ps := ["lot", "column"]) FD ⟨rfl, rfl, rfl, by decide +kernel, rfl, by decide +kernel, by decide +kernel⟩ hm rfl (fun _ _ _ _ _ _ us hl => match us, hl with | [_, _], _ => rfl) (b_without h )
def N__law_blended : List Str := ["state", "prime", "turn", "found", "blend", "cell"]
def B__law_blended : SSem := (seqS (parS [2, 3] [(false, (bin addD (drE 0 (fun st => st.turn)) (cE (.int 1)))), (false, (cE (.int 0)))]) (seqS (drPutS 0 (fun st n => { st with turn := n }) (varE 2)) (seqS (forS (seqI (lstE (consA (cE (.int 2147483489)) (consA (cE (.int 2147483477)) (consA (cE (.int 2147483423)) nilA))))) (nameG 1) (seqS (setS 4 (bin addD (bin mulD (cE (.int 39373)) (peekE 2)) (bin fdivD (peekE 1) (cE (.int 61))))) (seqS (forCellsS 0 (nameG 5) (setS 4 (bin modD (callE intD (consA (bin addD (bin addD (bin mulD (peekE 4) (cE (.int 62089))) (peekE 5)) (peekE 2)) nilA)) (peekE 1)))) (setS 3 (bin addD (bin mulD (peekE 3) (cE (.int 2147483647))) (bin modD (callE intD (consA (bin powD (peekE 4) (cE (.int 5))) nilA)) (peekE 1))))))) (retVS 3))))
def F__law_blended : FSem := bodyF N__law_blended B__law_blended
theorem b__law_blended {E : En} (h : Fc E)  : SSs ⟨E, N__law_blended, 0⟩ (defScope (Hd.top 53)) (defBody (Hd.top 53)) B__law_blended :=
  (ss_cons (ss_par2 (i := 2) (j := 3) rfl rfl (by decide) (by kernel_rfl) (by kernel_rfl) (sac_p (e_add (SE.sp (se_dr (i := 0) (get := fun st => st.turn) rfl (by kernel_rfl) (by intro _ _; rfl))) (SE.sp se_int)) (sac_p se_int sac_nil)) rfl (fun X hX => swp_run hX rfl (by intro _; rfl))) (ss_cons (ss_drPut (i := 0) (set := (fun st n => { st with turn := n })) rfl (by kernel_rfl) (se_var (i := 2) rfl (by kernel_rfl)) (by intro _ _ _; rfl) (by intro _ _; exact ⟨rfl, rfl⟩)) (ss_cons (ss_for (si_seq (SF.se (sf_lst (sa_cons se_int (sa_cons se_int (sa_cons se_int sa_nil))) (len_cons (len_cons (len_cons len_nil)))))) (sg_name (i := 1) rfl (by kernel_rfl)) (ss_cons (ss_set (i := 4) rfl (by kernel_rfl) (e_add (SE.sp (e_mul (SE.sp se_int) (sp_var (i := 2) rfl (by kernel_rfl)))) (SE.sp (e_fdiv (sp_var (i := 1) rfl (by kernel_rfl)) (SE.sp se_int))))) (ss_cons (ss_forCells (i := 0) rfl (by kernel_rfl) (sg_name (i := 5) rfl (by kernel_rfl)) (ss_one (ss_set (i := 4) rfl (by kernel_rfl) (e_mod (SE.sp (e_int (SE.sp (e_add (SE.sp (e_add (SE.sp (e_mul (sp_var (i := 4) rfl (by kernel_rfl)) (SE.sp se_int))) (sp_var (i := 5) rfl (by kernel_rfl)))) (sp_var (i := 2) rfl (by kernel_rfl)))) h.b_int)) (sp_var (i := 1) rfl (by kernel_rfl))))) (kp_cells (by repeat (first | apply kp_setS | apply kp_bin | apply kp_call | apply kp_cons | apply kp_nil | apply kp_peek | apply kp_var | apply kp_c | apply kp_seq)))) (ss_one (ss_set (i := 3) rfl (by kernel_rfl) (e_add (SE.sp (e_mul (sp_var (i := 3) rfl (by kernel_rfl)) (SE.sp se_int))) (SE.sp (e_mod (SE.sp (e_int (SE.sp (e_pow (sp_var (i := 4) rfl (by kernel_rfl)) (SE.sp se_int))) h.b_int)) (sp_var (i := 1) rfl (by kernel_rfl)))))))))) (ss_one (ss_retV (i := 3) rfl (by kernel_rfl))))))
theorem ok__law_blended {E : En} (h : Fc E)  : FnS E 1 "_law_blended" 1 F__law_blended := by
  obtain ⟨f, fd, FD, hm⟩ := h.d__law_blended
  exact fn_def (ps := ["state"]) FD ⟨rfl, rfl, rfl, by decide +kernel, rfl, by decide +kernel, by decide +kernel⟩ hm rfl (fun _ _ _ _ _ _ us hl => match us, hl with | [_], _ => rfl) (b__law_blended h )
def N__law_taste : List Str := ["book", "person", "rest", "many", "own", "work", "other"]
def B__law_taste : SSem := (seqS (parS [3, 4] [(false, (callE lenD (consA (bin (getAD true) (peekE 0) (cE (.int 1))) nilA))), (false, (bin (getAD true) (bin (getAD true) (peekE 0) (cE (.int 3))) (peekE 1)))]) (seqS (setS 2 (bin addD (compE (range1I (callE lenD (consA (bin (getAD true) (peekE 0) (cE (.int 2))) nilA))) (nameG 5) (testE (bin (notInAD true) (peekE 5) (peekE 4))) (bin addD (peekE 3) (peekE 5)) [5]) (compE (range1I (peekE 3)) (nameG 6) (testE (bin neD (peekE 6) (peekE 1))) (varE 6) [6]))) (retS (callE tupleD (consA (bin addD (bin addD (lstE (consA (varE 1) nilA)) (compE (seqI (un revAD (peekE 4))) (nameG 5) yesT (bin addD (peekE 3) (peekE 5)) [5])) (peekE 2)) nilA)))))
def F__law_taste : FSem := bodyF N__law_taste B__law_taste
theorem b__law_taste {E : En} (h : Fc E)  : SSs ⟨E, N__law_taste, 0⟩ (defScope (Hd.top 57)) (defBody (Hd.top 57)) B__law_taste :=
  (ss_cons (ss_parT (ts := [("many", _), ("own", _)]) (is := [3, 4]) rfl ⟨rfl, (by kernel_rfl), rfl, (by kernel_rfl), trivial⟩ (sac_p (e_len (SE.sp (e_get (fun _ => h.T0) (sp_var (i := 0) rfl (by kernel_rfl)) (SE.sp se_int))) h.b_len) (sac_p (e_get (fun _ => h.T0) (SE.sp (e_get (fun _ => h.T0) (sp_var (i := 0) rfl (by kernel_rfl)) (SE.sp se_int))) (sp_var (i := 1) rfl (by kernel_rfl))) sac_nil)) rfl (by decide) (hw := (fun X hX => swp_run hX rfl (by intro _; rfl)))) (ss_cons (ss_set (i := 2) rfl (by kernel_rfl) (e_add (SE.sp (SF.se (sf_lc (own := [(("work" : Str), 5)]) ⟨(show BlkOk N__law_taste _ _ _ from ⟨rfl, (by decide +kernel), (by decide +kernel), (by decide +kernel), (by decide +kernel)⟩), (si_range1 rfl (by kernel_rfl) h.b_range (SE.sp (e_len (SE.sp (e_get (fun _ => h.T0) (sp_var (i := 0) rfl (by kernel_rfl)) (SE.sp se_int))) h.b_len))), ⟨_, (by decide), (sg_name (i := 5) rfl (by kernel_rfl))⟩, (sts_one (t_cmp (c_notIn (fun _ => h.T0)) (sp_var (i := 5) rfl (by kernel_rfl)) (sp_var (i := 4) rfl (by kernel_rfl)))), (e_add (sp_var (i := 3) rfl (by kernel_rfl)) (sp_var (i := 5) rfl (by kernel_rfl)))⟩))) (SE.sp (SF.se (sf_lc (own := [(("other" : Str), 6)]) ⟨(show BlkOk N__law_taste _ _ _ from ⟨rfl, (by decide +kernel), (by decide +kernel), (by decide +kernel), (by decide +kernel)⟩), (si_range1 rfl (by kernel_rfl) h.b_range (sp_var (i := 3) rfl (by kernel_rfl))), ⟨_, (by decide), (sg_name (i := 6) rfl (by kernel_rfl))⟩, (sts_one (t_cmp c_ne (sp_var (i := 6) rfl (by kernel_rfl)) (sp_var (i := 1) rfl (by kernel_rfl)))), (se_var (i := 6) rfl (by kernel_rfl))⟩))))) (ss_one (ss_ret (e_tuple (SE.sp (e_add (SE.sp (e_add (SE.sp (SF.se (sf_lst (sa_cons (se_var (i := 1) rfl (by kernel_rfl)) sa_nil) (len_cons len_nil)))) (SE.sp (SF.se (sf_lc (own := [(("work" : Str), 5)]) ⟨(show BlkOk N__law_taste _ _ _ from ⟨rfl, (by decide +kernel), (by decide +kernel), (by decide +kernel), (by decide +kernel)⟩), (si_seq (e_rev (sp_var (i := 4) rfl (by kernel_rfl)))), ⟨_, (by decide), (sg_name (i := 5) rfl (by kernel_rfl))⟩, sts_nil, (e_add (sp_var (i := 3) rfl (by kernel_rfl)) (sp_var (i := 5) rfl (by kernel_rfl)))⟩))))) (sp_var (i := 2) rfl (by kernel_rfl)))) h.b_tuple)))))
theorem ok__law_taste {E : En} (h : Fc E)  : FnS E 1 "_law_taste" 2 F__law_taste := by
  obtain ⟨f, fd, FD, hm⟩ := h.d__law_taste
  exact fn_def (ps := ["book", "person"]) FD ⟨rfl, rfl, rfl, by decide +kernel, rfl, by decide +kernel, by decide +kernel⟩ hm rfl (fun _ _ _ _ _ _ us hl => match us, hl with | [_, _], _ => rfl) (b__law_taste h )
def N_are_hours : List Str := ["value", "own"]
def B_are_hours : SSem := (seqS (ifS (orT (notT (testE (un (fun d => (isiD "tuple" d).map .bl) (peekE 0)))) (notT (testE (chainE leD leD (cE (.int 1)) (callE lenD (consA (peekE 0) nilA)) (cE (.int 4)))))) (retS (cE (.bl false))) nilS) (retS (callE allD (consA (compE (seqI (varE 0)) (nameG 1) yesT (andE (callF F_is_whole (consA (varE 1) nilA)) (chainE leD leD (cE (.int 1)) (peekE 1) (cE (.int 1000000000)))) [1]) nilA))))
def F_are_hours : FSem := bodyF N_are_hours B_are_hours
theorem b_are_hours {E : En} (h : Fc E) (c_is_whole : FnS E 1 "is_whole" 1 F_is_whole) : SSs ⟨E, N_are_hours, 1⟩ (defScope (Hd.top 15)) (defBody (Hd.top 15)) B_are_hours :=
  (ss_cons (ss_if (SW.st (sw_or (st_not (st_val (e_isi (sp_var (i := 0) rfl (by kernel_rfl)) h.b_isinstance h.b_tuple (by decide +kernel)))) (sw_or1 (st_not (t_chain c_le c_le (SE.sp se_int) (SE.sp (e_len (sp_var (i := 0) rfl (by kernel_rfl)) h.b_len)) (SE.sp (se_gint (by kernel_rfl) h.MOST_PERSONS))))))) (ss_one (ss_ret se_bl)) ss_nil) (ss_one (ss_ret (e_all (SE.sp (SF.se (sf_lc (own := [(("own" : Str), 1)]) ⟨(show BlkOk N_are_hours _ _ _ from ⟨rfl, (by decide +kernel), (by decide +kernel), (by decide +kernel), (by decide +kernel)⟩), (si_seq (se_var (i := 0) rfl (by kernel_rfl))), ⟨_, (by decide), (sg_name (i := 1) rfl (by kernel_rfl))⟩, sts_nil, (se_and (se_callF c_is_whole (show 1 ≤ 1 by decide) (sa_cons (se_var (i := 1) rfl (by kernel_rfl)) sa_nil) (len_cons len_nil) (by kernel_rfl)) (se_one (e_chain c_le c_le (SE.sp se_int) (sp_var (i := 1) rfl (by kernel_rfl)) (SE.sp (se_gint (by kernel_rfl) h.MOST_HOURS)))))⟩))) h.b_all))))
theorem ok_are_hours {E : En} (h : Fc E) (c_is_whole : FnS E 1 "is_whole" 1 F_is_whole) : FnS E 2 "are_hours" 1 F_are_hours := by
  obtain ⟨f, fd, FD, hm⟩ := h.d_are_hours
  exact fn_def (ps := ["value"]) FD ⟨rfl, rfl, rfl, by decide +kernel, rfl, by decide +kernel, by decide +kernel⟩ hm rfl (fun _ _ _ _ _ _ us hl => match us, hl with | [_], _ => rfl) (b_are_hours h c_is_whole)
def N_are_uses : List Str := ["value", "many", "own"]
def B_are_uses : SSem := (seqS (ifS (orT (notT (testE (un (fun d => (isiD "tuple" d).map .bl) (peekE 0)))) (testE (bin neD (callE lenD (consA (peekE 0) nilA)) (peekE 1)))) (retS (cE (.bl false))) nilS) (retS (andE (callE allD (consA (compE (seqI (varE 0)) (nameG 2) yesT (andE (callF F_is_whole (consA (varE 2) nilA)) (chainE leD leD (cE (.int 0)) (peekE 2) (cE (.int 1000000)))) [2]) nilA)) (bin gtD (callE sumAD (consA (peekE 0) nilA)) (cE (.int 0))))))
def F_are_uses : FSem := bodyF N_are_uses B_are_uses
theorem b_are_uses {E : En} (h : Fc E) (c_is_whole : FnS E 1 "is_whole" 1 F_is_whole) : SSs ⟨E, N_are_uses, 1⟩ (defScope (Hd.top 16)) (defBody (Hd.top 16)) B_are_uses :=
  (ss_cons (ss_if (SW.st (sw_or (st_not (st_val (e_isi (sp_var (i := 0) rfl (by kernel_rfl)) h.b_isinstance h.b_tuple (by decide +kernel)))) (sw_or1 (t_cmp c_ne (SE.sp (e_len (sp_var (i := 0) rfl (by kernel_rfl)) h.b_len)) (sp_var (i := 1) rfl (by kernel_rfl)))))) (ss_one (ss_ret se_bl)) ss_nil) (ss_one (ss_ret (se_and (e_all (SE.sp (SF.se (sf_lc (own := [(("own" : Str), 2)]) ⟨(show BlkOk N_are_uses _ _ _ from ⟨rfl, (by decide +kernel), (by decide +kernel), (by decide +kernel), (by decide +kernel)⟩), (si_seq (se_var (i := 0) rfl (by kernel_rfl))), ⟨_, (by decide), (sg_name (i := 2) rfl (by kernel_rfl))⟩, sts_nil, (se_and (se_callF c_is_whole (show 1 ≤ 1 by decide) (sa_cons (se_var (i := 2) rfl (by kernel_rfl)) sa_nil) (len_cons len_nil) (by kernel_rfl)) (se_one (e_chain c_le c_le (SE.sp se_int) (sp_var (i := 2) rfl (by kernel_rfl)) (SE.sp (se_gint (by kernel_rfl) h.MOST_USE)))))⟩))) h.b_all) (se_one (e_cmp c_gt (SE.sp (e_sum (sp_var (i := 0) rfl (by kernel_rfl)) h.b_sum)) (SE.sp se_int)))))))
theorem ok_are_uses {E : En} (h : Fc E) (c_is_whole : FnS E 1 "is_whole" 1 F_is_whole) : FnS E 2 "are_uses" 2 F_are_uses := by
  obtain ⟨f, fd, FD, hm⟩ := h.d_are_uses
  exact fn_def (ps := ["value", "many"]) FD ⟨rfl, rfl, rfl, by decide +kernel, rfl, by decide +kernel, by decide +kernel⟩ hm rfl (fun _ _ _ _ _ _ us hl => match us, hl with | [_, _], _ => rfl) (b_are_uses h c_is_whole)
def N_are_all : List Str := ["value", "numbers", "own"]
def B_are_all : SSem := (seqS (ifS (orT (notT (testE (un (fun d => (isiD "tuple" d).map .bl) (peekE 0)))) (notT (testE (callE allD (consA (compE (seqI (varE 0)) (nameG 2) yesT (callF F_is_whole (consA (varE 2) nilA)) [2]) nilA))))) (retS (cE (.bl false))) nilS) (retS (bin eqD (callE sortedAD (consA (peekE 0) nilA)) (callE listAD (consA (peekE 1) nilA)))))
def F_are_all : FSem := bodyF N_are_all B_are_all
theorem b_are_all {E : En} (h : Fc E) (c_is_whole : FnS E 1 "is_whole" 1 F_is_whole) : SSs ⟨E, N_are_all, 1⟩ (defScope (Hd.top 17)) (defBody (Hd.top 17)) B_are_all :=
  (ss_cons (ss_if (SW.st (sw_or (st_not (st_val (e_isi (sp_var (i := 0) rfl (by kernel_rfl)) h.b_isinstance h.b_tuple (by decide +kernel)))) (sw_or1 (st_not (st_val (e_all (SE.sp (SF.se (sf_lc (own := [(("own" : Str), 2)]) ⟨(show BlkOk N_are_all _ _ _ from ⟨rfl, (by decide +kernel), (by decide +kernel), (by decide +kernel), (by decide +kernel)⟩), (si_seq (se_var (i := 0) rfl (by kernel_rfl))), ⟨_, (by decide), (sg_name (i := 2) rfl (by kernel_rfl))⟩, sts_nil, (se_callF c_is_whole (show 1 ≤ 1 by decide) (sa_cons (se_var (i := 2) rfl (by kernel_rfl)) sa_nil) (len_cons len_nil) (by kernel_rfl))⟩))) h.b_all)))))) (ss_one (ss_ret se_bl)) ss_nil) (ss_one (ss_ret (e_cmp c_eq (SE.sp (SF.se (f_sorted (sp_var (i := 0) rfl (by kernel_rfl)) h.b_sorted))) (SE.sp (SF.se (f_list (sp_var (i := 1) rfl (by kernel_rfl)) h.b_list)))))))
theorem ok_are_all {E : En} (h : Fc E) (c_is_whole : FnS E 1 "is_whole" 1 F_is_whole) : FnS E 2 "are_all" 2 F_are_all := by
  obtain ⟨f, fd, FD, hm⟩ := h.d_are_all
  exact fn_def (ps := ["value", "numbers"]) FD ⟨rfl, rfl, rfl, by decide +kernel, rfl, by decide +kernel, by decide +kernel⟩ hm rfl (fun _ _ _ _ _ _ us hl => match us, hl with | [_, _], _ => rfl) (b_are_all h c_is_whole)
def N_is_below : List Str := ["value", "many"]
def B_is_below : SSem := (retS (andE (callF F_is_whole (consA (varE 0) nilA)) (chainE leD ltD (cE (.int 0)) (peekE 0) (peekE 1))))
def F_is_below : FSem := bodyF N_is_below B_is_below
theorem b_is_below {E : En} (h : Fc E) (c_is_whole : FnS E 1 "is_whole" 1 F_is_whole) : SSs ⟨E, N_is_below, 1⟩ (defScope (Hd.top 21)) (defBody (Hd.top 21)) B_is_below :=
  (ss_one (ss_ret (se_and (se_callF c_is_whole (show 1 ≤ 1 by decide) (sa_cons (se_var (i := 0) rfl (by kernel_rfl)) sa_nil) (len_cons len_nil) (by kernel_rfl)) (se_one (e_chain c_le c_lt (SE.sp se_int) (sp_var (i := 0) rfl (by kernel_rfl)) (sp_var (i := 1) rfl (by kernel_rfl)))))))
theorem ok_is_below {E : En} (h : Fc E) (c_is_whole : FnS E 1 "is_whole" 1 F_is_whole) : FnS E 2 "is_below" 2 F_is_below := by
  obtain ⟨f, fd, FD, hm⟩ := h.d_is_below
  exact fn_def (ps := ["value", "many"]) FD ⟨rfl, rfl, rfl, by decide +kernel, rfl, by decide +kernel, by decide +kernel⟩ hm rfl (fun _ _ _ _ _ _ us hl => match us, hl with | [_, _], _ => rfl) (b_is_below h c_is_whole)
def N_tastes_in : List Str := ["book", "found", "person", "place", "column"]
def B_tastes_in : SSem := (seqS (setOS 1 (lstE nilA)) (seqS (forS (range1I (callE lenD (consA (bin (getAD true) (peekE 0) (cE (.int 1))) nilA))) (nameG 2) (appS 1 (dcE false (enumI (callF F_taste_in (consA (varE 0) (consA (varE 2) nilA)))) (tupG (consG (nameG 3) (consG (nameG 4) nilG))) yesT (varE 4) (varE 3) [3, 4]))) (retVS 1)))
def F_tastes_in : FSem := bodyF N_tastes_in B_tastes_in
theorem b_tastes_in {E : En} (h : Fc E) (c_taste_in : FnS E 1 "taste_in" 2 F_taste_in) : SSs ⟨E, N_tastes_in, 1⟩ (defScope (Hd.top 24)) (defBody (Hd.top 24)) B_tastes_in :=
  (ss_cons (ss_setO (i := 1) rfl (by kernel_rfl) (sf_lst sa_nil len_nil)) (ss_cons (ss_for (si_range1 rfl (by kernel_rfl) h.b_range (SE.sp (e_len (SE.sp (e_get (fun _ => h.T0) (sp_var (i := 0) rfl (by kernel_rfl)) (SE.sp se_int))) h.b_len))) (sg_name (i := 2) rfl (by kernel_rfl)) (ss_one (ss_append (i := 1) rfl (by kernel_rfl) (SF.se (sf_dc (own := [(("place" : Str), 3), (("column" : Str), 4)]) (fun e => nomatch e) ⟨(show BlkOk N_tastes_in _ _ _ from ⟨rfl, (by decide +kernel), (by decide +kernel), (by decide +kernel), (by decide +kernel)⟩), (si_enum rfl (by kernel_rfl) h.b_enumerate (se_callF c_taste_in (show 1 ≤ 1 by decide) (sa_cons (se_var (i := 0) rfl (by kernel_rfl)) (sa_cons (se_var (i := 2) rfl (by kernel_rfl)) sa_nil)) (len_cons (len_cons len_nil)) (by kernel_rfl))), ⟨_, (by decide), (sg_tup (sgs_cons (sg_name (i := 3) rfl (by kernel_rfl)) (sgs_cons (sg_name (i := 4) rfl (by kernel_rfl)) sgs_nil)) (glen_cons (glen_cons glen_nil)))⟩, sts_nil, (se_var (i := 4) rfl (by kernel_rfl)), (se_var (i := 3) rfl (by kernel_rfl))⟩)) ⟨(by intro _; rfl), (by intro _; rfl), (by rfl), (by intro _; rfl), (by intro _; rfl)⟩))) (ss_one (ss_retV (i := 1) rfl (by kernel_rfl)))))
theorem ok_tastes_in {E : En} (h : Fc E) (c_taste_in : FnS E 1 "taste_in" 2 F_taste_in) : FnS E 2 "tastes_in" 1 F_tastes_in := by
  obtain ⟨f, fd, FD, hm⟩ := h.d_tastes_in
  exact fn_def (ps := ["book"]) FD ⟨rfl, rfl, rfl, by decide +kernel, rfl, by decide +kernel, by decide +kernel⟩ hm rfl (fun _ _ _ _ _ _ us hl => match us, hl with | [_], _ => rfl) (b_tastes_in h c_taste_in)
def N_columns_above : List Str := ["tastes", "lot", "least", "column", "places", "low"]
def B_columns_above : SSem := (seqS (setS 2 (callF F_least_places (consA (varE 0) (consA (varE 1) nilA)))) (retS (compE (seqI (callE sortedAD (consA (bin (getAD true) (peekE 0) (cE (.int 0))) nilA))) (nameG 3) (testE (callE allD (consA (compE (zip2I (varE 0) (varE 2)) (tupG (consG (nameG 4) (consG (nameG 5) nilG))) yesT (bin gtD (bin (getAD true) (peekE 4) (peekE 3)) (peekE 5)) [4, 5]) nilA))) (varE 3) [3])))
def F_columns_above : FSem := bodyF N_columns_above B_columns_above
theorem b_columns_above {E : En} (h : Fc E) (c_least_places : FnS E 1 "least_places" 2 F_least_places) : SSs ⟨E, N_columns_above, 1⟩ (defScope (Hd.top 28)) (defBody (Hd.top 28)) B_columns_above :=
  (ss_cons (ss_set (i := 2) rfl (by kernel_rfl) (se_callF c_least_places (show 1 ≤ 1 by decide) (sa_cons (se_var (i := 0) rfl (by kernel_rfl)) (sa_cons (se_var (i := 1) rfl (by kernel_rfl)) sa_nil)) (len_cons (len_cons len_nil)) (by kernel_rfl))) (ss_one (ss_ret (SF.se (sf_lc (own := [(("column" : Str), 3)]) ⟨(show BlkOk N_columns_above _ _ _ from ⟨rfl, (by decide +kernel), (by decide +kernel), (by decide +kernel), (by decide +kernel)⟩), (si_seq (SF.se (f_sorted (SE.sp (e_get (fun _ => h.T0) (sp_var (i := 0) rfl (by kernel_rfl)) (SE.sp se_int))) h.b_sorted))), ⟨_, (by decide), (sg_name (i := 3) rfl (by kernel_rfl))⟩, (sts_one (st_val (e_all (SE.sp (SF.se (sf_lc (own := [(("places" : Str), 4), (("low" : Str), 5)]) ⟨(show BlkOk N_columns_above _ _ _ from ⟨rfl, (by decide +kernel), (by decide +kernel), (by decide +kernel), (by decide +kernel)⟩), (si_zip2 rfl (by kernel_rfl) h.b_zip (se_var (i := 0) rfl (by kernel_rfl)) (se_var (i := 2) rfl (by kernel_rfl))), ⟨_, (by decide), (sg_tup (sgs_cons (sg_name (i := 4) rfl (by kernel_rfl)) (sgs_cons (sg_name (i := 5) rfl (by kernel_rfl)) sgs_nil)) (glen_cons (glen_cons glen_nil)))⟩, sts_nil, (e_cmp c_gt (SE.sp (e_get (fun _ => h.T0) (sp_var (i := 4) rfl (by kernel_rfl)) (sp_var (i := 3) rfl (by kernel_rfl)))) (sp_var (i := 5) rfl (by kernel_rfl)))⟩))) h.b_all))), (se_var (i := 3) rfl (by kernel_rfl))⟩)))))
theorem ok_columns_above {E : En} (h : Fc E) (c_least_places : FnS E 1 "least_places" 2 F_least_places) : FnS E 2 "columns_above" 2 F_columns_above := by
  obtain ⟨f, fd, FD, hm⟩ := h.d_columns_above
  exact fn_def (ps := ["tastes", "lot"]) FD ⟨rfl, rfl, rfl, by decide +kernel, rfl, by decide +kernel, by decide +kernel⟩ hm rfl (fun _ _ _ _ _ _ us hl => match us, hl with | [_, _], _ => rfl) (b_columns_above h c_least_places)
def N_is_lot_of : List Str := ["book", "value", "low", "high", "own", "one", "other"]
def B_is_lot_of : SSem := (seqS (ifS (orT (notT (testE (un (fun d => (isiD "tuple" d).map .bl) (peekE 1)))) (orT (notT (testE (chainE leD leD (peekE 2) (callE lenD (consA (peekE 1) nilA)) (peekE 3)))) (notT (testE (callE allD (consA (compE (seqI (varE 1)) (nameG 4) yesT (callF F_is_whole (consA (varE 4) nilA)) [4]) nilA)))))) (retS (cE (.bl false))) nilS) (seqS (ifS (notT (testE (callE allD (consA (compE (seqI (varE 1)) (nameG 4) yesT (chainE leD ltD (cE (.int 0)) (peekE 4) (callF F_columns_many (consA (varE 0) nilA))) [4]) nilA)))) (retS (cE (.bl false))) nilS) (retS (callE allD (consA (compE (zip2I (varE 1) (sliceE cutD (peekE 1) (someO (cE (.int 1))) noO)) (tupG (consG (nameG 5) (consG (nameG 6) nilG))) yesT (bin ltD (peekE 5) (peekE 6)) [5, 6]) nilA)))))
def F_is_lot_of : FSem := bodyF N_is_lot_of B_is_lot_of
theorem b_is_lot_of {E : En} (h : Fc E) (c_is_whole : FnS E 1 "is_whole" 1 F_is_whole) (c_columns_many : FnS E 1 "columns_many" 1 F_columns_many) : SSs ⟨E, N_is_lot_of, 1⟩ (defScope (Hd.top 29)) (defBody (Hd.top 29)) B_is_lot_of :=
  (ss_cons (ss_if (SW.st (sw_or (st_not (st_val (e_isi (sp_var (i := 1) rfl (by kernel_rfl)) h.b_isinstance h.b_tuple (by decide +kernel)))) (sw_or (st_not (t_chain c_le c_le (sp_var (i := 2) rfl (by kernel_rfl)) (SE.sp (e_len (sp_var (i := 1) rfl (by kernel_rfl)) h.b_len)) (sp_var (i := 3) rfl (by kernel_rfl)))) (sw_or1 (st_not (st_val (e_all (SE.sp (SF.se (sf_lc (own := [(("own" : Str), 4)]) ⟨(show BlkOk N_is_lot_of _ _ _ from ⟨rfl, (by decide +kernel), (by decide +kernel), (by decide +kernel), (by decide +kernel)⟩), (si_seq (se_var (i := 1) rfl (by kernel_rfl))), ⟨_, (by decide), (sg_name (i := 4) rfl (by kernel_rfl))⟩, sts_nil, (se_callF c_is_whole (show 1 ≤ 1 by decide) (sa_cons (se_var (i := 4) rfl (by kernel_rfl)) sa_nil) (len_cons len_nil) (by kernel_rfl))⟩))) h.b_all))))))) (ss_one (ss_ret se_bl)) ss_nil) (ss_cons (ss_if (st_not (st_val (e_all (SE.sp (SF.se (sf_lc (own := [(("own" : Str), 4)]) ⟨(show BlkOk N_is_lot_of _ _ _ from ⟨rfl, (by decide +kernel), (by decide +kernel), (by decide +kernel), (by decide +kernel)⟩), (si_seq (se_var (i := 1) rfl (by kernel_rfl))), ⟨_, (by decide), (sg_name (i := 4) rfl (by kernel_rfl))⟩, sts_nil, (e_chain c_le c_lt (SE.sp se_int) (sp_var (i := 4) rfl (by kernel_rfl)) (SE.sp (se_callF c_columns_many (show 1 ≤ 1 by decide) (sa_cons (se_var (i := 0) rfl (by kernel_rfl)) sa_nil) (len_cons len_nil) (by kernel_rfl))))⟩))) h.b_all))) (ss_one (ss_ret se_bl)) ss_nil) (ss_one (ss_ret (e_all (SE.sp (SF.se (sf_lc (own := [(("one" : Str), 5), (("other" : Str), 6)]) ⟨(show BlkOk N_is_lot_of _ _ _ from ⟨rfl, (by decide +kernel), (by decide +kernel), (by decide +kernel), (by decide +kernel)⟩), (si_zip2 rfl (by kernel_rfl) h.b_zip (se_var (i := 1) rfl (by kernel_rfl)) (se_slice (sp_var (i := 1) rfl (by kernel_rfl)) (so_some (SE.sp se_int)) so_none)), ⟨_, (by decide), (sg_tup (sgs_cons (sg_name (i := 5) rfl (by kernel_rfl)) (sgs_cons (sg_name (i := 6) rfl (by kernel_rfl)) sgs_nil)) (glen_cons (glen_cons glen_nil)))⟩, sts_nil, (e_cmp c_lt (sp_var (i := 5) rfl (by kernel_rfl)) (sp_var (i := 6) rfl (by kernel_rfl)))⟩))) h.b_all)))))
theorem ok_is_lot_of {E : En} (h : Fc E) (c_is_whole : FnS E 1 "is_whole" 1 F_is_whole) (c_columns_many : FnS E 1 "columns_many" 1 F_columns_many) : FnS E 2 "is_lot_of" 4 F_is_lot_of := by
  obtain ⟨f, fd, FD, hm⟩ := h.d_is_lot_of
  exact fn_def (ps := ["book", "value", "low", "high"]) FD ⟨rfl, rfl, rfl, by decide +kernel, rfl, by decide +kernel, by decide +kernel⟩ hm rfl (fun _ _ _ _ _ _ us hl => match us, hl with | [_, _, _, _], _ => rfl) (b_is_lot_of h c_is_whole c_columns_many)
def N__law_draw : List Str := ["state", "room", "found"]
def B__law_draw : SSem := (seqS (ifS (testE (bin eqD (drE 0 (fun st => st.rest)) (cE (.int 0)))) (drPutS 0 (fun st n => { st with rest := n }) (iteE (drNeT 0) (drPopE 0) (callF F__law_blended (consA (varE 0) nilA)))) nilS) (seqS (setS 2 (bin modD (callE intD (consA (drE 0 (fun st => st.rest)) nilA)) (peekE 1))) (seqS (drPutS 0 (fun st n => { st with rest := n }) (bin fdivD (drE 0 (fun st => st.rest)) (peekE 1))) (retVS 2))))
def F__law_draw : FSem := bodyF N__law_draw B__law_draw
theorem b__law_draw {E : En} (h : Fc E) (c__law_blended : FnS E 1 "_law_blended" 1 F__law_blended) : SSs ⟨E, N__law_draw, 1⟩ (defScope (Hd.top 54)) (defBody (Hd.top 54)) B__law_draw :=
  (ss_cons (ss_if (t_cmp c_eq (SE.sp (se_dr (i := 0) (get := fun st => st.rest) rfl (by kernel_rfl) (by intro _ _; rfl))) (SE.sp se_int)) (ss_one (ss_drPut (i := 0) (set := (fun st n => { st with rest := n })) rfl (by kernel_rfl) (se_ite (st_drNe (i := 0) rfl (by kernel_rfl)) (se_drPop (i := 0) rfl (by kernel_rfl) ⟨(by intro _; rfl), (by intro _; rfl), (by rfl), (by intro _; rfl), (by intro _; rfl)⟩) (se_callF c__law_blended (show 1 ≤ 1 by decide) (sa_cons (se_var (i := 0) rfl (by kernel_rfl)) sa_nil) (len_cons len_nil) (by kernel_rfl))) (by intro _ _ _; rfl) (by intro _ _; exact ⟨rfl, rfl⟩))) ss_nil) (ss_cons (ss_set (i := 2) rfl (by kernel_rfl) (e_mod (SE.sp (e_int (SE.sp (se_dr (i := 0) (get := fun st => st.rest) rfl (by kernel_rfl) (by intro _ _; rfl))) h.b_int)) (sp_var (i := 1) rfl (by kernel_rfl)))) (ss_cons (ss_drPut (i := 0) (set := (fun st n => { st with rest := n })) rfl (by kernel_rfl) (e_fdiv (SE.sp (se_dr (i := 0) (get := fun st => st.rest) rfl (by kernel_rfl) (by intro _ _; rfl))) (sp_var (i := 1) rfl (by kernel_rfl))) (by intro _ _ _; rfl) (by intro _ _; exact ⟨rfl, rfl⟩)) (ss_one (ss_retV (i := 2) rfl (by kernel_rfl))))))
theorem ok__law_draw {E : En} (h : Fc E) (c__law_blended : FnS E 1 "_law_blended" 1 F__law_blended) : FnS E 2 "_law_draw" 2 F__law_draw := by
  obtain ⟨f, fd, FD, hm⟩ := h.d__law_draw
  exact fn_def (ps := ["state", "room"]) FD ⟨rfl, rfl, rfl, by decide +kernel, rfl, by decide +kernel, by decide +kernel⟩ hm rfl (fun _ _ _ _ _ _ us hl => match us, hl with | [_, _], _ => rfl) (b__law_draw h c__law_blended)
def N__law_tastes : List Str := ["book", "person", "place", "column"]
def B__law_tastes : SSem := (retS (compE (range1I (callE lenD (consA (bin (getAD true) (peekE 0) (cE (.int 1))) nilA))) (nameG 1) yesT (callE dictPD (consA (compE (enumI (callF F__law_taste (consA (varE 0) (consA (varE 1) nilA)))) (tupG (consG (nameG 2) (consG (nameG 3) nilG))) yesT (tupE 2 (consA (varE 3) (consA (varE 2) nilA))) [2, 3]) nilA)) [1]))
def F__law_tastes : FSem := bodyF N__law_tastes B__law_tastes
theorem b__law_tastes {E : En} (h : Fc E) (c__law_taste : FnS E 1 "_law_taste" 2 F__law_taste) : SSs ⟨E, N__law_tastes, 1⟩ (defScope (Hd.top 58)) (defBody (Hd.top 58)) B__law_tastes :=
  (ss_one (ss_ret (SF.se (sf_lc (own := [(("person" : Str), 1)]) ⟨(show BlkOk N__law_tastes _ _ _ from ⟨rfl, (by decide +kernel), (by decide +kernel), (by decide +kernel), (by decide +kernel)⟩), (si_range1 rfl (by kernel_rfl) h.b_range (SE.sp (e_len (SE.sp (e_get (fun _ => h.T0) (sp_var (i := 0) rfl (by kernel_rfl)) (SE.sp se_int))) h.b_len))), ⟨_, (by decide), (sg_name (i := 1) rfl (by kernel_rfl))⟩, sts_nil, (SF.se (f_dict (SE.sp (SF.se (sf_lc (own := [(("place" : Str), 2), (("column" : Str), 3)]) ⟨(show BlkOk N__law_tastes _ _ _ from ⟨rfl, (by decide +kernel), (by decide +kernel), (by decide +kernel), (by decide +kernel)⟩), (si_enum rfl (by kernel_rfl) h.b_enumerate (se_callF c__law_taste (show 1 ≤ 1 by decide) (sa_cons (se_var (i := 0) rfl (by kernel_rfl)) (sa_cons (se_var (i := 1) rfl (by kernel_rfl)) sa_nil)) (len_cons (len_cons len_nil)) (by kernel_rfl))), ⟨_, (by decide), (sg_tup (sgs_cons (sg_name (i := 2) rfl (by kernel_rfl)) (sgs_cons (sg_name (i := 3) rfl (by kernel_rfl)) sgs_nil)) (glen_cons (glen_cons glen_nil)))⟩, sts_nil, (se_tup (sa_cons (se_var (i := 3) rfl (by kernel_rfl)) (sa_cons (se_var (i := 2) rfl (by kernel_rfl)) sa_nil)) (len_cons (len_cons len_nil)))⟩))) h.b_dict))⟩))))
theorem ok__law_tastes {E : En} (h : Fc E) (c__law_taste : FnS E 1 "_law_taste" 2 F__law_taste) : FnS E 2 "_law_tastes" 1 F__law_tastes := by
  obtain ⟨f, fd, FD, hm⟩ := h.d__law_tastes
  exact fn_def (ps := ["book"]) FD ⟨rfl, rfl, rfl, by decide +kernel, rfl, by decide +kernel, by decide +kernel⟩ hm rfl (fun _ _ _ _ _ _ us hl => match us, hl with | [_], _ => rfl) (b__law_tastes h c__law_taste)
def N_is_book : List Str := ["value", "hours", "works", "likes", "own", "person"]
def B_is_book : SSem := (seqS (ifS (orT (notT (testE (un (fun d => (isiD "tuple" d).map .bl) (peekE 0)))) (orT (testE (bin neD (callE lenD (consA (peekE 0) nilA)) (cE (.int 4)))) (orT (notT (testE (un (fun d => (isiD "str" d).map .bl) (bin (getAD true) (peekE 0) (cE (.int 0)))))) (testE (bin neD (bin (getAD true) (peekE 0) (cE (.int 0))) (cE (.str "book"))))))) (retS (cE (.bl false))) nilS) (seqS (asgS (tupG (consG (nameG 1) (consG (nameG 2) (consG (nameG 3) nilG)))) (sliceE cutD (peekE 0) (someO (cE (.int 1))) noO)) (seqS (ifS (orT (notT (testE (callF F_are_hours (consA (varE 1) nilA)))) (orT (notT (testE (un (fun d => (isiD "tuple" d).map .bl) (peekE 2)))) (testE (bin gtD (callE lenD (consA (peekE 2) nilA)) (cE (.int 8)))))) (retS (cE (.bl false))) nilS) (seqS (ifS (notT (testE (callE allD (consA (compE (seqI (varE 2)) (nameG 4) yesT (callF F_are_uses (consA (varE 4) (consA (callE lenD (consA (peekE 1) nilA)) nilA))) [4]) nilA)))) (retS (cE (.bl false))) nilS) (seqS (ifS (orT (notT (testE (un (fun d => (isiD "tuple" d).map .bl) (peekE 3)))) (testE (bin neD (callE lenD (consA (peekE 3) nilA)) (callE lenD (consA (peekE 1) nilA))))) (retS (cE (.bl false))) nilS) (retS (callE allD (consA (compE (enumI (varE 3)) (tupG (consG (nameG 5) (consG (nameG 4) nilG))) yesT (callF F_are_all (consA (varE 4) (consA (callF F_used_by (consA (varE 2) (consA (varE 5) nilA))) nilA))) [5, 4]) nilA))))))))
def F_is_book : FSem := bodyF N_is_book B_is_book
theorem b_is_book {E : En} (h : Fc E) (c_are_hours : FnS E 2 "are_hours" 1 F_are_hours) (c_are_all : FnS E 2 "are_all" 2 F_are_all) (c_are_uses : FnS E 2 "are_uses" 2 F_are_uses) (c_used_by : FnS E 1 "used_by" 2 F_used_by) : SSs ⟨E, N_is_book, 2⟩ (defScope (Hd.top 19)) (defBody (Hd.top 19)) B_is_book :=
  (ss_cons (ss_if (SW.st (sw_or (st_not (st_val (e_isi (sp_var (i := 0) rfl (by kernel_rfl)) h.b_isinstance h.b_tuple (by decide +kernel)))) (sw_or (t_cmp c_ne (SE.sp (e_len (sp_var (i := 0) rfl (by kernel_rfl)) h.b_len)) (SE.sp se_int)) (sw_or (st_not (st_val (e_isi (SE.sp (e_get (fun _ => h.T0) (sp_var (i := 0) rfl (by kernel_rfl)) (SE.sp se_int))) h.b_isinstance h.b_str (by decide +kernel)))) (sw_or1 (t_cmp c_ne (SE.sp (e_get (fun _ => h.T0) (sp_var (i := 0) rfl (by kernel_rfl)) (SE.sp se_int))) (SE.sp se_str))))))) (ss_one (ss_ret se_bl)) ss_nil) (ss_cons (ss_asg (sg_tup (sgs_cons (sg_name (i := 1) rfl (by kernel_rfl)) (sgs_cons (sg_name (i := 2) rfl (by kernel_rfl)) (sgs_cons (sg_name (i := 3) rfl (by kernel_rfl)) sgs_nil))) (glen_cons (glen_cons (glen_cons glen_nil)))) (se_slice (sp_var (i := 0) rfl (by kernel_rfl)) (so_some (SE.sp se_int)) so_none)) (ss_cons (ss_if (SW.st (sw_or (st_not (st_val (se_callF c_are_hours (show 2 ≤ 2 by decide) (sa_cons (se_var (i := 1) rfl (by kernel_rfl)) sa_nil) (len_cons len_nil) (by kernel_rfl)))) (sw_or (st_not (st_val (e_isi (sp_var (i := 2) rfl (by kernel_rfl)) h.b_isinstance h.b_tuple (by decide +kernel)))) (sw_or1 (t_cmp c_gt (SE.sp (e_len (sp_var (i := 2) rfl (by kernel_rfl)) h.b_len)) (SE.sp (se_gint (by kernel_rfl) h.MOST_WORKS))))))) (ss_one (ss_ret se_bl)) ss_nil) (ss_cons (ss_if (st_not (st_val (e_all (SE.sp (SF.se (sf_lc (own := [(("own" : Str), 4)]) ⟨(show BlkOk N_is_book _ _ _ from ⟨rfl, (by decide +kernel), (by decide +kernel), (by decide +kernel), (by decide +kernel)⟩), (si_seq (se_var (i := 2) rfl (by kernel_rfl))), ⟨_, (by decide), (sg_name (i := 4) rfl (by kernel_rfl))⟩, sts_nil, (se_callF c_are_uses (show 2 ≤ 2 by decide) (sa_cons (se_var (i := 4) rfl (by kernel_rfl)) (sa_cons (e_len (sp_var (i := 1) rfl (by kernel_rfl)) h.b_len) sa_nil)) (len_cons (len_cons len_nil)) (by kernel_rfl))⟩))) h.b_all))) (ss_one (ss_ret se_bl)) ss_nil) (ss_cons (ss_if (SW.st (sw_or (st_not (st_val (e_isi (sp_var (i := 3) rfl (by kernel_rfl)) h.b_isinstance h.b_tuple (by decide +kernel)))) (sw_or1 (t_cmp c_ne (SE.sp (e_len (sp_var (i := 3) rfl (by kernel_rfl)) h.b_len)) (SE.sp (e_len (sp_var (i := 1) rfl (by kernel_rfl)) h.b_len)))))) (ss_one (ss_ret se_bl)) ss_nil) (ss_one (ss_ret (e_all (SE.sp (SF.se (sf_lc (own := [(("person" : Str), 5), (("own" : Str), 4)]) ⟨(show BlkOk N_is_book _ _ _ from ⟨rfl, (by decide +kernel), (by decide +kernel), (by decide +kernel), (by decide +kernel)⟩), (si_enum rfl (by kernel_rfl) h.b_enumerate (se_var (i := 3) rfl (by kernel_rfl))), ⟨_, (by decide), (sg_tup (sgs_cons (sg_name (i := 5) rfl (by kernel_rfl)) (sgs_cons (sg_name (i := 4) rfl (by kernel_rfl)) sgs_nil)) (glen_cons (glen_cons glen_nil)))⟩, sts_nil, (se_callF c_are_all (show 2 ≤ 2 by decide) (sa_cons (se_var (i := 4) rfl (by kernel_rfl)) (sa_cons (se_callF c_used_by (show 1 ≤ 2 by decide) (sa_cons (se_var (i := 2) rfl (by kernel_rfl)) (sa_cons (se_var (i := 5) rfl (by kernel_rfl)) sa_nil)) (len_cons (len_cons len_nil)) (by kernel_rfl)) sa_nil)) (len_cons (len_cons len_nil)) (by kernel_rfl))⟩))) h.b_all))))))))
theorem ok_is_book {E : En} (h : Fc E) (c_are_hours : FnS E 2 "are_hours" 1 F_are_hours) (c_are_all : FnS E 2 "are_all" 2 F_are_all) (c_are_uses : FnS E 2 "are_uses" 2 F_are_uses) (c_used_by : FnS E 1 "used_by" 2 F_used_by) : FnS E 3 "is_book" 1 F_is_book := by
  obtain ⟨f, fd, FD, hm⟩ := h.d_is_book
  exact fn_def (ps := ["value"]) FD ⟨rfl, rfl, rfl, by decide +kernel, rfl, by decide +kernel, by decide +kernel⟩ hm rfl (fun _ _ _ _ _ _ us hl => match us, hl with | [_], _ => rfl) (b_is_book h c_are_hours c_are_all c_are_uses c_used_by)
def N_need_column : List Str := ["book", "column"]
def B_need_column : SSem := (ifS (notT (testE (callF F_is_below (consA (varE 1) (consA (callF F_columns_many (consA (varE 0) nilA)) nilA))))) neverS nilS)
def F_need_column : FSem := bodyF N_need_column B_need_column
theorem b_need_column {E : En} (h : Fc E) (c_is_below : FnS E 2 "is_below" 2 F_is_below) (c_columns_many : FnS E 1 "columns_many" 1 F_columns_many) : SSs ⟨E, N_need_column, 2⟩ (defScope (Hd.top 22)) (defBody (Hd.top 22)) B_need_column :=
  (ss_one (ss_if (st_not (st_val (se_callF c_is_below (show 2 ≤ 2 by decide) (sa_cons (se_var (i := 1) rfl (by kernel_rfl)) (sa_cons (se_callF c_columns_many (show 1 ≤ 2 by decide) (sa_cons (se_var (i := 0) rfl (by kernel_rfl)) sa_nil) (len_cons len_nil) (by kernel_rfl)) sa_nil)) (len_cons (len_cons len_nil)) (by kernel_rfl)))) (ss_one ss_never) ss_nil))
theorem ok_need_column {E : En} (h : Fc E) (c_is_below : FnS E 2 "is_below" 2 F_is_below) (c_columns_many : FnS E 1 "columns_many" 1 F_columns_many) : FnS E 3 "need_column" 2 F_need_column := by
  obtain ⟨f, fd, FD, hm⟩ := h.d_need_column
  exact fn_def (ps := ["book", "column"]) FD ⟨rfl, rfl, rfl, by decide +kernel, rfl, by decide +kernel, by decide +kernel⟩ hm rfl (fun _ _ _ _ _ _ us hl => match us, hl with | [_, _], _ => rfl) (b_need_column h c_is_below c_columns_many)
def N_rooms_in : List Str := ["book", "tastes", "lots", "own"]
def B_rooms_in : SSem := (seqS (setS 1 (callF F_tastes_in (consA (varE 0) nilA))) (seqS (setS 2 (callF F_lots_in (consA (callF F_columns_many (consA (varE 0) nilA)) (consA (callF F_persons_many (consA (varE 0) nilA)) nilA)))) (retS (callE tupleD (consA (compE (seqI (varE 2)) (nameG 3) (testE (bin eqD (callF F_columns_above (consA (varE 1) (consA (varE 3) nilA))) (lstE nilA))) (varE 3) [3]) nilA)))))
def F_rooms_in : FSem := bodyF N_rooms_in B_rooms_in
theorem b_rooms_in {E : En} (h : Fc E) (c_tastes_in : FnS E 2 "tastes_in" 1 F_tastes_in) (c_lots_in : FnS E 1 "lots_in" 2 F_lots_in) (c_columns_many : FnS E 1 "columns_many" 1 F_columns_many) (c_persons_many : FnS E 1 "persons_many" 1 F_persons_many) (c_columns_above : FnS E 2 "columns_above" 2 F_columns_above) : SSs ⟨E, N_rooms_in, 2⟩ (defScope (Hd.top 31)) (defBody (Hd.top 31)) B_rooms_in :=
  (ss_cons (ss_set (i := 1) rfl (by kernel_rfl) (se_callF c_tastes_in (show 2 ≤ 2 by decide) (sa_cons (se_var (i := 0) rfl (by kernel_rfl)) sa_nil) (len_cons len_nil) (by kernel_rfl))) (ss_cons (ss_set (i := 2) rfl (by kernel_rfl) (se_callF c_lots_in (show 1 ≤ 2 by decide) (sa_cons (se_callF c_columns_many (show 1 ≤ 2 by decide) (sa_cons (se_var (i := 0) rfl (by kernel_rfl)) sa_nil) (len_cons len_nil) (by kernel_rfl)) (sa_cons (se_callF c_persons_many (show 1 ≤ 2 by decide) (sa_cons (se_var (i := 0) rfl (by kernel_rfl)) sa_nil) (len_cons len_nil) (by kernel_rfl)) sa_nil)) (len_cons (len_cons len_nil)) (by kernel_rfl))) (ss_one (ss_ret (e_tuple (SE.sp (SF.se (sf_lc (own := [(("own" : Str), 3)]) ⟨(show BlkOk N_rooms_in _ _ _ from ⟨rfl, (by decide +kernel), (by decide +kernel), (by decide +kernel), (by decide +kernel)⟩), (si_seq (se_var (i := 2) rfl (by kernel_rfl))), ⟨_, (by decide), (sg_name (i := 3) rfl (by kernel_rfl))⟩, (sts_one (t_cmp c_eq (SE.sp (se_callF c_columns_above (show 2 ≤ 2 by decide) (sa_cons (se_var (i := 1) rfl (by kernel_rfl)) (sa_cons (se_var (i := 3) rfl (by kernel_rfl)) sa_nil)) (len_cons (len_cons len_nil)) (by kernel_rfl))) (SE.sp (SF.se (sf_lst sa_nil len_nil))))), (se_var (i := 3) rfl (by kernel_rfl))⟩))) h.b_tuple)))))
theorem ok_rooms_in {E : En} (h : Fc E) (c_tastes_in : FnS E 2 "tastes_in" 1 F_tastes_in) (c_lots_in : FnS E 1 "lots_in" 2 F_lots_in) (c_columns_many : FnS E 1 "columns_many" 1 F_columns_many) (c_persons_many : FnS E 1 "persons_many" 1 F_persons_many) (c_columns_above : FnS E 2 "columns_above" 2 F_columns_above) : FnS E 3 "rooms_in" 1 F_rooms_in := by
  obtain ⟨f, fd, FD, hm⟩ := h.d_rooms_in
  exact fn_def (ps := ["book"]) FD ⟨rfl, rfl, rfl, by decide +kernel, rfl, by decide +kernel, by decide +kernel⟩ hm rfl (fun _ _ _ _ _ _ us hl => match us, hl with | [_], _ => rfl) (b_rooms_in h c_tastes_in c_lots_in c_columns_many c_persons_many c_columns_above)
def N_is_room_of : List Str := ["book", "value", "many"]
def B_is_room_of : SSem := (seqS (setS 2 (callF F_persons_many (consA (varE 0) nilA))) (retS (andE (callF F_is_lot_of (consA (varE 0) (consA (varE 1) (consA (varE 2) (consA (varE 2) nilA))))) (bin eqD (callF F_columns_above (consA (callF F_tastes_in (consA (varE 0) nilA)) (consA (varE 1) nilA))) (lstE nilA)))))
def F_is_room_of : FSem := bodyF N_is_room_of B_is_room_of
theorem b_is_room_of {E : En} (h : Fc E) (c_persons_many : FnS E 1 "persons_many" 1 F_persons_many) (c_is_lot_of : FnS E 2 "is_lot_of" 4 F_is_lot_of) (c_columns_above : FnS E 2 "columns_above" 2 F_columns_above) (c_tastes_in : FnS E 2 "tastes_in" 1 F_tastes_in) : SSs ⟨E, N_is_room_of, 2⟩ (defScope (Hd.top 33)) (defBody (Hd.top 33)) B_is_room_of :=
  (ss_cons (ss_set (i := 2) rfl (by kernel_rfl) (se_callF c_persons_many (show 1 ≤ 2 by decide) (sa_cons (se_var (i := 0) rfl (by kernel_rfl)) sa_nil) (len_cons len_nil) (by kernel_rfl))) (ss_one (ss_ret (se_and (se_callF c_is_lot_of (show 2 ≤ 2 by decide) (sa_cons (se_var (i := 0) rfl (by kernel_rfl)) (sa_cons (se_var (i := 1) rfl (by kernel_rfl)) (sa_cons (se_var (i := 2) rfl (by kernel_rfl)) (sa_cons (se_var (i := 2) rfl (by kernel_rfl)) sa_nil)))) (len_cons (len_cons (len_cons (len_cons len_nil)))) (by kernel_rfl)) (se_one (e_cmp c_eq (SE.sp (se_callF c_columns_above (show 2 ≤ 2 by decide) (sa_cons (se_callF c_tastes_in (show 2 ≤ 2 by decide) (sa_cons (se_var (i := 0) rfl (by kernel_rfl)) sa_nil) (len_cons len_nil) (by kernel_rfl)) (sa_cons (se_var (i := 1) rfl (by kernel_rfl)) sa_nil)) (len_cons (len_cons len_nil)) (by kernel_rfl))) (SE.sp (SF.se (sf_lst sa_nil len_nil)))))))))
theorem ok_is_room_of {E : En} (h : Fc E) (c_persons_many : FnS E 1 "persons_many" 1 F_persons_many) (c_is_lot_of : FnS E 2 "is_lot_of" 4 F_is_lot_of) (c_columns_above : FnS E 2 "columns_above" 2 F_columns_above) (c_tastes_in : FnS E 2 "tastes_in" 1 F_tastes_in) : FnS E 3 "is_room_of" 2 F_is_room_of := by
  obtain ⟨f, fd, FD, hm⟩ := h.d_is_room_of
  exact fn_def (ps := ["book", "value"]) FD ⟨rfl, rfl, rfl, by decide +kernel, rfl, by decide +kernel, by decide +kernel⟩ hm rfl (fun _ _ _ _ _ _ us hl => match us, hl with | [_, _], _ => rfl) (b_is_room_of h c_persons_many c_is_lot_of c_columns_above c_tastes_in)
def N_homes_in : List Str := ["book", "room", "places", "column"]
def B_homes_in : SSem := (retS (callE tupleD (consA (compE (seqI (callF F_tastes_in (consA (varE 0) nilA))) (nameG 2) yesT (bin (getAD true) (callE minAD (consA (compE (seqI (varE 1)) (nameG 3) yesT (tupE 2 (consA (bin (getAD true) (peekE 2) (peekE 3)) (consA (varE 3) nilA))) [3]) nilA)) (cE (.int 1))) [2]) nilA)))
def F_homes_in : FSem := bodyF N_homes_in B_homes_in
theorem b_homes_in {E : En} (h : Fc E) (c_tastes_in : FnS E 2 "tastes_in" 1 F_tastes_in) : SSs ⟨E, N_homes_in, 2⟩ (defScope (Hd.top 36)) (defBody (Hd.top 36)) B_homes_in :=
  (ss_one (ss_ret (e_tuple (SE.sp (SF.se (sf_lc (own := [(("places" : Str), 2)]) ⟨(show BlkOk N_homes_in _ _ _ from ⟨rfl, (by decide +kernel), (by decide +kernel), (by decide +kernel), (by decide +kernel)⟩), (si_seq (se_callF c_tastes_in (show 2 ≤ 2 by decide) (sa_cons (se_var (i := 0) rfl (by kernel_rfl)) sa_nil) (len_cons len_nil) (by kernel_rfl))), ⟨_, (by decide), (sg_name (i := 2) rfl (by kernel_rfl))⟩, sts_nil, (e_get (fun _ => h.T0) (SE.sp (e_min (SE.sp (SF.se (sf_lc (own := [(("column" : Str), 3)]) ⟨(show BlkOk N_homes_in _ _ _ from ⟨rfl, (by decide +kernel), (by decide +kernel), (by decide +kernel), (by decide +kernel)⟩), (si_seq (se_var (i := 1) rfl (by kernel_rfl))), ⟨_, (by decide), (sg_name (i := 3) rfl (by kernel_rfl))⟩, sts_nil, (se_tup (sa_cons (e_get (fun _ => h.T0) (sp_var (i := 2) rfl (by kernel_rfl)) (sp_var (i := 3) rfl (by kernel_rfl))) (sa_cons (se_var (i := 3) rfl (by kernel_rfl)) sa_nil)) (len_cons (len_cons len_nil)))⟩))) h.b_min)) (SE.sp se_int))⟩))) h.b_tuple)))
theorem ok_homes_in {E : En} (h : Fc E) (c_tastes_in : FnS E 2 "tastes_in" 1 F_tastes_in) : FnS E 3 "homes_in" 2 F_homes_in := by
  obtain ⟨f, fd, FD, hm⟩ := h.d_homes_in
  exact fn_def (ps := ["book", "room"]) FD ⟨rfl, rfl, rfl, by decide +kernel, rfl, by decide +kernel, by decide +kernel⟩ hm rfl (fun _ _ _ _ _ _ us hl => match us, hl with | [_, _], _ => rfl) (b_homes_in h c_tastes_in)
def N_other_room : List Str := ["book", "room", "column", "own", "tastes", "rest"]
def B_other_room : SSem := (seqS (parS [4, 5] [(false, (callF F_tastes_in (consA (varE 0) nilA))), (false, (callF F_without (consA (varE 1) (consA (varE 2) nilA))))]) (seqS (forS (range1I (callF F_columns_many (consA (varE 0) nilA))) (nameG 3) (ifS (andT (testE (bin (notInAD true) (peekE 3) (peekE 1))) (testE (bin eqD (callF F_columns_above (consA (varE 4) (consA (bin addD (peekE 5) (tupE 1 (consA (varE 3) nilA))) nilA))) (lstE nilA)))) (retS (callE tupleD (consA (callE sortedAD (consA (bin addD (peekE 5) (tupE 1 (consA (varE 3) nilA))) nilA)) nilA))) nilS)) (retS (cE .non))))
def F_other_room : FSem := bodyF N_other_room B_other_room
theorem b_other_room {E : En} (h : Fc E) (c_tastes_in : FnS E 2 "tastes_in" 1 F_tastes_in) (c_without : FnS E 1 "without" 2 F_without) (c_columns_many : FnS E 1 "columns_many" 1 F_columns_many) (c_columns_above : FnS E 2 "columns_above" 2 F_columns_above) : SSs ⟨E, N_other_room, 2⟩ (defScope (Hd.top 43)) (defBody (Hd.top 43)) B_other_room :=
  (ss_cons (ss_par2 (i := 4) (j := 5) rfl rfl (by decide) (by kernel_rfl) (by kernel_rfl) (sac_p (se_callF c_tastes_in (show 2 ≤ 2 by decide) (sa_cons (se_var (i := 0) rfl (by kernel_rfl)) sa_nil) (len_cons len_nil) (by kernel_rfl)) (sac_p (se_callF c_without (show 1 ≤ 2 by decide) (sa_cons (se_var (i := 1) rfl (by kernel_rfl)) (sa_cons (se_var (i := 2) rfl (by kernel_rfl)) sa_nil)) (len_cons (len_cons len_nil)) (by kernel_rfl)) sac_nil)) rfl (fun X hX => swp_run hX rfl (by intro _; rfl))) (ss_cons (ss_for (si_range1 rfl (by kernel_rfl) h.b_range (SE.sp (se_callF c_columns_many (show 1 ≤ 2 by decide) (sa_cons (se_var (i := 0) rfl (by kernel_rfl)) sa_nil) (len_cons len_nil) (by kernel_rfl)))) (sg_name (i := 3) rfl (by kernel_rfl)) (ss_one (ss_if (SW.st (sw_and (t_cmp (c_notIn (fun _ => h.T0)) (sp_var (i := 3) rfl (by kernel_rfl)) (sp_var (i := 1) rfl (by kernel_rfl))) (sw_and1 (t_cmp c_eq (SE.sp (se_callF c_columns_above (show 2 ≤ 2 by decide) (sa_cons (se_var (i := 4) rfl (by kernel_rfl)) (sa_cons (e_add (sp_var (i := 5) rfl (by kernel_rfl)) (SE.sp (se_tup (sa_cons (se_var (i := 3) rfl (by kernel_rfl)) sa_nil) (len_cons len_nil)))) sa_nil)) (len_cons (len_cons len_nil)) (by kernel_rfl))) (SE.sp (SF.se (sf_lst sa_nil len_nil))))))) (ss_one (ss_ret (e_tuple (SE.sp (SF.se (f_sorted (SE.sp (e_add (sp_var (i := 5) rfl (by kernel_rfl)) (SE.sp (se_tup (sa_cons (se_var (i := 3) rfl (by kernel_rfl)) sa_nil) (len_cons len_nil))))) h.b_sorted))) h.b_tuple))) ss_nil))) (ss_one (ss_ret se_non))))
theorem ok_other_room {E : En} (h : Fc E) (c_tastes_in : FnS E 2 "tastes_in" 1 F_tastes_in) (c_without : FnS E 1 "without" 2 F_without) (c_columns_many : FnS E 1 "columns_many" 1 F_columns_many) (c_columns_above : FnS E 2 "columns_above" 2 F_columns_above) : FnS E 3 "other_room" 3 F_other_room := by
  obtain ⟨f, fd, FD, hm⟩ := h.d_other_room
  exact fn_def (ps := ["book", "room", "column"]) FD ⟨rfl, rfl, rfl, by decide +kernel, rfl, by decide +kernel, by decide +kernel⟩ hm rfl (fun _ _ _ _ _ _ us hl => match us, hl with | [_, _, _], _ => rfl) (b_other_room h c_tastes_in c_without c_columns_many c_columns_above)
def N__law_ln_chain : List Str := ["book", "tastes", "columns", "best", "own", "spot", "other"]
def B__law_ln_chain : SSem := (seqS (setS 1 (callF F__law_tastes (consA (varE 0) nilA))) (seqS (setS 2 (rangeLstE (range1I (bin addD (cE (.int 2)) (callE lenD (consA (bin (getAD true) (peekE 0) (cE (.int 2))) nilA)))))) (seqS (setS 3 (compE (seqI (varE 2)) (nameG 4) (testE (bin eqD (compE (seqI (varE 2)) (nameG 6) (andT (testE (bin gtD (bin (getAD true) (bin (getAD true) (peekE 1) (cE (.int 0))) (peekE 6)) (bin (getAD true) (bin (getAD true) (peekE 1) (cE (.int 0))) (peekE 4)))) (testE (bin gtD (bin (getAD true) (bin (getAD true) (peekE 1) (cE (.int 1))) (peekE 6)) (bin (getAD true) (bin (getAD true) (peekE 1) (cE (.int 1))) (peekE 4))))) (cE (.int 1)) [6]) (lstE nilA))) (varE 4) [4])) (retS (compE (seqI (callE sortedAD (consA (compE (seqI (varE 3)) (nameG 4) yesT (tupE 2 (consA (bin (getAD true) (bin (getAD true) (peekE 1) (cE (.int 0))) (peekE 4)) (consA (varE 4) nilA))) [4]) nilA))) (tupG (consG (nameG 5) (consG (nameG 4) nilG))) yesT (varE 4) [5, 4])))))
def F__law_ln_chain : FSem := bodyF N__law_ln_chain B__law_ln_chain
theorem b__law_ln_chain {E : En} (h : Fc E) (c__law_tastes : FnS E 2 "_law_tastes" 1 F__law_tastes) : SSs ⟨E, N__law_ln_chain, 2⟩ (defScope (Hd.top 50)) (defBody (Hd.top 50)) B__law_ln_chain :=
  (ss_cons (ss_set (i := 1) rfl (by kernel_rfl) (se_callF c__law_tastes (show 2 ≤ 2 by decide) (sa_cons (se_var (i := 0) rfl (by kernel_rfl)) sa_nil) (len_cons len_nil) (by kernel_rfl))) (ss_cons (ss_set (i := 2) rfl (by kernel_rfl) (SF.se (sf_listRange1 rfl rfl (by kernel_rfl) h.b_list (by kernel_rfl) h.b_range (SE.sp (e_add (SE.sp se_int) (SE.sp (e_len (SE.sp (e_get (fun _ => h.T0) (sp_var (i := 0) rfl (by kernel_rfl)) (SE.sp se_int))) h.b_len))))))) (ss_cons (ss_setLcP (i := 3) (own := [(("own" : Str), 4)]) ⟨(show BlkOk N__law_ln_chain _ _ _ from ⟨rfl, (by decide +kernel), (by decide +kernel), (by decide +kernel), (by decide +kernel)⟩), (si_seq (se_var (i := 2) rfl (by kernel_rfl))), ⟨_, (by decide), (sg_name (i := 4) rfl (by kernel_rfl))⟩, (sts_one (t_cmp c_eq (SE.sp (SF.se (sf_lc (own := [(("other" : Str), 6)]) ⟨(show BlkOk N__law_ln_chain _ _ _ from ⟨rfl, (by decide +kernel), (by decide +kernel), (by decide +kernel), (by decide +kernel)⟩), (si_seq (se_var (i := 2) rfl (by kernel_rfl))), ⟨_, (by decide), (sg_name (i := 6) rfl (by kernel_rfl))⟩, (sts_one (SW.st (sw_and (t_cmp c_gt (SE.sp (e_get (fun _ => h.T0) (SE.sp (e_get (fun _ => h.T0) (sp_var (i := 1) rfl (by kernel_rfl)) (SE.sp se_int))) (sp_var (i := 6) rfl (by kernel_rfl)))) (SE.sp (e_get (fun _ => h.T0) (SE.sp (e_get (fun _ => h.T0) (sp_var (i := 1) rfl (by kernel_rfl)) (SE.sp se_int))) (sp_var (i := 4) rfl (by kernel_rfl))))) (sw_and1 (t_cmp c_gt (SE.sp (e_get (fun _ => h.T0) (SE.sp (e_get (fun _ => h.T0) (sp_var (i := 1) rfl (by kernel_rfl)) (SE.sp se_int))) (sp_var (i := 6) rfl (by kernel_rfl)))) (SE.sp (e_get (fun _ => h.T0) (SE.sp (e_get (fun _ => h.T0) (sp_var (i := 1) rfl (by kernel_rfl)) (SE.sp se_int))) (sp_var (i := 4) rfl (by kernel_rfl))))))))), se_int⟩))) (SE.sp (SF.se (sf_lst sa_nil len_nil))))), (se_var (i := 4) rfl (by kernel_rfl))⟩ rfl (by kernel_rfl) (by rfl) (by kernel_rfl)) (ss_one (ss_ret (SF.se (sf_lc (own := [(("spot" : Str), 5), (("own" : Str), 4)]) ⟨(show BlkOk N__law_ln_chain _ _ _ from ⟨rfl, (by decide +kernel), (by decide +kernel), (by decide +kernel), (by decide +kernel)⟩), (si_seq (SF.se (f_sorted (SE.sp (SF.se (sf_lc (own := [(("own" : Str), 4)]) ⟨(show BlkOk N__law_ln_chain _ _ _ from ⟨rfl, (by decide +kernel), (by decide +kernel), (by decide +kernel), (by decide +kernel)⟩), (si_seq (se_var (i := 3) rfl (by kernel_rfl))), ⟨_, (by decide), (sg_name (i := 4) rfl (by kernel_rfl))⟩, sts_nil, (se_tup (sa_cons (e_get (fun _ => h.T0) (SE.sp (e_get (fun _ => h.T0) (sp_var (i := 1) rfl (by kernel_rfl)) (SE.sp se_int))) (sp_var (i := 4) rfl (by kernel_rfl))) (sa_cons (se_var (i := 4) rfl (by kernel_rfl)) sa_nil)) (len_cons (len_cons len_nil)))⟩))) h.b_sorted))), ⟨_, (by decide), (sg_tup (sgs_cons (sg_name (i := 5) rfl (by kernel_rfl)) (sgs_cons (sg_name (i := 4) rfl (by kernel_rfl)) sgs_nil)) (glen_cons (glen_cons glen_nil)))⟩, sts_nil, (se_var (i := 4) rfl (by kernel_rfl))⟩)))))))
theorem ok__law_ln_chain {E : En} (h : Fc E) (c__law_tastes : FnS E 2 "_law_tastes" 1 F__law_tastes) : FnS E 3 "_law_ln_chain" 1 F__law_ln_chain := by
  obtain ⟨f, fd, FD, hm⟩ := h.d__law_ln_chain
  exact fn_def (ps := ["book"]) FD ⟨rfl, rfl, rfl, by decide +kernel, rfl, by decide +kernel, by decide +kernel⟩ hm rfl (fun _ _ _ _ _ _ us hl => match us, hl with | [_], _ => rfl) (b__law_ln_chain h c__law_tastes)
def N__law_shuffled : List Str := ["state", "some", "left", "found"]
def B__law_shuffled : SSem := (seqS (parS [2, 3] [(true, (callE listAD (consA (peekE 1) nilA))), (true, (lstE nilA))]) (seqS (whileS 100 (testE (bin neD (peekE 2) (lstE nilA))) (appPopS 3 2 (callF F__law_draw (consA (varE 0) (consA (callE lenD (consA (peekE 2) nilA)) nilA))))) (retVS 3)))
def F__law_shuffled : FSem := bodyF N__law_shuffled B__law_shuffled
theorem b__law_shuffled {E : En} (h : Fc E) (c__law_draw : FnS E 2 "_law_draw" 2 F__law_draw) : SSs ⟨E, N__law_shuffled, 2⟩ (defScope (Hd.top 55)) (defBody (Hd.top 55)) B__law_shuffled :=
  (ss_cons (ss_par2 (i := 2) (j := 3) rfl rfl (by decide) (by kernel_rfl) (by kernel_rfl) (sac_o (f_list (sp_var (i := 1) rfl (by kernel_rfl)) h.b_list) (sac_o (sf_lst sa_nil len_nil) sac_nil)) rfl (fun X hX => swp_run hX rfl (by intro _; rfl))) (ss_cons (ss_while (t_cmp c_ne (sp_var (i := 2) rfl (by kernel_rfl)) (SE.sp (SF.se (sf_lst sa_nil len_nil)))) (ss_one (ss_appPop (i := 2) (j := 3) rfl (by kernel_rfl) rfl (by kernel_rfl) (by decide) (se_callF c__law_draw (show 2 ≤ 2 by decide) (sa_cons (se_var (i := 0) rfl (by kernel_rfl)) (sa_cons (e_len (sp_var (i := 2) rfl (by kernel_rfl)) h.b_len) sa_nil)) (len_cons (len_cons len_nil)) (by kernel_rfl)) ⟨(by intro _; rfl), (by intro _; rfl), (by rfl), (by intro _; rfl), (by intro _; rfl)⟩ ⟨(by intro _; rfl), (by intro _; rfl), (by rfl), (by intro _; rfl), (by intro _; rfl)⟩))) (ss_one (ss_retV (i := 3) rfl (by kernel_rfl)))))
theorem ok__law_shuffled {E : En} (h : Fc E) (c__law_draw : FnS E 2 "_law_draw" 2 F__law_draw) : FnS E 3 "_law_shuffled" 2 F__law_shuffled := by
  obtain ⟨f, fd, FD, hm⟩ := h.d__law_shuffled
  exact fn_def (ps := ["state", "some"]) FD ⟨rfl, rfl, rfl, by decide +kernel, rfl, by decide +kernel, by decide +kernel⟩ hm rfl (fun _ _ _ _ _ _ us hl => match us, hl with | [_, _], _ => rfl) (b__law_shuffled h c__law_draw)
def N_need_book : List Str := ["book"]
def B_need_book : SSem := (ifS (notT (testE (callF F_is_book (consA (varE 0) nilA)))) neverS nilS)
def F_need_book : FSem := bodyF N_need_book B_need_book
theorem b_need_book {E : En} (h : Fc E) (c_is_book : FnS E 3 "is_book" 1 F_is_book) : SSs ⟨E, N_need_book, 3⟩ (defScope (Hd.top 20)) (defBody (Hd.top 20)) B_need_book :=
  (ss_one (ss_if (st_not (st_val (se_callF c_is_book (show 3 ≤ 3 by decide) (sa_cons (se_var (i := 0) rfl (by kernel_rfl)) sa_nil) (len_cons len_nil) (by kernel_rfl)))) (ss_one ss_never) ss_nil))
theorem ok_need_book {E : En} (h : Fc E) (c_is_book : FnS E 3 "is_book" 1 F_is_book) : FnS E 4 "need_book" 1 F_need_book := by
  obtain ⟨f, fd, FD, hm⟩ := h.d_need_book
  exact fn_def (ps := ["book"]) FD ⟨rfl, rfl, rfl, by decide +kernel, rfl, by decide +kernel, by decide +kernel⟩ hm rfl (fun _ _ _ _ _ _ us hl => match us, hl with | [_], _ => rfl) (b_need_book h c_is_book)
def N__law_likes : List Str := ["draws", "works", "many", "person", "work"]
def B__law_likes : SSem := (retS (callE tupleD (consA (compE (range1I (peekE 2)) (nameG 3) yesT (callE tupleD (consA (callF F__law_shuffled (consA (varE 0) (consA (compE (range1I (callE lenD (consA (peekE 1) nilA))) (nameG 4) (testE (bin gtD (bin (getAD true) (bin (getAD true) (peekE 1) (peekE 4)) (peekE 3)) (cE (.int 0)))) (varE 4) [4]) nilA))) nilA)) [3]) nilA)))
def F__law_likes : FSem := bodyF N__law_likes B__law_likes
theorem b__law_likes {E : En} (h : Fc E) (c__law_shuffled : FnS E 3 "_law_shuffled" 2 F__law_shuffled) : SSs ⟨E, N__law_likes, 3⟩ (defScope (Hd.top 56)) (defBody (Hd.top 56)) B__law_likes :=
  (ss_one (ss_ret (e_tuple (SE.sp (SF.se (sf_lc (own := [(("person" : Str), 3)]) ⟨(show BlkOk N__law_likes _ _ _ from ⟨rfl, (by decide +kernel), (by decide +kernel), (by decide +kernel), (by decide +kernel)⟩), (si_range1 rfl (by kernel_rfl) h.b_range (sp_var (i := 2) rfl (by kernel_rfl))), ⟨_, (by decide), (sg_name (i := 3) rfl (by kernel_rfl))⟩, sts_nil, (e_tuple (SE.sp (se_callF c__law_shuffled (show 3 ≤ 3 by decide) (sa_cons (se_var (i := 0) rfl (by kernel_rfl)) (sa_cons (SF.se (sf_lc (own := [(("work" : Str), 4)]) ⟨(show BlkOk N__law_likes _ _ _ from ⟨rfl, (by decide +kernel), (by decide +kernel), (by decide +kernel), (by decide +kernel)⟩), (si_range1 rfl (by kernel_rfl) h.b_range (SE.sp (e_len (sp_var (i := 1) rfl (by kernel_rfl)) h.b_len))), ⟨_, (by decide), (sg_name (i := 4) rfl (by kernel_rfl))⟩, (sts_one (t_cmp c_gt (SE.sp (e_get (fun _ => h.T0) (SE.sp (e_get (fun _ => h.T0) (sp_var (i := 1) rfl (by kernel_rfl)) (sp_var (i := 4) rfl (by kernel_rfl)))) (sp_var (i := 3) rfl (by kernel_rfl)))) (SE.sp se_int))), (se_var (i := 4) rfl (by kernel_rfl))⟩)) sa_nil)) (len_cons (len_cons len_nil)) (by kernel_rfl))) h.b_tuple)⟩))) h.b_tuple)))
theorem ok__law_likes {E : En} (h : Fc E) (c__law_shuffled : FnS E 3 "_law_shuffled" 2 F__law_shuffled) : FnS E 4 "_law_likes" 3 F__law_likes := by
  obtain ⟨f, fd, FD, hm⟩ := h.d__law_likes
  exact fn_def (ps := ["draws", "works", "many"]) FD ⟨rfl, rfl, rfl, by decide +kernel, rfl, by decide +kernel, by decide +kernel⟩ hm rfl (fun _ _ _ _ _ _ us hl => match us, hl with | [_, _, _], _ => rfl) (b__law_likes h c__law_shuffled)
def N_need_lot : List Str := ["book", "lot"]
def B_need_lot : SSem := (seqS (exprS (callF F_need_book (consA (varE 0) nilA))) (ifS (notT (testE (callF F_is_lot_of (consA (varE 0) (consA (varE 1) (consA (cE (.int 1)) (consA (callF F_persons_many (consA (varE 0) nilA)) nilA))))))) neverS nilS))
def F_need_lot : FSem := bodyF N_need_lot B_need_lot
theorem b_need_lot {E : En} (h : Fc E) (c_need_book : FnS E 4 "need_book" 1 F_need_book) (c_is_lot_of : FnS E 2 "is_lot_of" 4 F_is_lot_of) (c_persons_many : FnS E 1 "persons_many" 1 F_persons_many) : SSs ⟨E, N_need_lot, 4⟩ (defScope (Hd.top 30)) (defBody (Hd.top 30)) B_need_lot :=
  (ss_cons (ss_expr (se_callF c_need_book (show 4 ≤ 4 by decide) (sa_cons (se_var (i := 0) rfl (by kernel_rfl)) sa_nil) (len_cons len_nil) (by kernel_rfl))) (ss_one (ss_if (st_not (st_val (se_callF c_is_lot_of (show 2 ≤ 4 by decide) (sa_cons (se_var (i := 0) rfl (by kernel_rfl)) (sa_cons (se_var (i := 1) rfl (by kernel_rfl)) (sa_cons se_int (sa_cons (se_callF c_persons_many (show 1 ≤ 4 by decide) (sa_cons (se_var (i := 0) rfl (by kernel_rfl)) sa_nil) (len_cons len_nil) (by kernel_rfl)) sa_nil)))) (len_cons (len_cons (len_cons (len_cons len_nil)))) (by kernel_rfl)))) (ss_one ss_never) ss_nil)))
theorem ok_need_lot {E : En} (h : Fc E) (c_need_book : FnS E 4 "need_book" 1 F_need_book) (c_is_lot_of : FnS E 2 "is_lot_of" 4 F_is_lot_of) (c_persons_many : FnS E 1 "persons_many" 1 F_persons_many) : FnS E 5 "need_lot" 2 F_need_lot := by
  obtain ⟨f, fd, FD, hm⟩ := h.d_need_lot
  exact fn_def (ps := ["book", "lot"]) FD ⟨rfl, rfl, rfl, by decide +kernel, rfl, by decide +kernel, by decide +kernel⟩ hm rfl (fun _ _ _ _ _ _ us hl => match us, hl with | [_, _], _ => rfl) (b_need_lot h c_need_book c_is_lot_of c_persons_many)
def N_rooms_of : List Str := ["book"]
def B_rooms_of : SSem := (seqS (exprS (callF F_need_book (consA (varE 0) nilA))) (retS (callF F_rooms_in (consA (varE 0) nilA))))
def F_rooms_of : FSem := bodyF N_rooms_of B_rooms_of
theorem b_rooms_of {E : En} (h : Fc E) (c_need_book : FnS E 4 "need_book" 1 F_need_book) (c_rooms_in : FnS E 3 "rooms_in" 1 F_rooms_in) : SSs ⟨E, N_rooms_of, 4⟩ (defScope (Hd.top 32)) (defBody (Hd.top 32)) B_rooms_of :=
  (ss_cons (ss_expr (se_callF c_need_book (show 4 ≤ 4 by decide) (sa_cons (se_var (i := 0) rfl (by kernel_rfl)) sa_nil) (len_cons len_nil) (by kernel_rfl))) (ss_one (ss_ret (se_callF c_rooms_in (show 3 ≤ 4 by decide) (sa_cons (se_var (i := 0) rfl (by kernel_rfl)) sa_nil) (len_cons len_nil) (by kernel_rfl)))))
theorem ok_rooms_of {E : En} (h : Fc E) (c_need_book : FnS E 4 "need_book" 1 F_need_book) (c_rooms_in : FnS E 3 "rooms_in" 1 F_rooms_in) : FnS E 5 "rooms_of" 1 F_rooms_of := by
  obtain ⟨f, fd, FD, hm⟩ := h.d_rooms_of
  exact fn_def (ps := ["book"]) FD ⟨rfl, rfl, rfl, by decide +kernel, rfl, by decide +kernel, by decide +kernel⟩ hm rfl (fun _ _ _ _ _ _ us hl => match us, hl with | [_], _ => rfl) (b_rooms_of h c_need_book c_rooms_in)
def N_is_room : List Str := ["book", "value"]
def B_is_room : SSem := (seqS (exprS (callF F_need_book (consA (varE 0) nilA))) (retS (callF F_is_room_of (consA (varE 0) (consA (varE 1) nilA)))))
def F_is_room : FSem := bodyF N_is_room B_is_room
theorem b_is_room {E : En} (h : Fc E) (c_need_book : FnS E 4 "need_book" 1 F_need_book) (c_is_room_of : FnS E 3 "is_room_of" 2 F_is_room_of) : SSs ⟨E, N_is_room, 4⟩ (defScope (Hd.top 34)) (defBody (Hd.top 34)) B_is_room :=
  (ss_cons (ss_expr (se_callF c_need_book (show 4 ≤ 4 by decide) (sa_cons (se_var (i := 0) rfl (by kernel_rfl)) sa_nil) (len_cons len_nil) (by kernel_rfl))) (ss_one (ss_ret (se_callF c_is_room_of (show 3 ≤ 4 by decide) (sa_cons (se_var (i := 0) rfl (by kernel_rfl)) (sa_cons (se_var (i := 1) rfl (by kernel_rfl)) sa_nil)) (len_cons (len_cons len_nil)) (by kernel_rfl)))))
theorem ok_is_room {E : En} (h : Fc E) (c_need_book : FnS E 4 "need_book" 1 F_need_book) (c_is_room_of : FnS E 3 "is_room_of" 2 F_is_room_of) : FnS E 5 "is_room" 2 F_is_room := by
  obtain ⟨f, fd, FD, hm⟩ := h.d_is_room
  exact fn_def (ps := ["book", "value"]) FD ⟨rfl, rfl, rfl, by decide +kernel, rfl, by decide +kernel, by decide +kernel⟩ hm rfl (fun _ _ _ _ _ _ us hl => match us, hl with | [_, _], _ => rfl) (b_is_room h c_need_book c_is_room_of)
def N_need_room : List Str := ["book", "room"]
def B_need_room : SSem := (seqS (exprS (callF F_need_book (consA (varE 0) nilA))) (ifS (notT (testE (callF F_is_room_of (consA (varE 0) (consA (varE 1) nilA))))) neverS nilS))
def F_need_room : FSem := bodyF N_need_room B_need_room
theorem b_need_room {E : En} (h : Fc E) (c_need_book : FnS E 4 "need_book" 1 F_need_book) (c_is_room_of : FnS E 3 "is_room_of" 2 F_is_room_of) : SSs ⟨E, N_need_room, 4⟩ (defScope (Hd.top 35)) (defBody (Hd.top 35)) B_need_room :=
  (ss_cons (ss_expr (se_callF c_need_book (show 4 ≤ 4 by decide) (sa_cons (se_var (i := 0) rfl (by kernel_rfl)) sa_nil) (len_cons len_nil) (by kernel_rfl))) (ss_one (ss_if (st_not (st_val (se_callF c_is_room_of (show 3 ≤ 4 by decide) (sa_cons (se_var (i := 0) rfl (by kernel_rfl)) (sa_cons (se_var (i := 1) rfl (by kernel_rfl)) sa_nil)) (len_cons (len_cons len_nil)) (by kernel_rfl)))) (ss_one ss_never) ss_nil)))
theorem ok_need_room {E : En} (h : Fc E) (c_need_book : FnS E 4 "need_book" 1 F_need_book) (c_is_room_of : FnS E 3 "is_room_of" 2 F_is_room_of) : FnS E 5 "need_room" 2 F_need_room := by
  obtain ⟨f, fd, FD, hm⟩ := h.d_need_room
  exact fn_def (ps := ["book", "room"]) FD ⟨rfl, rfl, rfl, by decide +kernel, rfl, by decide +kernel, by decide +kernel⟩ hm rfl (fun _ _ _ _ _ _ us hl => match us, hl with | [_, _], _ => rfl) (b_need_room h c_need_book c_is_room_of)
def N_face_counts : List Str := ["book", "size", "tastes", "found", "own"]
def B_face_counts : SSem := (seqS (exprS (callF F_need_book (consA (varE 0) nilA))) (seqS (parS [2, 3] [(false, (callF F_tastes_in (consA (varE 0) nilA))), (true, (lstE nilA))]) (seqS (forS (range2I (cE (.int 1)) (bin addD (callF F_persons_many (consA (varE 0) nilA)) (cE (.int 1)))) (nameG 1) (appS 3 (callE lenD (consA (compE (seqI (callF F_lots_in (consA (callF F_columns_many (consA (varE 0) nilA)) (consA (varE 1) nilA)))) (nameG 4) (testE (bin eqD (callF F_columns_above (consA (varE 2) (consA (varE 4) nilA))) (lstE nilA))) (varE 4) [4]) nilA)))) (retS (callE tupleD (consA (peekE 3) nilA))))))
def F_face_counts : FSem := bodyF N_face_counts B_face_counts
theorem b_face_counts {E : En} (h : Fc E) (c_need_book : FnS E 4 "need_book" 1 F_need_book) (c_tastes_in : FnS E 2 "tastes_in" 1 F_tastes_in) (c_persons_many : FnS E 1 "persons_many" 1 F_persons_many) (c_lots_in : FnS E 1 "lots_in" 2 F_lots_in) (c_columns_many : FnS E 1 "columns_many" 1 F_columns_many) (c_columns_above : FnS E 2 "columns_above" 2 F_columns_above) : SSs ⟨E, N_face_counts, 4⟩ (defScope (Hd.top 40)) (defBody (Hd.top 40)) B_face_counts :=
  (ss_cons (ss_expr (se_callF c_need_book (show 4 ≤ 4 by decide) (sa_cons (se_var (i := 0) rfl (by kernel_rfl)) sa_nil) (len_cons len_nil) (by kernel_rfl))) (ss_cons (ss_parT (ts := [("tastes", _), ("found", _)]) (is := [2, 3]) rfl ⟨rfl, (by kernel_rfl), rfl, (by kernel_rfl), trivial⟩ (sac_p (se_callF c_tastes_in (show 2 ≤ 4 by decide) (sa_cons (se_var (i := 0) rfl (by kernel_rfl)) sa_nil) (len_cons len_nil) (by kernel_rfl)) (sac_o (sf_lst sa_nil len_nil) sac_nil)) rfl (by decide) (hw := (fun X hX => swp_run hX rfl (by intro _; rfl)))) (ss_cons (ss_for (si_range2 rfl (by kernel_rfl) h.b_range (SE.sp se_int) (SE.sp (e_add (SE.sp (se_callF c_persons_many (show 1 ≤ 4 by decide) (sa_cons (se_var (i := 0) rfl (by kernel_rfl)) sa_nil) (len_cons len_nil) (by kernel_rfl))) (SE.sp se_int)))) (sg_name (i := 1) rfl (by kernel_rfl)) (ss_one (ss_append (i := 3) rfl (by kernel_rfl) (e_len (SE.sp (SF.se (sf_lc (own := [(("own" : Str), 4)]) ⟨(show BlkOk N_face_counts _ _ _ from ⟨rfl, (by decide +kernel), (by decide +kernel), (by decide +kernel), (by decide +kernel)⟩), (si_seq (se_callF c_lots_in (show 1 ≤ 4 by decide) (sa_cons (se_callF c_columns_many (show 1 ≤ 4 by decide) (sa_cons (se_var (i := 0) rfl (by kernel_rfl)) sa_nil) (len_cons len_nil) (by kernel_rfl)) (sa_cons (se_var (i := 1) rfl (by kernel_rfl)) sa_nil)) (len_cons (len_cons len_nil)) (by kernel_rfl))), ⟨_, (by decide), (sg_name (i := 4) rfl (by kernel_rfl))⟩, (sts_one (t_cmp c_eq (SE.sp (se_callF c_columns_above (show 2 ≤ 4 by decide) (sa_cons (se_var (i := 2) rfl (by kernel_rfl)) (sa_cons (se_var (i := 4) rfl (by kernel_rfl)) sa_nil)) (len_cons (len_cons len_nil)) (by kernel_rfl))) (SE.sp (SF.se (sf_lst sa_nil len_nil))))), (se_var (i := 4) rfl (by kernel_rfl))⟩))) h.b_len) ⟨(by intro _; rfl), (by intro _; rfl), (by rfl), (by intro _; rfl), (by intro _; rfl)⟩))) (ss_one (ss_ret (e_tuple (sp_var (i := 3) rfl (by kernel_rfl)) h.b_tuple))))))
theorem ok_face_counts {E : En} (h : Fc E) (c_need_book : FnS E 4 "need_book" 1 F_need_book) (c_tastes_in : FnS E 2 "tastes_in" 1 F_tastes_in) (c_persons_many : FnS E 1 "persons_many" 1 F_persons_many) (c_lots_in : FnS E 1 "lots_in" 2 F_lots_in) (c_columns_many : FnS E 1 "columns_many" 1 F_columns_many) (c_columns_above : FnS E 2 "columns_above" 2 F_columns_above) : FnS E 5 "face_counts" 1 F_face_counts := by
  obtain ⟨f, fd, FD, hm⟩ := h.d_face_counts
  exact fn_def (ps := ["book"]) FD ⟨rfl, rfl, rfl, by decide +kernel, rfl, by decide +kernel, by decide +kernel⟩ hm rfl (fun _ _ _ _ _ _ us hl => match us, hl with | [_], _ => rfl) (b_face_counts h c_need_book c_tastes_in c_persons_many c_lots_in c_columns_many c_columns_above)
def N__law_ln_two : List Str := ["draws", "works", "some", "lap", "own"]
def B__law_ln_two : SSem := (seqS (setS 2 (compE (range1I (callF F__law_draw (consA (varE 0) (consA (bin addD (peekE 1) (cE (.int 1))) nilA)))) (nameG 3) yesT (callE tupleD (consA (compE (seqI (tupE 2 (consA (cE (.int 0)) (consA (cE (.int 1)) nilA)))) (nameG 4) yesT (callF F__law_draw (consA (varE 0) (consA (cE (.int 7)) nilA))) [4]) nilA)) [3])) (seqS (setS 2 (compE (seqI (varE 2)) (nameG 4) yesT (iteE (testE (bin neD (peekE 4) (tupE 2 (consA (cE (.int 0)) (consA (cE (.int 0)) nilA))))) (varE 4) (tupE 2 (consA (cE (.int 1)) (consA (cE (.int 1)) nilA)))) [4])) (retS (tupE 4 (consA (cE (.str "book")) (consA (tupE 2 (consA (bin addD (cE (.int 1)) (callF F__law_draw (consA (varE 0) (consA (cE (.int 30)) nilA)))) (consA (bin addD (cE (.int 1)) (callF F__law_draw (consA (varE 0) (consA (cE (.int 30)) nilA)))) nilA))) (consA (callE tupleD (consA (peekE 2) nilA)) (consA (callF F__law_likes (consA (varE 0) (consA (varE 2) (consA (cE (.int 2)) nilA)))) nilA))))))))
def F__law_ln_two : FSem := bodyF N__law_ln_two B__law_ln_two
theorem b__law_ln_two {E : En} (h : Fc E) (c__law_likes : FnS E 4 "_law_likes" 3 F__law_likes) (c__law_draw : FnS E 2 "_law_draw" 2 F__law_draw) : SSs ⟨E, N__law_ln_two, 4⟩ (defScope (Hd.top 51)) (defBody (Hd.top 51)) B__law_ln_two :=
  (ss_cons (ss_setLcP (i := 2) (own := [(("lap" : Str), 3)]) ⟨(show BlkOk N__law_ln_two _ _ _ from ⟨rfl, (by decide +kernel), (by decide +kernel), (by decide +kernel), (by decide +kernel)⟩), (si_range1 rfl (by kernel_rfl) h.b_range (SE.sp (se_callF c__law_draw (show 2 ≤ 4 by decide) (sa_cons (se_var (i := 0) rfl (by kernel_rfl)) (sa_cons (e_add (sp_var (i := 1) rfl (by kernel_rfl)) (SE.sp se_int)) sa_nil)) (len_cons (len_cons len_nil)) (by kernel_rfl)))), ⟨_, (by decide), (sg_name (i := 3) rfl (by kernel_rfl))⟩, sts_nil, (e_tuple (SE.sp (SF.se (sf_lc (own := [(("own" : Str), 4)]) ⟨(show BlkOk N__law_ln_two _ _ _ from ⟨rfl, (by decide +kernel), (by decide +kernel), (by decide +kernel), (by decide +kernel)⟩), (si_seq (se_tup (sa_cons se_int (sa_cons se_int sa_nil)) (len_cons (len_cons len_nil)))), ⟨_, (by decide), (sg_name (i := 4) rfl (by kernel_rfl))⟩, sts_nil, (se_callF c__law_draw (show 2 ≤ 4 by decide) (sa_cons (se_var (i := 0) rfl (by kernel_rfl)) (sa_cons se_int sa_nil)) (len_cons (len_cons len_nil)) (by kernel_rfl))⟩))) h.b_tuple)⟩ rfl (by kernel_rfl) (by rfl) (by kernel_rfl)) (ss_cons (ss_setLcP (i := 2) (own := [(("own" : Str), 4)]) ⟨(show BlkOk N__law_ln_two _ _ _ from ⟨rfl, (by decide +kernel), (by decide +kernel), (by decide +kernel), (by decide +kernel)⟩), (si_seq (se_var (i := 2) rfl (by kernel_rfl))), ⟨_, (by decide), (sg_name (i := 4) rfl (by kernel_rfl))⟩, sts_nil, (se_ite (t_cmp c_ne (sp_var (i := 4) rfl (by kernel_rfl)) (SE.sp (se_tup (sa_cons se_int (sa_cons se_int sa_nil)) (len_cons (len_cons len_nil))))) (se_var (i := 4) rfl (by kernel_rfl)) (se_tup (sa_cons se_int (sa_cons se_int sa_nil)) (len_cons (len_cons len_nil))))⟩ rfl (by kernel_rfl) (by rfl) (by kernel_rfl)) (ss_one (ss_ret (se_tup (sa_cons se_str (sa_cons (se_tup (sa_cons (e_add (SE.sp se_int) (SE.sp (se_callF c__law_draw (show 2 ≤ 4 by decide) (sa_cons (se_var (i := 0) rfl (by kernel_rfl)) (sa_cons se_int sa_nil)) (len_cons (len_cons len_nil)) (by kernel_rfl)))) (sa_cons (e_add (SE.sp se_int) (SE.sp (se_callF c__law_draw (show 2 ≤ 4 by decide) (sa_cons (se_var (i := 0) rfl (by kernel_rfl)) (sa_cons se_int sa_nil)) (len_cons (len_cons len_nil)) (by kernel_rfl)))) sa_nil)) (len_cons (len_cons len_nil))) (sa_cons (e_tuple (sp_var (i := 2) rfl (by kernel_rfl)) h.b_tuple) (sa_cons (se_callF c__law_likes (show 4 ≤ 4 by decide) (sa_cons (se_var (i := 0) rfl (by kernel_rfl)) (sa_cons (se_var (i := 2) rfl (by kernel_rfl)) (sa_cons se_int sa_nil))) (len_cons (len_cons (len_cons len_nil))) (by kernel_rfl)) sa_nil)))) (len_cons (len_cons (len_cons (len_cons len_nil)))))))))
theorem ok__law_ln_two {E : En} (h : Fc E) (c__law_likes : FnS E 4 "_law_likes" 3 F__law_likes) (c__law_draw : FnS E 2 "_law_draw" 2 F__law_draw) : FnS E 5 "_law_ln_two" 2 F__law_ln_two := by
  obtain ⟨f, fd, FD, hm⟩ := h.d__law_ln_two
  exact fn_def (ps := ["draws", "works"]) FD ⟨rfl, rfl, rfl, by decide +kernel, rfl, by decide +kernel, by decide +kernel⟩ hm rfl (fun _ _ _ _ _ _ us hl => match us, hl with | [_, _], _ => rfl) (b__law_ln_two h c__law_likes c__law_draw)
def N_homes_of : List Str := ["book", "room"]
def B_homes_of : SSem := (seqS (exprS (callF F_need_room (consA (varE 0) (consA (varE 1) nilA)))) (retS (callF F_homes_in (consA (varE 0) (consA (varE 1) nilA)))))
def F_homes_of : FSem := bodyF N_homes_of B_homes_of
theorem b_homes_of {E : En} (h : Fc E) (c_need_room : FnS E 5 "need_room" 2 F_need_room) (c_homes_in : FnS E 3 "homes_in" 2 F_homes_in) : SSs ⟨E, N_homes_of, 5⟩ (defScope (Hd.top 37)) (defBody (Hd.top 37)) B_homes_of :=
  (ss_cons (ss_expr (se_callF c_need_room (show 5 ≤ 5 by decide) (sa_cons (se_var (i := 0) rfl (by kernel_rfl)) (sa_cons (se_var (i := 1) rfl (by kernel_rfl)) sa_nil)) (len_cons (len_cons len_nil)) (by kernel_rfl))) (ss_one (ss_ret (se_callF c_homes_in (show 3 ≤ 5 by decide) (sa_cons (se_var (i := 0) rfl (by kernel_rfl)) (sa_cons (se_var (i := 1) rfl (by kernel_rfl)) sa_nil)) (len_cons (len_cons len_nil)) (by kernel_rfl)))))
theorem ok_homes_of {E : En} (h : Fc E) (c_need_room : FnS E 5 "need_room" 2 F_need_room) (c_homes_in : FnS E 3 "homes_in" 2 F_homes_in) : FnS E 6 "homes_of" 2 F_homes_of := by
  obtain ⟨f, fd, FD, hm⟩ := h.d_homes_of
  exact fn_def (ps := ["book", "room"]) FD ⟨rfl, rfl, rfl, by decide +kernel, rfl, by decide +kernel, by decide +kernel⟩ hm rfl (fun _ _ _ _ _ _ us hl => match us, hl with | [_, _], _ => rfl) (b_homes_of h c_need_room c_homes_in)
def N_above_all : List Str := ["book", "lot", "found"]
def B_above_all : SSem := (seqS (exprS (callF F_need_lot (consA (varE 0) (consA (varE 1) nilA)))) (seqS (setS 2 (callF F_columns_above (consA (callF F_tastes_in (consA (varE 0) nilA)) (consA (varE 1) nilA)))) (retS (iteE (testE (bin eqD (peekE 2) (lstE nilA))) (cE .non) (bin (getAD true) (peekE 2) (cE (.int 0)))))))
def F_above_all : FSem := bodyF N_above_all B_above_all
theorem b_above_all {E : En} (h : Fc E) (c_need_lot : FnS E 5 "need_lot" 2 F_need_lot) (c_columns_above : FnS E 2 "columns_above" 2 F_columns_above) (c_tastes_in : FnS E 2 "tastes_in" 1 F_tastes_in) : SSs ⟨E, N_above_all, 5⟩ (defScope (Hd.top 38)) (defBody (Hd.top 38)) B_above_all :=
  (ss_cons (ss_expr (se_callF c_need_lot (show 5 ≤ 5 by decide) (sa_cons (se_var (i := 0) rfl (by kernel_rfl)) (sa_cons (se_var (i := 1) rfl (by kernel_rfl)) sa_nil)) (len_cons (len_cons len_nil)) (by kernel_rfl))) (ss_cons (ss_set (i := 2) rfl (by kernel_rfl) (se_callF c_columns_above (show 2 ≤ 5 by decide) (sa_cons (se_callF c_tastes_in (show 2 ≤ 5 by decide) (sa_cons (se_var (i := 0) rfl (by kernel_rfl)) sa_nil) (len_cons len_nil) (by kernel_rfl)) (sa_cons (se_var (i := 1) rfl (by kernel_rfl)) sa_nil)) (len_cons (len_cons len_nil)) (by kernel_rfl))) (ss_one (ss_ret (se_ite (t_cmp c_eq (sp_var (i := 2) rfl (by kernel_rfl)) (SE.sp (SF.se (sf_lst sa_nil len_nil)))) se_non (e_get (fun _ => h.T0) (sp_var (i := 2) rfl (by kernel_rfl)) (SE.sp se_int)))))))
theorem ok_above_all {E : En} (h : Fc E) (c_need_lot : FnS E 5 "need_lot" 2 F_need_lot) (c_columns_above : FnS E 2 "columns_above" 2 F_columns_above) (c_tastes_in : FnS E 2 "tastes_in" 1 F_tastes_in) : FnS E 6 "above_all" 2 F_above_all := by
  obtain ⟨f, fd, FD, hm⟩ := h.d_above_all
  exact fn_def (ps := ["book", "lot"]) FD ⟨rfl, rfl, rfl, by decide +kernel, rfl, by decide +kernel, by decide +kernel⟩ hm rfl (fun _ _ _ _ _ _ us hl => match us, hl with | [_, _], _ => rfl) (b_above_all h c_need_lot c_columns_above c_tastes_in)
def N_room_beyond : List Str := ["book", "room", "column"]
def B_room_beyond : SSem := (seqS (exprS (callF F_need_room (consA (varE 0) (consA (varE 1) nilA)))) (seqS (exprS (callF F_need_column (consA (varE 0) (consA (varE 2) nilA)))) (seqS (ifS (testE (bin (notInAD true) (peekE 2) (peekE 1))) neverS nilS) (retS (callF F_other_room (consA (varE 0) (consA (varE 1) (consA (varE 2) nilA))))))))
def F_room_beyond : FSem := bodyF N_room_beyond B_room_beyond
theorem b_room_beyond {E : En} (h : Fc E) (c_need_room : FnS E 5 "need_room" 2 F_need_room) (c_need_column : FnS E 3 "need_column" 2 F_need_column) (c_other_room : FnS E 3 "other_room" 3 F_other_room) : SSs ⟨E, N_room_beyond, 5⟩ (defScope (Hd.top 44)) (defBody (Hd.top 44)) B_room_beyond :=
  (ss_cons (ss_expr (se_callF c_need_room (show 5 ≤ 5 by decide) (sa_cons (se_var (i := 0) rfl (by kernel_rfl)) (sa_cons (se_var (i := 1) rfl (by kernel_rfl)) sa_nil)) (len_cons (len_cons len_nil)) (by kernel_rfl))) (ss_cons (ss_expr (se_callF c_need_column (show 3 ≤ 5 by decide) (sa_cons (se_var (i := 0) rfl (by kernel_rfl)) (sa_cons (se_var (i := 2) rfl (by kernel_rfl)) sa_nil)) (len_cons (len_cons len_nil)) (by kernel_rfl))) (ss_cons (ss_if (t_cmp (c_notIn (fun _ => h.T0)) (sp_var (i := 2) rfl (by kernel_rfl)) (sp_var (i := 1) rfl (by kernel_rfl))) (ss_one ss_never) ss_nil) (ss_one (ss_ret (se_callF c_other_room (show 3 ≤ 5 by decide) (sa_cons (se_var (i := 0) rfl (by kernel_rfl)) (sa_cons (se_var (i := 1) rfl (by kernel_rfl)) (sa_cons (se_var (i := 2) rfl (by kernel_rfl)) sa_nil))) (len_cons (len_cons (len_cons len_nil))) (by kernel_rfl)))))))
theorem ok_room_beyond {E : En} (h : Fc E) (c_need_room : FnS E 5 "need_room" 2 F_need_room) (c_need_column : FnS E 3 "need_column" 2 F_need_column) (c_other_room : FnS E 3 "other_room" 3 F_other_room) : FnS E 6 "room_beyond" 3 F_room_beyond := by
  obtain ⟨f, fd, FD, hm⟩ := h.d_room_beyond
  exact fn_def (ps := ["book", "room", "column"]) FD ⟨rfl, rfl, rfl, by decide +kernel, rfl, by decide +kernel, by decide +kernel⟩ hm rfl (fun _ _ _ _ _ _ us hl => match us, hl with | [_, _, _], _ => rfl) (b_room_beyond h c_need_room c_need_column c_other_room)
def N_walls_of : List Str := ["book", "found", "room", "column", "rest"]
def B_walls_of : SSem := (seqS (setOS 1 (dnewE true)) (seqS (forS (seqI (callF F_rooms_of (consA (varE 0) nilA))) (nameG 2) (forS (seqI (varE 2)) (nameG 3) (seqS (setS 4 (callF F_without (consA (varE 2) (consA (varE 3) nilA)))) (dputS true 1 (varE 4) (bin addD (dgetDE true (peekE 1) (varE 4) (tupE 0 nilA)) (tupE 1 (consA (varE 2) nilA))))))) (retS (dcE true (seqI (callE sortedAD (consA (peekE 1) nilA))) (nameG 4) yesT (varE 4) (bin (getAD true) (peekE 1) (peekE 4)) [4]))))
def F_walls_of : FSem := bodyF N_walls_of B_walls_of
theorem b_walls_of {E : En} (h : Fc E) (c_rooms_of : FnS E 5 "rooms_of" 1 F_rooms_of) (c_without : FnS E 1 "without" 2 F_without) : SSs ⟨E, N_walls_of, 5⟩ (defScope (Hd.top 45)) (defBody (Hd.top 45)) B_walls_of :=
  (ss_cons (ss_setO (i := 1) rfl (by kernel_rfl) sf_dnewT) (ss_cons (ss_for (si_seq (se_callF c_rooms_of (show 5 ≤ 5 by decide) (sa_cons (se_var (i := 0) rfl (by kernel_rfl)) sa_nil) (len_cons len_nil) (by kernel_rfl))) (sg_name (i := 2) rfl (by kernel_rfl)) (ss_one (ss_for (si_seq (se_var (i := 2) rfl (by kernel_rfl))) (sg_name (i := 3) rfl (by kernel_rfl)) (ss_cons (ss_set (i := 4) rfl (by kernel_rfl) (se_callF c_without (show 1 ≤ 5 by decide) (sa_cons (se_var (i := 2) rfl (by kernel_rfl)) (sa_cons (se_var (i := 3) rfl (by kernel_rfl)) sa_nil)) (len_cons (len_cons len_nil)) (by kernel_rfl))) (ss_one (ss_dput (i := 1) (fun _ => h.T0) rfl (by kernel_rfl) (se_var (i := 4) rfl (by kernel_rfl)) (e_add (SE.sp (se_dget2 (fun _ => h.T0) (sp_var (i := 1) rfl (by kernel_rfl)) (se_var (i := 4) rfl (by kernel_rfl)) (se_tup sa_nil len_nil) ⟨(by intro _; rfl), (by intro _; rfl), (by rfl), (by intro _; rfl)⟩)) (SE.sp (se_tup (sa_cons (se_var (i := 2) rfl (by kernel_rfl)) sa_nil) (len_cons len_nil)))))))))) (ss_one (ss_ret (SF.se (sf_dc (own := [(("rest" : Str), 4)]) (fun _ => h.T0) ⟨(show BlkOk N_walls_of _ _ _ from ⟨rfl, (by decide +kernel), (by decide +kernel), (by decide +kernel), (by decide +kernel)⟩), (si_seq (SF.se (f_sorted (sp_var (i := 1) rfl (by kernel_rfl)) h.b_sorted))), ⟨_, (by decide), (sg_name (i := 4) rfl (by kernel_rfl))⟩, sts_nil, (se_var (i := 4) rfl (by kernel_rfl)), (e_get (fun _ => h.T0) (sp_var (i := 1) rfl (by kernel_rfl)) (sp_var (i := 4) rfl (by kernel_rfl)))⟩))))))
theorem ok_walls_of {E : En} (h : Fc E) (c_rooms_of : FnS E 5 "rooms_of" 1 F_rooms_of) (c_without : FnS E 1 "without" 2 F_without) : FnS E 6 "walls_of" 1 F_walls_of := by
  obtain ⟨f, fd, FD, hm⟩ := h.d_walls_of
  exact fn_def (ps := ["book"]) FD ⟨rfl, rfl, rfl, by decide +kernel, rfl, by decide +kernel, by decide +kernel⟩ hm rfl (fun _ _ _ _ _ _ us hl => match us, hl with | [_], _ => rfl) (b_walls_of h c_rooms_of c_without)
def N_need_rooms : List Str := ["book", "one", "other"]
def B_need_rooms : SSem := (seqS (exprS (callF F_need_room (consA (varE 0) (consA (varE 1) nilA)))) (ifS (notT (testE (callF F_is_room_of (consA (varE 0) (consA (varE 2) nilA))))) neverS nilS))
def F_need_rooms : FSem := bodyF N_need_rooms B_need_rooms
theorem b_need_rooms {E : En} (h : Fc E) (c_need_room : FnS E 5 "need_room" 2 F_need_room) (c_is_room_of : FnS E 3 "is_room_of" 2 F_is_room_of) : SSs ⟨E, N_need_rooms, 5⟩ (defScope (Hd.top 46)) (defBody (Hd.top 46)) B_need_rooms :=
  (ss_cons (ss_expr (se_callF c_need_room (show 5 ≤ 5 by decide) (sa_cons (se_var (i := 0) rfl (by kernel_rfl)) (sa_cons (se_var (i := 1) rfl (by kernel_rfl)) sa_nil)) (len_cons (len_cons len_nil)) (by kernel_rfl))) (ss_one (ss_if (st_not (st_val (se_callF c_is_room_of (show 3 ≤ 5 by decide) (sa_cons (se_var (i := 0) rfl (by kernel_rfl)) (sa_cons (se_var (i := 2) rfl (by kernel_rfl)) sa_nil)) (len_cons (len_cons len_nil)) (by kernel_rfl)))) (ss_one ss_never) ss_nil)))
theorem ok_need_rooms {E : En} (h : Fc E) (c_need_room : FnS E 5 "need_room" 2 F_need_room) (c_is_room_of : FnS E 3 "is_room_of" 2 F_is_room_of) : FnS E 6 "need_rooms" 3 F_need_rooms := by
  obtain ⟨f, fd, FD, hm⟩ := h.d_need_rooms
  exact fn_def (ps := ["book", "one", "other"]) FD ⟨rfl, rfl, rfl, by decide +kernel, rfl, by decide +kernel, by decide +kernel⟩ hm rfl (fun _ _ _ _ _ _ us hl => match us, hl with | [_, _, _], _ => rfl) (b_need_rooms h c_need_room c_is_room_of)
def N_is_face : List Str := ["book", "lot"]
def B_is_face : SSem := (retS (bin isD (callF F_above_all (consA (varE 0) (consA (varE 1) nilA))) (cE .non)))
def F_is_face : FSem := bodyF N_is_face B_is_face
theorem b_is_face {E : En} (h : Fc E) (c_above_all : FnS E 6 "above_all" 2 F_above_all) : SSs ⟨E, N_is_face, 6⟩ (defScope (Hd.top 39)) (defBody (Hd.top 39)) B_is_face :=
  (ss_one (ss_ret (e_cmp c_is (SE.sp (se_callF c_above_all (show 6 ≤ 6 by decide) (sa_cons (se_var (i := 0) rfl (by kernel_rfl)) (sa_cons (se_var (i := 1) rfl (by kernel_rfl)) sa_nil)) (len_cons (len_cons len_nil)) (by kernel_rfl))) (SE.sp se_non))))
theorem ok_is_face {E : En} (h : Fc E) (c_above_all : FnS E 6 "above_all" 2 F_above_all) : FnS E 7 "is_face" 2 F_is_face := by
  obtain ⟨f, fd, FD, hm⟩ := h.d_is_face
  exact fn_def (ps := ["book", "lot"]) FD ⟨rfl, rfl, rfl, by decide +kernel, rfl, by decide +kernel, by decide +kernel⟩ hm rfl (fun _ _ _ _ _ _ us hl => match us, hl with | [_, _], _ => rfl) (b_is_face h c_above_all)
def N_room_way : List Str := ["book", "one", "other", "ways", "waiting", "room", "column", "later"]
def B_room_way : SSem := (seqS (exprS (callF F_need_rooms (consA (varE 0) (consA (varE 1) (consA (varE 2) nilA))))) (seqS (parS [3, 4] [(true, (disp1E true (varE 1) (tupE 0 nilA))), (true, (lstE (consA (varE 1) nilA)))]) (seqS (whileS 100 (testE (bin (notInAD true) (peekE 2) (peekE 3))) (seqS (popS 5 4 (cE (.int 0))) (forS (seqI (varE 5)) (nameG 6) (seqS (setS 7 (callF F_other_room (consA (varE 0) (consA (varE 5) (consA (varE 6) nilA))))) (ifS (andT (testE (bin isNotD (peekE 7) (cE .non))) (testE (bin (notInAD true) (peekE 7) (peekE 3)))) (seqS (dputS true 3 (varE 7) (bin addD (bin (getAD true) (peekE 3) (peekE 5)) (tupE 1 (consA (varE 6) nilA)))) (appS 4 (varE 7))) nilS))))) (retS (bin (getAD true) (peekE 3) (peekE 2))))))
def F_room_way : FSem := bodyF N_room_way B_room_way
theorem b_room_way {E : En} (h : Fc E) (c_need_rooms : FnS E 6 "need_rooms" 3 F_need_rooms) (c_other_room : FnS E 3 "other_room" 3 F_other_room) : SSs ⟨E, N_room_way, 6⟩ (defScope (Hd.top 47)) (defBody (Hd.top 47)) B_room_way :=
  (ss_cons (ss_expr (se_callF c_need_rooms (show 6 ≤ 6 by decide) (sa_cons (se_var (i := 0) rfl (by kernel_rfl)) (sa_cons (se_var (i := 1) rfl (by kernel_rfl)) (sa_cons (se_var (i := 2) rfl (by kernel_rfl)) sa_nil))) (len_cons (len_cons (len_cons len_nil))) (by kernel_rfl))) (ss_cons (ss_par2 (i := 3) (j := 4) rfl rfl (by decide) (by kernel_rfl) (by kernel_rfl) (sac_o (sf_disp1 (fun _ => h.T0) (se_var (i := 1) rfl (by kernel_rfl)) (se_tup sa_nil len_nil)) (sac_o (sf_lst (sa_cons (se_var (i := 1) rfl (by kernel_rfl)) sa_nil) (len_cons len_nil)) sac_nil)) rfl (fun X hX => swp_run hX rfl (by intro _; rfl))) (ss_cons (ss_while (t_cmp (c_notIn (fun _ => h.T0)) (sp_var (i := 2) rfl (by kernel_rfl)) (sp_var (i := 3) rfl (by kernel_rfl))) (ss_cons (ss_pop (i := 4) (j := 5) rfl (by kernel_rfl) rfl (by kernel_rfl) se_int ⟨(by intro _; rfl), (by intro _; rfl), (by rfl), (by intro _; rfl), (by intro _; rfl)⟩) (ss_one (ss_for (si_seq (se_var (i := 5) rfl (by kernel_rfl))) (sg_name (i := 6) rfl (by kernel_rfl)) (ss_cons (ss_set (i := 7) rfl (by kernel_rfl) (se_callF c_other_room (show 3 ≤ 6 by decide) (sa_cons (se_var (i := 0) rfl (by kernel_rfl)) (sa_cons (se_var (i := 5) rfl (by kernel_rfl)) (sa_cons (se_var (i := 6) rfl (by kernel_rfl)) sa_nil))) (len_cons (len_cons (len_cons len_nil))) (by kernel_rfl))) (ss_one (ss_if (SW.st (sw_and (t_cmp c_isNot (sp_var (i := 7) rfl (by kernel_rfl)) (SE.sp se_non)) (sw_and1 (t_cmp (c_notIn (fun _ => h.T0)) (sp_var (i := 7) rfl (by kernel_rfl)) (sp_var (i := 3) rfl (by kernel_rfl)))))) (ss_cons (ss_dput (i := 3) (fun _ => h.T0) rfl (by kernel_rfl) (se_var (i := 7) rfl (by kernel_rfl)) (e_add (SE.sp (e_get (fun _ => h.T0) (sp_var (i := 3) rfl (by kernel_rfl)) (sp_var (i := 5) rfl (by kernel_rfl)))) (SE.sp (se_tup (sa_cons (se_var (i := 6) rfl (by kernel_rfl)) sa_nil) (len_cons len_nil))))) (ss_one (ss_append (i := 4) rfl (by kernel_rfl) (se_var (i := 7) rfl (by kernel_rfl)) ⟨(by intro _; rfl), (by intro _; rfl), (by rfl), (by intro _; rfl), (by intro _; rfl)⟩))) ss_nil))))))) (ss_one (ss_ret (e_get (fun _ => h.T0) (sp_var (i := 3) rfl (by kernel_rfl)) (sp_var (i := 2) rfl (by kernel_rfl))))))))
theorem ok_room_way {E : En} (h : Fc E) (c_need_rooms : FnS E 6 "need_rooms" 3 F_need_rooms) (c_other_room : FnS E 3 "other_room" 3 F_other_room) : FnS E 7 "room_way" 3 F_room_way := by
  obtain ⟨f, fd, FD, hm⟩ := h.d_room_way
  exact fn_def (ps := ["book", "one", "other"]) FD ⟨rfl, rfl, rfl, by decide +kernel, rfl, by decide +kernel, by decide +kernel⟩ hm rfl (fun _ _ _ _ _ _ us hl => match us, hl with | [_, _, _], _ => rfl) (b_room_way h c_need_rooms c_other_room)
def N_is_room_way : List Str := ["book", "one", "other", "value", "here", "column"]
def B_is_room_way : SSem := (seqS (exprS (callF F_need_rooms (consA (varE 0) (consA (varE 1) (consA (varE 2) nilA))))) (seqS (ifS (notT (testE (un (fun d => (isiD "tuple" d).map .bl) (peekE 3)))) (retS (cE (.bl false))) nilS) (seqS (setS 4 (varE 1)) (seqS (forS (seqI (varE 3)) (nameG 5) (seqS (ifS (orT (notT (testE (callF F_is_whole (consA (varE 5) nilA)))) (orT (testE (bin isD (peekE 4) (cE .non))) (testE (bin (notInAD true) (peekE 5) (peekE 4))))) (retS (cE (.bl false))) nilS) (setS 4 (callF F_other_room (consA (varE 0) (consA (varE 4) (consA (varE 5) nilA))))))) (retS (bin eqD (peekE 4) (peekE 2)))))))
def F_is_room_way : FSem := bodyF N_is_room_way B_is_room_way
theorem b_is_room_way {E : En} (h : Fc E) (c_need_rooms : FnS E 6 "need_rooms" 3 F_need_rooms) (c_other_room : FnS E 3 "other_room" 3 F_other_room) (c_is_whole : FnS E 1 "is_whole" 1 F_is_whole) : SSs ⟨E, N_is_room_way, 6⟩ (defScope (Hd.top 48)) (defBody (Hd.top 48)) B_is_room_way :=
  (ss_cons (ss_expr (se_callF c_need_rooms (show 6 ≤ 6 by decide) (sa_cons (se_var (i := 0) rfl (by kernel_rfl)) (sa_cons (se_var (i := 1) rfl (by kernel_rfl)) (sa_cons (se_var (i := 2) rfl (by kernel_rfl)) sa_nil))) (len_cons (len_cons (len_cons len_nil))) (by kernel_rfl))) (ss_cons (ss_if (st_not (st_val (e_isi (sp_var (i := 3) rfl (by kernel_rfl)) h.b_isinstance h.b_tuple (by decide +kernel)))) (ss_one (ss_ret se_bl)) ss_nil) (ss_cons (ss_set (i := 4) rfl (by kernel_rfl) (se_var (i := 1) rfl (by kernel_rfl))) (ss_cons (ss_for (si_seq (se_var (i := 3) rfl (by kernel_rfl))) (sg_name (i := 5) rfl (by kernel_rfl)) (ss_cons (ss_if (SW.st (sw_or (st_not (st_val (se_callF c_is_whole (show 1 ≤ 6 by decide) (sa_cons (se_var (i := 5) rfl (by kernel_rfl)) sa_nil) (len_cons len_nil) (by kernel_rfl)))) (sw_or (t_cmp c_is (sp_var (i := 4) rfl (by kernel_rfl)) (SE.sp se_non)) (sw_or1 (t_cmp (c_notIn (fun _ => h.T0)) (sp_var (i := 5) rfl (by kernel_rfl)) (sp_var (i := 4) rfl (by kernel_rfl))))))) (ss_one (ss_ret se_bl)) ss_nil) (ss_one (ss_set (i := 4) rfl (by kernel_rfl) (se_callF c_other_room (show 3 ≤ 6 by decide) (sa_cons (se_var (i := 0) rfl (by kernel_rfl)) (sa_cons (se_var (i := 4) rfl (by kernel_rfl)) (sa_cons (se_var (i := 5) rfl (by kernel_rfl)) sa_nil))) (len_cons (len_cons (len_cons len_nil))) (by kernel_rfl)))))) (ss_one (ss_ret (e_cmp c_eq (sp_var (i := 4) rfl (by kernel_rfl)) (sp_var (i := 2) rfl (by kernel_rfl)))))))))
theorem ok_is_room_way {E : En} (h : Fc E) (c_need_rooms : FnS E 6 "need_rooms" 3 F_need_rooms) (c_other_room : FnS E 3 "other_room" 3 F_other_room) (c_is_whole : FnS E 1 "is_whole" 1 F_is_whole) : FnS E 7 "is_room_way" 4 F_is_room_way := by
  obtain ⟨f, fd, FD, hm⟩ := h.d_is_room_way
  exact fn_def (ps := ["book", "one", "other", "value"]) FD ⟨rfl, rfl, rfl, by decide +kernel, rfl, by decide +kernel, by decide +kernel⟩ hm rfl (fun _ _ _ _ _ _ us hl => match us, hl with | [_, _, _, _], _ => rfl) (b_is_room_way h c_need_rooms c_other_room c_is_whole)
def N__law_ways_go : List Str := ["draws", "book", "chain", "pairs", "due", "way", "one", "two"]
def B__law_ways_go : SSem := (seqS (parS [6, 7] [(false, (callF F__law_draw (consA (varE 0) (consA (callE lenD (consA (peekE 3) nilA)) nilA)))), (false, (callF F__law_draw (consA (varE 0) (consA (callE lenD (consA (peekE 3) nilA)) nilA))))]) (seqS (setS 4 (iteE (testE (bin leD (peekE 6) (peekE 7))) (callE tupleD (consA (sliceE cutD (peekE 2) (someO (peekE 6)) (someO (peekE 7))) nilA)) (callE tupleD (consA (un revAD (sliceE cutD (peekE 2) (someO (bin addD (peekE 7) (cE (.int 2)))) (someO (bin addD (peekE 6) (cE (.int 2)))))) nilA)))) (seqS (setS 5 (callF F_room_way (consA (varE 1) (consA (bin (getAD true) (peekE 3) (peekE 6)) (consA (bin (getAD true) (peekE 3) (peekE 7)) nilA))))) (seqS (ifS (orT (testE (bin isNotD (callF F_is_room_way (consA (varE 1) (consA (bin (getAD true) (peekE 3) (peekE 6)) (consA (bin (getAD true) (peekE 3) (peekE 7)) (consA (varE 5) nilA))))) (cE (.bl true)))) (testE (bin isNotD (callF F_is_room_way (consA (varE 1) (consA (bin (getAD true) (peekE 3) (peekE 6)) (consA (bin (getAD true) (peekE 3) (peekE 7)) (consA (varE 4) nilA))))) (cE (.bl true))))) (retS (cE (.bl false))) nilS) (retS (orE (bin eqD (peekE 4) (tupE 0 nilA)) (andE (bin isNotD (callF F_is_room_way (consA (varE 1) (consA (bin (getAD true) (peekE 3) (peekE 6)) (consA (bin (getAD true) (peekE 3) (peekE 7)) (consA (sliceE cutD (peekE 4) noO (someO (un negD (cE (.int 1))))) nilA))))) (cE (.bl true))) (bin isNotD (callF F_is_room_way (consA (varE 1) (consA (bin (getAD true) (peekE 3) (peekE 6)) (consA (bin (getAD true) (peekE 3) (peekE 7)) (consA (iteE (testE (bin gtD (callE lenD (consA (peekE 4) nilA)) (cE (.int 1)))) (bin addD (sliceE cutD (peekE 4) (someO (cE (.int 1))) noO) (sliceE cutD (peekE 4) noO (someO (cE (.int 1))))) (bin addD (peekE 4) (peekE 4))) nilA))))) (cE (.bl true))))))))))
def F__law_ways_go : FSem := bodyF N__law_ways_go B__law_ways_go
theorem b__law_ways_go {E : En} (h : Fc E) (c_room_way : FnS E 7 "room_way" 3 F_room_way) (c__law_draw : FnS E 2 "_law_draw" 2 F__law_draw) (c_is_room_way : FnS E 7 "is_room_way" 4 F_is_room_way) : SSs ⟨E, N__law_ways_go, 7⟩ (defScope (Hd.top 60)) (defBody (Hd.top 60)) B__law_ways_go :=
  (ss_cons (ss_par2 (i := 6) (j := 7) rfl rfl (by decide) (by kernel_rfl) (by kernel_rfl) (sac_p (se_callF c__law_draw (show 2 ≤ 7 by decide) (sa_cons (se_var (i := 0) rfl (by kernel_rfl)) (sa_cons (e_len (sp_var (i := 3) rfl (by kernel_rfl)) h.b_len) sa_nil)) (len_cons (len_cons len_nil)) (by kernel_rfl)) (sac_p (se_callF c__law_draw (show 2 ≤ 7 by decide) (sa_cons (se_var (i := 0) rfl (by kernel_rfl)) (sa_cons (e_len (sp_var (i := 3) rfl (by kernel_rfl)) h.b_len) sa_nil)) (len_cons (len_cons len_nil)) (by kernel_rfl)) sac_nil)) rfl (fun X hX => swp_run hX rfl (by intro _; rfl))) (ss_cons (ss_set (i := 4) rfl (by kernel_rfl) (se_ite (t_cmp c_le (sp_var (i := 6) rfl (by kernel_rfl)) (sp_var (i := 7) rfl (by kernel_rfl))) (e_tuple (SE.sp (se_slice (sp_var (i := 2) rfl (by kernel_rfl)) (so_some (sp_var (i := 6) rfl (by kernel_rfl))) (so_some (sp_var (i := 7) rfl (by kernel_rfl))))) h.b_tuple) (e_tuple (SE.sp (e_rev (SE.sp (se_slice (sp_var (i := 2) rfl (by kernel_rfl)) (so_some (SE.sp (e_add (sp_var (i := 7) rfl (by kernel_rfl)) (SE.sp se_int)))) (so_some (SE.sp (e_add (sp_var (i := 6) rfl (by kernel_rfl)) (SE.sp se_int)))))))) h.b_tuple))) (ss_cons (ss_set (i := 5) rfl (by kernel_rfl) (se_callF c_room_way (show 7 ≤ 7 by decide) (sa_cons (se_var (i := 1) rfl (by kernel_rfl)) (sa_cons (e_get (fun _ => h.T0) (sp_var (i := 3) rfl (by kernel_rfl)) (sp_var (i := 6) rfl (by kernel_rfl))) (sa_cons (e_get (fun _ => h.T0) (sp_var (i := 3) rfl (by kernel_rfl)) (sp_var (i := 7) rfl (by kernel_rfl))) sa_nil))) (len_cons (len_cons (len_cons len_nil))) (by kernel_rfl))) (ss_cons (ss_if (SW.st (sw_or (t_cmp c_isNot (SE.sp (se_callF c_is_room_way (show 7 ≤ 7 by decide) (sa_cons (se_var (i := 1) rfl (by kernel_rfl)) (sa_cons (e_get (fun _ => h.T0) (sp_var (i := 3) rfl (by kernel_rfl)) (sp_var (i := 6) rfl (by kernel_rfl))) (sa_cons (e_get (fun _ => h.T0) (sp_var (i := 3) rfl (by kernel_rfl)) (sp_var (i := 7) rfl (by kernel_rfl))) (sa_cons (se_var (i := 5) rfl (by kernel_rfl)) sa_nil)))) (len_cons (len_cons (len_cons (len_cons len_nil)))) (by kernel_rfl))) (SE.sp se_bl)) (sw_or1 (t_cmp c_isNot (SE.sp (se_callF c_is_room_way (show 7 ≤ 7 by decide) (sa_cons (se_var (i := 1) rfl (by kernel_rfl)) (sa_cons (e_get (fun _ => h.T0) (sp_var (i := 3) rfl (by kernel_rfl)) (sp_var (i := 6) rfl (by kernel_rfl))) (sa_cons (e_get (fun _ => h.T0) (sp_var (i := 3) rfl (by kernel_rfl)) (sp_var (i := 7) rfl (by kernel_rfl))) (sa_cons (se_var (i := 4) rfl (by kernel_rfl)) sa_nil)))) (len_cons (len_cons (len_cons (len_cons len_nil)))) (by kernel_rfl))) (SE.sp se_bl))))) (ss_one (ss_ret se_bl)) ss_nil) (ss_one (ss_ret (se_or (e_cmp c_eq (sp_var (i := 4) rfl (by kernel_rfl)) (SE.sp (se_tup sa_nil len_nil))) (se_one (se_and (e_cmp c_isNot (SE.sp (se_callF c_is_room_way (show 7 ≤ 7 by decide) (sa_cons (se_var (i := 1) rfl (by kernel_rfl)) (sa_cons (e_get (fun _ => h.T0) (sp_var (i := 3) rfl (by kernel_rfl)) (sp_var (i := 6) rfl (by kernel_rfl))) (sa_cons (e_get (fun _ => h.T0) (sp_var (i := 3) rfl (by kernel_rfl)) (sp_var (i := 7) rfl (by kernel_rfl))) (sa_cons (se_slice (sp_var (i := 4) rfl (by kernel_rfl)) so_none (so_some (SE.sp (se_neg (SE.sp se_int))))) sa_nil)))) (len_cons (len_cons (len_cons (len_cons len_nil)))) (by kernel_rfl))) (SE.sp se_bl)) (se_one (e_cmp c_isNot (SE.sp (se_callF c_is_room_way (show 7 ≤ 7 by decide) (sa_cons (se_var (i := 1) rfl (by kernel_rfl)) (sa_cons (e_get (fun _ => h.T0) (sp_var (i := 3) rfl (by kernel_rfl)) (sp_var (i := 6) rfl (by kernel_rfl))) (sa_cons (e_get (fun _ => h.T0) (sp_var (i := 3) rfl (by kernel_rfl)) (sp_var (i := 7) rfl (by kernel_rfl))) (sa_cons (se_ite (t_cmp c_gt (SE.sp (e_len (sp_var (i := 4) rfl (by kernel_rfl)) h.b_len)) (SE.sp se_int)) (e_add (SE.sp (se_slice (sp_var (i := 4) rfl (by kernel_rfl)) (so_some (SE.sp se_int)) so_none)) (SE.sp (se_slice (sp_var (i := 4) rfl (by kernel_rfl)) so_none (so_some (SE.sp se_int))))) (e_add (sp_var (i := 4) rfl (by kernel_rfl)) (sp_var (i := 4) rfl (by kernel_rfl)))) sa_nil)))) (len_cons (len_cons (len_cons (len_cons len_nil)))) (by kernel_rfl))) (SE.sp se_bl))))))))))))
theorem ok__law_ways_go {E : En} (h : Fc E) (c_room_way : FnS E 7 "room_way" 3 F_room_way) (c__law_draw : FnS E 2 "_law_draw" 2 F__law_draw) (c_is_room_way : FnS E 7 "is_room_way" 4 F_is_room_way) : FnS E 8 "_law_ways_go" 4 F__law_ways_go := by
  obtain ⟨f, fd, FD, hm⟩ := h.d__law_ways_go
  exact fn_def (ps := ["draws", "book", "chain", "pairs"]) FD ⟨rfl, rfl, rfl, by decide +kernel, rfl, by decide +kernel, by decide +kernel⟩ hm rfl (fun _ _ _ _ _ _ us hl => match us, hl with | [_, _, _, _], _ => rfl) (b__law_ways_go h c_room_way c__law_draw c_is_room_way)
def N__law_above_goes : List Str := ["draws", "book", "chain", "tastes", "columns", "lap", "some", "over", "told", "own", "taste", "part"]
def B__law_above_goes : SSem := (seqS (setS 4 (rangeLstE (range1I (bin addD (cE (.int 2)) (callE lenD (consA (bin (getAD true) (peekE 1) (cE (.int 2))) nilA)))))) (seqS (forS (range1I (cE (.int 8))) (nameG 5) (seqS (setS 6 (callE tupleD (consA (callE sortedAD (consA (sliceE cutD (callF F__law_shuffled (consA (varE 0) (consA (varE 4) nilA))) noO (someO (bin addD (cE (.int 1)) (callF F__law_draw (consA (varE 0) (consA (cE (.int 2)) nilA)))))) nilA)) nilA))) (seqS (setS 7 (compE (seqI (varE 4)) (nameG 9) (testE (bin eqD (compE (seqI (varE 3)) (nameG 10) (testE (bin leD (bin (getAD true) (peekE 10) (peekE 9)) (callE minAD (consA (compE (seqI (varE 6)) (nameG 11) yesT (bin (getAD true) (peekE 10) (peekE 11)) [11]) nilA)))) (cE (.int 1)) [10]) (lstE nilA))) (varE 9) [9])) (seqS (setS 8 (callF F_above_all (consA (varE 1) (consA (varE 6) nilA)))) (seqS (ifS (orT (testE (bin neD (peekE 8) (iteE (testE (bin neD (peekE 7) (lstE nilA))) (bin (getAD true) (peekE 7) (cE (.int 0))) (cE .non)))) (testE (bin neD (callF F_is_face (consA (varE 1) (consA (varE 6) nilA))) (bin eqD (peekE 7) (lstE nilA))))) (retS (cE (.bl false))) nilS) (ifS (andT (testE (bin eqD (peekE 7) (lstE nilA))) (testE (bin neD (compE (seqI (varE 6)) (nameG 9) (testE (bin (notInAD true) (peekE 9) (peekE 2))) (varE 9) [9]) (lstE nilA)))) (retS (cE (.bl false))) nilS)))))) (retS (cE (.bl true)))))
def F__law_above_goes : FSem := bodyF N__law_above_goes B__law_above_goes
theorem b__law_above_goes {E : En} (h : Fc E) (c_above_all : FnS E 6 "above_all" 2 F_above_all) (c_is_face : FnS E 7 "is_face" 2 F_is_face) (c__law_shuffled : FnS E 3 "_law_shuffled" 2 F__law_shuffled) (c__law_draw : FnS E 2 "_law_draw" 2 F__law_draw) : SSs ⟨E, N__law_above_goes, 7⟩ (defScope (Hd.top 61)) (defBody (Hd.top 61)) B__law_above_goes :=
  (ss_cons (ss_set (i := 4) rfl (by kernel_rfl) (SF.se (sf_listRange1 rfl rfl (by kernel_rfl) h.b_list (by kernel_rfl) h.b_range (SE.sp (e_add (SE.sp se_int) (SE.sp (e_len (SE.sp (e_get (fun _ => h.T0) (sp_var (i := 1) rfl (by kernel_rfl)) (SE.sp se_int))) h.b_len))))))) (ss_cons (ss_for (si_range1 rfl (by kernel_rfl) h.b_range (SE.sp se_int)) (sg_name (i := 5) rfl (by kernel_rfl)) (ss_cons (ss_set (i := 6) rfl (by kernel_rfl) (e_tuple (SE.sp (SF.se (f_sorted (SE.sp (se_slice (SE.sp (se_callF c__law_shuffled (show 3 ≤ 7 by decide) (sa_cons (se_var (i := 0) rfl (by kernel_rfl)) (sa_cons (se_var (i := 4) rfl (by kernel_rfl)) sa_nil)) (len_cons (len_cons len_nil)) (by kernel_rfl))) so_none (so_some (SE.sp (e_add (SE.sp se_int) (SE.sp (se_callF c__law_draw (show 2 ≤ 7 by decide) (sa_cons (se_var (i := 0) rfl (by kernel_rfl)) (sa_cons se_int sa_nil)) (len_cons (len_cons len_nil)) (by kernel_rfl)))))))) h.b_sorted))) h.b_tuple)) (ss_cons (ss_setLcP (i := 7) (own := [(("own" : Str), 9)]) ⟨(show BlkOk N__law_above_goes _ _ _ from ⟨rfl, (by decide +kernel), (by decide +kernel), (by decide +kernel), (by decide +kernel)⟩), (si_seq (se_var (i := 4) rfl (by kernel_rfl))), ⟨_, (by decide), (sg_name (i := 9) rfl (by kernel_rfl))⟩, (sts_one (t_cmp c_eq (SE.sp (SF.se (sf_lc (own := [(("taste" : Str), 10)]) ⟨(show BlkOk N__law_above_goes _ _ _ from ⟨rfl, (by decide +kernel), (by decide +kernel), (by decide +kernel), (by decide +kernel)⟩), (si_seq (se_var (i := 3) rfl (by kernel_rfl))), ⟨_, (by decide), (sg_name (i := 10) rfl (by kernel_rfl))⟩, (sts_one (t_cmp c_le (SE.sp (e_get (fun _ => h.T0) (sp_var (i := 10) rfl (by kernel_rfl)) (sp_var (i := 9) rfl (by kernel_rfl)))) (SE.sp (e_min (SE.sp (SF.se (sf_lc (own := [(("part" : Str), 11)]) ⟨(show BlkOk N__law_above_goes _ _ _ from ⟨rfl, (by decide +kernel), (by decide +kernel), (by decide +kernel), (by decide +kernel)⟩), (si_seq (se_var (i := 6) rfl (by kernel_rfl))), ⟨_, (by decide), (sg_name (i := 11) rfl (by kernel_rfl))⟩, sts_nil, (e_get (fun _ => h.T0) (sp_var (i := 10) rfl (by kernel_rfl)) (sp_var (i := 11) rfl (by kernel_rfl)))⟩))) h.b_min)))), se_int⟩))) (SE.sp (SF.se (sf_lst sa_nil len_nil))))), (se_var (i := 9) rfl (by kernel_rfl))⟩ rfl (by kernel_rfl) (by rfl) (by kernel_rfl)) (ss_cons (ss_set (i := 8) rfl (by kernel_rfl) (se_callF c_above_all (show 6 ≤ 7 by decide) (sa_cons (se_var (i := 1) rfl (by kernel_rfl)) (sa_cons (se_var (i := 6) rfl (by kernel_rfl)) sa_nil)) (len_cons (len_cons len_nil)) (by kernel_rfl))) (ss_cons (ss_if (SW.st (sw_or (t_cmp c_ne (sp_var (i := 8) rfl (by kernel_rfl)) (SE.sp (se_ite (t_cmp c_ne (sp_var (i := 7) rfl (by kernel_rfl)) (SE.sp (SF.se (sf_lst sa_nil len_nil)))) (e_get (fun _ => h.T0) (sp_var (i := 7) rfl (by kernel_rfl)) (SE.sp se_int)) se_non))) (sw_or1 (t_cmp c_ne (SE.sp (se_callF c_is_face (show 7 ≤ 7 by decide) (sa_cons (se_var (i := 1) rfl (by kernel_rfl)) (sa_cons (se_var (i := 6) rfl (by kernel_rfl)) sa_nil)) (len_cons (len_cons len_nil)) (by kernel_rfl))) (SE.sp (e_cmp c_eq (sp_var (i := 7) rfl (by kernel_rfl)) (SE.sp (SF.se (sf_lst sa_nil len_nil))))))))) (ss_one (ss_ret se_bl)) ss_nil) (ss_one (ss_if (SW.st (sw_and (t_cmp c_eq (sp_var (i := 7) rfl (by kernel_rfl)) (SE.sp (SF.se (sf_lst sa_nil len_nil)))) (sw_and1 (t_cmp c_ne (SE.sp (SF.se (sf_lc (own := [(("own" : Str), 9)]) ⟨(show BlkOk N__law_above_goes _ _ _ from ⟨rfl, (by decide +kernel), (by decide +kernel), (by decide +kernel), (by decide +kernel)⟩), (si_seq (se_var (i := 6) rfl (by kernel_rfl))), ⟨_, (by decide), (sg_name (i := 9) rfl (by kernel_rfl))⟩, (sts_one (t_cmp (c_notIn (fun _ => h.T0)) (sp_var (i := 9) rfl (by kernel_rfl)) (sp_var (i := 2) rfl (by kernel_rfl)))), (se_var (i := 9) rfl (by kernel_rfl))⟩))) (SE.sp (SF.se (sf_lst sa_nil len_nil))))))) (ss_one (ss_ret se_bl)) ss_nil))))))) (ss_one (ss_ret se_bl))))
theorem ok__law_above_goes {E : En} (h : Fc E) (c_above_all : FnS E 6 "above_all" 2 F_above_all) (c_is_face : FnS E 7 "is_face" 2 F_is_face) (c__law_shuffled : FnS E 3 "_law_shuffled" 2 F__law_shuffled) (c__law_draw : FnS E 2 "_law_draw" 2 F__law_draw) : FnS E 8 "_law_above_goes" 4 F__law_above_goes := by
  obtain ⟨f, fd, FD, hm⟩ := h.d__law_above_goes
  exact fn_def (ps := ["draws", "book", "chain", "tastes"]) FD ⟨rfl, rfl, rfl, by decide +kernel, rfl, by decide +kernel, by decide +kernel⟩ hm rfl (fun _ _ _ _ _ _ us hl => match us, hl with | [_, _, _, _], _ => rfl) (b__law_above_goes h c_above_all c_is_face c__law_shuffled c__law_draw)
def N__law_goes : List Str := ["draws", "book", "pairs", "walls", "own", "chain", "tastes", "room", "spot", "ahead", "behind", "low", "high", "one", "two"]
def B__law_goes : SSem := (seqS (parS [5, 6] [(false, (callF F__law_ln_chain (consA (varE 1) nilA))), (false, (callF F__law_tastes (consA (varE 1) nilA)))]) (seqS (setS 2 (compE (zip2I (varE 5) (sliceE cutD (peekE 5) (someO (cE (.int 1))) noO)) (tupG (consG (nameG 13) (consG (nameG 14) nilG))) yesT (callE tupleD (consA (callE sortedAD (consA (lstE (consA (varE 13) (consA (varE 14) nilA))) nilA)) nilA)) [13, 14])) (seqS (ifS (orT (testE (bin neD (bin (getAD true) (peekE 5) (cE (.int 0))) (cE (.int 0)))) (orT (testE (bin neD (bin (getAD true) (peekE 5) (un negD (cE (.int 1)))) (cE (.int 1)))) (orT (testE (bin neD (callF F_rooms_of (consA (varE 1) nilA)) (callE tupleD (consA (callE sortedAD (consA (peekE 2) nilA)) nilA)))) (testE (bin neD (compE (seqI (varE 5)) (nameG 4) yesT (bin (getAD true) (bin (getAD true) (peekE 6) (cE (.int 1))) (peekE 4)) [4]) (un revAD (callE sortedAD (consA (compE (seqI (varE 5)) (nameG 4) yesT (bin (getAD true) (bin (getAD true) (peekE 6) (cE (.int 1))) (peekE 4)) [4]) nilA)))))))) (retS (cE (.bl false))) nilS) (seqS (ifS (testE (bin neD (callF F_face_counts (consA (varE 1) nilA)) (tupE 2 (consA (callE lenD (consA (peekE 5) nilA)) (consA (callE lenD (consA (peekE 2) nilA)) nilA))))) (retS (cE (.bl false))) nilS) (seqS (forS (zipZI (varE 5) (sliceE cutD (peekE 5) (someO (cE (.int 1))) noO) (varE 2)) (tupG (consG (tupG (consG (nameG 11) (consG (nameG 12) nilG))) (consG (nameG 7) nilG))) (ifS (orT (testE (bin neD (callF F_homes_of (consA (varE 1) (consA (varE 7) nilA))) (tupE 2 (consA (varE 11) (consA (varE 12) nilA))))) (testE (bin isNotD (callF F_is_room (consA (varE 1) (consA (varE 7) nilA))) (cE (.bl true))))) (retS (cE (.bl false))) nilS)) (seqS (setOS 3 (dnewE true)) (seqS (forS (seqI (varE 5)) (nameG 4) (dputS true 3 (tupE 1 (consA (varE 4) nilA)) (callE tupleD (consA (callE sortedAD (consA (compE (seqI (varE 2)) (nameG 7) (testE (bin (inAD true) (peekE 4) (peekE 7))) (varE 7) [7]) nilA)) nilA)))) (seqS (ifS (orT (testE (bin neDT (callF F_walls_of (consA (varE 1) nilA)) (peekE 3))) (testE (bin neD (callE listAD (consA (callF F_walls_of (consA (varE 1) nilA)) nilA)) (callE sortedAD (consA (peekE 3) nilA))))) (retS (cE (.bl false))) nilS) (seqS (forS (enumI (varE 2)) (tupG (consG (nameG 8) (consG (nameG 7) nilG))) (seqS (parS [11, 12] [(false, (bin (getAD true) (peekE 5) (peekE 8))), (false, (bin (getAD true) (peekE 5) (bin addD (peekE 8) (cE (.int 1)))))]) (seqS (setS 9 (iteE (testE (bin ltD (bin addD (peekE 8) (cE (.int 1))) (callE lenD (consA (peekE 2) nilA)))) (bin (getAD true) (peekE 2) (bin addD (peekE 8) (cE (.int 1)))) (cE .non))) (seqS (setS 10 (iteE (testE (bin gtD (peekE 8) (cE (.int 0)))) (bin (getAD true) (peekE 2) (bin subD (peekE 8) (cE (.int 1)))) (cE .non))) (ifS (orT (testE (bin neD (callF F_room_beyond (consA (varE 1) (consA (varE 7) (consA (varE 11) nilA)))) (peekE 9))) (testE (bin neD (callF F_room_beyond (consA (varE 1) (consA (varE 7) (consA (varE 12) nilA)))) (peekE 10)))) (retS (cE (.bl false))) nilS))))) (retS (andE (callF F__law_ways_go (consA (varE 0) (consA (varE 1) (consA (varE 5) (consA (varE 2) nilA))))) (callF F__law_above_goes (consA (varE 0) (consA (varE 1) (consA (varE 5) (consA (varE 6) nilA))))))))))))))))
def F__law_goes : FSem := bodyF N__law_goes B__law_goes
theorem b__law_goes {E : En} (h : Fc E) (c__law_ln_chain : FnS E 3 "_law_ln_chain" 1 F__law_ln_chain) (c__law_tastes : FnS E 2 "_law_tastes" 1 F__law_tastes) (c_face_counts : FnS E 5 "face_counts" 1 F_face_counts) (c__law_ways_go : FnS E 8 "_law_ways_go" 4 F__law_ways_go) (c__law_above_goes : FnS E 8 "_law_above_goes" 4 F__law_above_goes) (c_rooms_of : FnS E 5 "rooms_of" 1 F_rooms_of) (c_walls_of : FnS E 6 "walls_of" 1 F_walls_of) (c_homes_of : FnS E 6 "homes_of" 2 F_homes_of) (c_is_room : FnS E 5 "is_room" 2 F_is_room) (c_room_beyond : FnS E 6 "room_beyond" 3 F_room_beyond) : SSs ⟨E, N__law_goes, 8⟩ (defScope (Hd.top 59)) (defBody (Hd.top 59)) B__law_goes :=
  (ss_cons (ss_parT (ts := [("chain", _), ("tastes", _)]) (is := [5, 6]) rfl ⟨rfl, (by kernel_rfl), rfl, (by kernel_rfl), trivial⟩ (sac_p (se_callF c__law_ln_chain (show 3 ≤ 8 by decide) (sa_cons (se_var (i := 1) rfl (by kernel_rfl)) sa_nil) (len_cons len_nil) (by kernel_rfl)) (sac_p (se_callF c__law_tastes (show 2 ≤ 8 by decide) (sa_cons (se_var (i := 1) rfl (by kernel_rfl)) sa_nil) (len_cons len_nil) (by kernel_rfl)) sac_nil)) rfl (by decide) (hw := (fun X hX => swp_run hX rfl (by intro _; rfl)))) (ss_cons (ss_setLcP (i := 2) (own := [(("one" : Str), 13), (("two" : Str), 14)]) ⟨(show BlkOk N__law_goes _ _ _ from ⟨rfl, (by decide +kernel), (by decide +kernel), (by decide +kernel), (by decide +kernel)⟩), (si_zip2 rfl (by kernel_rfl) h.b_zip (se_var (i := 5) rfl (by kernel_rfl)) (se_slice (sp_var (i := 5) rfl (by kernel_rfl)) (so_some (SE.sp se_int)) so_none)), ⟨_, (by decide), (sg_tup (sgs_cons (sg_name (i := 13) rfl (by kernel_rfl)) (sgs_cons (sg_name (i := 14) rfl (by kernel_rfl)) sgs_nil)) (glen_cons (glen_cons glen_nil)))⟩, sts_nil, (e_tuple (SE.sp (SF.se (f_sorted (SE.sp (SF.se (sf_lst (sa_cons (se_var (i := 13) rfl (by kernel_rfl)) (sa_cons (se_var (i := 14) rfl (by kernel_rfl)) sa_nil)) (len_cons (len_cons len_nil))))) h.b_sorted))) h.b_tuple)⟩ rfl (by kernel_rfl) (by rfl) (by kernel_rfl)) (ss_cons (ss_if (SW.st (sw_or (t_cmp c_ne (SE.sp (e_get (fun _ => h.T0) (sp_var (i := 5) rfl (by kernel_rfl)) (SE.sp se_int))) (SE.sp se_int)) (sw_or (t_cmp c_ne (SE.sp (e_get (fun _ => h.T0) (sp_var (i := 5) rfl (by kernel_rfl)) (SE.sp (se_neg (SE.sp se_int))))) (SE.sp se_int)) (sw_or (t_cmp c_ne (SE.sp (se_callF c_rooms_of (show 5 ≤ 8 by decide) (sa_cons (se_var (i := 1) rfl (by kernel_rfl)) sa_nil) (len_cons len_nil) (by kernel_rfl))) (SE.sp (e_tuple (SE.sp (SF.se (f_sorted (sp_var (i := 2) rfl (by kernel_rfl)) h.b_sorted))) h.b_tuple))) (sw_or1 (t_cmp c_ne (SE.sp (SF.se (sf_lc (own := [(("own" : Str), 4)]) ⟨(show BlkOk N__law_goes _ _ _ from ⟨rfl, (by decide +kernel), (by decide +kernel), (by decide +kernel), (by decide +kernel)⟩), (si_seq (se_var (i := 5) rfl (by kernel_rfl))), ⟨_, (by decide), (sg_name (i := 4) rfl (by kernel_rfl))⟩, sts_nil, (e_get (fun _ => h.T0) (SE.sp (e_get (fun _ => h.T0) (sp_var (i := 6) rfl (by kernel_rfl)) (SE.sp se_int))) (sp_var (i := 4) rfl (by kernel_rfl)))⟩))) (SE.sp (e_rev (SE.sp (SF.se (f_sorted (SE.sp (SF.se (sf_lc (own := [(("own" : Str), 4)]) ⟨(show BlkOk N__law_goes _ _ _ from ⟨rfl, (by decide +kernel), (by decide +kernel), (by decide +kernel), (by decide +kernel)⟩), (si_seq (se_var (i := 5) rfl (by kernel_rfl))), ⟨_, (by decide), (sg_name (i := 4) rfl (by kernel_rfl))⟩, sts_nil, (e_get (fun _ => h.T0) (SE.sp (e_get (fun _ => h.T0) (sp_var (i := 6) rfl (by kernel_rfl)) (SE.sp se_int))) (sp_var (i := 4) rfl (by kernel_rfl)))⟩))) h.b_sorted))))))))))) (ss_one (ss_ret se_bl)) ss_nil) (ss_cons (ss_if (t_cmp c_ne (SE.sp (se_callF c_face_counts (show 5 ≤ 8 by decide) (sa_cons (se_var (i := 1) rfl (by kernel_rfl)) sa_nil) (len_cons len_nil) (by kernel_rfl))) (SE.sp (se_tup (sa_cons (e_len (sp_var (i := 5) rfl (by kernel_rfl)) h.b_len) (sa_cons (e_len (sp_var (i := 2) rfl (by kernel_rfl)) h.b_len) sa_nil)) (len_cons (len_cons len_nil))))) (ss_one (ss_ret se_bl)) ss_nil) (ss_cons (ss_for (si_zipZ rfl rfl (by kernel_rfl) h.b_zip (se_var (i := 5) rfl (by kernel_rfl)) (se_slice (sp_var (i := 5) rfl (by kernel_rfl)) (so_some (SE.sp se_int)) so_none) (se_var (i := 2) rfl (by kernel_rfl))) (sg_tup (sgs_cons (sg_tup (sgs_cons (sg_name (i := 11) rfl (by kernel_rfl)) (sgs_cons (sg_name (i := 12) rfl (by kernel_rfl)) sgs_nil)) (glen_cons (glen_cons glen_nil))) (sgs_cons (sg_name (i := 7) rfl (by kernel_rfl)) sgs_nil)) (glen_cons (glen_cons glen_nil))) (ss_one (ss_if (SW.st (sw_or (t_cmp c_ne (SE.sp (se_callF c_homes_of (show 6 ≤ 8 by decide) (sa_cons (se_var (i := 1) rfl (by kernel_rfl)) (sa_cons (se_var (i := 7) rfl (by kernel_rfl)) sa_nil)) (len_cons (len_cons len_nil)) (by kernel_rfl))) (SE.sp (se_tup (sa_cons (se_var (i := 11) rfl (by kernel_rfl)) (sa_cons (se_var (i := 12) rfl (by kernel_rfl)) sa_nil)) (len_cons (len_cons len_nil))))) (sw_or1 (t_cmp c_isNot (SE.sp (se_callF c_is_room (show 5 ≤ 8 by decide) (sa_cons (se_var (i := 1) rfl (by kernel_rfl)) (sa_cons (se_var (i := 7) rfl (by kernel_rfl)) sa_nil)) (len_cons (len_cons len_nil)) (by kernel_rfl))) (SE.sp se_bl))))) (ss_one (ss_ret se_bl)) ss_nil))) (ss_cons (ss_setO (i := 3) rfl (by kernel_rfl) sf_dnewT) (ss_cons (ss_for (si_seq (se_var (i := 5) rfl (by kernel_rfl))) (sg_name (i := 4) rfl (by kernel_rfl)) (ss_one (ss_dput (i := 3) (fun _ => h.T0) rfl (by kernel_rfl) (se_tup (sa_cons (se_var (i := 4) rfl (by kernel_rfl)) sa_nil) (len_cons len_nil)) (e_tuple (SE.sp (SF.se (f_sorted (SE.sp (SF.se (sf_lc (own := [(("room" : Str), 7)]) ⟨(show BlkOk N__law_goes _ _ _ from ⟨rfl, (by decide +kernel), (by decide +kernel), (by decide +kernel), (by decide +kernel)⟩), (si_seq (se_var (i := 2) rfl (by kernel_rfl))), ⟨_, (by decide), (sg_name (i := 7) rfl (by kernel_rfl))⟩, (sts_one (t_cmp (c_in (fun _ => h.T0)) (sp_var (i := 4) rfl (by kernel_rfl)) (sp_var (i := 7) rfl (by kernel_rfl)))), (se_var (i := 7) rfl (by kernel_rfl))⟩))) h.b_sorted))) h.b_tuple)))) (ss_cons (ss_if (SW.st (sw_or (t_cmp c_neDT (SE.sp (se_callF c_walls_of (show 6 ≤ 8 by decide) (sa_cons (se_var (i := 1) rfl (by kernel_rfl)) sa_nil) (len_cons len_nil) (by kernel_rfl))) (sp_var (i := 3) rfl (by kernel_rfl))) (sw_or1 (t_cmp c_ne (SE.sp (SF.se (f_list (SE.sp (se_callF c_walls_of (show 6 ≤ 8 by decide) (sa_cons (se_var (i := 1) rfl (by kernel_rfl)) sa_nil) (len_cons len_nil) (by kernel_rfl))) h.b_list))) (SE.sp (SF.se (f_sorted (sp_var (i := 3) rfl (by kernel_rfl)) h.b_sorted))))))) (ss_one (ss_ret se_bl)) ss_nil) (ss_cons (ss_for (si_enum rfl (by kernel_rfl) h.b_enumerate (se_var (i := 2) rfl (by kernel_rfl))) (sg_tup (sgs_cons (sg_name (i := 8) rfl (by kernel_rfl)) (sgs_cons (sg_name (i := 7) rfl (by kernel_rfl)) sgs_nil)) (glen_cons (glen_cons glen_nil))) (ss_cons (ss_par2 (i := 11) (j := 12) rfl rfl (by decide) (by kernel_rfl) (by kernel_rfl) (sac_p (e_get (fun _ => h.T0) (sp_var (i := 5) rfl (by kernel_rfl)) (sp_var (i := 8) rfl (by kernel_rfl))) (sac_p (e_get (fun _ => h.T0) (sp_var (i := 5) rfl (by kernel_rfl)) (SE.sp (e_add (sp_var (i := 8) rfl (by kernel_rfl)) (SE.sp se_int)))) sac_nil)) rfl (fun X hX => swp_run hX rfl (by intro _; rfl))) (ss_cons (ss_set (i := 9) rfl (by kernel_rfl) (se_ite (t_cmp c_lt (SE.sp (e_add (sp_var (i := 8) rfl (by kernel_rfl)) (SE.sp se_int))) (SE.sp (e_len (sp_var (i := 2) rfl (by kernel_rfl)) h.b_len))) (e_get (fun _ => h.T0) (sp_var (i := 2) rfl (by kernel_rfl)) (SE.sp (e_add (sp_var (i := 8) rfl (by kernel_rfl)) (SE.sp se_int)))) se_non)) (ss_cons (ss_set (i := 10) rfl (by kernel_rfl) (se_ite (t_cmp c_gt (sp_var (i := 8) rfl (by kernel_rfl)) (SE.sp se_int)) (e_get (fun _ => h.T0) (sp_var (i := 2) rfl (by kernel_rfl)) (SE.sp (e_sub (sp_var (i := 8) rfl (by kernel_rfl)) (SE.sp se_int)))) se_non)) (ss_one (ss_if (SW.st (sw_or (t_cmp c_ne (SE.sp (se_callF c_room_beyond (show 6 ≤ 8 by decide) (sa_cons (se_var (i := 1) rfl (by kernel_rfl)) (sa_cons (se_var (i := 7) rfl (by kernel_rfl)) (sa_cons (se_var (i := 11) rfl (by kernel_rfl)) sa_nil))) (len_cons (len_cons (len_cons len_nil))) (by kernel_rfl))) (sp_var (i := 9) rfl (by kernel_rfl))) (sw_or1 (t_cmp c_ne (SE.sp (se_callF c_room_beyond (show 6 ≤ 8 by decide) (sa_cons (se_var (i := 1) rfl (by kernel_rfl)) (sa_cons (se_var (i := 7) rfl (by kernel_rfl)) (sa_cons (se_var (i := 12) rfl (by kernel_rfl)) sa_nil))) (len_cons (len_cons (len_cons len_nil))) (by kernel_rfl))) (sp_var (i := 10) rfl (by kernel_rfl)))))) (ss_one (ss_ret se_bl)) ss_nil)))))) (ss_one (ss_ret (se_and (se_callF c__law_ways_go (show 8 ≤ 8 by decide) (sa_cons (se_var (i := 0) rfl (by kernel_rfl)) (sa_cons (se_var (i := 1) rfl (by kernel_rfl)) (sa_cons (se_var (i := 5) rfl (by kernel_rfl)) (sa_cons (se_var (i := 2) rfl (by kernel_rfl)) sa_nil)))) (len_cons (len_cons (len_cons (len_cons len_nil)))) (by kernel_rfl)) (se_one (se_callF c__law_above_goes (show 8 ≤ 8 by decide) (sa_cons (se_var (i := 0) rfl (by kernel_rfl)) (sa_cons (se_var (i := 1) rfl (by kernel_rfl)) (sa_cons (se_var (i := 5) rfl (by kernel_rfl)) (sa_cons (se_var (i := 6) rfl (by kernel_rfl)) sa_nil)))) (len_cons (len_cons (len_cons (len_cons len_nil)))) (by kernel_rfl)))))))))))))))
theorem ok__law_goes {E : En} (h : Fc E) (c__law_ln_chain : FnS E 3 "_law_ln_chain" 1 F__law_ln_chain) (c__law_tastes : FnS E 2 "_law_tastes" 1 F__law_tastes) (c_face_counts : FnS E 5 "face_counts" 1 F_face_counts) (c__law_ways_go : FnS E 8 "_law_ways_go" 4 F__law_ways_go) (c__law_above_goes : FnS E 8 "_law_above_goes" 4 F__law_above_goes) (c_rooms_of : FnS E 5 "rooms_of" 1 F_rooms_of) (c_walls_of : FnS E 6 "walls_of" 1 F_walls_of) (c_homes_of : FnS E 6 "homes_of" 2 F_homes_of) (c_is_room : FnS E 5 "is_room" 2 F_is_room) (c_room_beyond : FnS E 6 "room_beyond" 3 F_room_beyond) : FnS E 9 "_law_goes" 2 F__law_goes := by
  obtain ⟨f, fd, FD, hm⟩ := h.d__law_goes
  exact fn_def (ps := ["draws", "book"]) FD ⟨rfl, rfl, rfl, by decide +kernel, rfl, by decide +kernel, by decide +kernel⟩ hm rfl (fun _ _ _ _ _ _ us hl => match us, hl with | [_, _], _ => rfl) (b__law_goes h c__law_ln_chain c__law_tastes c_face_counts c__law_ways_go c__law_above_goes c_rooms_of c_walls_of c_homes_of c_is_room c_room_beyond)
end Y
end

section
set_option Elab.async false
set_option linter.all false
set_option maxRecDepth 100000
set_option maxHeartbeats 0
set_option autoImplicit false
namespace Y
open PySem PySem.Spec L2
open PyProof.Rows hiding St
/-! ### the walk of the draws' begin -/
section
variable {C : SC} {sc : Scope} {X : Cx}
theorem pe_absC {p q pos : Pos} (hX : XOk C sc X) (hN : C.N[2]? = some ("cell" : Str)) (hv : VisB sc ("cell" : Str) = true) (hg : sc.names.lookup ("abs" : Str) = some .globalImplicit) (hm : C.mg ("abs" : Str) = none) : PE X (.Call (.Name "abs" p) [.Name "cell" q] [] pos) (tAbs 2) :=
  pe_callB call_abs (hX.gl hg) (by rw [hX.mg]; exact hm) boot_abs (pa_cons (pv_of hX hN hv (by decide) (by decide)) pa_nil)
theorem up_kind {z : Str} (hX : XOk C sc X) (hz : sc.names.lookup z = some .local) : X.env.scope.names.lookup z = some .local := by
  obtain ⟨k', w1, w2⟩ := hX.names _ _ hz
  rcases w2 with rfl | ⟨z, _⟩
  · exact w1
  · cases z
variable {scope : Scope} {own : List (Str × Nat)}
theorem pgB {p : Pos} (hX : XOk C sc X) (ok : BlkOk C.N sc scope own) (hN : C.N[2]? = some ("cell" : Str)) (hl : LocB scope ("cell" : Str) = true) : ∀ (s : Shared) (H : Hp) (A : Addr) (cl : List (Str × Addr)) (fp : List Addr), PG (X.blk s H scope (compEnvC scope cl A X.env) fp) (.Name "cell" p) (gName 2) := fun s H A cl fp => by
  have hB := blk_x hX ok s H A cl fp
  exact pg_name hB.nd (by rw [hB.N]; exact hN) (hB.loc hl).1 (hB.loc hl).2
theorem absB {p q pos : Pos} (hX : XOk C sc X) (ok : BlkOk C.N sc scope own) (hN : C.N[2]? = some ("cell" : Str)) (hv : VisB scope ("cell" : Str) = true) (hg : scope.names.lookup ("abs" : Str) = some .globalImplicit) (hm : C.mg ("abs" : Str) = none) :
    ∀ (s : Shared) (H : Hp) (A : Addr) (cl : List (Str × Addr)) (fp : List Addr), PE (X.blk s H scope (compEnvC scope cl A X.env) fp) (.Call (.Name "abs" p) [.Name "cell" q] [] pos) (tAbs 2) := fun s H A cl fp => pe_absC (blk_x hX ok s H A cl fp) hN hv hg hm
theorem eltB {p q pos p2 p3 p4 p5 : Pos} {j1 j2 : Nat} (hX : XOk C sc X) (ok : BlkOk C.N sc scope own) (hN : C.N[2]? = some ("cell" : Str)) (hv : VisB scope ("cell" : Str) = true) (hg : scope.names.lookup ("abs" : Str) = some .globalImplicit) (hm : C.mg ("abs" : Str) = none) :
    ∀ (s : Shared) (H : Hp) (A : Addr) (cl : List (Str × Addr)) (fp : List Addr), PE (X.blk s H scope (compEnvC scope cl A X.env) fp) (.BinOp (.Call (.Name "abs" p) [.Name "cell" q] [] pos) .Sub (.BinOp (.Constant (.int 10) j1 p2) .Pow (.Constant (.int 18) j2 p3) p4) p5) tGreatElt := fun s H A cl fp =>
  pe_op op_sub (pe_absC (blk_x hX ok s H A cl fp) hN hv hg hm) (pe_op op_pow pe_int pe_int)
theorem testB {p q pos p2 p3 p4 p5 : Pos} {j1 j2 : Nat} (hX : XOk C sc X) (ok : BlkOk C.N sc scope own) (hN : C.N[2]? = some ("cell" : Str)) (hv : VisB scope ("cell" : Str) = true) (hg : scope.names.lookup ("abs" : Str) = some .globalImplicit) (hm : C.mg ("abs" : Str) = none) :
    ∀ (s : Shared) (H : Hp) (A : Addr) (cl : List (Str × Addr)) (fp : List Addr), PTs (X.blk s H scope (compEnvC scope cl A X.env) fp) [.Compare (.Call (.Name "abs" p) [.Name "cell" q] [] pos) [.GtE] [.BinOp (.Constant (.int 10) j1 p2) .Pow (.Constant (.int 18) j2 p3) p4] p5] tGreatTest := fun s H A cl fp =>
  pts_one (pt_cmpR op_ge (pe_absC (blk_x hX ok s H A cl fp) hN hv hg hm) (pe_op op_pow pe_int pe_int) (by with_unfolding_all rfl))
end
abbrev ldS (E : En) (N : List Str) (k : Nat) : SC := ⟨E, N, k⟩
def N_begun : List Str := ["script", "great", "cell"]
theorem ok__law_begun {E : En} (h : Fc E) : ∃ (f : Addr) (fd : FuncData), FnOk E.P E.w E.K E.mg E.base CX0 1 f fd ["script"] (spBegun E.K) ∧ E.mg ("_law_begun" : Str) = some (.ref f) ∧ PySem.W.keepIn E.K (.ref f) = true ∧ Binds E.K fd ["script"] [] := by
  obtain ⟨f, fd, FD, hm⟩ := h.d__law_begun
  have S : FnScope N_begun ["script"] (defScope (Hd.top 52)) := ⟨rfl, rfl, rfl, by decide +kernel, rfl, by decide +kernel, by decide +kernel⟩
  refine ⟨f, fd, FD.ok S (fun vs H Q E' hs => ?_) (fun cdv A outer s H vs Q E' hr hs => ?_), hm, FD.kp, FD.bindsN (fun _ _ _ _ _ _ us hl => match us, hl with | [_], _ => rfl)⟩
  · obtain ⟨a, ns, rfl, _⟩ := hs
    rfl
  · have hX : XOk (ldS E N_begun 0) (defScope (Hd.top 52)) (cxOf CX0 E.P E.w E.K E.mg E.base N_begun "_law_begun" (defScope (Hd.top 52)) f cdv A outer s H E').nox :=
      ⟨rfl, rfl, rfl, rfl, rfl, rfl, rfl, PassesOwn.never, hr, S.nd, S.kind, fun y k' h => ⟨k', h, .inl rfl⟩, fun _ _ => rfl, fun _ h => h⟩
    refine ⟨tBegun E.K, PSs.nox ?_, pure_begun vs H Q E' hs⟩
    have zl : (cxOf CX0 E.P E.w E.K E.mg E.base N_begun "_law_begun" (defScope (Hd.top 52)) f cdv A outer s H E').nox.env.scope.names.lookup ("great" : Str) = some .local := up_kind hX (by kernel_rfl)
    have sw := fun (elt : Expr) (gs : List Comprehension) (scope : Scope) (pos py : Pos) (l : Nat) => sw_true (elt := elt) (gs := gs) (scope := scope) (pos := pos) (py := py) (l := l) hX.kind zl
    have B : ∀ {scope : Scope}, BlkOk N_begun (defScope (Hd.top 52)) scope [(("cell" : Str), 2)] → BlkOk (ldS E N_begun 0).N (defScope (Hd.top 52)) scope [(("cell" : Str), 2)] := fun h => h
    exact pss_cons (ps_setLc (i := 1) (own := [(("cell" : Str), 2)]) hX.calm hX.nd rfl zl (sw _ _ _ _ _ _ (by rfl) (by kernel_rfl)) (pi_list (pv_of (i := 0) hX rfl (by kernel_rfl) (by decide) (by decide)))
        (blk_ok hX (B ⟨rfl, by decide +kernel, by decide +kernel, by decide +kernel, by decide +kernel⟩))
        (pgB hX (B ⟨rfl, by decide +kernel, by decide +kernel, by decide +kernel, by decide +kernel⟩) rfl (by kernel_rfl)) (testB hX (B ⟨rfl, by decide +kernel, by decide +kernel, by decide +kernel, by decide +kernel⟩) rfl (by kernel_rfl) (by kernel_rfl) h.b_abs)
        (eltB hX (B ⟨rfl, by decide +kernel, by decide +kernel, by decide +kernel, by decide +kernel⟩) rfl (by kernel_rfl) (by kernel_rfl) h.b_abs))
      (pss_one (ps_ret (pe_disp (pps_cons pe_str (pv_of (i := 1) hX rfl (by kernel_rfl) (by decide) (by decide)) (pps_cons pe_str (pe_lc (own := [(("cell" : Str), 2)]) hX.calm hX.nd (pi_list (pv_of (i := 0) hX rfl (by kernel_rfl) (by decide) (by decide)))
        (blk_ok hX (B ⟨rfl, by decide +kernel, by decide +kernel, by decide +kernel, by decide +kernel⟩)) (pgB hX (B ⟨rfl, by decide +kernel, by decide +kernel, by decide +kernel, by decide +kernel⟩) rfl (by kernel_rfl)) (fun s H A cl fp => pts_nil)
        (absB hX (B ⟨rfl, by decide +kernel, by decide +kernel, by decide +kernel, by decide +kernel⟩) rfl (by kernel_rfl) (by kernel_rfl) h.b_abs)) (pps_cons pe_str pe_int (pps_cons pe_str pe_int pps_nil)))) rfl rfl (by simp) (by simp))))
end Y
end

section
set_option Elab.async false
set_option linter.all false
set_option maxRecDepth 100000
set_option maxHeartbeats 0
set_option autoImplicit false
namespace Y
open PySem PySem.Spec L2
open PyProof.Rows hiding St
def N_law : List Str := ["script", "draws", "turn", "book"]
def forBody : Stmt → List Stmt
  | .For _ _ b _ _ => b
  | _ => []
def lawS (j : Nat) : Stmt := (defBody (Hd.top 62)).getD j (.Pass ⟨0, 0, 0, 0⟩)
def B_body : SSem := (seqS (setS 3 (callF F__law_ln_two (consA (varE 1) (consA (cE (.int 8)) nilA)))) (ifS (andT (testE (bin neD (bin (getAD true) (peekE 3) (cE (.int 2))) (tupE 0 nilA))) (notT (testE (callF F__law_goes (consA (varE 1) (consA (varE 3) nilA)))))) (retS (cE (.bl false))) nilS))
def B_ret : SSem := (retS (callF F__law_goes (consA (varE 1) (consA (tupE 4 (consA (cE (.str "book")) (consA (tupE 2 (consA (cE (.int 3)) (consA (cE (.int 4)) nilA))) (consA (tupE 5 (consA (tupE 2 (consA (cE (.int 1)) (consA (cE (.int 1)) nilA))) (consA (tupE 2 (consA (cE (.int 2)) (consA (cE (.int 1)) nilA))) (consA (tupE 2 (consA (cE (.int 1)) (consA (cE (.int 2)) nilA))) (consA (tupE 2 (consA (cE (.int 1)) (consA (cE (.int 0)) nilA))) (consA (tupE 2 (consA (cE (.int 0)) (consA (cE (.int 3)) nilA))) nilA)))))) (consA (tupE 2 (consA (tupE 4 (consA (cE (.int 0)) (consA (cE (.int 1)) (consA (cE (.int 2)) (consA (cE (.int 3)) nilA))))) (consA (tupE 4 (consA (cE (.int 2)) (consA (cE (.int 4)) (consA (cE (.int 1)) (consA (cE (.int 0)) nilA))))) nilA))) nilA))))) nilA))))
theorem b_body {E : En} (h : Fc E) (c__law_goes : FnS E 9 "_law_goes" 2 F__law_goes) (c__law_ln_two : FnS E 5 "_law_ln_two" 2 F__law_ln_two) : SSs ⟨E, N_law, 9⟩ (defScope (Hd.top 62)) (forBody (lawS 1)) B_body :=
  (ss_cons (ss_set (i := 3) rfl (by kernel_rfl) (se_callF c__law_ln_two (show 5 ≤ 9 by decide) (sa_cons (se_var (i := 1) rfl (by kernel_rfl)) (sa_cons se_int sa_nil)) (len_cons (len_cons len_nil)) (by kernel_rfl))) (ss_one (ss_if (SW.st (sw_and (t_cmp c_ne (SE.sp (e_get (fun _ => h.T0) (sp_var (i := 3) rfl (by kernel_rfl)) (SE.sp se_int))) (SE.sp (se_tup sa_nil len_nil))) (sw_and1 (st_not (st_val (se_callF c__law_goes (show 9 ≤ 9 by decide) (sa_cons (se_var (i := 1) rfl (by kernel_rfl)) (sa_cons (se_var (i := 3) rfl (by kernel_rfl)) sa_nil)) (len_cons (len_cons len_nil)) (by kernel_rfl))))))) (ss_one (ss_ret se_bl)) ss_nil)))
theorem b_ret {E : En} (h : Fc E) (c__law_goes : FnS E 9 "_law_goes" 2 F__law_goes) (c__law_ln_two : FnS E 5 "_law_ln_two" 2 F__law_ln_two) : SS ⟨E, N_law, 9⟩ (defScope (Hd.top 62)) (lawS 2) B_ret := by
  refine ss_ret (se_callF c__law_goes (show 9 ≤ 9 by decide) (sa_cons (se_var (i := 1) rfl (by kernel_rfl)) ?_) (len_cons (len_cons len_nil)) (by kernel_rfl))
  repeat' (first | exact sa_nil | refine sa_cons ?_ ?_ | exact se_int | exact se_str | refine se_tup ?_ ?_ | exact len_nil | refine len_cons ?_)
end Y
end

section
set_option Elab.async false
set_option linter.all false
set_option maxRecDepth 100000
set_option maxHeartbeats 0
set_option autoImplicit false
namespace Y
open PySem PySem.Spec L2
open PyProof.Rows hiding St
/-! ### the law's own -/
def spLaw (K : PySem.W.Frag) : Sp := fun vs H Q _ => ∃ (a : Addr) (ns : List Int), vs = [.ref a] ∧ SqL K H a (ns.map V.int) ∧ ns.length ≤ 63 ∧ ∀ H', Q (.bl true) H'
def lawN (ns : List Int) : Int := 3 + (if 5 < (ns.length : Int) then 5 else (ns.length : Int))
def lawSem (ns : List Int) : M (Fl × List Var) := seqS (fun env => forGo (nameG 2) B_body (rangeL 0 (lawN ns)) env) B_ret [.u, .p .drw, .u, .u]
def LawHolds : Prop := ∀ ns : List Int, ns.length ≤ 63 → ∃ env' st', lawSem ns (beginSt ns) = some ((.rt (.p (.bl true)), env'), st')
def tCount (K : PySem.W.Frag) : TA := tCons (tOp (rI0 fun i j => .int (i + j)) (tC (.int 3)) (tCB (fun xs H Q => ∃ i j, xs = [.int i, .int j] ∧ Q (.int (if j < i then j else i)) H)
  (tCons (tCB (fun xs H Q => ∃ p ys, xs = [.ref p] ∧ (SqL K H p ys ∨ SqT K H p ys) ∧ Q (.int ys.length) H) (tCons (tVar 0) tNil)) (tCons (tC (.int 5)) tNil)))) tNil
theorem tCount_run {K : PySem.W.Frag} {a : Addr} {ns : List Int} {σ : St} {H : Hp} {Q : List V → Hp → Prop} (hS : SqL K H a (ns.map V.int)) (k : Q [.int (lawN ns)] H) : tCount K (some (.ref a) :: σ) H Q := by
  refine ⟨_, rfl, a, _, rfl, .inl hS, _, _, rfl, 3, _, rfl, rfl, ?_⟩
  rw [List.length_map]
  exact k
theorem ok_law {E : En} (h : Fc E) (c__law_goes : FnS E 9 "_law_goes" 2 F__law_goes) (c__law_ln_two : FnS E 5 "_law_ln_two" 2 F__law_ln_two) (hl : LawHolds) {f : Addr} {fd : FuncData} (FD : FunD E.K "law" "law" (defArgs (Hd.top 62)) (defBody (Hd.top 62)) (defScope (Hd.top 62)) [] [] f fd) : FnOk E.P E.w E.K E.mg E.base CX0 10 f fd ["script"] (spLaw E.K) := by
  have S : FnScope N_law ["script"] (defScope (Hd.top 62)) := ⟨rfl, rfl, rfl, by decide +kernel, rfl, by decide +kernel, by decide +kernel⟩
  refine FD.ok S (fun vs H Q E' hs => ?_) (fun cdv A outer s H vs Q E' hr hs => ?_)
  · obtain ⟨a, ns, rfl, _⟩ := hs
    rfl
  · have hX : XOk ⟨E, N_law, 9⟩ (defScope (Hd.top 62)) (cxOf CX0 E.P E.w E.K E.mg E.base N_law "law" (defScope (Hd.top 62)) f cdv A outer s H E').nox :=
      ⟨rfl, rfl, rfl, rfl, rfl, rfl, rfl, PassesOwn.never, hr, S.nd, S.kind, fun y k' h => ⟨k', h, .inl rfl⟩, fun _ _ => rfl, fun _ h => h⟩
    obtain ⟨fb, fdb, F1, F2, F3, F4⟩ := ok__law_begun h
    have bd := b_body h c__law_goes c__law_ln_two
    have br := b_ret h c__law_goes c__law_ln_two
    refine ⟨tSeq (tAsg (tCall (spBegun E.K) [] E0 (tCons (tVar 0) tNil)) (gName 1)) (tSeq (tFor (iRng1 (tCount E.K)) (gName 2) (tss ⟨E, N_law, 9⟩ (defScope (Hd.top 62)) (forBody (lawS 1)))) (ts ⟨E, N_law, 9⟩ (defScope (Hd.top 62)) (lawS 2))), PSs.nox ?_, ?_⟩
    · exact pss_cons (ps_set (i := 1) hX.nd rfl (hX.loc (x := "draws") (by kernel_rfl)).1 (pe_call F1 (hX.room.mono (show 1 ≤ 9 by decide)) (hX.gl (x := "_law_begun") (by kernel_rfl)) F2 F3 F4 .nil pass0 (pa_cons (pv_of (i := 0) hX rfl (by kernel_rfl) (by decide) (by decide)) pa_nil)) (by rfl) (hX.loc (x := "draws") (by kernel_rfl)).2)
        (pss_cons (ps_for hX.xe hX.calm (pi_range1 (hX.gl (x := "range") (by kernel_rfl)) h.b_range (pa_cons (pe_op op_add pe_int (pe_callB (call_min2 hX.calm) (hX.gl (x := "min") (by kernel_rfl)) h.b_min boot_min
            (pa_cons (pe_callB call_len_seq (hX.gl (x := "len") (by kernel_rfl)) h.b_len boot_len (pa_cons (pv_of (i := 0) hX rfl (by kernel_rfl) (by decide) (by decide)) pa_nil)) (pa_cons pe_int pa_nil)))) pa_nil)) (pg_name (i := 2) hX.nd rfl (hX.loc (x := "turn") (by kernel_rfl)).1 (hX.loc (x := "turn") (by kernel_rfl)).2) (pss_tss hX))
          (pss_one (ps_ts hX)))
    · obtain ⟨a, ns, rfl, hS, hlen, hQ⟩ := hs
      obtain ⟨env', st', hrun⟩ := hl ns hlen
      have e0 : L2.start N_law [V.ref a] = [some (.ref a), none, none, none] := rfl
      rw [e0]
      unfold tSeq tAsg
      refine ⟨_, rfl, a, ns, rfl, hS, hlen, fun q H1 sm dr out => ?_⟩
      dsimp only [gName]
      rw [show ([some (V.ref a), none, none, none] : St).set 1 (some (V.ref q.d)) = [some (.ref a), some (.ref q.d), none, none] from rfl]
      have hS1 : SqL E.K H1 a (ns.map V.int) := by
        rcases hS with hS | hS
        · refine .inl ?_
          rcases hS with h | ⟨o, h⟩
          · exact .inl (sm _ _ h)
          · exact .inr ⟨o, sm _ _ h⟩
        · exact .inr hS
      obtain ⟨⟨fl, env1⟩, s1, w1, w2⟩ := M.bd_some hrun
      have em : Same (fun _ => none) H1 := fun b o e => by cases e
      have g0 : GS E.T q (fun _ => none) H1 (fun _ => none) H1 [some (.ref a), some (.ref q.d), none, none] [.u, .p .drw, .u, .u] (beginSt ns) := by
        refine ⟨Ext.refl em, ⟨_, dr⟩, dr, fun _ _ => rfl, rfl, fun i x hx => ?_, fun i j d e h1 h2 _ => ?_⟩
        · match i, hx with
          | 0, hx => cases hx; trivial
          | 1, hx => cases hx; exact ⟨_, rfl, .drw⟩
          | 2, hx => cases hx; trivial
          | 3, hx => cases hx; trivial
          | n + 4, hx => cases hx
        · match i, h1 with
          | 0, h1 => cases h1
          | 1, h1 => cases h1
          | 2, h1 => cases h1
          | 3, h1 => cases h1
          | n + 4, h1 => cases h1
      have hn : 0 ≤ lawN ns ∧ lawN ns ≤ 8 := by
        unfold lawN
        split <;> omega
      unfold tFor iRng1
      refine tCount_run hS1 ⟨lawN ns, rfl, by omega, by omega, ?_⟩
      have wk := wk_range (T := E.T) (q := q) (B1 := fun _ => none) (lo := 0) (hi := lawN ns) (by omega)
      rw [Int.sub_zero] at wk
      have hlen : (rangeL 0 (lawN ns)).length = (lawN ns).toNat := by unfold rangeL; rw [List.length_map, List.length_range, Int.sub_zero]
      have hw := wk.w
      rw [hlen] at hw
      have fin : ∀ {σ' : St} {H' : Hp} {B' : Hp} {en : List Var} {s2 : DS}, GS E.T q (fun _ => none) H1 B' H' σ' en s2 → B_ret en s2 = some ((.rt (.p (.bl true)), env'), st') → ts ⟨E, N_law, 9⟩ (defScope (Hd.top 62)) (lawS 2) { nx := fun _ H' => Q .non H', rt := Q } σ' H' := fun g' hr' =>
        br q _ H1 _ _ _ _ _ _ _ _ _ g' hr' fun v B2 H2 e2 d2 ro => by
          have rb : v = .bl true := rep_bl ro
          rw [rb]
          exact hQ _
      refine for_it hw (fun i σ' H' => ∃ B' en s2, GS E.T q (fun _ => none) H1 B' H' σ' en s2 ∧ forGo (nameG 2) B_body ((rangeL 0 (lawN ns)).drop i) en s2 = some ((fl, env1), s1)) ⟨_, _, _, g0, w1⟩ (fun i σ' H' _ _ => fun b o e => by cases e) (fun i x σ' H' H2 hi' hP hy => ?_) fun σ' H' hP => ?_
      · obtain ⟨B', en, s2, g', hgo⟩ := hP
        obtain ⟨d, B2, hd, e2, r2⟩ := hy B' (fun b o e => by cases e) g'.sub
        have hdr : (rangeL 0 (lawN ns)).drop i = d :: (rangeL 0 (lawN ns)).drop (i + 1) := by
          obtain ⟨hl, he⟩ := List.getElem?_eq_some_iff.mp hd
          rw [← he]
          exact List.drop_eq_getElem_cons hl
        rw [hdr] at hgo
        obtain ⟨en2, s3, h3, h4⟩ := M.bd_some hgo
        obtain ⟨h3', rfl⟩ := M.lf_some h3
        cases h3'
        obtain ⟨⟨fl2, en3⟩, s4, h5, h6⟩ := M.bd_some h4
        have g2 := (g'.step0 e2).setP 2 r2
        refine bd q _ H1 B2 H2 _ _ _ fl2 en3 s4 _ g2 h5 ?_
        cases fl2 with
        | nx => exact fun σ4 B4 H4 s4' g4 => ⟨B4, en3, s4, g4, h6⟩
        | ct => exact fun σ4 B4 H4 s4' g4 => ⟨B4, en3, s4, g4, h6⟩
        | bk =>
          obtain ⟨h7, rfl⟩ := M.ret_some h6
          cases h7
          exact fun σ4 B4 H4 s4' g4 => fin g4 w2
        | rt r =>
          obtain ⟨h7, rfl⟩ := M.ret_some h6
          cases h7
          obtain ⟨h8, _⟩ := M.ret_some w2
          cases h8
          exact fun v B4 H4 e4 d4 ro => by
            have rb : v = .bl true := rep_bl ro
            rw [rb]
            exact hQ _
      · obtain ⟨B', en, s2, g', hgo⟩ := hP
        rw [List.drop_eq_nil_of_le (by rw [hlen]; exact Nat.le_refl _)] at hgo
        obtain ⟨h7, rfl⟩ := M.ret_some hgo
        cases h7
        exact fin g' w2
end Y
end

section
set_option Elab.async false
set_option linter.all false
set_option autoImplicit false
namespace Y
open PySem PySem.Spec L2
open PyProof.Rows hiding St
/-! ### the semantics of loops over lists that are told by plain Lean -/
theorem compGo_pure {α : Type} {g : GSem} {c : TSem} {f : ESem} {env0 : List Var} {st : DS} (enc : α → D) (p : α → Bool) (h : α → D) : ∀ (xs : List α),
    (∀ x ∈ xs, ∃ env1, g (enc x) env0 = some env1 ∧ c env1 st = some (p x, st) ∧ (p x = true → f env1 st = some (h x, st))) → compGo g c f env0 (xs.map enc) st = some ((xs.filter p).map h, st)
  | [], _ => rfl
  | x :: xs, hx => by
    obtain ⟨env1, h1, h2, h3⟩ := hx x List.mem_cons_self
    have ih := compGo_pure enc p h xs fun y hy => hx y (List.mem_cons_of_mem _ hy)
    rw [List.map_cons]
    unfold compGo
    simp only [M.bd, M.lf, h1, h2]
    cases hp : p x with
    | true =>
      simp only [if_true, M.bd, M.ret, h3 hp, ih]
      rw [List.filter_cons_of_pos hp, List.map_cons]
    | false =>
      simp only [Bool.false_eq_true, if_false, ih]
      rw [List.filter_cons_of_neg (by rw [hp]; decide)]
theorem forGo_fold {α : Type} {g : GSem} {F : SSem} (enc : α → D) (I : List α → List Var → DS → Prop) : ∀ (xs done : List α) (env : List Var) (st : DS), I done env st →
    (∀ done x env st, I done env st → ∃ env1 env2 st2, g (enc x) env = some env1 ∧ F env1 st = some ((.nx, env2), st2) ∧ I (done ++ [x]) env2 st2) → ∃ env' st', forGo g F (xs.map enc) env st = some ((.nx, env'), st') ∧ I (done ++ xs) env' st'
  | [], done, env, st, h, _ => ⟨env, st, rfl, by rw [List.append_nil]; exact h⟩
  | x :: xs, done, env, st, h, hs => by
    obtain ⟨env1, env2, st2, h1, h2, h3⟩ := hs done x env st h
    obtain ⟨env', st', h4, h5⟩ := forGo_fold enc I xs (done ++ [x]) env2 st2 h3 hs
    refine ⟨env', st', ?_, by rw [List.append_assoc] at h5; exact h5⟩
    rw [List.map_cons]
    unfold forGo
    simp only [M.bd, M.lf, h1, h2, h4]
end Y
namespace Y
open PySem PySem.Spec L2
open PyProof.Rows hiding St
/-! ### one lemma for each combinator: what it gives, from what its parts give -/
section
variable {env env1 env2 : List Var} {st s1 s2 s3 : DS} {d x y : D} {ds : List D} {f g : ESem} {fs : ASem} {F G : SSem} {c : TSem}
theorem ev_bd {α β : Type} {m : M α} {k : α → M β} {a : α} {r : Option (β × DS)} (h : m st = some (a, s1)) (h2 : k a s1 = r) : M.bd m k st = r := by
  unfold M.bd
  rw [h]
  exact h2
theorem ev_var {i : Nat} (h : env[i]? = some (.p d)) : varE i env st = some (d, st) := by unfold varE; rw [h]
theorem ev_peek {i : Nat} (h : env[i]? = some (.p d)) : peekE i env st = some (d, st) := by unfold peekE; rw [h]
theorem ev_peekO {i : Nat} (h : env[i]? = some (.o d)) : peekE i env st = some (d, st) := by unfold peekE; rw [h]
theorem ev_c : cE d env st = some (d, st) := rfl
theorem ev_bin {k : D → D → Option D} (h1 : f env st = some (x, s1)) (h2 : g env s1 = some (y, s2)) (h3 : k x y = some d) : bin k f g env st = some (d, s2) := ev_bd h1 (ev_bd h2 (by unfold M.lf; rw [h3]))
theorem ev_un {k : D → Option D} (h1 : f env st = some (x, s1)) (h3 : k x = some d) : un k f env st = some (d, s1) := ev_bd h1 (by unfold M.lf; rw [h3])
theorem ev_nil : nilA env st = some ([], st) := rfl
theorem ev_cons (h1 : f env st = some (x, s1)) (h2 : fs env s1 = some (ds, s2)) : consA f fs env st = some (x :: ds, s2) := ev_bd h1 (ev_bd h2 rfl)
theorem ev_tup {n : Nat} (h : fs env st = some (ds, s1)) : tupE n fs env st = some (.tup ds, s1) := ev_bd h rfl
theorem ev_lst (h : fs env st = some (ds, s1)) : lstE fs env st = some (.lst ds, s1) := ev_bd h rfl
theorem ev_callE {k : List D → Option D} (h : fs env st = some (ds, s1)) (h2 : k ds = some d) : callE k fs env st = some (d, s1) := ev_bd h (by unfold M.lf; rw [h2])
theorem ev_callF {K : FSem} (h : fs env st = some (ds, s1)) (h2 : K ds s1 = some (.p d, s2)) : callF K fs env st = some (d, s2) := ev_bd h (ev_bd h2 rfl)
theorem ev_callFo {K : FSem} (h : fs env st = some (ds, s1)) (h2 : K ds s1 = some (.o d, s2)) : callF K fs env st = some (d, s2) := ev_bd h (ev_bd h2 rfl)
theorem ev_test {b : Bool} (h : f env st = some (.bl b, s1)) : testE f env st = some (b, s1) := ev_bd h rfl
theorem ev_not {b : Bool} (h : c env st = some (b, s1)) : notT c env st = some (!b, s1) := ev_bd h rfl
theorem ev_ret (h : f env st = some (d, s1)) : retS f env st = some ((.rt (.p d), env), s1) := ev_bd h rfl
theorem ev_set {i : Nat} (h : f env st = some (d, s1)) : setS i f env st = some ((.nx, env.set i (.p d)), s1) := ev_bd h rfl
theorem ev_setO {i : Nat} (h : f env st = some (d, s1)) : setOS i f env st = some ((.nx, env.set i (.o d)), s1) := ev_bd h rfl
theorem ev_seq {r : Option ((Fl × List Var) × DS)} (h : F env st = some ((.nx, env1), s1)) (h2 : G env1 s1 = r) : seqS F G env st = r := ev_bd h h2
theorem ev_seqR {v : Var} (h : F env st = some ((.rt v, env1), s1)) : seqS F G env st = some ((.rt v, env1), s1) := ev_bd h rfl
theorem ev_ifT {r : Option ((Fl × List Var) × DS)} (h : c env st = some (true, s1)) (h2 : F env s1 = r) : ifS c F G env st = r := ev_bd h (by rw [if_pos rfl]; exact h2)
theorem ev_ifF {r : Option ((Fl × List Var) × DS)} (h : c env st = some (false, s1)) (h2 : G env s1 = r) : ifS c F G env st = r := ev_bd h (by rw [if_neg (by decide)]; exact h2)
theorem ev_body {N : List Str} {v : Var} (h : F (startE N ds) st = some ((.rt v, env1), s1)) : bodyF N F ds st = some (v, s1) := ev_bd h rfl
theorem ev_bodyN {N : List Str} (h : F (startE N ds) st = some ((.nx, env1), s1)) : bodyF N F ds st = some (.p .non, s1) := ev_bd h rfl
theorem ev_comp {it : ISem} {gg : GSem} {vs : List Nat} {items : List D} (h : it env st = some (items, s1)) (h2 : compGo gg c f (wipeE env vs) items s1 = some (ds, s2)) : compE it gg c f vs env st = some (.lst ds, s2) := ev_bd h (ev_bd h2 rfl)
theorem ev_seqI {items : List D} (h : f env st = some (d, s1)) (h2 : asSeq d = some items) : seqI f env st = some (items, s1) := ev_bd h (by unfold M.lf; rw [h2])
end
end Y
end

section
set_option linter.all false
set_option autoImplicit false
namespace Y
/-! ### two tastes, plain -/
def cols (n : Nat) : List Int := (List.range n).map fun (i : Nat) => (i : Int)
theorem mem_cols {n : Nat} {c : Int} : c ∈ cols n ↔ 0 ≤ c ∧ c < n := by
  unfold cols
  rw [List.mem_map]
  constructor
  · rintro ⟨i, h, rfl⟩
    have := List.mem_range.mp h
    omega
  · rintro ⟨h1, h2⟩
    exact ⟨c.toNat, List.mem_range.mpr (by omega), by omega⟩
structure Tst (n : Nat) (p q : Int → Int) : Prop where
  n2 : 2 ≤ n
  n10 : n ≤ 10
  pr : ∀ c : Int, 0 ≤ c → c < n → 0 ≤ p c ∧ p c < n
  qr : ∀ c : Int, 0 ≤ c → c < n → 0 ≤ q c ∧ q c < n
  pi : ∀ a b, a ∈ cols n → b ∈ cols n → p a = p b → a = b
  qi : ∀ a b, a ∈ cols n → b ∈ cols n → q a = q b → a = b
  p0 : p 0 = 0
  p1 : p 1 = n - 1
  q1 : q 1 = 0
  q0 : q 0 = n - 1
def Mx (n : Nat) (p q : Int → Int) (c : Int) : Prop := ∀ o ∈ cols n, ¬ (p c < p o ∧ q c < q o)
def mn (a b : Int) : Int := if a ≤ b then a else b
def Rm (n : Nat) (p q : Int → Int) (a b : Int) : Prop := ∀ o ∈ cols n, ¬ (mn (p a) (p b) < p o ∧ mn (q a) (q b) < q o)
theorem mn_comm (a b : Int) : mn a b = mn b a := by unfold mn; split <;> split <;> omega
theorem Rm.symm {n : Nat} {p q : Int → Int} {a b : Int} (h : Rm n p q a b) : Rm n p q b a := by
  unfold Rm at *
  rw [mn_comm (p b), mn_comm (q b)]; exact h
section
variable {n : Nat} {p q : Int → Int}
theorem Tst.dom (t : Tst n p q) : ∀ (k : Nat) (c : Int), c ∈ cols n → (2 * n - p c - q c).toNat ≤ k → ∃ d ∈ cols n, Mx n p q d ∧ p c ≤ p d ∧ q c ≤ q d
  | 0, c, hc, hk => by
    have h := mem_cols.mp hc
    have := t.pr c h.1 h.2
    have := t.qr c h.1 h.2
    omega
  | k + 1, c, hc, hk => by
    by_cases hm : Mx n p q c
    · exact ⟨c, hc, hm, Int.le_refl _, Int.le_refl _⟩
    · unfold Mx at hm
      simp only [Classical.not_forall, Classical.not_not] at hm
      obtain ⟨o, ho, h1, h2⟩ := hm
      obtain ⟨d, hd, h3, h4, h5⟩ := t.dom k o ho (by omega)
      exact ⟨d, hd, h3, by omega, by omega⟩
theorem Rm.left {a b : Int} (h : Rm n p q a b) : Mx n p q a := fun o ho ⟨h1, h2⟩ => by
  have := h o ho
  unfold mn at this
  split at this <;> split at this <;> omega
/-- the chain: all columns that no other one is above for both, as they rise for the first person -/
structure Chn (n : Nat) (p q : Int → Int) (L : Nat) (x : Nat → Int) : Prop where
  inC : ∀ i, i < L → x i ∈ cols n
  mx : ∀ i, i < L → Mx n p q (x i)
  up : ∀ i j, i < j → j < L → p (x i) < p (x j)
  all : ∀ c, c ∈ cols n → Mx n p q c → ∃ i, i < L ∧ c = x i
variable {L : Nat} {x : Nat → Int}
theorem Chn.dn (t : Tst n p q) (h : Chn n p q L x) (i j : Nat) (hij : i < j) (hj : j < L) : q (x j) < q (x i) := by
  have h1 := h.up i j hij hj
  have h2 := h.mx i (by omega) (x j) (h.inC j hj)
  have h3 : q (x i) ≠ q (x j) := fun e => by
    have := t.qi _ _ (h.inC i (by omega)) (h.inC j hj) e
    rw [this] at h1; omega
  omega
theorem Chn.inj (h : Chn n p q L x) {i j : Nat} (hi : i < L) (hj : j < L) (e : x i = x j) : i = j := by
  rcases Nat.lt_trichotomy i j with h1 | h1 | h1
  · have := h.up i j h1 hj; rw [e] at this; omega
  · exact h1
  · have := h.up j i h1 hi; rw [e] at this; omega
theorem Chn.L2 (t : Tst n p q) (h : Chn n p q L x) : 2 ≤ L := by
  have n2 := t.n2
  have m0 : Mx n p q 0 := fun o ho ⟨_, h2⟩ => by
    have := mem_cols.mp ho; have := t.qr o this.1 this.2; have := t.q0; omega
  have m1 : Mx n p q 1 := fun o ho ⟨h2, _⟩ => by
    have := mem_cols.mp ho; have := t.pr o this.1 this.2; have := t.p1; omega
  obtain ⟨i, hi, ei⟩ := h.all 0 (mem_cols.mpr (by omega)) m0
  obtain ⟨j, hj, ej⟩ := h.all 1 (mem_cols.mpr (by omega)) m1
  have : i ≠ j := fun e => by rw [e, ← ej] at ei; omega
  omega
theorem Chn.first (t : Tst n p q) (h : Chn n p q L x) : x 0 = 0 := by
  have n2 := t.n2
  have m0 : Mx n p q 0 := fun o ho ⟨_, h2⟩ => by
    have := mem_cols.mp ho; have := t.qr o this.1 this.2; have := t.q0; omega
  obtain ⟨i, hi, ei⟩ := h.all 0 (mem_cols.mpr (by omega)) m0
  by_cases e : i = 0
  · rw [e] at ei; exact ei.symm
  · have h1 := h.up 0 i (by omega) hi
    have h2 := mem_cols.mp (h.inC 0 (by omega))
    have := t.pr _ h2.1 h2.2
    rw [← ei, t.p0] at h1; omega
theorem Chn.last (t : Tst n p q) (h : Chn n p q L x) : x (L - 1) = 1 := by
  have n2 := t.n2
  have m1 : Mx n p q 1 := fun o ho ⟨h2, _⟩ => by
    have := mem_cols.mp ho; have := t.pr o this.1 this.2; have := t.p1; omega
  obtain ⟨i, hi, ei⟩ := h.all 1 (mem_cols.mpr (by omega)) m1
  by_cases e : i = L - 1
  · rw [e] at ei; exact ei.symm
  · have h1 := h.up i (L - 1) (by omega) (by omega)
    have h2 := mem_cols.mp (h.inC (L - 1) (by omega))
    have := t.pr _ h2.1 h2.2
    rw [← ei, t.p1] at h1; omega
theorem Chn.next (t : Tst n p q) (h : Chn n p q L x) (i : Nat) (hi : i + 1 < L) : Rm n p q (x i) (x (i + 1)) := fun c hc ⟨h1, h2⟩ => by
  have u := h.up i (i + 1) (by omega) hi
  have d := h.dn t i (i + 1) (by omega) hi
  unfold mn at h1 h2
  rw [if_pos (by omega)] at h1
  rw [if_neg (by omega)] at h2
  obtain ⟨z, hz, hm, h3, h4⟩ := t.dom _ c hc (Nat.le_refl _)
  obtain ⟨k, hk, rfl⟩ := h.all z hz hm
  have k1 : i < k := by
    rcases Nat.lt_trichotomy i k with e | e | e
    · exact e
    · rw [← e] at h3; omega
    · have := h.up k i e (by omega); omega
  have k2 : k < i + 1 := by
    rcases Nat.lt_trichotomy k (i + 1) with e | e | e
    · exact e
    · rw [e] at h4; omega
    · have := h.dn t (i + 1) k e hk; omega
  omega
theorem Chn.conv (t : Tst n p q) (h : Chn n p q L x) (i j : Nat) (hij : i < j) (hj : j < L) (hr : Rm n p q (x i) (x j)) : j = i + 1 := by
  by_cases e : j = i + 1
  · exact e
  · exfalso
    have u := h.up i j (by omega) hj
    have d := h.dn t i j (by omega) hj
    have u1 := h.up i (i + 1) (by omega) (by omega)
    have d1 := h.dn t (i + 1) j (by omega) hj
    refine hr (x (i + 1)) (h.inC _ (by omega)) ⟨?_, ?_⟩
    · unfold mn; rw [if_pos (by omega)]; exact u1
    · unfold mn; rw [if_neg (by omega)]; exact d1
/-- the rooms are the neighbours along the chain -/
theorem Chn.room (t : Tst n p q) (h : Chn n p q L x) {a b : Int} (ha : a ∈ cols n) (hb : b ∈ cols n) (ne : a ≠ b) :
    Rm n p q a b ↔ ∃ i, i + 1 < L ∧ ((a = x i ∧ b = x (i + 1)) ∨ (b = x i ∧ a = x (i + 1))) := by
  constructor
  · intro hr
    obtain ⟨i, hi, rfl⟩ := h.all a ha hr.left
    obtain ⟨j, hj, rfl⟩ := h.all b hb hr.symm.left
    rcases Nat.lt_trichotomy i j with e | e | e
    · have := h.conv t i j e hj hr
      subst this
      exact ⟨i, hj, .inl ⟨rfl, rfl⟩⟩
    · subst e; exact absurd rfl ne
    · have := h.conv t j i e hi hr.symm
      subst this
      exact ⟨j, hi, .inr ⟨rfl, rfl⟩⟩
  · rintro ⟨i, hi, ⟨rfl, rfl⟩ | ⟨rfl, rfl⟩⟩
    · exact h.next t i hi
    · exact (h.next t i hi).symm
/-- the rooms that have a given column of the chain -/
theorem Chn.nbr (t : Tst n p q) (h : Chn n p q L x) {j : Nat} (hj : j < L) {c : Int} (hc : c ∈ cols n) (ne : c ≠ x j) :
    Rm n p q (x j) c ↔ (j + 1 < L ∧ c = x (j + 1)) ∨ (0 < j ∧ c = x (j - 1)) := by
  rw [h.room t (h.inC j hj) hc (Ne.symm ne)]
  constructor
  · rintro ⟨i, hi, ⟨e1, e2⟩ | ⟨e1, e2⟩⟩
    · have := h.inj (by omega) (by omega) e1
      subst this
      exact .inl ⟨hi, e2⟩
    · have := h.inj (by omega) (by omega) e2
      subst this
      exact .inr ⟨by omega, e1⟩
  · rintro (⟨h1, rfl⟩ | ⟨h1, rfl⟩)
    · exact ⟨j, h1, .inl ⟨rfl, rfl⟩⟩
    · refine ⟨j - 1, by omega, .inr ⟨rfl, ?_⟩⟩
      rw [Nat.sub_add_cancel h1]
end
end Y
end

section
set_option linter.all false
set_option autoImplicit false
namespace Y
/-! ### ways along a chain, plain -/
section
variable (L : Nat) (x : Nat → Int)
def upR (i : Nat) : Option Nat := if i + 2 < L then some (i + 1) else none
def dnR (i : Nat) : Option Nat := if 0 < i then some (i - 1) else none
def wayOk : List Int → Option Nat → Nat → Bool
  | [], h, t => h == some t
  | _ :: _, none, _ => false
  | c :: cs, some i, t => if c = x i then wayOk cs (upR L i) t else if c = x (i + 1) then wayOk cs (dnR i) t else false
def upL (x : Nat → Int) : Nat → Nat → List Int
  | _, 0 => []
  | i, k + 1 => x i :: upL x (i + 1) k
def dnL (x : Nat → Int) : Nat → Nat → List Int
  | _, 0 => []
  | i, k + 1 => x (i + 1) :: dnL x (i - 1) k
end
section
variable {L : Nat} {x : Nat → Int}
theorem way_up : ∀ (k i t : Nat), i + k + 1 < L → wayOk L x (upL x i k) (some i) t = (i + k == t)
  | 0, i, t, _ => by simp [upL, wayOk]
  | k + 1, i, t, h => by
    have e : upR L i = some (i + 1) := by unfold upR; rw [if_pos (by omega)]
    rw [upL, wayOk, if_pos rfl, e, way_up k (i + 1) t (by omega)]
    congr 1; omega
theorem way_dn (inj : ∀ i j, i < L → j < L → x i = x j → i = j) : ∀ (k i t : Nat), k ≤ i → i + 1 < L → wayOk L x (dnL x i k) (some i) t = (i - k == t)
  | 0, i, t, _, _ => by simp [dnL, wayOk]
  | k + 1, i, t, h, h2 => by
    have e : dnR i = some (i - 1) := by unfold dnR; rw [if_pos (by omega)]
    rw [dnL, wayOk, if_neg (fun e => by have := inj _ _ h2 (by omega) e; omega), if_pos rfl, e, way_dn inj k (i - 1) t (by omega) (by omega)]
    congr 1; omega
theorem way_none {t : Nat} {c : Int} {cs : List Int} : wayOk L x (c :: cs) none t = false := rfl
theorem upL_drop : ∀ (k i : Nat), (upL x i (k + 1)).dropLast = upL x i k
  | 0, i => rfl
  | k + 1, i => by
    rw [upL, upL, List.dropLast_cons_cons, ← upL, upL_drop k (i + 1), ← upL]
theorem dnL_drop : ∀ (k i : Nat), (dnL x i (k + 1)).dropLast = dnL x i k
  | 0, i => rfl
  | k + 1, i => by
    rw [dnL, dnL, List.dropLast_cons_cons, ← dnL, dnL_drop k (i - 1), ← dnL]
theorem way_up_rot (inj : ∀ i j, i < L → j < L → x i = x j → i = j) (k i t : Nat) (h : i + k + 3 < L) (ht : t = i + k + 2) : wayOk L x (upL x (i + 1) (k + 1) ++ [x i]) (some i) t = false := by
  rw [upL, List.cons_append, wayOk, if_neg (fun e => by have := inj _ _ (by omega) (by omega) e; omega), if_pos rfl]
  unfold dnR
  by_cases h0 : 0 < i
  · rw [if_pos h0]
    cases k with
    | zero =>
      rw [upL, List.nil_append, wayOk, if_neg (fun e => by have := inj _ _ (by omega) (by omega) e; omega), if_pos (by rw [Nat.sub_add_cancel h0])]
      unfold dnR wayOk
      split
      · simp; omega
      · rfl
    | succ k =>
      rw [upL, List.cons_append, wayOk, if_neg (fun e => by have := inj _ _ (by omega) (by omega) e; omega), if_neg (fun e => by have := inj _ _ (by omega) (by omega) e; omega)]
  · rw [if_neg h0]
    cases k with
    | zero => rfl
    | succ k => rfl
theorem way_dn_rot (inj : ∀ i j, i < L → j < L → x i = x j → i = j) (k i t : Nat) (h : i + 1 < L) (hk : k + 2 ≤ i) (ht : t = i - (k + 2)) : wayOk L x (dnL x (i - 1) (k + 1) ++ [x (i + 1)]) (some i) t = false := by
  rw [dnL, List.cons_append, wayOk, if_pos (by rw [Nat.sub_add_cancel (by omega)])]
  unfold upR
  by_cases h0 : i + 2 < L
  · rw [if_pos h0]
    cases k with
    | zero =>
      rw [dnL, List.nil_append, wayOk, if_pos rfl]
      unfold upR wayOk
      split
      · simp; omega
      · rfl
    | succ k =>
      rw [dnL, List.cons_append, wayOk, if_neg (fun e => by have := inj _ _ (by omega) (by omega) e; omega), if_neg (fun e => by have := inj _ _ (by omega) (by omega) e; omega)]
  · rw [if_neg h0]
    cases k with
    | zero => rfl
    | succ k => rfl
theorem way_up_two (inj : ∀ i j, i < L → j < L → x i = x j → i = j) (i t : Nat) (h : i + 2 < L) : wayOk L x [x i, x i] (some i) t = false := by
  rw [wayOk, if_pos rfl]
  unfold upR
  rw [if_pos h, wayOk, if_neg (fun e => by have := inj _ _ (by omega) (by omega) e; omega), if_neg (fun e => by have := inj _ _ (by omega) (by omega) e; omega)]
theorem way_dn_two (inj : ∀ i j, i < L → j < L → x i = x j → i = j) (i t : Nat) (h : i + 1 < L) (h0 : 0 < i) : wayOk L x [x (i + 1), x (i + 1)] (some i) t = false := by
  rw [wayOk, if_neg (fun e => by have := inj _ _ (by omega) (by omega) e; omega), if_pos rfl]
  unfold dnR
  rw [if_pos h0, wayOk, if_neg (fun e => by have := inj _ _ (by omega) (by omega) e; omega), if_neg (fun e => by have := inj _ _ (by omega) (by omega) e; omega)]
/-- lists cut from the chain -/
theorem upL_eq {Ch : List Int} (hx : ∀ i, i < Ch.length → Ch[i]? = some (x i)) : ∀ (k i : Nat), i + k ≤ Ch.length → (Ch.drop i).take k = upL x i k
  | 0, i, _ => by simp [upL]
  | k + 1, i, h => by
    have h1 : i < Ch.length := by omega
    rw [List.drop_eq_getElem_cons h1, List.take_succ_cons, upL_eq hx k (i + 1) (by omega), upL]
    congr 1
    have h2 := hx i h1
    rw [List.getElem?_eq_getElem h1] at h2
    exact Option.some.inj h2
theorem dnL_eq {Ch : List Int} (hx : ∀ i, i < Ch.length → Ch[i]? = some (x i)) : ∀ (k i : Nat), k ≤ i → i + 1 < Ch.length → ((Ch.drop (i + 2 - k)).take k).reverse = dnL x i k
  | 0, i, _, _ => by simp [dnL]
  | k + 1, i, h, h2 => by
    have e : (Ch.drop (i + 2 - (k + 1))).take (k + 1) = (Ch.drop (i - 1 + 2 - k)).take k ++ [x (i + 1)] := by
      rw [List.take_add_one, show i + 2 - (k + 1) = i - 1 + 2 - k by omega, List.getElem?_drop, show i - 1 + 2 - k + k = i + 1 by omega, hx (i + 1) h2]
      rfl
    rw [e, List.reverse_append, dnL_eq hx k (i - 1) (by omega) (by omega), dnL]
    rfl
/-- a way that leads from room i to room j whatever follows -/
def Leads (L : Nat) (x : Nat → Int) (w : List Int) (i j : Nat) : Prop := ∀ (r : List Int) (t : Nat), wayOk L x (w ++ r) (some i) t = wayOk L x r (some j) t
theorem leads_nil {i : Nat} : Leads L x [] i i := fun _ _ => rfl
theorem leads_ok {w : List Int} {i j : Nat} (h : Leads L x w i j) : wayOk L x w (some i) j = true := by
  have := h [] j
  rw [List.append_nil] at this
  rw [this]
  simp [wayOk]
theorem leads_up {w : List Int} {i j : Nat} (h : Leads L x w i j) (hj : j + 2 < L) : Leads L x (w ++ [x j]) i (j + 1) := fun r t => by
  rw [List.append_assoc, h]
  show wayOk L x (x j :: r) _ _ = _
  rw [wayOk, if_pos rfl]
  unfold upR
  rw [if_pos hj]
theorem leads_dn (inj : ∀ i j, i < L → j < L → x i = x j → i = j) {w : List Int} {i j : Nat} (h : Leads L x w i j) (hj : 0 < j) (hL : j + 1 < L) : Leads L x (w ++ [x (j + 1)]) i (j - 1) := fun r t => by
  rw [List.append_assoc, h]
  show wayOk L x (x (j + 1) :: r) _ _ = _
  rw [wayOk, if_neg (fun e => by have := inj _ _ (by omega) (by omega) e; omega), if_pos rfl]
  unfold dnR
  rw [if_pos hj]
/-- a set of rooms that is closed has all -/
theorem closed_all {r : Nat} {S : Nat → Prop} {one : Nat} (h1 : S one) (hr : one < r) (up : ∀ i, S i → i + 1 < r → S (i + 1)) (dn : ∀ i, S i → 0 < i → S (i - 1)) : ∀ t, t < r → S t := by
  have a : ∀ k, one + k < r → S (one + k) := by
    intro k
    induction k with
    | zero => intro _; exact h1
    | succ k ih => intro h; exact up _ (ih (by omega)) h
  have b : ∀ k, k ≤ one → S (one - k) := by
    intro k
    induction k with
    | zero => intro _; exact h1
    | succ k ih => intro h; have := dn _ (ih (by omega)) (by omega); rwa [Nat.sub_sub] at this
  intro t ht
  by_cases h : one ≤ t
  · have := a (t - one) (by omega); rwa [Nat.add_sub_cancel' h] at this
  · have := b (one - t) (by omega); rwa [Nat.sub_sub_self (by omega)] at this
end
end Y
end

section
set_option Elab.async false
set_option linter.all false
set_option autoImplicit false
set_option maxRecDepth 100000
namespace Y
open PySem PySem.Spec L2
open PyProof.Rows hiding St
/-! ### plain forms of the operations -/
theorem eqv_int (a b : Int) : PyData.eqv (.int a) (.int b) = decide (a = b) := by
  rw [PyData.eqv]
  by_cases h : a = b <;> simp [h]
theorem pyL_int : ∀ xs : List Int, pyL (xs.map D.int) = xs.map PyData.int
  | [] => rfl
  | x :: xs => by rw [List.map_cons, pyL, pyL_int xs]; rfl
theorem eqvAll_int : ∀ xs ys : List Int, PyData.eqvAll (xs.map PyData.int) (ys.map PyData.int) = decide (xs = ys)
  | [], [] => by simp [PyData.eqvAll]
  | [], y :: ys => by simp [PyData.eqvAll]
  | x :: xs, [] => by simp [PyData.eqvAll]
  | x :: xs, y :: ys => by
    rw [List.map_cons, List.map_cons, PyData.eqvAll, eqv_int, eqvAll_int xs ys]
    by_cases h : x = y <;> simp [h]
theorem flatL_int (n : Nat) : ∀ xs : List Int, flatL n (xs.map D.int) = true
  | [] => by simp [flatL]
  | x :: xs => by rw [List.map_cons, flatL, flatL_int n xs]; cases n <;> simp [D.flat]
theorem flat_tupD (n : Nat) (xs : List Int) : (tupD xs).flat (n + 1) = true := by
  unfold tupD
  rw [D.flat]
  exact flatL_int n xs
theorem flat_lst (n : Nat) (xs : List D) : (D.lst xs).flat (n + 1) = flatL n xs := by rw [D.flat]
theorem flat_tup (n : Nat) (xs : List D) : (D.tup xs).flat (n + 1) = flatL n xs := by rw [D.flat]
theorem flatL_all (n : Nat) : ∀ (xs : List D), (∀ x ∈ xs, x.flat n = true) → flatL n xs = true
  | [], _ => by simp [flatL]
  | x :: xs, h => by
    rw [flatL, h x List.mem_cons_self, flatL_all n xs fun y hy => h y (List.mem_cons_of_mem _ hy)]
    rfl
theorem flat_int (n : Nat) (i : Int) : (D.int i).flat n = true := by cases n <;> simp [D.flat]
theorem flat_non (n : Nat) : (D.non).flat n = true := by cases n <;> simp [D.flat]
theorem flat_bl (n : Nat) (b : Bool) : (D.bl b).flat n = true := by cases n <;> simp [D.flat]
theorem eqv_self {d : D} (h : d.flat 60 = true) : PyData.eqv d.py d.py = true := SeqAt.eqv_refl _ (flat_lay 60 d h).1
theorem neD_self {d : D} (h : d.flat 60 = true) : neD d d = some (.bl false) := by
  unfold neD
  rw [h, eqv_self h]
  rfl
theorem eqD_self {d : D} (h : d.flat 60 = true) : eqD d d = some (.bl true) := by
  unfold eqD
  rw [h, eqv_self h]
  rfl
theorem eqD_int (a b : Int) : eqD (.int a) (.int b) = some (.bl (decide (a = b))) := by
  unfold eqD
  rw [flat_int, flat_int]
  show some (D.bl (PyData.eqv (.int a) (.int b))) = _
  rw [eqv_int]
theorem neD_int (a b : Int) : neD (.int a) (.int b) = some (.bl (!decide (a = b))) := by
  unfold neD
  rw [flat_int, flat_int]
  show some (D.bl (!PyData.eqv (.int a) (.int b))) = _
  rw [eqv_int]
theorem eqD_tupD (a b : List Int) : eqD (tupD a) (tupD b) = some (.bl (decide (a = b))) := by
  unfold eqD
  rw [flat_tupD 59, flat_tupD 59]
  show some (D.bl (PyData.eqv (.tuple (pyL (a.map D.int))) (.tuple (pyL (b.map D.int))))) = _
  rw [PyData.eqv, pyL_int, pyL_int, eqvAll_int]
theorem neD_tupD (a b : List Int) : neD (tupD a) (tupD b) = some (.bl (!decide (a = b))) := by
  unfold neD
  rw [flat_tupD 59, flat_tupD 59]
  show some (D.bl (!PyData.eqv (.tuple (pyL (a.map D.int))) (.tuple (pyL (b.map D.int))))) = _
  rw [PyData.eqv, pyL_int, pyL_int, eqvAll_int]
theorem eqD_non_tupD (b : List Int) : eqD .non (tupD b) = some (.bl false) := by
  unfold eqD
  rw [flat_tupD 59, flat_non]
  show some (D.bl (PyData.eqv .none (.tuple _))) = _
  rw [PyData.eqv]
theorem eqv_nil (xs : List PyData) : PyData.eqvAll xs [] = xs.isEmpty := by cases xs <;> simp [PyData.eqvAll]
theorem pyL_empty (xs : List D) : (pyL xs).isEmpty = xs.isEmpty := by cases xs <;> simp [pyL]
theorem eqD_lnil {xs : List D} (h : flatL 59 xs = true) : eqD (.lst xs) (.lst []) = some (.bl xs.isEmpty) := by
  unfold eqD
  rw [flat_lst 59, h, flat_lst 59, flatL]
  show some (D.bl (PyData.eqv (.list (pyL xs)) (.list []))) = _
  rw [PyData.eqv, eqv_nil, pyL_empty]
theorem neD_lnil {xs : List D} (h : flatL 59 xs = true) : neD (.lst xs) (.lst []) = some (.bl (!xs.isEmpty)) := by
  unfold neD
  rw [flat_lst 59, h, flat_lst 59, flatL]
  show some (D.bl (!PyData.eqv (.list (pyL xs)) (.list []))) = _
  rw [PyData.eqv, eqv_nil, pyL_empty]
theorem eqD_tnil {xs : List D} (h : flatL 59 xs = true) : eqD (.tup xs) (.tup []) = some (.bl xs.isEmpty) := by
  unfold eqD
  rw [flat_tup 59, h, flat_tup 59, flatL]
  show some (D.bl (PyData.eqv (.tuple (pyL xs)) (.tuple []))) = _
  rw [PyData.eqv, eqv_nil, pyL_empty]
theorem neD_tnil {xs : List D} (h : flatL 59 xs = true) : neD (.tup xs) (.tup []) = some (.bl (!xs.isEmpty)) := by
  unfold neD
  rw [flat_tup 59, h, flat_tup 59, flatL]
  show some (D.bl (!PyData.eqv (.tuple (pyL xs)) (.tuple []))) = _
  rw [PyData.eqv, eqv_nil, pyL_empty]
theorem memD_int (c : Int) (xs : List Int) : memD (.int c) (xs.map D.int) = decide (c ∈ xs) := by
  unfold memD
  rw [pyL_int]
  show ((xs.map PyData.int).any fun z => PyData.eqv z (.int c)) = _
  induction xs with
  | nil => simp
  | cons x xs ih =>
    rw [List.map_cons, List.any_cons, ih, eqv_int]
    by_cases h : x = c
    · simp [h]
    · have : ¬ c = x := fun e => h e.symm
      simp [h, this]
theorem inAD_tupD (tt : Bool) (c : Int) (xs : List Int) : inAD tt (.int c) (tupD xs) = some (.bl (decide (c ∈ xs))) := by
  show (if ((D.int c).flat 60 && flatL 59 (xs.map D.int)) = true then some (D.bl (memD (.int c) (xs.map D.int))) else none) = _
  rw [flat_int, flatL_int, memD_int]
  rfl
theorem notInAD_tupD (tt : Bool) (c : Int) (xs : List Int) : notInAD tt (.int c) (tupD xs) = some (.bl (!decide (c ∈ xs))) := by
  show (if ((D.int c).flat 60 && flatL 59 (xs.map D.int)) = true then some (D.bl (!memD (.int c) (xs.map D.int))) else none) = _
  rw [flat_int, flatL_int, memD_int]
  rfl
theorem notInAD_lstI (tt : Bool) (c : Int) (xs : List Int) : notInAD tt (.int c) (.lst (xs.map .int)) = some (.bl (!decide (c ∈ xs))) := by
  show (if ((D.int c).flat 60 && flatL 59 (xs.map D.int)) = true then some (D.bl (!memD (.int c) (xs.map D.int))) else none) = _
  rw [flat_int, flatL_int, memD_int]
  rfl
theorem allB_map {α : Type} (f : α → Bool) : ∀ xs : List α, allB (xs.map fun x => D.bl (f x)) = some (xs.map f)
  | [] => rfl
  | x :: xs => by rw [List.map_cons, List.map_cons, allB, allB_map f xs]; rfl
theorem allD_map {α : Type} (f : α → Bool) (xs : List α) : allD [.lst (xs.map fun x => D.bl (f x))] = some (.bl (xs.all f)) := by
  show Option.map (fun bs => D.bl (bs.all id)) (allB (xs.map fun x => D.bl (f x))) = _
  rw [allB_map]
  show some (D.bl ((xs.map f).all id)) = _
  rw [List.all_map]; rfl
theorem addD_tupD (xs ys : List Int) (h : xs.length + ys.length ≤ 1000) : addD (tupD xs) (tupD ys) = some (tupD (xs ++ ys)) := by
  have hz : 1000 ≤ sizeLine := by decide
  show (if (xs.map D.int).length + (ys.map D.int).length ≤ sizeLine then some (D.tup (xs.map D.int ++ ys.map D.int)) else none) = _
  rw [if_pos (by rw [List.length_map, List.length_map]; exact Nat.le_trans h hz), ← List.map_append]
  rfl
theorem addD_lst (xs ys : List D) (h : xs.length + ys.length ≤ 1000) : addD (.lst xs) (.lst ys) = some (.lst (xs ++ ys)) := by
  have hz : 1000 ≤ sizeLine := by decide
  show (if xs.length + ys.length ≤ sizeLine then some (D.lst (xs ++ ys)) else none) = _
  rw [if_pos (Nat.le_trans h hz)]
theorem addD_tup (xs ys : List D) (h : xs.length + ys.length ≤ 1000) : addD (.tup xs) (.tup ys) = some (.tup (xs ++ ys)) := by
  have hz : 1000 ≤ sizeLine := by decide
  show (if xs.length + ys.length ≤ sizeLine then some (D.tup (xs ++ ys)) else none) = _
  rw [if_pos (Nat.le_trans h hz)]
theorem getAD_lst {tt : Bool} {xs : List D} {i : Nat} {x : D} (h : xs[i]? = some x) : getAD tt (.lst xs) (.int (i : Nat)) = some x := by
  exact L2.atI_nat h
theorem getAD_tup {tt : Bool} {xs : List D} {i : Nat} {x : D} (h : xs[i]? = some x) : getAD tt (.tup xs) (.int (i : Nat)) = some x := by
  exact L2.atI_nat h
/-! ### more of the combinators -/
section
variable {env env1 env2 : List Var} {st s1 s2 s3 s4 : DS} {d x y : D} {ds : List D} {f g h : ESem} {fs : ASem} {F G : SSem} {c c1 : TSem}
theorem ev_compP {α : Type} {it : ISem} {gg : GSem} {vs : List Nat} {enc : α → D} {p : α → Bool} {hh : α → D} {xs : List α} (hi : it env st = some (xs.map enc, s1))
    (hx : ∀ x ∈ xs, ∃ env1, gg (enc x) (wipeE env vs) = some env1 ∧ c env1 s1 = some (p x, s1) ∧ (p x = true → f env1 s1 = some (hh x, s1))) : compE it gg c f vs env st = some (.lst ((xs.filter p).map hh), s1) := ev_comp hi (compGo_pure enc p hh xs hx)
theorem ev_compY {α : Type} {it : ISem} {gg : GSem} {vs : List Nat} {enc : α → D} {hh : α → D} {xs : List α} (hi : it env st = some (xs.map enc, s1))
    (hx : ∀ x ∈ xs, ∃ env1, gg (enc x) (wipeE env vs) = some env1 ∧ f env1 s1 = some (hh x, s1)) : compE it gg yesT f vs env st = some (.lst (xs.map hh), s1) := by
  have := ev_compP (c := yesT) (p := fun _ => true) (hh := hh) hi fun x h => by
    obtain ⟨e, h1, h2⟩ := hx x h
    exact ⟨e, h1, rfl, fun _ => h2⟩
  rw [this, List.filter_eq_self.mpr (fun _ _ => rfl)]
theorem ev_compP' {α : Type} {it : ISem} {gg : GSem} {vs : List Nat} {enc : α → D} {p : α → Bool} {hh : α → D} {xs : List α} {items : List D} (hi : it env st = some (items, s1)) (he : items = xs.map enc)
    (hx : ∀ x ∈ xs, ∃ env1, gg (enc x) (wipeE env vs) = some env1 ∧ c env1 s1 = some (p x, s1) ∧ (p x = true → f env1 s1 = some (hh x, s1))) : compE it gg c f vs env st = some (.lst ((xs.filter p).map hh), s1) := ev_compP (by rw [hi, he]) hx
theorem ev_compY' {α : Type} {it : ISem} {gg : GSem} {vs : List Nat} {enc : α → D} {hh : α → D} {xs : List α} {items : List D} (hi : it env st = some (items, s1)) (he : items = xs.map enc)
    (hx : ∀ x ∈ xs, ∃ env1, gg (enc x) (wipeE env vs) = some env1 ∧ f env1 s1 = some (hh x, s1)) : compE it gg yesT f vs env st = some (.lst (xs.map hh), s1) := ev_compY (by rw [hi, he]) hx
theorem ev_and1 {b : Bool} (h1 : f env st = some (.bl true, s1)) (h2 : g env s1 = some (.bl b, s2)) : andE f g env st = some (.bl b, s2) := ev_bd h1 (ev_bd (s1 := s1) (a := true) rfl (by rw [if_pos rfl]; exact h2))
theorem ev_and0 (h1 : f env st = some (.bl false, s1)) : andE f g env st = some (.bl false, s1) := ev_bd h1 (ev_bd (s1 := s1) (a := false) rfl (by rw [if_neg (by decide)]; rfl))
theorem ev_and {a b : Bool} (h1 : f env st = some (.bl a, s1)) (h2 : a = true → g env s1 = some (.bl b, s1)) : andE f g env st = some (.bl (a && b), s1) := by
  cases a with
  | true => exact ev_and1 h1 (h2 rfl)
  | false => exact ev_and0 h1
theorem ev_or1 (h1 : f env st = some (.bl true, s1)) : orE f g env st = some (.bl true, s1) := ev_bd h1 (ev_bd (s1 := s1) (a := true) rfl (by rw [if_pos rfl]; rfl))
theorem ev_or0 {b : Bool} (h1 : f env st = some (.bl false, s1)) (h2 : g env s1 = some (.bl b, s2)) : orE f g env st = some (.bl b, s2) := ev_bd h1 (ev_bd (s1 := s1) (a := false) rfl (by rw [if_neg (by decide)]; exact h2))
theorem ev_notE {a : Bool} (h1 : f env st = some (.bl a, s1)) : notE f env st = some (.bl (!a), s1) := ev_bd h1 (ev_bd (s1 := s1) (a := a) rfl rfl)
theorem ev_iteT (h1 : c env st = some (true, s1)) (h2 : f env s1 = some (d, s2)) : iteE c f g env st = some (d, s2) := ev_bd h1 (by rw [if_pos rfl]; exact h2)
theorem ev_iteF (h1 : c env st = some (false, s1)) (h2 : g env s1 = some (d, s2)) : iteE c f g env st = some (d, s2) := ev_bd h1 (by rw [if_neg (by decide)]; exact h2)
theorem ev_ite {b : Bool} {x y : D} (h1 : c env st = some (b, s1)) (h2 : b = true → f env s1 = some (x, s1)) (h3 : b = false → g env s1 = some (y, s1)) : iteE c f g env st = some (if b = true then x else y, s1) := by
  cases b with
  | true => exact ev_iteT h1 (h2 rfl)
  | false => exact ev_iteF h1 (h3 rfl)
theorem ev_andT {a b : Bool} (h1 : c env st = some (a, s1)) (h2 : a = true → c1 env s1 = some (b, s1)) : andT c c1 env st = some (a && b, s1) := by
  refine ev_bd h1 ?_
  cases a with
  | true => rw [if_pos rfl]; exact h2 rfl
  | false => rw [if_neg (by decide)]; rfl
theorem ev_andT1 {b : Bool} (h1 : c env st = some (true, s1)) (h2 : c1 env s1 = some (b, s2)) : andT c c1 env st = some (b, s2) := ev_bd h1 (by rw [if_pos rfl]; exact h2)
theorem ev_orT {a b : Bool} (h1 : c env st = some (a, s1)) (h2 : a = false → c1 env s1 = some (b, s1)) : orT c c1 env st = some (a || b, s1) := by
  refine ev_bd h1 ?_
  cases a with
  | true => rw [if_pos rfl]; rfl
  | false => rw [if_neg (by decide)]; exact h2 rfl
theorem ev_orT0 {b : Bool} (h1 : c env st = some (false, s1)) (h2 : c1 env s1 = some (b, s2)) : orT c c1 env st = some (b, s2) := ev_bd h1 (by rw [if_neg (by decide)]; exact h2)
theorem ev_orT1 (h1 : c env st = some (true, s1)) : orT c c1 env st = some (true, s1) := ev_bd h1 (by rw [if_pos rfl]; rfl)
theorem ev_chain {k k' : D → D → Option D} {a b : Bool} {z : D} (h1 : f env st = some (x, s1)) (h2 : g env s1 = some (y, s2)) (h3 : k x y = some (.bl a)) (h4 : h env s2 = some (z, s2)) (h5 : k' y z = some (.bl b)) : chainE k k' f g h env st = some (.bl (a && b), s2) := by
  refine ev_bd h1 (ev_bd h2 (ev_bd (s1 := s2) (a := a) (by unfold M.lf; rw [h3]; rfl) ?_))
  cases a with
  | true => rw [if_pos rfl]; exact ev_bd h4 (by unfold M.lf; rw [h5]; rfl)
  | false => rw [if_neg (by decide)]; rfl
theorem ev_expr (h1 : f env st = some (d, s1)) : exprS f env st = some ((.nx, env), s1) := ev_bd h1 rfl
theorem ev_nilS : nilS env st = some ((.nx, env), st) := rfl
theorem ev_retVp {i : Nat} (h : env[i]? = some (.p d)) : retVS i env st = some ((.rt (.p d), env), st) := by unfold retVS; rw [h]
theorem ev_retVo {i : Nat} (h : env[i]? = some (.o d)) : retVS i env st = some ((.rt (.o d), env), st) := by unfold retVS; rw [h]
theorem ev_par {is : List Nat} {cs : List (Bool × ESem)} (h1 : evalC cs env st = some (ds, s1)) : parS is cs env st = some ((.nx, setEn is (cs.map (·.1)) ds env), s1) := ev_bd h1 rfl
theorem ev_cnil : evalC [] env st = some ([], st) := rfl
theorem ev_ccons {o : Bool} {cs : List (Bool × ESem)} (h1 : f env st = some (d, s1)) (h2 : evalC cs env s1 = some (ds, s2)) : evalC ((o, f) :: cs) env st = some (d :: ds, s2) := ev_bd h1 (ev_bd h2 rfl)
theorem ev_for {it : ISem} {gg : GSem} {items : List D} {r : Option ((Fl × List Var) × DS)} (h1 : it env st = some (items, s1)) (h2 : forGo gg F items env s1 = r) : forS it gg F env st = r := ev_bd h1 h2
theorem ev_asg {gg : GSem} (h1 : f env st = some (d, s1)) (h2 : gg d env = some env1) : asgS gg f env st = some ((.nx, env1), s1) := ev_bd h1 (ev_bd (s1 := s1) (a := env1) (by unfold M.lf; rw [h2]) rfl)
theorem ev_app {i : Nat} (h1 : f env st = some (d, s1)) (h2 : appV env i d = some env1) : appS i f env st = some ((.nx, env1), s1) := ev_bd h1 (ev_bd (s1 := s1) (a := env1) (by unfold M.lf; rw [h2]) rfl)
theorem ev_range1 {n : Int} (h1 : f env st = some (.int n, s1)) (h2 : -16777216 ≤ n ∧ n ≤ 16777216) : range1I f env st = some (rangeL 0 n, s1) := ev_bd h1 (by show M.lf (if _ then some (rangeL 0 n) else none) s1 = _; rw [if_pos h2]; rfl)
theorem ev_enumI (h1 : f env st = some (d, s1)) {xs : List D} (h2 : asSeq d = some xs) : enumI f env st = some (enumL 0 xs, s1) := ev_bd h1 (by rw [h2]; rfl)
theorem ev_zip2 {xs ys : List D} (h1 : f env st = some (x, s1)) (h2 : g env s1 = some (y, s2)) (h3 : asSeq x = some xs) (h4 : asSeq y = some ys) : zip2I f g env st = some (zip2L xs ys, s2) := ev_bd h1 (ev_bd h2 (by rw [h3, h4]; rfl))
theorem ev_someO {i : Int} (h1 : f env st = some (.int i, s1)) : someO f env st = some (some i, s1) := ev_bd h1 rfl
theorem ev_noO : noO env st = some (none, st) := rfl
theorem ev_slice {k : Option Int → Option Int → D → Option D} {lo hi : OSem} {a b : Option Int} (h1 : f env st = some (x, s1)) (h2 : lo env s1 = some (a, s2)) (h3 : hi env s2 = some (b, s3)) (h4 : k a b x = some d) : sliceE k f lo hi env st = some (d, s3) := ev_bd h1 (ev_bd h2 (ev_bd h3 (by unfold M.lf; rw [h4])))
theorem ev_rangeLst {it : ISem} {items : List D} (h1 : it env st = some (items, s1)) : rangeLstE it env st = some (.lst items, s1) := ev_bd h1 rfl
end
theorem rangeL0 (n : Nat) : rangeL 0 (n : Int) = ((List.range n).map fun (i : Nat) => (i : Int)).map D.int := by
  unfold rangeL
  rw [List.map_map, Int.sub_zero, Int.toNat_natCast]
  exact List.map_congr_left fun i _ => by show D.int (0 + (i : Int)) = D.int (i : Int); rw [Int.zero_add]
theorem p_is_whole (i : Int) (st : DS) : F_is_whole [.int i] st = some (.p (.bl true), st) := rfl
end Y
end

section
set_option Elab.async false
set_option linter.all false
set_option autoImplicit false
set_option maxRecDepth 100000
namespace Y
open PySem PySem.Spec L2
open PyProof.Rows hiding St
/-! ### a book of two persons, told by its tastes alone -/
structure BK (b : D) (n : Nat) (p q : Int → Int) (d0 d1 : D) : Prop where
  t : Tst n p q
  isb : ∀ st, F_is_book [b] st = some (.p (.bl true), st)
  pers : ∀ st, F_persons_many [b] st = some (.p (.int 2), st)
  colm : ∀ st, F_columns_many [b] st = some (.p (.int n), st)
  tas : ∀ st, F_tastes_in [b] st = some (.o (.lst [d0, d1]), st)
  ltas : ∀ st, F__law_tastes [b] st = some (.p (.lst [d0, d1]), st)
  wks : ∃ ws, getAD true b (.int 2) = some (.tup ws) ∧ (ws.length : Int) + 2 = n
  g0 : ∀ c ∈ cols n, getAD true d0 (.int c) = some (.int (p c))
  g1 : ∀ c ∈ cols n, getAD true d1 (.int c) = some (.int (q c))
  srt : sortedAD [d0] = some (.lst ((cols n).map D.int))
section
variable {b : D} {n : Nat} {p q : Int → Int} {d0 d1 : D} {st : DS}
theorem ev_ifF' {env : List Var} {s1 : DS} {c : TSem} {F G : SSem} {bb : Bool} {r : Option ((Fl × List Var) × DS)} (h : c env st = some (bb, s1)) (hb : bb = false) (h2 : G env s1 = r) : ifS c F G env st = r := by subst hb; exact ev_ifF h h2
theorem ev_ifT' {env : List Var} {s1 : DS} {c : TSem} {F G : SSem} {bb : Bool} {r : Option ((Fl × List Var) × DS)} (h : c env st = some (bb, s1)) (hb : bb = true) (h2 : F env s1 = r) : ifS c F G env st = r := by subst hb; exact ev_ifT h h2
theorem ev_as {α : Type} {m : M α} {a a' : α} {s1 : DS} (h : m st = some (a, s1)) (e : a = a') : m st = some (a', s1) := by rw [h, e]
theorem BK.need (B : BK b n p q d0 d1) (st : DS) : F_need_book [b] st = some (.p .non, st) := by
  have h := B.isb st
  exact ev_bodyN (ev_ifF' (bb := !true) (ev_not (ev_test (ev_callF (ev_cons (ev_var rfl) ev_nil) h))) rfl ev_nilS)
theorem BK.dget (B : BK b n p q d0 d1) : ∀ z ∈ [(d0, p), (d1, q)], ∀ c ∈ cols n, getAD true z.1 (.int c) = some (.int (z.2 c)) := by
  intro z hz c hc
  simp only [List.mem_cons, List.not_mem_nil, or_false] at hz
  rcases hz with rfl | rfl
  · exact B.g0 c hc
  · exact B.g1 c hc
theorem minAD_int {xs : List Int} {m : Int} (h : minI xs = some m) : minAD [.lst (xs.map D.int)] = some (.int m) := by
  show (match allI (xs.map D.int) with
    | some ns => (minI ns).map D.int
    | none => (allTI (xs.map D.int)).bind fun nss => if nss.length = 0 then none else (xs.map D.int)[bestT nss]?) = _
  rw [allI_map]
  simp only [h, Option.map]
theorem p_least_places (B : BK b n p q d0 d1) (lot : List Int) (hl : ∀ c ∈ lot, c ∈ cols n) {m0 m1 : Int} (h0 : minI (lot.map p) = some m0) (h1 : minI (lot.map q) = some m1) (st : DS) :
    F_least_places [.lst [d0, d1], tupD lot] st = some (.p (.lst [.int m0, .int m1]), st) := by
  refine ev_body (ev_ret (d := .lst [.int m0, .int m1]) ?_)
  have key := ev_compY (env := startE N_least_places [.lst [d0, d1], tupD lot]) (st := st) (s1 := st) (it := seqI (varE 0)) (gg := nameG 2) (vs := [2]) (f := callE minAD (consA (compE (seqI (varE 1)) (nameG 3) yesT (bin (getAD true) (peekE 2) (peekE 3)) [3]) nilA))
    (enc := fun z : D × (Int → Int) × Int => z.1) (hh := fun z => D.int z.2.2) (xs := [(d0, p, m0), (d1, q, m1)]) (ev_seqI (ev_var rfl) rfl) (fun z hz => ?_)
  · exact key
  · have hz' : minI (lot.map z.2.1) = some z.2.2 ∧ ∀ c ∈ cols n, getAD true z.1 (.int c) = some (.int (z.2.1 c)) := by
      simp only [List.mem_cons, List.not_mem_nil, or_false] at hz
      rcases hz with rfl | rfl
      · exact ⟨h0, B.g0⟩
      · exact ⟨h1, B.g1⟩
    refine ⟨_, rfl, ev_callE (ev_cons (ev_compY (enc := D.int) (xs := lot) (hh := fun c => D.int (z.2.1 c)) (ev_seqI (ev_var rfl) rfl) (fun c hc => ⟨_, rfl, ev_bin (ev_peek rfl) (ev_peek rfl) (hz'.2 c (hl c hc))⟩)) ev_nil) ?_⟩
    have := minAD_int hz'.1
    rw [List.map_map] at this
    exact this
def ab (p q : Int → Int) (m0 m1 : Int) (c : Int) : Bool := decide (m0 < p c) && decide (m1 < q c)
theorem p_columns_above (B : BK b n p q d0 d1) (lot : List Int) (hl : ∀ c ∈ lot, c ∈ cols n) {m0 m1 : Int} (h0 : minI (lot.map p) = some m0) (h1 : minI (lot.map q) = some m1) (st : DS) :
    F_columns_above [.lst [d0, d1], tupD lot] st = some (.p (.lst (((cols n).filter (ab p q m0 m1)).map D.int)), st) := by
  have hL := p_least_places B lot hl h0 h1 st
  refine ev_body (ev_seq (ev_set (i := 2) (d := .lst [.int m0, .int m1]) (ev_callF (ev_cons (ev_var rfl) (ev_cons (ev_var rfl) ev_nil)) hL)) (ev_ret ?_))
  refine ev_compP (enc := D.int) (xs := cols n) (p := ab p q m0 m1) (hh := D.int) (ev_seqI (ev_callE (ev_cons (ev_bin (ev_peek rfl) ev_c rfl) ev_nil) B.srt) rfl) (fun c hc => ⟨_, rfl, ?_, fun _ => ev_var rfl⟩)
  have key := ev_compY' (env := [.p (.lst [d0, d1]), .p (tupD lot), .p (.lst [.int m0, .int m1]), .p (.int c), .u, .u]) (st := st) (s1 := st) (it := zip2I (varE 0) (varE 2)) (gg := tupG (consG (nameG 4) (consG (nameG 5) nilG))) (vs := [4, 5]) (f := bin gtD (bin (getAD true) (peekE 4) (peekE 3)) (peekE 5))
    (enc := fun z : D × (Int → Int) × Int => .tup [z.1, .int z.2.2]) (hh := fun z => D.bl (decide (z.2.2 < z.2.1 c))) (xs := [(d0, p, m0), (d1, q, m1)]) (ev_zip2 (ev_var rfl) (ev_var rfl) rfl rfl) rfl (fun z hz => ?_)
  · refine ev_test (ev_callE (ev_cons key ev_nil) ?_)
    rw [allD_map (fun z : D × (Int → Int) × Int => decide (z.2.2 < z.2.1 c))]
    unfold ab
    simp only [List.all_cons, List.all_nil, Bool.and_true]
  · have hz' : getAD true z.1 (.int c) = some (.int (z.2.1 c)) := by
      simp only [List.mem_cons, List.not_mem_nil, or_false] at hz
      rcases hz with rfl | rfl
      · exact B.g0 c hc
      · exact B.g1 c hc
    exact ⟨_, rfl, ev_bin (ev_bin (ev_peek rfl) (ev_peek rfl) hz') (ev_peek rfl) rfl⟩
/-- one column, two columns -/
def no1 (n : Nat) (p q : Int → Int) (c : Int) : Bool := ((cols n).filter (ab p q (p c) (q c))).isEmpty
def rmB (n : Nat) (p q : Int → Int) (a c : Int) : Bool := ((cols n).filter (ab p q (mn (p a) (p c)) (mn (q a) (q c)))).isEmpty
theorem rmB_iff {a c : Int} : rmB n p q a c = true ↔ Rm n p q a c := by
  unfold rmB Rm ab
  rw [List.isEmpty_iff, List.filter_eq_nil_iff]
  constructor
  · intro h o ho ⟨h1, h2⟩
    exact h o ho (by simp [h1, h2])
  · intro h o ho h1
    simp at h1
    exact h o ho h1
theorem no1_iff {a : Int} : no1 n p q a = true ↔ Mx n p q a := by
  unfold no1 Mx ab
  rw [List.isEmpty_iff, List.filter_eq_nil_iff]
  constructor
  · intro h o ho ⟨h1, h2⟩
    exact h o ho (by simp [h1, h2])
  · intro h o ho h1
    simp at h1
    exact h o ho h1
theorem p_above2 (B : BK b n p q d0 d1) {a c : Int} (ha : a ∈ cols n) (hc : c ∈ cols n) (st : DS) :
    F_columns_above [.lst [d0, d1], tupD [a, c]] st = some (.p (.lst (((cols n).filter (ab p q (mn (p a) (p c)) (mn (q a) (q c)))).map D.int)), st) :=
  p_columns_above B [a, c] (by intro z hz; simp only [List.mem_cons, List.not_mem_nil, or_false] at hz; rcases hz with rfl | rfl <;> assumption) rfl rfl st
theorem p_above1 (B : BK b n p q d0 d1) {a : Int} (ha : a ∈ cols n) (st : DS) :
    F_columns_above [.lst [d0, d1], tupD [a]] st = some (.p (.lst (((cols n).filter (ab p q (p a) (q a))).map D.int)), st) :=
  p_columns_above B [a] (by intro z hz; simp only [List.mem_cons, List.not_mem_nil, or_false] at hz; rcases hz with rfl; assumption) rfl rfl st
theorem eqD_colsnil (xs : List Int) : eqD (.lst (xs.map D.int)) (.lst []) = some (.bl xs.isEmpty) := by
  rw [eqD_lnil (flatL_int 59 xs)]
  cases xs <;> rfl
theorem neD_colsnil (xs : List Int) : neD (.lst (xs.map D.int)) (.lst []) = some (.bl (!xs.isEmpty)) := by
  rw [neD_lnil (flatL_int 59 xs)]
  cases xs <;> rfl
/-! ### lots -/
def lots2 (n : Nat) : List (Int × Int) := (cols n).flatMap fun a => ((cols n).filter fun c => decide (a < c)).map fun c => (a, c)
def e2 (z : Int × Int) : D := tupD [z.1, z.2]
def e1 (z : Int) : D := tupD [z]
theorem lots_fin2 : ∀ n : Nat, 2 ≤ n → n ≤ 10 → ∀ st, F_lots_in [.int n, .int 2] st = some (.p (.lst ((lots2 n).map e2)), st)
  | 0, h, _, _ => by omega
  | 1, h, _, _ => by omega
  | 2, _, _, st => by kernel_rfl
  | 3, _, _, st => by kernel_rfl
  | 4, _, _, st => by kernel_rfl
  | 5, _, _, st => by kernel_rfl
  | 6, _, _, st => by kernel_rfl
  | 7, _, _, st => by kernel_rfl
  | 8, _, _, st => by kernel_rfl
  | 9, _, _, st => by kernel_rfl
  | 10, _, _, st => by kernel_rfl
  | n + 11, _, h, _ => by omega
theorem lots_fin1 : ∀ n : Nat, 2 ≤ n → n ≤ 10 → ∀ st, F_lots_in [.int n, .int 1] st = some (.p (.lst ((cols n).map e1)), st)
  | 0, h, _, _ => by omega
  | 1, h, _, _ => by omega
  | 2, _, _, st => by kernel_rfl
  | 3, _, _, st => by kernel_rfl
  | 4, _, _, st => by kernel_rfl
  | 5, _, _, st => by kernel_rfl
  | 6, _, _, st => by kernel_rfl
  | 7, _, _, st => by kernel_rfl
  | 8, _, _, st => by kernel_rfl
  | 9, _, _, st => by kernel_rfl
  | 10, _, _, st => by kernel_rfl
  | n + 11, _, h, _ => by omega
theorem mem_lots2 {z : Int × Int} : z ∈ lots2 n ↔ z.1 ∈ cols n ∧ z.2 ∈ cols n ∧ z.1 < z.2 := by
  unfold lots2
  rw [List.mem_flatMap]
  constructor
  · rintro ⟨a, ha, h⟩
    obtain ⟨c, hc, rfl⟩ := List.mem_map.mp h
    rw [List.mem_filter] at hc
    exact ⟨ha, hc.1, by simpa using hc.2⟩
  · rintro ⟨h1, h2, h3⟩
    exact ⟨z.1, h1, List.mem_map.mpr ⟨z.2, List.mem_filter.mpr ⟨h2, by simpa using h3⟩, rfl⟩⟩
theorem lots2_sorted : ∀ n : Nat, n ≤ 10 → (lots2 n).Pairwise fun y z => TS.code BB [y.1, y.2] < TS.code BB [z.1, z.2]
  | 0, _ => by decide +kernel
  | 1, _ => by decide +kernel
  | 2, _ => by decide +kernel
  | 3, _ => by decide +kernel
  | 4, _ => by decide +kernel
  | 5, _ => by decide +kernel
  | 6, _ => by decide +kernel
  | 7, _ => by decide +kernel
  | 8, _ => by decide +kernel
  | 9, _ => by decide +kernel
  | 10, _ => by decide +kernel
  | n + 11, h => by omega
def rooms (n : Nat) (p q : Int → Int) : List (Int × Int) := (lots2 n).filter fun z => rmB n p q z.1 z.2
theorem p_rooms_in (B : BK b n p q d0 d1) (st : DS) : F_rooms_in [b] st = some (.p (.tup ((rooms n p q).map e2)), st) := by
  refine ev_body (ev_seq (ev_set (i := 1) (ev_callFo (ev_cons (ev_var rfl) ev_nil) (B.tas st))) (ev_seq (ev_set (i := 2) (ev_callF (ev_cons (ev_callF (ev_cons (ev_var rfl) ev_nil) (B.colm st)) (ev_cons (ev_callF (ev_cons (ev_var rfl) ev_nil) (B.pers st)) ev_nil)) (lots_fin2 n B.t.n2 B.t.n10 st))) (ev_ret (ev_callE (ev_cons (ev_compP (enc := e2) (xs := lots2 n) (p := fun z => rmB n p q z.1 z.2) (hh := e2) (ev_seqI (ev_var rfl) rfl) (fun z hz => ⟨_, rfl, ?_, fun _ => ev_var rfl⟩)) ev_nil) rfl))))
  obtain ⟨h1, h2, _⟩ := mem_lots2.mp hz
  exact ev_test (ev_bin (ev_callF (ev_cons (ev_var rfl) (ev_cons (ev_var rfl) ev_nil)) (p_above2 B h1 h2 st)) (ev_lst ev_nil) (eqD_colsnil _))
theorem p_rooms_of (B : BK b n p q d0 d1) (st : DS) : F_rooms_of [b] st = some (.p (.tup ((rooms n p q).map e2)), st) :=
  ev_body (ev_seq (ev_expr (ev_callF (ev_cons (ev_var rfl) ev_nil) (B.need st))) (ev_ret (ev_callF (ev_cons (ev_var rfl) ev_nil) (p_rooms_in B st))))
end
end Y
end

section
set_option Elab.async false
set_option linter.all false
set_option autoImplicit false
set_option maxRecDepth 100000
namespace Y
open PySem PySem.Spec L2
open PyProof.Rows hiding St
section
variable {b : D} {n : Nat} {p q : Int → Int} {d0 d1 : D} {st : DS}
theorem p_is_lot (B : BK b n p q d0 d1) (lot : List Int) (hl : ∀ c ∈ lot, c ∈ cols n) (lo hi : Int) (h1 : lo ≤ lot.length) (h2 : (lot.length : Int) ≤ hi)
    (zs : List (Int × Int)) (hz : zip2L (lot.map D.int) (cutL (lot.map D.int) (some 1) none) = zs.map fun z => .tup [.int z.1, .int z.2]) (hzz : ∀ z ∈ zs, z.1 < z.2) (st : DS) :
    F_is_lot_of [b, tupD lot, .int lo, .int hi] st = some (.p (.bl true), st) := by
  refine ev_body (env1 := [.p b, .p (tupD lot), .p (.int lo), .p (.int hi), .u, .u, .u]) ?_
  have hlen : lenD [tupD lot] = some (.int lot.length) := by show some (D.int ((lot.map D.int).length)) = _; rw [List.length_map]
  refine ev_seq (s1 := st) (ev_ifF' (s1 := st) (bb := !true || (!(decide (lo ≤ lot.length) && decide ((lot.length : Int) ≤ hi)) || !(lot.all fun _ => true))) ?_ ?_ ev_nilS) ?_
  · refine ev_orT (ev_not (b := true) (ev_test (ev_un (ev_peek rfl) rfl))) fun _ => ev_orT (ev_not (ev_test (ev_chain (ev_peek rfl) (ev_callE (ev_cons (ev_peek rfl) ev_nil) hlen) rfl (ev_peek rfl) rfl))) fun _ => ev_not (ev_test (ev_callE (ev_cons (ev_compY (enc := D.int) (xs := lot) (hh := fun _ => D.bl true) (ev_seqI (ev_var rfl) rfl) (fun c hc => ⟨_, rfl, ev_callF (ev_cons (ev_var rfl) ev_nil) (p_is_whole c st)⟩)) ev_nil) (allD_map _ _)))
  · simp [h1, h2]
  refine ev_seq (s1 := st) (ev_ifF' (s1 := st) (bb := !(lot.all fun c => decide (0 ≤ c) && decide (c < n))) ?_ ?_ ev_nilS) ?_
  · exact ev_not (ev_test (ev_callE (ev_cons (ev_compY (enc := D.int) (xs := lot) (hh := fun c => D.bl (decide (0 ≤ c) && decide (c < n))) (ev_seqI (ev_var rfl) rfl) (fun c hc => ⟨_, rfl, ev_chain ev_c (ev_peek rfl) rfl (ev_callF (ev_cons (ev_var rfl) ev_nil) (B.colm st)) rfl⟩)) ev_nil) (allD_map _ _)))
  · rw [Bool.not_eq_false', List.all_eq_true]
    intro c hc
    have := mem_cols.mp (hl c hc)
    simp [this.1, this.2]
  refine ev_ret ?_
  have key := ev_compY (env := [.p b, .p (tupD lot), .p (.int lo), .p (.int hi), .u, .u, .u]) (st := st) (s1 := st) (it := zip2I (varE 1) (sliceE cutD (peekE 1) (someO (cE (.int 1))) noO)) (gg := tupG (consG (nameG 5) (consG (nameG 6) nilG))) (vs := [5, 6]) (f := bin ltD (peekE 5) (peekE 6))
    (enc := fun z : Int × Int => D.tup [.int z.1, .int z.2]) (hh := fun z => D.bl (decide (z.1 < z.2))) (xs := zs) (by rw [← hz]; exact ev_zip2 (ev_var rfl) (ev_slice (ev_peek rfl) (ev_someO ev_c) ev_noO rfl) rfl rfl) (fun z hz => ⟨_, rfl, ev_bin (ev_peek rfl) (ev_peek rfl) rfl⟩)
  refine ev_callE (ev_cons key ev_nil) ?_
  rw [allD_map (fun z : Int × Int => decide (z.1 < z.2))]
  have : (zs.all fun z => decide (z.1 < z.2)) = true := List.all_eq_true.mpr fun z hz => by simpa using hzz z hz
  rw [this]
theorem p_is_lot2 (B : BK b n p q d0 d1) {a c : Int} (ha : a ∈ cols n) (hc : c ∈ cols n) (hac : a < c) {lo : Int} (hlo : lo ≤ 2) (st : DS) : F_is_lot_of [b, tupD [a, c], .int lo, .int 2] st = some (.p (.bl true), st) :=
  p_is_lot B [a, c] (by intro z hz; simp only [List.mem_cons, List.not_mem_nil, or_false] at hz; rcases hz with rfl | rfl <;> assumption) lo 2 hlo (show (2 : Int) ≤ 2 by decide) [(a, c)] rfl (by intro z hz; simp only [List.mem_cons, List.not_mem_nil, or_false] at hz; subst hz; exact hac) st
theorem p_is_lot1 (B : BK b n p q d0 d1) {a : Int} (ha : a ∈ cols n) (st : DS) : F_is_lot_of [b, tupD [a], .int 1, .int 2] st = some (.p (.bl true), st) :=
  p_is_lot B [a] (by intro z hz; simp only [List.mem_cons, List.not_mem_nil, or_false] at hz; rcases hz with rfl; assumption) 1 2 (show (1 : Int) ≤ 1 by decide) (show (1 : Int) ≤ 2 by decide) [] rfl (by intro z hz; cases hz) st
/-- an ascending pair of columns -/
structure Asc (n : Nat) (a c : Int) : Prop where
  ma : a ∈ cols n
  mc : c ∈ cols n
  lt : a < c
theorem p_is_room_of (B : BK b n p q d0 d1) {a c : Int} (h : Asc n a c) (st : DS) : F_is_room_of [b, tupD [a, c]] st = some (.p (.bl (rmB n p q a c)), st) := by
  refine ev_body (ev_seq (ev_set (i := 2) (ev_callF (ev_cons (ev_var rfl) ev_nil) (B.pers st))) (ev_ret ?_))
  refine ev_and1 (ev_callF (ev_cons (ev_var rfl) (ev_cons (ev_var rfl) (ev_cons (ev_var rfl) (ev_cons (ev_var rfl) ev_nil)))) (p_is_lot2 B h.ma h.mc h.lt (by decide) st)) ?_
  exact ev_bin (ev_callF (ev_cons (ev_callFo (ev_cons (ev_var rfl) ev_nil) (B.tas st)) (ev_cons (ev_var rfl) ev_nil)) (p_above2 B h.ma h.mc st)) (ev_lst ev_nil) (eqD_colsnil _)
theorem p_is_room (B : BK b n p q d0 d1) {a c : Int} (h : Asc n a c) (st : DS) : F_is_room [b, tupD [a, c]] st = some (.p (.bl (rmB n p q a c)), st) :=
  ev_body (ev_seq (ev_expr (ev_callF (ev_cons (ev_var rfl) ev_nil) (B.need st))) (ev_ret (ev_callF (ev_cons (ev_var rfl) (ev_cons (ev_var rfl) ev_nil)) (p_is_room_of B h st))))
theorem p_need_room (B : BK b n p q d0 d1) {a c : Int} (h : Asc n a c) (hr : rmB n p q a c = true) (st : DS) : F_need_room [b, tupD [a, c]] st = some (.p .non, st) :=
  ev_bodyN (ev_seq (ev_expr (ev_callF (ev_cons (ev_var rfl) ev_nil) (B.need st))) (ev_ifF' (bb := !rmB n p q a c) (ev_not (ev_test (ev_callF (ev_cons (ev_var rfl) (ev_cons (ev_var rfl) ev_nil)) (p_is_room_of B h st)))) (by rw [hr]; rfl) ev_nilS))
theorem p_need_rooms (B : BK b n p q d0 d1) {a c u v : Int} (h : Asc n a c) (hr : rmB n p q a c = true) (h' : Asc n u v) (hr' : rmB n p q u v = true) (st : DS) : F_need_rooms [b, tupD [a, c], tupD [u, v]] st = some (.p .non, st) :=
  ev_bodyN (ev_seq (ev_expr (ev_callF (ev_cons (ev_var rfl) (ev_cons (ev_var rfl) ev_nil)) (p_need_room B h hr st))) (ev_ifF' (bb := !rmB n p q u v) (ev_not (ev_test (ev_callF (ev_cons (ev_var rfl) (ev_cons (ev_var rfl) ev_nil)) (p_is_room_of B h' st)))) (by rw [hr']; rfl) ev_nilS))
theorem p_need_lot2 (B : BK b n p q d0 d1) {a c : Int} (h : Asc n a c) (st : DS) : F_need_lot [b, tupD [a, c]] st = some (.p .non, st) :=
  ev_bodyN (ev_seq (ev_expr (ev_callF (ev_cons (ev_var rfl) ev_nil) (B.need st))) (ev_ifF' (bb := !true) (ev_not (ev_test (ev_callF (ev_cons (ev_var rfl) (ev_cons (ev_var rfl) (ev_cons ev_c (ev_cons (ev_callF (ev_cons (ev_var rfl) ev_nil) (B.pers st)) ev_nil)))) (p_is_lot2 B h.ma h.mc h.lt (by decide) st)))) rfl ev_nilS))
theorem p_need_lot1 (B : BK b n p q d0 d1) {a : Int} (h : a ∈ cols n) (st : DS) : F_need_lot [b, tupD [a]] st = some (.p .non, st) :=
  ev_bodyN (ev_seq (ev_expr (ev_callF (ev_cons (ev_var rfl) ev_nil) (B.need st))) (ev_ifF' (bb := !true) (ev_not (ev_test (ev_callF (ev_cons (ev_var rfl) (ev_cons (ev_var rfl) (ev_cons ev_c (ev_cons (ev_callF (ev_cons (ev_var rfl) ev_nil) (B.pers st)) ev_nil)))) (p_is_lot1 B h st)))) rfl ev_nilS))
/-- the first of a list of columns, none of none -/
def hdD (xs : List Int) : D := match xs with
  | [] => .non
  | x :: _ => .int x
theorem p_above_all (B : BK b n p q d0 d1) {lot : List Int} {xs : List Int} (h1 : ∀ st, F_need_lot [b, tupD lot] st = some (.p .non, st)) (h2 : ∀ st, F_columns_above [.lst [d0, d1], tupD lot] st = some (.p (.lst (xs.map D.int)), st)) (st : DS) :
    F_above_all [b, tupD lot] st = some (.p (hdD xs), st) := by
  refine ev_body (ev_seq (ev_expr (ev_callF (ev_cons (ev_var rfl) (ev_cons (ev_var rfl) ev_nil)) (h1 st))) (ev_seq (ev_set (i := 2) (ev_callF (ev_cons (ev_callFo (ev_cons (ev_var rfl) ev_nil) (B.tas st)) (ev_cons (ev_var rfl) ev_nil)) (h2 st))) (ev_ret ?_)))
  have ht := ev_test (ev_bin (ev_peek (i := 2) (env := [.p b, .p (tupD lot), .p (.lst (xs.map D.int))]) (st := st) rfl) (ev_lst ev_nil) (eqD_colsnil xs))
  cases xs with
  | nil => exact ev_iteT ht ev_c
  | cons x xs => exact ev_iteF ht (ev_bin (ev_peek rfl) ev_c (getAD_lst (i := 0) rfl))
theorem p_is_face (B : BK b n p q d0 d1) {lot : List Int} {xs : List Int} (h : ∀ st, F_above_all [b, tupD lot] st = some (.p (hdD xs), st)) (st : DS) : F_is_face [b, tupD lot] st = some (.p (.bl xs.isEmpty), st) :=
  ev_body (ev_ret (ev_bin (ev_callF (ev_cons (ev_var rfl) (ev_cons (ev_var rfl) ev_nil)) (h st)) ev_c (by cases xs <;> rfl)))
theorem p_face_counts (B : BK b n p q d0 d1) (st : DS) : F_face_counts [b] st = some (.p (tupD [(((cols n).filter (no1 n p q)).length : Int), ((rooms n p q).length : Int)]), st) := by
  have f1 : ∀ u1 u4 : Var, compE (seqI (callF F_lots_in (consA (callF F_columns_many (consA (varE 0) nilA)) (consA (varE 1) nilA)))) (nameG 4) (testE (bin eqD (callF F_columns_above (consA (varE 2) (consA (varE 4) nilA))) (lstE nilA))) (varE 4) [4]
      [.p b, .p (.int 1), .p (.lst [d0, d1]), u1, u4] st = some (.lst (((cols n).filter (no1 n p q)).map e1), st) := fun u1 u4 =>
    ev_compP (enc := e1) (xs := cols n) (p := no1 n p q) (hh := e1) (ev_seqI (ev_callF (ev_cons (ev_callF (ev_cons (ev_var rfl) ev_nil) (B.colm st)) (ev_cons (ev_var rfl) ev_nil)) (lots_fin1 n B.t.n2 B.t.n10 st)) rfl) (fun z hz => ⟨_, rfl,
      ev_test (ev_bin (ev_callF (ev_cons (ev_var rfl) (ev_cons (ev_var rfl) ev_nil)) (p_above1 B hz st)) (ev_lst ev_nil) (eqD_colsnil _)), fun _ => ev_var rfl⟩)
  have f2 : ∀ u1 u4 : Var, compE (seqI (callF F_lots_in (consA (callF F_columns_many (consA (varE 0) nilA)) (consA (varE 1) nilA)))) (nameG 4) (testE (bin eqD (callF F_columns_above (consA (varE 2) (consA (varE 4) nilA))) (lstE nilA))) (varE 4) [4]
      [.p b, .p (.int 2), .p (.lst [d0, d1]), u1, u4] st = some (.lst ((rooms n p q).map e2), st) := fun u1 u4 =>
    ev_compP (enc := e2) (xs := lots2 n) (p := fun z => rmB n p q z.1 z.2) (hh := e2) (ev_seqI (ev_callF (ev_cons (ev_callF (ev_cons (ev_var rfl) ev_nil) (B.colm st)) (ev_cons (ev_var rfl) ev_nil)) (lots_fin2 n B.t.n2 B.t.n10 st)) rfl) (fun z hz => ⟨_, rfl,
      ev_test (ev_bin (ev_callF (ev_cons (ev_var rfl) (ev_cons (ev_var rfl) ev_nil)) (p_above2 B (mem_lots2.mp hz).1 (mem_lots2.mp hz).2.1 st)) (ev_lst ev_nil) (eqD_colsnil _)), fun _ => ev_var rfl⟩)
  have l1 : lenD [.lst (((cols n).filter (no1 n p q)).map e1)] = some (.int (((cols n).filter (no1 n p q)).length : Int)) := by show some (D.int (List.length _ : Nat)) = _; rw [List.length_map]
  have l2 : lenD [.lst ((rooms n p q).map e2)] = some (.int ((rooms n p q).length : Int)) := by show some (D.int (List.length _ : Nat)) = _; rw [List.length_map]
  have e1 : (2 : Int) + 1 = 3 := rfl
  refine ev_body (ev_seq (ev_expr (ev_callF (ev_cons (ev_var rfl) ev_nil) (B.need st))) (ev_seq (ev_par (ev_ccons (ev_callFo (ev_cons (ev_var rfl) ev_nil) (B.tas st)) (ev_ccons (ev_lst ev_nil) ev_cnil))) (ev_seq (env1 := [.p b, .p (.int 2), .p (.lst [d0, d1]), .o (.lst [.int (((cols n).filter (no1 n p q)).length : Int), .int ((rooms n p q).length : Int)]), .u]) (s1 := st) (ev_for (items := [.int 1, .int 2]) (s1 := st) ?_ ?_) (ev_ret (ev_callE (ev_cons (ev_peekO rfl) ev_nil) rfl)))))
  · exact ev_bd ev_c (ev_bd (ev_bin (ev_callF (ev_cons (ev_var rfl) ev_nil) (B.pers st)) ev_c rfl) rfl)
  · refine ev_bd (s1 := st) (a := [.p b, .p (.int 1), .p (.lst [d0, d1]), .o (.lst []), .u]) rfl (ev_bd (ev_app (ev_callE (ev_cons (f1 _ _) ev_nil) l1) rfl) ?_)
    exact ev_bd (s1 := st) (a := [.p b, .p (.int 2), .p (.lst [d0, d1]), .o (.lst [.int (((cols n).filter (no1 n p q)).length : Int)]), .u]) rfl (ev_bd (ev_app (ev_callE (ev_cons (f2 _ _) ev_nil) l2) rfl) rfl)
/-! ### homes -/
theorem bestT_two {x a y c : Int} (ne : x ≠ y) : [D.tup [.int x, .int a], D.tup [.int y, .int c]][bestT [[x, a], [y, c]]]? = some (if x < y then D.tup [.int x, .int a] else D.tup [.int y, .int c]) := by
  have e : HT.lexLt [y, c] [x, a] = decide (y < x) := by rw [HT.lexLt_cons, if_neg (Ne.symm ne)]
  have e2 : bestT [[x, a], [y, c]] = if x < y then 0 else 1 := by
    show (if HT.lexLt [y, c] [x, a] = true then 1 else 0) = _
    rw [e]
    by_cases h : x < y
    · rw [if_pos h, if_neg (by simp; omega)]
    · rw [if_neg h, if_pos (by simp; omega)]
  rw [e2]
  by_cases h : x < y
  · rw [if_pos h, if_pos h]; rfl
  · rw [if_neg h, if_neg h]; rfl
theorem p_homes_in (B : BK b n p q d0 d1) {a c : Int} (h : Asc n a c) (st : DS) : F_homes_in [b, tupD [a, c]] st = some (.p (tupD [if p a < p c then a else c, if q a < q c then a else c]), st) := by
  have key := ev_compY (env := startE N_homes_in [b, tupD [a, c]]) (st := st) (s1 := st) (it := seqI (callF F_tastes_in (consA (varE 0) nilA))) (gg := nameG 2) (vs := [2]) (f := bin (getAD true) (callE minAD (consA (compE (seqI (varE 1)) (nameG 3) yesT (tupE 2 (consA (bin (getAD true) (peekE 2) (peekE 3)) (consA (varE 3) nilA))) [3]) nilA)) (cE (.int 1)))
    (enc := fun z : D × (Int → Int) => z.1) (hh := fun z => D.int (if z.2 a < z.2 c then a else c)) (xs := [(d0, p), (d1, q)]) (ev_seqI (ev_callFo (ev_cons (ev_var rfl) ev_nil) (B.tas st)) rfl) (fun z hz => ?_)
  · exact ev_body (ev_ret (ev_callE (ev_cons key ev_nil) rfl))
  · have hg := B.dget z hz
    have ne : z.2 a ≠ z.2 c := by
      have hac : a ≠ c := by have := h.lt; omega
      simp only [List.mem_cons, List.not_mem_nil, or_false] at hz
      rcases hz with rfl | rfl
      · exact fun e => hac (B.t.pi a c h.ma h.mc e)
      · exact fun e => hac (B.t.qi a c h.ma h.mc e)
    refine ⟨_, rfl, ev_bin (x := if z.2 a < z.2 c then D.tup [.int (z.2 a), .int a] else D.tup [.int (z.2 c), .int c]) (ev_callE (ev_cons (ev_compY (enc := D.int) (xs := [a, c]) (hh := fun o => D.tup [.int (z.2 o), .int o]) (ev_seqI (ev_var rfl) rfl) (fun o ho => ⟨_, rfl, ev_tup (ev_cons (ev_bin (ev_peek rfl) (ev_peek rfl) (hg o ?_)) (ev_cons (ev_var rfl) ev_nil))⟩)) ev_nil) ?_) ev_c ?_⟩
    · simp only [List.mem_cons, List.not_mem_nil, or_false] at ho
      rcases ho with rfl | rfl
      · exact h.ma
      · exact h.mc
    · exact bestT_two ne
    · split <;> rfl
theorem p_homes_of (B : BK b n p q d0 d1) {a c : Int} (h : Asc n a c) (hr : rmB n p q a c = true) (st : DS) : F_homes_of [b, tupD [a, c]] st = some (.p (tupD [if p a < p c then a else c, if q a < q c then a else c]), st) :=
  ev_body (ev_seq (ev_expr (ev_callF (ev_cons (ev_var rfl) (ev_cons (ev_var rfl) ev_nil)) (p_need_room B h hr st))) (ev_ret (ev_callF (ev_cons (ev_var rfl) (ev_cons (ev_var rfl) ev_nil)) (p_homes_in B h st))))
end
end Y
end

section
set_option Elab.async false
set_option linter.all false
set_option autoImplicit false
set_option maxRecDepth 100000
namespace Y
open PySem PySem.Spec L2
open PyProof.Rows hiding St
/-- a loop that returns at the first item of a kind -/
theorem forGo_find {α : Type} {g : GSem} {F : SSem} (enc : α → D) (P : α → Bool) (r : α → D) (I : List Var → Prop) (st : DS) : ∀ (xs : List α) (env : List Var), I env →
    (∀ x ∈ xs, ∀ env, I env → ∃ env1, g (enc x) env = some env1 ∧ I env1 ∧ (P x = true → F env1 st = some ((.rt (.p (r x)), env1), st)) ∧ (P x = false → F env1 st = some ((.nx, env1), st))) →
    ∃ env', I env' ∧ forGo g F (xs.map enc) env st = some (((match xs.find? P with | some x => Fl.rt (.p (r x)) | none => Fl.nx), env'), st)
  | [], env, h, _ => ⟨env, h, rfl⟩
  | x :: xs, env, h, hx => by
    obtain ⟨env1, h1, h2, h3, h4⟩ := hx x List.mem_cons_self env h
    rw [List.map_cons]
    cases hp : P x with
    | true =>
      refine ⟨env1, h2, ?_⟩
      rw [List.find?_cons_of_pos hp]
      exact ev_bd (s1 := st) (a := env1) (by unfold M.lf; rw [h1]) (ev_bd (h3 hp) rfl)
    | false =>
      obtain ⟨env', h5, h6⟩ := forGo_find enc P r I st xs env1 h2 fun y hy => hx y (List.mem_cons_of_mem _ hy)
      refine ⟨env', h5, ?_⟩
      rw [List.find?_cons_of_neg (by rw [hp]; decide)]
      exact ev_bd (s1 := st) (a := env1) (by unfold M.lf; rw [h1]) (ev_bd (h4 hp) h6)
theorem find_uniq {α : Type} {P : α → Bool} {z : α} : ∀ {xs : List α}, z ∈ xs → P z = true → (∀ y ∈ xs, P y = true → y = z) → xs.find? P = some z
  | [], h, _, _ => by cases h
  | x :: xs, h, hz, hu => by
    cases hp : P x with
    | true => rw [List.find?_cons_of_pos hp, hu x List.mem_cons_self hp]
    | false =>
      rw [List.find?_cons_of_neg (by rw [hp]; decide)]
      rcases List.mem_cons.mp h with rfl | h
      · rw [hz] at hp; cases hp
      · exact find_uniq h hz fun y hy => hu y (List.mem_cons_of_mem _ hy)
theorem find_no {α : Type} {P : α → Bool} {xs : List α} (h : ∀ y ∈ xs, P y ≠ true) : xs.find? P = none := List.find?_eq_none.mpr h
section
variable {b : D} {n : Nat} {p q : Int → Int} {d0 d1 : D} {st : DS}
theorem p_without (lot : List Int) (c : Int) (st : DS) : F_without [tupD lot, .int c] st = some (.p (tupD (lot.filter fun x => !decide (x = c))), st) :=
  ev_body (ev_ret (ev_callE (ev_cons (ev_compP (enc := D.int) (xs := lot) (p := fun x => !decide (x = c)) (hh := D.int) (ev_seqI (ev_var rfl) rfl) (fun x hx => ⟨_, rfl, ev_test (ev_bin (ev_peek rfl) (ev_peek rfl) (neD_int x c)), fun _ => ev_var rfl⟩)) ev_nil) rfl))
def oR (o : Option Int) (w : Int) : D := match o with
  | some z => tupD (sortI [w, z])
  | none => .non
theorem p_other_room (B : BK b n p q d0 d1) {u v c w : Int} (hw : w ∈ cols n) (hf : [u, v].filter (fun x => !decide (x = c)) = [w]) (st : DS) :
    F_other_room [b, tupD [u, v], .int c] st = some (.p (oR ((cols n).find? fun o => !decide (o ∈ [u, v]) && rmB n p q w o) w), st) := by
  have hwo := p_without [u, v] c st
  rw [hf] at hwo
  obtain ⟨env', ⟨y, rfl⟩, h⟩ := forGo_find (g := nameG 3) (F := ifS (andT (testE (bin (notInAD true) (peekE 3) (peekE 1))) (testE (bin eqD (callF F_columns_above (consA (varE 4) (consA (bin addD (peekE 5) (tupE 1 (consA (varE 3) nilA))) nilA))) (lstE nilA)))) (retS (callE tupleD (consA (callE sortedAD (consA (bin addD (peekE 5) (tupE 1 (consA (varE 3) nilA))) nilA)) nilA))) nilS)
    D.int (fun o => !decide (o ∈ [u, v]) && rmB n p q w o) (fun z => tupD (sortI [w, z])) (fun env => ∃ y, env = [.p b, .p (tupD [u, v]), .p (.int c), y, .p (.lst [d0, d1]), .p (tupD [w])]) st (cols n) [.p b, .p (tupD [u, v]), .p (.int c), .u, .p (.lst [d0, d1]), .p (tupD [w])] ⟨_, rfl⟩ (fun z hz env he => by
      obtain ⟨y, rfl⟩ := he
      have ht := ev_andT (a := !decide (z ∈ [u, v])) (b := rmB n p q w z) (st := st) (s1 := st) (env := [.p b, .p (tupD [u, v]), .p (.int c), .p (.int z), .p (.lst [d0, d1]), .p (tupD [w])]) (ev_test (ev_bin (ev_peek (i := 3) rfl) (ev_peek (i := 1) rfl) (notInAD_tupD true z [u, v]))) (fun _ => ev_test (ev_bin (ev_callF (ev_cons (ev_var (i := 4) rfl) (ev_cons (ev_bin (ev_peek (i := 5) rfl) (ev_tup (n := 1) (ev_cons (ev_var (i := 3) rfl) ev_nil)) (addD_tupD [w] [z] (show (2 : Nat) ≤ 1000 by decide))) ev_nil)) (p_above2 B hw hz st)) (ev_lst ev_nil) (eqD_colsnil _)))
      refine ⟨_, rfl, ⟨_, rfl⟩, fun hp => ev_ifT' ht hp (ev_ret (ev_callE (ev_cons (ev_callE (ev_cons (ev_bin (ev_peek (i := 5) rfl) (ev_tup (n := 1) (ev_cons (ev_var (i := 3) rfl) ev_nil)) (addD_tupD [w] [z] (show (2 : Nat) ≤ 1000 by decide))) ev_nil) rfl) ev_nil) rfl)), fun hp => ev_ifF' ht hp ev_nilS⟩)
  have hpar := ev_par (is := [4, 5]) (env := startE N_other_room [b, tupD [u, v], .int c]) (st := st) (ev_ccons (o := false) (f := callF F_tastes_in (consA (varE 0) nilA)) (ev_callFo (ev_cons (ev_var rfl) ev_nil) (B.tas st)) (ev_ccons (o := false) (f := callF F_without (consA (varE 1) (consA (varE 2) nilA))) (ev_callF (ev_cons (ev_var rfl) (ev_cons (ev_var rfl) ev_nil)) hwo) ev_cnil))
  have hit : range1I (callF F_columns_many (consA (varE 0) nilA)) [.p b, .p (tupD [u, v]), .p (.int c), .u, .p (.lst [d0, d1]), .p (tupD [w])] st = some ((cols n).map D.int, st) := by
    have := ev_range1 (n := (n : Int)) (ev_callF (K := F_columns_many) (env := [.p b, .p (tupD [u, v]), .p (.int c), .u, .p (.lst [d0, d1]), .p (tupD [w])]) (st := st) (ev_cons (ev_var (i := 0) rfl) ev_nil) (B.colm st)) (by have := B.t.n10; omega)
    rw [rangeL0] at this
    exact this
  have hfor := ev_for hit h
  cases hfd : (cols n).find? fun o => !decide (o ∈ [u, v]) && rmB n p q w o with
  | some z =>
    rw [hfd] at hfor
    exact ev_body (ev_seq hpar (ev_seqR hfor))
  | none =>
    rw [hfd] at hfor
    exact ev_body (ev_seq hpar (ev_seq hfor (ev_ret ev_c)))
/-! ### along the chain -/
def srt2 (a c : Int) : List Int := sortI [a, c]
theorem srt2_eq (a c : Int) : srt2 a c = if a ≤ c then [a, c] else [c, a] := rfl
theorem srt2_comm (a c : Int) : srt2 a c = srt2 c a := by
  rw [srt2_eq, srt2_eq]
  split <;> split <;> first | rfl | omega | skip
  have : a = c := by omega
  rw [this]
def rmD (x : Nat → Int) (i : Nat) : D := tupD (srt2 (x i) (x (i + 1)))
def rmO (x : Nat → Int) : Option Nat → D
  | none => .non
  | some i => rmD x i
variable {L : Nat} {x : Nat → Int}
theorem Chn.ne (h : Chn n p q L x) {i j : Nat} (hi : i < L) (hj : j < L) (hij : i ≠ j) : x i ≠ x j := fun e => hij (h.inj hi hj e)
theorem rm_cases (h : Chn n p q L x) {i : Nat} (hi : i + 1 < L) : (srt2 (x i) (x (i + 1)) = [x i, x (i + 1)] ∧ Asc n (x i) (x (i + 1))) ∨ (srt2 (x i) (x (i + 1)) = [x (i + 1), x i] ∧ Asc n (x (i + 1)) (x i)) := by
  have ne := h.ne (i := i) (j := i + 1) (by omega) hi (by omega)
  rw [srt2_eq]
  by_cases hl : x i ≤ x (i + 1)
  · rw [if_pos hl]; exact .inl ⟨rfl, h.inC i (by omega), h.inC _ hi, by omega⟩
  · rw [if_neg hl]; exact .inr ⟨rfl, h.inC _ hi, h.inC i (by omega), by omega⟩
theorem p_lo (B : BK b n p q d0 d1) (h : Chn n p q L x) {i : Nat} (hi : i + 1 < L) (st : DS) : F_other_room [b, rmD x i, .int (x i)] st = some (.p (rmO x (upR L i)), st) := by
  have ne := h.ne (i := i) (j := i + 1) (by omega) hi (by omega)
  have hw := h.inC (i + 1) hi
  have key : ∀ u v : Int, (∀ z, z ∈ [u, v] ↔ z = x i ∨ z = x (i + 1)) → [u, v].filter (fun z => !decide (z = x i)) = [x (i + 1)] → F_other_room [b, tupD [u, v], .int (x i)] st = some (.p (rmO x (upR L i)), st) := by
    intro u v hm hf
    rw [p_other_room B hw hf st]
    congr 3
    have hP : ∀ o ∈ cols n, (!decide (o ∈ [u, v]) && rmB n p q (x (i + 1)) o) = true ↔ i + 2 < L ∧ o = x (i + 2) := by
      intro o ho
      rw [Bool.and_eq_true, Bool.not_eq_true', decide_eq_false_iff_not, hm, rmB_iff]
      constructor
      · rintro ⟨h1, h2⟩
        rcases (h.nbr B.t hi ho (fun e => h1 (.inr e))).mp h2 with ⟨h3, h4⟩ | ⟨h3, h4⟩
        · exact ⟨h3, h4⟩
        · exact absurd (.inl h4) h1
      · rintro ⟨h1, rfl⟩
        have n1 := h.ne (i := i + 2) (j := i) h1 (by omega) (by omega)
        have n2 := h.ne (i := i + 2) (j := i + 1) h1 (by omega) (by omega)
        exact ⟨fun e => e.elim n1 n2, (h.nbr B.t hi ho n2).mpr (.inl ⟨h1, rfl⟩)⟩
    unfold upR
    by_cases h2 : i + 2 < L
    · rw [find_uniq (h.inC (i + 2) h2) ((hP _ (h.inC (i + 2) h2)).mpr ⟨h2, rfl⟩) (fun y hy e => ((hP y hy).mp e).2), if_pos h2]
      rfl
    · rw [find_no (fun y hy e => h2 ((hP y hy).mp e).1), if_neg h2]
      rfl
  unfold rmD
  rcases rm_cases h hi with ⟨e, _⟩ | ⟨e, _⟩
  · rw [e]
    exact key _ _ (fun z => by simp) (by simp [Ne.symm ne])
  · rw [e]
    exact key _ _ (fun z => by simp [Or.comm]) (by simp [Ne.symm ne])
theorem p_hi (B : BK b n p q d0 d1) (h : Chn n p q L x) {i : Nat} (hi : i + 1 < L) (st : DS) : F_other_room [b, rmD x i, .int (x (i + 1))] st = some (.p (rmO x (dnR i)), st) := by
  have ne := h.ne (i := i) (j := i + 1) (by omega) hi (by omega)
  have hw := h.inC i (by omega)
  have key : ∀ u v : Int, (∀ z, z ∈ [u, v] ↔ z = x i ∨ z = x (i + 1)) → [u, v].filter (fun z => !decide (z = x (i + 1))) = [x i] → F_other_room [b, tupD [u, v], .int (x (i + 1))] st = some (.p (rmO x (dnR i)), st) := by
    intro u v hm hf
    rw [p_other_room B hw hf st]
    congr 3
    have hP : ∀ o ∈ cols n, (!decide (o ∈ [u, v]) && rmB n p q (x i) o) = true ↔ 0 < i ∧ o = x (i - 1) := by
      intro o ho
      rw [Bool.and_eq_true, Bool.not_eq_true', decide_eq_false_iff_not, hm, rmB_iff]
      constructor
      · rintro ⟨h1, h2⟩
        rcases (h.nbr B.t (by omega : i < L) ho (fun e => h1 (.inl e))).mp h2 with ⟨h3, h4⟩ | ⟨h3, h4⟩
        · exact absurd (.inr h4) h1
        · exact ⟨h3, h4⟩
      · rintro ⟨h1, rfl⟩
        have n1 := h.ne (i := i - 1) (j := i) (by omega) (by omega) (by omega)
        have n2 := h.ne (i := i - 1) (j := i + 1) (by omega) (by omega) (by omega)
        exact ⟨fun e => e.elim n1 n2, (h.nbr B.t (by omega : i < L) ho n1).mpr (.inr ⟨h1, rfl⟩)⟩
    unfold dnR
    by_cases h2 : 0 < i
    · rw [find_uniq (h.inC (i - 1) (by omega)) ((hP _ (h.inC (i - 1) (by omega))).mpr ⟨h2, rfl⟩) (fun y hy e => ((hP y hy).mp e).2), if_pos h2]
      show tupD (sortI [x i, x (i - 1)]) = tupD (srt2 (x (i - 1)) (x (i - 1 + 1)))
      rw [Nat.sub_add_cancel h2, srt2_comm]
      rfl
    · rw [find_no (fun y hy e => h2 ((hP y hy).mp e).1), if_neg h2]
      rfl
  unfold rmD
  rcases rm_cases h hi with ⟨e, _⟩ | ⟨e, _⟩
  · rw [e]
    exact key _ _ (fun z => by simp) (by simp [ne])
  · rw [e]
    exact key _ _ (fun z => by simp [Or.comm]) (by simp [ne])
/-- what a judgement about an ascending pair says about a room of the chain -/
theorem rm_asc (B : BK b n p q d0 d1) (h : Chn n p q L x) {i : Nat} (hi : i + 1 < L) : ∃ a c, rmD x i = tupD [a, c] ∧ Asc n a c ∧ rmB n p q a c = true ∧ (∀ z, z ∈ [a, c] ↔ z = x i ∨ z = x (i + 1)) ∧ ((a = x i ∧ c = x (i + 1)) ∨ (a = x (i + 1) ∧ c = x i)) := by
  have hn := h.next B.t i hi
  unfold rmD
  rcases rm_cases h hi with ⟨e, ha⟩ | ⟨e, ha⟩
  · exact ⟨_, _, by rw [e], ha, rmB_iff.mpr hn, fun z => by simp, .inl ⟨rfl, rfl⟩⟩
  · exact ⟨_, _, by rw [e], ha, rmB_iff.mpr hn.symm, fun z => by simp [Or.comm], .inr ⟨rfl, rfl⟩⟩
theorem p_need_column (B : BK b n p q d0 d1) {c : Int} (hc : c ∈ cols n) (st : DS) : F_need_column [b, .int c] st = some (.p .non, st) := by
  have hb : F_is_below [.int c, .int n] st = some (.p (.bl true), st) := by
    have := mem_cols.mp hc
    refine ev_body (ev_ret (ev_and1 (ev_callF (ev_cons (ev_var rfl) ev_nil) (p_is_whole c st)) (ev_as (ev_chain ev_c (ev_peek rfl) rfl (ev_peek rfl) rfl) ?_)))
    simp [this.1, this.2]
  exact ev_bodyN (ev_ifF' (bb := !true) (ev_not (ev_test (ev_callF (ev_cons (ev_var rfl) (ev_cons (ev_callF (ev_cons (ev_var rfl) ev_nil) (B.colm st)) ev_nil)) hb))) rfl ev_nilS)
theorem p_beyond (B : BK b n p q d0 d1) (h : Chn n p q L x) {i : Nat} (hi : i + 1 < L) {c : Int} (hc : c = x i ∨ c = x (i + 1)) {d : D} (ho : ∀ st, F_other_room [b, rmD x i, .int c] st = some (.p d, st)) (st : DS) : F_room_beyond [b, rmD x i, .int c] st = some (.p d, st) := by
  obtain ⟨a, e, h1, h2, h3, h4, _⟩ := rm_asc B h hi
  rw [h1] at ho ⊢
  have hcC : c ∈ cols n := by
    rcases hc with rfl | rfl
    · exact h.inC i (by omega)
    · exact h.inC _ hi
  refine ev_body (ev_seq (ev_expr (ev_callF (ev_cons (ev_var rfl) (ev_cons (ev_var rfl) ev_nil)) (p_need_room B h2 h3 st))) (ev_seq (ev_expr (ev_callF (ev_cons (ev_var rfl) (ev_cons (ev_var rfl) ev_nil)) (p_need_column B hcC st))) (ev_seq (ev_ifF' (ev_test (ev_bin (ev_peek rfl) (ev_peek rfl) (notInAD_tupD true c [a, e]))) ?_ ev_nilS) (ev_ret (ev_callF (ev_cons (ev_var rfl) (ev_cons (ev_var rfl) (ev_cons (ev_var rfl) ev_nil))) (ho st))))))
  rw [Bool.not_eq_false', decide_eq_true_iff]
  exact (h4 c).mpr hc
end
end Y
end

section
set_option Elab.async false
set_option linter.all false
set_option autoImplicit false
set_option maxRecDepth 100000
namespace Y
open PySem PySem.Spec L2
open PyProof.Rows hiding St
section
variable {b : D} {n : Nat} {p q : Int → Int} {d0 d1 : D} {st : DS} {L : Nat} {x : Nat → Int}
theorem srt2_mem {a c z : Int} : z ∈ srt2 a c ↔ z = a ∨ z = c := by
  rw [srt2_eq]
  split
  · simp
  · simp [Or.comm]
theorem rm_inj (h : Chn n p q L x) {i j : Nat} (hi : i + 1 < L) (hj : j + 1 < L) (e : srt2 (x i) (x (i + 1)) = srt2 (x j) (x (j + 1))) : i = j := by
  have m1 : x i ∈ srt2 (x j) (x (j + 1)) := by rw [← e]; exact srt2_mem.mpr (.inl rfl)
  have m2 : x (i + 1) ∈ srt2 (x j) (x (j + 1)) := by rw [← e]; exact srt2_mem.mpr (.inr rfl)
  rcases srt2_mem.mp m1 with h1 | h1
  · exact h.inj (by omega) (by omega) h1
  · have k1 := h.inj (by omega) (by omega) h1
    rcases srt2_mem.mp m2 with h2 | h2
    · have := h.inj (by omega) (by omega) h2; omega
    · have := h.inj (by omega) (by omega) h2; omega
/-- a room that stands, or none -/
def OkR (L : Nat) (o : Option Nat) : Prop := ∀ i, o = some i → i + 1 < L
theorem okR_up {i : Nat} : OkR L (upR L i) := by
  intro j e
  unfold upR at e
  split at e
  · cases e; omega
  · cases e
theorem okR_dn {i : Nat} (h : i + 1 < L) : OkR L (dnR i) := by
  intro j e
  unfold dnR at e
  split at e
  · cases e; omega
  · cases e
theorem eqD_rm (h : Chn n p q L x) {o : Option Nat} (ho : OkR L o) {t : Nat} (ht : t + 1 < L) : eqD (rmO x o) (rmD x t) = some (.bl (o == some t)) := by
  cases o with
  | none => exact eqD_non_tupD _
  | some i =>
    show eqD (tupD _) (tupD _) = _
    rw [eqD_tupD]
    by_cases e : i = t
    · subst e; simp
    · rw [decide_eq_false (fun e' => e (rm_inj h (ho i rfl) ht e'))]
      simp [e]
theorem isD_rm {o : Option Nat} : isD (rmO x o) .non = some (.bl o.isNone) := by cases o <;> rfl
theorem isNotD_rm {o : Option Nat} : isNotD (rmO x o) .non = some (.bl (!o.isNone)) := by cases o <;> rfl
def wayF : SSem := seqS (ifS (orT (notT (testE (callF F_is_whole (consA (varE 5) nilA)))) (orT (testE (bin isD (peekE 4) (cE .non))) (testE (bin (notInAD true) (peekE 5) (peekE 4))))) (retS (cE (.bl false))) nilS) (setS 4 (callF F_other_room (consA (varE 0) (consA (varE 4) (consA (varE 5) nilA)))))
theorem way_go (B : BK b n p q d0 d1) (h : Chn n p q L x) (d1' d2' d3' : D) (t : Nat) (st : DS) : ∀ (cs : List Int) (o : Option Nat) (y : Var), OkR L o →
    ∃ fl env', forGo (nameG 5) wayF (cs.map D.int) [.p b, .p d1', .p d2', .p d3', .p (rmO x o), y] st = some ((fl, env'), st) ∧
      ((fl = .rt (.p (.bl false)) ∧ wayOk L x cs o t = false) ∨ (fl = .nx ∧ ∃ o' y', OkR L o' ∧ env' = [.p b, .p d1', .p d2', .p d3', .p (rmO x o'), y'] ∧ wayOk L x cs o t = (o' == some t)))
  | [], o, y, ho => ⟨_, _, rfl, .inr ⟨rfl, o, y, ho, rfl, rfl⟩⟩
  | c :: cs, none, y, ho => by
    refine ⟨.rt (.p (.bl false)), [.p b, .p d1', .p d2', .p d3', .p .non, .p (.int c)], ?_, .inl ⟨rfl, rfl⟩⟩
    exact ev_bd (s1 := st) (a := [.p b, .p d1', .p d2', .p d3', .p .non, .p (.int c)]) rfl (ev_bd (ev_seqR (ev_ifT' (bb := (!true) || true) (ev_orT0 (b := true) (ev_not (b := true) (ev_test (ev_callF (ev_cons (ev_var rfl) ev_nil) (p_is_whole c st)))) (ev_orT1 (ev_test (ev_bin (ev_peek rfl) ev_c rfl)))) rfl (ev_ret ev_c))) rfl)
  | c :: cs, some i, y, ho => by
    have hi := ho i rfl
    have g1 : M.lf (nameG 5 (.int c) [.p b, .p d1', .p d2', .p d3', .p (rmD x i), y]) st = some ([.p b, .p d1', .p d2', .p d3', .p (rmD x i), .p (.int c)], st) := rfl
    have hw := ev_callF (ev_cons (ev_var (i := 5) (env := [.p b, .p d1', .p d2', .p d3', .p (rmD x i), .p (.int c)]) (st := st) rfl) ev_nil) (p_is_whole c st)
    have ht : orT (notT (testE (callF F_is_whole (consA (varE 5) nilA)))) (orT (testE (bin isD (peekE 4) (cE .non))) (testE (bin (notInAD true) (peekE 5) (peekE 4)))) [.p b, .p d1', .p d2', .p d3', .p (rmD x i), .p (.int c)] st = some (!decide (c ∈ srt2 (x i) (x (i + 1))), st) :=
      ev_orT0 (ev_not (b := true) (ev_test hw)) (ev_orT0 (ev_test (ev_bin (ev_peek rfl) ev_c rfl)) (ev_test (ev_bin (ev_peek rfl) (ev_peek rfl) (notInAD_tupD true c _))))
    have go : ∀ o', OkR L o' → F_other_room [b, rmD x i, .int c] st = some (.p (rmO x o'), st) → c ∈ srt2 (x i) (x (i + 1)) → wayOk L x (c :: cs) (some i) t = wayOk L x cs o' t →
        ∃ fl env', forGo (nameG 5) wayF ((c :: cs).map D.int) [.p b, .p d1', .p d2', .p d3', .p (rmO x (some i)), y] st = some ((fl, env'), st) ∧
        ((fl = .rt (.p (.bl false)) ∧ wayOk L x (c :: cs) (some i) t = false) ∨ (fl = .nx ∧ ∃ o' y', OkR L o' ∧ env' = [.p b, .p d1', .p d2', .p d3', .p (rmO x o'), y'] ∧ wayOk L x (c :: cs) (some i) t = (o' == some t))) := by
      intro o' ho' hr hm hwy
      obtain ⟨fl, env', h1, h2⟩ := way_go B h d1' d2' d3' t st cs o' (.p (.int c)) ho'
      rw [hwy]
      refine ⟨fl, env', ?_, h2⟩
      exact ev_bd g1 (ev_bd (ev_seq (ev_ifF' ht (by simp [hm]) ev_nilS) (ev_set (ev_callF (ev_cons (ev_var rfl) (ev_cons (ev_var rfl) (ev_cons (ev_var rfl) ev_nil))) hr))) h1)
    by_cases e1 : c = x i
    · subst e1
      exact go (upR L i) okR_up (p_lo B h hi st) (srt2_mem.mpr (.inl rfl)) (by rw [wayOk, if_pos rfl])
    · by_cases e2 : c = x (i + 1)
      · subst e2
        exact go (dnR i) (okR_dn hi) (p_hi B h hi st) (srt2_mem.mpr (.inr rfl)) (by rw [wayOk, if_neg e1, if_pos rfl])
      · refine ⟨.rt (.p (.bl false)), [.p b, .p d1', .p d2', .p d3', .p (rmD x i), .p (.int c)], ?_, .inl ⟨rfl, by rw [wayOk, if_neg e1, if_neg e2]⟩⟩
        have hm : ¬ c ∈ srt2 (x i) (x (i + 1)) := fun hm => (srt2_mem.mp hm).elim e1 e2
        exact ev_bd g1 (ev_bd (ev_seqR (ev_ifT' ht (by simp [hm]) (ev_ret ev_c))) rfl)
theorem p_is_room_way (B : BK b n p q d0 d1) (h : Chn n p q L x) {i t : Nat} (hi : i + 1 < L) (ht : t + 1 < L) (cs : List Int) (st : DS) : F_is_room_way [b, rmD x i, rmD x t, tupD cs] st = some (.p (.bl (wayOk L x cs (some i) t)), st) := by
  have hn : F_need_rooms [b, rmD x i, rmD x t] st = some (.p .non, st) := by
    obtain ⟨a1, c1, e1, a2, a3, _⟩ := rm_asc B h hi
    obtain ⟨u1, v1, e2, u2, u3, _⟩ := rm_asc B h ht
    rw [e1, e2]
    exact p_need_rooms B a2 a3 u2 u3 st
  obtain ⟨fl, env', h1, h2⟩ := way_go B h (rmD x i) (rmD x t) (tupD cs) t st cs (some i) .u (fun j e => by cases e; exact hi)
  have pre : ∀ {r : Option ((Fl × List Var) × DS)}, seqS (forS (seqI (varE 3)) (nameG 5) wayF) (retS (bin eqD (peekE 4) (peekE 2))) [.p b, .p (rmD x i), .p (rmD x t), .p (tupD cs), .p (rmD x i), .u] st = r → B_is_room_way (startE N_is_room_way [b, rmD x i, rmD x t, tupD cs]) st = r := fun hr =>
    ev_seq (ev_expr (ev_callF (ev_cons (ev_var rfl) (ev_cons (ev_var rfl) (ev_cons (ev_var rfl) ev_nil))) hn)) (ev_seq (ev_ifF' (bb := !true) (ev_not (b := true) (ev_test (ev_un (ev_peek rfl) rfl))) rfl ev_nilS) (ev_seq (ev_set (ev_var rfl)) hr))
  have hfor := ev_for (ev_seqI (ev_var (i := 3) (env := [.p b, .p (rmD x i), .p (rmD x t), .p (tupD cs), .p (rmD x i), .u]) (st := st) rfl) rfl) h1
  rcases h2 with ⟨rfl, hf⟩ | ⟨rfl, o', y', ho', rfl, hf⟩
  · rw [hf]
    exact ev_body (pre (ev_seqR hfor))
  · rw [hf]
    exact ev_body (pre (ev_seq hfor (ev_ret (ev_bin (ev_peek rfl) (ev_peek rfl) (eqD_rm h ho' ht)))))
end
end Y
end

section
set_option Elab.async false
set_option linter.all false
set_option autoImplicit false
set_option maxRecDepth 100000
namespace Y
open PySem PySem.Spec L2
open PyProof.Rows hiding St
/-! ### dicts whose keys are tuples of ints -/
theorem keyT (ns : List Int) : keyOf true (tupD ns) = some (.t (ns.map Sum.inl)) := by
  have h := keyOf_map (ns.map Sum.inl)
  rw [List.map_map] at h
  exact h
theorem keyT_eq (a c : List Int) : decide (keyOf true (tupD a) = some (Ky.t (c.map Sum.inl))) = decide (a = c) := by
  rw [keyT]
  by_cases h : a = c
  · subst h; simp
  · rw [decide_eq_false h, decide_eq_false]
    intro e
    injection e with e
    injection e with e
    exact h (List.map_inj_right (f := (Sum.inl : Int → Key)) (fun u v huv => Sum.inl.inj huv) |>.mp e)
section
variable {α : Type} (W : List α) (kf : α → List Int) (v : α → D)
theorem dget_map (k : List Int) : dget true (W.map fun z => (tupD (kf z), v z)) (tupD k) = some ((W.find? fun z => decide (kf z = k)).map v) := by
  unfold dget
  rw [keyT]
  show some (((W.map fun z => (tupD (kf z), v z)).find? fun p => decide (keyOf true p.1 = some (Ky.t (k.map Sum.inl)))).map (·.2)) = _
  rw [List.find?_map, Option.map_map]
  have : ((fun p : D × D => decide (keyOf true p.1 = some (Ky.t (k.map Sum.inl)))) ∘ fun z => (tupD (kf z), v z)) = fun z => decide (kf z = k) := by
    funext z
    exact keyT_eq _ _
  rw [this]
  rfl
theorem any_map (k : List Int) : ((W.map fun z => (tupD (kf z), v z)).any fun p => decide (keyOf true p.1 = some (Ky.t (k.map Sum.inl)))) = W.any fun z => decide (kf z = k) := by
  rw [List.any_map]
  congr 1
  funext z
  exact keyT_eq _ _
theorem dput_new {k : List Int} (d : D) (h : ∀ z ∈ W, kf z ≠ k) : dput true (W.map fun z => (tupD (kf z), v z)) (tupD k) d = some ((W.map fun z => (tupD (kf z), v z)) ++ [(tupD k, d)]) := by
  unfold dput
  rw [keyT]
  show some (if ((W.map fun z => (tupD (kf z), v z)).any fun p => decide (keyOf true p.1 = some (Ky.t (k.map Sum.inl)))) = true then _ else _) = _
  rw [any_map, if_neg]
  rw [List.any_eq_true]
  rintro ⟨z, hz, e⟩
  exact h z hz (of_decide_eq_true e)
theorem dput_old {k : List Int} (d : D) (h : ∃ z ∈ W, kf z = k) : dput true (W.map fun z => (tupD (kf z), v z)) (tupD k) d = some (W.map fun z => (tupD (kf z), if kf z = k then d else v z)) := by
  unfold dput
  rw [keyT]
  show some (if ((W.map fun z => (tupD (kf z), v z)).any fun p => decide (keyOf true p.1 = some (Ky.t (k.map Sum.inl)))) = true then _ else _) = _
  rw [any_map, if_pos, List.map_map]
  · congr 1
    refine List.map_congr_left fun z hz => ?_
    show (if keyOf true (tupD (kf z)) = some (Ky.t (k.map Sum.inl)) then ((tupD (kf z), d) : D × D) else (tupD (kf z), v z)) = _
    have := keyT_eq (kf z) k
    by_cases e : kf z = k
    · rw [if_pos e, if_pos (by rw [decide_eq_true e] at this; exact of_decide_eq_true this)]
    · rw [if_neg e, if_neg (by rw [decide_eq_false e] at this; exact of_decide_eq_false this)]
  · rw [List.any_eq_true]
    obtain ⟨z, hz, e⟩ := h
    exact ⟨z, hz, decide_eq_true e⟩
end
theorem nodup_lt : ∀ (m : Nat) (l : List Nat), l.Nodup → (∀ a ∈ l, a < m) → l.length ≤ m
  | 0, l, _, h => by
    cases l with
    | nil => exact Nat.le_refl _
    | cons a l => exact absurd (h a List.mem_cons_self) (Nat.not_lt_zero _)
  | m + 1, l, hn, h => by
    have h1 := nodup_lt m (l.erase m) (hn.erase m) fun a ha => by
      have h2 := h a (List.mem_of_mem_erase ha)
      have h3 := (hn.mem_erase_iff.mp ha).1
      omega
    have h2 := List.length_erase (a := m) (l := l)
    split at h2 <;> omega
section
variable {b : D} {n : Nat} {p q : Int → Int} {d0 d1 : D} {st : DS} {L : Nat} {x : Nat → Int}
abbrev KV (x : Nat → Int) (vis : List (Nat × List Int)) : List (D × D) := vis.map fun z => (tupD (srt2 (x z.1) (x (z.1 + 1))), tupD z.2)
abbrev Ks (vis : List (Nat × List Int)) : List Nat := vis.map (·.1)
structure WInv (L : Nat) (x : Nat → Int) (one : Nat) (vis : List (Nat × List Int)) (wait : List Nat) (ex : Nat → Prop) : Prop where
  lt : ∀ z ∈ vis, z.1 + 1 < L
  ld : ∀ z ∈ vis, Leads L x z.2 one z.1
  ln : ∀ z ∈ vis, z.2.length < vis.length
  nd : (Ks vis).Nodup
  st : one ∈ Ks vis
  wt : ∀ j ∈ wait, j ∈ Ks vis
  cl : ∀ j ∈ Ks vis, j ∉ wait → ¬ ex j → (j + 2 < L → j + 1 ∈ Ks vis) ∧ (0 < j → j - 1 ∈ Ks vis)
theorem WInv.len {one : Nat} {vis : List (Nat × List Int)} {wait : List Nat} {ex : Nat → Prop} (w : WInv L x one vis wait ex) : vis.length ≤ L - 1 := by
  have := nodup_lt (L - 1) (Ks vis) w.nd fun a ha => by
    obtain ⟨z, hz, rfl⟩ := List.mem_map.mp ha
    have := w.lt z hz
    omega
  rwa [List.length_map] at this
theorem find_rm (h : Chn n p q L x) {vis : List (Nat × List Int)} (hv : ∀ z ∈ vis, z.1 + 1 < L) {j : Nat} (hj : j + 1 < L) :
    (vis.find? fun z => decide (srt2 (x z.1) (x (z.1 + 1)) = srt2 (x j) (x (j + 1)))) = vis.find? fun z => decide (z.1 = j) := by
  induction vis with
  | nil => rfl
  | cons z vis ih =>
    have e : decide (srt2 (x z.1) (x (z.1 + 1)) = srt2 (x j) (x (j + 1))) = decide (z.1 = j) := by
      by_cases e : z.1 = j
      · rw [e]; simp
      · rw [decide_eq_false e, decide_eq_false]
        exact fun e' => e (rm_inj h (hv z List.mem_cons_self) hj e')
    rw [List.find?_cons, List.find?_cons, e, ih fun y hy => hv y (List.mem_cons_of_mem _ hy)]
theorem find_ks {vis : List (Nat × List Int)} {j : Nat} : (vis.find? fun z => decide (z.1 = j)).isSome = decide (j ∈ Ks vis) := by
  by_cases h : j ∈ Ks vis
  · rw [decide_eq_true h, List.find?_isSome]
    obtain ⟨z, hz, e⟩ := List.mem_map.mp h
    exact ⟨z, hz, decide_eq_true e⟩
  · rw [decide_eq_false h, ← Bool.not_eq_true, List.find?_isSome]
    rintro ⟨z, hz, e⟩
    exact h (List.mem_map.mpr ⟨z, hz, of_decide_eq_true e⟩)
theorem notIn_rm (h : Chn n p q L x) {vis : List (Nat × List Int)} (hv : ∀ z ∈ vis, z.1 + 1 < L) {j : Nat} (hj : j + 1 < L) : notInAD true (rmD x j) (.dic true (KV x vis)) = some (.bl (!decide (j ∈ Ks vis))) := by
  show (if true = true ∧ true = false then none else (dget true (KV x vis) (tupD _)).map fun o => D.bl (!o.isSome)) = _
  rw [if_neg (by decide), dget_map, find_rm h hv hj]
  show some (D.bl (!(Option.map _ _).isSome)) = _
  rw [Option.isSome_map, find_ks]
theorem get_rm (h : Chn n p q L x) {vis : List (Nat × List Int)} (hv : ∀ z ∈ vis, z.1 + 1 < L) {j : Nat} (hj : j + 1 < L) {z : Nat × List Int} (hz : (vis.find? fun z => decide (z.1 = j)) = some z) : getAD true (.dic true (KV x vis)) (rmD x j) = some (tupD z.2) := by
  show (if true = true ∧ true = false then none else (dget true (KV x vis) (tupD _)).bind id) = _
  rw [if_neg (by decide), dget_map, find_rm h hv hj, hz]
  rfl
abbrev WE (x : Nat → Int) (b o1 o2 : D) (vis : List (Nat × List Int)) (wait : List Nat) (y5 y6 y7 : Var) : List Var := [.p b, .p o1, .p o2, .o (.dic true (KV x vis)), .o (.lst (wait.map (rmD x))), y5, y6, y7]
def colF : SSem := seqS (setS 7 (callF F_other_room (consA (varE 0) (consA (varE 5) (consA (varE 6) nilA))))) (ifS (andT (testE (bin isNotD (peekE 7) (cE .non))) (testE (bin (notInAD true) (peekE 7) (peekE 3)))) (seqS (dputS true 3 (varE 7) (bin addD (bin (getAD true) (peekE 3) (peekE 5)) (tupE 1 (consA (varE 6) nilA)))) (appS 4 (varE 7))) nilS)
theorem col_step (B : BK b n p q d0 d1) (h : Chn n p q L x) (hL : L ≤ 10) {o1 o2 : D} {one i : Nat} {vis : List (Nat × List Int)} {wait : List Nat} {y7 : Var} {c : Int} {o : Option Nat} (hi : i + 1 < L) (w : WInv L x one vis wait (· = i)) (hiK : i ∈ Ks vis) (hwl : wait.length ≤ vis.length)
    (ho : OkR L o) (hr : ∀ st, F_other_room [b, rmD x i, .int c] st = some (.p (rmO x o), st)) (hld : ∀ j u, o = some j → Leads L x u one i → Leads L x (u ++ [c]) one j) (st : DS) :
    ∃ vis' wait' y7', colF (WE x b o1 o2 vis wait (.p (rmD x i)) (.p (.int c)) y7) st = some ((.nx, WE x b o1 o2 vis' wait' (.p (rmD x i)) (.p (.int c)) y7'), st) ∧
      WInv L x one vis' wait' (· = i) ∧ (∀ j ∈ Ks vis, j ∈ Ks vis') ∧ (∀ j, o = some j → j ∈ Ks vis') ∧ vis'.length + wait.length = vis.length + wait'.length := by
  have s7 : setS 7 (callF F_other_room (consA (varE 0) (consA (varE 5) (consA (varE 6) nilA)))) (WE x b o1 o2 vis wait (.p (rmD x i)) (.p (.int c)) y7) st = some ((.nx, WE x b o1 o2 vis wait (.p (rmD x i)) (.p (.int c)) (.p (rmO x o))), st) :=
    ev_set (ev_callF (ev_cons (ev_var rfl) (ev_cons (ev_var rfl) (ev_cons (ev_var rfl) ev_nil))) (hr st))
  have t1 : testE (bin isNotD (peekE 7) (cE .non)) (WE x b o1 o2 vis wait (.p (rmD x i)) (.p (.int c)) (.p (rmO x o))) st = some (!o.isNone, st) := ev_test (ev_bin (ev_peek rfl) ev_c isNotD_rm)
  cases o with
  | none =>
    refine ⟨vis, wait, .p .non, ?_, w, fun j hj => hj, fun j e => (by cases e), rfl⟩
    exact ev_seq s7 (ev_ifF' (ev_andT (b := true) t1 (fun e => by cases e)) rfl ev_nilS)
  | some j =>
    have hj := ho j rfl
    have tt := ev_andT t1 fun _ => ev_test (ev_bin (ev_peek (i := 7) (env := WE x b o1 o2 vis wait (.p (rmD x i)) (.p (.int c)) (.p (rmO x (some j)))) (st := st) rfl) (ev_peekO (i := 3) rfl) (notIn_rm h w.lt hj))
    by_cases hm : j ∈ Ks vis
    · refine ⟨vis, wait, .p (rmD x j), ?_, w, fun j hj => hj, fun j e => (by cases e; exact hm), rfl⟩
      exact ev_seq s7 (ev_ifF' tt (by simp [hm]) ev_nilS)
    · have hfi : ((vis.find? fun z => decide (z.1 = i)).isSome) = true := by rw [find_ks]; exact decide_eq_true hiK
      obtain ⟨z, hz⟩ := Option.isSome_iff_exists.mp hfi
      have hzm := List.mem_of_find?_eq_some hz
      have hze : z.1 = i := by have := List.find?_some hz; exact of_decide_eq_true this
      have hvl := w.len
      have hzl := w.ln z hzm
      have hKV : KV x (vis ++ [(j, z.2 ++ [c])]) = KV x vis ++ [(tupD (srt2 (x j) (x (j + 1))), tupD (z.2 ++ [c]))] := by
        show List.map _ (vis ++ _) = _
        rw [List.map_append]; rfl
      have hKs : Ks (vis ++ [(j, z.2 ++ [c])]) = Ks vis ++ [j] := by
        show List.map _ (vis ++ _) = _
        rw [List.map_append]; rfl
      refine ⟨vis ++ [(j, z.2 ++ [c])], wait ++ [j], .p (rmD x j), ?_, ?_, fun k hk => (by rw [hKs]; exact List.mem_append_left _ hk), fun k e => (by cases e; rw [hKs]; simp), (by simp; omega)⟩
      · have put : putV true (WE x b o1 o2 vis wait (.p (rmD x i)) (.p (.int c)) (.p (rmD x j))) 3 (rmD x j) (tupD (z.2 ++ [c])) = some (WE x b o1 o2 (vis ++ [(j, z.2 ++ [c])]) wait (.p (rmD x i)) (.p (.int c)) (.p (rmD x j))) := by
          show (if true = true ∧ (KV x vis).length ≤ 1000000 then (dput true (KV x vis) (tupD _) _).map fun kvs' => (WE x b o1 o2 vis wait (.p (rmD x i)) (.p (.int c)) (.p (rmD x j))).set 3 (.o (.dic true kvs')) else none) = _
          rw [if_pos ⟨rfl, by rw [List.length_map]; omega⟩, dput_new _ _ _ _ (fun u hu e => hm (List.mem_map.mpr ⟨u, hu, rm_inj h (w.lt u hu) hj e⟩))]
          show some ((WE x b o1 o2 vis wait (.p (rmD x i)) (.p (.int c)) (.p (rmD x j))).set 3 (.o (.dic true (KV x vis ++ [(tupD (srt2 (x j) (x (j + 1))), tupD (z.2 ++ [c]))])))) = _
          rw [← hKV]
          rfl
        have app : appV (WE x b o1 o2 (vis ++ [(j, z.2 ++ [c])]) wait (.p (rmD x i)) (.p (.int c)) (.p (rmD x j))) 4 (rmD x j) = some (WE x b o1 o2 (vis ++ [(j, z.2 ++ [c])]) (wait ++ [j]) (.p (rmD x i)) (.p (.int c)) (.p (rmD x j))) := by
          show (if (wait.map (rmD x)).length ≤ 1000000 then some ((WE x b o1 o2 (vis ++ [(j, z.2 ++ [c])]) wait (.p (rmD x i)) (.p (.int c)) (.p (rmD x j))).set 4 (.o (.lst (wait.map (rmD x) ++ [rmD x j])))) else none) = _
          rw [if_pos (by rw [List.length_map]; omega)]
          show some (WE x b o1 o2 (vis ++ [(j, z.2 ++ [c])]) wait (.p (rmD x i)) (.p (.int c)) (.p (rmD x j)) |>.set 4 (.o (.lst (wait.map (rmD x) ++ [rmD x j])))) = some [_, _, _, _, .o (.lst ((wait ++ [j]).map (rmD x))), _, _, _]
          rw [List.map_append]
          rfl
        have dp : dputS true 3 (varE 7) (bin addD (bin (getAD true) (peekE 3) (peekE 5)) (tupE 1 (consA (varE 6) nilA))) (WE x b o1 o2 vis wait (.p (rmD x i)) (.p (.int c)) (.p (rmD x j))) st = some ((.nx, WE x b o1 o2 (vis ++ [(j, z.2 ++ [c])]) wait (.p (rmD x i)) (.p (.int c)) (.p (rmD x j))), st) := by
          refine ev_bd (a := tupD (z.2 ++ [c])) (ev_bin (ev_bin (ev_peekO rfl) (ev_peek rfl) (get_rm h w.lt hi hz)) (ev_tup (ev_cons (ev_var rfl) ev_nil)) (addD_tupD z.2 [c] (by simp; omega))) (ev_bd (a := rmD x j) (ev_var rfl) ?_)
          exact ev_bd (s1 := st) (by unfold M.lf; rw [put]) rfl
        exact ev_seq s7 (ev_ifT' tt (by simp [hm]) (ev_seq dp (ev_app (ev_var rfl) app)))
      · refine ⟨fun u hu => ?_, fun u hu => ?_, fun u hu => ?_, ?_, ?_, fun k hk => ?_, fun k hk hkw hne => ?_⟩
        · rcases List.mem_append.mp hu with hu | hu
          · exact w.lt u hu
          · simp only [List.mem_cons, List.not_mem_nil, or_false] at hu; subst hu; exact hj
        · rcases List.mem_append.mp hu with hu | hu
          · exact w.ld u hu
          · simp only [List.mem_cons, List.not_mem_nil, or_false] at hu; subst hu
            exact hld j z.2 rfl (by rw [← hze]; exact w.ld z hzm)
        · rw [List.length_append]
          rcases List.mem_append.mp hu with hu | hu
          · have := w.ln u hu; omega
          · simp only [List.mem_cons, List.not_mem_nil, or_false] at hu; subst hu
            simp; omega
        · rw [hKs, List.nodup_append]
          refine ⟨w.nd, by simp, fun a ha c hc e => ?_⟩
          simp only [List.mem_cons, List.not_mem_nil, or_false] at hc
          subst hc; subst e; exact hm ha
        · rw [hKs]; exact List.mem_append_left _ w.st
        · rw [hKs]
          rcases List.mem_append.mp hk with hk | hk
          · exact List.mem_append_left _ (w.wt k hk)
          · exact List.mem_append_right _ hk
        · rw [hKs] at hk ⊢
          have hkj : k ≠ j := fun e => hkw (by rw [e]; simp)
          have hk' : k ∈ Ks vis := by
            rcases List.mem_append.mp hk with hk | hk
            · exact hk
            · simp only [List.mem_cons, List.not_mem_nil, or_false] at hk; exact absurd hk hkj
          obtain ⟨c1, c2⟩ := w.cl k hk' (fun e => hkw (List.mem_append_left _ e)) hne
          exact ⟨fun e => List.mem_append_left _ (c1 e), fun e => List.mem_append_left _ (c2 e)⟩
end
end Y
end

section
set_option Elab.async false
set_option linter.all false
set_option autoImplicit false
set_option maxRecDepth 100000
namespace Y
open PySem PySem.Spec L2
open PyProof.Rows hiding St
section
variable {b : D} {n : Nat} {p q : Int → Int} {d0 d1 : D} {st : DS} {L : Nat} {x : Nat → Int}
def wayB : SSem := seqS (popS 5 4 (cE (.int 0))) (forS (seqI (varE 5)) (nameG 6) colF)
theorem two_cols (B : BK b n p q d0 d1) (h : Chn n p q L x) (hL : L ≤ 10) {o1 o2 : D} {one i : Nat} {vis : List (Nat × List Int)} {wait : List Nat} {y6 y7 : Var} (hi : i + 1 < L) (w : WInv L x one vis wait (· = i)) (hiK : i ∈ Ks vis) (hwl : wait.length ≤ vis.length) (st : DS) :
    ∃ vis' wait' y6' y7', forS (seqI (varE 5)) (nameG 6) colF (WE x b o1 o2 vis wait (.p (rmD x i)) y6 y7) st = some ((.nx, WE x b o1 o2 vis' wait' (.p (rmD x i)) y6' y7'), st) ∧
      WInv L x one vis' wait' (fun _ => False) ∧ vis'.length + wait.length = vis.length + wait'.length := by
  have inj : ∀ i j, i < L → j < L → x i = x j → i = j := fun i j hi hj e => h.inj hi hj e
  have stepL : ∀ {vis : List (Nat × List Int)} {wait : List Nat} {y7 : Var}, WInv L x one vis wait (· = i) → i ∈ Ks vis → wait.length ≤ vis.length → _ := fun {vis wait y7} w hiK hwl =>
    col_step (o1 := o1) (o2 := o2) (y7 := y7) B h hL (c := x i) (o := upR L i) hi w hiK hwl okR_up (p_lo B h hi) (fun j u e hl => by
      unfold upR at e
      split at e
      · cases e; rename_i h2; exact leads_up hl h2
      · cases e) st
  have stepH : ∀ {vis : List (Nat × List Int)} {wait : List Nat} {y7 : Var}, WInv L x one vis wait (· = i) → i ∈ Ks vis → wait.length ≤ vis.length → _ := fun {vis wait y7} w hiK hwl =>
    col_step (o1 := o1) (o2 := o2) (y7 := y7) B h hL (c := x (i + 1)) (o := dnR i) hi w hiK hwl (okR_dn hi) (p_hi B h hi) (fun j u e hl => by
      unfold dnR at e
      split at e
      · cases e; rename_i h2; exact leads_dn inj hl h2 hi
      · cases e) st
  have fin : ∀ {vis' : List (Nat × List Int)} {wait' : List Nat}, WInv L x one vis' wait' (· = i) → (∀ j, upR L i = some j → j ∈ Ks vis') → (∀ j, dnR i = some j → j ∈ Ks vis') → WInv L x one vis' wait' (fun _ => False) := fun {vis' wait'} w h1 h2 =>
    ⟨w.lt, w.ld, w.ln, w.nd, w.st, w.wt, fun k hk hkw _ => by
      by_cases e : k = i
      · subst e
        exact ⟨fun e => h1 _ (by unfold upR; rw [if_pos e]), fun e => h2 _ (by unfold dnR; rw [if_pos e])⟩
      · exact w.cl k hk hkw e⟩
  obtain ⟨a, c, e, _, _, _, hac⟩ := rm_asc B h hi
  have hit : seqI (varE 5) (WE x b o1 o2 vis wait (.p (rmD x i)) y6 y7) st = some ([.int a, .int c], st) := ev_seqI (ev_var rfl) (by rw [e]; rfl)
  rcases hac with ⟨rfl, rfl⟩ | ⟨rfl, rfl⟩
  · obtain ⟨v1, w1, z1, h1, h2, h3, h4, h5⟩ := stepL (y7 := y7) w hiK hwl
    obtain ⟨v2, w2, z2, k1, k2, k3, k4, k5⟩ := stepH (y7 := z1) h2 (h3 i hiK) (by omega)
    refine ⟨v2, w2, _, z2, ev_for hit (ev_bd (s1 := st) (a := WE x b o1 o2 vis wait (.p (rmD x i)) (.p (.int (x i))) y7) rfl (ev_bd h1 (ev_bd (s1 := st) (a := WE x b o1 o2 v1 w1 (.p (rmD x i)) (.p (.int (x (i + 1)))) z1) rfl (ev_bd k1 rfl)))), fin k2 (fun j e => k3 j (h4 j e)) k4, by omega⟩
  · obtain ⟨v1, w1, z1, h1, h2, h3, h4, h5⟩ := stepH (y7 := y7) w hiK hwl
    obtain ⟨v2, w2, z2, k1, k2, k3, k4, k5⟩ := stepL (y7 := z1) h2 (h3 i hiK) (by omega)
    refine ⟨v2, w2, _, z2, ev_for hit (ev_bd (s1 := st) (a := WE x b o1 o2 vis wait (.p (rmD x i)) (.p (.int (x (i + 1)))) y7) rfl (ev_bd h1 (ev_bd (s1 := st) (a := WE x b o1 o2 v1 w1 (.p (rmD x i)) (.p (.int (x i))) z1) rfl (ev_bd k1 rfl)))), fin k2 k4 (fun j e => k3 j (h4 j e)), by omega⟩
theorem way_loop (B : BK b n p q d0 d1) (h : Chn n p q L x) (hL : L ≤ 10) {o1 : D} {one two : Nat} (hone : one + 1 < L) (htwo : two + 1 < L) (st : DS) : ∀ (fuel : Nat) (vis : List (Nat × List Int)) (wait : List Nat) (y5 y6 y7 : Var),
    WInv L x one vis wait (fun _ => False) → wait.length ≤ vis.length → (L - 1 - vis.length) + wait.length < fuel →
    ∃ vis' wait' y5' y6' y7', whileN (testE (bin (notInAD true) (peekE 2) (peekE 3))) wayB fuel (WE x b o1 (rmD x two) vis wait y5 y6 y7) st = some ((.nx, WE x b o1 (rmD x two) vis' wait' y5' y6' y7'), st) ∧
      WInv L x one vis' wait' (fun _ => False) ∧ two ∈ Ks vis'
  | 0, _, _, _, _, _, _, _, hf => by omega
  | fuel + 1, vis, wait, y5, y6, y7, w, hwl, hf => by
    have ht : testE (bin (notInAD true) (peekE 2) (peekE 3)) (WE x b o1 (rmD x two) vis wait y5 y6 y7) st = some (!decide (two ∈ Ks vis), st) := ev_test (ev_bin (ev_peek rfl) (ev_peekO rfl) (notIn_rm h w.lt htwo))
    by_cases hm : two ∈ Ks vis
    · refine ⟨vis, wait, y5, y6, y7, ?_, w, hm⟩
      rw [decide_eq_true hm] at ht
      exact ev_bd ht rfl
    · rw [decide_eq_false hm] at ht
      cases wait with
      | nil =>
        exact absurd (closed_all (r := L - 1) (S := fun j => j ∈ Ks vis) w.st (by omega) (fun j hj hl => (w.cl j hj (by simp) (fun f => f)).1 (by omega)) (fun j hj hl => (w.cl j hj (by simp) (fun f => f)).2 hl) two (by omega)) hm
      | cons i wait =>
        have hiK := w.wt i List.mem_cons_self
        obtain ⟨z, hz, hzi⟩ := List.mem_map.mp hiK
        have hi : i + 1 < L := by have := w.lt z hz; rw [hzi] at this; exact this
        have w0 : WInv L x one vis wait (· = i) := ⟨w.lt, w.ld, w.ln, w.nd, w.st, fun j hj => w.wt j (List.mem_cons_of_mem _ hj), fun k hk hkw hne => w.cl k hk (fun e => (List.mem_cons.mp e).elim hne hkw) (fun f => f)⟩
        simp only [List.length_cons] at hwl hf
        obtain ⟨v1, w1, u6, u7, h1, h2, h3⟩ := two_cols (o1 := o1) (o2 := rmD x two) (y6 := y6) (y7 := y7) B h hL hi w0 hiK (by omega) st
        have hv := h2.len
        have hv0 := w.len
        obtain ⟨v2, w2, k5, k6, k7, g1, g2, g3⟩ := way_loop B h hL (o1 := o1) hone htwo st fuel v1 w1 (.p (rmD x i)) u6 u7 h2 (by omega) (by omega)
        refine ⟨v2, w2, k5, k6, k7, ?_, g2, g3⟩
        have pop : popS 5 4 (cE (.int 0)) (WE x b o1 (rmD x two) vis (i :: wait) y5 y6 y7) st = some ((.nx, WE x b o1 (rmD x two) vis wait (.p (rmD x i)) y6 y7), st) := ev_bd ev_c (ev_bd (s1 := st) (a := (rmD x i, WE x b o1 (rmD x two) vis wait y5 y6 y7)) rfl rfl)
        exact ev_bd ht (ev_bd (ev_seq pop h1) g1)
theorem p_room_way (B : BK b n p q d0 d1) (h : Chn n p q L x) (hL : L ≤ 10) {one two : Nat} (hone : one + 1 < L) (htwo : two + 1 < L) (st : DS) : ∃ cs, F_room_way [b, rmD x one, rmD x two] st = some (.p (tupD cs), st) ∧ wayOk L x cs (some one) two = true := by
  have hn : F_need_rooms [b, rmD x one, rmD x two] st = some (.p .non, st) := by
    obtain ⟨a1, c1, e1, a2, a3, _⟩ := rm_asc B h hone
    obtain ⟨u1, v1, e2, u2, u3, _⟩ := rm_asc B h htwo
    rw [e1, e2]
    exact p_need_rooms B a2 a3 u2 u3 st
  have w : WInv L x one [(one, [])] [one] (fun _ => False) := by
    refine ⟨fun z hz => ?_, fun z hz => ?_, fun z hz => ?_, by simp, by simp, fun j hj => by simpa using hj, fun k hk hkw => absurd (by simpa using hk) hkw⟩
    · simp only [List.mem_cons, List.not_mem_nil, or_false] at hz; subst hz; exact hone
    · simp only [List.mem_cons, List.not_mem_nil, or_false] at hz; subst hz; exact leads_nil
    · simp only [List.mem_cons, List.not_mem_nil, or_false] at hz; subst hz; exact Nat.zero_lt_one
  obtain ⟨v, wt, y5, y6, y7, h1, h2, h3⟩ := way_loop (o1 := rmD x one) B h hL hone htwo st 100 [(one, [])] [one] .u .u .u w (by simp) (by simp; omega)
  have hfi : ((v.find? fun z => decide (z.1 = two)).isSome) = true := by rw [find_ks]; exact decide_eq_true h3
  obtain ⟨z, hz⟩ := Option.isSome_iff_exists.mp hfi
  have hzm := List.mem_of_find?_eq_some hz
  have hze : z.1 = two := by have := List.find?_some hz; exact of_decide_eq_true this
  refine ⟨z.2, ?_, by rw [← hze]; exact leads_ok (h2.ld z hzm)⟩
  have hd : dput true [] (rmD x one) (tupD []) = some (KV x [(one, [])]) := by
    have := dput_new ([] : List Nat) (fun _ => []) (fun _ => .non) (k := srt2 (x one) (x (one + 1))) (tupD []) (fun z hz => by cases hz)
    exact this
  have hdisp : disp1E true (varE 1) (tupE 0 nilA) (startE N_room_way [b, rmD x one, rmD x two]) st = some (.dic true (KV x [(one, [])]), st) :=
    ev_bd (ev_var rfl) (ev_bd (a := tupD []) (ev_tup ev_nil) (ev_bd (s1 := st) (by unfold M.lf; rw [hd]) rfl))
  refine ev_body (ev_seq (ev_expr (ev_callF (ev_cons (ev_var rfl) (ev_cons (ev_var rfl) (ev_cons (ev_var rfl) ev_nil))) hn)) (ev_seq (env1 := WE x b (rmD x one) (rmD x two) [(one, [])] [one] .u .u .u) (s1 := st) ?_ (ev_seq h1 (ev_ret (ev_bin (ev_peekO rfl) (ev_peek rfl) (get_rm h h2.lt htwo hz))))))
  exact ev_par (ev_ccons (o := true) (f := disp1E true (varE 1) (tupE 0 nilA)) hdisp (ev_ccons (o := true) (f := lstE (consA (varE 1) nilA)) (ev_lst (ev_cons (ev_var rfl) ev_nil)) ev_cnil))
end
end Y
end

section
set_option Elab.async false
set_option linter.all false
set_option autoImplicit false
set_option maxRecDepth 100000
namespace Y
open PySem PySem.Spec L2
open PyProof.Rows hiding St
theorem forGo_inv {α : Type} {g : GSem} {F : SSem} (enc : α → D) (I : List α → List Var → Prop) (st : DS) : ∀ (xs done : List α) (env : List Var), I done env →
    (∀ done x env, x ∈ xs → I done env → ∃ env1 env2, g (enc x) env = some env1 ∧ F env1 st = some ((.nx, env2), st) ∧ I (done ++ [x]) env2) → ∃ env', forGo g F (xs.map enc) env st = some ((.nx, env'), st) ∧ I (done ++ xs) env'
  | [], done, env, h, _ => ⟨env, rfl, by rw [List.append_nil]; exact h⟩
  | x :: xs, done, env, h, hs => by
    obtain ⟨env1, env2, h1, h2, h3⟩ := hs done x env List.mem_cons_self h
    obtain ⟨env', h4, h5⟩ := forGo_inv enc I st xs (done ++ [x]) env2 h3 fun d y e hy => hs d y e (List.mem_cons_of_mem _ hy)
    refine ⟨env', ?_, by rw [List.append_assoc] at h5; exact h5⟩
    rw [List.map_cons]
    exact ev_bd (s1 := st) (a := env1) (by unfold M.lf; rw [h1]) (ev_bd h2 h4)
theorem dcGo_new {α : Type} {g : GSem} {fk fv : ESem} {env0 : List Var} {st : DS} (enc : α → D) (kf : α → List Int) (v : α → D) : ∀ (xs acc : List α), ((acc ++ xs).map kf).Nodup →
    (∀ x ∈ xs, ∃ env1, g (enc x) env0 = some env1 ∧ fk env1 st = some (tupD (kf x), st) ∧ fv env1 st = some (v x, st)) →
    dcGo true g yesT fk fv env0 (xs.map enc) (acc.map fun z => (tupD (kf z), v z)) st = some ((acc ++ xs).map fun z => (tupD (kf z), v z), st)
  | [], acc, _, _ => by rw [List.append_nil]; rfl
  | x :: xs, acc, hn, hx => by
    obtain ⟨env1, h1, h2, h3⟩ := hx x List.mem_cons_self
    have ih := dcGo_new enc kf v xs (acc ++ [x]) (by rw [List.append_assoc]; exact hn) fun y hy => hx y (List.mem_cons_of_mem _ hy)
    have hd := dput_new acc kf v (k := kf x) (v x) (fun z hz e => by
      rw [List.map_append, List.nodup_append] at hn
      exact hn.2.2 (kf z) (List.mem_map.mpr ⟨z, hz, rfl⟩) (kf x) (List.mem_map.mpr ⟨x, List.mem_cons_self, rfl⟩) e)
    rw [List.map_cons]
    refine ev_bd (s1 := st) (a := env1) (by unfold M.lf; rw [h1]) (ev_bd (s1 := st) (a := true) rfl ?_)
    rw [if_pos rfl]
    refine ev_bd h2 (ev_bd h3 (ev_bd (s1 := st) (by unfold M.lf; rw [hd]) ?_))
    rw [List.map_append, List.append_assoc] at ih
    exact ih
theorem allTI_map : ∀ nss : List (List Int), allTI (nss.map tupD) = some nss
  | [] => rfl
  | ns :: nss => by
    rw [List.map_cons, allTI, allTI_map nss]
    have : tupI (tupD ns) = some ns := allI_map ns
    rw [this]
theorem okC_mk {d : Nat} {nss : List (List Int)} (hd : 1 ≤ d) (hl : nss.length < 64) (h : ∀ x ∈ nss, x.length = d ∧ TS.Bd BB x) : okC nss = true := by
  have hh : ((nss.head?).getD [0]).length = d ∨ (nss = [] ∧ ((nss.head?).getD [0]).length = 1) := by
    cases nss with
    | nil => exact .inr ⟨rfl, rfl⟩
    | cons y ys => exact .inl (h y List.mem_cons_self).1
  unfold okC
  rw [Bool.and_eq_true, Bool.and_eq_true, decide_eq_true_iff, decide_eq_true_iff, List.all_eq_true]
  refine ⟨⟨hl, ?_⟩, fun x hx => ?_⟩
  · rcases hh with e | ⟨_, e⟩ <;> omega
  · rcases hh with e | ⟨e, _⟩
    · rw [e, Bool.and_eq_true, List.all_eq_true]
      exact ⟨by simp [(h x hx).1], fun m hm => decide_eq_true ((h x hx).2 m hm)⟩
    · subst e; cases hx
theorem sortedAD_tups {d : Nat} {nss : List (List Int)} (hd : 1 ≤ d) (hl : nss.length < 64) (h : ∀ x ∈ nss, x.length = d ∧ TS.Bd BB x) : sortedAD [.lst (nss.map tupD)] = some (.lst ((sortC nss).map tupD)) := by
  cases nss with
  | nil => rfl
  | cons y ys =>
    show (match allI ((y :: ys).map tupD) with
      | some ns => some (D.lst ((sortI ns).map .int))
      | none => (allTI ((y :: ys).map tupD)).bind fun nss => if okC nss = true then some (.lst ((sortC nss).map tupD)) else none) = _
    have : allI ((y :: ys).map tupD) = none := rfl
    rw [this, allTI_map]
    show (if okC (y :: ys) = true then _ else _) = _
    rw [if_pos (okC_mk hd hl h)]
theorem sortedAD_dicT {d : Nat} {nss : List (List Int)} {kvs : List (D × D)} (hk : kvs.map (·.1) = nss.map tupD) (hd : 1 ≤ d) (hl : nss.length < 64) (h : ∀ x ∈ nss, x.length = d ∧ TS.Bd BB x) : sortedAD [.dic true kvs] = some (.lst ((sortC nss).map tupD)) := by
  show (allTI (kvs.map (·.1))).bind (fun nss => if okC nss = true then some (D.lst ((sortC nss).map tupD)) else none) = _
  rw [hk, allTI_map]
  show (if okC nss = true then _ else _) = _
  rw [if_pos (okC_mk hd hl h)]
/-! ### the chain as a list -/
def xx (Ch : List Int) (i : Nat) : Int := Ch.getD i 0
theorem xx_get {Ch : List Int} {i : Nat} (h : i < Ch.length) : Ch[i]? = some (xx Ch i) := by
  unfold xx
  rw [List.getD_eq_getElem?_getD, List.getElem?_eq_getElem h]
  rfl
theorem mem_xx {Ch : List Int} {c : Int} : c ∈ Ch ↔ ∃ i, i < Ch.length ∧ c = xx Ch i := by
  constructor
  · intro h
    obtain ⟨i, hi, e⟩ := List.mem_iff_getElem.mp h
    refine ⟨i, hi, ?_⟩
    have := xx_get hi
    rw [List.getElem?_eq_getElem hi] at this
    rw [← Option.some.inj this, e]
  · rintro ⟨i, hi, rfl⟩
    exact List.mem_of_getElem? (xx_get hi)
section
variable {b : D} {n : Nat} {p q : Int → Int} {d0 d1 : D} {st : DS} {Ch : List Int}
abbrev CH (n : Nat) (p q : Int → Int) (Ch : List Int) : Prop := Chn n p q Ch.length (xx Ch)
theorem ch_nodup (h : CH n p q Ch) : Ch.Nodup := by
  unfold List.Nodup
  rw [List.pairwise_iff_getElem]
  intro i j hi hj hij e
  have e1 := xx_get hi
  have e2 := xx_get hj
  rw [List.getElem?_eq_getElem hi] at e1
  rw [List.getElem?_eq_getElem hj] at e2
  have := h.inj hi hj (by rw [← Option.some.inj e1, ← Option.some.inj e2, e])
  omega
theorem lots2_len : ∀ n : Nat, n ≤ 10 → (lots2 n).length ≤ 45
  | 0, _ => by decide +kernel
  | 1, _ => by decide +kernel
  | 2, _ => by decide +kernel
  | 3, _ => by decide +kernel
  | 4, _ => by decide +kernel
  | 5, _ => by decide +kernel
  | 6, _ => by decide +kernel
  | 7, _ => by decide +kernel
  | 8, _ => by decide +kernel
  | 9, _ => by decide +kernel
  | 10, _ => by decide +kernel
  | n + 11, h => by omega
theorem rooms_len (t : Tst n p q) : (rooms n p q).length ≤ 45 := Nat.le_trans (List.length_filter_le ..) (lots2_len n t.n10)
theorem mem_rooms (t : Tst n p q) (h : CH n p q Ch) {z : Int × Int} : z ∈ rooms n p q ↔ z.1 ∈ cols n ∧ z.2 ∈ cols n ∧ z.1 < z.2 ∧ ∃ i, i + 1 < Ch.length ∧ ((z.1 = xx Ch i ∧ z.2 = xx Ch (i + 1)) ∨ (z.2 = xx Ch i ∧ z.1 = xx Ch (i + 1))) := by
  unfold rooms
  rw [List.mem_filter, mem_lots2, rmB_iff]
  constructor
  · rintro ⟨⟨h1, h2, h3⟩, h4⟩
    exact ⟨h1, h2, h3, (h.room t h1 h2 (by omega)).mp h4⟩
  · rintro ⟨h1, h2, h3, h4⟩
    exact ⟨⟨h1, h2, h3⟩, (h.room t h1 h2 (by omega)).mpr h4⟩
/-! ### walls -/
/-- rooms by what is left without a column -/
structure GW (es : List (Int × (Int × Int))) (W : List (Int × List (Int × Int))) : Prop where
  nd : (W.map (·.1)).Nodup
  val : ∀ z ∈ W, z.2 = (es.filter fun e => decide (e.1 = z.1)).map (·.2)
  has : ∀ e ∈ es, ∃ z ∈ W, z.1 = e.1
  of : ∀ z ∈ W, ∃ e ∈ es, e.1 = z.1
  len : W.length ≤ es.length
abbrev KW (W : List (Int × List (Int × Int))) : List (D × D) := W.map fun z => (tupD [z.1], .tup (z.2.map e2))
def wallF : SSem := seqS (setS 4 (callF F_without (consA (varE 2) (consA (varE 3) nilA)))) (dputS true 1 (varE 4) (bin addD (dgetDE true (peekE 1) (varE 4) (tupE 0 nilA)) (tupE 1 (consA (varE 2) nilA))))
theorem key_uniq {β : Type} : ∀ {W : List (Int × β)}, (W.map (·.1)).Nodup → ∀ {y z : Int × β}, y ∈ W → z ∈ W → y.1 = z.1 → y = z
  | [], _, _, _, h, _, _ => by cases h
  | w :: W, nd, y, z, hy, hz, e => by
    rw [List.map_cons, List.nodup_cons] at nd
    rcases List.mem_cons.mp hz with h1 | h1
    · rcases List.mem_cons.mp hy with h2 | h2
      · rw [h1, h2]
      · exact absurd (List.mem_map.mpr ⟨y, h2, by rw [e, h1]⟩) nd.1
    · rcases List.mem_cons.mp hy with h2 | h2
      · exact absurd (List.mem_map.mpr ⟨z, h1, by rw [← e, h2]⟩) nd.1
      · exact key_uniq nd.2 h2 h1 e
theorem find_key {W : List (Int × List (Int × Int))} (nd : (W.map (·.1)).Nodup) {z : Int × List (Int × Int)} (hz : z ∈ W) : (W.find? fun y => decide ([y.1] = [z.1])) = some z :=
  find_uniq hz (by simp) fun y hy e => by
    simp at e
    exact key_uniq nd hy hz e
abbrev esR (es : List (Int × (Int × Int))) (r : Int) : List (Int × Int) := (es.filter fun e => decide (e.1 = r)).map (·.2)
theorem esR_app (es : List (Int × (Int × Int))) (r k : Int) (z : Int × Int) : esR (es ++ [(r, z)]) k = if r = k then esR es k ++ [z] else esR es k := by
  unfold esR
  rw [List.filter_append, List.map_append]
  by_cases h : r = k
  · rw [if_pos h, List.filter_cons_of_pos (by simpa using h)]; rfl
  · rw [if_neg h, List.filter_cons_of_neg (by simpa using h)]
    simp
theorem GW.look {es : List (Int × (Int × Int))} {W : List (Int × List (Int × Int))} (g : GW es W) (r : Int) : ((W.find? fun y => decide ([y.1] = [r])).map fun z => D.tup (z.2.map e2)).getD (.tup []) = .tup ((esR es r).map e2) := by
  by_cases h : ∃ z ∈ W, z.1 = r
  · obtain ⟨z, hz, rfl⟩ := h
    rw [find_key g.nd hz]
    show D.tup (z.2.map e2) = _
    rw [g.val z hz]
  · rw [find_no (fun y hy e => h ⟨y, hy, by simpa using e⟩)]
    have : esR es r = [] := by
      unfold esR
      rw [List.map_eq_nil_iff, List.filter_eq_nil_iff]
      intro e he hr
      obtain ⟨z, hz, hze⟩ := g.has e he
      exact h ⟨z, hz, by rw [hze]; exact of_decide_eq_true hr⟩
    rw [this]; rfl
theorem wall_step {es : List (Int × (Int × Int))} {W : List (Int × List (Int × Int))} (g : GW es W) (hl : es.length ≤ 200) {a c k r : Int} (hf : [a, c].filter (fun z => !decide (z = k)) = [r]) (y4 : Var) (st : DS) :
    ∃ W', wallF [.p b, .o (.dic true (KW W)), .p (e2 (a, c)), .p (.int k), y4] st = some ((.nx, [.p b, .o (.dic true (KW W')), .p (e2 (a, c)), .p (.int k), .p (tupD [r])]), st) ∧ GW (es ++ [(r, (a, c))]) W' := by
  have hwo := p_without [a, c] k st
  rw [hf] at hwo
  have s4 : setS 4 (callF F_without (consA (varE 2) (consA (varE 3) nilA))) [.p b, .o (.dic true (KW W)), .p (e2 (a, c)), .p (.int k), y4] st = some ((.nx, [.p b, .o (.dic true (KW W)), .p (e2 (a, c)), .p (.int k), .p (tupD [r])]), st) :=
    ev_set (ev_callF (ev_cons (ev_var rfl) (ev_cons (ev_var rfl) ev_nil)) hwo)
  have hWl := g.len
  have hel : (esR es r).length ≤ es.length := by
    unfold esR
    rw [List.length_map]
    exact List.length_filter_le ..
  have hget : dgetDE true (peekE 1) (varE 4) (tupE 0 nilA) [.p b, .o (.dic true (KW W)), .p (e2 (a, c)), .p (.int k), .p (tupD [r])] st = some (.tup ((esR es r).map e2), st) := by
    refine ev_bd (ev_peekO rfl) (ev_bd (a := tupD [r]) (ev_var rfl) (ev_bd (a := .tup []) (ev_tup ev_nil) ?_))
    show (if true = true then M.bd (M.lf (dget true (KW W) (tupD [r]))) (fun o => M.ret (o.getD (.tup []))) else fun _ => none) st = _
    rw [if_pos rfl, dget_map]
    refine ev_bd (s1 := st) rfl ?_
    show some (_, st) = _
    rw [g.look]
  have hval : bin addD (dgetDE true (peekE 1) (varE 4) (tupE 0 nilA)) (tupE 1 (consA (varE 2) nilA)) [.p b, .o (.dic true (KW W)), .p (e2 (a, c)), .p (.int k), .p (tupD [r])] st = some (.tup ((esR es r ++ [(a, c)]).map e2), st) := by
    refine ev_bin hget (ev_tup (ev_cons (ev_var rfl) ev_nil)) ?_
    rw [addD_tup _ _ (by rw [List.length_map]; show _ + 1 ≤ 1000; omega), List.map_append]
    rfl
  have fin : ∀ W', dput true (KW W) (tupD [r]) (.tup ((esR es r ++ [(a, c)]).map e2)) = some (KW W') → wallF [.p b, .o (.dic true (KW W)), .p (e2 (a, c)), .p (.int k), y4] st = some ((.nx, [.p b, .o (.dic true (KW W')), .p (e2 (a, c)), .p (.int k), .p (tupD [r])]), st) := fun W' hp => by
    refine ev_seq s4 (ev_bd hval (ev_bd (a := tupD [r]) (ev_var rfl) (ev_bd (s1 := st) (a := [.p b, .o (.dic true (KW W')), .p (e2 (a, c)), .p (.int k), .p (tupD [r])]) ?_ rfl)))
    have : putV true [.p b, .o (.dic true (KW W)), .p (e2 (a, c)), .p (.int k), .p (tupD [r])] 1 (tupD [r]) (.tup ((esR es r ++ [(a, c)]).map e2)) = some [.p b, .o (.dic true (KW W')), .p (e2 (a, c)), .p (.int k), .p (tupD [r])] := by
      show (if true = true ∧ (KW W).length ≤ 1000000 then (dput true (KW W) (tupD [r]) _).map _ else none) = _
      rw [if_pos ⟨rfl, by rw [List.length_map]; omega⟩, hp]
      rfl
    unfold M.lf
    rw [this]
  by_cases h : ∃ z ∈ W, z.1 = r
  · refine ⟨W.map fun z => (z.1, if z.1 = r then esR es r ++ [(a, c)] else z.2), fin _ ?_, ?_, fun z hz => ?_, fun e he => ?_, fun z hz => ?_, by simp; omega⟩
    · have := dput_old W (fun z => [z.1]) (fun z => D.tup (z.2.map e2)) (k := [r]) (.tup ((esR es r ++ [(a, c)]).map e2)) (by obtain ⟨z, hz, e⟩ := h; exact ⟨z, hz, by rw [e]⟩)
      refine this.trans ?_
      show some _ = some (List.map _ (List.map _ W))
      rw [List.map_map]
      congr 1
      refine List.map_congr_left fun z hz => ?_
      show (tupD [z.1], if [z.1] = [r] then _ else _) = (tupD [z.1], D.tup (List.map e2 (if z.1 = r then _ else _)))
      by_cases e : z.1 = r
      · rw [if_pos e, if_pos (by rw [e])]
      · rw [if_neg e, if_neg (fun e' => e (by simpa using e'))]
    · rw [List.map_map]
      exact g.nd
    · obtain ⟨y, hy, rfl⟩ := List.mem_map.mp hz
      show (if y.1 = r then esR es r ++ [(a, c)] else y.2) = esR (es ++ [(r, (a, c))]) y.1
      rw [esR_app]
      by_cases e : y.1 = r
      · rw [if_pos e, if_pos e.symm, e]
      · rw [if_neg e, if_neg (fun e' => e e'.symm)]
        exact g.val y hy
    · rcases List.mem_append.mp he with he | he
      · obtain ⟨z, hz, hze⟩ := g.has e he
        exact ⟨_, List.mem_map.mpr ⟨z, hz, rfl⟩, hze⟩
      · simp only [List.mem_cons, List.not_mem_nil, or_false] at he
        subst he
        obtain ⟨z, hz, hze⟩ := h
        exact ⟨_, List.mem_map.mpr ⟨z, hz, rfl⟩, hze⟩
    · obtain ⟨y, hy, rfl⟩ := List.mem_map.mp hz
      obtain ⟨e, he, hee⟩ := g.of y hy
      exact ⟨e, List.mem_append_left _ he, hee⟩
  · refine ⟨W ++ [(r, esR es r ++ [(a, c)])], fin _ ?_, ?_, fun z hz => ?_, fun e he => ?_, fun z hz => ?_, by simp; omega⟩
    · have := dput_new W (fun z => [z.1]) (fun z => D.tup (z.2.map e2)) (k := [r]) (.tup ((esR es r ++ [(a, c)]).map e2)) (fun z hz e => h ⟨z, hz, by simpa using e⟩)
      refine this.trans ?_
      have e : KW (W ++ [(r, esR es r ++ [(a, c)])]) = KW W ++ KW [(r, esR es r ++ [(a, c)])] := List.map_append ..
      rw [e]
      rfl
    · rw [List.map_append, List.nodup_append]
      refine ⟨g.nd, by simp, fun u hu w hw e => ?_⟩
      simp only [List.map_cons, List.map_nil, List.mem_cons, List.not_mem_nil, or_false] at hw
      obtain ⟨z, hz, rfl⟩ := List.mem_map.mp hu
      exact h ⟨z, hz, by rw [e, hw]⟩
    · rcases List.mem_append.mp hz with hz | hz
      · show z.2 = esR (es ++ [(r, (a, c))]) z.1
        rw [esR_app, if_neg (fun e => h ⟨z, hz, e.symm⟩)]
        exact g.val z hz
      · simp only [List.mem_cons, List.not_mem_nil, or_false] at hz
        subst hz
        show _ = esR (es ++ [(r, (a, c))]) r
        rw [esR_app, if_pos rfl]
    · rcases List.mem_append.mp he with he | he
      · obtain ⟨z, hz, hze⟩ := g.has e he
        exact ⟨z, List.mem_append_left _ hz, hze⟩
      · simp only [List.mem_cons, List.not_mem_nil, or_false] at he
        subst he
        exact ⟨_, List.mem_append_right _ List.mem_cons_self, rfl⟩
    · rcases List.mem_append.mp hz with hz | hz
      · obtain ⟨e, he, hee⟩ := g.of z hz
        exact ⟨e, List.mem_append_left _ he, hee⟩
      · simp only [List.mem_cons, List.not_mem_nil, or_false] at hz
        subst hz
        exact ⟨_, List.mem_append_right _ List.mem_cons_self, rfl⟩
end
end Y
end

section
set_option Elab.async false
set_option linter.all false
set_option autoImplicit false
set_option maxRecDepth 100000
namespace Y
open PySem PySem.Spec L2
open PyProof.Rows hiding St
theorem forGo_pre {α : Type} {g : GSem} {F : SSem} (enc : α → D) (I : List α → List Var → Prop) (st : DS) (all : List α) : ∀ (xs done : List α) (env : List Var), all = done ++ xs → I done env →
    (∀ done x rest env, all = done ++ x :: rest → I done env → ∃ env1 env2, g (enc x) env = some env1 ∧ F env1 st = some ((.nx, env2), st) ∧ I (done ++ [x]) env2) → ∃ env', forGo g F (xs.map enc) env st = some ((.nx, env'), st) ∧ I all env'
  | [], done, env, e, h, _ => ⟨env, rfl, by rw [e, List.append_nil]; exact h⟩
  | x :: xs, done, env, e, h, hs => by
    obtain ⟨env1, env2, h1, h2, h3⟩ := hs done x xs env e h
    obtain ⟨env', h4, h5⟩ := forGo_pre enc I st all xs (done ++ [x]) env2 (by rw [e, List.append_assoc]; rfl) h3 hs
    refine ⟨env', ?_, h5⟩
    rw [List.map_cons]
    exact ev_bd (s1 := st) (a := env1) (by unfold M.lf; rw [h1]) (ev_bd h2 h4)
section
variable {b : D} {n : Nat} {p q : Int → Int} {d0 d1 : D} {st : DS} {Ch : List Int}
abbrev evs (rs : List (Int × Int)) : List (Int × (Int × Int)) := rs.flatMap fun z => [(z.2, z), (z.1, z)]
theorem evs_app (rs : List (Int × Int)) (z : Int × Int) : evs (rs ++ [z]) = (evs rs ++ [(z.2, z)]) ++ [(z.1, z)] := by
  show List.flatMap _ _ = _
  rw [List.flatMap_append]
  simp [evs]
theorem evs_len : ∀ rs : List (Int × Int), (evs rs).length = 2 * rs.length
  | [] => rfl
  | z :: rs => by
    show (List.flatMap _ _).length = _
    rw [List.flatMap_cons, List.length_append, show (List.flatMap _ rs).length = _ from evs_len rs]
    simp; omega
theorem mem_evs {rs : List (Int × Int)} {e : Int × (Int × Int)} : e ∈ evs rs ↔ e.2 ∈ rs ∧ (e.1 = e.2.1 ∨ e.1 = e.2.2) := by
  show e ∈ List.flatMap _ _ ↔ _
  rw [List.mem_flatMap]
  constructor
  · rintro ⟨z, hz, h⟩
    simp only [List.mem_cons, List.not_mem_nil, or_false] at h
    rcases h with rfl | rfl
    · exact ⟨hz, .inr rfl⟩
    · exact ⟨hz, .inl rfl⟩
  · rintro ⟨h1, h2⟩
    refine ⟨e.2, h1, ?_⟩
    obtain ⟨k, z⟩ := e
    rcases h2 with h2 | h2
    · simp at h2; subst h2; simp
    · simp at h2; subst h2; simp
def hasC (w : Int) (z : Int × Int) : Bool := decide (w = z.1) || decide (w = z.2)
theorem esR_evs (w : Int) : ∀ rs : List (Int × Int), (∀ z ∈ rs, z.1 < z.2) → esR (evs rs) w = rs.filter (hasC w)
  | [], _ => rfl
  | z :: rs, h => by
    have hz := h z List.mem_cons_self
    have ih := esR_evs w rs fun y hy => h y (List.mem_cons_of_mem _ hy)
    have : evs (z :: rs) = [(z.2, z), (z.1, z)] ++ evs rs := rfl
    rw [this]
    unfold esR at ih ⊢
    rw [List.filter_append, List.map_append, ih]
    unfold hasC
    by_cases h1 : w = z.1
    · have h2 : ¬ z.2 = w := by omega
      rw [List.filter_cons_of_neg (by simpa using h2), List.filter_cons_of_pos (by simpa using h1.symm), List.filter_cons_of_pos (by simp [h1])]
      rfl
    · by_cases h2 : w = z.2
      · rw [List.filter_cons_of_pos (by simpa using h2.symm), List.filter_cons_of_neg (by simp; exact fun e => h1 e.symm), List.filter_cons_of_pos (by simp [h2])]
        rfl
      · rw [List.filter_cons_of_neg (by simp; exact fun e => h2 e.symm), List.filter_cons_of_neg (by simp; exact fun e => h1 e.symm), List.filter_cons_of_neg (by simp [h1, h2])]
        rfl
/-- the sorted keys -/
def SK (Ch : List Int) : List (List Int) := sortC (Ch.map fun c => [c])
def wv (n : Nat) (p q : Int → Int) (k : List Int) : D := .tup (((rooms n p q).filter fun z => decide (k = [z.1]) || decide (k = [z.2])).map e2)
theorem Bd_cols {n : Nat} (hn : n ≤ 10) {xs : List Int} (h : ∀ c ∈ xs, c ∈ cols n) : TS.Bd BB xs := fun m hm => by
  have := mem_cols.mp (h m hm)
  have hb : BB = 1000000000000 := rfl
  omega
theorem ch_len (t : Tst n p q) (h : CH n p q Ch) : Ch.length ≤ 10 := by
  have h1 := nodup_lt n (Ch.map Int.toNat) (by
    unfold List.Nodup
    rw [List.pairwise_map]
    exact (ch_nodup h).imp_of_mem (fun {a c} ha hc ne e => by
      obtain ⟨i, hi, rfl⟩ := mem_xx.mp ha
      obtain ⟨j, hj, rfl⟩ := mem_xx.mp hc
      have h1 := mem_cols.mp (h.inC i hi)
      have h2 := mem_cols.mp (h.inC j hj)
      exact ne (by omega))) (fun a ha => by
      obtain ⟨c, hc, rfl⟩ := List.mem_map.mp ha
      obtain ⟨i, hi, rfl⟩ := mem_xx.mp hc
      have h1 := mem_cols.mp (h.inC i hi)
      omega)
  rw [List.length_map] at h1
  exact Nat.le_trans h1 t.n10
theorem ch_cols (h : CH n p q Ch) {c : Int} (hc : c ∈ Ch) : c ∈ cols n := by
  obtain ⟨i, hi, rfl⟩ := mem_xx.mp hc
  exact h.inC i hi
theorem keys_perm (B : BK b n p q d0 d1) (h : CH n p q Ch) {W : List (Int × List (Int × Int))} (g : GW (evs (rooms n p q)) W) : (W.map (·.1)).Perm Ch := by
  rw [List.perm_ext_iff_of_nodup g.nd (ch_nodup h)]
  intro c
  have key : (∃ z ∈ W, z.1 = c) ↔ ∃ z ∈ rooms n p q, c = z.1 ∨ c = z.2 := by
    constructor
    · rintro ⟨z, hz, rfl⟩
      obtain ⟨e, he, hee⟩ := g.of z hz
      rw [← hee]
      exact ⟨e.2, (mem_evs.mp he).1, (mem_evs.mp he).2⟩
    · rintro ⟨z, hz, hc⟩
      obtain ⟨w, hw, hwe⟩ := g.has (c, z) (mem_evs.mpr ⟨hz, hc⟩)
      exact ⟨w, hw, hwe⟩
  rw [List.mem_map]
  refine (show (∃ a, a ∈ W ∧ a.1 = c) ↔ _ from key).trans ?_
  constructor
  · rintro ⟨z, hz, hc⟩
    obtain ⟨_, _, _, i, hi, h1⟩ := (mem_rooms B.t h).mp hz
    rcases h1 with ⟨e1, e2⟩ | ⟨e1, e2⟩ <;> rcases hc with rfl | rfl
    · rw [e1]; exact mem_xx.mpr ⟨i, by omega, rfl⟩
    · rw [e2]; exact mem_xx.mpr ⟨i + 1, hi, rfl⟩
    · rw [e2]; exact mem_xx.mpr ⟨i + 1, hi, rfl⟩
    · rw [e1]; exact mem_xx.mpr ⟨i, by omega, rfl⟩
  · intro hc
    obtain ⟨i, hi, rfl⟩ := mem_xx.mp hc
    have hL := h.L2 B.t
    have mk : ∀ j, j + 1 < Ch.length → ∀ w, (w = xx Ch j ∨ w = xx Ch (j + 1)) → ∃ z ∈ rooms n p q, w = z.1 ∨ w = z.2 := by
      intro j hj w hw
      have ne := h.ne (i := j) (j := j + 1) (by omega) hj (by omega)
      by_cases hlt : xx Ch j < xx Ch (j + 1)
      · exact ⟨(xx Ch j, xx Ch (j + 1)), (mem_rooms B.t h).mpr ⟨h.inC j (by omega), h.inC _ hj, hlt, j, hj, .inl ⟨rfl, rfl⟩⟩, hw⟩
      · exact ⟨(xx Ch (j + 1), xx Ch j), (mem_rooms B.t h).mpr ⟨h.inC _ hj, h.inC j (by omega), by simp; omega, j, hj, .inr ⟨rfl, rfl⟩⟩, hw.symm⟩
    by_cases h0 : i = 0
    · subst h0; exact mk 0 (by omega) _ (.inl rfl)
    · exact mk (i - 1) (by omega) _ (.inr (by rw [Nat.sub_add_cancel (by omega)]))
theorem SK_spec (t : Tst n p q) (h : CH n p q Ch) : (SK Ch).Perm (Ch.map fun c => [c]) ∧ (SK Ch).Nodup ∧ ∀ k ∈ SK Ch, ∃ c ∈ Ch, k = [c] := by
  have hp := sortC_perm (Ch.map fun c => [c])
  refine ⟨hp, hp.nodup_iff.mpr ?_, fun k hk => ?_⟩
  · unfold List.Nodup
    rw [List.pairwise_map]
    exact (ch_nodup h).imp fun ne e => ne (by simpa using e)
  · have := hp.mem_iff.mp hk
    obtain ⟨c, hc, rfl⟩ := List.mem_map.mp this
    exact ⟨c, hc, rfl⟩
theorem p_walls_of (B : BK b n p q d0 d1) (h : CH n p q Ch) (st : DS) : F_walls_of [b] st = some (.p (.dic true ((SK Ch).map fun k => (tupD k, wv n p q k))), st) := by
  have hrl := rooms_len B.t
  have asc : ∀ z ∈ rooms n p q, z.1 < z.2 := fun z hz => ((mem_rooms B.t h).mp hz).2.2.1
  obtain ⟨env', hgo, W, y2, y3, y4, rfl, g⟩ := forGo_pre (g := nameG 2) (F := forS (seqI (varE 2)) (nameG 3) wallF) e2 (fun done env => ∃ W y2 y3 y4, env = [.p b, .o (.dic true (KW W)), y2, y3, y4] ∧ GW (evs done) W) st (rooms n p q) (rooms n p q) [] [.p b, .o (.dic true []), .u, .u, .u] rfl
    ⟨[], .u, .u, .u, rfl, ⟨by simp, fun z hz => (by cases hz), fun e he => (by cases he), fun z hz => (by cases hz), Nat.le_refl _⟩⟩ (fun done z rest env hall hI => by
      obtain ⟨W, y2, y3, y4, rfl, g⟩ := hI
      have hz := asc z (by rw [hall]; simp)
      obtain ⟨a, c⟩ := z
      simp only at hz
      have hdl : done.length ≤ 45 := by
        have : done.length ≤ (rooms n p q).length := by rw [hall, List.length_append]; omega
        omega
      have hel := evs_len done
      obtain ⟨W1, s1, g1⟩ := wall_step (b := b) g (by omega) (a := a) (c := c) (k := a) (r := c) (by
        rw [List.filter_cons_of_neg (by simp), List.filter_cons_of_pos (by simp; omega)]; rfl) y4 st
      obtain ⟨W2, s2, g2⟩ := wall_step (b := b) g1 (by rw [List.length_append]; show _ + 1 ≤ 200; omega) (a := a) (c := c) (k := c) (r := a) (by
        rw [List.filter_cons_of_pos (by simp; omega), List.filter_cons_of_neg (by simp)]; rfl) (.p (tupD [c])) st
      refine ⟨_, [.p b, .o (.dic true (KW W2)), .p (e2 (a, c)), .p (.int c), .p (tupD [a])], rfl, ?_, W2, _, _, _, rfl, ?_⟩
      · refine ev_for (items := [.int a, .int c]) (ev_seqI (ev_var rfl) rfl) ?_
        refine ev_bd (s1 := st) (a := [.p b, .o (.dic true (KW W)), .p (e2 (a, c)), .p (.int a), y4]) rfl ?_
        refine ev_bd s1 ?_
        refine ev_bd (s1 := st) (a := [.p b, .o (.dic true (KW W1)), .p (e2 (a, c)), .p (.int c), .p (tupD [c])]) rfl ?_
        refine ev_bd s2 ?_
        rfl
      · rw [evs_app]; exact g2)
  have kp := keys_perm B h g
  have hkeys : (KW W).map (·.1) = (W.map fun z => [z.1]).map tupD := by rw [List.map_map, List.map_map]; rfl
  have hWl : W.length = Ch.length := by have := kp.length_eq; rwa [List.length_map] at this
  have hchl := ch_len B.t h
  have hinC : ∀ x ∈ W.map (fun z => [z.1]), x.length = 1 ∧ TS.Bd BB x := fun x hx => by
    obtain ⟨z, hz, rfl⟩ := List.mem_map.mp hx
    refine ⟨rfl, Bd_cols B.t.n10 fun c hc => ?_⟩
    simp only [List.mem_cons, List.not_mem_nil, or_false] at hc
    subst hc
    exact ch_cols h (kp.mem_iff.mp (List.mem_map.mpr ⟨z, hz, rfl⟩))
  have hsort : sortC (W.map fun z => [z.1]) = SK Ch := by
    have h1 : (W.map fun z => [z.1]).Perm (Ch.map fun c => [c]) := by
      have := kp.map (fun c : Int => [c])
      rwa [List.map_map] at this
    exact sortC_uniq (d := 1) ((sortC_perm _).trans (h1.trans (sortC_perm _).symm)) (sortC_sorted _) (sortC_sorted _) (fun x hx => hinC x ((sortC_perm _).mem_iff.mp hx))
  have hso := sortedAD_dicT hkeys (Nat.le_refl 1) (by rw [List.length_map, hWl]; omega) hinC
  rw [hsort] at hso
  obtain ⟨sp, snd, sm⟩ := SK_spec B.t h
  have hdc := dcGo_new (g := nameG 4) (fk := varE 4) (fv := bin (getAD true) (peekE 1) (peekE 4)) (env0 := wipeE [.p b, .o (.dic true (KW W)), y2, y3, y4] [4]) (st := st) tupD id (wv n p q) (SK Ch) [] (by rw [List.nil_append, List.map_id]; exact snd) (fun k hk => by
    obtain ⟨c, hc, rfl⟩ := sm k hk
    refine ⟨_, rfl, ev_var rfl, ev_bin (ev_peekO rfl) (ev_peek rfl) ?_⟩
    obtain ⟨z, hz, rfl⟩ := List.mem_map.mp (kp.mem_iff.mpr hc)
    show (if true = true ∧ true = false then none else (dget true (KW W) (tupD [z.1])).bind id) = _
    rw [if_neg (by decide), dget_map, find_key g.nd hz]
    show some (D.tup (z.2.map e2)) = _
    rw [g.val z hz, show (List.map (·.2) (List.filter (fun e => decide (e.1 = z.1)) (evs (rooms n p q)))) = _ from esR_evs z.1 _ asc]
    have e : hasC z.1 = fun y : Int × Int => decide ([z.1] = [y.1]) || decide ([z.1] = [y.2]) := by
      funext y
      unfold hasC
      simp
    rw [e]
    rfl)
  refine ev_body (ev_seq (ev_setO (d := .dic true []) rfl) (ev_seq (ev_for (ev_seqI (ev_callF (ev_cons (ev_var rfl) ev_nil) (p_rooms_of B st)) rfl) hgo) (ev_ret ?_)))
  exact ev_bd (ev_seqI (ev_callE (ev_cons (ev_peekO rfl) ev_nil) hso) rfl) (ev_bd hdc rfl)
end
end Y
end

section
set_option Elab.async false
set_option linter.all false
set_option autoImplicit false
set_option maxRecDepth 100000
namespace Y
open PySem PySem.Spec L2
open PyProof.Rows hiding St
section
variable {b : D} {n : Nat} {p q : Int → Int} {d0 d1 : D} {st : DS} {Ch : List Int}
theorem code2 (x y : Int) : TS.code BB [x, y] = x * 1000000000000 + y := by
  show x * (1000000000000 : Int) ^ 1 + (y * (1000000000000 : Int) ^ 0 + 0) = _
  omega
def bestL (n : Nat) (p q : Int → Int) : List Int := (cols n).filter (no1 n p q)
def chL (n : Nat) (p q : Int → Int) : List Int := (sortC ((bestL n p q).map fun c => [p c, c])).map fun k => k.getD 1 0
theorem best_cols {c : Int} (h : c ∈ bestL n p q) : c ∈ cols n ∧ Mx n p q c := by
  obtain ⟨h1, h2⟩ := List.mem_filter.mp h
  exact ⟨h1, no1_iff.mp h2⟩
theorem cols_nodup (n : Nat) : (cols n).Nodup := by
  unfold cols List.Nodup
  rw [List.pairwise_map]
  exact List.nodup_range.imp fun ne e => ne (by omega)
theorem best_nodup (n : Nat) (p q : Int → Int) : (bestL n p q).Nodup := (cols_nodup n).filter _
theorem best_len (t : Tst n p q) : (bestL n p q).length ≤ 10 := by
  have h1 : (bestL n p q).length ≤ (cols n).length := List.length_filter_le ..
  have h2 : (cols n).length = n := by unfold cols; rw [List.length_map, List.length_range]
  have := t.n10
  omega
theorem chL_perm (n : Nat) (p q : Int → Int) : (chL n p q).Perm (bestL n p q) := by
  have h := (sortC_perm ((bestL n p q).map fun c => [p c, c])).map fun k => k.getD 1 0
  rw [List.map_map] at h
  have e : (bestL n p q).map ((fun k : List Int => k.getD 1 0) ∘ fun c => [p c, c]) = bestL n p q := by
    rw [show ((fun k : List Int => k.getD 1 0) ∘ fun c => [p c, c]) = id from rfl, List.map_id]
  rw [e] at h
  exact h
theorem chL_mem (k : List Int) (h : k ∈ sortC ((bestL n p q).map fun c => [p c, c])) : ∃ c ∈ bestL n p q, k = [p c, c] := by
  have := (sortC_perm _).mem_iff.mp h
  obtain ⟨c, hc, rfl⟩ := List.mem_map.mp this
  exact ⟨c, hc, rfl⟩
theorem chL_up (t : Tst n p q) : (chL n p q).Pairwise fun a c => p a < p c := by
  have hs := sortC_sorted ((bestL n p q).map fun c => [p c, c])
  have hn : (sortC ((bestL n p q).map fun c => [p c, c])).Nodup := (sortC_perm _).nodup_iff.mpr (by
    unfold List.Nodup
    rw [List.pairwise_map]
    exact (best_nodup n p q).imp fun ne e => ne (by simpa using (congrArg (fun k : List Int => k.getD 1 0) e)))
  unfold chL
  rw [List.pairwise_map]
  refine (hs.and hn).imp_of_mem fun {k l} hk hl hh => ?_
  obtain ⟨a, ha, rfl⟩ := chL_mem k hk
  obtain ⟨c, hc, rfl⟩ := chL_mem l hl
  obtain ⟨h1, h2⟩ := hh
  have a1 := best_cols ha
  have c1 := best_cols hc
  have a2 := mem_cols.mp a1.1
  have c2 := mem_cols.mp c1.1
  have a3 := t.pr a a2.1 a2.2
  have c3 := t.pr c c2.1 c2.2
  have n10 := t.n10
  show p a < p c
  have h3 : TS.code BB [p a, a] ≤ TS.code BB [p c, c] := h1
  rw [code2, code2] at h3
  have ne : p a ≠ p c := fun e => h2 (by rw [t.pi a c a1.1 c1.1 e])
  omega
theorem chL_ok (t : Tst n p q) : CH n p q (chL n p q) := by
  have hm : ∀ c, c ∈ chL n p q ↔ c ∈ bestL n p q := fun c => (chL_perm n p q).mem_iff
  refine ⟨fun i hi => ?_, fun i hi => ?_, fun i j hij hj => ?_, fun c hc hx => ?_⟩
  · exact (best_cols ((hm _).mp (mem_xx.mpr ⟨i, hi, rfl⟩))).1
  · exact (best_cols ((hm _).mp (mem_xx.mpr ⟨i, hi, rfl⟩))).2
  · have h := List.pairwise_iff_getElem.mp (chL_up t) i j (by omega) hj hij
    have e1 := xx_get (Ch := chL n p q) (i := i) (by omega)
    have e2 := xx_get (Ch := chL n p q) (i := j) hj
    rw [List.getElem?_eq_getElem (by omega)] at e1
    rw [List.getElem?_eq_getElem hj] at e2
    rw [← Option.some.inj e1, ← Option.some.inj e2]
    exact h
  · obtain ⟨i, hi, e⟩ := mem_xx.mp ((hm c).mpr (List.mem_filter.mpr ⟨hc, no1_iff.mpr hx⟩))
    exact ⟨i, hi, e⟩
theorem p_chain (B : BK b n p q d0 d1) (st : DS) : F__law_ln_chain [b] st = some (.p (.lst ((chL n p q).map D.int)), st) := by
  obtain ⟨ws, hw1, hw2⟩ := B.wks
  have n10 := B.t.n10
  have hr : range1I (bin addD (cE (.int 2)) (callE lenD (consA (bin (getAD true) (peekE 0) (cE (.int 2))) nilA))) [.p b, .p (.lst [d0, d1]), .u, .u, .u, .u, .u] st = some ((cols n).map D.int, st) := by
    have hn : bin addD (cE (.int 2)) (callE lenD (consA (bin (getAD true) (peekE 0) (cE (.int 2))) nilA)) [.p b, .p (.lst [d0, d1]), .u, .u, .u, .u, .u] st = some (.int n, st) :=
      ev_bin ev_c (ev_callE (ev_cons (ev_bin (ev_peek rfl) ev_c hw1) ev_nil) rfl) (by rw [← hw2, Int.add_comm]; rfl)
    have := ev_range1 hn (by omega)
    rw [rangeL0] at this
    exact this
  have gt : ∀ (z : D × (Int → Int)), z ∈ [(d0, p), (d1, q)] → ∀ c ∈ cols n, getAD true z.1 (.int c) = some (.int (z.2 c)) := B.dget
  have best : compE (seqI (varE 2)) (nameG 4) (testE (bin eqD (compE (seqI (varE 2)) (nameG 6) (andT (testE (bin gtD (bin (getAD true) (bin (getAD true) (peekE 1) (cE (.int 0))) (peekE 6)) (bin (getAD true) (bin (getAD true) (peekE 1) (cE (.int 0))) (peekE 4)))) (testE (bin gtD (bin (getAD true) (bin (getAD true) (peekE 1) (cE (.int 1))) (peekE 6)) (bin (getAD true) (bin (getAD true) (peekE 1) (cE (.int 1))) (peekE 4))))) (cE (.int 1)) [6]) (lstE nilA))) (varE 4) [4]
      [.p b, .p (.lst [d0, d1]), .p (.lst ((cols n).map D.int)), .u, .u, .u, .u] st = some (.lst ((bestL n p q).map D.int), st) := by
    refine ev_compP (enc := D.int) (xs := cols n) (p := no1 n p q) (hh := D.int) (ev_seqI (ev_var rfl) rfl) (fun c hc => ⟨_, rfl, ?_, fun _ => ev_var rfl⟩)
    have inner := ev_compP (env := [.p b, .p (.lst [d0, d1]), .p (.lst ((cols n).map D.int)), .u, .p (.int c), .u, .u]) (st := st) (s1 := st) (it := seqI (varE 2)) (gg := nameG 6) (vs := [6]) (c := andT (testE (bin gtD (bin (getAD true) (bin (getAD true) (peekE 1) (cE (.int 0))) (peekE 6)) (bin (getAD true) (bin (getAD true) (peekE 1) (cE (.int 0))) (peekE 4)))) (testE (bin gtD (bin (getAD true) (bin (getAD true) (peekE 1) (cE (.int 1))) (peekE 6)) (bin (getAD true) (bin (getAD true) (peekE 1) (cE (.int 1))) (peekE 4))))) (f := cE (.int 1))
      (enc := D.int) (xs := cols n) (p := ab p q (p c) (q c)) (hh := fun _ => D.int 1) (ev_seqI (ev_var rfl) rfl) (fun o ho => ⟨_, rfl, ev_andT (ev_test (ev_bin (ev_bin (ev_bin (ev_peek rfl) ev_c rfl) (ev_peek rfl) (B.g0 o ho)) (ev_bin (ev_bin (ev_peek rfl) ev_c rfl) (ev_peek rfl) (B.g0 c hc)) rfl)) (fun _ => ev_test (ev_bin (ev_bin (ev_bin (ev_peek rfl) ev_c rfl) (ev_peek rfl) (B.g1 o ho)) (ev_bin (ev_bin (ev_peek rfl) ev_c rfl) (ev_peek rfl) (B.g1 c hc)) rfl)), fun _ => ev_c⟩)
    refine ev_test (ev_bin inner (ev_lst ev_nil) ?_)
    have e : (((cols n).filter (ab p q (p c) (q c))).map fun _ => D.int 1) = (((cols n).filter (ab p q (p c) (q c))).map fun _ => (1 : Int)).map D.int := by rw [List.map_map]; rfl
    rw [e, eqD_colsnil]
    unfold no1
    cases (cols n).filter (ab p q (p c) (q c)) <;> rfl
  have pairs : compE (seqI (varE 3)) (nameG 4) yesT (tupE 2 (consA (bin (getAD true) (bin (getAD true) (peekE 1) (cE (.int 0))) (peekE 4)) (consA (varE 4) nilA))) [4]
      [.p b, .p (.lst [d0, d1]), .p (.lst ((cols n).map D.int)), .p (.lst ((bestL n p q).map D.int)), .u, .u, .u] st = some (.lst ((bestL n p q).map fun c => tupD [p c, c]), st) :=
    ev_compY (enc := D.int) (xs := bestL n p q) (hh := fun c => tupD [p c, c]) (ev_seqI (ev_var rfl) rfl) (fun c hc => ⟨_, rfl, ev_tup (ev_cons (ev_bin (ev_bin (ev_peek rfl) ev_c rfl) (ev_peek rfl) (B.g0 c (best_cols hc).1)) (ev_cons (ev_var rfl) ev_nil))⟩)
  have hso : sortedAD [.lst ((bestL n p q).map fun c => tupD [p c, c])] = some (.lst ((sortC ((bestL n p q).map fun c => [p c, c])).map tupD)) := by
    have := sortedAD_tups (d := 2) (nss := (bestL n p q).map fun c => [p c, c]) (by decide) (by rw [List.length_map]; have := best_len B.t; omega) (fun k hk => by
      obtain ⟨c, hc, rfl⟩ := List.mem_map.mp hk
      refine ⟨rfl, fun m hm => ?_⟩
      have h1 := mem_cols.mp (best_cols hc).1
      have h2 := B.t.pr c h1.1 h1.2
      have hb : BB = 1000000000000 := rfl
      simp only [List.mem_cons, List.not_mem_nil, or_false] at hm
      rcases hm with rfl | rfl <;> omega)
    rw [List.map_map] at this
    exact this
  refine ev_body (ev_seq (ev_set (ev_callF (ev_cons (ev_var rfl) ev_nil) (B.ltas st))) (ev_seq (ev_set (ev_rangeLst hr)) (ev_seq (ev_set best) (ev_ret ?_))))
  have fin := ev_compY (env := [.p b, .p (.lst [d0, d1]), .p (.lst ((cols n).map D.int)), .p (.lst ((bestL n p q).map D.int)), .u, .u, .u]) (st := st) (s1 := st) (gg := tupG (consG (nameG 5) (consG (nameG 4) nilG))) (vs := [5, 4]) (f := varE 4) (enc := tupD) (xs := sortC ((bestL n p q).map fun c => [p c, c])) (hh := fun k => D.int (k.getD 1 0)) (ev_seqI (ev_callE (ev_cons pairs ev_nil) hso) rfl) (fun k hk => by
    obtain ⟨c, hc, rfl⟩ := chL_mem k hk
    exact ⟨_, rfl, ev_var rfl⟩)
  unfold chL
  rw [List.map_map]
  exact fin
/-! ### pieces of lists -/
theorem cut_from {α : Type} (xs : List α) (i : Nat) : cutL xs (some (i : Int)) none = xs.drop i := by
  unfold cutL
  rw [HT.sIx_nat, HT.sIx_none]
  by_cases h : i ≤ xs.length
  · rw [Nat.min_eq_left h, List.take_of_length_le (by rw [List.length_drop]; exact Nat.le_refl _)]
  · rw [Nat.min_eq_right (by omega), List.drop_length, List.drop_of_length_le (by omega), List.take_nil]
theorem cut_to {α : Type} (xs : List α) (j : Nat) : cutL xs none (some (j : Int)) = xs.take j := by
  unfold cutL
  rw [HT.sIx_nat, HT.sIx_none, List.drop_zero, Nat.sub_zero]
  by_cases h : j ≤ xs.length
  · rw [Nat.min_eq_left h]
  · rw [Nat.min_eq_right (by omega), List.take_length, List.take_of_length_le (by omega)]
theorem cut_both {α : Type} (xs : List α) (i j : Nat) (hj : j ≤ xs.length) (hi : i ≤ xs.length) : cutL xs (some (i : Int)) (some (j : Int)) = (xs.drop i).take (j - i) := by
  unfold cutL
  rw [HT.sIx_nat, HT.sIx_nat, Nat.min_eq_left hj, Nat.min_eq_left hi]
theorem cut_init {α : Type} (xs : List α) : cutL xs none (some (-1)) = xs.dropLast := by
  unfold cutL
  rw [HT.sIx_none, List.drop_zero, Nat.sub_zero]
  have : HT.sIx xs.length xs.length (some (-1)) = xs.length - 1 := by
    show (if (-1 : Int) < 0 then ((-1 : Int) + (xs.length : Int)).toNat else min (-1 : Int).toNat xs.length) = _
    rw [if_pos (by decide)]
    omega
  rw [this, List.dropLast_eq_take]
theorem getAD_last {tt : Bool} {xs : List D} {d : D} (h : xs[xs.length - 1]? = some d) : getAD tt (.lst xs) (.int (-1)) = some d := by
  show L2.atI xs (-1) = _
  unfold L2.atI L2.ixN
  have hl : xs.length ≠ 0 := fun e => by
    rw [List.getElem?_eq_none (by omega)] at h; cases h
  rw [if_neg (by decide), if_pos (by omega)]
  show xs[((-1 : Int) + (xs.length : Int)).toNat]? = _
  rw [show ((-1 : Int) + (xs.length : Int)).toNat = xs.length - 1 by omega, h]
theorem zip_next {γ : Type} (f : Int → D) (Ch : List Int) : zip2L (Ch.map f) ((Ch.map f).drop 1) = (List.range (Ch.length - 1)).map fun i => .tup [f (xx Ch i), f (xx Ch (i + 1))] := by
  cases Ch with
  | nil => rfl
  | cons c Ch =>
    induction Ch generalizing c with
    | nil => rfl
    | cons e Ch ih =>
      have ih := ih e
      show D.tup [f c, f e] :: zip2L ((e :: Ch).map f) (((e :: Ch).map f).drop 1) = _
      rw [ih, show (c :: e :: Ch).length - 1 = ((e :: Ch).length - 1) + 1 from rfl, List.range_succ_eq_map, List.map_cons, List.map_map]
      rfl
end
end Y
end

section
set_option Elab.async false
set_option linter.all false
set_option autoImplicit false
set_option maxRecDepth 100000
namespace Y
open PySem PySem.Spec L2
open PyProof.Rows hiding St
/-! ### the draws -/
structure StOk (m : Nat) (st : DS) : Prop where
  t0 : 0 ≤ st.turn
  t1 : st.turn ≤ m
  r0 : 0 ≤ st.rest
  g0 : ∀ g ∈ st.great, 0 ≤ g
theorem StOk.mono {m m' : Nat} {st : DS} (h : StOk m st) (e : m ≤ m') : StOk m' st := ⟨h.t0, by have := h.t1; omega, h.r0, h.g0⟩
theorem log2_small {i : Int} {k : Nat} (hk : 0 < k) (h : i.natAbs < 2 ^ k) : i.natAbs.log2 < k := by
  by_cases e : i.natAbs = 0
  · rw [e]; exact hk
  · exact (Nat.log2_lt e).mpr h
theorem mulOk_small {i j : Int} (hi : i.natAbs < 2 ^ 200) (hj : j.natAbs < 2 ^ 200) : mulOk i j = true := by
  have h1 := log2_small (by decide) hi
  have h2 := log2_small (by decide) hj
  unfold mulOk
  exact decide_eq_true (by omega)
theorem mulD_small {i j : Int} (hi : i.natAbs < 2 ^ 200) (hj : j.natAbs < 2 ^ 200) : mulD (.int i) (.int j) = some (.int (i * j)) := by
  show (if mulOk i j = true then some (D.int (i * j)) else none) = _
  rw [if_pos (mulOk_small hi hj)]
theorem modD_pos {i j : Int} (h : 0 < j) : modD (.int i) (.int j) = some (.int (i % j)) := by
  show (if 0 < j then some (D.int (i % j)) else none) = _
  rw [if_pos h]
theorem fdivD_pos {i j : Int} (h : 0 < j) (h2 : j.natAbs < 2 ^ 200) : fdivD (.int i) (.int j) = some (.int (i / j)) := by
  show (if 0 < j ∧ j.natAbs.log2 < 9000 then some (D.int (i / j)) else none) = _
  rw [if_pos ⟨h, by have := log2_small (by decide) h2; omega⟩]
theorem powD5 {i : Int} (h : i.natAbs < 2 ^ 64) : powD (.int i) (.int 5) = some (.int (i ^ 5)) := by
  show (if (0 : Int) ≤ 5 ∧ (5 : Int) ≤ 1000000 ∧ i.natAbs < 2 ^ 64 then some (D.int (i ^ (5 : Int).toNat)) else none) = _
  rw [if_pos ⟨by decide, by decide, h⟩]
  rfl
def cellF : SSem := setS 4 (bin modD (callE intD (consA (bin addD (bin addD (bin mulD (peekE 4) (cE (.int 62089))) (peekE 5)) (peekE 2)) nilA)) (peekE 1))
theorem cells_go {pr tn f : Int} (hp : 0 < pr) (hp2 : pr ≤ 2147483648) (st : DS) : ∀ (cs : List Int) (bl : Int) (y5 : Var), 0 ≤ bl → bl < 2 ^ 60 →
    ∃ bl' y5', forGo (nameG 5) cellF (cs.map D.int) [.p .drw, .p (.int pr), .p (.int tn), .p (.int f), .p (.int bl), y5] st = some ((.nx, [.p .drw, .p (.int pr), .p (.int tn), .p (.int f), .p (.int bl'), y5']), st) ∧ 0 ≤ bl' ∧ bl' < 2 ^ 60
  | [], bl, y5, h1, h2 => ⟨bl, y5, rfl, h1, h2⟩
  | c :: cs, bl, y5, h1, h2 => by
    have m1 := Int.emod_nonneg (bl * 62089 + c + tn) (show pr ≠ 0 by omega)
    have m2 := Int.emod_lt_of_pos (bl * 62089 + c + tn) hp
    obtain ⟨bl', y5', h3, h4, h5⟩ := cells_go (tn := tn) (f := f) hp hp2 st cs ((bl * 62089 + c + tn) % pr) (.p (.int c)) m1 (by omega)
    refine ⟨bl', y5', ?_, h4, h5⟩
    rw [List.map_cons]
    refine ev_bd (s1 := st) (a := [.p .drw, .p (.int pr), .p (.int tn), .p (.int f), .p (.int bl), .p (.int c)]) rfl ?_
    have hs : cellF [.p .drw, .p (.int pr), .p (.int tn), .p (.int f), .p (.int bl), .p (.int c)] st = some ((.nx, [.p .drw, .p (.int pr), .p (.int tn), .p (.int f), .p (.int ((bl * 62089 + c + tn) % pr)), .p (.int c)]), st) :=
      ev_set (ev_bin (ev_callE (ev_cons (ev_bin (ev_bin (ev_bin (ev_peek rfl) ev_c (mulD_small (by omega) (by decide))) (ev_peek rfl) rfl) (ev_peek rfl) rfl) ev_nil) rfl) (ev_peek rfl) (modD_pos hp))
    exact ev_bd hs h3
theorem ev_drE {i : Nat} {env : List Var} {st : DS} {get : DS → Int} (h : isDrw env i = true) : drE i get env st = some (.int (get st), st) := by
  unfold drE
  rw [if_pos h]
theorem ev_drPut {i : Nat} {env : List Var} {st s1 : DS} {set : DS → Int → DS} {f : ESem} {n : Int} (h : isDrw env i = true) (hf : f env st = some (.int n, s1)) : drPutS i set f env st = some ((.nx, env), set s1 n) := by
  refine ev_bd hf (ev_bd (s1 := s1) (a := n) rfl ?_)
  show (if isDrw env i = true then _ else _) = _
  rw [if_pos h]
def primeF : SSem := seqS (setS 4 (bin addD (bin mulD (cE (.int 39373)) (peekE 2)) (bin fdivD (peekE 1) (cE (.int 61))))) (seqS (forCellsS 0 (nameG 5) cellF) (setS 3 (bin addD (bin mulD (peekE 3) (cE (.int 2147483647))) (bin modD (callE intD (consA (bin powD (peekE 4) (cE (.int 5))) nilA)) (peekE 1)))))
theorem prime_step {pr tn f : Int} (hp : 0 < pr) (hp2 : pr ≤ 2147483648) (ht0 : 0 ≤ tn) (ht : tn ≤ 1000000) (hf0 : 0 ≤ f) (hf : f < 2 ^ 100) (y4 y5 : Var) (st : DS) :
    ∃ f' y4' y5', primeF [.p .drw, .p (.int pr), .p (.int tn), .p (.int f), y4, y5] st = some ((.nx, [.p .drw, .p (.int pr), .p (.int tn), .p (.int f'), y4', y5']), st) ∧ 0 ≤ f' ∧ f' ≤ f * 2147483647 + 2147483648 := by
  have b0 : (0 : Int) ≤ 39373 * tn + pr / 61 := by omega
  obtain ⟨bl, y5', h1, h2, h3⟩ := cells_go (tn := tn) (f := f) hp hp2 st st.cells (39373 * tn + pr / 61) y5 b0 (by omega)
  have m1 := Int.emod_nonneg (bl ^ 5) (show pr ≠ 0 by omega)
  have m2 := Int.emod_lt_of_pos (bl ^ 5) hp
  refine ⟨f * 2147483647 + bl ^ 5 % pr, .p (.int bl), y5', ?_, by omega, by omega⟩
  have hc : forCellsS 0 (nameG 5) cellF [.p .drw, .p (.int pr), .p (.int tn), .p (.int f), .p (.int (39373 * tn + pr / 61)), y5] st = some ((.nx, [.p .drw, .p (.int pr), .p (.int tn), .p (.int f), .p (.int bl), y5']), st) := h1
  exact ev_seq (ev_set (ev_bin (ev_bin ev_c (ev_peek rfl) (mulD_small (by decide) (by omega))) (ev_bin (ev_peek rfl) ev_c (fdivD_pos (by decide) (by decide))) rfl)) (ev_seq hc
    (ev_set (ev_bin (ev_bin (ev_peek rfl) ev_c (mulD_small (by omega) (by decide))) (ev_bin (ev_callE (ev_cons (ev_bin (ev_peek rfl) ev_c (powD5 (by omega))) ev_nil) rfl) (ev_peek rfl) (modD_pos hp)) rfl)))
theorem p_blended {m : Nat} {st : DS} (h : StOk m st) (hm : m ≤ 900000) : ∃ v, F__law_blended [.drw] st = some (.p (.int v), { st with turn := st.turn + 1 }) ∧ 0 ≤ v := by
  have t0 := h.t0
  have t1 := h.t1
  obtain ⟨f1, u4, u5, h1, h2, h3⟩ := prime_step (pr := 2147483489) (tn := st.turn + 1) (f := 0) (by decide) (by decide) (by omega) (by omega) (by decide) (by decide) .u .u { st with turn := st.turn + 1 }
  obtain ⟨f2, v4, v5, k1, k2, k3⟩ := prime_step (pr := 2147483477) (tn := st.turn + 1) (f := f1) (by decide) (by decide) (by omega) (by omega) h2 (by omega) u4 u5 { st with turn := st.turn + 1 }
  obtain ⟨f3, w4, w5, g1, g2, g3⟩ := prime_step (pr := 2147483423) (tn := st.turn + 1) (f := f2) (by decide) (by decide) (by omega) (by omega) k2 (by omega) v4 v5 { st with turn := st.turn + 1 }
  refine ⟨f3, ?_, g2⟩
  refine ev_body (ev_seq (ev_par (ev_ccons (o := false) (f := bin addD (drE 0 (fun st => st.turn)) (cE (.int 1))) (ev_bin (ev_drE rfl) ev_c rfl) (ev_ccons (o := false) (f := cE (.int 0)) ev_c ev_cnil))) (ev_seq (ev_drPut (n := st.turn + 1) rfl (ev_var rfl)) (ev_seq (env1 := [.p .drw, .p (.int 2147483423), .p (.int (st.turn + 1)), .p (.int f3), w4, w5]) (s1 := { st with turn := st.turn + 1 }) (ev_for (items := [.int 2147483489, .int 2147483477, .int 2147483423]) (ev_seqI (ev_lst (ev_cons ev_c (ev_cons ev_c (ev_cons ev_c ev_nil)))) rfl) ?_) (ev_retVp rfl))))
  refine ev_bd (s1 := { st with turn := st.turn + 1 }) (a := [.p .drw, .p (.int 2147483489), .p (.int (st.turn + 1)), .p (.int 0), .u, .u]) rfl ?_
  refine ev_bd h1 ?_
  refine ev_bd (s1 := { st with turn := st.turn + 1 }) (a := [.p .drw, .p (.int 2147483477), .p (.int (st.turn + 1)), .p (.int f1), u4, u5]) rfl ?_
  refine ev_bd k1 ?_
  refine ev_bd (s1 := { st with turn := st.turn + 1 }) (a := [.p .drw, .p (.int 2147483423), .p (.int (st.turn + 1)), .p (.int f2), v4, v5]) rfl ?_
  refine ev_bd g1 ?_
  rfl
theorem p_draw {m : Nat} {st : DS} {room : Int} (h : StOk m st) (hm : m ≤ 900000) (hr : 0 < room) (hr2 : room < 2 ^ 60) : ∃ v st', F__law_draw [.drw, .int room] st = some (.p (.int v), st') ∧ 0 ≤ v ∧ v < room ∧ StOk (m + 1) st' := by
  have key : ∀ s1 : DS, StOk (m + 1) s1 → (ifS (testE (bin eqD (drE 0 (fun st => st.rest)) (cE (.int 0)))) (drPutS 0 (fun st n => { st with rest := n }) (iteE (drNeT 0) (drPopE 0) (callF F__law_blended (consA (varE 0) nilA)))) nilS) [.p .drw, .p (.int room), .u] st = some ((.nx, [.p .drw, .p (.int room), .u]), s1) →
      ∃ v st', F__law_draw [.drw, .int room] st = some (.p (.int v), st') ∧ 0 ≤ v ∧ v < room ∧ StOk (m + 1) st' := by
    intro s1 h1 hs
    refine ⟨s1.rest % room, { s1 with rest := s1.rest / room }, ?_, Int.emod_nonneg _ (by omega), Int.emod_lt_of_pos _ hr, h1.t0, h1.t1, Int.ediv_nonneg h1.r0 (by omega), h1.g0⟩
    exact ev_body (ev_seq hs (ev_seq (ev_set (ev_bin (ev_callE (ev_cons (ev_drE rfl) ev_nil) rfl) (ev_peek rfl) (modD_pos hr))) (ev_seq (ev_drPut rfl (ev_bin (ev_drE rfl) (ev_peek rfl) (fdivD_pos hr (by omega)))) (ev_retVp rfl))))
  have ht : testE (bin eqD (drE 0 (fun st => st.rest)) (cE (.int 0))) [.p .drw, .p (.int room), .u] st = some (decide (st.rest = 0), st) := ev_test (ev_bin (ev_drE rfl) ev_c (eqD_int _ _))
  by_cases h0 : st.rest = 0
  · rw [decide_eq_true h0] at ht
    by_cases hg : st.great = []
    · obtain ⟨v, hb, hv⟩ := p_blended h hm
      refine key { st with turn := st.turn + 1, rest := v } ⟨by have := h.t0; show 0 ≤ st.turn + 1; omega, by have := h.t1; show st.turn + 1 ≤ ((m + 1 : Nat) : Int); omega, hv, h.g0⟩ (ev_ifT ht ?_)
      refine ev_drPut (n := v) (s1 := { st with turn := st.turn + 1 }) rfl (ev_iteF (s1 := st) ?_ (ev_callF (ev_cons (ev_var rfl) ev_nil) hb))
      show some (!st.great.isEmpty, st) = _
      rw [hg]; rfl
    · obtain ⟨g, gs, hgg⟩ := List.exists_cons_of_ne_nil hg
      refine key { st with great := gs, rest := g } ⟨h.t0, by have := h.t1; show st.turn ≤ ((m + 1 : Nat) : Int); omega, h.g0 g (by rw [hgg]; exact List.mem_cons_self), fun y hy => h.g0 y (by rw [hgg]; exact List.mem_cons_of_mem _ hy)⟩ (ev_ifT ht ?_)
      refine ev_drPut (n := g) (s1 := { st with great := gs }) rfl (ev_iteT (s1 := st) ?_ ?_)
      · show some (!st.great.isEmpty, st) = _
        rw [hgg]; rfl
      · show (match st.great with | a :: r => some (D.int a, { st with great := r }) | [] => none) = _
        rw [hgg]
  · rw [decide_eq_false h0] at ht
    exact key st (h.mono (by omega)) (ev_ifF ht ev_nilS)
theorem erase_map {α β : Type} (f : α → β) : ∀ (xs : List α) (i : Nat), (xs.map f).eraseIdx i = (xs.eraseIdx i).map f
  | [], _ => rfl
  | x :: xs, 0 => rfl
  | x :: xs, i + 1 => by
    rw [List.map_cons, List.eraseIdx_cons_succ, List.eraseIdx_cons_succ, List.map_cons, erase_map f xs i]
theorem erase_perm {α : Type} : ∀ (xs : List α) (i : Nat) (h : i < xs.length), (xs[i] :: xs.eraseIdx i).Perm xs
  | [], _, h => by cases h
  | x :: xs, 0, _ => List.Perm.refl _
  | x :: xs, i + 1, h => by
    rw [List.getElem_cons_succ, List.eraseIdx_cons_succ]
    exact (List.Perm.swap ..).trans ((erase_perm xs i (by simpa using h)).cons x)
theorem shuf_go {some' : D} : ∀ (fuel : Nat) (left found : List Int) (m : Nat) (st : DS), StOk m st → m + left.length ≤ 900000 → left.length < fuel → left.length + found.length ≤ 1000 →
    ∃ (ys : List Int) (st' : DS), whileN (testE (bin neD (peekE 2) (lstE nilA))) (appPopS 3 2 (callF F__law_draw (consA (varE 0) (consA (callE lenD (consA (peekE 2) nilA)) nilA)))) fuel [.p .drw, .p some', .o (.lst (left.map D.int)), .o (.lst (found.map D.int))] st = some ((.nx, [.p .drw, .p some', .o (.lst []), .o (.lst (ys.map D.int))]), st') ∧ ys.Perm (left ++ found) ∧ StOk (m + left.length) st'
  | 0, _, _, _, _, _, _, h, _ => by omega
  | fuel + 1, left, found, m, st, hs, hm, hf, hl => by
    have ht : testE (bin neD (peekE 2) (lstE nilA)) [.p .drw, .p some', .o (.lst (left.map D.int)), .o (.lst (found.map D.int))] st = some (!left.isEmpty, st) := ev_test (ev_bin (ev_peekO rfl) (ev_lst ev_nil) (neD_colsnil left))
    cases hle : left with
    | nil =>
      subst hle
      exact ⟨found, st, ev_bd ht rfl, List.Perm.refl _, hs⟩
    | cons a r =>
      have hpos : 0 < left.length := by rw [hle]; exact Nat.succ_pos _
      rw [← hle]
      obtain ⟨v, st1, h1, h2, h3, h4⟩ := p_draw (room := (left.length : Int)) hs (by omega) (by omega) (by omega)
      have hv : v.toNat < left.length := by omega
      obtain ⟨ys, st2, k1, k2, k3⟩ := shuf_go (some' := some') fuel (left.eraseIdx v.toNat) (found ++ [left[v.toNat]]) (m + 1) st1 h4 (by rw [List.length_eraseIdx_of_lt hv]; omega) (by rw [List.length_eraseIdx_of_lt hv]; omega) (by rw [List.length_eraseIdx_of_lt hv, List.length_append]; simp; omega)
      refine ⟨ys, st2, ?_, ?_, ?_⟩
      · have hne : (!left.isEmpty) = true := by rw [hle]; rfl
        rw [hne] at ht
        refine ev_bd ht ?_
        rw [if_pos rfl]
        have pop : popV [.p .drw, .p some', .o (.lst (left.map D.int)), .o (.lst (found.map D.int))] 2 (.int v) = some (.int left[v.toNat], [.p .drw, .p some', .o (.lst ((left.eraseIdx v.toNat).map D.int)), .o (.lst (found.map D.int))]) := by
          show (if 0 ≤ v ∧ v ≤ 1000000 then ((left.map D.int)[v.toNat]?).map fun y => (y, ([.p .drw, .p some', .o (.lst (left.map D.int)), .o (.lst (found.map D.int))] : List Var).set 2 (.o (.lst ((left.map D.int).eraseIdx v.toNat)))) else none) = _
          rw [if_pos ⟨h2, by omega⟩, List.getElem?_map, List.getElem?_eq_getElem hv, erase_map]
          rfl
        have app : appV [.p .drw, .p some', .o (.lst ((left.eraseIdx v.toNat).map D.int)), .o (.lst (found.map D.int))] 3 (.int left[v.toNat]) = some [.p .drw, .p some', .o (.lst ((left.eraseIdx v.toNat).map D.int)), .o (.lst ((found ++ [left[v.toNat]]).map D.int))] := by
          show (if (found.map D.int).length ≤ 1000000 then some (([.p .drw, .p some', .o (.lst ((left.eraseIdx v.toNat).map D.int)), .o (.lst (found.map D.int))] : List Var).set 3 (.o (.lst (found.map D.int ++ [.int left[v.toNat]])))) else none) = _
          rw [if_pos (by rw [List.length_map]; omega), List.map_append]
          rfl
        have ap : appPopS 3 2 (callF F__law_draw (consA (varE 0) (consA (callE lenD (consA (peekE 2) nilA)) nilA))) [.p .drw, .p some', .o (.lst (left.map D.int)), .o (.lst (found.map D.int))] st = some ((.nx, [.p .drw, .p some', .o (.lst ((left.eraseIdx v.toNat).map D.int)), .o (.lst ((found ++ [left[v.toNat]]).map D.int))]), st1) := by
          refine ev_bd (ev_callF (ev_cons (ev_var rfl) (ev_cons (ev_callE (ev_cons (ev_peekO rfl) ev_nil) (show lenD [D.lst (left.map D.int)] = some (D.int left.length) by show some (D.int (List.length _ : Nat)) = _; rw [List.length_map])) ev_nil)) h1) ?_
          refine ev_bd (s1 := st1) (by unfold M.lf; rw [pop]) ?_
          exact ev_bd (s1 := st1) (by unfold M.lf; rw [app]) rfl
        exact ev_bd ap k1
      · refine k2.trans ?_
        have : (left[v.toNat] :: left.eraseIdx v.toNat).Perm left := erase_perm left v.toNat hv
        refine List.Perm.trans ?_ (this.append_right found)
        rw [List.cons_append, ← List.append_assoc]
        exact List.perm_append_singleton _ _ |>.trans (List.Perm.refl _)
      · rw [List.length_eraseIdx_of_lt hv, show m + 1 + (left.length - 1) = m + left.length by omega] at k3
        exact k3
theorem p_shuffled {m : Nat} {st : DS} (hs : StOk m st) (xs : List Int) (hx : xs.length < 100) (hm : m + xs.length ≤ 900000) : ∃ (ys : List Int) (st' : DS), F__law_shuffled [.drw, .lst (xs.map D.int)] st = some (.o (.lst (ys.map D.int)), st') ∧ ys.Perm xs ∧ StOk (m + xs.length) st' := by
  obtain ⟨ys, st', h1, h2, h3⟩ := shuf_go (some' := .lst (xs.map D.int)) 100 xs [] m st hs hm hx (by simp; omega)
  rw [List.append_nil] at h2
  refine ⟨ys, st', ?_, h2, h3⟩
  exact ev_body (ev_seq (ev_par (ev_ccons (o := true) (f := callE listAD (consA (peekE 1) nilA)) (ev_callE (ev_cons (ev_peek rfl) ev_nil) rfl) (ev_ccons (o := true) (f := lstE nilA) (ev_lst ev_nil) ev_cnil))) (ev_seq h1 (ev_retVo rfl)))
end Y
end

section
set_option Elab.async false
set_option linter.all false
set_option autoImplicit false
set_option maxRecDepth 100000
namespace Y
open PySem PySem.Spec L2
open PyProof.Rows hiding St
theorem forGo_dr {g : GSem} {F : SSem} (I : List Var → Prop) (c cap : Nat) : ∀ (items : List D) (m : Nat) (st : DS) (env : List Var), StOk m st → m + c * items.length ≤ cap → I env →
    (∀ x ∈ items, ∀ m st env, StOk m st → m + c ≤ cap → I env → ∃ env1 env2 st2, g x env = some env1 ∧ F env1 st = some ((.nx, env2), st2) ∧ I env2 ∧ StOk (m + c) st2) →
    ∃ env' st', forGo g F items env st = some ((.nx, env'), st') ∧ I env' ∧ StOk (m + c * items.length) st'
  | [], m, st, env, hs, _, h, _ => ⟨env, st, rfl, h, hs⟩
  | x :: xs, m, st, env, hs, hc, h, hx => by
    have e : c * (x :: xs).length = c + c * xs.length := by rw [List.length_cons, Nat.mul_add, Nat.mul_one, Nat.add_comm]
    rw [e] at hc
    obtain ⟨env1, env2, st2, h1, h2, h3, h4⟩ := hx x List.mem_cons_self m st env hs (by omega) h
    obtain ⟨env', st', h5, h6, h7⟩ := forGo_dr I c cap xs (m + c) st2 env2 h4 (by omega) h3 fun y hy => hx y (List.mem_cons_of_mem _ hy)
    refine ⟨env', st', ?_, h6, by rw [e, ← Nat.add_assoc]; exact h7⟩
    exact ev_bd (s1 := st) (a := env1) (by unfold M.lf; rw [h1]) (ev_bd h2 h5)
section
variable {b : D} {n : Nat} {p q : Int → Int} {d0 d1 : D} {st : DS} {Ch : List Int}
abbrev PR (Ch : List Int) : List D := (List.range (Ch.length - 1)).map (rmD (xx Ch))
theorem PR_get {i : Nat} (h : i + 1 < Ch.length) : (PR Ch)[i]? = some (rmD (xx Ch) i) := by
  show (List.map _ _)[i]? = _
  rw [List.getElem?_map, List.getElem?_range (by omega)]
  rfl
theorem due_up (h : CH n p q Ch) {one two : Nat} (h1 : one ≤ two) (h2 : two + 1 < Ch.length) : cutL (Ch.map D.int) (some (one : Int)) (some (two : Int)) = (upL (xx Ch) one (two - one)).map D.int := by
  rw [cut_both _ _ _ (by rw [List.length_map]; omega) (by rw [List.length_map]; omega), ← List.map_drop, ← List.map_take, upL_eq (fun i hi => xx_get hi) _ _ (by omega)]
theorem due_dn (h : CH n p q Ch) {one two : Nat} (h1 : two < one) (h2 : one + 1 < Ch.length) : (cutL (Ch.map D.int) (some ((two : Int) + 2)) (some ((one : Int) + 2))).reverse = (dnL (xx Ch) one (one - two)).map D.int := by
  have e1 : (two : Int) + 2 = ((two + 2 : Nat) : Int) := by omega
  have e2 : (one : Int) + 2 = ((one + 2 : Nat) : Int) := by omega
  rw [e1, e2, cut_both _ _ _ (by rw [List.length_map]; omega) (by rw [List.length_map]; omega), ← List.map_drop, ← List.map_take, ← List.map_reverse]
  have := dnL_eq (x := xx Ch) (fun i hi => xx_get hi) (one - two) one (by omega) h2
  rw [← this]
  congr 3
  · omega
  · congr 1; omega
def du (x : Nat → Int) (one two : Nat) : List Int := if one ≤ two then upL x one (two - one) else dnL x one (one - two)
theorem rot_eq (cs : List Int) : (cs.map D.int).drop 1 ++ (cs.map D.int).take 1 = (cs.drop 1 ++ cs.take 1).map D.int := by
  rw [List.map_append, List.map_drop, List.map_take]
theorem upL_len {x : Nat → Int} : ∀ (k i : Nat), (upL x i k).length = k
  | 0, _ => rfl
  | k + 1, i => by rw [upL, List.length_cons, upL_len k]
theorem dnL_len {x : Nat → Int} : ∀ (k i : Nat), (dnL x i k).length = k
  | 0, _ => rfl
  | k + 1, i => by rw [dnL, List.length_cons, dnL_len k]
/-- the way that the law tells, and three that are none -/
theorem du_facts (h : CH n p q Ch) {one two : Nat} (h1 : one + 1 < Ch.length) (h2 : two + 1 < Ch.length) :
    wayOk Ch.length (xx Ch) (du (xx Ch) one two) (some one) two = true ∧ (du (xx Ch) one two ≠ [] → wayOk Ch.length (xx Ch) (du (xx Ch) one two).dropLast (some one) two = false ∧
      (1 < (du (xx Ch) one two).length → wayOk Ch.length (xx Ch) ((du (xx Ch) one two).drop 1 ++ (du (xx Ch) one two).take 1) (some one) two = false) ∧
      ((du (xx Ch) one two).length ≤ 1 → wayOk Ch.length (xx Ch) (du (xx Ch) one two ++ du (xx Ch) one two) (some one) two = false)) := by
  have inj : ∀ i j, i < Ch.length → j < Ch.length → xx Ch i = xx Ch j → i = j := fun i j hi hj e => h.inj hi hj e
  unfold du
  by_cases hl : one ≤ two
  · rw [if_pos hl]
    refine ⟨by rw [way_up _ _ _ (by omega)]; simp; omega, fun hne => ?_⟩
    have hk : two - one ≠ 0 := fun e => hne (by rw [e]; rfl)
    obtain ⟨k, hk⟩ : ∃ k, two - one = k + 1 := ⟨two - one - 1, by omega⟩
    rw [hk]
    refine ⟨by rw [upL_drop, way_up _ _ _ (by omega)]; simp; omega, fun hl => ?_, fun hl => ?_⟩
    · rw [upL_len] at hl
      obtain ⟨j, rfl⟩ : ∃ j, k = j + 1 := ⟨k - 1, by omega⟩
      exact way_up_rot inj j one two (by omega) (by omega)
    · rw [upL_len] at hl
      have : k = 0 := by omega
      subst this
      exact way_up_two inj one two (by omega)
  · rw [if_neg hl]
    refine ⟨by rw [way_dn inj _ _ _ (by omega) (by omega)]; simp; omega, fun hne => ?_⟩
    obtain ⟨k, hk⟩ : ∃ k, one - two = k + 1 := ⟨one - two - 1, by omega⟩
    rw [hk]
    refine ⟨by rw [dnL_drop, way_dn inj _ _ _ (by omega) (by omega)]; simp; omega, fun hl => ?_, fun hl => ?_⟩
    · rw [dnL_len] at hl
      obtain ⟨j, rfl⟩ : ∃ j, k = j + 1 := ⟨k - 1, by omega⟩
      exact way_dn_rot inj j one two (by omega) (by omega) (by omega)
    · rw [dnL_len] at hl
      have : k = 0 := by omega
      subst this
      exact way_dn_two inj one two (by omega) (by omega)
theorem du_len (h : CH n p q Ch) {one two : Nat} (h1 : one + 1 < Ch.length) (h2 : two + 1 < Ch.length) : (du (xx Ch) one two).length ≤ Ch.length := by
  unfold du
  split
  · rw [upL_len]; omega
  · rw [dnL_len]; omega
theorem p_ways_go (B : BK b n p q d0 d1) (h : CH n p q Ch) {m : Nat} (hs : StOk m st) (hm : m + 2 ≤ 900000) : ∃ st', F__law_ways_go [.drw, b, .lst (Ch.map D.int), .lst (PR Ch)] st = some (.p (.bl true), st') ∧ StOk (m + 2) st' := by
  have hL := h.L2 B.t
  have hL10 := ch_len B.t h
  have hpl : (PR Ch).length = Ch.length - 1 := by show (List.map _ _).length = _; rw [List.length_map, List.length_range]
  have hlen : lenD [.lst (PR Ch)] = some (.int ((Ch.length - 1 : Nat) : Int)) := by
    show some (D.int ((PR Ch).length : Nat)) = _
    rw [hpl]
  obtain ⟨v1, s1, a1, a2, a3, a4⟩ := p_draw (room := ((Ch.length - 1 : Nat) : Int)) hs (by omega) (by omega) (by omega)
  obtain ⟨v2, s2, c1, c2, c3, c4⟩ := p_draw (room := ((Ch.length - 1 : Nat) : Int)) a4 (by omega) (by omega) (by omega)
  obtain ⟨one, rfl⟩ := Int.eq_ofNat_of_zero_le a2
  obtain ⟨two, rfl⟩ := Int.eq_ofNat_of_zero_le c2
  have ho : one + 1 < Ch.length := by omega
  have ht : two + 1 < Ch.length := by omega
  obtain ⟨f1, f2⟩ := du_facts h ho ht
  have fl := du_len h ho ht
  obtain ⟨cs, w1, w2⟩ := p_room_way B h hL10 ho ht s2
  let E4 : D → List Var := fun d => [.p .drw, .p b, .p (.lst (Ch.map D.int)), .p (.lst (PR Ch)), .p d, .u, .p (.int one), .p (.int two)]
  let E5 : List Var := [.p .drw, .p b, .p (.lst (Ch.map D.int)), .p (.lst (PR Ch)), .p (tupD (du (xx Ch) one two)), .p (tupD cs), .p (.int one), .p (.int two)]
  have hpar : parS [6, 7] [(false, (callF F__law_draw (consA (varE 0) (consA (callE lenD (consA (peekE 3) nilA)) nilA)))), (false, (callF F__law_draw (consA (varE 0) (consA (callE lenD (consA (peekE 3) nilA)) nilA))))] (startE N__law_ways_go [.drw, b, .lst (Ch.map D.int), .lst (PR Ch)]) st
      = some ((.nx, [.p .drw, .p b, .p (.lst (Ch.map D.int)), .p (.lst (PR Ch)), .u, .u, .p (.int one), .p (.int two)]), s2) :=
    ev_par (ev_ccons (ev_callF (ev_cons (ev_var rfl) (ev_cons (ev_callE (ev_cons (ev_peek rfl) ev_nil) hlen) ev_nil)) a1) (ev_ccons (ev_callF (ev_cons (ev_var rfl) (ev_cons (ev_callE (ev_cons (ev_peek rfl) ev_nil) hlen) ev_nil)) c1) ev_cnil))
  have hdue : iteE (testE (bin leD (peekE 6) (peekE 7))) (callE tupleD (consA (sliceE cutD (peekE 2) (someO (peekE 6)) (someO (peekE 7))) nilA)) (callE tupleD (consA (un revAD (sliceE cutD (peekE 2) (someO (bin addD (peekE 7) (cE (.int 2)))) (someO (bin addD (peekE 6) (cE (.int 2)))))) nilA))
      [.p .drw, .p b, .p (.lst (Ch.map D.int)), .p (.lst (PR Ch)), .u, .u, .p (.int one), .p (.int two)] s2 = some (tupD (du (xx Ch) one two), s2) := by
    have tst : testE (bin leD (peekE 6) (peekE 7)) [.p .drw, .p b, .p (.lst (Ch.map D.int)), .p (.lst (PR Ch)), .u, .u, .p (.int one), .p (.int two)] s2 = some (decide ((one : Int) ≤ two), s2) := ev_test (ev_bin (ev_peek rfl) (ev_peek rfl) rfl)
    unfold du
    by_cases hl : one ≤ two
    · rw [if_pos hl]
      rw [decide_eq_true (by omega)] at tst
      refine ev_iteT tst (ev_callE (ev_cons (ev_slice (ev_peek rfl) (ev_someO (ev_peek rfl)) (ev_someO (ev_peek rfl)) rfl) ev_nil) ?_)
      show some (D.tup (cutL (Ch.map D.int) (some (one : Int)) (some (two : Int)))) = _
      rw [due_up h hl ht]
      rfl
    · rw [if_neg hl]
      rw [decide_eq_false (by omega)] at tst
      refine ev_iteF tst (ev_callE (ev_cons (ev_un (ev_slice (ev_peek rfl) (ev_someO (ev_bin (ev_peek rfl) ev_c rfl)) (ev_someO (ev_bin (ev_peek rfl) ev_c rfl)) rfl) rfl) ev_nil) ?_)
      show some (D.tup ((cutL (Ch.map D.int) (some ((two : Int) + 2)) (some ((one : Int) + 2))).reverse)) = _
      rw [due_dn h (by omega) ho]
      rfl
  have g6 : ∀ env : List Var, env[3]? = some (.p (.lst (PR Ch))) → env[6]? = some (.p (.int one)) → bin (getAD true) (peekE 3) (peekE 6) env s2 = some (rmD (xx Ch) one, s2) := fun env h3 h6 => ev_bin (ev_peek h3) (ev_peek h6) (getAD_lst (PR_get ho))
  have g7 : ∀ env : List Var, env[3]? = some (.p (.lst (PR Ch))) → env[7]? = some (.p (.int two)) → bin (getAD true) (peekE 3) (peekE 7) env s2 = some (rmD (xx Ch) two, s2) := fun env h3 h7 => ev_bin (ev_peek h3) (ev_peek h7) (getAD_lst (PR_get ht))
  have irw : ∀ (f : ESem) (ws : List Int), f E5 s2 = some (tupD ws, s2) → bin isNotD (callF F_is_room_way (consA (varE 1) (consA (bin (getAD true) (peekE 3) (peekE 6)) (consA (bin (getAD true) (peekE 3) (peekE 7)) (consA f nilA))))) (cE (.bl true)) E5 s2 = some (.bl (!decide (wayOk Ch.length (xx Ch) ws (some one) two = true)), s2) := fun f ws hf =>
    ev_bin (ev_callF (ev_cons (ev_var rfl) (ev_cons (g6 _ rfl rfl) (ev_cons (g7 _ rfl rfl) (ev_cons hf ev_nil)))) (p_is_room_way B h ho ht ws s2)) ev_c rfl
  refine ⟨s2, ev_body (env1 := E5) (ev_seq hpar (ev_seq (ev_set hdue) (ev_seq (env1 := E5) (s1 := s2) (ev_set (ev_callF (ev_cons (ev_var rfl) (ev_cons (g6 _ rfl rfl) (ev_cons (g7 _ rfl rfl) ev_nil))) w1)) (ev_seq (env1 := E5) (s1 := s2) (ev_ifF' (ev_orT (ev_test (irw _ cs (ev_var rfl))) (fun _ => ev_test (irw _ _ (ev_var rfl)))) (by rw [w2, f1]; rfl) ev_nilS) ?_)))), c4⟩
  refine ev_ret ?_
  have td : bin eqD (peekE 4) (tupE 0 nilA) E5 s2 = some (.bl ((du (xx Ch) one two).map D.int).isEmpty, s2) := ev_bin (ev_peek rfl) (ev_tup ev_nil) (eqD_tnil (flatL_int 59 _))
  by_cases hne : du (xx Ch) one two = []
  · rw [hne] at td
    exact ev_or1 td
  · have e0 : ((du (xx Ch) one two).map D.int).isEmpty = false := by
      cases hd : du (xx Ch) one two with
      | nil => exact absurd hd hne
      | cons => rfl
    rw [e0] at td
    obtain ⟨k1, k2, k3⟩ := f2 hne
    have dl : sliceE cutD (peekE 4) noO (someO (un negD (cE (.int 1)))) E5 s2 = some (tupD (du (xx Ch) one two).dropLast, s2) := by
      refine ev_slice (ev_peek rfl) ev_noO (ev_someO (ev_un ev_c rfl)) ?_
      show some (D.tup (cutL ((du (xx Ch) one two).map D.int) none (some (-1)))) = _
      rw [cut_init, ← List.map_dropLast]
      rfl
    have r1 := irw _ _ dl
    rw [k1] at r1
    have lg : testE (bin gtD (callE lenD (consA (peekE 4) nilA)) (cE (.int 1))) E5 s2 = some (decide ((1 : Int) < ((du (xx Ch) one two).map D.int).length), s2) := ev_test (ev_bin (ev_callE (ev_cons (ev_peek rfl) ev_nil) rfl) ev_c rfl)
    rw [List.length_map] at lg
    have last : ∃ ws, iteE (testE (bin gtD (callE lenD (consA (peekE 4) nilA)) (cE (.int 1)))) (bin addD (sliceE cutD (peekE 4) (someO (cE (.int 1))) noO) (sliceE cutD (peekE 4) noO (someO (cE (.int 1))))) (bin addD (peekE 4) (peekE 4)) E5 s2 = some (tupD ws, s2) ∧ wayOk Ch.length (xx Ch) ws (some one) two = false := by
      by_cases hl : 1 < (du (xx Ch) one two).length
      · rw [decide_eq_true (by omega)] at lg
        refine ⟨_, ev_iteT lg (ev_bin (ev_slice (ev_peek rfl) (ev_someO ev_c) ev_noO rfl) (ev_slice (ev_peek rfl) ev_noO (ev_someO ev_c) rfl) ?_), k2 hl⟩
        have e1 : cutL ((du (xx Ch) one two).map D.int) (some 1) none = ((du (xx Ch) one two).drop 1).map D.int := by
          have := cut_from ((du (xx Ch) one two).map D.int) 1
          rw [List.map_drop]; exact this
        have e2 : cutL ((du (xx Ch) one two).map D.int) none (some 1) = ((du (xx Ch) one two).take 1).map D.int := by
          have := cut_to ((du (xx Ch) one two).map D.int) 1
          rw [List.map_take]; exact this
        rw [e1, e2]
        exact addD_tupD _ _ (by rw [List.length_drop, List.length_take]; omega)
      · rw [decide_eq_false (by omega)] at lg
        exact ⟨_, ev_iteF lg (ev_bin (ev_peek rfl) (ev_peek rfl) (addD_tupD _ _ (by omega))), k3 (by omega)⟩
    obtain ⟨ws, l1, l2⟩ := last
    have r2 := irw _ _ l1
    rw [l2] at r2
    exact ev_or0 td (ev_and1 r1 r2)
end
end Y
end

section
set_option Elab.async false
set_option linter.all false
set_option autoImplicit false
set_option maxRecDepth 100000
namespace Y
open PySem PySem.Spec L2
open PyProof.Rows hiding St
section
variable {b : D} {n : Nat} {p q : Int → Int} {d0 d1 : D} {st : DS} {Ch : List Int}
/-- a drawn lot, with what is above it -/
structure Lot (b : D) (n : Nat) (p q : Int → Int) (d0 d1 : D) (lot : List Int) (m0 m1 : Int) : Prop where
  inC : ∀ c ∈ lot, c ∈ cols n
  h0 : minI (lot.map p) = some m0
  h1 : minI (lot.map q) = some m1
  need : ∀ st, F_need_lot [b, tupD lot] st = some (.p .non, st)
  mx : ((cols n).filter (ab p q m0 m1)).isEmpty = true → ∀ c ∈ lot, Mx n p q c
theorem lot_one (B : BK b n p q d0 d1) {a : Int} (ha : a ∈ cols n) : Lot b n p q d0 d1 [a] (p a) (q a) :=
  ⟨fun c hc => by simp only [List.mem_cons, List.not_mem_nil, or_false] at hc; rw [hc]; exact ha, rfl, rfl, p_need_lot1 B ha, fun he c hc => by
    simp only [List.mem_cons, List.not_mem_nil, or_false] at hc; rw [hc]; exact no1_iff.mp he⟩
theorem lot_two (B : BK b n p q d0 d1) {a c : Int} (h : Asc n a c) : Lot b n p q d0 d1 [a, c] (mn (p a) (p c)) (mn (q a) (q c)) :=
  ⟨fun z hz => by simp only [List.mem_cons, List.not_mem_nil, or_false] at hz; rcases hz with rfl | rfl; exact h.ma; exact h.mc, rfl, rfl, p_need_lot2 B h, fun he z hz => by
    have hr := rmB_iff.mp he
    simp only [List.mem_cons, List.not_mem_nil, or_false] at hz
    rcases hz with rfl | rfl
    · exact hr.left
    · exact hr.symm.left⟩
theorem flat_hdD (xs : List Int) : (hdD xs).flat 60 = true := by cases xs <;> simp [hdD, D.flat]
abbrev AE (b : D) (n : Nat) (d0 d1 : D) (Ch : List Int) (y5 y6 y7 y8 y9 y10 y11 : Var) : List Var := [.p .drw, .p b, .p (.lst (Ch.map D.int)), .p (.lst [d0, d1]), .p (.lst ((cols n).map D.int)), y5, y6, y7, y8, y9, y10, y11]
def aboveF : SSem := (seqS (setS 7 (compE (seqI (varE 4)) (nameG 9) (testE (bin eqD (compE (seqI (varE 3)) (nameG 10) (testE (bin leD (bin (getAD true) (peekE 10) (peekE 9)) (callE minAD (consA (compE (seqI (varE 6)) (nameG 11) yesT (bin (getAD true) (peekE 10) (peekE 11)) [11]) nilA)))) (cE (.int 1)) [10]) (lstE nilA))) (varE 9) [9])) (seqS (setS 8 (callF F_above_all (consA (varE 1) (consA (varE 6) nilA)))) (seqS (ifS (orT (testE (bin neD (peekE 8) (iteE (testE (bin neD (peekE 7) (lstE nilA))) (bin (getAD true) (peekE 7) (cE (.int 0))) (cE .non)))) (testE (bin neD (callF F_is_face (consA (varE 1) (consA (varE 6) nilA))) (bin eqD (peekE 7) (lstE nilA))))) (retS (cE (.bl false))) nilS) (ifS (andT (testE (bin eqD (peekE 7) (lstE nilA))) (testE (bin neD (compE (seqI (varE 6)) (nameG 9) (testE (bin (notInAD true) (peekE 9) (peekE 2))) (varE 9) [9]) (lstE nilA)))) (retS (cE (.bl false))) nilS))))
theorem above_step (B : BK b n p q d0 d1) (h : CH n p q Ch) {lot : List Int} {m0 m1 : Int} (l : Lot b n p q d0 d1 lot m0 m1) (y5 y7 y8 y9 y10 y11 : Var) (st : DS) :
    ∃ y7' y8', aboveF (AE b n d0 d1 Ch y5 (.p (tupD lot)) y7 y8 y9 y10 y11) st = some ((.nx, AE b n d0 d1 Ch y5 (.p (tupD lot)) y7' y8' y9 y10 y11), st) := by
  let xs := (cols n).filter (ab p q m0 m1)
  have over : ∀ u9 u10 u11 : Var, compE (seqI (varE 4)) (nameG 9) (testE (bin eqD (compE (seqI (varE 3)) (nameG 10) (testE (bin leD (bin (getAD true) (peekE 10) (peekE 9)) (callE minAD (consA (compE (seqI (varE 6)) (nameG 11) yesT (bin (getAD true) (peekE 10) (peekE 11)) [11]) nilA)))) (cE (.int 1)) [10]) (lstE nilA))) (varE 9) [9]
      (AE b n d0 d1 Ch y5 (.p (tupD lot)) y7 y8 u9 u10 u11) st = some (.lst (xs.map D.int), st) := by
    intro u9 u10 u11
    refine ev_compP (enc := D.int) (xs := cols n) (p := ab p q m0 m1) (hh := D.int) (ev_seqI (ev_var rfl) rfl) (fun c hc => ⟨_, rfl, ?_, fun _ => ev_var rfl⟩)
    have inner := ev_compP' (env := AE b n d0 d1 Ch y5 (.p (tupD lot)) y7 y8 (.p (.int c)) u10 u11) (st := st) (s1 := st) (it := seqI (varE 3)) (gg := nameG 10) (vs := [10]) (c := testE (bin leD (bin (getAD true) (peekE 10) (peekE 9)) (callE minAD (consA (compE (seqI (varE 6)) (nameG 11) yesT (bin (getAD true) (peekE 10) (peekE 11)) [11]) nilA)))) (f := cE (.int 1))
      (enc := fun z : D × (Int → Int) × Int => z.1) (p := fun z => decide (z.2.1 c ≤ z.2.2)) (hh := fun _ => D.int 1) (xs := [(d0, p, m0), (d1, q, m1)]) (ev_seqI (ev_var rfl) rfl) rfl (fun z hz => by
        have hz' : minI (lot.map z.2.1) = some z.2.2 ∧ ∀ c ∈ cols n, getAD true z.1 (.int c) = some (.int (z.2.1 c)) := by
          simp only [List.mem_cons, List.not_mem_nil, or_false] at hz
          rcases hz with rfl | rfl
          · exact ⟨l.h0, B.g0⟩
          · exact ⟨l.h1, B.g1⟩
        refine ⟨_, rfl, ev_test (ev_bin (y := .int z.2.2) (ev_bin (ev_peek rfl) (ev_peek rfl) (hz'.2 c hc)) (ev_callE (ev_cons (ev_compY (enc := D.int) (xs := lot) (hh := fun c => D.int (z.2.1 c)) (ev_seqI (ev_var rfl) rfl) (fun o ho => ⟨_, rfl, ev_bin (ev_peek rfl) (ev_peek rfl) (hz'.2 o (l.inC o ho))⟩)) ev_nil) ?_) rfl), fun _ => ev_c⟩
        have := minAD_int hz'.1
        rw [List.map_map] at this
        exact this)
    refine ev_test (ev_bin inner (ev_lst ev_nil) ?_)
    have e : (([(d0, p, m0), (d1, q, m1)] : List (D × (Int → Int) × Int)).filter fun z => decide (z.2.1 c ≤ z.2.2)).map (fun _ => D.int 1) = ((([(d0, p, m0), (d1, q, m1)] : List (D × (Int → Int) × Int)).filter fun z => decide (z.2.1 c ≤ z.2.2)).map fun _ => (1 : Int)).map D.int := by rw [List.map_map]; rfl
    rw [e, eqD_colsnil]
    unfold ab
    by_cases h1 : p c ≤ m0
    · rw [List.filter_cons_of_pos (by simpa using h1), decide_eq_false (by omega)]; rfl
    · rw [List.filter_cons_of_neg (by simpa using h1), decide_eq_true (show m0 < p c by omega)]
      by_cases h2 : q c ≤ m1
      · rw [List.filter_cons_of_pos (by simpa using h2), decide_eq_false (by omega)]; rfl
      · rw [List.filter_cons_of_neg (by simpa using h2), decide_eq_true (show m1 < q c by omega)]; rfl
  have ha := p_above_all B (xs := xs) l.need (p_columns_above B lot l.inC l.h0 l.h1)
  have hf := p_is_face B ha
  refine ⟨.p (.lst (xs.map D.int)), .p (hdD xs), ev_seq (ev_set (over _ _ _)) (ev_seq (ev_set (ev_callF (ev_cons (ev_var rfl) (ev_cons (ev_var rfl) ev_nil)) (ha st))) (ev_seq (env1 := AE b n d0 d1 Ch y5 (.p (tupD lot)) (.p (.lst (xs.map D.int))) (.p (hdD xs)) y9 y10 y11) (s1 := st) ?_ ?_))⟩
  · refine ev_ifF' (bb := false || false) (ev_orT (a := false) (b := false) (ev_test (ev_bin (y := hdD xs) (ev_peek rfl) ?_ (neD_self (flat_hdD xs)))) (fun _ => ev_test (ev_bin (ev_callF (ev_cons (ev_var rfl) (ev_cons (ev_var rfl) ev_nil)) (hf st)) (ev_bin (ev_peek rfl) (ev_lst ev_nil) (eqD_colsnil xs)) (neD_self (flat_bl _ _))))) rfl ev_nilS
    have tt := ev_test (ev_bin (ev_peek (i := 7) (env := AE b n d0 d1 Ch y5 (.p (tupD lot)) (.p (.lst (xs.map D.int))) (.p (hdD xs)) y9 y10 y11) (st := st) rfl) (ev_lst ev_nil) (neD_colsnil xs))
    cases hx : xs with
    | nil =>
      rw [hx] at tt
      exact ev_iteF tt ev_c
    | cons x r =>
      rw [hx] at tt
      exact ev_iteT tt (ev_bin (ev_peek rfl) ev_c (getAD_lst (i := 0) rfl))
  · have inner : compE (seqI (varE 6)) (nameG 9) (testE (bin (notInAD true) (peekE 9) (peekE 2))) (varE 9) [9] (AE b n d0 d1 Ch y5 (.p (tupD lot)) (.p (.lst (xs.map D.int))) (.p (hdD xs)) y9 y10 y11) st = some (.lst ((lot.filter fun c => !decide (c ∈ Ch)).map D.int), st) :=
      ev_compP (enc := D.int) (xs := lot) (p := fun c => !decide (c ∈ Ch)) (hh := D.int) (ev_seqI (ev_var rfl) rfl) (fun c hc => ⟨_, rfl, ev_test (ev_bin (ev_peek rfl) (ev_peek rfl) (notInAD_lstI true c Ch)), fun _ => ev_var rfl⟩)
    refine ev_ifF' (ev_andT (ev_test (ev_bin (ev_peek rfl) (ev_lst ev_nil) (eqD_colsnil xs))) (fun _ => ev_test (ev_bin inner (ev_lst ev_nil) (neD_colsnil _)))) ?_ ev_nilS
    cases hx : xs.isEmpty with
    | false => rfl
    | true =>
      have hm := l.mx hx
      have : lot.filter (fun c => !decide (c ∈ Ch)) = [] := List.filter_eq_nil_iff.mpr fun c hc e => by
        have hcc : c ∈ Ch := by
          obtain ⟨i, hi, e⟩ := h.all c (l.inC c hc) (hm c hc)
          rw [e]; exact mem_xx.mpr ⟨i, hi, rfl⟩
        simp [hcc] at e
      rw [this]; rfl
theorem lot_draw (B : BK b n p q d0 d1) {ys : List Int} (hp : ys.Perm (cols n)) {k : Nat} (hk : k = 1 ∨ k = 2) : ∃ lot m0 m1, sortI (ys.take k) = lot ∧ Lot b n p q d0 d1 lot m0 m1 := by
  have n2 := B.t.n2
  have hl : ys.length = n := by rw [hp.length_eq]; unfold cols; rw [List.length_map, List.length_range]
  have hn : ys.Nodup := hp.nodup_iff.mpr (cols_nodup n)
  match ys, hl, hn, hp with
  | [], hl, _, _ => exact absurd hl (by simp; omega)
  | [a], hl, _, _ => exact absurd hl (by simp; omega)
  | a :: c :: r, hl, hn, hp =>
    have ha : a ∈ cols n := hp.mem_iff.mp List.mem_cons_self
    have hc : c ∈ cols n := hp.mem_iff.mp (List.mem_cons_of_mem _ List.mem_cons_self)
    rcases hk with rfl | rfl
    · exact ⟨[a], _, _, rfl, lot_one B ha⟩
    · have ne : a ≠ c := fun e => by
        subst e
        exact (List.nodup_cons.mp hn).1 List.mem_cons_self
      show ∃ lot m0 m1, srt2 a c = lot ∧ _
      rw [srt2_eq]
      by_cases hle : a ≤ c
      · rw [if_pos hle]; exact ⟨_, _, _, rfl, lot_two B ⟨ha, hc, by omega⟩⟩
      · rw [if_neg hle]; exact ⟨_, _, _, rfl, lot_two B ⟨hc, ha, by omega⟩⟩
theorem sortedAD_ints (xs : List Int) : sortedAD [.lst (xs.map D.int)] = some (.lst ((sortI xs).map D.int)) := by
  show (match allI (xs.map D.int) with
    | some ns => some (D.lst ((sortI ns).map .int))
    | none => _) = _
  rw [allI_map]
theorem p_above_goes (B : BK b n p q d0 d1) (h : CH n p q Ch) {m : Nat} (hs : StOk m st) (hm : m + 88 ≤ 900000) : ∃ st', F__law_above_goes [.drw, b, .lst (Ch.map D.int), .lst [d0, d1]] st = some (.p (.bl true), st') ∧ StOk (m + 88) st' := by
  obtain ⟨ws, hw1, hw2⟩ := B.wks
  have n10 := B.t.n10
  have hr : range1I (bin addD (cE (.int 2)) (callE lenD (consA (bin (getAD true) (peekE 1) (cE (.int 2))) nilA))) (startE N__law_above_goes [.drw, b, .lst (Ch.map D.int), .lst [d0, d1]]) st = some ((cols n).map D.int, st) := by
    have hn : bin addD (cE (.int 2)) (callE lenD (consA (bin (getAD true) (peekE 1) (cE (.int 2))) nilA)) (startE N__law_above_goes [.drw, b, .lst (Ch.map D.int), .lst [d0, d1]]) st = some (.int n, st) :=
      ev_bin ev_c (ev_callE (ev_cons (ev_bin (ev_peek rfl) ev_c hw1) ev_nil) rfl) (by rw [← hw2, Int.add_comm]; rfl)
    have := ev_range1 hn (by omega)
    rw [rangeL0] at this
    exact this
  have hcl : (cols n).length = n := by unfold cols; rw [List.length_map, List.length_range]
  obtain ⟨env', st', h1, ⟨y5, y6, y7, y8, y9, y10, y11, rfl⟩, h3⟩ := forGo_dr (g := nameG 5) (F := seqS (setS 6 (callE tupleD (consA (callE sortedAD (consA (sliceE cutD (callF F__law_shuffled (consA (varE 0) (consA (varE 4) nilA))) noO (someO (bin addD (cE (.int 1)) (callF F__law_draw (consA (varE 0) (consA (cE (.int 2)) nilA)))))) nilA)) nilA))) aboveF)
    (fun env => ∃ y5 y6 y7 y8 y9 y10 y11, env = AE b n d0 d1 Ch y5 y6 y7 y8 y9 y10 y11) 11 900000 (rangeL 0 8) m st (AE b n d0 d1 Ch .u .u .u .u .u .u .u) hs (by show m + 11 * 8 ≤ _; omega) ⟨_, _, _, _, _, _, _, rfl⟩ (fun z hz m st env hs hm hI => by
      obtain ⟨y5, y6, y7, y8, y9, y10, y11, rfl⟩ := hI
      obtain ⟨ys, s1, a1, a2, a3⟩ := p_shuffled hs (cols n) (by omega) (by omega)
      obtain ⟨v, s2, c1, c2, c3, c4⟩ := p_draw (room := 2) a3 (by omega) (by decide) (by decide)
      have hk : ∃ k : Nat, (1 : Int) + v = (k : Int) ∧ (k = 1 ∨ k = 2) := by
        by_cases e : v = 0
        · exact ⟨1, by omega, .inl rfl⟩
        · exact ⟨2, by omega, .inr rfl⟩
      obtain ⟨k, hk1, hk2⟩ := hk
      obtain ⟨lot, m0, m1, l1, l2⟩ := lot_draw B a2 hk2
      obtain ⟨y7', y8', g1⟩ := above_step B h l2 (.p z) y7 y8 y9 y10 y11 s2
      refine ⟨_, AE b n d0 d1 Ch (.p z) (.p (tupD lot)) y7' y8' y9 y10 y11, s2, rfl, ?_, ⟨_, _, _, _, _, _, _, rfl⟩, c4.mono (by omega)⟩
      refine ev_seq (ev_set (d := tupD lot) (ev_callE (ev_cons (ev_callE (ev_cons (ev_slice (ev_callFo (ev_cons (ev_var rfl) (ev_cons (ev_var rfl) ev_nil)) a1) ev_noO (ev_someO (ev_bin ev_c (ev_callF (ev_cons (ev_var rfl) (ev_cons ev_c ev_nil)) c1) (show addD (.int 1) (.int v) = some (.int k) by rw [← hk1]; rfl))) rfl) ev_nil) (d := .lst (lot.map D.int)) ?_) ev_nil) rfl)) g1
      rw [cut_to, ← List.map_take]
      rw [sortedAD_ints, l1])
  refine ⟨st', ?_, h3⟩
  exact ev_body (ev_seq (ev_set (ev_rangeLst hr)) (ev_seq (ev_for (items := rangeL 0 8) (ev_range1 ev_c (by omega)) h1) (ev_ret ev_c)))
end
end Y
end

section
set_option Elab.async false
set_option linter.all false
set_option autoImplicit false
set_option maxRecDepth 100000
namespace Y
open PySem PySem.Spec L2
open PyProof.Rows hiding St
section
variable {b : D} {n : Nat} {p q : Int → Int} {d0 d1 : D} {st : DS} {Ch : List Int}
def prs (Ch : List Int) : List (List Int) := (List.range (Ch.length - 1)).map fun i => srt2 (xx Ch i) (xx Ch (i + 1))
theorem PR_eq : PR Ch = (prs Ch).map tupD := by
  unfold prs
  rw [List.map_map]
  rfl
theorem prs_ok (B : BK b n p q d0 d1) (h : CH n p q Ch) : ∀ k ∈ prs Ch, k.length = 2 ∧ TS.Bd BB k := fun k hk => by
  obtain ⟨i, hi, rfl⟩ := List.mem_map.mp hk
  have hi := List.mem_range.mp hi
  refine ⟨by rw [srt2_eq]; split <;> rfl, Bd_cols B.t.n10 fun c hc => ?_⟩
  rcases srt2_mem.mp hc with rfl | rfl
  · exact h.inC i (by omega)
  · exact h.inC (i + 1) (by omega)
theorem prs_len : (prs Ch).length = Ch.length - 1 := by unfold prs; rw [List.length_map, List.length_range]
theorem prs_nodup (h : CH n p q Ch) : (prs Ch).Nodup := by
  unfold prs List.Nodup
  rw [List.pairwise_map]
  refine List.nodup_range.imp_of_mem fun {i j} hi hj ne e => ne ?_
  have hi := List.mem_range.mp hi
  have hj := List.mem_range.mp hj
  exact rm_inj h (by omega) (by omega) e
theorem prs_perm (B : BK b n p q d0 d1) (h : CH n p q Ch) : (prs Ch).Perm ((rooms n p q).map fun z => [z.1, z.2]) := by
  have hn : ((rooms n p q).map fun z => [z.1, z.2]).Nodup := by
    unfold List.Nodup
    rw [List.pairwise_map]
    refine ((lots2_sorted n B.t.n10).filter _).imp fun {y z} hlt e => ?_
    rw [e] at hlt
    exact absurd hlt (Int.lt_irrefl _)
  rw [List.perm_ext_iff_of_nodup (prs_nodup h) hn]
  intro k
  constructor
  · intro hk
    obtain ⟨i, hi, rfl⟩ := List.mem_map.mp hk
    have hi := List.mem_range.mp hi
    have ne := h.ne (i := i) (j := i + 1) (by omega) (by omega) (by omega)
    rw [List.mem_map, srt2_eq]
    by_cases hle : xx Ch i ≤ xx Ch (i + 1)
    · rw [if_pos hle]
      exact ⟨(xx Ch i, xx Ch (i + 1)), (mem_rooms B.t h).mpr ⟨h.inC i (by omega), h.inC _ (by omega), (by show xx Ch i < xx Ch (i + 1); omega), i, by omega, .inl ⟨rfl, rfl⟩⟩, rfl⟩
    · rw [if_neg hle]
      exact ⟨(xx Ch (i + 1), xx Ch i), (mem_rooms B.t h).mpr ⟨h.inC _ (by omega), h.inC i (by omega), (by show xx Ch (i + 1) < xx Ch i; omega), i, by omega, .inr ⟨rfl, rfl⟩⟩, rfl⟩
  · intro hk
    obtain ⟨z, hz, rfl⟩ := List.mem_map.mp hk
    obtain ⟨_, _, h3, i, hi, h4⟩ := (mem_rooms B.t h).mp hz
    refine List.mem_map.mpr ⟨i, List.mem_range.mpr (by omega), ?_⟩
    rw [srt2_eq]
    rcases h4 with ⟨e1, e2⟩ | ⟨e1, e2⟩
    · rw [← e1, ← e2, if_pos (by omega)]
    · rw [← e1, ← e2, if_neg (by omega)]
theorem rooms_sorted (B : BK b n p q d0 d1) : ((rooms n p q).map fun z => [z.1, z.2]).Pairwise CLe := by
  rw [List.pairwise_map]
  exact ((lots2_sorted n B.t.n10).filter _).imp fun {y z} hlt => Int.le_of_lt hlt
theorem sort_prs (B : BK b n p q d0 d1) (h : CH n p q Ch) : sortC (prs Ch) = (rooms n p q).map fun z => [z.1, z.2] :=
  sortC_uniq (d := 2) ((sortC_perm _).trans (prs_perm B h)) (sortC_sorted _) (rooms_sorted B) fun x hx => prs_ok B h x ((sortC_perm _).mem_iff.mp hx)
theorem rooms_cnt (B : BK b n p q d0 d1) (h : CH n p q Ch) : (rooms n p q).length = Ch.length - 1 := by
  have := (prs_perm B h).length_eq
  rw [prs_len, List.length_map] at this
  exact this.symm
theorem sorted_PR (B : BK b n p q d0 d1) (h : CH n p q Ch) : sortedAD [.lst (PR Ch)] = some (.lst ((rooms n p q).map e2)) := by
  have hL := ch_len B.t h
  rw [PR_eq, sortedAD_tups (d := 2) (by decide) (by rw [prs_len]; omega) (prs_ok B h), sort_prs B h, List.map_map]
  rfl
theorem flat_e2s (zs : List (Int × Int)) : (D.tup (zs.map e2)).flat 60 = true := by
  rw [flat_tup 59]
  exact flatL_all 59 _ fun x hx => by
    obtain ⟨z, _, rfl⟩ := List.mem_map.mp hx
    exact flat_tupD 58 _
theorem lf_of {α : Type} {o : Option α} {a : α} {st : DS} (h : o = some a) : M.lf o st = some (a, st) := by unfold M.lf; rw [h]
abbrev GG (b : D) (d0 d1 : D) (Ch : List Int) (y3 y4 y7 y8 y9 y10 y11 y12 y13 y14 : Var) : List Var := [.p .drw, .p b, .p (.lst (PR Ch)), y3, y4, .p (.lst (Ch.map D.int)), .p (.lst [d0, d1]), y7, y8, y9, y10, y11, y12, y13, y14]
theorem g_pairs (u2 u3 u4 u7 u8 u9 u10 u11 u12 u13 u14 : Var) (st : DS) : compE (zip2I (varE 5) (sliceE cutD (peekE 5) (someO (cE (.int 1))) noO)) (tupG (consG (nameG 13) (consG (nameG 14) nilG))) yesT (callE tupleD (consA (callE sortedAD (consA (lstE (consA (varE 13) (consA (varE 14) nilA))) nilA)) nilA)) [13, 14]
    [.p .drw, .p b, u2, u3, u4, .p (.lst (Ch.map D.int)), .p (.lst [d0, d1]), u7, u8, u9, u10, u11, u12, u13, u14] st = some (.lst (PR Ch), st) := by
  refine ev_compY' (enc := fun i : Nat => D.tup [.int (xx Ch i), .int (xx Ch (i + 1))]) (hh := rmD (xx Ch)) (xs := List.range (Ch.length - 1)) (ev_zip2 (ev_var rfl) (ev_slice (ev_peek rfl) (ev_someO ev_c) ev_noO rfl) rfl rfl) ?_ (fun i hi => ⟨_, rfl, ev_callE (ev_cons (ev_callE (ev_cons (ev_lst (ev_cons (ev_var rfl) (ev_cons (ev_var rfl) ev_nil))) ev_nil) rfl) ev_nil) rfl⟩)
  have := cut_from (Ch.map D.int) 1
  have e : cutL (Ch.map D.int) (some 1) none = (Ch.map D.int).drop 1 := this
  rw [e]
  exact zip_next (γ := Unit) D.int Ch
theorem g_tests (B : BK b n p q d0 d1) (h : CH n p q Ch) (y3 y4 y7 y8 y9 y10 y11 y12 y13 y14 : Var) (st : DS) :
    orT (testE (bin neD (bin (getAD true) (peekE 5) (cE (.int 0))) (cE (.int 0)))) (orT (testE (bin neD (bin (getAD true) (peekE 5) (un negD (cE (.int 1)))) (cE (.int 1)))) (orT (testE (bin neD (callF F_rooms_of (consA (varE 1) nilA)) (callE tupleD (consA (callE sortedAD (consA (peekE 2) nilA)) nilA)))) (testE (bin neD (compE (seqI (varE 5)) (nameG 4) yesT (bin (getAD true) (bin (getAD true) (peekE 6) (cE (.int 1))) (peekE 4)) [4]) (un revAD (callE sortedAD (consA (compE (seqI (varE 5)) (nameG 4) yesT (bin (getAD true) (bin (getAD true) (peekE 6) (cE (.int 1))) (peekE 4)) [4]) nilA)))))))
      (GG b d0 d1 Ch y3 y4 y7 y8 y9 y10 y11 y12 y13 y14) st = some (false, st) := by
  have hL := h.L2 B.t
  have e0 : (Ch.map D.int)[0]? = some (.int 0) := by rw [List.getElem?_map, xx_get (by omega), h.first B.t]; rfl
  have e1 : (Ch.map D.int)[(Ch.map D.int).length - 1]? = some (.int 1) := by rw [List.length_map, List.getElem?_map, xx_get (by omega), h.last B.t]; rfl
  have qs : compE (seqI (varE 5)) (nameG 4) yesT (bin (getAD true) (bin (getAD true) (peekE 6) (cE (.int 1))) (peekE 4)) [4] (GG b d0 d1 Ch y3 y4 y7 y8 y9 y10 y11 y12 y13 y14) st = some (.lst ((Ch.map q).map D.int), st) := by
    rw [List.map_map]
    exact ev_compY (enc := D.int) (xs := Ch) (hh := fun c => D.int (q c)) (ev_seqI (ev_var rfl) rfl) (fun c hc => ⟨_, rfl, ev_bin (ev_bin (ev_peek rfl) ev_c rfl) (ev_peek rfl) (B.g1 c (ch_cols h hc))⟩)
  have hq : (sortI (Ch.map q)).reverse = Ch.map q := by
    have hp : ((Ch.map q).reverse).Pairwise (· ≤ ·) := by
      rw [List.pairwise_reverse, List.pairwise_map, List.pairwise_iff_getElem]
      intro i j hi hj hij
      have := h.dn B.t i j hij hj
      have e1 := xx_get hi
      have e2 := xx_get hj
      rw [List.getElem?_eq_getElem hi] at e1
      rw [List.getElem?_eq_getElem hj] at e2
      rw [Option.some.inj e1, Option.some.inj e2]
      omega
    rw [← sortI_eq (List.reverse_perm _) hp, List.reverse_reverse]
  refine ev_orT0 (ev_test (ev_bin (ev_bin (ev_peek rfl) ev_c (getAD_lst (i := 0) e0)) ev_c (neD_self (flat_int 60 0)))) (ev_orT0 (ev_test (ev_bin (ev_bin (ev_peek rfl) (ev_un ev_c rfl) (getAD_last e1)) ev_c (neD_self (flat_int 60 1)))) (ev_orT0 (ev_test (ev_bin (ev_callF (ev_cons (ev_var rfl) ev_nil) (p_rooms_of B st)) (ev_callE (ev_cons (ev_callE (ev_cons (ev_peek rfl) ev_nil) (sorted_PR B h)) ev_nil) rfl) (neD_self (flat_e2s _)))) (ev_test (ev_bin qs (ev_un (ev_callE (ev_cons qs ev_nil) (sortedAD_ints _)) (d := .lst ((Ch.map q).map D.int)) ?_) (neD_self ?_)))))
  · show some (D.lst (((sortI (Ch.map q)).map D.int).reverse)) = _
    rw [← List.map_reverse, hq]
  · rw [flat_lst 59]; exact flatL_int 59 _
theorem g_faces (B : BK b n p q d0 d1) (h : CH n p q Ch) (hb : Ch.Perm (bestL n p q)) (y3 y4 y7 y8 y9 y10 y11 y12 y13 y14 : Var) (st : DS) :
    testE (bin neD (callF F_face_counts (consA (varE 1) nilA)) (tupE 2 (consA (callE lenD (consA (peekE 5) nilA)) (consA (callE lenD (consA (peekE 2) nilA)) nilA)))) (GG b d0 d1 Ch y3 y4 y7 y8 y9 y10 y11 y12 y13 y14) st = some (false, st) := by
  have l1 : lenD [.lst (Ch.map D.int)] = some (.int (((cols n).filter (no1 n p q)).length : Int)) := by
    show some (D.int ((Ch.map D.int).length : Nat)) = _
    rw [List.length_map, hb.length_eq]; rfl
  have l2 : lenD [.lst (PR Ch)] = some (.int ((rooms n p q).length : Int)) := by
    show some (D.int ((PR Ch).length : Nat)) = _
    rw [rooms_cnt B h]
    show some (D.int ((List.map _ _).length : Nat)) = _
    rw [List.length_map, List.length_range]
  exact ev_test (ev_bin (ev_callF (ev_cons (ev_var rfl) ev_nil) (p_face_counts B st)) (ev_tup (ev_cons (ev_callE (ev_cons (ev_peek rfl) ev_nil) l1) (ev_cons (ev_callE (ev_cons (ev_peek rfl) ev_nil) l2) ev_nil))) (neD_self (flat_tupD 59 _)))
def homesF : SSem := ifS (orT (testE (bin neD (callF F_homes_of (consA (varE 1) (consA (varE 7) nilA))) (tupE 2 (consA (varE 11) (consA (varE 12) nilA))))) (testE (bin isNotD (callF F_is_room (consA (varE 1) (consA (varE 7) nilA))) (cE (.bl true))))) (retS (cE (.bl false))) nilS
theorem zip_zip (Ch : List Int) : zip2L (zip2L (Ch.map D.int) (cutL (Ch.map D.int) (some 1) none)) (PR Ch) = (List.range (Ch.length - 1)).map fun i => .tup [.tup [.int (xx Ch i), .int (xx Ch (i + 1))], rmD (xx Ch) i] := by
  have e : cutL (Ch.map D.int) (some 1) none = (Ch.map D.int).drop 1 := cut_from (Ch.map D.int) 1
  rw [e, zip_next (γ := Unit)]
  show zip2L (List.map _ (List.range (Ch.length - 1))) (List.map _ (List.range (Ch.length - 1))) = _
  induction List.range (Ch.length - 1) with
  | nil => rfl
  | cons i r ih =>
    rw [List.map_cons, List.map_cons, List.map_cons, ← ih]
    rfl
theorem g_homes (B : BK b n p q d0 d1) (h : CH n p q Ch) (y3 y4 y7 y8 y9 y10 y11 y12 y13 y14 : Var) (st : DS) :
    ∃ z7 z11 z12, forS (zipZI (varE 5) (sliceE cutD (peekE 5) (someO (cE (.int 1))) noO) (varE 2)) (tupG (consG (tupG (consG (nameG 11) (consG (nameG 12) nilG))) (consG (nameG 7) nilG))) homesF (GG b d0 d1 Ch y3 y4 y7 y8 y9 y10 y11 y12 y13 y14) st
      = some ((.nx, GG b d0 d1 Ch y3 y4 z7 y8 y9 y10 z11 z12 y13 y14), st) := by
  obtain ⟨env', hgo, z7, z11, z12, rfl⟩ := forGo_pre (g := tupG (consG (tupG (consG (nameG 11) (consG (nameG 12) nilG))) (consG (nameG 7) nilG))) (F := homesF) (fun i : Nat => D.tup [.tup [.int (xx Ch i), .int (xx Ch (i + 1))], rmD (xx Ch) i])
    (fun _ env => ∃ z7 z11 z12, env = GG b d0 d1 Ch y3 y4 z7 y8 y9 y10 z11 z12 y13 y14) st (List.range (Ch.length - 1)) (List.range (Ch.length - 1)) [] _ rfl ⟨y7, y11, y12, rfl⟩ (fun done i rest env hall hI => by
      obtain ⟨z7, z11, z12, rfl⟩ := hI
      have hi : i + 1 < Ch.length := by
        have : i ∈ List.range (Ch.length - 1) := by rw [hall]; simp
        have := List.mem_range.mp this
        omega
      refine ⟨_, GG b d0 d1 Ch y3 y4 (.p (rmD (xx Ch) i)) y8 y9 y10 (.p (.int (xx Ch i))) (.p (.int (xx Ch (i + 1)))) y13 y14, rfl, ?_, _, _, _, rfl⟩
      obtain ⟨a, c, e, ha, hr, _, hac⟩ := rm_asc B h hi
      have hup := h.up i (i + 1) (by omega) hi
      have hdn := h.dn B.t i (i + 1) (by omega) hi
      have hho : F_homes_of [b, rmD (xx Ch) i] st = some (.p (tupD [xx Ch i, xx Ch (i + 1)]), st) := by
        rw [e, p_homes_of B ha hr st]
        rcases hac with ⟨rfl, rfl⟩ | ⟨rfl, rfl⟩
        · rw [if_pos hup, if_neg (by omega)]
        · rw [if_neg (by omega), if_pos hdn]
      have hir : F_is_room [b, rmD (xx Ch) i] st = some (.p (.bl true), st) := by
        rw [e, p_is_room B ha st, hr]
      exact ev_ifF' (bb := false) (ev_orT0 (ev_test (ev_bin (ev_callF (ev_cons (ev_var rfl) (ev_cons (ev_var rfl) ev_nil)) hho) (ev_tup (ev_cons (ev_var rfl) (ev_cons (ev_var rfl) ev_nil))) (neD_self (flat_tupD 59 _)))) (ev_test (ev_bin (ev_callF (ev_cons (ev_var rfl) (ev_cons (ev_var rfl) ev_nil)) hir) ev_c rfl))) rfl ev_nilS)
  refine ⟨z7, z11, z12, ev_for (items := (List.range (Ch.length - 1)).map fun i => .tup [.tup [.int (xx Ch i), .int (xx Ch (i + 1))], rmD (xx Ch) i]) ?_ hgo⟩
  rw [← zip_zip]
  exact ev_bd (ev_var rfl) (ev_bd (ev_slice (ev_peek rfl) (ev_someO ev_c) ev_noO rfl) (ev_bd (ev_var rfl) rfl))
/-- the law's own walls -/
def wallL (n : Nat) (p q : Int → Int) (c : Int) : D := .tup (((rooms n p q).filter fun z => decide (c ∈ [z.1, z.2])).map e2)
theorem wall_eq (B : BK b n p q d0 d1) (h : CH n p q Ch) (c : Int) : sortedAD [.lst (((prs Ch).filter fun k => decide (c ∈ k)).map tupD)] = some (.lst (((rooms n p q).filter fun z => decide (c ∈ [z.1, z.2])).map e2)) := by
  have hL := ch_len B.t h
  have hfl : ((prs Ch).filter fun k => decide (c ∈ k)).length ≤ (prs Ch).length := List.length_filter_le ..
  rw [prs_len] at hfl
  have hok : ∀ k ∈ (prs Ch).filter (fun k => decide (c ∈ k)), k.length = 2 ∧ TS.Bd BB k := fun k hk => prs_ok B h k (List.mem_filter.mp hk).1
  rw [sortedAD_tups (d := 2) (by decide) (by omega) hok]
  have hp : ((prs Ch).filter fun k => decide (c ∈ k)).Perm (((rooms n p q).map fun z => [z.1, z.2]).filter fun k => decide (c ∈ k)) := (prs_perm B h).filter _
  have e : sortC ((prs Ch).filter fun k => decide (c ∈ k)) = ((rooms n p q).map fun z => [z.1, z.2]).filter fun k => decide (c ∈ k) :=
    sortC_uniq (d := 2) ((sortC_perm _).trans hp) (sortC_sorted _) ((rooms_sorted B).filter _) fun x hx => hok x ((sortC_perm _).mem_iff.mp hx)
  rw [e, List.filter_map, List.map_map]
  rfl
theorem g_walls (B : BK b n p q d0 d1) (h : CH n p q Ch) (y4 y7 y8 y9 y10 y11 y12 y13 y14 : Var) (st : DS) :
    ∃ z4 z7, forS (seqI (varE 5)) (nameG 4) (dputS true 3 (tupE 1 (consA (varE 4) nilA)) (callE tupleD (consA (callE sortedAD (consA (compE (seqI (varE 2)) (nameG 7) (testE (bin (inAD true) (peekE 4) (peekE 7))) (varE 7) [7]) nilA)) nilA))) (GG b d0 d1 Ch (.o (.dic true [])) y4 y7 y8 y9 y10 y11 y12 y13 y14) st
      = some ((.nx, GG b d0 d1 Ch (.o (.dic true (Ch.map fun c => (tupD [c], wallL n p q c)))) z4 z7 y8 y9 y10 y11 y12 y13 y14), st) := by
  have hL := ch_len B.t h
  have hnd := ch_nodup h
  obtain ⟨env', hgo, z4, z7, rfl⟩ := forGo_pre (g := nameG 4) (F := dputS true 3 (tupE 1 (consA (varE 4) nilA)) (callE tupleD (consA (callE sortedAD (consA (compE (seqI (varE 2)) (nameG 7) (testE (bin (inAD true) (peekE 4) (peekE 7))) (varE 7) [7]) nilA)) nilA))) D.int
    (fun done env => ∃ z4 z7, env = GG b d0 d1 Ch (.o (.dic true (done.map fun c => (tupD [c], wallL n p q c)))) z4 z7 y8 y9 y10 y11 y12 y13 y14) st Ch Ch [] _ rfl ⟨y4, y7, rfl⟩ (fun done c rest env hall hI => by
      obtain ⟨z4, z7, rfl⟩ := hI
      have hdl : done.length ≤ 10 := by rw [hall, List.length_append] at hL; omega
      have hnew : ∀ z ∈ done, ([z] : List Int) ≠ [c] := fun z hz e => by
        rw [hall, List.nodup_append] at hnd
        exact hnd.2.2 z hz c List.mem_cons_self (by simpa using e)
      have hdp := dput_new done (fun c => [c]) (wallL n p q) (k := [c]) (wallL n p q c) hnew
      have inner : compE (seqI (varE 2)) (nameG 7) (testE (bin (inAD true) (peekE 4) (peekE 7))) (varE 7) [7] (GG b d0 d1 Ch (.o (.dic true (done.map fun c => (tupD [c], wallL n p q c)))) (.p (.int c)) z7 y8 y9 y10 y11 y12 y13 y14) st = some (.lst (((prs Ch).filter fun k => decide (c ∈ k)).map tupD), st) :=
        ev_compP (enc := tupD) (xs := prs Ch) (p := fun k => decide (c ∈ k)) (hh := tupD) (ev_seqI (ev_var rfl) (by rw [PR_eq]; rfl)) (fun k hk => ⟨_, rfl, ev_test (ev_bin (ev_peek rfl) (ev_peek rfl) (inAD_tupD true c k)), fun _ => ev_var rfl⟩)
      refine ⟨_, GG b d0 d1 Ch (.o (.dic true ((done ++ [c]).map fun c => (tupD [c], wallL n p q c)))) (.p (.int c)) z7 y8 y9 y10 y11 y12 y13 y14, rfl, ?_, _, _, rfl⟩
      refine ev_bd (a := wallL n p q c) (ev_callE (ev_cons (ev_callE (ev_cons inner ev_nil) (wall_eq B h c)) ev_nil) rfl) (ev_bd (a := tupD [c]) (ev_tup (ev_cons (ev_var rfl) ev_nil)) (ev_bd (s1 := st) (a := GG b d0 d1 Ch (.o (.dic true ((done ++ [c]).map fun c => (tupD [c], wallL n p q c)))) (.p (.int c)) z7 y8 y9 y10 y11 y12 y13 y14) ?_ rfl))
      have : putV true (GG b d0 d1 Ch (.o (.dic true (done.map fun c => (tupD [c], wallL n p q c)))) (.p (.int c)) z7 y8 y9 y10 y11 y12 y13 y14) 3 (tupD [c]) (wallL n p q c) = some (GG b d0 d1 Ch (.o (.dic true ((done ++ [c]).map fun c => (tupD [c], wallL n p q c)))) (.p (.int c)) z7 y8 y9 y10 y11 y12 y13 y14) := by
        show (if true = true ∧ (done.map fun c => (tupD [c], wallL n p q c)).length ≤ 1000000 then (dput true (done.map fun c => (tupD [c], wallL n p q c)) (tupD [c]) _).map _ else none) = _
        rw [if_pos ⟨rfl, by rw [List.length_map]; omega⟩, hdp, List.map_append]
        rfl
      exact lf_of this)
  exact ⟨z4, z7, ev_for (ev_seqI (ev_var rfl) rfl) hgo⟩
theorem g_walls2 (B : BK b n p q d0 d1) (h : CH n p q Ch) (y4 y7 y8 y9 y10 y11 y12 y13 y14 : Var) (st : DS) :
    orT (testE (bin neDT (callF F_walls_of (consA (varE 1) nilA)) (peekE 3))) (testE (bin neD (callE listAD (consA (callF F_walls_of (consA (varE 1) nilA)) nilA)) (callE sortedAD (consA (peekE 3) nilA))))
      (GG b d0 d1 Ch (.o (.dic true (Ch.map fun c => (tupD [c], wallL n p q c)))) y4 y7 y8 y9 y10 y11 y12 y13 y14) st = some (false, st) := by
  obtain ⟨sp, snd, sm⟩ := SK_spec B.t h
  have hL := ch_len B.t h
  have hne : neDT (.dic true ((SK Ch).map fun k => (tupD k, wv n p q k))) (.dic true (Ch.map fun c => (tupD [c], wallL n p q c))) = some (.bl false) := by
    show (if _ ∧ _ then some (D.bl false) else none) = _
    rw [if_pos]
    refine ⟨?_, ?_⟩
    · have := sp.length_eq
      rw [List.length_map] at this
      rw [List.length_map, List.length_map, this]
    · rw [List.all_eq_true]
      intro z hz
      obtain ⟨k, hk, rfl⟩ := List.mem_map.mp hz
      obtain ⟨c, hc, rfl⟩ := sm k hk
      have hf : (Ch.find? fun y => decide ([y] = [c])) = some c := find_uniq hc (by simp) (fun y _ e => by simpa using e)
      have hg := dget_map Ch (fun c => [c]) (wallL n p q) [c]
      rw [hf] at hg
      show (match dget true (Ch.map fun c => (tupD [c], wallL n p q c)) (tupD [c]) with
        | some (some v) => (wv n p q [c]).flat 60 && v.flat 60 && PyData.eqv (wv n p q [c]).py v.py
        | _ => false) = true
      rw [hg]
      have e : wv n p q [c] = wallL n p q c := by
        unfold wv wallL
        congr 3
        funext z
        by_cases h1 : c = z.1 <;> by_cases h2 : c = z.2 <;> simp [h1, h2]
      have fl : (wallL n p q c).flat 60 = true := flat_e2s _
      show ((wv n p q [c]).flat 60 && (wallL n p q c).flat 60 && PyData.eqv (wv n p q [c]).py (wallL n p q c).py) = true
      rw [e, fl, eqv_self fl]
      rfl
  have hso : sortedAD [.dic true (Ch.map fun c => (tupD [c], wallL n p q c))] = some (.lst ((SK Ch).map tupD)) :=
    sortedAD_dicT (d := 1) (nss := Ch.map fun c => [c]) (by rw [List.map_map, List.map_map]; rfl) (Nat.le_refl 1) (by rw [List.length_map]; omega) (fun k hk => by
      obtain ⟨c, hc, rfl⟩ := List.mem_map.mp hk
      exact ⟨rfl, Bd_cols B.t.n10 fun e he => by simp only [List.mem_cons, List.not_mem_nil, or_false] at he; rw [he]; exact ch_cols h hc⟩)
  have hw := p_walls_of B h st
  refine ev_orT0 (ev_test (ev_bin (ev_callF (ev_cons (ev_var rfl) ev_nil) hw) (ev_peekO rfl) hne)) (ev_test (ev_bin (x := .lst ((SK Ch).map tupD)) (ev_callE (ev_cons (ev_callF (ev_cons (ev_var rfl) ev_nil) hw) ev_nil) ?_) (ev_callE (ev_cons (ev_peekO rfl) ev_nil) hso) (neD_self ?_)))
  · show some (D.lst (((SK Ch).map fun k => (tupD k, wv n p q k)).map (·.1))) = _
    rw [List.map_map]
    rfl
  · rw [flat_lst 59]
    exact flatL_all 59 _ fun x hx => by
      obtain ⟨k, _, rfl⟩ := List.mem_map.mp hx
      exact flat_tupD 58 _
end
end Y
end

section
set_option Elab.async false
set_option linter.all false
set_option autoImplicit false
set_option maxRecDepth 100000
namespace Y
open PySem PySem.Spec L2
open PyProof.Rows hiding St
section
variable {b : D} {n : Nat} {p q : Int → Int} {d0 d1 : D} {st : DS} {Ch : List Int}
theorem enumL_map {α : Type} (f : α → D) : ∀ (xs : List α) (k : Nat), enumL k (xs.map f) = (xs.zipIdx k).map fun z => .tup [.int (z.2 : Nat), f z.1]
  | [], _ => rfl
  | x :: xs, k => by
    rw [List.map_cons, enumL, enumL_map f xs (k + 1), List.zipIdx_cons, List.map_cons]
theorem range_zipIdx (n : Nat) : (List.range n).zipIdx 0 = (List.range n).map fun i => (i, i) := by
  apply List.ext_getElem?
  intro i
  rw [List.getElem?_zipIdx, List.getElem?_map]
  by_cases h : i < n
  · rw [List.getElem?_range h]; simp
  · rw [List.getElem?_eq_none (by simp; omega)]; rfl
theorem flat_rmO {x : Nat → Int} (o : Option Nat) : (rmO x o).flat 60 = true := by
  cases o with
  | none => simp [rmO, D.flat]
  | some i => exact flat_tupD 59 _
def beyF : SSem := (seqS (parS [11, 12] [(false, (bin (getAD true) (peekE 5) (peekE 8))), (false, (bin (getAD true) (peekE 5) (bin addD (peekE 8) (cE (.int 1)))))]) (seqS (setS 9 (iteE (testE (bin ltD (bin addD (peekE 8) (cE (.int 1))) (callE lenD (consA (peekE 2) nilA)))) (bin (getAD true) (peekE 2) (bin addD (peekE 8) (cE (.int 1)))) (cE .non))) (seqS (setS 10 (iteE (testE (bin gtD (peekE 8) (cE (.int 0)))) (bin (getAD true) (peekE 2) (bin subD (peekE 8) (cE (.int 1)))) (cE .non))) (ifS (orT (testE (bin neD (callF F_room_beyond (consA (varE 1) (consA (varE 7) (consA (varE 11) nilA)))) (peekE 9))) (testE (bin neD (callF F_room_beyond (consA (varE 1) (consA (varE 7) (consA (varE 12) nilA)))) (peekE 10)))) (retS (cE (.bl false))) nilS))))
theorem g_beyond (B : BK b n p q d0 d1) (h : CH n p q Ch) (y3 y4 y7 y8 y9 y10 y11 y12 y13 y14 : Var) (st : DS) :
    ∃ z7 z8 z9 z10 z11 z12, forS (enumI (varE 2)) (tupG (consG (nameG 8) (consG (nameG 7) nilG))) beyF (GG b d0 d1 Ch y3 y4 y7 y8 y9 y10 y11 y12 y13 y14) st
      = some ((.nx, GG b d0 d1 Ch y3 y4 z7 z8 z9 z10 z11 z12 y13 y14), st) := by
  have hpl : (PR Ch).length = Ch.length - 1 := by show (List.map _ _).length = _; rw [List.length_map, List.length_range]
  have hlen : lenD [.lst (PR Ch)] = some (.int ((Ch.length - 1 : Nat) : Int)) := by
    show some (D.int ((PR Ch).length : Nat)) = _
    rw [hpl]
  obtain ⟨env', hgo, z7, z8, z9, z10, z11, z12, rfl⟩ := forGo_pre (g := tupG (consG (nameG 8) (consG (nameG 7) nilG))) (F := beyF) (fun i : Nat => D.tup [.int (i : Int), rmD (xx Ch) i])
    (fun _ env => ∃ z7 z8 z9 z10 z11 z12, env = GG b d0 d1 Ch y3 y4 z7 z8 z9 z10 z11 z12 y13 y14) st (List.range (Ch.length - 1)) (List.range (Ch.length - 1)) [] _ rfl ⟨y7, y8, y9, y10, y11, y12, rfl⟩ (fun done i rest env hall hI => by
      obtain ⟨z7, z8, z9, z10, z11, z12, rfl⟩ := hI
      have hi : i + 1 < Ch.length := by
        have : i ∈ List.range (Ch.length - 1) := by rw [hall]; simp
        have := List.mem_range.mp this
        omega
      have c0 : (Ch.map D.int)[i]? = some (.int (xx Ch i)) := by rw [List.getElem?_map, xx_get (by omega)]; rfl
      have c1 : (Ch.map D.int)[i + 1]? = some (.int (xx Ch (i + 1))) := by rw [List.getElem?_map, xx_get (by omega)]; rfl
      refine ⟨_, GG b d0 d1 Ch y3 y4 (.p (rmD (xx Ch) i)) (.p (.int (i : Int))) (.p (rmO (xx Ch) (upR Ch.length i))) (.p (rmO (xx Ch) (dnR i))) (.p (.int (xx Ch i))) (.p (.int (xx Ch (i + 1)))) y13 y14, rfl, ?_, _, _, _, _, _, _, rfl⟩
      have s1 : parS [11, 12] [(false, (bin (getAD true) (peekE 5) (peekE 8))), (false, (bin (getAD true) (peekE 5) (bin addD (peekE 8) (cE (.int 1)))))] (GG b d0 d1 Ch y3 y4 (.p (rmD (xx Ch) i)) (.p (.int (i : Int))) z9 z10 z11 z12 y13 y14) st
          = some ((.nx, GG b d0 d1 Ch y3 y4 (.p (rmD (xx Ch) i)) (.p (.int (i : Int))) z9 z10 (.p (.int (xx Ch i))) (.p (.int (xx Ch (i + 1)))) y13 y14), st) :=
        ev_par (ev_ccons (ev_bin (ev_peek rfl) (ev_peek rfl) (getAD_lst c0)) (ev_ccons (ev_bin (ev_peek rfl) (ev_bin (ev_peek rfl) ev_c rfl) (getAD_lst (i := i + 1) c1)) ev_cnil))
      have s2 : setS 9 (iteE (testE (bin ltD (bin addD (peekE 8) (cE (.int 1))) (callE lenD (consA (peekE 2) nilA)))) (bin (getAD true) (peekE 2) (bin addD (peekE 8) (cE (.int 1)))) (cE .non)) (GG b d0 d1 Ch y3 y4 (.p (rmD (xx Ch) i)) (.p (.int (i : Int))) z9 z10 (.p (.int (xx Ch i))) (.p (.int (xx Ch (i + 1)))) y13 y14) st
          = some ((.nx, GG b d0 d1 Ch y3 y4 (.p (rmD (xx Ch) i)) (.p (.int (i : Int))) (.p (rmO (xx Ch) (upR Ch.length i))) z10 (.p (.int (xx Ch i))) (.p (.int (xx Ch (i + 1)))) y13 y14), st) := by
        have t : testE (bin ltD (bin addD (peekE 8) (cE (.int 1))) (callE lenD (consA (peekE 2) nilA))) (GG b d0 d1 Ch y3 y4 (.p (rmD (xx Ch) i)) (.p (.int (i : Int))) z9 z10 (.p (.int (xx Ch i))) (.p (.int (xx Ch (i + 1)))) y13 y14) st = some (decide ((i : Int) + 1 < ((Ch.length - 1 : Nat) : Int)), st) :=
          ev_test (ev_bin (ev_bin (ev_peek rfl) ev_c rfl) (ev_callE (ev_cons (ev_peek rfl) ev_nil) hlen) rfl)
        refine ev_set (d := rmO (xx Ch) (upR Ch.length i)) ?_
        unfold upR
        by_cases hu : i + 2 < Ch.length
        · rw [decide_eq_true (by omega)] at t
          rw [if_pos hu]
          exact ev_iteT t (ev_bin (ev_peek rfl) (ev_bin (ev_peek rfl) ev_c rfl) (getAD_lst (i := i + 1) (PR_get hu)))
        · rw [decide_eq_false (by omega)] at t
          rw [if_neg hu]
          exact ev_iteF t ev_c
      have s3 : setS 10 (iteE (testE (bin gtD (peekE 8) (cE (.int 0)))) (bin (getAD true) (peekE 2) (bin subD (peekE 8) (cE (.int 1)))) (cE .non)) (GG b d0 d1 Ch y3 y4 (.p (rmD (xx Ch) i)) (.p (.int (i : Int))) (.p (rmO (xx Ch) (upR Ch.length i))) z10 (.p (.int (xx Ch i))) (.p (.int (xx Ch (i + 1)))) y13 y14) st
          = some ((.nx, GG b d0 d1 Ch y3 y4 (.p (rmD (xx Ch) i)) (.p (.int (i : Int))) (.p (rmO (xx Ch) (upR Ch.length i))) (.p (rmO (xx Ch) (dnR i))) (.p (.int (xx Ch i))) (.p (.int (xx Ch (i + 1)))) y13 y14), st) := by
        have t : testE (bin gtD (peekE 8) (cE (.int 0))) (GG b d0 d1 Ch y3 y4 (.p (rmD (xx Ch) i)) (.p (.int (i : Int))) (.p (rmO (xx Ch) (upR Ch.length i))) z10 (.p (.int (xx Ch i))) (.p (.int (xx Ch (i + 1)))) y13 y14) st = some (decide ((0 : Int) < (i : Int)), st) :=
          ev_test (ev_bin (ev_peek rfl) ev_c rfl)
        refine ev_set (d := rmO (xx Ch) (dnR i)) ?_
        unfold dnR
        by_cases hu : 0 < i
        · rw [decide_eq_true (by omega)] at t
          rw [if_pos hu]
          refine ev_iteT t (ev_bin (ev_peek rfl) (ev_bin (ev_peek rfl) ev_c (d := .int ((i - 1 : Nat) : Int)) ?_) (getAD_lst (PR_get (by omega))))
          show some (D.int ((i : Int) - 1)) = _
          rw [Int.natCast_sub hu]
          rfl
        · rw [decide_eq_false (by omega)] at t
          rw [if_neg hu]
          exact ev_iteF t ev_c
      exact ev_seq s1 (ev_seq s2 (ev_seq s3 (ev_ifF' (bb := false) (ev_orT0 (ev_test (ev_bin (ev_callF (ev_cons (ev_var rfl) (ev_cons (ev_var rfl) (ev_cons (ev_var rfl) ev_nil))) (p_beyond B h hi (.inl rfl) (p_lo B h hi) st)) (ev_peek rfl) (neD_self (flat_rmO _))))
        (ev_test (ev_bin (ev_callF (ev_cons (ev_var rfl) (ev_cons (ev_var rfl) (ev_cons (ev_var rfl) ev_nil))) (p_beyond B h hi (.inr rfl) (p_hi B h hi) st)) (ev_peek rfl) (neD_self (flat_rmO _))))) rfl ev_nilS))))
  refine ⟨z7, z8, z9, z10, z11, z12, ev_for (items := (List.range (Ch.length - 1)).map fun (i : Nat) => D.tup [.int (i : Int), rmD (xx Ch) i]) ?_ hgo⟩
  have := ev_enumI (ev_var (i := 2) (env := GG b d0 d1 Ch y3 y4 y7 y8 y9 y10 y11 y12 y13 y14) (st := st) rfl) (xs := PR Ch) rfl
  have e : enumL 0 (PR Ch) = (List.range (Ch.length - 1)).map fun (i : Nat) => D.tup [.int (i : Int), rmD (xx Ch) i] := by
    show enumL 0 (List.map _ _) = _
    rw [enumL_map, range_zipIdx, List.map_map]
    rfl
  rw [e] at this
  exact this
theorem p_goes (B : BK b n p q d0 d1) {m : Nat} (hs : StOk m st) (hm : m + 90 ≤ 900000) : ∃ st', F__law_goes [.drw, b] st = some (.p (.bl true), st') ∧ StOk (m + 90) st' := by
  have h := chL_ok B.t
  have hb := chL_perm n p q
  generalize hCh : chL n p q = Ch at h hb
  have hc := p_chain B st
  rw [hCh] at hc
  obtain ⟨a7, a11, a12, g5⟩ := g_homes B h .u .u .u .u .u .u .u .u .u .u st
  obtain ⟨c4, c7, g7⟩ := g_walls B h .u a7 .u .u .u a11 a12 .u .u st
  obtain ⟨e7, e8, e9, e10, e11, e12, g9⟩ := g_beyond B h (.o (.dic true (Ch.map fun c => (tupD [c], wallL n p q c)))) c4 c7 .u .u .u a11 a12 .u .u st
  obtain ⟨s1, w1, w2⟩ := p_ways_go B h hs (by omega)
  obtain ⟨s2, v1, v2⟩ := p_above_goes B h w2 (by omega)
  refine ⟨s2, ?_, v2⟩
  have r1 : parS [5, 6] [(false, (callF F__law_ln_chain (consA (varE 1) nilA))), (false, (callF F__law_tastes (consA (varE 1) nilA)))] (startE N__law_goes [.drw, b]) st = some ((.nx, [.p .drw, .p b, .u, .u, .u, .p (.lst (Ch.map D.int)), .p (.lst [d0, d1]), .u, .u, .u, .u, .u, .u, .u, .u]), st) :=
    ev_par (ev_ccons (ev_callF (ev_cons (ev_var rfl) ev_nil) hc) (ev_ccons (ev_callF (ev_cons (ev_var rfl) ev_nil) (B.ltas st)) ev_cnil))
  exact ev_body (ev_seq r1 (ev_seq (ev_set (g_pairs _ _ _ _ _ _ _ _ _ _ _ st)) (ev_seq (env1 := GG b d0 d1 Ch .u .u .u .u .u .u .u .u .u .u) (s1 := st) (ev_ifF' (g_tests B h _ _ _ _ _ _ _ _ _ _ st) rfl ev_nilS) (ev_seq (env1 := GG b d0 d1 Ch .u .u .u .u .u .u .u .u .u .u) (s1 := st) (ev_ifF' (g_faces B h hb _ _ _ _ _ _ _ _ _ _ st) rfl ev_nilS)
    (ev_seq g5 (ev_seq (env1 := GG b d0 d1 Ch (.o (.dic true [])) .u a7 .u .u .u a11 a12 .u .u) (s1 := st) (ev_setO rfl) (ev_seq g7 (ev_seq (s1 := st) (ev_ifF' (g_walls2 B h _ _ _ _ _ _ _ _ _ st) rfl ev_nilS) (ev_seq g9 (ev_ret (ev_and1 (ev_callF (ev_cons (ev_var rfl) (ev_cons (ev_var rfl) (ev_cons (ev_var rfl) (ev_cons (ev_var rfl) ev_nil)))) w1) (ev_callF (ev_cons (ev_var rfl) (ev_cons (ev_var rfl) (ev_cons (ev_var rfl) (ev_cons (ev_var rfl) ev_nil)))) v1))))))))))))
end
end Y
end

section
set_option Elab.async false
set_option linter.all false
set_option autoImplicit false
set_option maxRecDepth 100000
namespace Y
open PySem PySem.Spec L2
open PyProof.Rows hiding St
/-! ### dicts whose keys are ints -/
theorem keyI (n : Int) : keyOf false (.int n) = some (.k (.inl n)) := rfl
theorem keyI_eq (a c : Int) : decide (keyOf false (.int a) = some (Ky.k (.inl c))) = decide (a = c) := by
  rw [keyI]
  by_cases h : a = c
  · subst h; simp
  · rw [decide_eq_false h, decide_eq_false]
    intro e
    injection e with e
    injection e with e
    exact h (Sum.inl.inj e)
section
variable {α : Type} (W : List α) (kf : α → Int) (v : α → D)
theorem dget_mapI (k : Int) : dget false (W.map fun z => (D.int (kf z), v z)) (.int k) = some ((W.find? fun z => decide (kf z = k)).map v) := by
  unfold dget
  rw [keyI]
  show some (((W.map fun z => (D.int (kf z), v z)).find? fun p => decide (keyOf false p.1 = some (Ky.k (.inl k)))).map (·.2)) = _
  rw [List.find?_map, Option.map_map]
  have : ((fun p : D × D => decide (keyOf false p.1 = some (Ky.k (.inl k)))) ∘ fun z => (D.int (kf z), v z)) = fun z => decide (kf z = k) := by
    funext z
    exact keyI_eq _ _
  rw [this]
  rfl
theorem dput_newI {k : Int} (d : D) (h : ∀ z ∈ W, kf z ≠ k) : dput false (W.map fun z => (D.int (kf z), v z)) (.int k) d = some ((W.map fun z => (D.int (kf z), v z)) ++ [(.int k, d)]) := by
  unfold dput
  rw [keyI]
  show some (if ((W.map fun z => (D.int (kf z), v z)).any fun p => decide (keyOf false p.1 = some (Ky.k (.inl k)))) = true then _ else _) = _
  rw [if_neg]
  rw [List.any_map, List.any_eq_true]
  rintro ⟨z, hz, e⟩
  have e : decide (keyOf false (.int (kf z)) = some (Ky.k (.inl k))) = true := e
  rw [keyI_eq] at e
  exact h z hz (of_decide_eq_true e)
end
theorem dcGo_newI {α : Type} {g : GSem} {fk fv : ESem} {env0 : List Var} {st : DS} (enc : α → D) (kf : α → Int) (v : α → D) : ∀ (xs acc : List α), ((acc ++ xs).map kf).Nodup →
    (∀ x ∈ xs, ∃ env1, g (enc x) env0 = some env1 ∧ fk env1 st = some (.int (kf x), st) ∧ fv env1 st = some (v x, st)) →
    dcGo false g yesT fk fv env0 (xs.map enc) (acc.map fun z => (D.int (kf z), v z)) st = some ((acc ++ xs).map fun z => (D.int (kf z), v z), st)
  | [], acc, _, _ => by rw [List.append_nil]; rfl
  | x :: xs, acc, hn, hx => by
    obtain ⟨env1, h1, h2, h3⟩ := hx x List.mem_cons_self
    have ih := dcGo_newI enc kf v xs (acc ++ [x]) (by rw [List.append_assoc]; exact hn) fun y hy => hx y (List.mem_cons_of_mem _ hy)
    have hd := dput_newI acc kf v (k := kf x) (v x) (fun z hz e => by
      rw [List.map_append, List.nodup_append] at hn
      exact hn.2.2 (kf z) (List.mem_map.mpr ⟨z, hz, rfl⟩) (kf x) (List.mem_map.mpr ⟨x, List.mem_cons_self, rfl⟩) e)
    rw [List.map_cons]
    refine ev_bd (s1 := st) (a := env1) (by unfold M.lf; rw [h1]) (ev_bd (s1 := st) (a := true) rfl ?_)
    rw [if_pos rfl]
    refine ev_bd h2 (ev_bd h3 (ev_bd (s1 := st) (by unfold M.lf; rw [hd]) ?_))
    rw [List.map_append, List.append_assoc] at ih
    exact ih
theorem dputAll_newI {α : Type} (kf : α → Int) (v : α → D) : ∀ (xs acc : List α), ((acc ++ xs).map kf).Nodup →
    dputAll (acc.map fun z => (D.int (kf z), v z)) (xs.map fun z => (D.int (kf z), v z)) = some ((acc ++ xs).map fun z => (D.int (kf z), v z))
  | [], acc, _ => by rw [List.append_nil]; rfl
  | x :: xs, acc, hn => by
    have ih := dputAll_newI kf v xs (acc ++ [x]) (by rw [List.append_assoc]; exact hn)
    have hd := dput_newI acc kf v (k := kf x) (v x) (fun z hz e => by
      rw [List.map_append, List.nodup_append] at hn
      exact hn.2.2 (kf z) (List.mem_map.mpr ⟨z, hz, rfl⟩) (kf x) (List.mem_map.mpr ⟨x, List.mem_cons_self, rfl⟩) e)
    rw [List.map_cons, dputAll, hd]
    rw [List.map_append, List.append_assoc] at ih
    exact ih
theorem pairsOf_map {α : Type} (k v : α → D) : ∀ xs : List α, pairsOf' (xs.map fun z => .tup [k z, v z]) = some (xs.map fun z => (k z, v z))
  | [] => rfl
  | x :: xs => by
    rw [List.map_cons, pairsOf', pairsOf_map k v xs]
    rfl
/-! ### tastes -/
def tst (pe : Int) (own : List Int) (k : Nat) : List Int := [pe] ++ own.reverse.map (2 + ·) ++ ((cols k).filter fun w => !decide (w ∈ own)).map (2 + ·) ++ [1 - pe]
def tDic (ts : List Int) : D := .dic false ((ts.zipIdx 0).map fun z => (D.int z.1, D.int (z.2 : Nat)))
def pl (ts : List Int) (c : Int) : Int := (((ts.zipIdx 0).find? fun z => decide (z.1 = c)).map fun z => ((z.2 : Nat) : Int)).getD 0
theorem cols_len (n : Nat) : (cols n).length = n := by unfold cols; rw [List.length_map, List.length_range]
theorem pl_spec {ts : List Int} {c : Int} (h : c ∈ ts) : ∃ i : Nat, ts[i]? = some c ∧ pl ts c = i ∧ ((ts.zipIdx 0).find? fun z => decide (z.1 = c)) = some (c, i) := by
  have hs : ((ts.zipIdx 0).find? fun z => decide (z.1 = c)).isSome = true := by
    rw [List.find?_isSome]
    obtain ⟨i, hi, e⟩ := List.mem_iff_getElem.mp h
    refine ⟨(c, i), List.mem_iff_getElem?.mpr ⟨i, ?_⟩, by simp⟩
    rw [List.getElem?_zipIdx, List.getElem?_eq_getElem hi, e]
    simp
  obtain ⟨⟨d, i⟩, hz⟩ := Option.isSome_iff_exists.mp hs
  have hm := List.mem_of_find?_eq_some hz
  have he := List.find?_some hz
  simp at he
  subst he
  obtain ⟨j, hj⟩ := List.mem_iff_getElem?.mp hm
  rw [List.getElem?_zipIdx] at hj
  obtain ⟨x, hx1, hx2⟩ := Option.map_eq_some_iff.mp hj
  injection hx2 with e1 e2
  refine ⟨i, by rw [← e2, Nat.zero_add, hx1, e1], ?_, hz⟩
  unfold pl
  rw [hz]
  rfl
theorem tDic_get {ts : List Int} {c : Int} (h : c ∈ ts) : getAD true (tDic ts) (.int c) = some (.int (pl ts c)) := by
  obtain ⟨i, h1, h2, h3⟩ := pl_spec h
  show (if false = true ∧ true = false then none else (dget false ((ts.zipIdx 0).map fun z => (D.int z.1, D.int (z.2 : Nat))) (.int c)).bind id) = _
  rw [if_neg (by decide), dget_mapI, h3, h2]
  rfl
theorem mem_tst {pe : Int} {own : List Int} {k : Nat} (hp : pe = 0 ∨ pe = 1) (ho : ∀ w ∈ own, w ∈ cols k) (c : Int) : c ∈ tst pe own k ↔ c ∈ cols (k + 2) := by
  unfold tst
  simp only [List.mem_append, List.mem_map, List.mem_reverse, List.mem_filter, List.mem_cons, List.not_mem_nil, or_false]
  rw [mem_cols]
  constructor
  · rintro (((rfl | ⟨w, hw, rfl⟩) | ⟨w, ⟨hw, _⟩, rfl⟩) | rfl)
    · omega
    · have := mem_cols.mp (ho w hw); omega
    · have := mem_cols.mp hw; omega
    · omega
  · rintro ⟨h1, h2⟩
    by_cases e0 : c = pe
    · exact .inl (.inl (.inl e0))
    · by_cases e1 : c = 1 - pe
      · exact .inr e1
      · have hw : c - 2 ∈ cols k := mem_cols.mpr (by omega)
        by_cases hm : c - 2 ∈ own
        · exact .inl (.inl (.inr ⟨c - 2, hm, by omega⟩))
        · exact .inl (.inr ⟨c - 2, ⟨hw, by simpa using hm⟩, by omega⟩)
theorem nodup_tst {pe : Int} {own : List Int} {k : Nat} (hp : pe = 0 ∨ pe = 1) (ho : ∀ w ∈ own, w ∈ cols k) (hn : own.Nodup) : (tst pe own k).Nodup := by
  have inj : ∀ {xs : List Int}, xs.Nodup → (xs.map (2 + ·)).Nodup := fun {xs} h => by
    unfold List.Nodup
    rw [List.pairwise_map]
    exact h.imp fun ne e => ne (by omega)
  unfold tst
  rw [List.nodup_append, List.nodup_append, List.nodup_append]
  refine ⟨⟨⟨by simp, inj ((List.reverse_perm own).nodup_iff.mpr hn), fun a ha c hc e => ?_⟩, inj ((cols_nodup k).filter _), fun a ha c hc e => ?_⟩, by simp, fun a ha c hc e => ?_⟩
  · simp only [List.mem_cons, List.not_mem_nil, or_false] at ha
    obtain ⟨w, hw, rfl⟩ := List.mem_map.mp hc
    have := mem_cols.mp (ho w (List.mem_reverse.mp hw))
    omega
  · obtain ⟨w, hw, rfl⟩ := List.mem_map.mp hc
    obtain ⟨hw1, hw2⟩ := List.mem_filter.mp hw
    have h2 := mem_cols.mp hw1
    rcases List.mem_append.mp ha with ha | ha
    · simp only [List.mem_cons, List.not_mem_nil, or_false] at ha; omega
    · obtain ⟨u, hu, rfl⟩ := List.mem_map.mp ha
      have : u = w := by omega
      subst this
      simp at hw2
      exact hw2 (List.mem_reverse.mp hu)
  · simp only [List.mem_cons, List.not_mem_nil, or_false] at hc
    rcases List.mem_append.mp ha with ha | ha
    · rcases List.mem_append.mp ha with ha | ha
      · simp only [List.mem_cons, List.not_mem_nil, or_false] at ha; omega
      · obtain ⟨u, hu, rfl⟩ := List.mem_map.mp ha
        have := mem_cols.mp (ho u (List.mem_reverse.mp hu)); omega
    · obtain ⟨u, hu, rfl⟩ := List.mem_map.mp ha
      have := mem_cols.mp (List.mem_filter.mp hu).1; omega
theorem perm_tst {pe : Int} {own : List Int} {k : Nat} (hp : pe = 0 ∨ pe = 1) (ho : ∀ w ∈ own, w ∈ cols k) (hn : own.Nodup) : (tst pe own k).Perm (cols (k + 2)) :=
  (List.perm_ext_iff_of_nodup (nodup_tst hp ho hn) (cols_nodup _)).mpr (mem_tst hp ho)
theorem cols_le (n : Nat) : (cols n).Pairwise (· ≤ ·) := by
  unfold cols
  rw [List.pairwise_map]
  exact List.pairwise_lt_range.imp fun h => by omega
theorem pl_at {ts : List Int} (hn : ts.Nodup) {i : Nat} {c : Int} (h : ts[i]? = some c) : pl ts c = i := by
  obtain ⟨hi, e⟩ := List.getElem?_eq_some_iff.mp h
  obtain ⟨j, h1, h2, _⟩ := pl_spec (List.mem_of_getElem? h)
  obtain ⟨hj, e'⟩ := List.getElem?_eq_some_iff.mp h1
  have : i = j := (List.getElem_inj hn).mp (by rw [e, e'])
  rw [h2, this]
theorem pl_inj {ts : List Int} {a c : Int} (ha : a ∈ ts) (hc : c ∈ ts) (e : pl ts a = pl ts c) : a = c := by
  obtain ⟨i, h1, h2, _⟩ := pl_spec ha
  obtain ⟨j, g1, g2, _⟩ := pl_spec hc
  have : i = j := by omega
  subst this
  rw [h1] at g1
  exact Option.some.inj g1
theorem tst_len {pe : Int} {own : List Int} {k : Nat} (hp : pe = 0 ∨ pe = 1) (ho : ∀ w ∈ own, w ∈ cols k) (hn : own.Nodup) : (tst pe own k).length = k + 2 := by
  rw [(perm_tst hp ho hn).length_eq, cols_len]
theorem tst_first (pe : Int) (own : List Int) (k : Nat) : (tst pe own k)[0]? = some pe := rfl
theorem tst_last {pe : Int} {own : List Int} {k : Nat} (hl : (tst pe own k).length = k + 2) : (tst pe own k)[k + 1]? = some (1 - pe) := by
  unfold tst at hl ⊢
  rw [List.length_append] at hl
  rw [List.getElem?_append_right (by simp at hl ⊢; omega)]
  have : k + 1 - ([pe] ++ own.reverse.map (2 + ·) ++ ((cols k).filter fun w => !decide (w ∈ own)).map (2 + ·)).length = 0 := by
    simp at hl ⊢; omega
  rw [this]
  rfl
/-! ### a drawn book -/
structure Bk where
  h0 : Int
  h1 : Int
  ws : List (Int × Int)
  l0 : List Int
  l1 : List Int
def sel (pe : Int) (z : Int × Int) : Int := if pe = 0 then z.1 else z.2
def usedL (pe : Int) (ws : List (Int × Int)) : List Int := ((ws.zipIdx 0).filter fun z => decide (0 < sel pe z.1)).map fun z => ((z.2 : Nat) : Int)
structure BkOk (B : Bk) : Prop where
  h0 : 1 ≤ B.h0 ∧ B.h0 ≤ 1000000000
  h1 : 1 ≤ B.h1 ∧ B.h1 ≤ 1000000000
  k8 : B.ws.length ≤ 8
  w : ∀ z ∈ B.ws, 0 ≤ z.1 ∧ z.1 ≤ 1000000 ∧ 0 ≤ z.2 ∧ z.2 ≤ 1000000 ∧ 0 < z.1 + z.2
  l0 : B.l0.Perm (usedL 0 B.ws)
  l1 : B.l1.Perm (usedL 1 B.ws)
def Bk.d (B : Bk) : D := .tup [.str "book", tupD [B.h0, B.h1], .tup (B.ws.map e2), .tup [tupD B.l0, tupD B.l1]]
theorem used_le (pe : Int) (ws : List (Int × Int)) : (usedL pe ws).Pairwise (· < ·) := by
  unfold usedL
  rw [List.pairwise_map]
  refine List.Pairwise.filter _ ?_
  rw [List.pairwise_iff_getElem]
  intro i j hi hj hij
  rw [List.getElem_zipIdx, List.getElem_zipIdx]
  simp
  omega
theorem used_cols {pe : Int} {ws : List (Int × Int)} {w : Int} (h : w ∈ usedL pe ws) : w ∈ cols ws.length := by
  obtain ⟨z, hz, rfl⟩ := List.mem_map.mp h
  have hz := (List.mem_filter.mp hz).1
  have := List.snd_lt_of_mem_zipIdx hz
  exact mem_cols.mpr (by omega)
end Y
end

section
set_option Elab.async false
set_option linter.all false
set_option autoImplicit false
set_option maxRecDepth 100000
namespace Y
open PySem PySem.Spec L2
open PyProof.Rows hiding St
theorem eqD_lstI (a b : List Int) : eqD (.lst (a.map D.int)) (.lst (b.map D.int)) = some (.bl (decide (a = b))) := by
  unfold eqD
  rw [flat_lst 59, flat_lst 59, flatL_int, flatL_int]
  show some (D.bl (PyData.eqv (.list (pyL (a.map D.int))) (.list (pyL (b.map D.int))))) = _
  rw [PyData.eqv, pyL_int, pyL_int, eqvAll_int]
section
variable {B : Bk} {st : DS}
theorem sel_get {pe : Int} (hp : pe = 0 ∨ pe = 1) (z : Int × Int) : getAD true (e2 z) (.int pe) = some (.int (sel pe z)) := by
  rcases hp with rfl | rfl
  · rfl
  · rfl
theorem p_used_by {pe : Int} (hp : pe = 0 ∨ pe = 1) (ws : List (Int × Int)) (st : DS) : F_used_by [.tup (ws.map e2), .int pe] st = some (.p (.lst ((usedL pe ws).map D.int)), st) := by
  refine ev_body (ev_ret ?_)
  have := ev_compP' (env := startE N_used_by [.tup (ws.map e2), .int pe]) (st := st) (s1 := st) (it := enumI (varE 0)) (gg := tupG (consG (nameG 2) (consG (nameG 3) nilG))) (vs := [2, 3]) (c := testE (bin gtD (bin (getAD true) (peekE 3) (peekE 1)) (cE (.int 0)))) (f := varE 2)
    (enc := fun z : (Int × Int) × Nat => D.tup [.int (z.2 : Nat), e2 z.1]) (p := fun z => decide (0 < sel pe z.1)) (hh := fun z => D.int (z.2 : Nat)) (xs := ws.zipIdx 0) (ev_enumI (ev_var rfl) rfl) (enumL_map e2 ws 0) (fun z hz => ⟨_, rfl, ev_test (ev_bin (ev_bin (ev_peek rfl) (ev_peek rfl) (sel_get hp z.1)) ev_c rfl), fun _ => ev_var rfl⟩)
  unfold usedL
  rw [List.map_map]
  exact this
theorem p_are_all {l u : List Int} (hp : l.Perm u) (hu : u.Pairwise (· < ·)) (hl : u.length < 64) (st : DS) : F_are_all [tupD l, .lst (u.map D.int)] st = some (.p (.bl true), st) := by
  have hs : sortI l = u := (sortI_eq (hp.symm) (hu.imp Int.le_of_lt)).symm
  have hso : sortedAD [tupD l] = some (.lst (u.map D.int)) := by
    show (allI (l.map D.int)).bind (fun ns => if ns.length < 64 then some (D.lst ((sortI ns).map .int)) else none) = _
    rw [allI_map]
    show (if l.length < 64 then some (D.lst ((sortI l).map .int)) else none) = _
    rw [if_pos (by rw [hp.length_eq]; exact hl), hs]
  have ht : orT (notT (testE (un (fun d => (isiD "tuple" d).map .bl) (peekE 0)))) (notT (testE (callE allD (consA (compE (seqI (varE 0)) (nameG 2) yesT (callF F_is_whole (consA (varE 2) nilA)) [2]) nilA)))) (startE N_are_all [tupD l, .lst (u.map D.int)]) st = some (!(l.all fun _ => true), st) :=
    ev_orT0 (ev_not (b := true) (ev_test (ev_un (ev_peek rfl) rfl))) (ev_not (ev_test (ev_callE (ev_cons (ev_compY (enc := D.int) (xs := l) (hh := fun _ => D.bl true) (ev_seqI (ev_var rfl) rfl) (fun c hc => ⟨_, rfl, ev_callF (ev_cons (ev_var rfl) ev_nil) (p_is_whole c st)⟩)) ev_nil) (allD_map _ _))))
  exact ev_body (ev_seq (ev_ifF' ht (by simp) ev_nilS) (ev_ret (ev_bin (ev_callE (ev_cons (ev_peek rfl) ev_nil) hso) (ev_callE (ev_cons (ev_peek rfl) ev_nil) rfl) (eqD_self (by rw [flat_lst 59]; exact flatL_int 59 _)))))
theorem used_len (pe : Int) (ws : List (Int × Int)) : (usedL pe ws).length ≤ ws.length := by
  unfold usedL
  rw [List.length_map]
  exact Nat.le_trans (List.length_filter_le ..) (by rw [List.length_zipIdx]; exact Nat.le_refl _)
theorem p_are_hours (B : Bk) (h : BkOk B) (st : DS) : F_are_hours [tupD [B.h0, B.h1]] st = some (.p (.bl true), st) := by
  refine ev_body (ev_seq (ev_ifF' (bb := !true || !(true && true)) (ev_orT (ev_not (b := true) (ev_test (ev_un (ev_peek rfl) rfl))) (fun _ => ev_not (ev_test (ev_chain (a := true) (b := true) ev_c (ev_callE (ev_cons (ev_peek rfl) ev_nil) rfl) rfl ev_c rfl)))) rfl ev_nilS) (ev_ret (ev_callE (ev_cons (ev_compY (enc := D.int) (xs := [B.h0, B.h1]) (hh := fun c => D.bl (true && (decide (1 ≤ c) && decide (c ≤ 1000000000)))) (ev_seqI (ev_var rfl) rfl) (fun c hc => ⟨_, rfl, ev_and (ev_callF (ev_cons (ev_var rfl) ev_nil) (p_is_whole c st)) (fun _ => ev_chain ev_c (ev_peek rfl) rfl ev_c rfl)⟩)) ev_nil) ?_)))
  rw [allD_map (fun c => (true && (decide (1 ≤ c) && decide (c ≤ 1000000000))))]
  simp [h.h0.1, h.h0.2, h.h1.1, h.h1.2]
theorem p_are_uses {z : Int × Int} (h : 0 ≤ z.1 ∧ z.1 ≤ 1000000 ∧ 0 ≤ z.2 ∧ z.2 ≤ 1000000 ∧ 0 < z.1 + z.2) (st : DS) : F_are_uses [e2 z, .int 2] st = some (.p (.bl true), st) := by
  refine ev_body (ev_seq (ev_ifF' (bb := !true || false) (ev_orT (ev_not (b := true) (ev_test (ev_un (ev_peek rfl) rfl))) (fun _ => ev_test (ev_bin (ev_callE (ev_cons (ev_peek rfl) ev_nil) rfl) (ev_peek rfl) (neD_self (flat_int 60 2))))) rfl ev_nilS) (ev_ret (ev_and1 (ev_callE (ev_cons (ev_compY (enc := D.int) (xs := [z.1, z.2]) (hh := fun c => D.bl (true && (decide (0 ≤ c) && decide (c ≤ 1000000)))) (ev_seqI (ev_var rfl) rfl) (fun c hc => ⟨_, rfl, ev_and (ev_callF (ev_cons (ev_var rfl) ev_nil) (p_is_whole c st)) (fun _ => ev_chain ev_c (ev_peek rfl) rfl ev_c rfl)⟩)) ev_nil) ?_) (ev_as (ev_bin (ev_callE (ev_cons (ev_peek rfl) ev_nil) (show sumAD [e2 z] = some (.int (z.1 + (z.2 + 0))) from rfl)) ev_c rfl) ?_))))
  · rw [allD_map (fun c => (true && (decide (0 ≤ c) && decide (c ≤ 1000000))))]
    simp [h.1, h.2.1, h.2.2.1, h.2.2.2.1]
  · rw [decide_eq_true (by omega)]
theorem p_is_book (B : Bk) (h : BkOk B) (st : DS) : F_is_book [B.d] st = some (.p (.bl true), st) := by
  have k8 := h.k8
  have u0 := used_len 0 B.ws
  have u1 := used_len 1 B.ws
  let E : List Var := [.p B.d, .p (tupD [B.h0, B.h1]), .p (.tup (B.ws.map e2)), .p (.tup [tupD B.l0, tupD B.l1]), .u, .u]
  have t1 : orT (notT (testE (un (fun d => (isiD "tuple" d).map .bl) (peekE 0)))) (orT (testE (bin neD (callE lenD (consA (peekE 0) nilA)) (cE (.int 4)))) (orT (notT (testE (un (fun d => (isiD "str" d).map .bl) (bin (getAD true) (peekE 0) (cE (.int 0)))))) (testE (bin neD (bin (getAD true) (peekE 0) (cE (.int 0))) (cE (.str "book")))))) (startE N_is_book [B.d]) st = some (false, st) :=
    ev_orT0 (ev_not (b := true) (ev_test (ev_un (ev_peek rfl) rfl))) (ev_orT0 (ev_test (ev_bin (ev_callE (ev_cons (ev_peek rfl) ev_nil) rfl) ev_c (neD_self (flat_int 60 4)))) (ev_orT0 (ev_not (b := true) (ev_test (ev_un (ev_bin (ev_peek rfl) ev_c rfl) rfl))) (ev_test (ev_bin (ev_bin (ev_peek rfl) ev_c rfl) ev_c (neD_self (by decide +kernel))))))
  have t2 : orT (notT (testE (callF F_are_hours (consA (varE 1) nilA)))) (orT (notT (testE (un (fun d => (isiD "tuple" d).map .bl) (peekE 2)))) (testE (bin gtD (callE lenD (consA (peekE 2) nilA)) (cE (.int 8))))) E st = some (decide ((8 : Int) < ((B.ws.map e2).length : Nat)), st) :=
    ev_orT0 (ev_not (b := true) (ev_test (ev_callF (ev_cons (ev_var rfl) ev_nil) (p_are_hours B h st)))) (ev_orT0 (ev_not (b := true) (ev_test (ev_un (ev_peek rfl) rfl))) (ev_test (ev_bin (ev_callE (ev_cons (ev_peek rfl) ev_nil) rfl) ev_c rfl)))
  have t3 : notT (testE (callE allD (consA (compE (seqI (varE 2)) (nameG 4) yesT (callF F_are_uses (consA (varE 4) (consA (callE lenD (consA (peekE 1) nilA)) nilA))) [4]) nilA))) E st = some (!(B.ws.all fun _ => true), st) :=
    ev_not (ev_test (ev_callE (ev_cons (ev_compY (enc := e2) (xs := B.ws) (hh := fun _ => D.bl true) (ev_seqI (ev_var rfl) rfl) (fun z hz => ⟨_, rfl, ev_callF (ev_cons (ev_var rfl) (ev_cons (ev_callE (ev_cons (ev_peek rfl) ev_nil) rfl) ev_nil)) (p_are_uses (h.w z hz) st)⟩)) ev_nil) (allD_map _ _)))
  have t4 : orT (notT (testE (un (fun d => (isiD "tuple" d).map .bl) (peekE 3)))) (testE (bin neD (callE lenD (consA (peekE 3) nilA)) (callE lenD (consA (peekE 1) nilA)))) E st = some (false, st) :=
    ev_orT0 (ev_not (b := true) (ev_test (ev_un (ev_peek rfl) rfl))) (ev_test (ev_bin (ev_callE (ev_cons (ev_peek rfl) ev_nil) rfl) (ev_callE (ev_cons (ev_peek rfl) ev_nil) rfl) (neD_self (flat_int 60 2))))
  have t5 : callE allD (consA (compE (enumI (varE 3)) (tupG (consG (nameG 5) (consG (nameG 4) nilG))) yesT (callF F_are_all (consA (varE 4) (consA (callF F_used_by (consA (varE 2) (consA (varE 5) nilA))) nilA))) [5, 4]) nilA) E st = some (.bl true, st) := by
    refine ev_callE (ev_cons (ev_compY' (enc := fun z : Int × List Int => D.tup [.int z.1, tupD z.2]) (xs := [(0, B.l0), (1, B.l1)]) (hh := fun _ => D.bl true) (ev_enumI (ev_var rfl) rfl) rfl (fun z hz => ⟨_, rfl, ?_⟩)) ev_nil) rfl
    simp only [List.mem_cons, List.not_mem_nil, or_false] at hz
    rcases hz with rfl | rfl
    · exact ev_callF (ev_cons (ev_var rfl) (ev_cons (ev_callF (ev_cons (ev_var rfl) (ev_cons (ev_var rfl) ev_nil)) (p_used_by (.inl rfl) B.ws st)) ev_nil)) (p_are_all h.l0 (used_le 0 B.ws) (by omega) st)
    · exact ev_callF (ev_cons (ev_var rfl) (ev_cons (ev_callF (ev_cons (ev_var rfl) (ev_cons (ev_var rfl) ev_nil)) (p_used_by (.inr rfl) B.ws st)) ev_nil)) (p_are_all h.l1 (used_le 1 B.ws) (by omega) st)
  exact ev_body (ev_seq (ev_ifF' t1 rfl ev_nilS) (ev_seq (env1 := E) (s1 := st) (ev_asg (d := .tup [tupD [B.h0, B.h1], .tup (B.ws.map e2), .tup [tupD B.l0, tupD B.l1]]) (ev_slice (ev_peek rfl) (ev_someO ev_c) ev_noO rfl) rfl) (ev_seq (env1 := E) (s1 := st) (ev_ifF' t2 (by rw [List.length_map]; exact decide_eq_false (by omega)) ev_nilS) (ev_seq (env1 := E) (s1 := st) (ev_ifF' t3 (by simp) ev_nilS) (ev_seq (env1 := E) (s1 := st) (ev_ifF' t4 rfl ev_nilS) (ev_ret t5))))))
end
end Y
end

section
set_option Elab.async false
set_option linter.all false
set_option autoImplicit false
set_option maxRecDepth 100000
namespace Y
open PySem PySem.Spec L2
open PyProof.Rows hiding St
section
variable {B : Bk} {st : DS}
def own (B : Bk) (pe : Int) : List Int := if pe = 0 then B.l0 else B.l1
def tsB (B : Bk) (pe : Int) : List Int := tst pe (own B pe) B.ws.length
theorem own_get {pe : Int} (hp : pe = 0 ∨ pe = 1) : getAD true (.tup [tupD B.l0, tupD B.l1]) (.int pe) = some (tupD (own B pe)) := by
  rcases hp with rfl | rfl <;> rfl
theorem own_ok (h : BkOk B) {pe : Int} (hp : pe = 0 ∨ pe = 1) : (∀ w ∈ own B pe, w ∈ cols B.ws.length) ∧ (own B pe).Nodup ∧ (own B pe).length ≤ 8 := by
  have k8 := h.k8
  have key : ∀ pe l, List.Perm l (usedL pe B.ws) → (∀ w ∈ l, w ∈ cols B.ws.length) ∧ l.Nodup ∧ l.length ≤ 8 := fun pe l hl =>
    ⟨fun w hw => used_cols (hl.mem_iff.mp hw), hl.nodup_iff.mpr ((used_le pe B.ws).imp fun h => by omega), by rw [hl.length_eq]; exact Nat.le_trans (used_len pe B.ws) k8⟩
  rcases hp with rfl | rfl
  · exact key 0 B.l0 h.l0
  · exact key 1 B.l1 h.l1
theorem others_len (xs : List Int) (k : Nat) : ((cols k).filter fun w => !decide (w ∈ xs)).length ≤ k := by
  have : ((cols k).filter fun w => !decide (w ∈ xs)).length ≤ (cols k).length := List.length_filter_le ..
  rwa [cols_len] at this
theorem idle_eq {pe : Int} (hp : pe = 0 ∨ pe = 1) : (cols 2).filter (fun o => !decide (o = pe)) = [1 - pe] := by
  rcases hp with rfl | rfl <;> rfl
theorem rng {env : List Var} {f : ESem} {n : Nat} (hn : n ≤ 1000) (h : f env st = some (.int n, st)) : range1I f env st = some ((cols n).map D.int, st) := by
  have := ev_range1 h (by omega)
  rw [rangeL0] at this
  exact this
theorem add2_map (own : List Int) {env : List Var} {i j v : Nat} {it : ISem} {xs : List Int} (hit : it env st = some (xs.map D.int, st)) (hv : v < env.length) (hj : (wipeE env [v])[j]? = some (.p (.int 2))) (hjv : j ≠ v) (hi : i = v) :
    compE it (nameG v) yesT (bin addD (peekE j) (peekE i)) [v] env st = some (.lst ((xs.map (2 + ·)).map D.int), st) := by
  rw [List.map_map]
  refine ev_compY (enc := D.int) (xs := xs) (hh := fun w => D.int (2 + w)) hit (fun w hw => ⟨_, rfl, ev_bin (x := .int 2) (y := .int w) (ev_peek ?_) (ev_peek ?_) rfl⟩)
  · rw [List.getElem?_set_ne (Ne.symm hjv)]; exact hj
  · rw [hi, List.getElem?_set_self]
    show v < ((wipeE env []).set v .u).length
    rw [List.length_set]
    exact hv
theorem p_taste_in (h : BkOk B) {pe : Int} (hp : pe = 0 ∨ pe = 1) (st : DS) : F_taste_in [B.d, .int pe] st = some (.p (tupD (tsB B pe)), st) := by
  obtain ⟨_, _, ol⟩ := own_ok h hp
  have k8 := h.k8
  have othl := others_len (own B pe) B.ws.length
  have r1 : parS [4, 5] [(false, (callE lenD (consA (bin (getAD true) (peekE 0) (cE (.int 1))) nilA))), (false, (bin (getAD true) (bin (getAD true) (peekE 0) (cE (.int 3))) (peekE 1)))] (startE N_taste_in [B.d, .int pe]) st = some ((.nx, [.p B.d, .p (.int pe), .u, .u, .p (.int 2), .p (tupD (own B pe)), .u, .u]), st) :=
    ev_par (ev_ccons (ev_callE (ev_cons (ev_bin (ev_peek rfl) ev_c rfl) ev_nil) rfl) (ev_ccons (ev_bin (ev_bin (ev_peek rfl) ev_c rfl) (ev_peek rfl) (own_get hp)) ev_cnil))
  have r2 : compE (range1I (callE lenD (consA (bin (getAD true) (peekE 0) (cE (.int 2))) nilA))) (nameG 6) (testE (bin (notInAD true) (peekE 6) (peekE 5))) (varE 6) [6] [.p B.d, .p (.int pe), .u, .u, .p (.int 2), .p (tupD (own B pe)), .u, .u] st = some (.lst (((cols B.ws.length).filter fun w => !decide (w ∈ own B pe)).map D.int), st) :=
    ev_compP (enc := D.int) (xs := cols B.ws.length) (p := fun w => !decide (w ∈ own B pe)) (hh := D.int) (rng (by omega) (ev_callE (ev_cons (ev_bin (ev_peek rfl) ev_c rfl) ev_nil) (by show some (D.int ((B.ws.map e2).length : Nat)) = _; rw [List.length_map]))) (fun w hw => ⟨_, rfl, ev_test (ev_bin (ev_peek rfl) (ev_peek rfl) (notInAD_tupD true w _)), fun _ => ev_var rfl⟩)
  have r3 : ∀ y2, compE (range1I (peekE 4)) (nameG 7) (testE (bin neD (peekE 7) (peekE 1))) (varE 7) [7] [.p B.d, .p (.int pe), y2, .u, .p (.int 2), .p (tupD (own B pe)), .u, .u] st = some (.lst (([1 - pe] : List Int).map D.int), st) := fun y2 => by
    have := ev_compP (env := [.p B.d, .p (.int pe), y2, .u, .p (.int 2), .p (tupD (own B pe)), .u, .u]) (st := st) (s1 := st) (it := range1I (peekE 4)) (gg := nameG 7) (vs := [7]) (c := testE (bin neD (peekE 7) (peekE 1))) (f := varE 7) (enc := D.int) (xs := cols 2) (p := fun o => !decide (o = pe)) (hh := D.int) (rng (by decide) (ev_peek rfl)) (fun w hw => ⟨_, rfl, ev_test (ev_bin (ev_peek rfl) (ev_peek rfl) (neD_int w pe)), fun _ => ev_var rfl⟩)
    rw [idle_eq hp] at this
    exact this
  have r4 : ∀ env : List Var, env = [.p B.d, .p (.int pe), .p (.lst (((cols B.ws.length).filter fun w => !decide (w ∈ own B pe)).map D.int)), .p (.lst (([1 - pe] : List Int).map D.int)), .p (.int 2), .p (tupD (own B pe)), .u, .u] →
      bin addD (bin addD (bin addD (lstE (consA (varE 1) nilA)) (compE (seqI (un revAD (peekE 5))) (nameG 6) yesT (bin addD (peekE 4) (peekE 6)) [6])) (compE (seqI (varE 2)) (nameG 6) yesT (bin addD (peekE 4) (peekE 6)) [6])) (peekE 3) env st = some (.lst ((tsB B pe).map D.int), st) := by
    rintro env rfl
    have m1 := add2_map (own B pe) (st := st) (env := [.p B.d, .p (.int pe), .p (.lst (((cols B.ws.length).filter fun w => !decide (w ∈ own B pe)).map D.int)), .p (.lst (([1 - pe] : List Int).map D.int)), .p (.int 2), .p (tupD (own B pe)), .u, .u]) (i := 6) (j := 4) (v := 6) (it := seqI (un revAD (peekE 5))) (xs := (own B pe).reverse) (ev_seqI (ev_un (ev_peek rfl) rfl) (by rw [List.map_reverse]; rfl)) (by simp) rfl (by decide) rfl
    have m2 := add2_map (own B pe) (st := st) (env := [.p B.d, .p (.int pe), .p (.lst (((cols B.ws.length).filter fun w => !decide (w ∈ own B pe)).map D.int)), .p (.lst (([1 - pe] : List Int).map D.int)), .p (.int 2), .p (tupD (own B pe)), .u, .u]) (i := 6) (j := 4) (v := 6) (it := seqI (varE 2)) (xs := (cols B.ws.length).filter fun w => !decide (w ∈ own B pe)) (ev_seqI (ev_var rfl) rfl) (by simp) rfl (by decide) rfl
    refine ev_bin (ev_bin (ev_bin (ev_lst (ev_cons (ev_var rfl) ev_nil)) m1 (addD_lst _ _ (by simp; omega))) m2 (addD_lst _ _ (by simp; omega))) (ev_peek rfl) ?_
    rw [addD_lst _ _ (by simp; omega)]
    unfold tsB tst
    simp only [List.map_append]
    rfl
  exact ev_body (ev_seq r1 (ev_seq (ev_set r2) (ev_seq (ev_set (r3 _)) (ev_ret (ev_callE (ev_cons (r4 _ rfl) ev_nil) rfl)))))
theorem p_law_taste (h : BkOk B) {pe : Int} (hp : pe = 0 ∨ pe = 1) (st : DS) : F__law_taste [B.d, .int pe] st = some (.p (tupD (tsB B pe)), st) := by
  obtain ⟨_, _, ol⟩ := own_ok h hp
  have k8 := h.k8
  have othl := others_len (own B pe) B.ws.length
  have r1 : parS [3, 4] [(false, (callE lenD (consA (bin (getAD true) (peekE 0) (cE (.int 1))) nilA))), (false, (bin (getAD true) (bin (getAD true) (peekE 0) (cE (.int 3))) (peekE 1)))] (startE N__law_taste [B.d, .int pe]) st = some ((.nx, [.p B.d, .p (.int pe), .u, .p (.int 2), .p (tupD (own B pe)), .u, .u]), st) :=
    ev_par (ev_ccons (ev_callE (ev_cons (ev_bin (ev_peek rfl) ev_c rfl) ev_nil) rfl) (ev_ccons (ev_bin (ev_bin (ev_peek rfl) ev_c rfl) (ev_peek rfl) (own_get hp)) ev_cnil))
  have r2 : compE (range1I (callE lenD (consA (bin (getAD true) (peekE 0) (cE (.int 2))) nilA))) (nameG 5) (testE (bin (notInAD true) (peekE 5) (peekE 4))) (bin addD (peekE 3) (peekE 5)) [5] [.p B.d, .p (.int pe), .u, .p (.int 2), .p (tupD (own B pe)), .u, .u] st = some (.lst ((((cols B.ws.length).filter fun w => !decide (w ∈ own B pe)).map (2 + ·)).map D.int), st) := by
    rw [List.map_map]
    exact ev_compP (enc := D.int) (xs := cols B.ws.length) (p := fun w => !decide (w ∈ own B pe)) (hh := fun w => D.int (2 + w)) (rng (by omega) (ev_callE (ev_cons (ev_bin (ev_peek rfl) ev_c rfl) ev_nil) (by show some (D.int ((B.ws.map e2).length : Nat)) = _; rw [List.length_map]))) (fun w hw => ⟨_, rfl, ev_test (ev_bin (ev_peek rfl) (ev_peek rfl) (notInAD_tupD true w _)), fun _ => ev_bin (ev_peek rfl) (ev_peek rfl) rfl⟩)
  have r3 : compE (range1I (peekE 3)) (nameG 6) (testE (bin neD (peekE 6) (peekE 1))) (varE 6) [6] [.p B.d, .p (.int pe), .u, .p (.int 2), .p (tupD (own B pe)), .u, .u] st = some (.lst (([1 - pe] : List Int).map D.int), st) := by
    have := ev_compP (env := [.p B.d, .p (.int pe), .u, .p (.int 2), .p (tupD (own B pe)), .u, .u]) (st := st) (s1 := st) (it := range1I (peekE 3)) (gg := nameG 6) (vs := [6]) (c := testE (bin neD (peekE 6) (peekE 1))) (f := varE 6) (enc := D.int) (xs := cols 2) (p := fun o => !decide (o = pe)) (hh := D.int) (rng (by decide) (ev_peek rfl)) (fun w hw => ⟨_, rfl, ev_test (ev_bin (ev_peek rfl) (ev_peek rfl) (neD_int w pe)), fun _ => ev_var rfl⟩)
    rw [idle_eq hp] at this
    exact this
  have r4 : ∀ env : List Var, env = [.p B.d, .p (.int pe), .p (.lst ((((cols B.ws.length).filter fun w => !decide (w ∈ own B pe)).map (2 + ·)).map D.int ++ ([1 - pe] : List Int).map D.int)), .p (.int 2), .p (tupD (own B pe)), .u, .u] →
      bin addD (bin addD (lstE (consA (varE 1) nilA)) (compE (seqI (un revAD (peekE 4))) (nameG 5) yesT (bin addD (peekE 3) (peekE 5)) [5])) (peekE 2) env st = some (.lst ((tsB B pe).map D.int), st) := by
    rintro env rfl
    have m1 := add2_map (own B pe) (st := st) (env := [.p B.d, .p (.int pe), .p (.lst ((((cols B.ws.length).filter fun w => !decide (w ∈ own B pe)).map (2 + ·)).map D.int ++ ([1 - pe] : List Int).map D.int)), .p (.int 2), .p (tupD (own B pe)), .u, .u]) (i := 5) (j := 3) (v := 5) (it := seqI (un revAD (peekE 4))) (xs := (own B pe).reverse) (ev_seqI (ev_un (ev_peek rfl) rfl) (by rw [List.map_reverse]; rfl)) (by simp) rfl (by decide) rfl
    refine ev_bin (ev_bin (ev_lst (ev_cons (ev_var rfl) ev_nil)) m1 (addD_lst _ _ (by simp; omega))) (ev_peek rfl) ?_
    rw [addD_lst _ _ (by simp; omega)]
    unfold tsB tst
    simp only [List.map_append, List.append_assoc]
    rfl
  exact ev_body (ev_seq r1 (ev_seq (ev_set (ev_bin r2 r3 (addD_lst _ _ (by simp; omega)))) (ev_ret (ev_callE (ev_cons (r4 _ rfl) ev_nil) rfl))))
theorem tsB_nodup (h : BkOk B) {pe : Int} (hp : pe = 0 ∨ pe = 1) : (tsB B pe).Nodup := nodup_tst hp (own_ok h hp).1 (own_ok h hp).2.1
theorem zip_nodup {ts : List Int} (hn : ts.Nodup) : ((ts.zipIdx 0).map (·.1)).Nodup := by
  have : (ts.zipIdx 0).map (·.1) = ts := by
    rw [List.zipIdx_map_fst]
  rw [this]; exact hn
theorem p_tastes_in (h : BkOk B) (st : DS) : F_tastes_in [B.d] st = some (.o (.lst [tDic (tsB B 0), tDic (tsB B 1)]), st) := by
  have dc : ∀ {pe : Int} (hp : pe = 0 ∨ pe = 1) (u1 u3 u4 : Var), dcE false (enumI (callF F_taste_in (consA (varE 0) (consA (varE 2) nilA)))) (tupG (consG (nameG 3) (consG (nameG 4) nilG))) yesT (varE 4) (varE 3) [3, 4] [.p B.d, u1, .p (.int pe), u3, u4] st = some (tDic (tsB B pe), st) := by
    intro pe hp u1 u3 u4
    have hg := dcGo_newI (g := tupG (consG (nameG 3) (consG (nameG 4) nilG))) (fk := varE 4) (fv := varE 3) (env0 := wipeE [.p B.d, u1, .p (.int pe), u3, u4] [3, 4]) (st := st) (fun z : Int × Nat => D.tup [.int (z.2 : Nat), .int z.1]) (fun z => z.1) (fun z => D.int (z.2 : Nat)) ((tsB B pe).zipIdx 0) [] (by rw [List.nil_append]; exact zip_nodup (tsB_nodup h hp)) (fun z hz => ⟨_, rfl, ev_var rfl, ev_var rfl⟩)
    refine ev_bd (ev_enumI (ev_callF (ev_cons (ev_var rfl) (ev_cons (ev_var rfl) ev_nil)) (p_taste_in h hp st)) rfl) ?_
    rw [enumL_map]
    exact ev_bd hg rfl
  refine ev_body (ev_seq (ev_setO (ev_lst ev_nil)) (ev_seq (env1 := [.p B.d, .o (.lst [tDic (tsB B 0), tDic (tsB B 1)]), .p (.int 1), .u, .u]) (s1 := st) (ev_for (items := [.int 0, .int 1]) (ev_range1 (n := 2) (ev_callE (ev_cons (ev_bin (ev_peek rfl) ev_c rfl) ev_nil) rfl) (by decide)) ?_) (ev_retVo rfl)))
  refine ev_bd (s1 := st) (a := [.p B.d, .o (.lst []), .p (.int 0), .u, .u]) rfl ?_
  refine ev_bd (ev_app (dc (.inl rfl) _ _ _) rfl) ?_
  refine ev_bd (s1 := st) (a := [.p B.d, .o (.lst [tDic (tsB B 0)]), .p (.int 1), .u, .u]) rfl ?_
  exact ev_bd (ev_app (dc (.inr rfl) _ _ _) rfl) rfl
theorem p_law_tastes (h : BkOk B) (st : DS) : F__law_tastes [B.d] st = some (.p (.lst [tDic (tsB B 0), tDic (tsB B 1)]), st) := by
  refine ev_body (ev_ret ?_)
  refine ev_compY' (enc := D.int) (xs := [0, 1]) (hh := fun pe => tDic (tsB B pe)) (ev_range1 (n := 2) (ev_callE (ev_cons (ev_bin (ev_peek rfl) ev_c rfl) ev_nil) rfl) (by decide)) rfl (fun pe hpe => ⟨_, rfl, ?_⟩)
  have hp : pe = 0 ∨ pe = 1 := by simpa using hpe
  have inner := ev_compY' (env := [.p B.d, .p (.int pe), .u, .u]) (st := st) (s1 := st) (it := enumI (callF F__law_taste (consA (varE 0) (consA (varE 1) nilA)))) (gg := tupG (consG (nameG 2) (consG (nameG 3) nilG))) (vs := [2, 3]) (f := tupE 2 (consA (varE 3) (consA (varE 2) nilA)))
    (enc := fun z : Int × Nat => D.tup [.int (z.2 : Nat), .int z.1]) (xs := (tsB B pe).zipIdx 0) (hh := fun z => D.tup [.int z.1, .int (z.2 : Nat)]) (ev_enumI (ev_callF (ev_cons (ev_var rfl) (ev_cons (ev_var rfl) ev_nil)) (p_law_taste h hp st)) rfl) (enumL_map D.int (tsB B pe) 0) (fun z hz => ⟨_, rfl, ev_tup (ev_cons (ev_var rfl) (ev_cons (ev_var rfl) ev_nil))⟩)
  refine ev_callE (ev_cons inner ev_nil) ?_
  have hd := dputAll_newI (fun z : Int × Nat => z.1) (fun z => D.int (z.2 : Nat)) ((tsB B pe).zipIdx 0) [] (by rw [List.nil_append]; exact zip_nodup (tsB_nodup h hp))
  show (pairsOf' (((tsB B pe).zipIdx 0).map fun z => D.tup [.int z.1, .int (z.2 : Nat)])).bind (fun ps => (dputAll [] ps).map fun kvs => D.dic false kvs) = _
  rw [pairsOf_map (fun z : Int × Nat => D.int z.1) (fun z => D.int (z.2 : Nat))]
  show (dputAll [] _).map (fun kvs => D.dic false kvs) = _
  rw [show dputAll [] _ = _ from hd]
  rfl
theorem mkBK (h : BkOk B) : BK B.d (B.ws.length + 2) (pl (tsB B 0)) (pl (tsB B 1)) (tDic (tsB B 0)) (tDic (tsB B 1)) := by
  have k8 := h.k8
  have o0 := own_ok h (.inl rfl : (0 : Int) = 0 ∨ (0 : Int) = 1)
  have o1 := own_ok h (.inr rfl : (1 : Int) = 0 ∨ (1 : Int) = 1)
  have m0 : ∀ c, c ∈ tsB B 0 ↔ c ∈ cols (B.ws.length + 2) := mem_tst (.inl rfl) o0.1
  have m1 : ∀ c, c ∈ tsB B 1 ↔ c ∈ cols (B.ws.length + 2) := mem_tst (.inr rfl) o1.1
  have n0 := tsB_nodup h (.inl rfl : (0 : Int) = 0 ∨ (0 : Int) = 1)
  have n1 := tsB_nodup h (.inr rfl : (1 : Int) = 0 ∨ (1 : Int) = 1)
  have l0 : (tsB B 0).length = B.ws.length + 2 := tst_len (.inl rfl) o0.1 o0.2.1
  have l1 : (tsB B 1).length = B.ws.length + 2 := tst_len (.inr rfl) o1.1 o1.2.1
  have rg : ∀ (ts : List Int), ts.length = B.ws.length + 2 → (∀ c, c ∈ ts ↔ c ∈ cols (B.ws.length + 2)) → ∀ c : Int, 0 ≤ c → c < ((B.ws.length + 2 : Nat) : Int) → 0 ≤ pl ts c ∧ pl ts c < ((B.ws.length + 2 : Nat) : Int) := fun ts hl hm c h1 h2 => by
    obtain ⟨i, e1, e2, _⟩ := pl_spec ((hm c).mpr (mem_cols.mpr ⟨h1, h2⟩))
    have := (List.getElem?_eq_some_iff.mp e1).1
    omega
  have srt : sortI (tsB B 0) = cols (B.ws.length + 2) := (sortI_eq (perm_tst (.inl rfl) o0.1 o0.2.1).symm (cols_le _)).symm
  refine ⟨⟨by omega, by omega, rg _ l0 m0, rg _ l1 m1, fun a c ha hc e => pl_inj ((m0 a).mpr ha) ((m0 c).mpr hc) e, fun a c ha hc e => pl_inj ((m1 a).mpr ha) ((m1 c).mpr hc) e, ?_, ?_, ?_, ?_⟩,
    p_is_book B h, fun st => rfl, fun st => ?_, p_tastes_in h, p_law_tastes h, ⟨B.ws.map e2, rfl, by rw [List.length_map]; omega⟩, fun c hc => tDic_get ((m0 c).mpr hc), fun c hc => tDic_get ((m1 c).mpr hc), ?_⟩
  · exact pl_at n0 (i := 0) rfl
  · have := pl_at n0 (i := B.ws.length + 1) (c := 1) (tst_last (pe := 0) l0)
    rw [this]; omega
  · exact pl_at n1 (i := 0) rfl
  · have := pl_at n1 (i := B.ws.length + 1) (c := 0) (tst_last (pe := 1) l1)
    rw [this]; omega
  · show some (Var.p (D.int (2 + ((B.ws.map e2).length : Nat))), st) = _
    rw [List.length_map]
    congr 4
    omega
  · show (allI (((((tsB B 0).zipIdx 0).map fun z => (D.int z.1, D.int (z.2 : Nat)))).map (·.1))).bind (fun ns => if ns.length < 64 then some (D.lst ((sortI ns).map .int)) else none) = _
    have e : ((((tsB B 0).zipIdx 0).map fun z => (D.int z.1, D.int (z.2 : Nat)))).map (·.1) = (tsB B 0).map D.int := by
      rw [List.map_map]
      have : ((tsB B 0).zipIdx 0).map (·.1) = tsB B 0 := by rw [List.zipIdx_map_fst]
      rw [← this, List.map_map]
      simp only [List.zipIdx_map_fst]
      rfl
    rw [e, allI_map]
    show (if (tsB B 0).length < 64 then some (D.lst ((sortI (tsB B 0)).map .int)) else none) = _
    rw [if_pos (by omega), srt]
end
end Y
end

section
set_option Elab.async false
set_option linter.all false
set_option autoImplicit false
set_option maxRecDepth 100000
namespace Y
open PySem PySem.Spec L2
open PyProof.Rows hiding St
theorem compGo_dr {g : GSem} {f : ESem} {env0 : List Var} (Q : D → Prop) (c cap : Nat) : ∀ (items : List D) (m : Nat) (st : DS), StOk m st → m + c * items.length ≤ cap →
    (∀ x ∈ items, ∀ m st, StOk m st → m + c ≤ cap → ∃ env1 y st2, g x env0 = some env1 ∧ f env1 st = some (y, st2) ∧ Q y ∧ StOk (m + c) st2) →
    ∃ ys st', compGo g yesT f env0 items st = some (ys, st') ∧ (∀ y ∈ ys, Q y) ∧ ys.length = items.length ∧ StOk (m + c * items.length) st'
  | [], m, st, hs, _, _ => ⟨[], st, rfl, fun y hy => (by cases hy), rfl, hs⟩
  | x :: xs, m, st, hs, hc, hx => by
    have e : c * (x :: xs).length = c + c * xs.length := by rw [List.length_cons, Nat.mul_add, Nat.mul_one, Nat.add_comm]
    rw [e] at hc
    obtain ⟨env1, y, st2, h1, h2, h3, h4⟩ := hx x List.mem_cons_self m st hs (by omega)
    obtain ⟨ys, st', h5, h6, h7, h8⟩ := compGo_dr Q c cap xs (m + c) st2 h4 (by omega) fun y hy => hx y (List.mem_cons_of_mem _ hy)
    refine ⟨y :: ys, st', ?_, fun z hz => ?_, by rw [List.length_cons, h7, List.length_cons], by rw [e, ← Nat.add_assoc]; exact h8⟩
    · refine ev_bd (s1 := st) (a := env1) (lf_of h1) (ev_bd (s1 := st) (a := true) rfl ?_)
      rw [if_pos rfl]
      exact ev_bd h2 (ev_bd h5 rfl)
    · rcases List.mem_cons.mp hz with rfl | hz
      · exact h3
      · exact h6 z hz
theorem used_eq (pe : Int) (ws : List (Int × Int)) : ((cols ws.length).filter fun w => decide (0 < sel pe (ws.getD w.toNat (0, 0)))) = usedL pe ws := by
  have hc : cols ws.length = (ws.zipIdx 0).map fun z => ((z.2 : Nat) : Int) := by
    unfold cols
    have e : (ws.zipIdx 0).map (·.2) = List.range ws.length := by rw [List.zipIdx_map_snd, List.range_eq_range']
    rw [← e, List.map_map]
    rfl
  unfold usedL
  rw [hc, List.filter_map]
  congr 1
  refine List.filter_congr fun z hz => ?_
  obtain ⟨j, hj⟩ := List.mem_iff_getElem?.mp hz
  rw [List.getElem?_zipIdx] at hj
  obtain ⟨x, hx1, hx2⟩ := Option.map_eq_some_iff.mp hj
  have e1 : z.1 = x := by rw [← hx2]
  have e2 : z.2 = j := by rw [← hx2]; exact Nat.zero_add j
  show decide (0 < sel pe (ws.getD (((z.2 : Nat) : Int)).toNat (0, 0))) = _
  rw [Int.toNat_natCast, e2, List.getD_eq_getElem?_getD, hx1, e1]
  rfl
theorem p_likes {m : Nat} {st : DS} (hs : StOk m st) (hm : m + 16 ≤ 900000) (ws : List (Int × Int)) (hk : ws.length ≤ 8) : ∃ (l0 l1 : List Int) (st' : DS), F__law_likes [.drw, .lst (ws.map e2), .int 2] st = some (.p (.tup [tupD l0, tupD l1]), st') ∧ l0.Perm (usedL 0 ws) ∧ l1.Perm (usedL 1 ws) ∧ StOk (m + 16) st' := by
  have u0 := used_len 0 ws
  have u1 := used_len 1 ws
  have inner : ∀ (pe : Int) (hp : pe = 0 ∨ pe = 1) (u4 : Var) (s : DS), compE (range1I (callE lenD (consA (peekE 1) nilA))) (nameG 4) (testE (bin gtD (bin (getAD true) (bin (getAD true) (peekE 1) (peekE 4)) (peekE 3)) (cE (.int 0)))) (varE 4) [4] [.p .drw, .p (.lst (ws.map e2)), .p (.int 2), .p (.int pe), u4] s = some (.lst ((usedL pe ws).map D.int), s) := by
    intro pe hp u4 s
    have := ev_compP (env := [.p .drw, .p (.lst (ws.map e2)), .p (.int 2), .p (.int pe), u4]) (st := s) (s1 := s) (it := range1I (callE lenD (consA (peekE 1) nilA))) (gg := nameG 4) (vs := [4]) (c := testE (bin gtD (bin (getAD true) (bin (getAD true) (peekE 1) (peekE 4)) (peekE 3)) (cE (.int 0)))) (f := varE 4) (enc := D.int) (xs := cols ws.length) (p := fun w => decide (0 < sel pe (ws.getD w.toNat (0, 0)))) (hh := D.int) (rng (by omega) (ev_callE (ev_cons (ev_peek rfl) ev_nil) (by show some (D.int ((ws.map e2).length : Nat)) = _; rw [List.length_map]))) (fun w hw => by
      have hw' := mem_cols.mp hw
      obtain ⟨i, rfl⟩ := Int.eq_ofNat_of_zero_le hw'.1
      have hi : i < ws.length := by omega
      refine ⟨_, rfl, ev_test (ev_bin (ev_bin (ev_bin (x := .lst (ws.map e2)) (y := .int (i : Int)) (d := e2 (ws.getD i (0, 0))) (ev_peek rfl) (ev_peek rfl) (getAD_lst ?_)) (ev_peek rfl) (sel_get hp _)) ev_c rfl), fun _ => ev_var rfl⟩
      rw [List.getElem?_map, List.getD_eq_getElem?_getD, List.getElem?_eq_getElem hi]
      rfl)
    rw [used_eq] at this
    exact this
  obtain ⟨l0, s1, a1, a2, a3⟩ := p_shuffled hs (usedL 0 ws) (by omega) (by omega)
  obtain ⟨l1, s2, c1, c2, c3⟩ := p_shuffled (a3.mono (show m + (usedL 0 ws).length ≤ m + 8 by omega)) (usedL 1 ws) (by omega) (by omega)
  refine ⟨l0, l1, s2, ?_, a2, c2, c3.mono (by omega)⟩
  refine ev_body (ev_ret (ev_callE (ev_cons (ev_comp (items := [.int 0, .int 1]) (ds := [tupD l0, tupD l1]) (ev_range1 (n := 2) (ev_peek rfl) (by decide)) ?_) ev_nil) rfl))
  refine ev_bd (s1 := st) (a := [.p .drw, .p (.lst (ws.map e2)), .p (.int 2), .p (.int 0), .u]) rfl (ev_bd (s1 := st) (a := true) rfl ?_)
  rw [if_pos rfl]
  refine ev_bd (a := tupD l0) (s1 := s1) (ev_callE (ev_cons (ev_callFo (ev_cons (ev_var rfl) (ev_cons (inner 0 (.inl rfl) _ _) ev_nil)) a1) ev_nil) rfl) ?_
  refine ev_bd (a := [tupD l1]) (s1 := s2) ?_ rfl
  refine ev_bd (s1 := s1) (a := [.p .drw, .p (.lst (ws.map e2)), .p (.int 2), .p (.int 1), .u]) rfl (ev_bd (s1 := s1) (a := true) rfl ?_)
  rw [if_pos rfl]
  refine ev_bd (a := tupD l1) (s1 := s2) (ev_callE (ev_cons (ev_callFo (ev_cons (ev_var rfl) (ev_cons (inner 1 (.inr rfl) _ _) ev_nil)) c1) ev_nil) rfl) rfl
theorem all_e2 : ∀ {ys : List D}, (∀ y ∈ ys, ∃ u v : Int, y = e2 (u, v) ∧ 0 ≤ u ∧ u < 7 ∧ 0 ≤ v ∧ v < 7) → ∃ ws : List (Int × Int), ys = ws.map e2 ∧ ∀ z ∈ ws, 0 ≤ z.1 ∧ z.1 < 7 ∧ 0 ≤ z.2 ∧ z.2 < 7
  | [], _ => ⟨[], rfl, fun z hz => (by cases hz)⟩
  | y :: ys, h => by
    obtain ⟨u, v, e, h1⟩ := h y List.mem_cons_self
    obtain ⟨ws, e', h2⟩ := all_e2 fun y hy => h y (List.mem_cons_of_mem _ hy)
    refine ⟨(u, v) :: ws, by rw [e, e', List.map_cons], fun z hz => ?_⟩
    rcases List.mem_cons.mp hz with rfl | hz
    · exact h1
    · exact h2 z hz
def fixW (z : Int × Int) : Int × Int := if z = (0, 0) then (1, 1) else z
theorem p_two {m : Nat} {st : DS} (hs : StOk m st) (hm : m + 35 ≤ 900000) : ∃ (B : Bk) (st' : DS), F__law_ln_two [.drw, .int 8] st = some (.p B.d, st') ∧ BkOk B ∧ StOk (m + 35) st' := by
  obtain ⟨k, s1, a1, a2, a3, a4⟩ := p_draw (room := 9) hs (by omega) (by decide) (by decide)
  obtain ⟨ys, s2, g1, g2, g3, g4⟩ := compGo_dr (g := nameG 3) (f := callE tupleD (consA (compE (seqI (tupE 2 (consA (cE (.int 0)) (consA (cE (.int 1)) nilA)))) (nameG 4) yesT (callF F__law_draw (consA (varE 0) (consA (cE (.int 7)) nilA))) [4]) nilA)) (env0 := [.p .drw, .p (.int 8), .u, .u, .u])
    (fun y => ∃ u v : Int, y = e2 (u, v) ∧ 0 ≤ u ∧ u < 7 ∧ 0 ≤ v ∧ v < 7) 2 900000 (rangeL 0 k) (m + 1) s1 a4 (by unfold rangeL; rw [List.length_map, List.length_range]; omega) (fun x hx m st hs hm => by
      obtain ⟨u, t1, c1, c2, c3, c4⟩ := p_draw (room := 7) hs (by omega) (by decide) (by decide)
      obtain ⟨v, t2, e1, e2', e3, e4⟩ := p_draw (room := 7) c4 (by omega) (by decide) (by decide)
      refine ⟨[.p .drw, .p (.int 8), .u, .p x, .u], e2 (u, v), t2, rfl, ?_, ⟨u, v, rfl, c2, c3, e2', e3⟩, e4⟩
      refine ev_callE (ev_cons (ev_comp (items := [.int 0, .int 1]) (ds := [.int u, .int v]) (ev_seqI (ev_tup (ev_cons ev_c (ev_cons ev_c ev_nil))) rfl) ?_) ev_nil) rfl
      refine ev_bd (s1 := st) (a := [.p .drw, .p (.int 8), .u, .p x, .p (.int 0)]) rfl (ev_bd (s1 := st) (a := true) rfl ?_)
      rw [if_pos rfl]
      refine ev_bd (a := .int u) (s1 := t1) (ev_callF (ev_cons (ev_var rfl) (ev_cons ev_c ev_nil)) c1) ?_
      refine ev_bd (a := [.int v]) (s1 := t2) ?_ rfl
      refine ev_bd (s1 := t1) (a := [.p .drw, .p (.int 8), .u, .p x, .p (.int 1)]) rfl (ev_bd (s1 := t1) (a := true) rfl ?_)
      rw [if_pos rfl]
      exact ev_bd (a := .int v) (s1 := t2) (ev_callF (ev_cons (ev_var rfl) (ev_cons ev_c ev_nil)) e1) rfl)
  have hlen : (rangeL 0 k).length = k.toNat := by unfold rangeL; rw [List.length_map, List.length_range, Int.sub_zero]
  rw [hlen] at g3 g4
  obtain ⟨w0, rfl, hw⟩ := all_e2 g2
  rw [List.length_map] at g3
  have r2 : compE (seqI (varE 2)) (nameG 4) yesT (iteE (testE (bin neD (peekE 4) (tupE 2 (consA (cE (.int 0)) (consA (cE (.int 0)) nilA))))) (varE 4) (tupE 2 (consA (cE (.int 1)) (consA (cE (.int 1)) nilA)))) [4] [.p .drw, .p (.int 8), .p (.lst (w0.map e2)), .u, .u] s2 = some (.lst ((w0.map fixW).map e2), s2) := by
    rw [List.map_map]
    refine ev_compY (enc := e2) (xs := w0) (hh := fun z => e2 (fixW z)) (ev_seqI (ev_var rfl) rfl) (fun z hz => ⟨_, rfl, ?_⟩)
    have t := ev_test (ev_bin (ev_peek (i := 4) (env := [.p .drw, .p (.int 8), .p (.lst (w0.map e2)), .u, .p (e2 z)]) (st := s2) rfl) (ev_tup (n := 2) (ev_cons ev_c (ev_cons ev_c ev_nil))) (neD_tupD [z.1, z.2] [0, 0]))
    unfold fixW
    by_cases e : z = (0, 0)
    · rw [if_pos e]
      subst e
      exact ev_iteF t (ev_tup (ev_cons ev_c (ev_cons ev_c ev_nil)))
    · rw [if_neg e]
      have : decide (([z.1, z.2] : List Int) = [0, 0]) = false := decide_eq_false fun e' => e (by
        have h1 : z.1 = 0 ∧ z.2 = 0 := by simpa using e'
        exact Prod.ext h1.1 h1.2)
      rw [this] at t
      exact ev_iteT t (ev_var rfl)
  obtain ⟨v0, s3, c1, c2, c3, c4⟩ := p_draw (room := 30) (g4.mono (show m + 1 + 2 * k.toNat ≤ m + 17 by omega)) (by omega) (by decide) (by decide)
  obtain ⟨v1, s4, d1, d2, d3, d4⟩ := p_draw (room := 30) c4 (by omega) (by decide) (by decide)
  obtain ⟨l0, l1, s5, f1, f2, f3, f4⟩ := p_likes (d4.mono (show m + 17 + 1 + 1 ≤ m + 19 by omega)) (by omega) (w0.map fixW) (by rw [List.length_map]; omega)
  refine ⟨⟨1 + v0, 1 + v1, w0.map fixW, l0, l1⟩, s5, ?_, ⟨by show 1 ≤ 1 + v0 ∧ 1 + v0 ≤ 1000000000; omega, by show 1 ≤ 1 + v1 ∧ 1 + v1 ≤ 1000000000; omega, by show (w0.map fixW).length ≤ 8; rw [List.length_map]; omega, fun z hz => ?_, f2, f3⟩, f4.mono (by omega)⟩
  · refine ev_body (ev_seq (ev_set (ev_comp (ev_range1 (ev_callF (ev_cons (ev_var rfl) (ev_cons (ev_bin (ev_peek rfl) ev_c rfl) ev_nil)) a1) (by omega)) g1)) (ev_seq (ev_set r2) (ev_ret ?_)))
    exact ev_tup (ev_cons ev_c (ev_cons (ev_tup (ev_cons (ev_bin ev_c (ev_callF (ev_cons (ev_var rfl) (ev_cons ev_c ev_nil)) c1) rfl) (ev_cons (ev_bin ev_c (ev_callF (ev_cons (ev_var rfl) (ev_cons ev_c ev_nil)) d1) rfl) ev_nil))) (ev_cons (ev_callE (ev_cons (ev_peek rfl) ev_nil) rfl) (ev_cons (ev_callF (ev_cons (ev_var rfl) (ev_cons (ev_var rfl) (ev_cons ev_c ev_nil))) f1) ev_nil))))
  · obtain ⟨y, hy, rfl⟩ := List.mem_map.mp hz
    have := hw y hy
    unfold fixW
    by_cases e : y = (0, 0)
    · rw [if_pos e]; decide
    · rw [if_neg e]
      have : ¬ (y.1 = 0 ∧ y.2 = 0) := fun ⟨e1, e2⟩ => e (Prod.ext e1 e2)
      omega
def lastB : Bk := ⟨3, 4, [(1, 1), (2, 1), (1, 2), (1, 0), (0, 3)], [0, 1, 2, 3], [2, 4, 1, 0]⟩
theorem lastB_ok : BkOk lastB := ⟨by decide, by decide, by decide, by decide, by decide, by decide⟩
theorem law_holds : LawHolds := by
  intro ns hns
  have s0 : StOk 0 (beginSt ns) := by
    refine ⟨Int.le_refl 0, Int.le_refl 0, Int.le_refl 0, fun g hg => ?_⟩
    obtain ⟨n, hn, rfl⟩ := List.mem_map.mp hg
    have := of_decide_eq_true (List.mem_filter.mp hn).2
    omega
  have hn : 0 ≤ lawN ns ∧ lawN ns ≤ 8 := by
    unfold lawN
    split <;> omega
  have hlen : (rangeL 0 (lawN ns)).length = (lawN ns).toNat := by unfold rangeL; rw [List.length_map, List.length_range, Int.sub_zero]
  obtain ⟨env', s1, h1, ⟨y2, y3, rfl⟩, h3⟩ := forGo_dr (g := nameG 2) (F := B_body) (fun env => ∃ y2 y3, env = [.u, .p .drw, y2, y3]) 125 900000 (rangeL 0 (lawN ns)) 0 (beginSt ns) [.u, .p .drw, .u, .u] s0 (by rw [hlen]; omega) ⟨_, _, rfl⟩ (fun x hx m st env hs hm hI => by
    obtain ⟨y2, y3, rfl⟩ := hI
    obtain ⟨B, t1, b1, b2, b3⟩ := p_two hs (by omega)
    have st3 : setS 3 (callF F__law_ln_two (consA (varE 1) (consA (cE (.int 8)) nilA))) [.u, .p .drw, .p x, y3] st = some ((.nx, [.u, .p .drw, .p x, .p B.d]), t1) := ev_set (ev_callF (ev_cons (ev_var rfl) (ev_cons ev_c ev_nil)) b1)
    have tw : testE (bin neD (bin (getAD true) (peekE 3) (cE (.int 2))) (tupE 0 nilA)) [.u, .p .drw, .p x, .p B.d] t1 = some (!(B.ws.map e2).isEmpty, t1) := ev_test (ev_bin (ev_bin (ev_peek rfl) ev_c rfl) (ev_tup ev_nil) (neD_tnil (flatL_all 59 _ fun x hx => by
      obtain ⟨z, _, rfl⟩ := List.mem_map.mp hx
      exact flat_tupD 58 _)))
    cases he : (B.ws.map e2).isEmpty with
    | true =>
      rw [he] at tw
      exact ⟨_, [.u, .p .drw, .p x, .p B.d], t1, rfl, ev_seq st3 (ev_ifF' (ev_andT (b := true) tw (fun e => by cases e)) rfl ev_nilS), ⟨_, _, rfl⟩, b3.mono (by omega)⟩
    | false =>
      rw [he] at tw
      obtain ⟨t2, c1, c2⟩ := p_goes (mkBK b2) b3 (by omega)
      exact ⟨_, [.u, .p .drw, .p x, .p B.d], t2, rfl, ev_seq st3 (ev_ifF' (bb := !true) (ev_andT1 tw (ev_not (ev_test (ev_callF (ev_cons (ev_var rfl) (ev_cons (ev_var rfl) ev_nil)) c1)))) rfl ev_nilS), ⟨_, _, rfl⟩, c2⟩)
  rw [hlen] at h3
  obtain ⟨s2, c1, c2⟩ := p_goes (mkBK lastB_ok) h3 (by omega)
  refine ⟨_, s2, ev_seq h1 (ev_ret (ev_callF (ev_cons (ev_var rfl) (ev_cons ?_ ev_nil)) c1))⟩
  exact ev_tup (ev_cons ev_c (ev_cons (ev_tup (ev_cons ev_c (ev_cons ev_c ev_nil))) (ev_cons (ev_tup (ev_cons (ev_tup (ev_cons ev_c (ev_cons ev_c ev_nil))) (ev_cons (ev_tup (ev_cons ev_c (ev_cons ev_c ev_nil))) (ev_cons (ev_tup (ev_cons ev_c (ev_cons ev_c ev_nil))) (ev_cons (ev_tup (ev_cons ev_c (ev_cons ev_c ev_nil))) (ev_cons (ev_tup (ev_cons ev_c (ev_cons ev_c ev_nil))) ev_nil)))))) (ev_cons (ev_tup (ev_cons (ev_tup (ev_cons ev_c (ev_cons ev_c (ev_cons ev_c (ev_cons ev_c ev_nil))))) (ev_cons (ev_tup (ev_cons ev_c (ev_cons ev_c (ev_cons ev_c (ev_cons ev_c ev_nil))))) ev_nil))) ev_nil))))
end Y
end

section
set_option Elab.async false
set_option linter.all false
set_option maxRecDepth 100000
set_option maxHeartbeats 0
set_option autoImplicit false
namespace Y
open PySem PySem.Spec L2
open PyProof.Rows hiding St

theorem all_ok {E : En} (h : Fc E) (hl : LawHolds) {f : Addr} {fd : FuncData} (FD : FunD E.K "law" "law" (defArgs (Hd.top 62)) (defBody (Hd.top 62)) (defScope (Hd.top 62)) [] [] f fd) : FnOk E.P E.w E.K E.mg E.base CX0 10 f fd ["script"] (spLaw E.K) := by
  have c__law_taste := ok__law_taste h 
  have c__law_tastes := ok__law_tastes h c__law_taste
  have c__law_ln_chain := ok__law_ln_chain h c__law_tastes
  have c_is_whole := ok_is_whole h 
  have c_are_hours := ok_are_hours h c_is_whole
  have c_are_all := ok_are_all h c_is_whole
  have c_are_uses := ok_are_uses h c_is_whole
  have c_used_by := ok_used_by h 
  have c_is_book := ok_is_book h c_are_hours c_are_all c_are_uses c_used_by
  have c_need_book := ok_need_book h c_is_book
  have c_taste_in := ok_taste_in h 
  have c_tastes_in := ok_tastes_in h c_taste_in
  have c_persons_many := ok_persons_many h 
  have c_lots_in := ok_lots_in h 
  have c_columns_many := ok_columns_many h 
  have c_least_places := ok_least_places h 
  have c_columns_above := ok_columns_above h c_least_places
  have c_face_counts := ok_face_counts h c_need_book c_tastes_in c_persons_many c_lots_in c_columns_many c_columns_above
  have c_is_lot_of := ok_is_lot_of h c_is_whole c_columns_many
  have c_is_room_of := ok_is_room_of h c_persons_many c_is_lot_of c_columns_above c_tastes_in
  have c_need_room := ok_need_room h c_need_book c_is_room_of
  have c_need_rooms := ok_need_rooms h c_need_room c_is_room_of
  have c_without := ok_without h 
  have c_other_room := ok_other_room h c_tastes_in c_without c_columns_many c_columns_above
  have c_room_way := ok_room_way h c_need_rooms c_other_room
  have c__law_blended := ok__law_blended h 
  have c__law_draw := ok__law_draw h c__law_blended
  have c_is_room_way := ok_is_room_way h c_need_rooms c_other_room c_is_whole
  have c__law_ways_go := ok__law_ways_go h c_room_way c__law_draw c_is_room_way
  have c_need_lot := ok_need_lot h c_need_book c_is_lot_of c_persons_many
  have c_above_all := ok_above_all h c_need_lot c_columns_above c_tastes_in
  have c_is_face := ok_is_face h c_above_all
  have c__law_shuffled := ok__law_shuffled h c__law_draw
  have c__law_above_goes := ok__law_above_goes h c_above_all c_is_face c__law_shuffled c__law_draw
  have c_rooms_in := ok_rooms_in h c_tastes_in c_lots_in c_columns_many c_persons_many c_columns_above
  have c_rooms_of := ok_rooms_of h c_need_book c_rooms_in
  have c_walls_of := ok_walls_of h c_rooms_of c_without
  have c_homes_in := ok_homes_in h c_tastes_in
  have c_homes_of := ok_homes_of h c_need_room c_homes_in
  have c_is_room := ok_is_room h c_need_book c_is_room_of
  have c_is_below := ok_is_below h c_is_whole
  have c_need_column := ok_need_column h c_is_below c_columns_many
  have c_room_beyond := ok_room_beyond h c_need_room c_need_column c_other_room
  have c__law_goes := ok__law_goes h c__law_ln_chain c__law_tastes c_face_counts c__law_ways_go c__law_above_goes c_rooms_of c_walls_of c_homes_of c_is_room c_room_beyond
  have c__law_likes := ok__law_likes h c__law_shuffled
  have c__law_ln_two := ok__law_ln_two h c__law_likes c__law_draw
  exact ok_law h c__law_goes c__law_ln_two hl FD
theorem facts_of {P : Program} {w : World} {K : PySem.W.Frag} {h : Heap} {mg : Str → Option Value} (X : K.In h) (G : h.Ns mainGlobals mg) (c : He.SaysD Hd.fa Hd.fn K) (base : Heap) : Fc ⟨P, w, K, [], (fun a o e => by cases e), mg, base⟩ where
  T0 := rfl
  b_abs := He.free_ok X G (c.fact 52 (f := .free "abs") rfl)
  b_all := He.free_ok X G (c.fact 53 (f := .free "all") rfl)
  b_bool := He.free_ok X G (c.fact 54 (f := .free "bool") rfl)
  b_dict := He.free_ok X G (c.fact 55 (f := .free "dict") rfl)
  b_enumerate := He.free_ok X G (c.fact 56 (f := .free "enumerate") rfl)
  b_int := He.free_ok X G (c.fact 57 (f := .free "int") rfl)
  b_isinstance := He.free_ok X G (c.fact 58 (f := .free "isinstance") rfl)
  b_len := He.free_ok X G (c.fact 59 (f := .free "len") rfl)
  b_list := He.free_ok X G (c.fact 60 (f := .free "list") rfl)
  b_min := He.free_ok X G (c.fact 61 (f := .free "min") rfl)
  b_range := He.free_ok X G (c.fact 62 (f := .free "range") rfl)
  b_sorted := He.free_ok X G (c.fact 63 (f := .free "sorted") rfl)
  b_str := He.free_ok X G (c.fact 64 (f := .free "str") rfl)
  b_sum := He.free_ok X G (c.fact 65 (f := .free "sum") rfl)
  b_tuple := He.free_ok X G (c.fact 66 (f := .free "tuple") rfl)
  b_zip := He.free_ok X G (c.fact 67 (f := .free "zip") rfl)
  MOST_PERSONS := He.int_ok X G (c.fact 48 (f := .int "MOST_PERSONS" 4) rfl)
  MOST_WORKS := He.int_ok X G (c.fact 49 (f := .int "MOST_WORKS" 8) rfl)
  MOST_HOURS := He.int_ok X G (c.fact 50 (f := .int "MOST_HOURS" 1000000000) rfl)
  MOST_USE := He.int_ok X G (c.fact 51 (f := .int "MOST_USE" 1000000) rfl)
  d_is_whole := by
    obtain ⟨fd, F⟩ := c.def_ 0 (d := Hd.dd "is_whole" 7) rfl
    exact ⟨_, fd, F, He.glo_ok X G (c.fact 0 (f := .glo "is_whole") rfl)⟩
  d_persons_many := by
    obtain ⟨fd, F⟩ := c.def_ 1 (d := Hd.dd "persons_many" 13) rfl
    exact ⟨_, fd, F, He.glo_ok X G (c.fact 1 (f := .glo "persons_many") rfl)⟩
  d_columns_many := by
    obtain ⟨fd, F⟩ := c.def_ 2 (d := Hd.dd "columns_many" 14) rfl
    exact ⟨_, fd, F, He.glo_ok X G (c.fact 2 (f := .glo "columns_many") rfl)⟩
  d_are_hours := by
    obtain ⟨fd, F⟩ := c.def_ 3 (d := Hd.dd "are_hours" 15) rfl
    exact ⟨_, fd, F, He.glo_ok X G (c.fact 3 (f := .glo "are_hours") rfl)⟩
  d_are_uses := by
    obtain ⟨fd, F⟩ := c.def_ 4 (d := Hd.dd "are_uses" 16) rfl
    exact ⟨_, fd, F, He.glo_ok X G (c.fact 4 (f := .glo "are_uses") rfl)⟩
  d_are_all := by
    obtain ⟨fd, F⟩ := c.def_ 5 (d := Hd.dd "are_all" 17) rfl
    exact ⟨_, fd, F, He.glo_ok X G (c.fact 5 (f := .glo "are_all") rfl)⟩
  d_used_by := by
    obtain ⟨fd, F⟩ := c.def_ 6 (d := Hd.dd "used_by" 18) rfl
    exact ⟨_, fd, F, He.glo_ok X G (c.fact 6 (f := .glo "used_by") rfl)⟩
  d_is_book := by
    obtain ⟨fd, F⟩ := c.def_ 7 (d := Hd.dd "is_book" 19) rfl
    exact ⟨_, fd, F, He.glo_ok X G (c.fact 7 (f := .glo "is_book") rfl)⟩
  d_need_book := by
    obtain ⟨fd, F⟩ := c.def_ 8 (d := Hd.dd "need_book" 20) rfl
    exact ⟨_, fd, F, He.glo_ok X G (c.fact 8 (f := .glo "need_book") rfl)⟩
  d_is_below := by
    obtain ⟨fd, F⟩ := c.def_ 9 (d := Hd.dd "is_below" 21) rfl
    exact ⟨_, fd, F, He.glo_ok X G (c.fact 9 (f := .glo "is_below") rfl)⟩
  d_need_column := by
    obtain ⟨fd, F⟩ := c.def_ 10 (d := Hd.dd "need_column" 22) rfl
    exact ⟨_, fd, F, He.glo_ok X G (c.fact 10 (f := .glo "need_column") rfl)⟩
  d_taste_in := by
    obtain ⟨fd, F⟩ := c.def_ 11 (d := Hd.dd "taste_in" 23) rfl
    exact ⟨_, fd, F, He.glo_ok X G (c.fact 11 (f := .glo "taste_in") rfl)⟩
  d_tastes_in := by
    obtain ⟨fd, F⟩ := c.def_ 12 (d := Hd.dd "tastes_in" 24) rfl
    exact ⟨_, fd, F, He.glo_ok X G (c.fact 12 (f := .glo "tastes_in") rfl)⟩
  d_lots_in := by
    obtain ⟨fd, F⟩ := c.def_ 13 (d := Hd.dd "lots_in" 26) rfl
    exact ⟨_, fd, F, He.glo_ok X G (c.fact 13 (f := .glo "lots_in") rfl)⟩
  d_least_places := by
    obtain ⟨fd, F⟩ := c.def_ 14 (d := Hd.dd "least_places" 27) rfl
    exact ⟨_, fd, F, He.glo_ok X G (c.fact 14 (f := .glo "least_places") rfl)⟩
  d_columns_above := by
    obtain ⟨fd, F⟩ := c.def_ 15 (d := Hd.dd "columns_above" 28) rfl
    exact ⟨_, fd, F, He.glo_ok X G (c.fact 15 (f := .glo "columns_above") rfl)⟩
  d_is_lot_of := by
    obtain ⟨fd, F⟩ := c.def_ 16 (d := Hd.dd "is_lot_of" 29) rfl
    exact ⟨_, fd, F, He.glo_ok X G (c.fact 16 (f := .glo "is_lot_of") rfl)⟩
  d_need_lot := by
    obtain ⟨fd, F⟩ := c.def_ 17 (d := Hd.dd "need_lot" 30) rfl
    exact ⟨_, fd, F, He.glo_ok X G (c.fact 17 (f := .glo "need_lot") rfl)⟩
  d_rooms_in := by
    obtain ⟨fd, F⟩ := c.def_ 18 (d := Hd.dd "rooms_in" 31) rfl
    exact ⟨_, fd, F, He.glo_ok X G (c.fact 18 (f := .glo "rooms_in") rfl)⟩
  d_rooms_of := by
    obtain ⟨fd, F⟩ := c.def_ 19 (d := Hd.dd "rooms_of" 32) rfl
    exact ⟨_, fd, F, He.glo_ok X G (c.fact 19 (f := .glo "rooms_of") rfl)⟩
  d_is_room_of := by
    obtain ⟨fd, F⟩ := c.def_ 20 (d := Hd.dd "is_room_of" 33) rfl
    exact ⟨_, fd, F, He.glo_ok X G (c.fact 20 (f := .glo "is_room_of") rfl)⟩
  d_is_room := by
    obtain ⟨fd, F⟩ := c.def_ 21 (d := Hd.dd "is_room" 34) rfl
    exact ⟨_, fd, F, He.glo_ok X G (c.fact 21 (f := .glo "is_room") rfl)⟩
  d_need_room := by
    obtain ⟨fd, F⟩ := c.def_ 22 (d := Hd.dd "need_room" 35) rfl
    exact ⟨_, fd, F, He.glo_ok X G (c.fact 22 (f := .glo "need_room") rfl)⟩
  d_homes_in := by
    obtain ⟨fd, F⟩ := c.def_ 23 (d := Hd.dd "homes_in" 36) rfl
    exact ⟨_, fd, F, He.glo_ok X G (c.fact 23 (f := .glo "homes_in") rfl)⟩
  d_homes_of := by
    obtain ⟨fd, F⟩ := c.def_ 24 (d := Hd.dd "homes_of" 37) rfl
    exact ⟨_, fd, F, He.glo_ok X G (c.fact 24 (f := .glo "homes_of") rfl)⟩
  d_above_all := by
    obtain ⟨fd, F⟩ := c.def_ 25 (d := Hd.dd "above_all" 38) rfl
    exact ⟨_, fd, F, He.glo_ok X G (c.fact 25 (f := .glo "above_all") rfl)⟩
  d_is_face := by
    obtain ⟨fd, F⟩ := c.def_ 26 (d := Hd.dd "is_face" 39) rfl
    exact ⟨_, fd, F, He.glo_ok X G (c.fact 26 (f := .glo "is_face") rfl)⟩
  d_face_counts := by
    obtain ⟨fd, F⟩ := c.def_ 27 (d := Hd.dd "face_counts" 40) rfl
    exact ⟨_, fd, F, He.glo_ok X G (c.fact 27 (f := .glo "face_counts") rfl)⟩
  d_without := by
    obtain ⟨fd, F⟩ := c.def_ 28 (d := Hd.dd "without" 42) rfl
    exact ⟨_, fd, F, He.glo_ok X G (c.fact 28 (f := .glo "without") rfl)⟩
  d_other_room := by
    obtain ⟨fd, F⟩ := c.def_ 29 (d := Hd.dd "other_room" 43) rfl
    exact ⟨_, fd, F, He.glo_ok X G (c.fact 29 (f := .glo "other_room") rfl)⟩
  d_room_beyond := by
    obtain ⟨fd, F⟩ := c.def_ 30 (d := Hd.dd "room_beyond" 44) rfl
    exact ⟨_, fd, F, He.glo_ok X G (c.fact 30 (f := .glo "room_beyond") rfl)⟩
  d_walls_of := by
    obtain ⟨fd, F⟩ := c.def_ 31 (d := Hd.dd "walls_of" 45) rfl
    exact ⟨_, fd, F, He.glo_ok X G (c.fact 31 (f := .glo "walls_of") rfl)⟩
  d_need_rooms := by
    obtain ⟨fd, F⟩ := c.def_ 32 (d := Hd.dd "need_rooms" 46) rfl
    exact ⟨_, fd, F, He.glo_ok X G (c.fact 32 (f := .glo "need_rooms") rfl)⟩
  d_room_way := by
    obtain ⟨fd, F⟩ := c.def_ 33 (d := Hd.dd "room_way" 47) rfl
    exact ⟨_, fd, F, He.glo_ok X G (c.fact 33 (f := .glo "room_way") rfl)⟩
  d_is_room_way := by
    obtain ⟨fd, F⟩ := c.def_ 34 (d := Hd.dd "is_room_way" 48) rfl
    exact ⟨_, fd, F, He.glo_ok X G (c.fact 34 (f := .glo "is_room_way") rfl)⟩
  d__law_ln_chain := by
    obtain ⟨fd, F⟩ := c.def_ 35 (d := Hd.dd "_law_ln_chain" 50) rfl
    exact ⟨_, fd, F, He.glo_ok X G (c.fact 35 (f := .glo "_law_ln_chain") rfl)⟩
  d__law_ln_two := by
    obtain ⟨fd, F⟩ := c.def_ 36 (d := Hd.dd "_law_ln_two" 51) rfl
    exact ⟨_, fd, F, He.glo_ok X G (c.fact 36 (f := .glo "_law_ln_two") rfl)⟩
  d__law_begun := by
    obtain ⟨fd, F⟩ := c.def_ 37 (d := Hd.dd "_law_begun" 52) rfl
    exact ⟨_, fd, F, He.glo_ok X G (c.fact 37 (f := .glo "_law_begun") rfl)⟩
  d__law_blended := by
    obtain ⟨fd, F⟩ := c.def_ 38 (d := Hd.dd "_law_blended" 53) rfl
    exact ⟨_, fd, F, He.glo_ok X G (c.fact 38 (f := .glo "_law_blended") rfl)⟩
  d__law_draw := by
    obtain ⟨fd, F⟩ := c.def_ 39 (d := Hd.dd "_law_draw" 54) rfl
    exact ⟨_, fd, F, He.glo_ok X G (c.fact 39 (f := .glo "_law_draw") rfl)⟩
  d__law_shuffled := by
    obtain ⟨fd, F⟩ := c.def_ 40 (d := Hd.dd "_law_shuffled" 55) rfl
    exact ⟨_, fd, F, He.glo_ok X G (c.fact 40 (f := .glo "_law_shuffled") rfl)⟩
  d__law_likes := by
    obtain ⟨fd, F⟩ := c.def_ 41 (d := Hd.dd "_law_likes" 56) rfl
    exact ⟨_, fd, F, He.glo_ok X G (c.fact 41 (f := .glo "_law_likes") rfl)⟩
  d__law_taste := by
    obtain ⟨fd, F⟩ := c.def_ 42 (d := Hd.dd "_law_taste" 57) rfl
    exact ⟨_, fd, F, He.glo_ok X G (c.fact 42 (f := .glo "_law_taste") rfl)⟩
  d__law_tastes := by
    obtain ⟨fd, F⟩ := c.def_ 43 (d := Hd.dd "_law_tastes" 58) rfl
    exact ⟨_, fd, F, He.glo_ok X G (c.fact 43 (f := .glo "_law_tastes") rfl)⟩
  d__law_goes := by
    obtain ⟨fd, F⟩ := c.def_ 44 (d := Hd.dd "_law_goes" 59) rfl
    exact ⟨_, fd, F, He.glo_ok X G (c.fact 44 (f := .glo "_law_goes") rfl)⟩
  d__law_ways_go := by
    obtain ⟨fd, F⟩ := c.def_ 45 (d := Hd.dd "_law_ways_go" 60) rfl
    exact ⟨_, fd, F, He.glo_ok X G (c.fact 45 (f := .glo "_law_ways_go") rfl)⟩
  d__law_above_goes := by
    obtain ⟨fd, F⟩ := c.def_ 46 (d := Hd.dd "_law_above_goes" 61) rfl
    exact ⟨_, fd, F, He.glo_ok X G (c.fact 46 (f := .glo "_law_above_goes") rfl)⟩
  d_law := by
    obtain ⟨fd, F⟩ := c.def_ 47 (d := Hd.dd "law" 62) rfl
    exact ⟨_, fd, F, He.glo_ok X G (c.fact 47 (f := .glo "law") rfl)⟩
end Y
open PySem PySem.W PySem.Calls PyProof.Rows
theorem PySem.Challenge.cw_settledhours_k21_whole_rooms_of_two_pers_holds : PySem.Challenge.rw_settledhours_k21_whole_rooms_of_two_pers.Holds := by
  refine Hd.fin_head ?_
  refine L2.walk_ofE (l := PySem.Challenge.rw_settledhours_k21_whole_rooms_of_two_pers) (n := 63) (k := 10) (x := "script") (CX := L2.CX0) rfl (by decide) (by kernel_rfl) ⟨rfl, by decide, by decide⟩ ?F (fun _ _ _ _ z => z)
  intro w mg fa h Yy G hmg0
  obtain ⟨K, KX, c⟩ := Yy
  have hmg : mg ("law" : PySem.Str) = some (.ref fa) := by
    have e : (HandSHeadRun.topDef (OpenLaw.row PySem.Challenge.rw_settledhours_k21_whole_rooms_of_two_pers).prog 62).name = ("law" : PySem.Str) := by kernel_rfl
    rw [← e]
    exact hmg0
  obtain ⟨f0, fd, F, hm⟩ := (Y.facts_of (P := (PySem.Challenge.rw_settledhours_k21_whole_rooms_of_two_pers).prog) (w := w) KX G c h).d_law
  have e0 : f0 = fa := by
    have := hm.symm.trans hmg
    injection this with this
    injection this
  subst e0
  have b := L2.FunD.bindsA (ps := ["script"]) F fun _ _ _ _ _ _ us hl => match us, hl with | [_], _ => rfl
  exact ⟨K, fd, Y.spLaw K, KX, fun s v => b s [v] rfl, fun H a ns hl' _ hS => ⟨a, ns, rfl, hS, hl', fun _ => rfl⟩, fun base KB GB => Y.all_ok (Y.facts_of (P := (PySem.Challenge.rw_settledhours_k21_whole_rooms_of_two_pers).prog) (w := w) KB GB c base) Y.law_holds F⟩
end
