import PyProof.Rows.All
import HandS.ForMost
import HandS.ForExc
import HandS.Walk
import HandS.TupAny
import HandS.TupLe
import HandS.Zip
import HandS.Conv
import HandS.TupMul
import HandS.IsInst
import HandS.TryOnly
import KE.GoesEnum
import HandS.Style
import KE.GoesZip
import HandS.ExcValue
import HandS.Deep
import HandS.GenList
import HandS.HotCalls
import HandS.ExcIs
import HandS.Lambda
import HandS.Nested
import HandS.EndTab
import PyProof.Rows.SortShellAny
import HandS.TupSets
import HandS.Strs
import HandS.SetFor
import KE.SortCalls
import PySem.Challenge.RW_chargerules_k11_rows_counted
set_option Elab.async false
set_option linter.all false
set_option maxRecDepth 100000
set_option maxHeartbeats 4000000
namespace DL
open PySem PySem.Spec PyProof.Rows L2

/-! ### heaps: what is known stays -/
def Ex (H H' : Hp) : Prop := ∀ a o, H a = some o → H' a = some o
theorem Ex.refl (H : Hp) : Ex H H := fun _ _ h => h
theorem Ex.trans {A B C : Hp} (x : Ex A B) (y : Ex B C) : Ex A C := fun a o h => y a o (x a o h)
theorem Ex.new {H : Hp} {p : Addr} {o : HO} (h : H p = none) : Ex H (upd H p o) := fun a u e => by
  rw [upd_ne (ne_of_none e h)]; exact e
theorem Ex.both {A B : Hp} {p : Addr} {o : HO} (x : Ex A B) (h : B p = none) : Ex (upd A p o) (upd B p o) := fun a u e => by
  by_cases q : a = p
  · subst q; rw [upd_same] at e ⊢; exact e
  · rw [upd_ne q] at e ⊢; exact x a u e
theorem Ex.none {A B : Hp} {p : Addr} (x : Ex A B) (h : B p = none) : A p = none := by
  cases q : A p with
  | none => rfl
  | some o => rw [x p o q] at h; cases h
theorem Ex.rd {H H' : Hp} {a : Addr} {u : HO} (e : Ex H H') (h : Rd H a u) : Rd H' a u := by
  rcases h with h | ⟨o, h⟩
  · exact .inl (e a _ h)
  · exact .inr ⟨o, e a _ h⟩
/-- the values of the text's own functions and classes, by names -/
structure Fn where
  f : Str → Option V
  /-- lists that stand for good (the script, where it is the module's own) -/
  own : Addr → List V → Prop
instance : CoeFun Fn fun _ => Str → Option V := ⟨Fn.f⟩
/-! data as it stands in a heap; .dict [(.str n, .none)] is a function of the text, by its name -/
mutual
inductive Dd (K : Fn) (H : Hp) : V → PyData → Prop where
  | non : Dd K H .non .none
  | bl (b : Bool) : Dd K H (.bl b) (.bool b)
  | int (i : Int) : Dd K H (.int i) (.int i)
  | str (x : Str) : Dd K H (.str x) (.str x)
  | lst {a : Addr} {vs : List V} {ds : List PyData} (h : H a = some (.lst vs)) (k : DdAll K H vs ds) : Dd K H (.ref a) (.list ds)
  | tup {a : Addr} {vs : List V} {ds : List PyData} (h : H a = some (.tup vs)) (k : DdAll K H vs ds) : Dd K H (.ref a) (.tuple ds)
  | fn {n : Str} {v : V} (h : K n = some v) : Dd K H v (.dict [(.str n, .none)])
  | scr {a : Addr} {vs : List V} {ds : List PyData} (h : Rd H a (.lst vs) ∨ K.own a vs) (k : DdAll K H vs ds) : Dd K H (.ref a) (.dict [(.str "script", .list ds)])
inductive DdAll (K : Fn) (H : Hp) : List V → List PyData → Prop where
  | nil : DdAll K H [] []
  | cons {v : V} {vs : List V} {d : PyData} {ds : List PyData} (h : Dd K H v d) (t : DdAll K H vs ds) : DdAll K H (v :: vs) (d :: ds)
end
mutual
theorem Ex.dp {K : Fn} {H H' : Hp} (e : Ex H H') : ∀ {v : V} {d : PyData}, Dd K H v d → Dd K H' v d
  | _, _, .non => .non
  | _, _, .bl b => .bl b
  | _, _, .int i => .int i
  | _, _, .str x => .str x
  | _, _, .lst h k => .lst (e _ _ h) (Ex.dpAll e k)
  | _, _, .tup h k => .tup (e _ _ h) (Ex.dpAll e k)
  | _, _, .fn h => .fn h
  | _, _, .scr h k => .scr (h.imp (Ex.rd e) _root_.id) (Ex.dpAll e k)
theorem Ex.dpAll {K : Fn} {H H' : Hp} (e : Ex H H') : ∀ {vs : List V} {ds : List PyData}, DdAll K H vs ds → DdAll K H' vs ds
  | _, _, .nil => .nil
  | _, _, .cons h k => .cons (Ex.dp e h) (Ex.dpAll e k)
end
mutual
theorem Dd.old {K : PySem.W.Frag} {L : Fn} {H : Hp} : ∀ {v : V} {d : PyData}, Dd L H v d → d.canLay0 = true → Dp K H v d
  | _, _, .non, _ => .non
  | _, _, .bl b, _ => .bl b
  | _, _, .int i, _ => .int i
  | _, _, .str x, _ => .str x
  | _, _, .lst h k, q => .lst (.of h) (DdAll.old k (by rw [PyData.canLay0] at q; exact q))
  | _, _, .tup h k, q => .tup (.of h) (DdAll.old k (by rw [PyData.canLay0] at q; exact q))
  | _, _, .fn h, q => by rw [PyData.canLay0] at q; cases q
  | _, _, .scr h k, q => by rw [PyData.canLay0] at q; cases q
theorem DdAll.old {K : PySem.W.Frag} {L : Fn} {H : Hp} : ∀ {vs : List V} {ds : List PyData}, DdAll L H vs ds → PyData.canLayAll0 ds = true → DpAll K H vs ds
  | _, _, .nil, _ => .nil
  | _, _, .cons h k, q => by
    rw [PyData.canLayAll0, Bool.and_eq_true] at q
    exact .cons (Dd.old h q.1) (DdAll.old k q.2)
end
section
variable {K : Fn} {H : Hp}
theorem DdAll.len : ∀ {vs : List V} {ds : List PyData}, DdAll K H vs ds → vs.length = ds.length
  | _, _, .nil => rfl
  | _, _, .cons _ k => congrArg (· + 1) k.len
theorem DdAll.get : ∀ {vs : List V} {ds : List PyData} {i : Nat} {d : PyData}, DdAll K H vs ds → ds[i]? = some d → ∃ v, vs[i]? = some v ∧ Dd K H v d
  | _, _, _, _, .nil, e => by simp at e
  | _, _, 0, _, .cons h _, e => by simp at e; subst e; exact ⟨_, rfl, h⟩
  | _, _, i + 1, d, .cons _ t, e => by
    obtain ⟨v, h1, h2⟩ := DdAll.get (i := i) (d := d) t (by simpa using e)
    exact ⟨v, by simpa using h1, h2⟩
theorem DdAll.app : ∀ {vs ws : List V} {ds es : List PyData}, DdAll K H vs ds → DdAll K H ws es → DdAll K H (vs ++ ws) (ds ++ es)
  | _, _, _, _, .nil, t => t
  | _, _, _, _, .cons h k, t => .cons h (k.app t)
theorem DdAll.take : ∀ {vs : List V} {ds : List PyData} (n : Nat), DdAll K H vs ds → DdAll K H (vs.take n) (ds.take n)
  | _, _, 0, _ => .nil
  | _, _, _ + 1, .nil => .nil
  | _, _, n + 1, .cons h t => .cons h (t.take n)
theorem DdAll.drop : ∀ {vs : List V} {ds : List PyData} (n : Nat), DdAll K H vs ds → DdAll K H (vs.drop n) (ds.drop n)
  | _, _, 0, r => r
  | _, _, _ + 1, .nil => .nil
  | _, _, n + 1, .cons _ t => t.drop n
theorem DdAll.set {v : V} {d : PyData} (h : Dd K H v d) : ∀ {vs : List V} {ds : List PyData} (i : Nat), DdAll K H vs ds → DdAll K H (vs.set i v) (ds.set i d)
  | _, _, _, .nil => .nil
  | _, _, 0, .cons _ t => .cons h t
  | _, _, i + 1, .cons q t => .cons q (DdAll.set h i t)
end

/-! ### resources -/
abbrev Own := Addr → Prop
/-- an assertion about mutable objects at o, over the frozen heap Hf and the heap H -/
structure Asr where
  ok : Fn → Hp → Hp → Own → V → Prop
  mono : ∀ {K : Fn} {Hf H Hf' H' : Hp} {o o' : Own} {v : V}, Ex Hf Hf' → (∀ a, o a → H' a = H a) → (∀ a, o a → o' a) → ok K Hf H o v → ok K Hf' H' o' v
  view : Option PyData
  sees : ∀ {K : Fn} {Hf H : Hp} {o : Own} {v : V} {d : PyData}, Ex Hf H → view = some d → ok K Hf H o v → Dd K H v d

inductive Res where
  /-- data that nobody changes any more -/
  | fz (d : PyData)
  /-- a list of one's own, of such data -/
  | ls (xs : List PyData)
  /-- a list of one's own, of such data and of such lists -/
  | nl (xs : List (PyData ⊕ List PyData))
  | ext (A : Asr)
/-- the items of a nested list; the sublists' addresses -/
inductive NlAll (K : Fn) (Hf H : Hp) (o : Own) : List Addr → List V → List (PyData ⊕ List PyData) → Prop where
  | nil : NlAll K Hf H o [] [] []
  | dat {ps vs xs v d} (h : Dd K Hf v d) (t : NlAll K Hf H o ps vs xs) : NlAll K Hf H o ps (v :: vs) (.inl d :: xs)
  | sub {ps vs xs p ws ds} (h : o p) (e : H p = some (.lst ws)) (k : DdAll K Hf ws ds) (n : p ∉ ps) (t : NlAll K Hf H o ps vs xs) : NlAll K Hf H o (p :: ps) (.ref p :: vs) (.inr ds :: xs)
/-- a nested list as data -/
def nlD : List (PyData ⊕ List PyData) → List PyData
  | [] => []
  | .inl d :: r => d :: nlD r
  | .inr ds :: r => .list ds :: nlD r
theorem NlAll.mono {K : Fn} {Hf H Hf' H' : Hp} {o o' : Own} (e : Ex Hf Hf') : ∀ {ps : List Addr} {vs : List V} {xs : List (PyData ⊕ List PyData)}, (∀ a ∈ ps, o a → H' a = H a) → (∀ a ∈ ps, o a → o' a) → NlAll K Hf H o ps vs xs → NlAll K Hf' H' o' ps vs xs
  | _, _, _, _, _, .nil => .nil
  | _, _, _, h, w, .dat q t => .dat (e.dp q) (t.mono e h w)
  | _, _, _, h, w, .sub q1 q2 q3 q4 t => .sub (w _ List.mem_cons_self q1) ((h _ List.mem_cons_self q1).trans q2) (e.dpAll q3) q4 (t.mono e (fun a m => h a (List.mem_cons_of_mem _ m)) fun a m => w a (List.mem_cons_of_mem _ m))
theorem NlAll.own {K : Fn} {Hf H : Hp} {o : Own} : ∀ {ps : List Addr} {vs : List V} {xs : List (PyData ⊕ List PyData)}, NlAll K Hf H o ps vs xs → ∀ a ∈ ps, o a
  | _, _, _, .nil, _, m => by cases m
  | _, _, _, .dat _ t, a, m => t.own a m
  | _, _, _, .sub q _ _ _ t, a, m => by
    rcases List.mem_cons.mp m with rfl | m
    · exact q
    · exact t.own a m
theorem NlAll.len {K : Fn} {Hf H : Hp} {o : Own} : ∀ {ps : List Addr} {vs : List V} {xs : List (PyData ⊕ List PyData)}, NlAll K Hf H o ps vs xs → vs.length = xs.length
  | _, _, _, .nil => rfl
  | _, _, _, .dat _ t => congrArg (· + 1) t.len
  | _, _, _, .sub _ _ _ _ t => congrArg (· + 1) t.len
theorem NlAll.see {K : Fn} {Hf H : Hp} {o : Own} (e : Ex Hf H) : ∀ {ps : List Addr} {vs : List V} {xs : List (PyData ⊕ List PyData)}, NlAll K Hf H o ps vs xs → DdAll K H vs (nlD xs)
  | _, _, _, .nil => .nil
  | _, _, _, .dat q t => .cons (e.dp q) (t.see e)
  | _, _, _, .sub _ q2 q3 _ t => .cons (.lst q2 (e.dpAll q3)) (t.see e)

def RepV (K : Fn) (Hf H : Hp) (o : Own) (v : V) : Res → Prop
  | .fz d => Dd K Hf v d
  | .ls xs => ∃ a vs, v = .ref a ∧ o a ∧ H a = some (.lst vs) ∧ DdAll K Hf vs xs
  | .nl xs => ∃ a ps vs, v = .ref a ∧ o a ∧ a ∉ ps ∧ H a = some (.lst vs) ∧ NlAll K Hf H o ps vs xs
  | .ext A => A.ok K Hf H o v
theorem RepV.mono {K : Fn} {Hf H Hf' H' : Hp} {o o' : Own} {v : V} {r : Res} (e : Ex Hf Hf') (h : ∀ a, o a → H' a = H a) (w : ∀ a, o a → o' a) (x : RepV K Hf H o v r) : RepV K Hf' H' o' v r := by
  cases r with
  | fz d => exact e.dp x
  | ls xs =>
    obtain ⟨a, vs, e1, e2, e3, e4⟩ := x
    exact ⟨a, vs, e1, w a e2, (h a e2).trans e3, e.dpAll e4⟩
  | nl xs =>
    obtain ⟨a, ps, vs, e1, e2, e3, e4, e5⟩ := x
    exact ⟨a, ps, vs, e1, w a e2, e3, (h a e2).trans e4, e5.mono e (fun b m => h b) fun b m => w b⟩
  | ext A => exact A.mono e h w x

abbrev DSt := List (Option Res)
/-- what is fixed for a body: the arguments' values and which of them are mutable -/
structure Fx where
  K : Fn
  vs : List V
  F : List Nat
structure RepF (G : Fx) (Hf H : Hp) (ω : Addr → Option Nat) (σ : L2.St) (ρ : DSt) : Prop where
  ex : Ex Hf H
  own : ∀ a i, ω a = some i → Hf a = none ∧ ∃ o, H a = some o
  len : ρ.length = σ.length
  fix : ∀ k ∈ G.F, σ[k]? = (G.vs[k]?).map some
  slot : ∀ i r, ρ[i]? = some (some r) → ∃ v, σ[i]? = some (some v) ∧ RepV G.K Hf H (fun a => ω a = some i) v r
/-- how a step may change the heaps and the owners -/
structure Stp (Hf H : Hp) (ω : Addr → Option Nat) (Hf' H' : Hp) (ω' : Addr → Option Nat) : Prop where
  fz : Ex Hf Hf'
  fr : ∀ a o, H a = some o → ω a = none → H' a = some o
  keep : ∀ a o, H a = some o → ∃ o', H' a = some o'
  cap : ∀ a o, H a = some o → ω a = none → Hf a = none → Hf' a = none
  new : ∀ a i, ω' a = some i → (∃ j, ω a = some j) ∨ H a = none
section
variable {Hf H Hf1 H1 Hf2 H2 : Hp} {ω ω1 ω2 : Addr → Option Nat}
theorem Stp.refl : Stp Hf H ω Hf H ω := ⟨Ex.refl _, fun _ _ h _ => h, fun _ o h => ⟨o, h⟩, fun _ _ _ _ h => h, fun a i h => .inl ⟨i, h⟩⟩
theorem Stp.notNew (x : Stp Hf H ω Hf1 H1 ω1) {a : Addr} {o : HO} (h : H a = some o) (n : ω a = none) : ω1 a = none := by
  cases q : ω1 a with
  | none => rfl
  | some i =>
    rcases x.new a i q with ⟨j, e⟩ | e
    · rw [n] at e; cases e
    · rw [h] at e; cases e
theorem Stp.trans (x : Stp Hf H ω Hf1 H1 ω1) (y : Stp Hf1 H1 ω1 Hf2 H2 ω2) : Stp Hf H ω Hf2 H2 ω2 where
  fz := x.fz.trans y.fz
  fr := fun a o h n => y.fr a o (x.fr a o h n) (x.notNew h n)
  keep := fun a o h => let ⟨o1, h1⟩ := x.keep a o h; y.keep a o1 h1
  cap := fun a o h n c => y.cap a o (x.fr a o h n) (x.notNew h n) (x.cap a o h n c)
  new := fun a i h => by
    rcases y.new a i h with ⟨j, e⟩ | e
    · exact x.new a j e
    · refine .inr ?_
      cases q : H a with
      | none => rfl
      | some o => obtain ⟨o', h'⟩ := x.keep a o q; rw [h'] at e; cases e
end
/-- only new things: the frozen heap and the heap grow -/
structure Grw (Hf H Hf' H' : Hp) : Prop where
  fz : Ex Hf Hf'
  hp : Ex H H'
  ex : Ex Hf' H'
  cap : ∀ a o, H a = some o → Hf a = none → Hf' a = none
section
variable {Hf H Hf1 H1 Hf2 H2 : Hp} {ω : Addr → Option Nat} {G : Fx} {σ : L2.St} {ρ : DSt}
theorem Grw.refl (e : Ex Hf H) : Grw Hf H Hf H := ⟨Ex.refl _, Ex.refl _, e, fun _ _ _ h => h⟩
theorem Grw.trans (x : Grw Hf H Hf1 H1) (y : Grw Hf1 H1 Hf2 H2) : Grw Hf H Hf2 H2 :=
  ⟨x.fz.trans y.fz, x.hp.trans y.hp, y.ex, fun a o h n => y.cap a o (x.hp a o h) (x.cap a o h n)⟩
/-- a new object, frozen at once -/
theorem Grw.new {p : Addr} {o : HO} (e : Ex Hf H) (h : H p = none) : Grw Hf H (upd Hf p o) (upd H p o) :=
  ⟨Ex.new (e.none h), Ex.new h, e.both h, fun a u q n => by rw [upd_ne (ne_of_none q h)]; exact n⟩
/-- a new object, not frozen -/
theorem Grw.lay {p : Addr} {o : HO} (e : Ex Hf H) (h : H p = none) : Grw Hf H Hf (upd H p o) :=
  ⟨Ex.refl _, Ex.new h, e.trans (Ex.new h), fun _ _ _ n => n⟩
theorem Grw.stp (x : Grw Hf H Hf1 H1) (h : RepF G Hf H ω σ ρ) : Stp Hf H ω Hf1 H1 ω :=
  ⟨x.fz, fun a o q _ => x.hp a o q, fun a o q => ⟨o, x.hp a o q⟩, fun a o q _ n => x.cap a o q n, fun a i q => .inl ⟨i, q⟩⟩
theorem Grw.rep (x : Grw Hf H Hf1 H1) (h : RepF G Hf H ω σ ρ) : RepF G Hf1 H1 ω σ ρ where
  ex := x.ex
  own := fun a i q => let ⟨n, o, e⟩ := h.own a i q; ⟨x.cap a o e n, o, x.hp a o e⟩
  len := h.len
  fix := h.fix
  slot := fun i r q => by
    obtain ⟨v, e1, e2⟩ := h.slot i r q
    refine ⟨v, e1, e2.mono x.fz (fun a w => ?_) fun _ w => w⟩
    obtain ⟨_, o, e⟩ := h.own a i w
    rw [e]; exact x.hp a o e
end

/-! ### readings -/
abbrev DTE := DSt → (PyData → DSt → Prop) → Prop
abbrev DTL := DSt → (List PyData → DSt → Prop) → Prop
abbrev DTP := DSt → (PyData → Prop) → Prop
abbrev DTT := DSt → (Bool → DSt → Prop) → Prop
/-- an expression that gives frozen data -/
def lE (G : Fx) (t : DTE) : TE := fun σ H Q => ∃ Hf ω ρ Qd, RepF G Hf H ω σ ρ ∧ t ρ Qd ∧
  ∀ v H' Hf' ω' ρ' d, RepF G Hf' H' ω' σ ρ' → Stp Hf H ω Hf' H' ω' → Dd G.K Hf' v d → Qd d ρ' → Q v H'
abbrev DTR := DSt → (Res → DSt → Prop) → Prop
/-- one that gives a resource: it stands at S, which is neither frozen nor a slot's -/
def lR (G : Fx) (t : DTR) : TE := fun σ H Q => ∃ Hf ω ρ Qd, RepF G Hf H ω σ ρ ∧ t ρ Qd ∧
  ∀ v H' Hf' ω' ρ' r (S : Own), RepF G Hf' H' ω' σ ρ' → Stp Hf H ω Hf' H' ω' → (∀ a, S a → (H a = none ∨ ∃ j, ω a = some j) ∧ Hf' a = none ∧ ω' a = none ∧ ∃ o, H' a = some o) → RepV G.K Hf' H' S v r → Qd r ρ' → Q v H'
/-- one that is looked at: nothing is changed -/
def lP (G : Fx) (t : DTP) : TE := fun σ H Q => ∃ Hf ω ρ Qd, RepF G Hf H ω σ ρ ∧ t ρ Qd ∧
  ∀ v H' d, Ex H H' → Dd G.K H' v d → Qd d → Q v H'
def lT (G : Fx) (t : DTT) : TT := fun σ H Q => ∃ Hf ω ρ Qd, RepF G Hf H ω σ ρ ∧ t ρ Qd ∧
  ∀ b H' Hf' ω' ρ', RepF G Hf' H' ω' σ ρ' → Stp Hf H ω Hf' H' ω' → Qd b ρ' → Q b H'
/-- arguments: data, or a mutable slot -/
inductive Arg where
  | dat (d : PyData)
  | sl (i : Nat)
inductive ArgOk (K : Fn) (Hf : Hp) (σ : L2.St) : List V → List Arg → Prop where
  | nil : ArgOk K Hf σ [] []
  | dat {v vs d as} (h : Dd K Hf v d) (t : ArgOk K Hf σ vs as) : ArgOk K Hf σ (v :: vs) (.dat d :: as)
  | sl {v vs i as} (h : σ[i]? = some (some v)) (t : ArgOk K Hf σ vs as) : ArgOk K Hf σ (v :: vs) (.sl i :: as)
abbrev DTA := DSt → (List Arg → DSt → Prop) → Prop
def lA (G : Fx) (t : DTA) : TA := fun σ H Q => ∃ Hf ω ρ Qd, RepF G Hf H ω σ ρ ∧ t ρ Qd ∧
  ∀ vs H' Hf' ω' ρ' as, RepF G Hf' H' ω' σ ρ' → Stp Hf H ω Hf' H' ω' → ArgOk G.K Hf' σ vs as → Qd as ρ' → Q vs H'
/-- data alone, n of them -/
def lD (G : Fx) (n : Nat) (t : DTL) : TA := fun σ H Q => ∃ Hf ω ρ Qd, RepF G Hf H ω σ ρ ∧ t ρ Qd ∧
  ∀ vs H' Hf' ω' ρ' ds, ds.length = n → RepF G Hf' H' ω' σ ρ' → Stp Hf H ω Hf' H' ω' → DdAll G.K Hf' vs ds → Qd ds ρ' → Q vs H'
/-- .. that are looked at -/
def lDP (G : Fx) (t : DSt → (List PyData → Prop) → Prop) : TA := fun σ H Q => ∃ Hf ω ρ Qd, RepF G Hf H ω σ ρ ∧ t ρ Qd ∧
  ∀ vs H' ds, Ex H H' → DdAll G.K H' vs ds → Qd ds → Q vs H'
abbrev Af := Nat → Option Res
structure RepR (G : Fx) (Hf H : Hp) (ω : Addr → Option Nat) (v : V) (r : Res) (af : Af) : Prop where
  ex : Ex Hf H
  own : ∀ a i, ω a = some i → Hf a = none ∧ ∃ o, H a = some o
  res : RepV G.K Hf H (fun a => ω a = some G.vs.length) v r
  args : ∀ k r', k ∈ G.F → af k = some r' → ∃ v, G.vs[k]? = some v ∧ RepV G.K Hf H (fun a => ω a = some k) v r'
structure DEnds where
  nx : DSt → Prop
  rt : Res → Af → Prop
  bk : DSt → Prop := fun _ => False
  ct : DSt → Prop := fun _ => False
abbrev DTS := DEnds → DSt → Prop
def lS (G : Fx) (t : DTS) : TS := fun D σ H => ∃ Hf ω ρ Dd, RepF G Hf H ω σ ρ ∧ t Dd ρ ∧
  (∀ σ' H' Hf' ω' ρ', RepF G Hf' H' ω' σ' ρ' → Stp Hf H ω Hf' H' ω' → Dd.nx ρ' → D.nx σ' H') ∧
  (∀ v H' Hf' ω' r af, RepR G Hf' H' ω' v r af → Stp Hf H ω Hf' H' ω' → Dd.rt r af → D.rt v H') ∧
  (∀ σ' H' Hf' ω' ρ', RepF G Hf' H' ω' σ' ρ' → Stp Hf H ω Hf' H' ω' → Dd.bk ρ' → D.bk σ' H') ∧
  (∀ σ' H' Hf' ω' ρ', RepF G Hf' H' ω' σ' ρ' → Stp Hf H ω Hf' H' ω' → Dd.ct ρ' → D.ct σ' H')
abbrev DTG := PyData → DSt → (DSt → Prop) → Prop
def lG (G : Fx) (js : List Nat) (t : DTG) : TG := fun v σ H Q => ∃ Hf ω ρ Qd d, RepF G Hf H ω σ ρ ∧ Dd G.K Hf v d ∧ t d ρ Qd ∧
  ∀ σ' H' Hf' ω' ρ', RepF G Hf' H' ω' σ' ρ' → Stp Hf H ω Hf' H' ω' → σ'.length = σ.length → (∀ i, i ∉ js → σ'[i]? = σ[i]?) → Qd ρ' → Q σ' H'
/-- an iterator that gives the items ds, whatever grows beside it -/
structure Wks (K : Fn) (J : It) (ds : List PyData) (Hf0 : Hp) : Prop where
  go : ∀ i H, i < ds.length → Ex Hf0 H → J.go i H
  stop : ∀ H, Ex Hf0 H → J.stop ds.length H
  yld : ∀ i Hf H x H' d, ds[i]? = some d → Ex Hf0 Hf → Ex Hf H → J.yld i H x H' → ∃ Hf', Grw Hf H Hf' H' ∧ Dd K Hf' x d
def lI (G : Fx) (t : DTL) : TI := fun σ H R => ∃ Hf ω ρ Qd, RepF G Hf H ω σ ρ ∧ t ρ Qd ∧
  ∀ J H' Hf' ω' ρ' ds, RepF G Hf' H' ω' σ ρ' → Stp Hf H ω Hf' H' ω' → Wks G.K J ds Hf' → Qd ds ρ' → R J H'

section
variable (X : Cx) (G : Fx)
abbrev DE (e : Expr) (t : DTE) : Prop := PE X e (lE G t)
abbrev DR (e : Expr) (t : DTR) : Prop := PE X e (lR G t)
abbrev DP (e : Expr) (t : DTP) : Prop := PE X e (lP G t)
abbrev DT (e : Expr) (t : DTT) : Prop := PT X e (lT G t)
abbrev DA (es : List Expr) (t : DTA) : Prop := PA X es (lA G t)
abbrev DD (es : List Expr) (n : Nat) (t : DTL) : Prop := PA X es (lD G n t)
abbrev DDP (es : List Expr) (t : DSt → (List PyData → Prop) → Prop) : Prop := PA X es (lDP G t)
abbrev DS (st : Stmt) (t : DTS) : Prop := PS X st (lS G t)
abbrev DSs (st : List Stmt) (t : DTS) : Prop := PSs X st (lS G t)
abbrev DG (e : Expr) (js : List Nat) (t : DTG) : Prop := PG X e (lG G js t)
abbrev DI (tg e : Expr) (t : DTL) : Prop := PI X tg e (lI G t)
end
section
variable {X : Cx} {e : Expr} {es : List Expr} {st : Stmt} {sts : List Stmt} {tg : Expr}
theorem pe_imp {t t' : TE} (h : PE X e t) (i : ∀ σ H Q, t' σ H Q → t σ H Q) : PE X e t' := ⟨fun pins s σ H Q I x => h.run pins s σ H Q I (i σ H Q x)⟩
theorem pt_imp {t t' : TT} (h : PT X e t) (i : ∀ σ H Q, t' σ H Q → t σ H Q) : PT X e t' := ⟨fun pins s σ H Q I x => h.run pins s σ H Q I (i σ H Q x)⟩
theorem pw_imp {t t' : TT} (h : PW X e t) (i : ∀ σ H Q, t' σ H Q → t σ H Q) : PW X e t' := ⟨fun w pins s σ H Q I x => h.run w pins s σ H Q I (i σ H Q x)⟩
theorem pa_imp {t t' : TA} (h : PA X es t) (i : ∀ σ H Q, t' σ H Q → t σ H Q) : PA X es t' := ⟨fun pos pins s σ H Q I x => h.run pos pins s σ H Q I (i σ H Q x)⟩
theorem ps_imp {t t' : TS} (h : PS X st t) (i : ∀ D σ H, t' D σ H → t D σ H) : PS X st t' := ⟨fun pins s σ H D I x => h.run pins s σ H D I (i D σ H x)⟩
theorem pss_imp {t t' : TS} (h : PSs X sts t) (i : ∀ D σ H, t' D σ H → t D σ H) : PSs X sts t' := ⟨fun pins s σ H D I x => h.run pins s σ H D I (i D σ H x)⟩
theorem pg_imp {t t' : TG} (h : PG X e t) (i : ∀ v σ H Q, t' v σ H Q → t v σ H Q) : PG X e t' := ⟨fun pins s σ H v u Q I r x => h.run pins s σ H v u Q I r (i v σ H Q x)⟩
theorem pi_imp {t t' : TI} (h : PI X tg e t) (i : ∀ σ H Q, t' σ H Q → t σ H Q) : PI X tg e t' := ⟨fun pins s σ H Q I x => h.run pins s σ H Q I (i σ H Q x)⟩
end

/-! ### helpers on data -/
def opt {α : Type} (o : Option α) (k : α → Prop) : Prop := match o with
  | some a => k a
  | none => False
theorem opt_some {α : Type} {a : α} {k : α → Prop} : opt (some a) k = k a := rfl
theorem opt_none {α : Type} {k : α → Prop} : opt none k = False := rfl
theorem opt_of {α : Type} {o : Option α} {k : α → Prop} (h : opt o k) : ∃ a, o = some a ∧ k a := by
  cases o with
  | none => exact h.elim
  | some a => exact ⟨a, rfl, h⟩
theorem opt_mk {α : Type} {o : Option α} {k : α → Prop} {a : α} (h : o = some a) (q : k a) : opt o k := by rw [h]; exact q
end DL

namespace DL
open PySem PySem.Spec PyProof.Rows L2

/-! ### looks -/
theorem RepF.look {G : Fx} {Hf H H' : Hp} {ω : Addr → Option Nat} {σ : L2.St} {ρ : DSt} (h : RepF G Hf H ω σ ρ) (e : Ex H H') : Grw Hf H Hf H' :=
  ⟨Ex.refl _, e, h.ex.trans e, fun _ _ _ n => n⟩
def scalD : PyData → Bool
  | .none => true
  | .bool _ => true
  | .int _ => true
  | .str _ => true
  | .dict [(.str _, .none)] => true
  | _ => false
theorem Dd.scal {K : Fn} {H H' : Hp} {v : V} {d : PyData} (h : Dd K H v d) (s : scalD d = true) : Dd K H' v d := by
  cases h with
  | non => exact .non
  | bl b => exact .bl b
  | int i => exact .int i
  | str x => exact .str x
  | fn h => exact .fn h
  | lst _ _ => cases s
  | tup _ _ => cases s
  | scr _ _ => cases s
section
variable {X : Cx} {G : Fx} {e a b c : Expr} {t : DTE} {ta tb tc : DTE} {pa pb pc : DTP}
def tOf (t : DTP) : DTE := fun ρ Q => t ρ fun d => scalD d = true ∧ Q d ρ
/-- what is looked at gives a scalar -/
theorem de_dp {t : DTP} (h : DP X G e t) : DE X G e (tOf t) := pe_imp h fun σ H Q ⟨Hf, ω, ρ, Qd, rep, ht, k⟩ =>
  ⟨Hf, ω, ρ, _, rep, ht, fun v H' d ex hv q => k v H' Hf ω ρ d ((rep.look ex).rep rep) ((rep.look ex).stp rep) (hv.scal q.1) q.2⟩

/-! ### names, constants -/
def tVarD (i : Nat) : DTE := fun ρ Q => match ρ[i]? with
  | some (some (.fz d)) => Q d ρ
  | some (some (.ls xs)) => Q (.list xs) (ρ.set i (some (.fz (.list xs))))
  | _ => False
def tVarP (i : Nat) : DTP := fun ρ Q => match ρ[i]? with
  | some (some (.fz d)) => Q d
  | some (some (.ls xs)) => Q (.list xs)
  | some (some (.nl xs)) => Q (.list (nlD xs))
  | some (some (.ext A)) => opt A.view Q
  | _ => False
theorem set_get {α : Type} {l : List α} {i j : Nat} {x y : α} (h : (l.set i x)[j]? = some y) : (i = j ∧ x = y) ∨ (i ≠ j ∧ l[j]? = some y) := by
  by_cases e : i = j
  · subst e
    by_cases q : i < l.length
    · rw [List.getElem?_set_self q] at h
      exact .inl ⟨rfl, Option.some.inj h⟩
    · rw [List.getElem?_eq_none (by rw [List.length_set]; omega)] at h; cases h
  · rw [List.getElem?_set_ne e] at h
    exact .inr ⟨e, h⟩
theorem RepF.freeze {Hf H : Hp} {ω : Addr → Option Nat} {σ : L2.St} {ρ : DSt} {i : Nat} {xs : List PyData} (h : RepF G Hf H ω σ ρ) (e : ρ[i]? = some (some (.ls xs))) :
    ∃ v Hf' ω', σ[i]? = some (some v) ∧ RepF G Hf' H ω' σ (ρ.set i (some (.fz (.list xs)))) ∧ Stp Hf H ω Hf' H ω' ∧ Dd G.K Hf' v (.list xs) := by
  obtain ⟨v, e1, a, vs, rfl, e2, e3, e4⟩ := h.slot i _ e
  obtain ⟨n, _⟩ := h.own a i e2
  have hx : Ex Hf (upd Hf a (.lst vs)) := Ex.new n
  have hd : Dd G.K (upd Hf a (.lst vs)) (.ref a) (.list xs) := .lst upd_same (hx.dpAll e4)
  refine ⟨.ref a, upd Hf a (.lst vs), fun b => if b = a then none else ω b, e1, ⟨fun b o q => ?_, fun b j q => ?_, by rw [List.length_set]; exact h.len, h.fix, fun j r q => ?_⟩, ⟨hx, fun b o q _ => q, fun b o q => ⟨o, q⟩, fun b o q w z => ?_, fun b j q => ?_⟩, hd⟩
  · by_cases hb : b = a
    · subst hb; rw [upd_same] at q; cases q; exact e3
    · rw [upd_ne hb] at q; exact h.ex b o q
  · by_cases hb : b = a
    · simp [hb] at q
    · simp only [hb, if_false] at q
      rw [upd_ne hb]; exact h.own b j q
  · rcases set_get q with ⟨ej, er⟩ | ⟨ne, qq⟩
    · subst ej; cases er; exact ⟨_, e1, hd⟩
    · obtain ⟨w, w1, w2⟩ := h.slot j r qq
      refine ⟨w, w1, w2.mono hx (fun _ _ => rfl) fun b hb => ?_⟩
      by_cases z : b = a
      · subst z; rw [e2] at hb; exact absurd (Option.some.inj hb) ne
      · simp only [z, if_false]; exact hb
  · have hb : b ≠ a := fun z => by subst z; rw [e2] at w; cases w
    rw [upd_ne hb]; exact z
  · by_cases hb : b = a
    · simp [hb] at q
    · simp only [hb, if_false] at q
      exact .inl ⟨j, q⟩
theorem de_var {i : Nat} (h : PE X e (tVar i)) : DE X G e (tVarD i) := pe_imp h fun σ H Q ⟨Hf, ω, ρ, Qd, rep, ht, k⟩ => by
  unfold tVarD at ht
  split at ht
  · rename_i d q
    obtain ⟨v, e1, e2⟩ := rep.slot i _ q
    exact ⟨v, e1, k v H Hf ω ρ d rep Stp.refl e2 ht⟩
  · rename_i xs q
    obtain ⟨v, Hf', ω', e1, r, s, d⟩ := rep.freeze q
    exact ⟨v, e1, k v H Hf' ω' _ _ r s d ht⟩
  · exact ht.elim
theorem dv_var {i : Nat} (h : PE X e (tVar i)) : DP X G e (tVarP i) := pe_imp h fun σ H Q ⟨Hf, ω, ρ, Qd, rep, ht, k⟩ => by
  unfold tVarP at ht
  split at ht
  · rename_i d q
    obtain ⟨v, e1, e2⟩ := rep.slot i _ q
    exact ⟨v, e1, k v H d (Ex.refl _) (rep.ex.dp e2) ht⟩
  · rename_i xs q
    obtain ⟨v, e1, a, vs, rfl, e2, e3, e4⟩ := rep.slot i _ q
    exact ⟨_, e1, k _ H _ (Ex.refl _) (.lst e3 (rep.ex.dpAll e4)) ht⟩
  · rename_i xs q
    obtain ⟨v, e1, a, ps, vs, rfl, e2, _, e3, e4⟩ := rep.slot i _ q
    exact ⟨_, e1, k _ H _ (Ex.refl _) (.lst e3 (e4.see rep.ex)) ht⟩
  · rename_i A q
    obtain ⟨v, e1, e2⟩ := rep.slot i _ q
    obtain ⟨d, w, ht⟩ := opt_of ht
    exact ⟨v, e1, k v H d (Ex.refl _) (A.sees rep.ex w e2) ht⟩
  · exact ht.elim
def tCD (d : PyData) : DTE := fun ρ Q => Q d ρ
def tCP (d : PyData) : DTP := fun _ Q => Q d
theorem de_c {v : V} {d : PyData} (h : PE X e (tC v)) (hd : ∀ H, Dd G.K H v d) : DE X G e (tCD d) := pe_imp h fun σ H Q ⟨Hf, ω, ρ, Qd, rep, ht, k⟩ =>
  k v H Hf ω ρ d rep Stp.refl (hd _) ht
theorem dv_c {v : V} {d : PyData} (h : PE X e (tC v)) (hd : ∀ H, Dd G.K H v d) : DP X G e (tCP d) := pe_imp h fun σ H Q ⟨Hf, ω, ρ, Qd, rep, ht, k⟩ =>
  k v H d (Ex.refl _) (hd _) ht
theorem de_int {i : Int} {j pos} : DE X G (.Constant (.int i) j pos) (tCD (.int i)) := de_c pe_int fun _ => .int i
theorem de_bl {b : Bool} {j pos} : DE X G (.Constant (.bool b) j pos) (tCD (.bool b)) := de_c pe_bl fun _ => .bl b
theorem de_non {j pos} : DE X G (.Constant .none j pos) (tCD .none) := de_c pe_non fun _ => .non
theorem de_str {x : Str} {j pos} : DE X G (.Constant (.str x) j pos) (tCD (.str x)) := de_c pe_str fun _ => .str x
theorem dv_int {i : Int} {j pos} : DP X G (.Constant (.int i) j pos) (tCP (.int i)) := dv_c pe_int fun _ => .int i
theorem dv_bl {b : Bool} {j pos} : DP X G (.Constant (.bool b) j pos) (tCP (.bool b)) := dv_c pe_bl fun _ => .bl b
theorem dv_non {j pos} : DP X G (.Constant .none j pos) (tCP .none) := dv_c pe_non fun _ => .non
theorem dv_str {x : Str} {j pos} : DP X G (.Constant (.str x) j pos) (tCP (.str x)) := dv_c pe_str fun _ => .str x

/-! ### two places -/
def R2D (L : Fn) (r : R2) (f : PyData → PyData → Option PyData) : Prop := ∀ x y d e z Hf H (Q : VK), Ex Hf H → Dd L Hf x d → Dd L Hf y e → f d e = some z → (∀ v Hf' H', Grw Hf H Hf' H' → Dd L Hf' v z → Q v H') → r x y H Q
def tBin (f : PyData → PyData → Option PyData) (ta tb : DTE) : DTE := fun ρ Q => ta ρ fun d ρ1 => tb ρ1 fun e ρ2 => opt (f d e) fun z => Q z ρ2
def tBinP (f : PyData → PyData → Option PyData) (ta tb : DTP) : DTP := fun ρ Q => ta ρ fun d => tb ρ fun e => opt (f d e) Q
variable {r : R2} {f : PyData → PyData → Option PyData}
theorem lE_bin (hr : R2D G.K r f) {σ : L2.St} {H : Hp} {Q : VK} (h : lE G (tBin f ta tb) σ H Q) : tOp r (lE G ta) (lE G tb) σ H Q := by
  obtain ⟨Hf, ω, ρ, Qd, rep, ht, k⟩ := h
  refine ⟨Hf, ω, ρ, _, rep, ht, fun x H1 Hf1 ω1 ρ1 d rep1 st1 hx ht1 => ?_⟩
  refine ⟨Hf1, ω1, ρ1, _, rep1, ht1, fun y H2 Hf2 ω2 ρ2 e rep2 st2 hy hz => ?_⟩
  obtain ⟨z, hz, q⟩ := opt_of hz
  exact hr x y d e z Hf2 H2 Q rep2.ex (st2.fz.dp hx) hy hz fun v Hf3 H3 g hv => k v H3 Hf3 ω2 ρ2 z (g.rep rep2) ((st1.trans st2).trans (g.stp rep2)) hv q
theorem lP_bin (hr : R2D G.K r f) {σ : L2.St} {H : Hp} {Q : VK} (h : lP G (tBinP f pa pb) σ H Q) : tOp r (lP G pa) (lP G pb) σ H Q := by
  obtain ⟨Hf, ω, ρ, Qd, rep, ht, k⟩ := h
  refine ⟨Hf, ω, ρ, _, rep, ht, fun x H1 d ex1 hx ht1 => ?_⟩
  refine ⟨Hf, ω, ρ, _, (rep.look ex1).rep rep, ht1, fun y H2 e ex2 hy hz => ?_⟩
  obtain ⟨z, hz, q⟩ := opt_of hz
  exact hr x y d e z H2 H2 Q (Ex.refl _) (ex2.dp hx) hy hz fun v Hf3 H3 g hv => k v H3 z ((ex1.trans ex2).trans g.hp) (g.ex.dp hv) q
theorem de_op {op : Operator} {pos : Pos} (ho : OpR X (binaryOp op) r) (hr : R2D G.K r f) (ha : DE X G a ta) (hb : DE X G b tb) : DE X G (.BinOp a op b pos) (tBin f ta tb) := pe_imp (pe_op ho ha hb) fun _ _ _ h => lE_bin hr h
theorem dv_op {op : Operator} {pos : Pos} (ho : OpR X (binaryOp op) r) (hr : R2D G.K r f) (ha : DP X G a pa) (hb : DP X G b pb) : DP X G (.BinOp a op b pos) (tBinP f pa pb) := pe_imp (pe_op ho ha hb) fun _ _ _ h => lP_bin hr h
theorem de_cmp {op : CmpOp} {pos : Pos} (ho : OpR X (compareOp op) r) (hr : R2D G.K r f) (ha : DE X G a ta) (hb : DE X G b tb) (hm : behindInMarks op b = false) : DE X G (.Compare a [op] [b] pos) (tBin f ta tb) := pe_imp (pe_cmpR ho ha hb hm) fun _ _ _ h => lE_bin hr h
theorem dv_cmp {op : CmpOp} {pos : Pos} (ho : OpR X (compareOp op) r) (hr : R2D G.K r f) (ha : DP X G a pa) (hb : DP X G b pb) (hm : behindInMarks op b = false) : DP X G (.Compare a [op] [b] pos) (tBinP f pa pb) := pe_imp (pe_cmpR ho ha hb hm) fun _ _ _ h => lP_bin hr h
theorem de_ix {pos : Pos} (hi : IxR X r) (hr : R2D G.K r f) (ha : DE X G a ta) (hb : DE X G b tb) (hs : PlainIx b) : DE X G (.Subscript a b pos) (tBin f ta tb) := pe_imp (pe_ix hi ha hb hs) fun _ _ _ h => lE_bin hr h
theorem dv_ix {pos : Pos} (hi : IxR X r) (hr : R2D G.K r f) (ha : DP X G a pa) (hb : DP X G b pb) (hs : PlainIx b) : DP X G (.Subscript a b pos) (tBinP f pa pb) := pe_imp (pe_ix hi ha hb hs) fun _ _ _ h => lP_bin hr h

/-! ### tests -/
def isB (z : PyData) (k : Bool → Prop) : Prop := match z with
  | .bool b => k b
  | _ => False
theorem isB_bool {b : Bool} {k : Bool → Prop} : isB (.bool b) k = k b := rfl
theorem isB_of {z : PyData} {k : Bool → Prop} (h : isB z k) : ∃ b, z = .bool b ∧ k b := by
  cases z <;> first | exact ⟨_, rfl, h⟩ | exact h.elim
theorem Dd.isbl {K : Fn} {H : Hp} {v : V} {b : Bool} (h : Dd K H v (.bool b)) : v = .bl b := by cases h; rfl
theorem Dd.isint {K : Fn} {H : Hp} {v : V} {i : Int} (h : Dd K H v (.int i)) : v = .int i := by cases h; rfl
theorem Dd.isstr {K : Fn} {H : Hp} {v : V} {i : Str} (h : Dd K H v (.str i)) : v = .str i := by cases h; rfl
theorem Dd.isfn {K : Fn} {H : Hp} {v : V} {n : Str} (h : Dd K H v (.dict [(.str n, .none)])) : K n = some v := by
  generalize e : (PyData.dict [(.str n, .none)]) = d at h
  cases h <;> cases e
  assumption
theorem Dd.isnon {K : Fn} {H : Hp} {v : V} (h : Dd K H v .none) : v = .non := by cases h; rfl
def tTs (t : DTE) : DTT := fun ρ Q => t ρ fun z ρ' => isB z fun b => Q b ρ'
def tTsP (t : DTP) : DTT := fun ρ Q => t ρ fun z => isB z fun b => Q b ρ
theorem lT_ts {σ : L2.St} {H : Hp} {Q : Bool → Hp → Prop} (h : lT G (tTs t) σ H Q) : lE G t σ H fun x H' => ∃ k, x = .bl k ∧ Q k H' := by
  obtain ⟨Hf, ω, ρ, Qd, rep, ht, k⟩ := h
  refine ⟨Hf, ω, ρ, _, rep, ht, fun x H1 Hf1 ω1 ρ1 d rep1 st1 hx ht1 => ?_⟩
  obtain ⟨b, rfl, q⟩ := isB_of ht1
  exact ⟨b, hx.isbl, k b H1 Hf1 ω1 ρ1 rep1 st1 q⟩
theorem lT_tsP {t : DTP} {σ : L2.St} {H : Hp} {Q : Bool → Hp → Prop} (h : lT G (tTsP t) σ H Q) : lP G t σ H fun x H' => ∃ k, x = .bl k ∧ Q k H' := by
  obtain ⟨Hf, ω, ρ, Qd, rep, ht, k⟩ := h
  refine ⟨Hf, ω, ρ, _, rep, ht, fun x H1 d ex hx ht1 => ?_⟩
  obtain ⟨b, rfl, q⟩ := isB_of ht1
  exact ⟨b, hx.isbl, k b H1 Hf ω ρ ((rep.look ex).rep rep) ((rep.look ex).stp rep) q⟩
theorem dt_cmp {op : CmpOp} {pos : Pos} (ho : OpR X (compareOp op) r) (hr : R2D G.K r f) (ha : DE X G a ta) (hb : DE X G b tb) (hm : behindInMarks op b = false) : DT X G (.Compare a [op] [b] pos) (tTs (tBin f ta tb)) := pt_imp (pt_cmpR ho ha hb hm) fun _ _ _ h => lE_bin hr (lT_ts h)
theorem dt_cmpP {op : CmpOp} {pos : Pos} (ho : OpR X (compareOp op) r) (hr : R2D G.K r f) (ha : DP X G a pa) (hb : DP X G b pb) (hm : behindInMarks op b = false) : DT X G (.Compare a [op] [b] pos) (tTsP (tBinP f pa pb)) := pt_imp (pt_cmpR ho ha hb hm) fun _ _ _ h => lP_bin hr (lT_tsP h)
theorem dt_val (h : DE X G e t) (he : ∀ whole, isTrue e X.env whole = (do let v ← whole; standAt e.pos; holding [v] (truthy v)) := by intro _; rfl) : DT X G e (tTs t) := pt_imp (pt_val h he) fun _ _ _ h => lT_ts h
def tNotD (t : DTT) : DTT := fun ρ Q => t ρ fun b ρ' => Q (!b) ρ'
theorem dt_not {t : DTT} {pos : Pos} (h : DT X G a t) : DT X G (.UnaryOp .Not a pos) (tNotD t) := pt_imp (pt_not h) fun σ H Q ⟨Hf, ω, ρ, Qd, rep, ht, k⟩ =>
  ⟨Hf, ω, ρ, _, rep, ht, fun b H' Hf' ω' ρ' r s q => k (!b) H' Hf' ω' ρ' r s q⟩
def ifB (b : Bool) (p q : Prop) : Prop := match b with
  | true => p
  | false => q
theorem ifB_t {p q : Prop} : ifB true p q = p := rfl
theorem ifB_f {p q : Prop} : ifB false p q = q := rfl
theorem ifB_cases {b : Bool} {p q : Prop} (h1 : b = true → p) (h2 : b = false → q) : ifB b p q := by
  cases b with
  | true => exact h1 rfl
  | false => exact h2 rfl
def tAndD (t u : DTT) : DTT := fun ρ Q => t ρ fun b ρ' => ifB b (u ρ' Q) (Q false ρ')
def tOrD (t u : DTT) : DTT := fun ρ Q => t ρ fun b ρ' => ifB b (Q true ρ') (u ρ' Q)
theorem lT_and {t u : DTT} {σ : L2.St} {H : Hp} {Q : Bool → Hp → Prop} (h : lT G (tAndD t u) σ H Q) : tAnd (lT G t) (lT G u) σ H Q := by
  obtain ⟨Hf, ω, ρ, Qd, rep, ht, k⟩ := h
  refine ⟨Hf, ω, ρ, _, rep, ht, fun b H' Hf' ω' ρ' r s q => ?_⟩
  cases b with
  | true => exact iteT ⟨Hf', ω', ρ', _, r, q, fun b2 H2 Hf2 ω2 ρ2 r2 s2 q2 => k b2 H2 Hf2 ω2 ρ2 r2 (s.trans s2) q2⟩
  | false => exact iteF (k false H' Hf' ω' ρ' r s q)
theorem lT_or {t u : DTT} {σ : L2.St} {H : Hp} {Q : Bool → Hp → Prop} (h : lT G (tOrD t u) σ H Q) : tOr (lT G t) (lT G u) σ H Q := by
  obtain ⟨Hf, ω, ρ, Qd, rep, ht, k⟩ := h
  refine ⟨Hf, ω, ρ, _, rep, ht, fun b H' Hf' ω' ρ' r s q => ?_⟩
  cases b with
  | false => exact iteF ⟨Hf', ω', ρ', _, r, q, fun b2 H2 Hf2 ω2 ρ2 r2 s2 q2 => k b2 H2 Hf2 ω2 ρ2 r2 (s.trans s2) q2⟩
  | true => exact iteT (k true H' Hf' ω' ρ' r s q)
abbrev DW (X : Cx) (G : Fx) (e : Expr) (t : DTT) : Prop := PW X e (lT G t)
theorem dw_and1 {t : DTT} {pos : Pos} (h : DT X G a t) : DW X G (.BoolOp .And [a] pos) t := pw_and1 h
theorem dw_or1 {t : DTT} {pos : Pos} (h : DT X G a t) : DW X G (.BoolOp .Or [a] pos) t := pw_or1 h
theorem dw_and {t u : DTT} {rest : List Expr} {pos : Pos} (h : DT X G a t) (k : DW X G (.BoolOp .And (b :: rest) pos) u) : DW X G (.BoolOp .And (a :: b :: rest) pos) (tAndD t u) := pw_imp (pw_and h k) fun _ _ _ h => lT_and h
theorem dw_or {t u : DTT} {rest : List Expr} {pos : Pos} (h : DT X G a t) (k : DW X G (.BoolOp .Or (b :: rest) pos) u) : DW X G (.BoolOp .Or (a :: b :: rest) pos) (tOrD t u) := pw_imp (pw_or h k) fun _ _ _ h => lT_or h
theorem dt_w {t : DTT} (h : DW X G e t) : DT X G e t := PW.pt h
/-! .. as values -/
def tAndE (ta tb : DTE) : DTE := fun ρ Q => ta ρ fun z ρ' => isB z fun b => ifB b (tb ρ' Q) (Q (.bool false) ρ')
def tOrE (ta tb : DTE) : DTE := fun ρ Q => ta ρ fun z ρ' => isB z fun b => ifB b (Q (.bool true) ρ') (tb ρ' Q)
def tNotE (ta : DTE) : DTE := fun ρ Q => ta ρ fun z ρ' => isB z fun b => Q (.bool (!b)) ρ'
theorem de_one {op : BoolOp} {pos : Pos} (h : DE X G a t) : DE X G (.BoolOp op [a] pos) t := pe_one h
theorem de_and {rest : List Expr} {pos : Pos} (h : DE X G a ta) (k : DE X G (.BoolOp .And (b :: rest) pos) tb) : DE X G (.BoolOp .And (a :: b :: rest) pos) (tAndE ta tb) := pe_imp (pe_and h k) fun σ H Q ⟨Hf, ω, ρ, Qd, rep, ht, k⟩ => by
  refine ⟨Hf, ω, ρ, _, rep, ht, fun x H1 Hf1 ω1 ρ1 d rep1 st1 hx ht1 => ?_⟩
  obtain ⟨b, rfl, q⟩ := isB_of ht1
  refine ⟨b, hx.isbl, ?_⟩
  cases b with
  | true => exact iteT ⟨Hf1, ω1, ρ1, _, rep1, q, fun v H2 Hf2 ω2 ρ2 d2 r2 s2 w q2 => k v H2 Hf2 ω2 ρ2 d2 r2 (st1.trans s2) w q2⟩
  | false => exact iteF (k _ H1 Hf1 ω1 ρ1 _ rep1 st1 (.bl false) q)
theorem de_or {rest : List Expr} {pos : Pos} (h : DE X G a ta) (k : DE X G (.BoolOp .Or (b :: rest) pos) tb) : DE X G (.BoolOp .Or (a :: b :: rest) pos) (tOrE ta tb) := pe_imp (pe_or h k) fun σ H Q ⟨Hf, ω, ρ, Qd, rep, ht, k⟩ => by
  refine ⟨Hf, ω, ρ, _, rep, ht, fun x H1 Hf1 ω1 ρ1 d rep1 st1 hx ht1 => ?_⟩
  obtain ⟨b, rfl, q⟩ := isB_of ht1
  refine ⟨b, hx.isbl, ?_⟩
  cases b with
  | false => exact iteF ⟨Hf1, ω1, ρ1, _, rep1, q, fun v H2 Hf2 ω2 ρ2 d2 r2 s2 w q2 => k v H2 Hf2 ω2 ρ2 d2 r2 (st1.trans s2) w q2⟩
  | true => exact iteT (k _ H1 Hf1 ω1 ρ1 _ rep1 st1 (.bl true) q)
theorem de_not {pos : Pos} (h : DE X G a t) : DE X G (.UnaryOp .Not a pos) (tNotE t) := pe_imp (pe_not h) fun σ H Q ⟨Hf, ω, ρ, Qd, rep, ht, k⟩ => by
  refine ⟨Hf, ω, ρ, _, rep, ht, fun x H1 Hf1 ω1 ρ1 d rep1 st1 hx ht1 => ?_⟩
  obtain ⟨b, rfl, q⟩ := isB_of ht1
  exact ⟨b, hx.isbl, k _ H1 Hf1 ω1 ρ1 _ rep1 st1 (.bl _) q⟩
def tIfE (tc : DTT) (ta tb : DTE) : DTE := fun ρ Q => tc ρ fun k ρ' => ifB k (ta ρ' Q) (tb ρ' Q)
theorem de_if {tc : DTT} {pos : Pos} (h : DT X G c tc) (ha : DE X G a ta) (hb : DE X G b tb) : DE X G (.IfExp c a b pos) (tIfE tc ta tb) := pe_imp (pe_ifExp h ha hb) fun σ H Q ⟨Hf, ω, ρ, Qd, rep, ht, k⟩ => by
  refine ⟨Hf, ω, ρ, _, rep, ht, fun b H' Hf' ω' ρ' r s q => ?_⟩
  cases b with
  | true => exact iteT ⟨Hf', ω', ρ', _, r, q, fun v H2 Hf2 ω2 ρ2 d2 r2 s2 w q2 => k v H2 Hf2 ω2 ρ2 d2 r2 (s.trans s2) w q2⟩
  | false => exact iteF ⟨Hf', ω', ρ', _, r, q, fun v H2 Hf2 ω2 ρ2 d2 r2 s2 w q2 => k v H2 Hf2 ω2 ρ2 d2 r2 (s.trans s2) w q2⟩
/-- a op b op' c -/
def tChainD (f f' : PyData → PyData → Option PyData) (ta tb tc : DTE) : DTE := fun ρ Q => ta ρ fun d ρ1 => tb ρ1 fun e ρ2 => opt (f d e) fun z => isB z fun k => ifB k (tc ρ2 fun g ρ3 => opt (f' e g) fun z' => Q z' ρ3) (Q (.bool false) ρ2)
theorem lE_chain {r' : R2} {f' : PyData → PyData → Option PyData} (hr : R2D G.K r f) (hr' : R2D G.K r' f') {σ : L2.St} {H : Hp} {Q : VK} (h : lE G (tChainD f f' ta tb tc) σ H Q) : tChain r r' (lE G ta) (lE G tb) (lE G tc) σ H Q := by
  obtain ⟨Hf, ω, ρ, Qd, rep, ht, k⟩ := h
  refine ⟨Hf, ω, ρ, _, rep, ht, fun x H1 Hf1 ω1 ρ1 d rep1 st1 hx ht1 => ?_⟩
  refine ⟨Hf1, ω1, ρ1, _, rep1, ht1, fun y H2 Hf2 ω2 ρ2 e rep2 st2 hy hz => ?_⟩
  obtain ⟨z, hz, q⟩ := opt_of hz
  obtain ⟨m, rfl, q⟩ := isB_of q
  refine hr x y d e _ Hf2 H2 _ rep2.ex (st2.fz.dp hx) hy hz fun v Hf3 H3 g hv => ⟨m, hv.isbl, ?_⟩
  have rep3 := g.rep rep2
  have st3 := (st1.trans st2).trans (g.stp rep2)
  cases m with
  | false => exact iteF (k _ H3 Hf3 ω2 ρ2 _ rep3 st3 (.bl false) q)
  | true =>
    refine iteT ⟨Hf3, ω2, ρ2, _, rep3, q, fun u H4 Hf4 ω4 ρ4 g4 rep4 st4 hu hq => ?_⟩
    obtain ⟨z', hz', q'⟩ := opt_of hq
    exact hr' y u e g4 z' Hf4 H4 Q rep4.ex ((g.fz.trans st4.fz).dp hy) hu hz' fun w Hf5 H5 g5 hw => k w H5 Hf5 ω4 ρ4 z' (g5.rep rep4) ((st3.trans st4).trans (g5.stp rep4)) hw q'
theorem de_chain {op op' : CmpOp} {r' : R2} {f' : PyData → PyData → Option PyData} {pos : Pos} (ho : OpR X (compareOp op) r) (hr : R2D G.K r f) (ho' : OpR X (compareOp op') r') (hr' : R2D G.K r' f') (ha : DE X G a ta) (hb : DE X G b tb) (hc : DE X G c tc)
    (hm : lastMarks [op, op'] [b, c] = false := by with_unfolding_all rfl) : DE X G (.Compare a [op, op'] [b, c] pos) (tChainD f f' ta tb tc) := pe_imp (pe_chain ho ho' ha hb hc hm) fun _ _ _ h => lE_chain hr hr' h
theorem dt_chain {op op' : CmpOp} {r' : R2} {f' : PyData → PyData → Option PyData} {pos : Pos} (ho : OpR X (compareOp op) r) (hr : R2D G.K r f) (ho' : OpR X (compareOp op') r') (hr' : R2D G.K r' f') (ha : DE X G a ta) (hb : DE X G b tb) (hc : DE X G c tc)
    (hm : lastMarks [op, op'] [b, c] = false := by with_unfolding_all rfl) : DT X G (.Compare a [op, op'] [b, c] pos) (tTs (tChainD f f' ta tb tc)) := pt_imp (pt_chain ho ho' ha hb hc hm) fun _ _ _ h => lE_chain hr hr' (lT_ts h)
end
end DL

namespace DL
open PySem PySem.Spec PyProof.Rows L2

theorem sz {n : Nat} (h : n ≤ 100000) : n ≤ sizeLine := Nat.le_trans h (by decide)
theorem szl {n : Nat} (h : n < 100000) : n < sizeLine := Nat.lt_of_lt_of_le h (by decide)
theorem DdAll.nil_iff {K : Fn} {H : Hp} {vs : List V} {ds : List PyData} (h : DdAll K H vs ds) : vs = [] ↔ ds = [] := by
  cases h <;> simp
section
variable {X : Cx} {L : Fn} {f f' : PyData → PyData → Option PyData}
/-! ### operators -/
def addD : PyData → PyData → Option PyData
  | .int i, .int j => some (.int (i + j))
  | .tuple xs, .tuple ys => if xs.length + ys.length ≤ 100000 then some (.tuple (xs ++ ys)) else none
  | .list xs, .list ys => if xs.length + ys.length ≤ 100000 then some (.list (xs ++ ys)) else none
  | _, _ => none
def subD : PyData → PyData → Option PyData
  | .int i, .int j => some (.int (i - j))
  | _, _ => none
def mulD : PyData → PyData → Option PyData
  | .int i, .int j => if i.natAbs < 2 ^ 64 ∨ j.natAbs < 2 ^ 64 then some (.int (i * j)) else none
  | _, _ => none
def fdivD : PyData → PyData → Option PyData
  | .int i, .int j => if 0 < j ∧ j < 1073741824 then some (.int (i / j)) else none
  | _, _ => none
def modD : PyData → PyData → Option PyData
  | .int i, .int j => if 0 < j then some (.int (i % j)) else none
  | _, _ => none
def powD : PyData → PyData → Option PyData
  | .int i, .int j => if 0 ≤ j ∧ j ≤ 1000000 ∧ i.natAbs < 2 ^ 64 then some (.int (i ^ j.toNat)) else none
  | _, _ => none
def cmpI (g : Int → Int → Bool) : PyData → PyData → Option PyData
  | .int i, .int j => some (.bool (g i j))
  | _, _ => none
abbrev ltD : PyData → PyData → Option PyData := cmpI fun i j => decide (i < j)
abbrev leD : PyData → PyData → Option PyData := cmpI fun i j => decide (i ≤ j)
abbrev gtD : PyData → PyData → Option PyData := cmpI fun i j => decide (j < i)
abbrev geD : PyData → PyData → Option PyData := cmpI fun i j => decide (j ≤ i)
theorem if_of {α : Type} {c : Prop} [Decidable c] {a z : α} (h : (if c then some a else none) = some z) : c ∧ a = z := by
  by_cases q : c
  · rw [if_pos q] at h; exact ⟨q, Option.some.inj h⟩
  · rw [if_neg q] at h; cases h

abbrev rAddA (K : PySem.W.Frag) : R2 := fun x y H Q => rI0 (fun i j => .int (i + j)) x y H Q ∨ rCatA K x y H Q ∨ rCat x y H Q
theorem oAdd : OpR X (binaryOp .Add) (rAddA X.K) := op_add.or (op_catA.or op_cat)
theorem dAdd {K : PySem.W.Frag} : R2D L (rAddA K) addD := by
  intro x y d e z Hf H Q ex hx hy hz k
  cases hx with
  | int i =>
    cases hy with
    | int j => cases hz; exact .inl ⟨i, j, rfl, rfl, k _ _ _ (.refl ex) (.int _)⟩
    | _ => cases hz
  | @tup a vs ds h1 h2 =>
    cases hy with
    | @tup b ws es h3 h4 =>
      obtain ⟨hl, rfl⟩ := if_of hz
      have l1 := h2.len
      have l2 := h4.len
      refine .inr (.inl ⟨a, b, vs, ws, rfl, rfl, .of (ex _ _ h1), .of (ex _ _ h3), sz (by omega), fun e0 => ?_, fun _ e0 => ?_, fun _ _ p hp => ?_⟩)
      · have q := h2.nil_iff.mp e0
        subst q
        exact k _ _ _ (.refl ex) (.tup h3 h4)
      · have q := h4.nil_iff.mp e0
        subst q
        rw [List.append_nil] at k
        exact k _ _ _ (.refl ex) (.tup h1 h2)
      · exact k _ _ _ (.new ex hp) (.tup upd_same ((Ex.new (ex.none hp)).dpAll (h2.app h4)))
    | _ => cases hz
  | @lst a vs ds h1 h2 =>
    cases hy with
    | @lst b ws es h3 h4 =>
      obtain ⟨hl, rfl⟩ := if_of hz
      have l1 := h2.len
      have l2 := h4.len
      refine .inr (.inr ⟨a, b, vs, ws, rfl, rfl, ex _ _ h1, ex _ _ h3, sz (by omega), fun p hp => ?_⟩)
      exact k _ _ _ (.new ex hp) (.lst upd_same ((Ex.new (ex.none hp)).dpAll (h2.app h4)))
    | _ => cases hz
  | _ => cases hy <;> cases hz
theorem dI0 {g : Int → Int → V} {f : PyData → PyData → Option PyData} (hf : ∀ d e z, f d e = some z → ∃ i j, d = .int i ∧ e = .int j ∧ ∀ H, Dd L H (g i j) z) : R2D L (rI0 g) f := by
  intro x y d e z Hf H Q ex hx hy hz k
  obtain ⟨i, j, rfl, rfl, q⟩ := hf d e z hz
  exact ⟨i, j, hx.isint, hy.isint, k _ _ _ (.refl ex) (q _)⟩
theorem dI {C : Int → Int → Prop} {g : Int → Int → V} {f : PyData → PyData → Option PyData} (hf : ∀ d e z, f d e = some z → ∃ i j, d = .int i ∧ e = .int j ∧ C i j ∧ ∀ H, Dd L H (g i j) z) : R2D L (rI C g) f := by
  intro x y d e z Hf H Q ex hx hy hz k
  obtain ⟨i, j, rfl, rfl, c, q⟩ := hf d e z hz
  exact ⟨i, j, hx.isint, hy.isint, c, k _ _ _ (.refl ex) (q _)⟩
theorem dSub : R2D L (rI0 fun i j => .int (i - j)) subD := dI0 fun d e z h => by
  unfold subD at h; split at h
  · cases h; exact ⟨_, _, rfl, rfl, fun _ => .int _⟩
  · cases h
theorem dMul : R2D L (rI CMul fun i j => .int (i * j)) mulD := dI fun d e z h => by
  unfold mulD at h; split at h
  · obtain ⟨c, rfl⟩ := if_of h
    refine ⟨_, _, rfl, rfl, ?_, fun _ => .int _⟩
    rcases c with c | c
    · exact .inl (by omega)
    · exact .inr (by omega)
  · cases h
theorem dFdiv : R2D L (rI CDiv fun i j => .int (i / j)) fdivD := dI fun d e z h => by
  unfold fdivD at h; split at h
  · obtain ⟨c, rfl⟩ := if_of h
    exact ⟨_, _, rfl, rfl, c, fun _ => .int _⟩
  · cases h
theorem dMod : R2D L (rI (fun _ j => 0 < j) fun i j => .int (i % j)) modD := dI fun d e z h => by
  unfold modD at h; split at h
  · obtain ⟨c, rfl⟩ := if_of h
    exact ⟨_, _, rfl, rfl, c, fun _ => .int _⟩
  · cases h
theorem dPow : R2D L (rI CPow fun i j => .int (i ^ j.toNat)) powD := dI fun d e z h => by
  unfold powD at h; split at h
  · obtain ⟨c, rfl⟩ := if_of h
    exact ⟨_, _, rfl, rfl, c, fun _ => .int _⟩
  · cases h
theorem dCmp {g : Int → Int → Bool} : R2D L (rI0 fun i j => .bl (g i j)) (cmpI g) := dI0 fun d e z h => by
  unfold cmpI at h; split at h
  · cases h; exact ⟨_, _, rfl, rfl, fun _ => .bl _⟩
  · cases h
/-- == of data of any depth to 64 -/
def eqD (d e : PyData) : Option PyData := if SeqAt.shaped d = true ∧ SeqAt.shaped e = true then some (.bool (PyData.eqv d e)) else none
def neD (d e : PyData) : Option PyData := if SeqAt.shaped d = true ∧ SeqAt.shaped e = true then some (.bool (!PyData.eqv d e)) else none
theorem lay_of {d : PyData} (h : SeqAt.shaped d = true) : d.canLay0 = true := by
  unfold SeqAt.shaped at h
  rw [Bool.and_eq_true] at h
  exact h.1
theorem dEq {K : PySem.W.Frag} : R2D L (rEqD K) eqD := by
  intro x y d e z Hf H Q ex hx hy hz k
  obtain ⟨⟨c1, c2⟩, rfl⟩ := if_of hz
  exact ⟨d, e, (ex.dp hx).old (lay_of c1), (ex.dp hy).old (lay_of c2), c1, c2, k _ _ _ (.refl ex) (.bl _)⟩
theorem dNe {K : PySem.W.Frag} : R2D L (rNeD K) neD := by
  intro x y d e z Hf H Q ex hx hy hz k
  obtain ⟨⟨c1, c2⟩, rfl⟩ := if_of hz
  exact ⟨d, e, (ex.dp hx).old (lay_of c1), (ex.dp hy).old (lay_of c2), c1, c2, k _ _ _ (.refl ex) (.bl _)⟩
/-- is: None, or two bools -/
def isNon : PyData → Bool
  | .none => true
  | _ => false
def notFn : PyData → Bool
  | .dict _ => false
  | _ => true
def isO (d e : PyData) : Option PyData := match d, e with
  | .bool a, .bool b => some (.bool (decide (a = b)))
  | d, .none => if notFn d = true then some (.bool (isNon d)) else none
  | _, _ => none
def isnO (d e : PyData) : Option PyData := match d, e with
  | .bool a, .bool b => some (.bool (!decide (a = b)))
  | d, .none => if notFn d = true then some (.bool (!isNon d)) else none
  | _, _ => none
abbrev rIsA : R2 := fun x y H Q => (y = .non ∧ Q (.bl (decide (x = .non))) H) ∨ (∃ a b, x = .bl a ∧ y = .bl b ∧ Q (.bl (decide (a = b))) H)
abbrev rIsnA : R2 := fun x y H Q => (y = .non ∧ Q (.bl (!decide (x = .non))) H) ∨ (∃ a b, x = .bl a ∧ y = .bl b ∧ Q (.bl (!decide (a = b))) H)
theorem oIs : OpR X (compareOp .Is) rIsA := op_isN.or op_is_bl
theorem oIsn : OpR X (compareOp .IsNot) rIsnA := op_notN.or op_isnot_bl
theorem Dd.nonIff {H : Hp} {x : V} {d : PyData} (h : Dd L H x d) (c : notFn d = true) : decide (x = .non) = isNon d := by
  cases h <;> first | rfl | cases c | simp [isNon]
theorem dIs : R2D L rIsA isO := by
  intro x y d e z Hf H Q ex hx hy hz k
  unfold isO at hz
  split at hz
  · cases hz
    exact .inr ⟨_, _, hx.isbl, hy.isbl, k _ _ _ (.refl ex) (.bl _)⟩
  · obtain ⟨c, rfl⟩ := if_of hz
    refine .inl ⟨hy.isnon, ?_⟩
    rw [hx.nonIff c]
    exact k _ _ _ (.refl ex) (.bl _)
  · cases hz
theorem dIsn : R2D L rIsnA isnO := by
  intro x y d e z Hf H Q ex hx hy hz k
  unfold isnO at hz
  split at hz
  · cases hz
    exact .inr ⟨_, _, hx.isbl, hy.isbl, k _ _ _ (.refl ex) (.bl _)⟩
  · obtain ⟨c, rfl⟩ := if_of hz
    refine .inl ⟨hy.isnon, ?_⟩
    rw [hx.nonIff c]
    exact k _ _ _ (.refl ex) (.bl _)
  · cases hz
/-! in, not in: flat items of a list or a tuple -/
def flatD : PyData → Bool
  | .none => true
  | .bool _ => true
  | .int _ => true
  | .str _ => true
  | _ => false
def itemsD : PyData → Option (List PyData)
  | .list xs => some xs
  | .tuple xs => some xs
  | _ => none
def inD (d e : PyData) : Option PyData := (itemsD e).bind fun xs => if flatD d = true ∧ xs.all flatD = true then some (.bool (xs.any fun y => PyData.eqv y d)) else none
def ninD (d e : PyData) : Option PyData := (itemsD e).bind fun xs => if flatD d = true ∧ xs.all flatD = true then some (.bool (!xs.any fun y => PyData.eqv y d)) else none
theorem Dd.flat {H : Hp} {x : V} {d : PyData} (h : Dd L H x d) (c : flatD d = true) : flatV x = true := by
  cases h <;> first | rfl | cases c
theorem DdAll.flat {H : Hp} : ∀ {xs : List V} {ds : List PyData}, DdAll L H xs ds → ds.all flatD = true → xs.all flatV = true
  | _, _, .nil, _ => rfl
  | _, _, .cons h t, c => by
    rw [List.all_cons, Bool.and_eq_true] at c ⊢
    exact ⟨h.flat c.1, t.flat c.2⟩
theorem Dd.eqFlat {H : Hp} {x y : V} {d e : PyData} (h : Dd L H x d) (k : Dd L H y e) (c : flatD d = true) (c' : flatD e = true) : eqV x y = PyData.eqv d e := by
  cases h <;> cases k <;> first
    | (simp [eqV, PyData.eqv]; done)
    | (simp [flatD] at c; done)
    | (simp [flatD] at c'; done)
theorem DdAll.any {H : Hp} {x : V} {d : PyData} (h : Dd L H x d) (c : flatD d = true) : ∀ {xs : List V} {ds : List PyData}, DdAll L H xs ds → ds.all flatD = true → inV x xs = ds.any fun y => PyData.eqv y d
  | _, _, .nil, _ => rfl
  | _, _, .cons k t, q => by
    rw [List.all_cons, Bool.and_eq_true] at q
    have ih := DdAll.any h c t q.2
    unfold inV at ih ⊢
    rw [List.any_cons, List.any_cons, ih, Dd.eqFlat k h q.1 c]
theorem dIn {K : PySem.W.Frag} : R2D L (rIn K false) inD := by
  intro x y d e z Hf H Q ex hx hy hz k
  unfold inD itemsD at hz
  split at hz
  · obtain ⟨⟨c1, c2⟩, rfl⟩ := if_of hz
    cases hy with
    | @lst a vs ds h1 h2 =>
      refine ⟨a, vs, rfl, .inl (.of (ex _ _ h1)), hx.flat c1, h2.flat c2, ?_⟩
      rw [if_neg Bool.false_ne_true, DdAll.any hx c1 h2 c2]
      exact k _ _ _ (.refl ex) (.bl _)
  · obtain ⟨⟨c1, c2⟩, rfl⟩ := if_of hz
    cases hy with
    | @tup a vs ds h1 h2 =>
      refine ⟨a, vs, rfl, .inr (.of (ex _ _ h1)), hx.flat c1, h2.flat c2, ?_⟩
      rw [if_neg Bool.false_ne_true, DdAll.any hx c1 h2 c2]
      exact k _ _ _ (.refl ex) (.bl _)
  · cases hz
theorem dNin {K : PySem.W.Frag} : R2D L (rIn K true) ninD := by
  intro x y d e z Hf H Q ex hx hy hz k
  unfold ninD itemsD at hz
  split at hz
  · obtain ⟨⟨c1, c2⟩, rfl⟩ := if_of hz
    cases hy with
    | @lst a vs ds h1 h2 =>
      refine ⟨a, vs, rfl, .inl (.of (ex _ _ h1)), hx.flat c1, h2.flat c2, ?_⟩
      rw [if_pos rfl, DdAll.any hx c1 h2 c2]
      exact k _ _ _ (.refl ex) (.bl _)
  · obtain ⟨⟨c1, c2⟩, rfl⟩ := if_of hz
    cases hy with
    | @tup a vs ds h1 h2 =>
      refine ⟨a, vs, rfl, .inr (.of (ex _ _ h1)), hx.flat c1, h2.flat c2, ?_⟩
      rw [if_pos rfl, DdAll.any hx c1 h2 c2]
      exact k _ _ _ (.refl ex) (.bl _)
  · cases hz
/-! an item of a list or a tuple -/
def ixD (d e : PyData) : Option PyData := match e with
  | .int i => (itemsD d).bind fun xs => atI xs i
  | _ => none
theorem atI_all {H : Hp} {vs : List V} {ds : List PyData} {i : Int} {z : PyData} (h : DdAll L H vs ds) (e : atI ds i = some z) : ∃ v, atI vs i = some v ∧ Dd L H v z := by
  unfold atI at e ⊢
  rw [h.len]
  cases q : ixN ds.length i with
  | none => rw [q] at e; cases e
  | some j =>
    rw [q] at e
    exact h.get (show ds[j]? = some z from e)
theorem dIx {K : PySem.W.Frag} : R2D L (rIx K) ixD := by
  intro x y d e z Hf H Q ex hx hy hz k
  unfold ixD at hz
  split at hz
  · rename_i i
    unfold itemsD at hz
    split at hz
    · cases hx with
      | @lst a vs ds h1 h2 =>
        obtain ⟨v, e1, e2⟩ := atI_all (i := i) (z := z) h2 hz
        exact .inl ⟨a, vs, i, v, rfl, hy.isint, .of (ex _ _ h1), e1, k _ _ _ (.refl ex) e2⟩
    · cases hx with
      | @tup a vs ds h1 h2 =>
        obtain ⟨v, e1, e2⟩ := atI_all (i := i) (z := z) h2 hz
        exact .inr (.inl ⟨a, vs, i, v, rfl, hy.isint, .of (ex _ _ h1), e1, k _ _ _ (.refl ex) e2⟩)
    · cases hz
  · cases hz
end

/-! ### argument lists of data -/
section
variable {X : Cx} {G : Fx} {e : Expr} {es : List Expr} {ta : DTE} {pa : DTP} {tl : DTL} {pl : DSt → (List PyData → Prop) → Prop} {n : Nat}
def tD0 : DTL := fun ρ Q => Q [] ρ
def tD1 (ta : DTE) (tl : DTL) : DTL := fun ρ Q => ta ρ fun d ρ1 => tl ρ1 fun ds ρ2 => Q (d :: ds) ρ2
def tV0 : DSt → (List PyData → Prop) → Prop := fun _ Q => Q []
def tV1 (pa : DTP) (pl : DSt → (List PyData → Prop) → Prop) : DSt → (List PyData → Prop) → Prop := fun ρ Q => pa ρ fun d => pl ρ fun ds => Q (d :: ds)
theorem dd_nil : DD X G [] 0 tD0 := pa_imp pa_nil fun σ H Q ⟨Hf, ω, ρ, Qd, rep, ht, k⟩ => k [] H Hf ω ρ [] rfl rep Stp.refl .nil ht
theorem dd_cons (ha : DE X G e ta) (hl : DD X G es n tl) (hs : starEach (e :: es) X.env = (false, eval e X.env) :: starEach es X.env := by rfl) : DD X G (e :: es) (n + 1) (tD1 ta tl) := pa_imp (pa_cons ha hl hs) fun σ H Q ⟨Hf, ω, ρ, Qd, rep, ht, k⟩ =>
  ⟨Hf, ω, ρ, _, rep, ht, fun v H1 Hf1 ω1 ρ1 d rep1 st1 hv q1 => ⟨Hf1, ω1, ρ1, _, rep1, q1, fun vs H2 Hf2 ω2 ρ2 ds hn rep2 st2 hvs q2 =>
    k (v :: vs) H2 Hf2 ω2 ρ2 (d :: ds) (by rw [List.length_cons, hn]) rep2 (st1.trans st2) (.cons (st2.fz.dp hv) hvs) q2⟩⟩
theorem dvd_nil : DDP X G [] tV0 := pa_imp pa_nil fun σ H Q ⟨Hf, ω, ρ, Qd, rep, ht, k⟩ => k [] H [] (Ex.refl _) .nil ht
theorem dvd_cons (ha : DP X G e pa) (hl : DDP X G es pl) (hs : starEach (e :: es) X.env = (false, eval e X.env) :: starEach es X.env := by rfl) : DDP X G (e :: es) (tV1 pa pl) := pa_imp (pa_cons ha hl hs) fun σ H Q ⟨Hf, ω, ρ, Qd, rep, ht, k⟩ =>
  ⟨Hf, ω, ρ, _, rep, ht, fun v H1 d ex1 hv q1 => ⟨Hf, ω, ρ, _, (rep.look ex1).rep rep, q1, fun vs H2 ds ex2 hvs q2 =>
    k (v :: vs) H2 (d :: ds) (ex1.trans ex2) (.cons (ex2.dp hv) hvs) q2⟩⟩

/-! ### displays -/
def tTupD (tl : DTL) : DTE := fun ρ Q => tl ρ fun ds ρ1 => Q (.tuple ds) ρ1
def tTupP (pl : DSt → (List PyData → Prop) → Prop) : DTP := fun ρ Q => pl ρ fun ds => ds.length ≤ 100000 ∧ Q (.tuple ds)
def tLstP (pl : DSt → (List PyData → Prop) → Prop) : DTP := fun ρ Q => pl ρ fun ds => ds.length ≤ 100000 ∧ Q (.list ds)
def tLstR (tl : DTL) : DTR := fun ρ Q => tl ρ fun ds ρ1 => Q (.ls ds) ρ1
theorem de_tup {k : Nat} {pos : Pos} (h : DD X G es n tl) (hn : n ≤ 100000 := by decide) : DE X G (.Tuple es k pos) (tTupD tl) := pe_imp (pe_tup h) fun σ H Q ⟨Hf, ω, ρ, Qd, rep, ht, k⟩ =>
  ⟨Hf, ω, ρ, _, rep, ht, fun vs H1 Hf1 ω1 ρ1 ds hl rep1 st1 hv q1 => ⟨sz (by rw [hv.len, hl]; exact hn), fun p hp => by
    have g : Grw Hf1 H1 _ _ := .new (o := .tup vs) rep1.ex hp
    exact k _ _ _ _ _ _ (g.rep rep1) (st1.trans (g.stp rep1)) (.tup upd_same (g.fz.dpAll hv)) q1⟩⟩
theorem dv_tup {k : Nat} {pos : Pos} (h : DDP X G es pl) : DP X G (.Tuple es k pos) (tTupP pl) := pe_imp (pe_tup h) fun σ H Q ⟨Hf, ω, ρ, Qd, rep, ht, k⟩ =>
  ⟨Hf, ω, ρ, _, rep, ht, fun vs H1 ds ex hv q1 => ⟨sz (by rw [hv.len]; exact q1.1), fun p hp => k _ _ _ (ex.trans (.new hp)) (.tup upd_same ((Ex.new hp).dpAll hv)) q1.2⟩⟩
theorem dv_lst {pos : Pos} (h : DDP X G es pl) : DP X G (.List es pos) (tLstP pl) := pe_imp (pe_lst h) fun σ H Q ⟨Hf, ω, ρ, Qd, rep, ht, k⟩ =>
  ⟨Hf, ω, ρ, _, rep, ht, fun vs H1 ds ex hv q1 => ⟨sz (by rw [hv.len]; exact q1.1), fun p hp => k _ _ _ (ex.trans (.new hp)) (.lst upd_same ((Ex.new hp).dpAll hv)) q1.2⟩⟩
/-- a new object at p, neither frozen nor owned: a resource -/
theorem lay_ls {Hf H : Hp} {ω : Addr → Option Nat} {σ : L2.St} {ρ : DSt} {p : Addr} {vs : List V} {ds : List PyData} (rep : RepF G Hf H ω σ ρ) (hp : H p = none) (hv : DdAll G.K Hf vs ds) :
    RepF G Hf (upd H p (.lst vs)) ω σ ρ ∧ Stp Hf H ω Hf (upd H p (.lst vs)) ω ∧ (∀ a, a = p → H a = none ∧ Hf a = none ∧ ω a = none ∧ ∃ o, upd H p (.lst vs) a = some o) ∧ RepV G.K Hf (upd H p (.lst vs)) (fun a => a = p) (.ref p) (.ls ds) := by
  have g : Grw Hf H Hf (upd H p (.lst vs)) := .lay rep.ex hp
  refine ⟨g.rep rep, g.stp rep, fun a e => ?_, p, vs, rfl, rfl, upd_same, hv⟩
  subst e
  refine ⟨hp, rep.ex.none hp, ?_, _, upd_same⟩
  cases q : ω a with
  | none => rfl
  | some i => obtain ⟨_, o, h⟩ := rep.own a i q; rw [hp] at h; cases h
theorem dr_lst {pos : Pos} (h : DD X G es n tl) (hn : n ≤ 100000 := by decide) : DR X G (.List es pos) (tLstR tl) := pe_imp (pe_lst h) fun σ H Q ⟨Hf, ω, ρ, Qd, rep, ht, k⟩ =>
  ⟨Hf, ω, ρ, _, rep, ht, fun vs H1 Hf1 ω1 ρ1 ds hl rep1 st1 hv q1 => ⟨sz (by rw [hv.len, hl]; exact hn), fun p hp => by
    obtain ⟨r2, s2, f2, v2⟩ := lay_ls (G := G) rep1 hp hv
    refine k _ _ _ _ _ _ _ r2 (st1.trans s2) (fun a ha => ?_) v2 q1
    obtain ⟨z1, z2, z3, z4⟩ := f2 a ha
    refine ⟨.inl ?_, z2, z3, z4⟩
    cases q : H a with
    | none => rfl
    | some o => obtain ⟨o', h'⟩ := st1.keep a o q; rw [z1] at h'; cases h'⟩⟩
/-! resources from data, data from resources -/
def tDR (t : DTE) : DTR := fun ρ Q => t ρ fun d ρ' => Q (.fz d) ρ'
theorem dr_e {t : DTE} (h : DE X G e t) : DR X G e (tDR t) := pe_imp h fun σ H Q ⟨Hf, ω, ρ, Qd, rep, ht, k⟩ =>
  ⟨Hf, ω, ρ, _, rep, ht, fun v H1 Hf1 ω1 ρ1 d rep1 st1 hv q1 => k v H1 Hf1 ω1 ρ1 (.fz d) (fun _ => False) rep1 st1 (fun _ z => z.elim) hv q1⟩
def resD (r : Res) (k : PyData → Prop) : Prop := match r with
  | .fz d => k d
  | .ls xs => k (.list xs)
  | .nl _ => False
  | .ext _ => False
def tRD (t : DTR) : DTE := fun ρ Q => t ρ fun r ρ' => resD r fun d => Q d ρ'
theorem de_r {t : DTR} (h : DR X G e t) : DE X G e (tRD t) := pe_imp h fun σ H Q ⟨Hf, ω, ρ, Qd, rep, ht, k⟩ => by
  refine ⟨Hf, ω, ρ, _, rep, ht, fun v H1 Hf1 ω1 ρ1 r S rep1 st1 hS hv q1 => ?_⟩
  cases r with
  | fz d => exact k v H1 Hf1 ω1 ρ1 d rep1 st1 hv q1
  | ext A => exact q1.elim
  | nl _ => exact q1.elim
  | ls xs =>
    obtain ⟨a, vs, rfl, ha, h1, h2⟩ := hv
    obtain ⟨z1, z2, z3, _⟩ := hS a ha
    have hx : Ex Hf1 (upd Hf1 a (.lst vs)) := Ex.new z2
    have hR : RepF G (upd Hf1 a (.lst vs)) H1 ω1 σ ρ1 := by
      refine ⟨fun b o q => ?_, fun b j q => ?_, rep1.len, rep1.fix, fun j r q => ?_⟩
      · by_cases hb : b = a
        · subst hb; rw [upd_same] at q; cases q; exact h1
        · rw [upd_ne hb] at q; exact rep1.ex b o q
      · have hb : b ≠ a := fun z => by subst z; rw [z3] at q; cases q
        rw [upd_ne hb]; exact rep1.own b j q
      · obtain ⟨w, w1, w2⟩ := rep1.slot j r q
        exact ⟨w, w1, w2.mono hx (fun _ _ => rfl) fun _ z => z⟩
    have hT : Stp Hf H ω (upd Hf1 a (.lst vs)) H1 ω1 := by
      refine ⟨st1.fz.trans hx, st1.fr, st1.keep, fun b o q w c => ?_, st1.new⟩
      have hb : b ≠ a := fun z => by
        subst z
        rcases z1 with z | ⟨j, z⟩
        · rw [q] at z; cases z
        · rw [w] at z; cases z
      rw [upd_ne hb]; exact st1.cap b o q w c
    exact k _ H1 _ ω1 ρ1 (.list xs) hR hT (.lst upd_same (hx.dpAll h2)) q1
/-- a slot's resource is taken out -/
def tMv (i : Nat) : DTR := fun ρ Q => match ρ[i]? with
  | some (some r) => Q r (ρ.set i none)
  | _ => False
theorem dr_mv {i : Nat} (h : PE X e (tVar i)) : DR X G e (tMv i) := pe_imp h fun σ H Q ⟨Hf, ω, ρ, Qd, rep, ht, k⟩ => by
  unfold tMv at ht
  split at ht
  · rename_i r q
    obtain ⟨v, e1, e2⟩ := rep.slot i _ q
    refine ⟨v, e1, k v H Hf (fun a => if ω a = some i then none else ω a) (ρ.set i none) r (fun a => ω a = some i) ?_ ?_ (fun a ha => ?_) e2 ht⟩
    · refine ⟨rep.ex, fun b j w => ?_, by rw [List.length_set]; exact rep.len, rep.fix, fun j r' w => ?_⟩
      · by_cases hb : ω b = some i
        · simp [hb] at w
        · simp only [hb, if_false] at w; exact rep.own b j w
      · rcases set_get w with ⟨ej, er⟩ | ⟨ne, ww⟩
        · cases er
        · obtain ⟨u, u1, u2⟩ := rep.slot j r' ww
          refine ⟨u, u1, u2.mono (Ex.refl _) (fun _ _ => rfl) fun b hb => ?_⟩
          have : ω b ≠ some i := fun z => by rw [z] at hb; exact ne (Option.some.inj hb)
          simp only [this, if_false]; exact hb
    · refine ⟨Ex.refl _, fun _ _ q _ => q, fun _ o q => ⟨o, q⟩, fun _ _ _ _ c => c, fun b j w => ?_⟩
      by_cases hb : ω b = some i
      · simp [hb] at w
      · simp only [hb, if_false] at w; exact .inl ⟨j, w⟩
    · obtain ⟨z1, z2⟩ := rep.own a i ha
      have ha' : ω a = some i := ha
      exact ⟨.inr ⟨i, ha⟩, z1, by simp [ha'], z2⟩
  · exact ht.elim
end
end DL

namespace DL
open PySem PySem.Spec PyProof.Rows L2
section
variable {X : Cx} {G : Fx} {e a b c : Expr} {es : List Expr} {ta tb tc : DTE} {pa pb : DTP} {tl : DTL} {pl : DSt → (List PyData → Prop) → Prop} {n : Nat}

/-! ### slices -/
abbrev DTO := DSt → (Option Int → DSt → Prop) → Prop
def lO (G : Fx) (t : DTO) : TO := fun σ H Q => ∃ Hf ω ρ Qd, RepF G Hf H ω σ ρ ∧ t ρ Qd ∧
  ∀ o H' Hf' ω' ρ', RepF G Hf' H' ω' σ ρ' → Stp Hf H ω Hf' H' ω' → Qd o ρ' → Q o H'
theorem po_imp {e : Option Expr} {t t' : TO} (h : PO X e t) (i : ∀ σ H Q, t' σ H Q → t σ H Q) : PO X e t' := ⟨fun pins s σ H Q I x => h.run pins s σ H Q I (i σ H Q x)⟩
abbrev DO (X : Cx) (G : Fx) (e : Option Expr) (t : DTO) : Prop := PO X e (lO G t)
def isI (z : PyData) (k : Int → Prop) : Prop := match z with
  | .int i => k i
  | _ => False
theorem isI_int {i : Int} {k : Int → Prop} : isI (.int i) k = k i := rfl
theorem isI_of {z : PyData} {k : Int → Prop} (h : isI z k) : ∃ b, z = .int b ∧ k b := by
  cases z <;> first | exact ⟨_, rfl, h⟩ | exact h.elim
def tO0 : DTO := fun ρ Q => Q none ρ
def tO1 (t : DTE) : DTO := fun ρ Q => t ρ fun z ρ' => isI z fun i => Q (some i) ρ'
theorem do_none : DO X G none tO0 := po_imp po_none fun σ H Q ⟨Hf, ω, ρ, Qd, rep, ht, k⟩ => k none H Hf ω ρ rep Stp.refl ht
theorem do_some {t : DTE} (h : DE X G e t) : DO X G (some e) (tO1 t) := po_imp (po_some h) fun σ H Q ⟨Hf, ω, ρ, Qd, rep, ht, k⟩ =>
  ⟨Hf, ω, ρ, _, rep, ht, fun v H1 Hf1 ω1 ρ1 d rep1 st1 hv q1 => by
    obtain ⟨i, rfl, q⟩ := isI_of q1
    exact ⟨i, hv.isint, k (some i) H1 Hf1 ω1 ρ1 rep1 st1 q⟩⟩
def cutD (xs : List PyData) (lo hi : Option Int) : List PyData := (xs.drop (HT.sIx xs.length 0 lo)).take (HT.sIx xs.length xs.length hi - HT.sIx xs.length 0 lo)
theorem DdAll.cut {K : Fn} {H : Hp} {vs : List V} {ds : List PyData} (h : DdAll K H vs ds) (lo hi : Option Int) : DdAll K H (cutV vs lo hi) (cutD ds lo hi) := by
  unfold cutV cutD
  rw [h.len]
  exact (h.drop _).take _
abbrev rSlS (K : PySem.W.Frag) : V → Option Int → Option Int → Hp → VK → Prop := fun x lo hi H Q => rSlA K x lo hi H Q ∨ rSlL K x lo hi H Q
theorem oSl : SlR X (rSlS X.K) := sl_tupA.or sl_list
def sliceD (d : PyData) (lo hi : Option Int) : Option PyData := match d with
  | .tuple xs => some (.tuple (cutD xs lo hi))
  | .list xs => some (.list (cutD xs lo hi))
  | _ => none
def tSlD (te : DTE) (tl th : DTO) : DTE := fun ρ Q => te ρ fun d ρ1 => tl ρ1 fun lo ρ2 => th ρ2 fun hi ρ3 => opt (sliceD d lo hi) fun z => Q z ρ3
theorem de_slice {lo hi : Option Expr} {tlo thi : DTO} {p2 pos : Pos} (he : DE X G e ta) (hl : DO X G lo tlo) (hh : DO X G hi thi) : DE X G (.Subscript e (.Slice lo hi none p2) pos) (tSlD ta tlo thi) := pe_imp (pe_slice oSl he hl hh) fun σ H Q ⟨Hf, ω, ρ, Qd, rep, ht, k⟩ => by
  refine ⟨Hf, ω, ρ, _, rep, ht, fun x H1 Hf1 ω1 ρ1 d rep1 st1 hx q1 => ⟨Hf1, ω1, ρ1, _, rep1, q1, fun l H2 Hf2 ω2 ρ2 rep2 st2 q2 => ⟨Hf2, ω2, ρ2, _, rep2, q2, fun u H3 Hf3 ω3 ρ3 rep3 st3 q3 => ?_⟩⟩⟩
  obtain ⟨z, hz, q⟩ := opt_of q3
  have hx3 := (st2.fz.trans st3.fz).dp hx
  have st := (st1.trans st2).trans st3
  unfold sliceD at hz
  split at hz
  · cases hz
    cases hx3 with
    | @tup p vs _ h1 h2 =>
      refine .inl ⟨p, vs, rfl, .of (rep3.ex _ _ h1), fun hw => ?_, fun _ w hw => ?_⟩
      · refine k _ _ _ _ _ _ rep3 st (.tup h1 ?_) q
        have e1 := h2.cut l u
        have : cutV vs l u = vs := by
          unfold cutV
          rw [hw.1, hw.2]
          simp
        rw [this] at e1
        exact e1
      · have g : Grw Hf3 H3 _ _ := .new (o := .tup (cutV vs l u)) rep3.ex hw
        exact k _ _ _ _ _ _ (g.rep rep3) (st.trans (g.stp rep3)) (.tup upd_same (g.fz.dpAll (h2.cut l u))) q
  · cases hz
    cases hx3 with
    | @lst p vs _ h1 h2 =>
      refine .inr ⟨p, vs, rfl, .of (rep3.ex _ _ h1), fun w hw => ?_⟩
      have g : Grw Hf3 H3 _ _ := .new (o := .lst (cutV vs l u)) rep3.ex hw
      exact k _ _ _ _ _ _ (g.rep rep3) (st.trans (g.stp rep3)) (.lst upd_same (g.fz.dpAll (h2.cut l u))) q
  · cases hz

/-! ### built-ins by name -/
def RCD (L : Fn) (rc : List V → Hp → VK → Prop) (f : List PyData → Option PyData) : Prop := ∀ xs ds z Hf H (Q : VK), Ex Hf H → DdAll L Hf xs ds → f ds = some z → (∀ v Hf' H', Grw Hf H Hf' H' → Dd L Hf' v z → Q v H') → rc xs H Q
def tClD (f : List PyData → Option PyData) (tl : DTL) : DTE := fun ρ Q => tl ρ fun ds ρ' => opt (f ds) fun z => Q z ρ'
def tClP (f : List PyData → Option PyData) (pl : DSt → (List PyData → Prop) → Prop) : DTP := fun ρ Q => pl ρ fun ds => opt (f ds) Q
variable {rc : List V → Hp → VK → Prop} {fc : List PyData → Option PyData} {x : Str} {p pos : Pos} {id T : String}
theorem lE_cl (hr : RCD G.K rc fc) {σ : L2.St} {H : Hp} {Q : VK} (h : lE G (tClD fc tl) σ H Q) : tCB rc (lD G n tl) σ H Q := by
  obtain ⟨Hf, ω, ρ, Qd, rep, ht, k⟩ := h
  refine ⟨Hf, ω, ρ, _, rep, ht, fun vs H1 Hf1 ω1 ρ1 ds hl rep1 st1 hv q1 => ?_⟩
  obtain ⟨z, hz, q⟩ := opt_of q1
  exact hr vs ds z Hf1 H1 Q rep1.ex hv hz fun v Hf2 H2 g hv2 => k v H2 Hf2 ω1 ρ1 z (g.rep rep1) (st1.trans (g.stp rep1)) hv2 q
theorem lP_cl (hr : RCD G.K rc fc) {σ : L2.St} {H : Hp} {Q : VK} (h : lP G (tClP fc pl) σ H Q) : tCB rc (lDP G pl) σ H Q := by
  obtain ⟨Hf, ω, ρ, Qd, rep, ht, k⟩ := h
  refine ⟨Hf, ω, ρ, _, rep, ht, fun vs H1 ds ex hv q1 => ?_⟩
  obtain ⟨z, hz, q⟩ := opt_of q1
  exact hr vs ds z H1 H1 Q (Ex.refl _) hv hz fun v Hf2 H2 g hv2 => k v H2 z (ex.trans g.hp) (g.ex.dp hv2) q
theorem de_callB (hc : CallR X (.builtin id) rc) (hr : RCD G.K rc fc) (hg : Gl X x) (hm : X.mg x = none) (hv : bootBuiltins x = some (.builtin id)) (ha : DD X G (e :: es) n tl) (hn : x ≠ "__name__" := by decide) (hdb : (x == ("__debug__" : Str)) = false := by decide)
    (he : starEach (e :: es) X.env = (false, eval e X.env) :: starEach es X.env := by rfl) (hpl : (backTo pos (starEach es X.env)).any (·.1) = false := by rfl) : DE X G (.Call (.Name x p) (e :: es) [] pos) (tClD fc tl) :=
  pe_imp (pe_callB hc hg hm hv ha hn hdb he hpl) fun _ _ _ h => lE_cl hr h
theorem dv_callB (hc : CallR X (.builtin id) rc) (hr : RCD G.K rc fc) (hg : Gl X x) (hm : X.mg x = none) (hv : bootBuiltins x = some (.builtin id)) (ha : DDP X G (e :: es) pl) (hn : x ≠ "__name__" := by decide) (hdb : (x == ("__debug__" : Str)) = false := by decide)
    (he : starEach (e :: es) X.env = (false, eval e X.env) :: starEach es X.env := by rfl) (hpl : (backTo pos (starEach es X.env)).any (·.1) = false := by rfl) : DP X G (.Call (.Name x p) (e :: es) [] pos) (tClP fc pl) :=
  pe_imp (pe_callB hc hg hm hv ha hn hdb he hpl) fun _ _ _ h => lP_cl hr h
theorem de_callTy (hc : CallR X (.type T) rc) (hr : RCD G.K rc fc) (hg : Gl X x) (hm : X.mg x = none) (hv : bootBuiltins x = some (.type T)) (ha : DD X G (e :: es) n tl) (hn : x ≠ "__name__" := by decide) (hdb : (x == ("__debug__" : Str)) = false := by decide)
    (he : starEach (e :: es) X.env = (false, eval e X.env) :: starEach es X.env := by rfl) (hpl : (backTo pos (starEach es X.env)).any (·.1) = false := by rfl) : DE X G (.Call (.Name x p) (e :: es) [] pos) (tClD fc tl) :=
  pe_imp (pe_callTy hc hg hm hv ha hn hdb he hpl) fun _ _ _ h => lE_cl hr h
theorem dv_callTy (hc : CallR X (.type T) rc) (hr : RCD G.K rc fc) (hg : Gl X x) (hm : X.mg x = none) (hv : bootBuiltins x = some (.type T)) (ha : DDP X G (e :: es) pl) (hn : x ≠ "__name__" := by decide) (hdb : (x == ("__debug__" : Str)) = false := by decide)
    (he : starEach (e :: es) X.env = (false, eval e X.env) :: starEach es X.env := by rfl) (hpl : (backTo pos (starEach es X.env)).any (·.1) = false := by rfl) : DP X G (.Call (.Name x p) (e :: es) [] pos) (tClP fc pl) :=
  pe_imp (pe_callTy hc hg hm hv ha hn hdb he hpl) fun _ _ _ h => lP_cl hr h
/-! lists of ints, of bools -/
def intsD : List PyData → Option (List Int)
  | [] => some []
  | .int i :: r => (intsD r).map (i :: ·)
  | _ => none
def bolsD : List PyData → Option (List Bool)
  | [] => some []
  | .bool i :: r => (bolsD r).map (i :: ·)
  | _ => none
theorem intsD_map : ∀ ns : List Int, intsD (ns.map .int) = some ns
  | [] => rfl
  | n :: ns => by
    show (intsD (ns.map .int)).map (n :: ·) = _
    rw [intsD_map ns]; rfl
theorem bolsD_map : ∀ ns : List Bool, bolsD (ns.map .bool) = some ns
  | [] => rfl
  | n :: ns => by
    show (bolsD (ns.map .bool)).map (n :: ·) = _
    rw [bolsD_map ns]; rfl
theorem intsD_of : ∀ {ds : List PyData} {ns : List Int}, intsD ds = some ns → ds = ns.map .int
  | [], _, h => by cases h; rfl
  | .int i :: r, ns, h => by
    unfold intsD at h
    cases q : intsD r with
    | none => rw [q] at h; cases h
    | some m => rw [q] at h; cases h; rw [intsD_of q]; rfl
  | .none :: _, _, h => by cases h
  | .bool _ :: _, _, h => by cases h
  | .str _ :: _, _, h => by cases h
  | .list _ :: _, _, h => by cases h
  | .tuple _ :: _, _, h => by cases h
  | .dict _ :: _, _, h => by cases h
theorem bolsD_of : ∀ {ds : List PyData} {ns : List Bool}, bolsD ds = some ns → ds = ns.map .bool
  | [], _, h => by cases h; rfl
  | .bool i :: r, ns, h => by
    unfold bolsD at h
    cases q : bolsD r with
    | none => rw [q] at h; cases h
    | some m => rw [q] at h; cases h; rw [bolsD_of q]; rfl
  | .none :: _, _, h => by cases h
  | .int _ :: _, _, h => by cases h
  | .str _ :: _, _, h => by cases h
  | .list _ :: _, _, h => by cases h
  | .tuple _ :: _, _, h => by cases h
  | .dict _ :: _, _, h => by cases h
theorem DdAll.ints {K : Fn} {H : Hp} : ∀ {ns : List Int} {vs : List V}, DdAll K H vs (ns.map .int) → vs = ns.map .int
  | [], _, h => by cases h; rfl
  | n :: ns, _, h => by
    cases h with
    | cons h t => rw [h.isint, t.ints]; rfl
theorem DdAll.bols {K : Fn} {H : Hp} : ∀ {ns : List Bool} {vs : List V}, DdAll K H vs (ns.map .bool) → vs = ns.map .bl
  | [], _, h => by cases h; rfl
  | n :: ns, _, h => by
    cases h with
    | cons h t => rw [h.isbl, t.bols]; rfl
theorem DdAll.one {K : Fn} {H : Hp} {vs : List V} {d : PyData} (h : DdAll K H vs [d]) : ∃ v, vs = [v] ∧ Dd K H v d := by
  cases h with
  | cons h t => cases t; exact ⟨_, rfl, h⟩
theorem DdAll.two {K : Fn} {H : Hp} {vs : List V} {d d' : PyData} (h : DdAll K H vs [d, d']) : ∃ v w, vs = [v, w] ∧ Dd K H v d ∧ Dd K H w d' := by
  cases h with
  | cons h t =>
    cases t with
    | cons h' t' => cases t'; exact ⟨_, _, rfl, h, h'⟩
/-! len, max, min, sum, all, int -/
def lenD : List PyData → Option PyData
  | [.list xs] => some (.int xs.length)
  | [.tuple xs] => some (.int xs.length)
  | _ => none
theorem cLen {K : PySem.W.Frag} {L : Fn} : RCD L (fun xs H Q => ∃ p ys, xs = [.ref p] ∧ (SqL K H p ys ∨ SqT K H p ys) ∧ Q (.int ys.length) H) lenD := by
  intro xs ds z Hf H Q ex hv hz k
  unfold lenD at hz
  split at hz
  · cases hz
    obtain ⟨v, rfl, h⟩ := hv.one
    cases h with
    | @lst a vs _ h1 h2 => exact ⟨a, vs, rfl, .inl (.of (ex _ _ h1)), k _ _ _ (.refl ex) (by rw [h2.len]; exact .int _)⟩
  · cases hz
    obtain ⟨v, rfl, h⟩ := hv.one
    cases h with
    | @tup a vs _ h1 h2 => exact ⟨a, vs, rfl, .inr (.of (ex _ _ h1)), k _ _ _ (.refl ex) (by rw [h2.len]; exact .int _)⟩
  · cases hz
def max2D : List PyData → Option PyData
  | [.int i, .int j] => some (.int (max i j))
  | _ => none
def min2D : List PyData → Option PyData
  | [.int i, .int j] => some (.int (min i j))
  | _ => none
theorem cMax2 {L : Fn} : RCD L (fun xs H Q => ∃ i j, xs = [.int i, .int j] ∧ Q (.int (if j > i then j else i)) H) max2D := by
  intro xs ds z Hf H Q ex hv hz k
  unfold max2D at hz
  split at hz
  · rename_i i j
    cases hz
    obtain ⟨v, w, rfl, h, h'⟩ := hv.two
    refine ⟨i, j, by rw [h.isint, h'.isint], ?_⟩
    have : (if j > i then j else i) = max i j := by split <;> omega
    rw [this]
    exact k _ _ _ (.refl ex) (.int _)
  · cases hz
theorem cMin2 {L : Fn} : RCD L (fun xs H Q => ∃ i j, xs = [.int i, .int j] ∧ Q (.int (if j < i then j else i)) H) min2D := by
  intro xs ds z Hf H Q ex hv hz k
  unfold min2D at hz
  split at hz
  · rename_i i j
    cases hz
    obtain ⟨v, w, rfl, h, h'⟩ := hv.two
    refine ⟨i, j, by rw [h.isint, h'.isint], ?_⟩
    have : (if j < i then j else i) = min i j := by split <;> omega
    rw [this]
    exact k _ _ _ (.refl ex) (.int _)
  · cases hz
/-- the largest of a list of ints that is not empty -/
def maxI : List Int → Int
  | [] => 0
  | [x] => x
  | x :: y :: r => max x (maxI (y :: r))
theorem maxI_mem : ∀ {xs : List Int}, xs ≠ [] → maxI xs ∈ xs
  | [], h => absurd rfl h
  | [x], _ => List.mem_singleton.mpr rfl
  | x :: y :: r, _ => by
    have ih := maxI_mem (xs := y :: r) (by simp)
    show max x (maxI (y :: r)) ∈ x :: y :: r
    by_cases h : x ≤ maxI (y :: r)
    · rw [Int.max_eq_right h]; exact List.mem_cons_of_mem _ ih
    · rw [Int.max_eq_left (by omega)]; exact List.mem_cons_self
theorem maxI_ge : ∀ {xs : List Int} {y : Int}, y ∈ xs → y ≤ maxI xs
  | [], _, h => by cases h
  | [x], y, h => by rw [List.mem_singleton] at h; rw [h]; exact Int.le_refl _
  | x :: z :: r, y, h => by
    show y ≤ max x (maxI (z :: r))
    rcases List.mem_cons.mp h with rfl | h
    · omega
    · have := maxI_ge h; omega
def maxLD : List PyData → Option PyData
  | [.list xs] => (intsD xs).bind fun ns => if ns ≠ [] then some (.int (maxI ns)) else none
  | _ => none
theorem cMaxL {K : PySem.W.Frag} {L : Fn} : RCD L (rMax K) maxLD := by
  intro xs ds z Hf H Q ex hv hz k
  unfold maxLD at hz
  split at hz
  · rename_i us
    cases q : intsD us with
    | none => rw [q] at hz; cases hz
    | some ns =>
      rw [q] at hz
      obtain ⟨hne, rfl⟩ := if_of (show (if ns ≠ [] then some (PyData.int (maxI ns)) else none) = some z from hz)
      obtain ⟨v, rfl, h⟩ := hv.one
      rw [intsD_of q] at h
      cases h with
      | @lst a vs _ h1 h2 =>
        have e := h2.ints
        subst e
        refine ⟨a, ns, rfl, .of (ex _ _ h1), List.length_pos_iff.mpr hne, fun m hm hle => ?_⟩
        have : m = maxI ns := Int.le_antisymm (maxI_ge hm) (hle _ (maxI_mem hne))
        rw [this]
        exact k _ _ _ (.refl ex) (.int _)
  · cases hz
def sumD : List PyData → Option PyData
  | [.list xs] => (intsD xs).map fun ns => .int ns.sum
  | _ => none
theorem cSum {K : PySem.W.Frag} {L : Fn} : RCD L (rSum K) sumD := by
  intro xs ds z Hf H Q ex hv hz k
  unfold sumD at hz
  split at hz
  · rename_i us
    cases q : intsD us with
    | none => rw [q] at hz; cases hz
    | some ns =>
      rw [q] at hz
      cases hz
      obtain ⟨v, rfl, h⟩ := hv.one
      rw [intsD_of q] at h
      cases h with
      | @lst a vs _ h1 h2 =>
        have e := h2.ints
        subst e
        exact ⟨a, ns, rfl, .of (ex _ _ h1), k _ _ _ (.refl ex) (.int _)⟩
  · cases hz
def allD : List PyData → Option PyData
  | [.list xs] => (bolsD xs).map fun ns => .bool (ns.all _root_.id)
  | _ => none
theorem cAll {K : PySem.W.Frag} {L : Fn} : RCD L (rAll K) allD := by
  intro xs ds z Hf H Q ex hv hz k
  unfold allD at hz
  split at hz
  · rename_i us
    cases q : bolsD us with
    | none => rw [q] at hz; cases hz
    | some ns =>
      rw [q] at hz
      cases hz
      obtain ⟨v, rfl, h⟩ := hv.one
      rw [bolsD_of q] at h
      cases h with
      | @lst a vs _ h1 h2 =>
        have e := h2.bols
        subst e
        exact ⟨a, ns, rfl, .of (ex _ _ h1), k _ _ _ (.refl ex) (.bl _)⟩
  · cases hz
def int1D : List PyData → Option PyData
  | [.int i] => some (.int i)
  | [.bool b] => some (.int (if b then 1 else 0))
  | _ => none
theorem cInt1 {L : Fn} : RCD L (fun xs H Q => (∃ i, xs = [.int i] ∧ Q (.int i) H) ∨ ∃ k, xs = [.bl k] ∧ Q (.int (if k then 1 else 0)) H) int1D := by
  intro xs ds z Hf H Q ex hv hz k
  unfold int1D at hz
  split at hz
  · cases hz
    obtain ⟨v, rfl, h⟩ := hv.one
    exact .inl ⟨_, by rw [h.isint], k _ _ _ (.refl ex) (.int _)⟩
  · cases hz
    obtain ⟨v, rfl, h⟩ := hv.one
    exact .inr ⟨_, by rw [h.isbl], k _ _ _ (.refl ex) (.int _)⟩
  · cases hz
/-! tuple(..), list(..) -/
def tupleD : List PyData → Option PyData
  | [.list xs] => some (.tuple xs)
  | [.tuple xs] => some (.tuple xs)
  | _ => none
theorem cTuple {K : PySem.W.Frag} {L : Fn} : RCD L (fun xs H Q => ∃ p ys, xs = [.ref p] ∧ ((SqL K H p ys ∧ ∀ l, H l = none → Q (.ref l) (upd H l (.tup ys))) ∨ (SqT K H p ys ∧ Q (.ref p) H))) tupleD := by
  intro xs ds z Hf H Q ex hv hz k
  unfold tupleD at hz
  split at hz
  · cases hz
    obtain ⟨v, rfl, h⟩ := hv.one
    cases h with
    | @lst a vs _ h1 h2 =>
      refine ⟨a, vs, rfl, .inl ⟨.of (ex _ _ h1), fun l hl => ?_⟩⟩
      have g : Grw Hf H _ _ := .new (o := .tup vs) ex hl
      exact k _ _ _ g (.tup upd_same (g.fz.dpAll h2))
  · cases hz
    obtain ⟨v, rfl, h⟩ := hv.one
    cases h with
    | @tup a vs _ h1 h2 => exact ⟨a, vs, rfl, .inr ⟨.of (ex _ _ h1), k _ _ _ (.refl ex) (.tup h1 h2)⟩⟩
  · cases hz
def listD : List PyData → Option PyData
  | [.list xs] => some (.list xs)
  | [.tuple xs] => some (.list xs)
  | _ => none
theorem cList {K : PySem.W.Frag} {L : Fn} : RCD L (fun xs H Q => ∃ p ys, xs = [.ref p] ∧ (SqL K H p ys ∨ SqT K H p ys) ∧ ∀ l, H l = none → Q (.ref l) (upd H l (.lst ys))) listD := by
  intro xs ds z Hf H Q ex hv hz k
  unfold listD at hz
  split at hz
  · cases hz
    obtain ⟨v, rfl, h⟩ := hv.one
    cases h with
    | @lst a vs _ h1 h2 =>
      refine ⟨a, vs, rfl, .inl (.of (ex _ _ h1)), fun l hl => ?_⟩
      have g : Grw Hf H _ _ := .new (o := .lst vs) ex hl
      exact k _ _ _ g (.lst upd_same (g.fz.dpAll h2))
  · cases hz
    obtain ⟨v, rfl, h⟩ := hv.one
    cases h with
    | @tup a vs _ h1 h2 =>
      refine ⟨a, vs, rfl, .inr (.of (ex _ _ h1)), fun l hl => ?_⟩
      have g : Grw Hf H _ _ := .new (o := .lst vs) ex hl
      exact k _ _ _ g (.lst upd_same (g.fz.dpAll h2))
  · cases hz
/-! isinstance with a built-in class -/
def tyOfD : PyData → Option String
  | .none => some "NoneType"
  | .bool _ => some "bool"
  | .int _ => some "int"
  | .str _ => some "str"
  | .list _ => some "list"
  | .tuple _ => some "tuple"
  | .dict _ => none
def isT (T : String) : PyData → Option Bool
  | .none => some false
  | .bool _ => some (T == "bool" || T == "int")
  | .int _ => some (T == "int")
  | .str _ => some (T == "str")
  | .list _ => some (T == "list")
  | .tuple _ => some (T == "tuple")
  | .dict _ => none
def isiD (T : String) : List PyData → Option PyData
  | [d, .dict [(.str n, .none)]] => if n = Str.ofString T then (isT T d).map .bool else none
  | _ => none
structure TyKit (T : String) : Prop where
  n : kitB "NoneType" T = some false
  b : kitB "bool" T = some (T == "bool" || T == "int")
  i : kitB "int" T = some (T == "int")
  s : kitB "str" T = some (T == "str")
  l : kitB "list" T = some (T == "list")
  t : kitB "tuple" T = some (T == "tuple")
theorem cIsi {K : PySem.W.Frag} {L : Fn} {T : String} (hL : L (Str.ofString T) = some (.ty T)) (hT : TyKit T) : RCD L (rIsi K) (isiD T) := by
  intro xs ds z Hf H Q ex hv hz k
  unfold isiD at hz
  split at hz
  · rename_i d n
    by_cases e : n = Str.ofString T
    · subst e
      rw [if_pos rfl] at hz
      obtain ⟨v, w, rfl, h, h'⟩ := hv.two
      have hn := h'.isfn
      rw [hL] at hn
      cases hn
      cases h with
      | non => cases hz; exact ⟨_, _, _, _, _, rfl, .ty T, .base .non, kit_ty hT.n, k _ _ _ (.refl ex) (.bl _)⟩
      | bl b => cases hz; exact ⟨_, _, _, _, _, rfl, .ty T, .base (.bl b), kit_ty hT.b, k _ _ _ (.refl ex) (.bl _)⟩
      | int b => cases hz; exact ⟨_, _, _, _, _, rfl, .ty T, .base (.int b), kit_ty hT.i, k _ _ _ (.refl ex) (.bl _)⟩
      | str b => cases hz; exact ⟨_, _, _, _, _, rfl, .ty T, .base (.str b), kit_ty hT.s, k _ _ _ (.refl ex) (.bl _)⟩
      | lst h1 _ => cases hz; exact ⟨_, _, _, _, _, rfl, .ty T, .base (.lst (ex _ _ h1)), kit_ty hT.l, k _ _ _ (.refl ex) (.bl _)⟩
      | tup h1 _ => cases hz; exact ⟨_, _, _, _, _, rfl, .ty T, .base (.tup (ex _ _ h1)), kit_ty hT.t, k _ _ _ (.refl ex) (.bl _)⟩
      | fn _ => cases hz
      | scr _ _ => cases hz
    · rw [if_neg e] at hz; cases hz
  · cases hz
theorem kit_int : TyKit "int" := ⟨by decide +kernel, by decide +kernel, by decide +kernel, by decide +kernel, by decide +kernel, by decide +kernel⟩
theorem kit_bool : TyKit "bool" := ⟨by decide +kernel, by decide +kernel, by decide +kernel, by decide +kernel, by decide +kernel, by decide +kernel⟩
theorem kit_str : TyKit "str" := ⟨by decide +kernel, by decide +kernel, by decide +kernel, by decide +kernel, by decide +kernel, by decide +kernel⟩
theorem kit_list : TyKit "list" := ⟨by decide +kernel, by decide +kernel, by decide +kernel, by decide +kernel, by decide +kernel, by decide +kernel⟩
theorem kit_tuple : TyKit "tuple" := ⟨by decide +kernel, by decide +kernel, by decide +kernel, by decide +kernel, by decide +kernel, by decide +kernel⟩
/-- a built-in class's name -/
theorem de_ty {j : Pos} (h : PE X (.Name x j) (tC (.ty T))) (hL : G.K x = some (.ty T)) : DE X G (.Name x j) (tCD (.dict [(.str x, .none)])) := de_c h fun _ => .fn hL
theorem dv_ty {j : Pos} (h : PE X (.Name x j) (tC (.ty T))) (hL : G.K x = some (.ty T)) : DP X G (.Name x j) (tCP (.dict [(.str x, .none)])) := dv_c h fun _ => .fn hL
/-! in a written tuple of the module -/
def tInK (neg : Bool) (xs : List PyData) (ta : DTE) : DTE := fun ρ Q => ta ρ fun d ρ' => flatD d = true ∧ Q (.bool (if neg then !(xs.any fun y => PyData.eqv y d) else xs.any fun y => PyData.eqv y d)) ρ'
theorem pe_inK {op : CmpOp} {neg : Bool} {A : Addr} {vs : List V} {ds : List PyData} (ho : OpR X (compareOp op) (rIn X.K neg)) (ha : DE X G a ta) (hb : PE X b (tC (.ref A))) (hm : behindInMarks op b = false) (hK : ∀ H, SqT X.K H A vs) (hd : ∀ H, DdAll G.K H vs ds) (hf : ds.all flatD = true) :
    DE X G (.Compare a [op] [b] pos) (tInK neg ds ta) := pe_imp (pe_cmpR ho ha hb hm) fun σ H Q ⟨Hf, ω, ρ, Qd, rep, ht, k⟩ => by
  refine ⟨Hf, ω, ρ, _, rep, ht, fun v H1 Hf1 ω1 ρ1 d rep1 st1 hv q1 => ?_⟩
  refine ⟨A, vs, rfl, .inr (hK _), hv.flat q1.1, (hd Hf1).flat hf, ?_⟩
  rw [DdAll.any hv q1.1 (hd Hf1) hf]
  exact k _ H1 Hf1 ω1 ρ1 _ rep1 st1 (.bl _) q1.2
theorem dt_inK {op : CmpOp} {neg : Bool} {A : Addr} {vs : List V} {ds : List PyData} (ho : OpR X (compareOp op) (rIn X.K neg)) (ha : DE X G a ta) (hb : PE X b (tC (.ref A))) (hm : behindInMarks op b = false) (hK : ∀ H, SqT X.K H A vs) (hd : ∀ H, DdAll G.K H vs ds) (hf : ds.all flatD = true) :
    DT X G (.Compare a [op] [b] pos) (tTs (tInK neg ds ta)) := pt_imp (pt_cmpR ho ha hb hm) fun σ H Q h => by
  obtain ⟨Hf, ω, ρ, Qd, rep, ht, k⟩ := lT_ts h
  refine ⟨Hf, ω, ρ, _, rep, ht, fun v H1 Hf1 ω1 ρ1 d rep1 st1 hv q1 => ?_⟩
  refine ⟨A, vs, rfl, .inr (hK _), hv.flat q1.1, (hd Hf1).flat hf, ?_⟩
  rw [DdAll.any hv q1.1 (hd Hf1) hf]
  exact k _ H1 Hf1 ω1 ρ1 _ rep1 st1 (.bl _) q1.2
end
end DL

namespace DL
open PySem PySem.Spec PyProof.Rows L2
section
variable {X : Cx} {G : Fx} {e a b c tg : Expr} {es : List Expr} {ta tb tc : DTE} {pa pb : DTP} {tl ti : DTL} {n : Nat} {pos : Pos}

/-! ### what is walked -/
theorem wks_lst {K : PySem.W.Frag} {L : Fn} {Hf : Hp} {p : Addr} {vs : List V} {ds : List PyData} (h : Hf p = some (.lst vs)) (k : DdAll L Hf vs ds) : Wks L (Itl K p) ds Hf := by
  refine ⟨fun i H hi ex => ?_, fun H ex => ⟨vs, .of (ex _ _ h), by rw [k.len]; exact Nat.le_refl _⟩, fun i Hf' H x H' d hd e1 e2 y => ?_⟩
  · have hl : i < vs.length := by rw [k.len]; exact hi
    exact ⟨vs, vs[i], .of (ex _ _ h), by simp [hl]⟩
  · obtain ⟨rfl, y⟩ := y
    obtain ⟨v, h1, h2⟩ := k.get hd
    have := y vs (.of (e2 _ _ (e1 _ _ h)))
    rw [h1] at this
    cases this
    exact ⟨Hf', .refl e2, e1.dp h2⟩
theorem wks_tup {K : PySem.W.Frag} {L : Fn} {Hf : Hp} {p : Addr} {vs : List V} {ds : List PyData} (h : Hf p = some (.tup vs)) (k : DdAll L Hf vs ds) : Wks L (Itt K p) ds Hf := by
  refine ⟨fun i H hi ex => ?_, fun H ex => ⟨vs, .of (ex _ _ h), by rw [k.len]; exact Nat.le_refl _⟩, fun i Hf' H x H' d hd e1 e2 y => ?_⟩
  · have hl : i < vs.length := by rw [k.len]; exact hi
    exact ⟨vs, vs[i], .of (ex _ _ h), by simp [hl]⟩
  · obtain ⟨rfl, y⟩ := y
    obtain ⟨v, h1, h2⟩ := k.get hd
    have := y vs (.of (e2 _ _ (e1 _ _ h)))
    rw [h1] at this
    cases this
    exact ⟨Hf', .refl e2, e1.dp h2⟩
/-- a list or a tuple -/
def iSeq (K : PySem.W.Frag) (tl : TE) : TI := fun σ H R => tl σ H fun x H1 => ∃ a, x = .ref a ∧ ((∃ xs, SqL K H1 a xs ∧ R (Itl K a) H1) ∨ (∃ xs, SqT K H1 a xs ∧ R (Itt K a) H1))
theorem pi_seq {l : Expr} {tl : TE} (hl : PE X l tl) : PI X tg l (iSeq X.K tl) := by
  refine ⟨fun pins s σ H R I h => ?_⟩
  refine thn (hl.run pins s σ H _ I h) fun v s1 ⟨x, H1, I1, r1, p, ep, q⟩ => ?_
  subst ep
  cases r1
  have fo : ∀ z, z ∈ [s1.heap.objs.size] → FpOk X pins H1 z := fun z hz => by
    rw [List.mem_singleton.mp hz]
    exact I1.fpOk (Nat.le_refl _) (I1.hok.fresh (Nat.le_refl _))
  rcases q with ⟨xs, hq, q⟩ | ⟨xs, hq, q⟩
  · obtain ⟨its, rv, w, hz⟩ := I1.list hq
    exact wpAny_pyIter_list w.isList ⟨_, [_], _, _, H1, rfl, I1.kept (t' := s1.toks) fun _ _ e => Heap.get?_push_of_some _ e, turn_list p _, ⟨_, Heap.get?_push_size _ rfl, rfl, rfl⟩, fo, q⟩
  · obtain ⟨its, rv, w, hz⟩ := I1.tuple hq
    exact wpAny_pyIter_tuple (show s1.heap.IsTuple p its.toArray from w) ⟨_, [_], _, _, H1, rfl, I1.kept (t' := s1.toks) fun _ _ e => Heap.get?_push_of_some _ e, turn_tuple p _, ⟨_, Heap.get?_push_size _ rfl, rfl, rfl⟩, fo, q⟩
def tSeqI (t : DTE) : DTL := fun ρ Q => t ρ fun d ρ' => opt (itemsD d) fun xs => Q xs ρ'
theorem di_seq (h : DE X G e ta) : DI X G tg e (tSeqI ta) := pi_imp (pi_seq h) fun σ H Q ⟨Hf, ω, ρ, Qd, rep, ht, k⟩ => by
  refine ⟨Hf, ω, ρ, _, rep, ht, fun v H1 Hf1 ω1 ρ1 d rep1 st1 hv q1 => ?_⟩
  obtain ⟨xs, hx, q⟩ := opt_of q1
  unfold itemsD at hx
  split at hx
  · cases hx
    cases hv with
    | @lst p vs _ h1 h2 => exact ⟨p, rfl, .inl ⟨vs, .of (rep1.ex _ _ h1), k _ _ _ _ _ _ rep1 st1 (wks_lst h1 h2) q⟩⟩
  · cases hx
    cases hv with
    | @tup p vs _ h1 h2 => exact ⟨p, rfl, .inr ⟨vs, .of (rep1.ex _ _ h1), k _ _ _ _ _ _ rep1 st1 (wks_tup h1 h2) q⟩⟩
  · cases hx
def rngD (lo : Int) (n : Nat) : List PyData := (List.range n).map fun i => .int (lo + (i : Nat))
theorem rngD_len (lo : Int) (n : Nat) : (rngD lo n).length = n := by unfold rngD; rw [List.length_map, List.length_range]
theorem rngD_get {lo : Int} {n i : Nat} {d : PyData} (h : (rngD lo n)[i]? = some d) : i < n ∧ d = .int (lo + (i : Nat)) := by
  unfold rngD at h
  rw [List.getElem?_map] at h
  by_cases q : i < n
  · rw [List.getElem?_range q] at h
    exact ⟨q, (Option.some.inj h).symm⟩
  · rw [List.getElem?_eq_none (by rw [List.length_range]; omega)] at h; cases h
theorem wks_rng {L : Fn} {Hf : Hp} {lo : Int} {n : Nat} : Wks L (Itr lo n) (rngD lo n) Hf := by
  refine ⟨fun i H hi _ => by rw [rngD_len] at hi; exact hi, fun H _ => by rw [rngD_len]; exact Nat.le_refl _, fun i Hf' H x H' d hd e1 e2 y => ?_⟩
  obtain ⟨rfl, rfl⟩ := y
  obtain ⟨_, rfl⟩ := rngD_get hd
  exact ⟨Hf', .refl e2, .int _⟩
def rg1D : List PyData → Option (List PyData)
  | [.int j] => if j ≤ 1000000000 then some (rngD 0 j.toNat) else none
  | _ => none
def rg2D : List PyData → Option (List PyData)
  | [.int i, .int j] => if -1000000000 ≤ i ∧ i ≤ 1000000000 ∧ -1000000000 ≤ j ∧ j ≤ 1000000000 then some (rngD i (j - i).toNat) else none
  | _ => none
def tRgI (f : List PyData → Option (List PyData)) (tl : DTL) : DTL := fun ρ Q => tl ρ fun ds ρ' => opt (f ds) fun xs => Q xs ρ'
/-- range(j): a negative j is no turn -/
def rg1D' : List PyData → Option (List PyData)
  | [.int j] => if -1000000000 ≤ j ∧ j ≤ 1000000000 then some (rngD 0 j.toNat) else none
  | _ => none
theorem di_rg1 {p : Pos} (hg : Gl X "range") (hm : X.mg "range" = none) (ha : DD X G [e] n tl) (hs : starEach [e] X.env = [(false, eval e X.env)] := by rfl) : DI X G tg (.Call (.Name "range" p) [e] [] pos) (tRgI rg1D' tl) :=
  pi_imp (pi_range1 hg hm ha hs) fun σ H Q ⟨Hf, ω, ρ, Qd, rep, ht, k⟩ => by
  refine ⟨Hf, ω, ρ, _, rep, ht, fun vs H1 Hf1 ω1 ρ1 ds hl rep1 st1 hv q1 => ?_⟩
  obtain ⟨xs, hx, q⟩ := opt_of q1
  unfold rg1D' at hx
  split at hx
  · rename_i j
    obtain ⟨⟨c1, c2⟩, rfl⟩ := if_of hx
    obtain ⟨v, rfl, h⟩ := hv.one
    exact ⟨j, by rw [h.isint], by omega, by omega, k _ _ _ _ _ _ rep1 st1 wks_rng q⟩
  · cases hx
theorem di_rg2 {p : Pos} (hg : Gl X "range") (hm : X.mg "range" = none) (ha : DD X G [e, a] n tl) (hs : starEach [e, a] X.env = [(false, eval e X.env), (false, eval a X.env)] := by rfl) (hs2 : starEach [a] X.env = [(false, eval a X.env)] := by rfl) :
    DI X G tg (.Call (.Name "range" p) [e, a] [] pos) (tRgI rg2D tl) :=
  pi_imp (pi_range2 hg hm ha hs hs2) fun σ H Q ⟨Hf, ω, ρ, Qd, rep, ht, k⟩ => by
  refine ⟨Hf, ω, ρ, _, rep, ht, fun vs H1 Hf1 ω1 ρ1 ds hl rep1 st1 hv q1 => ?_⟩
  obtain ⟨xs, hx, q⟩ := opt_of q1
  unfold rg2D at hx
  split at hx
  · rename_i i j
    obtain ⟨c, rfl⟩ := if_of hx
    obtain ⟨v, w, rfl, h, h'⟩ := hv.two
    exact ⟨i, j, by rw [h.isint, h'.isint], by omega, k _ _ _ _ _ _ rep1 st1 wks_rng q⟩
  · cases hx

/-! ### targets -/
theorem set_get2 {α : Type} {l : List α} {i j : Nat} {x y : α} (h : (l.set i x)[j]? = some y) : (i = j ∧ x = y ∧ i < l.length) ∨ (i ≠ j ∧ l[j]? = some y) := by
  by_cases e : i = j
  · subst e
    by_cases q : i < l.length
    · rw [List.getElem?_set_self q] at h
      exact .inl ⟨rfl, Option.some.inj h, q⟩
    · rw [List.getElem?_eq_none (by rw [List.length_set]; omega)] at h; cases h
  · rw [List.getElem?_set_ne e] at h
    exact .inr ⟨e, h⟩
/-- what a resource in the air must be, seen from the state H0 at the start -/
abbrev Air (H0 : Hp) (ω0 : Addr → Option Nat) (Hf H : Hp) (ω : Addr → Option Nat) (S : Own) : Prop := ∀ a, S a → (H0 a = none ∨ ∃ j, ω0 a = some j) ∧ Hf a = none ∧ ω a = none ∧ ∃ o, H a = some o
/-- it is stored in slot i -/
theorem RepF.put {Hf0 H0 Hf H : Hp} {ω0 ω : Addr → Option Nat} {σ : L2.St} {ρ : DSt} {i : Nat} {v : V} {r : Res} {S : Own} (rep : RepF G Hf H ω σ ρ) (st : Stp Hf0 H0 ω0 Hf H ω) (hi : i ∉ G.F)
    (hS : Air H0 ω0 Hf H ω S) (hv : RepV G.K Hf H S v r) : ∃ ω', RepF G Hf H ω' (σ.set i (some v)) (ρ.set i (some r)) ∧ Stp Hf0 H0 ω0 Hf H ω' ∧ ∀ a, ω a = none → ¬ S a → ω' a = none := by
  classical
  refine ⟨fun a => if S a then some i else if ω a = some i then none else ω a, ⟨rep.ex, fun b j w => ?_, by rw [List.length_set, List.length_set]; exact rep.len, fun k hk => ?_, fun j r' w => ?_⟩,
    ⟨st.fz, st.fr, st.keep, st.cap, fun b j w => ?_⟩, fun a h1 h2 => by simp [h1, h2]⟩
  · by_cases hb : S b
    · exact ⟨(hS b hb).2.1, (hS b hb).2.2.2⟩
    · simp only [hb, if_false] at w
      by_cases hc : ω b = some i
      · simp [hc] at w
      · simp only [hc, if_false] at w; exact rep.own b j w
  · rw [List.getElem?_set_ne (fun z => hi (by rw [z]; exact hk))]; exact rep.fix k hk
  · rcases set_get2 w with ⟨ej, er, hl⟩ | ⟨ne, ww⟩
    · subst ej
      cases er
      refine ⟨v, by rw [List.getElem?_set_self (by rw [← rep.len]; exact hl)], hv.mono (Ex.refl _) (fun _ _ => rfl) fun b hb => ?_⟩
      simp [hb]
    · obtain ⟨u, u1, u2⟩ := rep.slot j r' ww
      refine ⟨u, by rw [List.getElem?_set_ne ne]; exact u1, u2.mono (Ex.refl _) (fun _ _ => rfl) fun b hb => ?_⟩
      have h1 : ¬ S b := fun z => by rw [(hS b z).2.2.1] at hb; cases hb
      have h2 : ω b ≠ some i := fun z => by rw [z] at hb; exact ne (Option.some.inj hb)
      simp only [h1, h2, if_false]; exact hb
  · by_cases hb : S b
    · rcases (hS b hb).1 with z | ⟨j', z⟩
      · exact .inr z
      · exact .inl ⟨j', z⟩
    · simp only [hb, if_false] at w
      by_cases hc : ω b = some i
      · simp [hc] at w
      · simp only [hc, if_false] at w; exact st.new b j w
theorem air_none {H0 : Hp} {ω0 : Addr → Option Nat} {Hf H : Hp} {ω : Addr → Option Nat} : Air H0 ω0 Hf H ω (fun _ => False) := fun _ z => z.elim
def gNm (i : Nat) : DTG := fun d ρ Q => Q (ρ.set i (some (.fz d)))
theorem dg_name {i : Nat} {x : Str} (hF : i ∉ G.F) (h : PG X (.Name x pos) (gName i)) : DG X G (.Name x pos) [i] (gNm i) := pg_imp h fun v σ H Q ⟨Hf, ω, ρ, Qd, d, rep, hv, ht, k⟩ => by
  obtain ⟨ω', r1, s1, _⟩ := rep.put (v := v) (r := .fz d) (S := fun _ => False) Stp.refl hF air_none hv
  exact k _ _ _ _ _ r1 s1 (List.length_set ..) (fun j hj => List.getElem?_set_ne (fun e => hj (by rw [e]; exact List.mem_singleton.mpr rfl))) ht
abbrev DTGs := List PyData → DSt → (DSt → Prop) → Prop
def lGs (G : Fx) (js : List Nat) (t : DTGs) : TGs := fun vs σ H Q => ∃ Hf ω ρ Qd ds, RepF G Hf H ω σ ρ ∧ DdAll G.K Hf vs ds ∧ t ds ρ Qd ∧
  ∀ σ' H' Hf' ω' ρ', RepF G Hf' H' ω' σ' ρ' → Stp Hf H ω Hf' H' ω' → σ'.length = σ.length → (∀ i, i ∉ js → σ'[i]? = σ[i]?) → Qd ρ' → Q σ' H'
theorem pgs_imp {ts : List Expr} {t t' : TGs} (h : PGs X ts t) (i : ∀ v σ H Q, t' v σ H Q → t v σ H Q) : PGs X ts t' := ⟨fun pins s σ H v u Q I r x => h.run pins s σ H v u Q I r (i v σ H Q x)⟩
abbrev DGs (X : Cx) (G : Fx) (ts : List Expr) (js : List Nat) (t : DTGs) : Prop := PGs X ts (lGs G js t)
def gS0 : DTGs := fun ds ρ Q => match ds with
  | [] => Q ρ
  | _ => False
def gS1 (g : DTG) (gs : DTGs) : DTGs := fun ds ρ Q => match ds with
  | d :: r => g d ρ fun ρ1 => gs r ρ1 Q
  | [] => False
theorem dgs_nil : DGs X G [] [] gS0 := pgs_imp pgs_nil fun vs σ H Q ⟨Hf, ω, ρ, Qd, ds, rep, hv, ht, k⟩ => by
  cases hv with
  | nil => exact ⟨rfl, k _ _ _ _ _ rep Stp.refl rfl (fun _ _ => rfl) ht⟩
  | cons _ _ => exact ht.elim
theorem dgs_cons {ts : List Expr} {js ks : List Nat} {g : DTG} {gs : DTGs} (h : DG X G e js g) (hs : DGs X G ts ks gs) (he : (assignEach (e :: ts) X.env).map (·.2) = assign e X.env :: (assignEach ts X.env).map (·.2) := by rfl) : DGs X G (e :: ts) (js ++ ks) (gS1 g gs) :=
  pgs_imp (pgs_cons h hs he) fun vs σ H Q ⟨Hf, ω, ρ, Qd, ds, rep, hv, ht, k⟩ => by
  cases hv with
  | nil => exact ht.elim
  | @cons v vr d dr h1 h2 =>
    refine ⟨v, vr, rfl, Hf, ω, ρ, _, d, rep, h1, ht, fun σ1 H1 Hf1 ω1 ρ1 rep1 st1 l1 o1 q1 => ⟨Hf1, ω1, ρ1, _, dr, rep1, st1.fz.dpAll h2, q1, fun σ2 H2 Hf2 ω2 ρ2 rep2 st2 l2 o2 q2 => ?_⟩⟩
    exact k _ _ _ _ _ rep2 (st1.trans st2) (l2.trans l1) (fun j hj => (o2 j fun z => hj (List.mem_append_right _ z)).trans (o1 j fun z => hj (List.mem_append_left _ z))) q2
def gTp (n : Nat) (gs : DTGs) : DTG := fun d ρ Q => match d with
  | .tuple ds => ds.length = n ∧ gs ds ρ Q
  | _ => False
theorem dg_tup {ts : List Expr} {kk : Nat} {js : List Nat} {gs : DTGs} (hc : X.calm = true) (h : DGs X G ts js gs) (hn : (assignEach ts X.env).length = n := by rfl) (hst : (assignEach ts X.env).findIdx? (·.1) = none := by rfl) : DG X G (.Tuple ts kk pos) js (gTp n gs) :=
  pg_imp (pg_tup hc h hn hst) fun v σ H Q ⟨Hf, ω, ρ, Qd, d, rep, hv, ht, k⟩ => by
  cases hv with
  | @tup p vs ds h1 h2 => exact ⟨p, vs, rfl, .of (rep.ex _ _ h1), h2.len.trans ht.1, Hf, ω, ρ, Qd, ds, rep, h2, ht.2, k⟩
  | _ => exact ht.elim

/-! ### statements -/
def sNx : DTS := fun D ρ => D.nx ρ
def sSeq (t u : DTS) : DTS := fun D ρ => t { D with nx := u D } ρ
variable {st : Stmt} {rest sts : List Stmt} {t u : DTS}
theorem dss_nil : DSs X G [] sNx := pss_imp pss_nil fun D σ H ⟨Hf, ω, ρ, Dd, rep, ht, k1, k2, k3, k4⟩ => k1 _ _ _ _ _ rep Stp.refl ht
theorem dss_cons (h : DS X G st t) (hs : DSs X G rest u) : DSs X G (st :: rest) (sSeq t u) := pss_imp (pss_cons h hs) fun D σ H ⟨Hf, ω, ρ, Dd, rep, ht, k1, k2, k3, k4⟩ =>
  ⟨Hf, ω, ρ, _, rep, ht, fun σ1 H1 Hf1 ω1 ρ1 rep1 st1 q1 => ⟨Hf1, ω1, ρ1, Dd, rep1, q1,
      fun σ2 H2 Hf2 ω2 ρ2 rep2 st2 q2 => k1 _ _ _ _ _ rep2 (st1.trans st2) q2, fun v H2 Hf2 ω2 r af rep2 st2 q2 => k2 _ _ _ _ _ _ rep2 (st1.trans st2) q2,
      fun σ2 H2 Hf2 ω2 ρ2 rep2 st2 q2 => k3 _ _ _ _ _ rep2 (st1.trans st2) q2, fun σ2 H2 Hf2 ω2 ρ2 rep2 st2 q2 => k4 _ _ _ _ _ rep2 (st1.trans st2) q2⟩, k2, k3, k4⟩
theorem dss_one (h : DS X G st t) : DSs X G [st] t := pss_one h
theorem ds_pass : DS X G (.Pass pos) sNx := ps_imp ps_pass fun D σ H ⟨Hf, ω, ρ, Dd, rep, ht, k1, _⟩ => k1 _ _ _ _ _ rep Stp.refl ht
def sBk : DTS := fun D ρ => D.bk ρ
def sCt : DTS := fun D ρ => D.ct ρ
theorem ds_break : DS X G (.Break pos) sBk := ps_imp ps_break fun D σ H ⟨Hf, ω, ρ, Dd, rep, ht, _, _, k3, _⟩ => k3 _ _ _ _ _ rep Stp.refl ht
theorem ds_continue : DS X G (.Continue pos) sCt := ps_imp ps_continue fun D σ H ⟨Hf, ω, ρ, Dd, rep, ht, _, _, _, k4⟩ => k4 _ _ _ _ _ rep Stp.refl ht
def sNv : DTS := fun _ _ => False
theorem ds_never : DS X G st sNv := ps_imp (ps_never (st := st)) fun D σ H ⟨Hf, ω, ρ, Dd, rep, ht, _⟩ => ht.elim
theorem dss_never : DSs X G sts sNv := pss_imp (pss_never (sts := sts)) fun D σ H ⟨Hf, ω, ρ, Dd, rep, ht, _⟩ => ht.elim
def sIf (c : DTT) (t u : DTS) : DTS := fun D ρ => c ρ fun b ρ' => ifB b (t D ρ') (u D ρ')
theorem ds_if {tc : DTT} {s1 s2 : List Stmt} (hc : DT X G c tc) (h1 : DSs X G s1 t) (h2 : DSs X G s2 u) : DS X G (.If c s1 s2 pos) (sIf tc t u) := ps_imp (ps_if hc h1 h2) fun D σ H ⟨Hf, ω, ρ, Dd, rep, ht, k1, k2, k3, k4⟩ => by
  refine ⟨Hf, ω, ρ, _, rep, ht, fun b H1 Hf1 ω1 ρ1 rep1 st1 q1 => ?_⟩
  have go : ∀ (w : DTS), w Dd ρ1 → lS G w D σ H1 := fun w q => ⟨Hf1, ω1, ρ1, Dd, rep1, q,
      fun σ2 H2 Hf2 ω2 ρ2 rep2 st2 q2 => k1 _ _ _ _ _ rep2 (st1.trans st2) q2, fun v H2 Hf2 ω2 r af rep2 st2 q2 => k2 _ _ _ _ _ _ rep2 (st1.trans st2) q2,
      fun σ2 H2 Hf2 ω2 ρ2 rep2 st2 q2 => k3 _ _ _ _ _ rep2 (st1.trans st2) q2, fun σ2 H2 Hf2 ω2 ρ2 rep2 st2 q2 => k4 _ _ _ _ _ rep2 (st1.trans st2) q2⟩
  cases b with
  | true => exact iteT (go t q1)
  | false => exact iteF (go u q1)
/-- name = value -/
def sSet (i : Nat) (t : DTR) : DTS := fun D ρ => t ρ fun r ρ' => D.nx (ρ'.set i (some r))
theorem lS_set {i : Nat} {t : DTR} (hF : i ∉ G.F) {D : Ends} {σ : L2.St} {H : Hp} (h : lS G (sSet i t) D σ H) : tAsg (lR G t) (gName i) D σ H := by
  obtain ⟨Hf, ω, ρ, Dd, rep, ht, k1, _⟩ := h
  refine ⟨Hf, ω, ρ, _, rep, ht, fun v H1 Hf1 ω1 ρ1 r S rep1 st1 hS hv q1 => ?_⟩
  obtain ⟨ω', r1, s1, _⟩ := rep1.put st1 hF hS hv
  exact k1 _ _ _ _ _ r1 s1 q1
theorem ds_set {i : Nat} {x : Str} {t : DTR} {pos' : Pos} (hF : i ∉ G.F) (hN : X.N.Nodup) (hi : X.N[i]? = some x) (hx : Loc X.env.scope x) (he : DR X G e t) (hs : swapsWith e (some (.Name x pos')) pos.line X.env = pure false := by rfl)
    (hf : X.fn x = true ∨ X.env.scope.names.lookup x = some .local := by first | exact .inl rfl | exact .inr rfl | assumption) : DS X G (.Assign [.Name x pos'] e pos) (sSet i t) := ps_imp (ps_set hN hi hx he hs hf) fun _ _ _ h => lS_set hF h
/-- target = value -/
def sAsg (t : DTE) (g : DTG) : DTS := fun D ρ => t ρ fun d ρ' => g d ρ' D.nx
theorem ds_asg {js : List Nat} {g : DTG} {te : DTE} (he : DE X G e te) (hg : DG X G tg js g) (hs : swapsWithSole [tg] e pos.line X.env = pure false := by rfl) (hw : swappedStores [tg] e X.env = pure none := by rfl)
    (h1 : (assignEach [tg] X.env).map (·.2) = [assign tg X.env] := by rfl) : DS X G (.Assign [tg] e pos) (sAsg te g) := ps_imp (ps_asg he hg hs hw h1) fun D σ H ⟨Hf, ω, ρ, Dd, rep, ht, k1, _⟩ =>
  ⟨Hf, ω, ρ, _, rep, ht, fun v H1 Hf1 ω1 ρ1 d rep1 st1 hv q1 => ⟨Hf1, ω1, ρ1, _, d, rep1, hv, q1, fun σ2 H2 Hf2 ω2 ρ2 rep2 st2 _ _ q2 => k1 _ _ _ _ _ rep2 (st1.trans st2) q2⟩⟩
/-- a, b = e1, e2 -/
def sPar (i j : Nat) (t u : DTR) : DTS := fun D ρ => t ρ fun r ρ1 => u ρ1 fun r' ρ2 => D.nx ((ρ2.set i (some r)).set j (some r'))
theorem ds_par {i j : Nat} {x y : Str} {t u : DTR} {px py pt : Pos} {kt k2 pt2} (hc : X.calm = true) (hFi : i ∉ G.F) (hFj : j ∉ G.F) (hN : X.N.Nodup) (hi : X.N[i]? = some x) (hj : X.N[j]? = some y) (hij : i ≠ j)
    (hx : X.env.scope.names.lookup x = some .local) (hy : X.env.scope.names.lookup y = some .local) (ha : DR X G a t) (hb : DR X G b u)
    (hs0 : starEach (a :: [b]) X.env = (false, eval a X.env) :: starEach [b] X.env := by rfl) (hs1 : starEach (b :: []) X.env = (false, eval b X.env) :: starEach [] X.env := by rfl)
    (hw : swappedStores [.Tuple [.Name x px, .Name y py] kt pt] (.Tuple [a, b] k2 pt2) X.env = pure (some [x, y]) := by rfl)
    (hs : swapsWithSole [.Tuple [.Name x px, .Name y py] kt pt] (.Tuple [a, b] k2 pt2) pos.line X.env = pure false := by rfl) :
    DS X G (.Assign [.Tuple [.Name x px, .Name y py] kt pt] (.Tuple [a, b] k2 pt2) pos) (sPar i j t u) :=
  ps_imp (ps_par hc hN hi hj hij hx hy (pa_cons ha (pa_cons hb pa_nil hs1) hs0) hw hs) fun D σ H ⟨Hf, ω, ρ, Dd, rep, ht, k1, _⟩ => by
  refine ⟨Hf, ω, ρ, _, rep, ht, fun v H1 Hf1 ω1 ρ1 r S rep1 st1 hS hv q1 => ⟨Hf1, ω1, ρ1, _, rep1, q1, fun v' H2 Hf2 ω2 ρ2 r' S' rep2 st2 hS' hv' q2 => ⟨v, v', rfl, ?_⟩⟩⟩
  have hS2 : Air H ω Hf2 H2 ω2 S := fun b hb => by
    obtain ⟨z1, z2, z3, o, z4⟩ := hS b hb
    exact ⟨z1, st2.cap b o z4 z3 z2, st2.notNew z4 z3, o, st2.fr b o z4 z3⟩
  have hv2 : RepV G.K Hf2 H2 S v r := hv.mono st2.fz (fun b hb => by
    obtain ⟨z1, z2, z3, o, z4⟩ := hS b hb
    rw [z4]; exact st2.fr b o z4 z3) fun _ z => z
  obtain ⟨ω3, r3, s3, n3⟩ := rep2.put (st1.trans st2) hFi hS2 hv2
  have hS3 : Air H ω Hf2 H2 ω3 S' := fun b hb => by
    obtain ⟨z1, z2, z3, o, z4⟩ := hS' b hb
    have nS : ¬ S b := fun z => by
      obtain ⟨_, _, w3, o', w4⟩ := hS b z
      rcases z1 with z1 | ⟨j', z1⟩
      · rw [w4] at z1; cases z1
      · rw [w3] at z1; cases z1
    refine ⟨?_, z2, n3 b z3 nS, o, z4⟩
    rcases z1 with z1 | ⟨j', z1⟩
    · refine .inl ?_
      cases q : H b with
      | none => rfl
      | some o1 => obtain ⟨o2, h2⟩ := st1.keep b o1 q; rw [h2] at z1; cases z1
    · rcases st1.new b j' z1 with w | w
      · exact .inr w
      · exact .inl w
  obtain ⟨ω4, r4, s4, _⟩ := r3.put s3 hFj hS3 hv'
  exact k1 _ _ _ _ _ r4 s4 q2
/-- a value that is dropped -/
def sDrop (t : DTR) : DTS := fun D ρ => t ρ fun _ ρ' => D.nx ρ'
theorem ds_expr {t : DTR} (he : DR X G e t) (hs : swapsWith e none pos.line X.env = pure false := by rfl) : DS X G (.Expr e pos) (sDrop t) := ps_imp (ps_expr he hs) fun D σ H ⟨Hf, ω, ρ, Dd, rep, ht, k1, _⟩ =>
  ⟨Hf, ω, ρ, _, rep, ht, fun v H1 Hf1 ω1 ρ1 r S rep1 st1 _ _ q1 => k1 _ _ _ _ _ rep1 st1 q1⟩
/-- return value -/
def sRet (t : DTR) : DTS := fun D ρ => t ρ fun r ρ' => D.rt r fun k => (ρ'[k]?).bind fun o => o
theorem RepF.ret {Hf0 H0 Hf H : Hp} {ω0 ω : Addr → Option Nat} {σ : L2.St} {ρ : DSt} {v : V} {r : Res} {S : Own} (rep : RepF G Hf H ω σ ρ) (st : Stp Hf0 H0 ω0 Hf H ω) (hF : G.vs.length ∉ G.F)
    (hS : Air H0 ω0 Hf H ω S) (hv : RepV G.K Hf H S v r) : ∃ ω', RepR G Hf H ω' v r (fun k => (ρ[k]?).bind fun o => o) ∧ Stp Hf0 H0 ω0 Hf H ω' := by
  classical
  refine ⟨fun a => if S a then some G.vs.length else if ∃ k ∈ G.F, ω a = some k then ω a else none, ⟨rep.ex, fun b j w => ?_, hv.mono (Ex.refl _) (fun _ _ => rfl) fun b hb => by simp [hb], fun k r' hk hr => ?_⟩, ⟨st.fz, st.fr, st.keep, st.cap, fun b j w => ?_⟩⟩
  · by_cases hb : S b
    · exact ⟨(hS b hb).2.1, (hS b hb).2.2.2⟩
    · simp only [hb, if_false] at w
      by_cases hc : ∃ k ∈ G.F, ω b = some k
      · simp only [hc, if_true] at w; exact rep.own b j w
      · simp [hc] at w
  · cases q : ρ[k]? with
    | none => simp only [q, Option.bind_none] at hr; cases hr
    | some o =>
      simp only [q, Option.bind_some] at hr
      subst hr
      obtain ⟨u, u1, u2⟩ := rep.slot k r' q
      have f := rep.fix k hk
      rw [u1] at f
      cases z : G.vs[k]? with
      | none => rw [z] at f; cases f
      | some u' =>
        rw [z] at f
        cases f
        refine ⟨u, rfl, u2.mono (Ex.refl _) (fun _ _ => rfl) fun b hb => ?_⟩
        have h1 : ¬ S b := fun z => by rw [(hS b z).2.2.1] at hb; cases hb
        have h2 : ∃ k ∈ G.F, ω b = some k := ⟨k, hk, hb⟩
        simp only [h1, if_false, h2, if_true]; exact hb
  · by_cases hb : S b
    · rcases (hS b hb).1 with z | ⟨j', z⟩
      · exact .inr z
      · exact .inl ⟨j', z⟩
    · simp only [hb, if_false] at w
      by_cases hc : ∃ k ∈ G.F, ω b = some k
      · simp only [hc, if_true] at w; exact st.new b j w
      · simp [hc] at w
theorem ds_ret {t : DTR} (hF : G.vs.length ∉ G.F) (he : DR X G e t) : DS X G (.Return (some e) pos) (sRet t) := ps_imp (ps_ret he) fun D σ H ⟨Hf, ω, ρ, Dd, rep, ht, k1, k2, _⟩ => by
  refine ⟨Hf, ω, ρ, _, rep, ht, fun v H1 Hf1 ω1 ρ1 r S rep1 st1 hS hv q1 => ?_⟩
  obtain ⟨ω', r1, s1⟩ := rep1.ret st1 hF hS hv
  exact k2 _ _ _ _ _ _ r1 s1 q1
def sRetN : DTS := fun D ρ => D.rt (.fz .none) fun k => (ρ[k]?).bind fun o => o
theorem ds_retN (hF : G.vs.length ∉ G.F) : DS X G (.Return none pos) sRetN := ps_imp ps_retN fun D σ H ⟨Hf, ω, ρ, Dd, rep, ht, k1, k2, _⟩ => by
  obtain ⟨ω', r1, s1⟩ := rep.ret (v := .non) (r := .fz .none) (S := fun _ => False) Stp.refl hF air_none .non
  exact k2 _ _ _ _ _ _ r1 s1 ht
end
end DL

namespace DL
open PySem PySem.Spec PyProof.Rows L2
section
variable {X : Cx} {G : Fx} {e a b c tg iter : Expr} {es : List Expr} {ta tb tc : DTE} {pa pb : DTP} {tl ti : DTL} {n : Nat} {pos : Pos} {t u : DTS} {body : List Stmt}

/-! ### loops -/
def sFor (ti : DTL) (g : DTG) (tb : DTS) : DTS := fun D ρ => ti ρ fun ds ρ1 => ∃ I : Nat → DSt → Prop, I 0 ρ1 ∧
  (∀ k d ρ', ds[k]? = some d → I k ρ' → g d ρ' fun ρ2 => tb { D with nx := I (k + 1), ct := I (k + 1), bk := D.nx } ρ2) ∧ ∀ ρ', I ds.length ρ' → D.nx ρ'
theorem ds_for {js : List Nat} {g : DTG} (hp : PassesOwn (model X.prog X.w) X.A X.env X.xe) (hc : X.calm = true) (hi : DI X G tg iter ti) (hg : DG X G tg js g) (hb : DSs X G body t)
    (hs : ∀ x, foldedSetIterable iter X.env x = pure x := by intro _; rfl) : DS X G (.For tg iter body [] pos) (sFor ti g t) := ps_imp (ps_for hp hc hi hg hb hs) fun D σ H ⟨Hf, ω, ρ, Dd, rep, ht, k1, k2, k3, k4⟩ => by
  refine ⟨Hf, ω, ρ, _, rep, ht, fun J H1 Hf1 ω1 ρ1 ds rep1 st1 wk ⟨I, i0, i1, i2⟩ => ?_⟩
  refine ⟨fun i m σ' H' => m = ds.length - i ∧ i ≤ ds.length ∧ ∃ Hf' ω' ρ', RepF G Hf' H' ω' σ' ρ' ∧ Stp Hf H ω Hf' H' ω' ∧ Ex Hf1 Hf' ∧ I i ρ', ⟨_, rfl, Nat.zero_le _, Hf1, ω1, ρ1, rep1, st1, Ex.refl _, i0⟩, ?_⟩
  rintro i m σ' H' ⟨rfl, hi, Hf', ω', ρ', rep', st', ex', hI⟩
  by_cases hlt : i < ds.length
  · refine .inr ⟨wk.go i H' hlt (ex'.trans rep'.ex), fun σ2 H2 => ∃ Hf2 ω2 ρ2, RepF G Hf2 H2 ω2 σ2 ρ2 ∧ Stp Hf H ω Hf2 H2 ω2 ∧ Ex Hf1 Hf2 ∧ I (i + 1) ρ2, fun σ2 H2 ⟨Hf2, ω2, ρ2, q⟩ => ⟨ds.length - (i + 1), by omega, rfl, hlt, Hf2, ω2, ρ2, q⟩, fun x H2 hy => ?_⟩
    have hd : ds[i]? = some ds[i] := List.getElem?_eq_getElem hlt
    obtain ⟨Hf2, g2, hx⟩ := wk.yld i Hf' H' x H2 _ hd ex' rep'.ex hy
    refine ⟨Hf2, ω', ρ', _, ds[i], g2.rep rep', hx, i1 i _ ρ' hd hI, fun σ3 H3 Hf3 ω3 ρ3 rep3 st3 _ _ q3 => ?_⟩
    have S3 : Stp Hf H ω Hf3 H3 ω3 := (st'.trans (g2.stp rep')).trans st3
    have E3 : Ex Hf1 Hf3 := (ex'.trans g2.fz).trans st3.fz
    exact ⟨Hf3, ω3, ρ3, _, rep3, q3, fun σ4 H4 Hf4 ω4 ρ4 rep4 st4 q4 => ⟨Hf4, ω4, ρ4, rep4, S3.trans st4, E3.trans st4.fz, q4⟩, fun v H4 Hf4 ω4 r af rep4 st4 q4 => k2 _ _ _ _ _ _ rep4 (S3.trans st4) q4,
      fun σ4 H4 Hf4 ω4 ρ4 rep4 st4 q4 => k1 _ _ _ _ _ rep4 (S3.trans st4) q4, fun σ4 H4 Hf4 ω4 ρ4 rep4 st4 q4 => ⟨Hf4, ω4, ρ4, rep4, S3.trans st4, E3.trans st4.fz, q4⟩⟩
  · have e : i = ds.length := by omega
    subst e
    exact .inl ⟨wk.stop H' (ex'.trans rep'.ex), k1 _ _ _ _ _ rep' st' (i2 ρ' hI)⟩
def sWhile (c : DTT) (tb : DTS) : DTS := fun D ρ => ∃ I : Nat → DSt → Prop, (∃ m, I m ρ) ∧ ∀ m ρ', I m ρ' → c ρ' fun b ρ1 => ifB b (tb { D with nx := fun ρ2 => ∃ m', m' < m ∧ I m' ρ2, ct := fun ρ2 => ∃ m', m' < m ∧ I m' ρ2, bk := D.nx } ρ1) (D.nx ρ1)
theorem ds_while {tc : DTT} (hp : PassesOwn (model X.prog X.w) X.A X.env X.xe) (hc : DT X G c tc) (hb : DSs X G body t) : DS X G (.While c body [] pos) (sWhile tc t) := ps_imp (ps_while hp hc hb) fun D σ H ⟨Hf, ω, ρ, Dd, rep, ⟨I, ⟨m0, i0⟩, i1⟩, k1, k2, k3, k4⟩ => by
  refine ⟨fun m σ' H' => ∃ Hf' ω' ρ', RepF G Hf' H' ω' σ' ρ' ∧ Stp Hf H ω Hf' H' ω' ∧ I m ρ', ⟨m0, Hf, ω, ρ, rep, Stp.refl, i0⟩, ?_⟩
  rintro m σ' H' ⟨Hf', ω', ρ', rep', st', hI⟩
  refine ⟨Hf', ω', ρ', _, rep', i1 m ρ' hI, fun k H1 Hf1 ω1 ρ1 rep1 st1 q1 => ?_⟩
  have S1 := st'.trans st1
  cases k with
  | false => exact iteF (k1 _ _ _ _ _ rep1 S1 q1)
  | true =>
    refine iteT ⟨fun σ2 H2 => ∃ m', m' < m ∧ ∃ Hf2 ω2 ρ2, RepF G Hf2 H2 ω2 σ2 ρ2 ∧ Stp Hf H ω Hf2 H2 ω2 ∧ I m' ρ2, fun σ2 H2 ⟨m', hm, q⟩ => ⟨m', hm, q⟩, ?_⟩
    exact ⟨Hf1, ω1, ρ1, _, rep1, q1, fun σ4 H4 Hf4 ω4 ρ4 rep4 st4 ⟨m', hm, q4⟩ => ⟨m', hm, Hf4, ω4, ρ4, rep4, S1.trans st4, q4⟩, fun v H4 Hf4 ω4 r af rep4 st4 q4 => k2 _ _ _ _ _ _ rep4 (S1.trans st4) q4,
      fun σ4 H4 Hf4 ω4 ρ4 rep4 st4 q4 => k1 _ _ _ _ _ rep4 (S1.trans st4) q4, fun σ4 H4 Hf4 ω4 ρ4 rep4 st4 ⟨m', hm, q4⟩ => ⟨m', hm, Hf4, ω4, ρ4, rep4, S1.trans st4, q4⟩⟩

/-! ### comprehensions -/
def wipeD (ρ : DSt) : List Nat → DSt
  | [] => ρ
  | v :: vs => (wipeD ρ vs).set v none
theorem wipeD_length (ρ : DSt) : ∀ vs : List Nat, (wipeD ρ vs).length = ρ.length
  | [] => rfl
  | v :: vs => by unfold wipeD; rw [List.length_set, wipeD_length ρ vs]
theorem wipeD_some {ρ : DSt} {i : Nat} {r : Res} : ∀ {vs : List Nat}, (wipeD ρ vs)[i]? = some (some r) → ρ[i]? = some (some r) ∧ i ∉ vs
  | [], h => ⟨h, by simp⟩
  | v :: vs, h => by
    unfold wipeD at h
    rcases set_get2 h with ⟨_, er, _⟩ | ⟨ne, hh⟩
    · cases er
    · obtain ⟨h1, h2⟩ := wipeD_some hh
      exact ⟨h1, by simp only [List.mem_cons, not_or]; exact ⟨fun e => ne e.symm, h2⟩⟩
theorem wipe_in {σ : L2.St} {i : Nat} (hl : i < σ.length) : ∀ {vs : List Nat}, i ∈ vs → (wipe σ vs)[i]? = some none
  | [], h => by cases h
  | v :: vs, h => by
    unfold wipe
    by_cases e : v = i
    · subst e
      rw [List.getElem?_set_self (by rw [wipe_length]; exact hl)]
    · rw [List.getElem?_set_ne e]
      exact wipe_in hl ((List.mem_cons.mp h).resolve_left fun z => e z.symm)
theorem RepF.wiped {Hf H : Hp} {ω : Addr → Option Nat} {σ : L2.St} {ρ : DSt} {vs : List Nat} (rep : RepF G Hf H ω σ ρ) (hF : ∀ k ∈ G.F, k ∉ vs) : RepF G Hf H ω (wipe σ vs) (wipeD ρ vs) where
  ex := rep.ex
  own := rep.own
  len := by rw [wipe_length, wipeD_length]; exact rep.len
  fix := fun k hk => by rw [wipe_out (hF k hk)]; exact rep.fix k hk
  slot := fun i r q => by
    obtain ⟨q1, q2⟩ := wipeD_some q
    rw [wipe_out q2]
    exact rep.slot i r q1
theorem RepF.unwiped {Hf H Hf0 H0 : Hp} {ω ω0 : Addr → Option Nat} {σ : L2.St} {ρ ρ0 : DSt} {vs : List Nat} (rep : RepF G Hf H ω (wipe σ vs) ρ) (rep0 : RepF G Hf0 H0 ω0 σ ρ0) : RepF G Hf H ω σ ρ where
  ex := rep.ex
  own := rep.own
  len := by rw [rep.len, wipe_length]
  fix := rep0.fix
  slot := fun i r q => by
    obtain ⟨v, h1, h2⟩ := rep.slot i r q
    exact ⟨v, (wipe_some h1).1, h2⟩
/-- behind a turn: the slots of its own forgotten again, the new list grown -/
theorem RepF.turn {Hf H : Hp} {ω : Addr → Option Nat} {σ σ2 : L2.St} {ρ : DSt} {vs : List Nat} {D : Addr} {o : HO} (rep : RepF G Hf H ω σ2 ρ) (hF : ∀ k ∈ G.F, k ∉ vs) (he : wipe σ2 vs = wipe σ vs) (hD : Hf D = none) (hω : ω D = none) :
    RepF G Hf (upd H D o) ω (wipe σ vs) (wipeD ρ vs) := by
  have r := rep.wiped hF
  rw [he] at r
  refine ⟨fun b u q => ?_, fun b j w => ?_, r.len, r.fix, fun j r' w => ?_⟩
  · have hb : b ≠ D := fun z => by subst z; rw [hD] at q; cases q
    rw [upd_ne hb]; exact r.ex b u q
  · have hb : b ≠ D := fun z => by subst z; rw [hω] at w; cases w
    rw [upd_ne hb]; exact r.own b j w
  · obtain ⟨u, u1, u2⟩ := r.slot j r' w
    refine ⟨u, u1, u2.mono (Ex.refl _) (fun b hb => ?_) fun _ z => z⟩
    have : b ≠ D := fun z => by subst z; rw [hω] at hb; cases hb
    rw [upd_ne this]
theorem Stp.grown {Hf0 H0 Hf H : Hp} {ω0 ω : Addr → Option Nat} {D : Addr} {o : HO} (s : Stp Hf0 H0 ω0 Hf H ω) (hD : H0 D = none) : Stp Hf0 H0 ω0 Hf (upd H D o) ω := by
  refine ⟨s.fz, fun b u q w => ?_, fun b u q => ?_, s.cap, s.new⟩
  · rw [upd_ne (ne_of_none q hD)]; exact s.fr b u q w
  · rw [upd_ne (ne_of_none q hD)]; exact s.keep b u q
def tLcD (vs : List Nat) (ti : DTL) (g : DTG) (tt : DTT) (te : DTE) : DTR := fun ρ Q => ti ρ fun ds ρ1 => ∃ I : Nat → List PyData → DSt → Prop, I 0 [] (wipeD ρ1 vs) ∧
  (∀ k d acc ρ', ds[k]? = some d → I k acc ρ' → g d ρ' fun ρ2 => tt ρ2 fun b ρ3 => ifB b (te ρ3 fun y ρ4 => acc.length < 100000 ∧ I (k + 1) (acc ++ [y]) (wipeD ρ4 vs)) (I (k + 1) acc (wipeD ρ3 vs))) ∧
  ∀ acc ρ', I ds.length acc ρ' → Q (.ls acc) ρ'
theorem lR_lc {vs js : List Nat} {g : DTG} {tt : DTT} {te : DTE} (hF : ∀ k ∈ G.F, k ∉ vs) (hj : ∀ j ∈ js, j ∈ vs) {σ : L2.St} {H : Hp} {Q : VK} (h : lR G (tLcD vs ti g tt te) σ H Q) : tLc (lI G ti) (lG G js g) (lT G tt) (lE G te) vs σ H Q := by
  obtain ⟨Hf, ω, ρ, Qd, rep, ht, k⟩ := h
  refine ⟨Hf, ω, ρ, _, rep, ht, fun J H1 Hf1 ω1 ρ1 ds rep1 st1 wk ⟨I, i0, i1, i2⟩ D nD => ?_⟩
  have nH : H D = none := by
    cases q : H D with
    | none => rfl
    | some o => obtain ⟨o', h'⟩ := st1.keep D o q; rw [nD] at h'; cases h'
  have nω : ω1 D = none := by
    cases q : ω1 D with
    | none => rfl
    | some i => obtain ⟨_, o, h'⟩ := rep1.own D i q; rw [nD] at h'; cases h'
  have nHf : Hf1 D = none := rep1.ex.none nD
  refine ⟨fun i m H' => m = ds.length - i ∧ i ≤ ds.length ∧ ∃ Hf' ω' ρ' acc va, RepF G Hf' H' ω' (wipe σ vs) ρ' ∧ Stp Hf H ω Hf' H' ω' ∧ Ex Hf1 Hf' ∧ H' D = some (.lst va) ∧ Hf' D = none ∧ ω' D = none ∧ DdAll G.K Hf' va acc ∧ I i acc ρ',
    ⟨_, rfl, Nat.zero_le _, Hf1, ω1, _, [], [], rep1.turn (σ := σ) hF rfl nHf nω, st1.grown nH, Ex.refl _, upd_same, nHf, nω, .nil, i0⟩, ?_⟩
  rintro i m H' ⟨rfl, hi, Hf', ω', ρ', acc, va, rep', st', ex', hD, hDf, hDω, hva, hI⟩
  by_cases hlt : i < ds.length
  · refine .inr ⟨wk.go i H' hlt (ex'.trans rep'.ex), fun H2 => ∃ Hf2 ω2 ρ2 acc va, RepF G Hf2 H2 ω2 (wipe σ vs) ρ2 ∧ Stp Hf H ω Hf2 H2 ω2 ∧ Ex Hf1 Hf2 ∧ H2 D = some (.lst va) ∧ Hf2 D = none ∧ ω2 D = none ∧ DdAll G.K Hf2 va acc ∧ I (i + 1) acc ρ2,
      fun H2 ⟨Hf2, ω2, ρ2, acc, va, q⟩ => ⟨ds.length - (i + 1), by omega, rfl, hlt, Hf2, ω2, ρ2, acc, va, q⟩, fun x H2 hy => ?_⟩
    have hd : ds[i]? = some ds[i] := List.getElem?_eq_getElem hlt
    obtain ⟨Hf2, g2, hx⟩ := wk.yld i Hf' H' x H2 _ hd ex' rep'.ex hy
    refine ⟨Hf2, ω', ρ', _, ds[i], g2.rep rep', hx, i1 i _ acc ρ' hd hI, fun σ3 H3 Hf3 ω3 ρ3 rep3 st3 hl3 ho3 q3 => ?_⟩
    have he : wipe σ3 vs = wipe σ vs := by
      refine List.ext_getElem? fun j => ?_
      by_cases hjv : j ∈ vs
      · by_cases hjl : j < σ.length
        · rw [wipe_in hjl hjv, wipe_in (by rw [hl3, wipe_length]; exact hjl) hjv]
        · rw [List.getElem?_eq_none (by rw [wipe_length, hl3, wipe_length]; omega), List.getElem?_eq_none (by rw [wipe_length]; omega)]
      · rw [wipe_out hjv, ho3 j fun z => hjv (hj j z)]
    have D2 : H2 D = some (.lst va) := g2.hp D _ hD
    have D2f : Hf2 D = none := g2.cap D _ hD hDf
    have D3 : H3 D = some (.lst va) := st3.fr D _ D2 hDω
    have D3f : Hf3 D = none := st3.cap D _ D2 hDω D2f
    have D3ω : ω3 D = none := st3.notNew D2 hDω
    have S3 : Stp Hf H ω Hf3 H3 ω3 := (st'.trans (g2.stp rep')).trans st3
    have E3 : Ex Hf1 Hf3 := (ex'.trans g2.fz).trans st3.fz
    have V3 : DdAll G.K Hf3 va acc := (g2.fz.trans st3.fz).dpAll hva
    refine ⟨he, Hf3, ω3, ρ3, _, rep3, q3, fun bb H4 Hf4 ω4 ρ4 rep4 st4 q4 => ?_⟩
    have D4 : H4 D = some (.lst va) := st4.fr D _ D3 D3ω
    have D4f : Hf4 D = none := st4.cap D _ D3 D3ω D3f
    have D4ω : ω4 D = none := st4.notNew D3 D3ω
    cases bb with
    | false =>
      have up : upd H4 D (.lst va) = H4 := by
        funext z
        by_cases hz : z = D
        · subst hz; rw [upd_same, D4]
        · rw [upd_ne hz]
      have r4 := rep4.turn (o := .lst va) hF he D4f D4ω
      rw [up] at r4
      exact iteF ⟨Hf4, ω4, _, acc, va, r4, S3.trans st4, E3.trans st4.fz, D4, D4f, D4ω, st4.fz.dpAll V3, q4⟩
    | true =>
      refine iteT ⟨Hf4, ω4, ρ4, _, rep4, q4, fun y H5 Hf5 ω5 ρ5 d rep5 st5 hyd q5 => ?_⟩
      have D5 : H5 D = some (.lst va) := st5.fr D _ D4 D4ω
      have D5f : Hf5 D = none := st5.cap D _ D4 D4ω D4f
      have D5ω : ω5 D = none := st5.notNew D4 D4ω
      have V5 : DdAll G.K Hf5 va acc := (st4.fz.trans st5.fz).dpAll V3
      refine ⟨va, D5, szl (by rw [V5.len]; exact q5.1), Hf5, ω5, _, acc ++ [d], va ++ [y], rep5.turn hF he D5f D5ω, ((S3.trans st4).trans st5).grown nH, (E3.trans st4.fz).trans st5.fz, upd_same, D5f, D5ω, V5.app (.cons hyd .nil), q5.2⟩
  · have e : i = ds.length := by omega
    subst e
    refine .inl ⟨wk.stop H' (ex'.trans rep'.ex), ?_⟩
    exact k _ _ _ _ _ (.ls acc) (fun a => a = D) (rep'.unwiped rep) st' (fun a ha => by subst ha; exact ⟨.inl nH, hDf, hDω, _, hD⟩) ⟨D, va, rfl, rfl, hD, hva⟩ (i2 acc ρ' hI)
/-- the tests of a clause -/
abbrev DTs (X : Cx) (G : Fx) (ifs : List Expr) (t : DTT) : Prop := PTs X ifs (lT G t)
def tYesD : DTT := fun ρ Q => Q true ρ
theorem pts_imp {ifs : List Expr} {t t' : TT} (h : PTs X ifs t) (i : ∀ σ H Q, t' σ H Q → t σ H Q) : PTs X ifs t' := ⟨fun pins s σ H Q I x => h.run pins s σ H Q I (i σ H Q x)⟩
theorem dts_nil : DTs X G [] tYesD := pts_imp pts_nil fun σ H Q ⟨Hf, ω, ρ, Qd, rep, ht, k⟩ => k true _ _ _ _ rep Stp.refl ht
theorem dts_one {t : DTT} (h : DT X G c t) : DTs X G [c] t := pts_one h
variable {elt : Expr} {ifs : List Expr} {scope : Scope} {own : List (Str × Nat)} {g : DTG} {tt : DTT} {te : DTE} {js : List Nat}
theorem dr_lc (hF : ∀ k ∈ G.F, k ∉ own.map (·.2)) (hj : ∀ j ∈ js, j ∈ own.map (·.2)) (hc : X.calm = true) (hN : X.N.Nodup) (hi : DI X G tg iter ti) (ok : BlkOk X.N X.env.scope scope own)
    (hg : ∀ (s : Shared) (H : Hp) (C : Addr) (cl : List (Str × Addr)) (fp : List Addr), DG (X.blk s H scope (compEnvC scope cl C X.env) fp) G tg js g) (ht : ∀ (s : Shared) (H : Hp) (C : Addr) (cl : List (Str × Addr)) (fp : List Addr), DTs (X.blk s H scope (compEnvC scope cl C X.env) fp) G ifs tt)
    (he : ∀ (s : Shared) (H : Hp) (C : Addr) (cl : List (Str × Addr)) (fp : List Addr), DE (X.blk s H scope (compEnvC scope cl C X.env) fp) G elt te) (hs : ∀ x, foldedSetIterable iter X.env x = pure x := by intro _; rfl) :
    DR X G (.ListComp elt [⟨tg, iter, ifs, 0⟩] scope pos) (tLcD (own.map (·.2)) ti g tt te) := pe_imp (pe_lc hc hN hi ok hg ht he hs) fun _ _ _ h => lR_lc hF hj h
theorem ds_setLc {i : Nat} {y : Str} {py spos : Pos} (hFi : i ∉ G.F) (hF : ∀ k ∈ G.F, k ∉ own.map (·.2)) (hj : ∀ j ∈ js, j ∈ own.map (·.2)) (hc : X.calm = true) (hN : X.N.Nodup) (hy : X.N[i]? = some y) (hyl : X.env.scope.names.lookup y = some .local)
    (hsw : swapsWith (.ListComp elt [⟨tg, iter, ifs, 0⟩] scope pos) (some (.Name y py)) spos.line X.env = pure true) (hi : DI X G tg iter ti) (ok : BlkOk X.N X.env.scope scope own)
    (hg : ∀ (s : Shared) (H : Hp) (C : Addr) (cl : List (Str × Addr)) (fp : List Addr), DG (X.blk s H scope (compEnvC scope cl C X.env) fp) G tg js g) (ht : ∀ (s : Shared) (H : Hp) (C : Addr) (cl : List (Str × Addr)) (fp : List Addr), DTs (X.blk s H scope (compEnvC scope cl C X.env) fp) G ifs tt)
    (he : ∀ (s : Shared) (H : Hp) (C : Addr) (cl : List (Str × Addr)) (fp : List Addr), DE (X.blk s H scope (compEnvC scope cl C X.env) fp) G elt te) (hs : ∀ x, foldedSetIterable iter X.env x = pure x := by intro _; rfl) :
    DS X G (.Assign [.Name y py] (.ListComp elt [⟨tg, iter, ifs, 0⟩] scope pos) spos) (sSet i (tLcD (own.map (·.2)) ti g tt te)) := ps_imp (ps_setLc hc hN hy hyl hsw hi ok hg ht he hs) fun D σ H h => by
  obtain ⟨Hf, ω, ρ, Dd, rep, ht, k1, _⟩ := h
  refine lR_lc (G := G) hF hj ⟨Hf, ω, ρ, _, rep, ht, fun v H1 Hf1 ω1 ρ1 r S rep1 st1 hS hv q1 => ?_⟩
  obtain ⟨ω', r1, s1, _⟩ := rep1.put st1 hFi hS hv
  exact k1 _ _ _ _ _ r1 s1 q1

/-! ### a slot's list is changed -/
theorem RepF.lset {Hf H : Hp} {ω : Addr → Option Nat} {σ : L2.St} {ρ : DSt} {i : Nat} {xs ys : List PyData} {p : Addr} {vs ws : List V} (rep : RepF G Hf H ω σ ρ) (hi : σ[i]? = some (some (.ref p))) (hp : ω p = some i) (hw : DdAll G.K Hf ws ys) :
    RepF G Hf (upd H p (.lst ws)) ω σ (ρ.set i (some (.ls ys))) ∧ Stp Hf H ω Hf (upd H p (.lst ws)) ω := by
  obtain ⟨nf, o0, h0⟩ := rep.own p i hp
  refine ⟨⟨fun b u q => ?_, fun b j w => ?_, by rw [List.length_set]; exact rep.len, rep.fix, fun j r w => ?_⟩, Ex.refl _, fun b u q w => ?_, fun b u q => ?_, fun _ _ _ _ z => z, fun b j w => .inl ⟨j, w⟩⟩
  · have hb : b ≠ p := fun z => by subst z; rw [nf] at q; cases q
    rw [upd_ne hb]; exact rep.ex b u q
  · by_cases hb : b = p
    · subst hb; exact ⟨nf, _, upd_same⟩
    · rw [upd_ne hb]; exact rep.own b j w
  · rcases set_get2 w with ⟨ej, er, _⟩ | ⟨ne, ww⟩
    · subst ej
      cases er
      exact ⟨_, hi, p, ws, rfl, hp, upd_same, hw⟩
    · obtain ⟨u, u1, u2⟩ := rep.slot j r ww
      refine ⟨u, u1, u2.mono (Ex.refl _) (fun b hb => ?_) fun _ z => z⟩
      have hb' : b ≠ p := fun z => by subst z; rw [hp] at hb; exact ne (Option.some.inj hb)
      rw [upd_ne hb']
  · have hb : b ≠ p := fun z => by subst z; rw [hp] at w; cases w
    rw [upd_ne hb]; exact q
  · by_cases hb : b = p
    · subst hb; exact ⟨_, upd_same⟩
    · rw [upd_ne hb]; exact ⟨u, q⟩
def lsAt (ρ : DSt) (i : Nat) (k : List PyData → Prop) : Prop := match ρ[i]? with
  | some (some (.ls xs)) => k xs
  | _ => False
theorem lsAt_of {ρ : DSt} {i : Nat} {k : List PyData → Prop} (h : lsAt ρ i k) : ∃ xs, ρ[i]? = some (some (.ls xs)) ∧ k xs := by
  unfold lsAt at h
  split at h
  · exact ⟨_, by assumption, h⟩
  · exact h.elim
/-- x.append(e) -/
def tAppD (i : Nat) (tl : DTL) : DTR := fun ρ Q => lsAt ρ i fun _ => tl ρ fun ds ρ1 => match ds with
  | [d] => lsAt ρ1 i fun xs => xs.length < 100000 ∧ Q (.fz .none) (ρ1.set i (some (.ls (xs ++ [d]))))
  | _ => False
theorem dr_app {i : Nat} {x : Expr} {apos : Pos} (hx : PE X x (tVar i)) (ha : DD X G (e :: es) n tl) (hbase : attributeBase x "append" X.env (eval x X.env) = eval x X.env := by rfl)
    (hfew : ((backTo pos (starEach (e :: es) X.env)).all (fun x => !x.1) && (backToKw pos (keywordEach [] X.env)).all (fun x => x.1.isSome)
      && decide ((e :: es).length + ([] : List Keyword).length + (if ([] : List Keyword).isEmpty then 0 else 1) < 30)) = true := by rfl)
    (hline : (apos.endLine == pos.line) = true := by rfl) (hs : starEach (e :: es) X.env = (false, eval e X.env) :: starEach es X.env := by rfl) (hplain : (backTo pos (starEach es X.env)).any (·.1) = false := by rfl) :
    DR X G (.Call (.Attribute x "append" apos) (e :: es) [] pos) (tAppD i tl) :=
  pe_imp (pe_bm PySem.F.plainAttrs_list PySem.F.slot_list_append PySem.F.type_list_append (fun pins s σ H => mt_append pins s σ H) hx ha hbase hfew hline hs hplain) fun σ H Q ⟨Hf, ω, ρ, Qd, rep, ht, k⟩ => by
  obtain ⟨xs0, q0, ht⟩ := lsAt_of ht
  obtain ⟨v, e1, p, vs, rfl, hp, h1, h2⟩ := rep.slot i _ q0
  refine ⟨.ref p, e1, .inl ⟨rfl, vs, .of h1⟩, Hf, ω, ρ, _, rep, ht, fun ws H1 Hf1 ω1 ρ1 ds hl rep1 st1 hv q1 => ?_⟩
  match ds, hv, q1 with
  | [d], hv, q1 =>
    obtain ⟨xs, q2, hlen, q3⟩ := lsAt_of q1
    obtain ⟨w, w1, p', vs', rfl, hp', h1', h2'⟩ := rep1.slot i _ q2
    rw [e1] at w1
    cases w1
    obtain ⟨y, rfl, hy⟩ := hv.one
    refine ⟨p, vs', y, rfl, rfl, h1', szl (by rw [h2'.len]; exact hlen), ?_⟩
    obtain ⟨r2, s2⟩ := rep1.lset (ys := xs ++ [d]) (vs := vs') (xs := xs) e1 hp' (h2'.app (.cons hy .nil))
    exact k _ _ _ _ _ (.fz .none) (fun _ => False) r2 (st1.trans s2) (fun _ z => z.elim) .non q3
  | [], _, q1 => exact q1.elim
  | _ :: _ :: _, _, q1 => exact q1.elim
/-- x.pop() -/
def tPopD (i : Nat) : DTE := fun ρ Q => lsAt ρ i fun xs => opt (xs[xs.length - 1]?) fun d => Q d (ρ.set i (some (.ls xs.dropLast)))
theorem DdAll.dropLast {K : Fn} {H : Hp} {vs : List V} {ds : List PyData} (h : DdAll K H vs ds) : DdAll K H vs.dropLast ds.dropLast := by
  rw [List.dropLast_eq_take, List.dropLast_eq_take, h.len]
  exact h.take _
theorem de_pop {i : Nat} {x : Expr} {apos : Pos} (hx : PE X x (tVar i)) (hbase : attributeBase x "pop" X.env (eval x X.env) = eval x X.env := by rfl) (hline : (apos.endLine == pos.line) = true := by rfl) :
    DE X G (.Call (.Attribute x "pop" apos) [] [] pos) (tPopD i) :=
  pe_imp (pe_bm0 PySem.F.plainAttrs_list PySem.F.slot_list_pop PySem.F.type_list_pop (fun pins s σ H => mt_pop pins s σ H) hx hbase hline) fun σ H Q ⟨Hf, ω, ρ, Qd, rep, ht, k⟩ => by
  obtain ⟨xs, q0, ht⟩ := lsAt_of ht
  obtain ⟨d, hd, q⟩ := opt_of ht
  obtain ⟨v, e1, p, vs, rfl, hp, h1, h2⟩ := rep.slot i _ q0
  obtain ⟨y, hy, hyd⟩ := h2.get hd
  obtain ⟨r2, s2⟩ := rep.lset (ys := xs.dropLast) (vs := vs) (xs := xs) e1 hp h2.dropLast
  exact ⟨.ref p, e1, .inl ⟨rfl, vs, .of h1⟩, p, vs, y, rfl, rfl, h1, by rw [h2.len]; exact hy, k _ _ _ _ _ _ r2 s2 hyd q⟩
/-- x[j] = e -/
def sPutIx (i : Nat) (t tj : DTE) : DTS := fun D ρ => t ρ fun d ρ1 => lsAt ρ1 i fun _ => tj ρ1 fun z ρ2 => isI z fun m => lsAt ρ2 i fun xs => opt (ixN xs.length m) fun j => D.nx (ρ2.set i (some (.ls (xs.set j d))))
theorem ds_putIx {i : Nat} {x ix : Expr} {te tj : DTE} {p2 : Pos} (he : DE X G e te) (hx : PE X x (tVar i)) (hj : DE X G ix tj)
    (ha : ∀ v, assign (.Subscript x ix p2) X.env v = (do
      let ov ← holding [v] (eval x X.env)
      let iv ← holding [v, ov] (eval ix X.env)
      standAt p2
      holding [v, ov, iv] (setItem ov iv v)
      release [v, ov, iv] []) := by intro _; rfl)
    (hs : swapsWithSole [.Subscript x ix p2] e pos.line X.env = pure false := by rfl) (hw : swappedStores [.Subscript x ix p2] e X.env = pure none := by rfl)
    (h1 : (assignEach [.Subscript x ix p2] X.env).map (·.2) = [assign (.Subscript x ix p2) X.env] := by rfl) : DS X G (.Assign [.Subscript x ix p2] e pos) (sPutIx i te tj) :=
  ps_imp (ps_asg he (pg_sub hx hj set_list ha) hs hw h1) fun D σ H ⟨Hf, ω, ρ, Dd, rep, ht, k1, _⟩ => by
  refine ⟨Hf, ω, ρ, _, rep, ht, fun v H1 Hf1 ω1 ρ1 d rep1 st1 hv q1 => ?_⟩
  obtain ⟨xs0, q0, q1⟩ := lsAt_of q1
  obtain ⟨w, e1, p, vs, rfl, hp, h1, h2⟩ := rep1.slot i _ q0
  refine ⟨.ref p, e1, Hf1, ω1, ρ1, _, rep1, q1, fun z H2 Hf2 ω2 ρ2 dz rep2 st2 hz q2 => ?_⟩
  obtain ⟨m, rfl, q2⟩ := isI_of q2
  obtain ⟨xs, q3, q4⟩ := lsAt_of q2
  obtain ⟨j, hjx, q5⟩ := opt_of q4
  obtain ⟨w2, w1, p', vs', rfl, hp', h1', h2'⟩ := rep2.slot i _ q3
  rw [e1] at w1
  cases w1
  obtain ⟨r2, s2⟩ := rep2.lset (ys := xs.set j d) (vs := vs') (xs := xs) e1 hp' (DdAll.set (st2.fz.dp hv) j h2')
  exact ⟨p, vs', m, j, rfl, hz.isint, h1', by rw [h2'.len]; exact hjx, k1 _ _ _ _ _ r2 ((st1.trans st2).trans s2) q5⟩
end
end DL

namespace DL
open PySem PySem.Spec PyProof.Rows L2

/-! ### what a def promises, on data -/
/-- the arguments' resources, what is wanted of the result and of the mutable arguments behind it, what is wanted of an error (its class) -/
abbrev SpD := List Res → (Res → Af → Prop) → (Value → Af → Prop) → Prop
/-- n arguments, those at F mutable -/
def toSp (L : Fn) (F : List Nat) (n : Nat) (sp : SpD) : Sp := fun vs H Q E => vs.length = n ∧ ∃ Hf ω rs P Ex',
  RepF ⟨L, vs, F⟩ Hf H ω (vs.map some) (rs.map some) ∧ sp rs P Ex' ∧
  (∀ v H' Hf' ω' r af, RepR ⟨L, vs, F⟩ Hf' H' ω' v r af → Stp Hf H ω Hf' H' ω' → P r af → Q v H') ∧
  (∀ c H' Hf' ω' af, RepR ⟨L, vs, F⟩ Hf' H' ω' .non (.fz .none) af → Stp Hf H ω Hf' H' ω' → Ex' c af → E c none H')

section
variable {P : Program} {w : World} {K : PySem.W.Frag} {mg : Str → Option Value} {base : Heap}
/-- the slots at the entry -/
def start0 (N : List Str) (rs : List Res) : DSt := rs.map some ++ List.replicate (N.length - rs.length) none
theorem rep_start {L : Fn} {F : List Nat} {N : List Str} {Hf H : Hp} {ω : Addr → Option Nat} {vs : List V} {rs : List Res} (rep : RepF ⟨L, vs, F⟩ Hf H ω (vs.map some) (rs.map some)) (hF : ∀ k ∈ F, k < vs.length) :
    RepF ⟨L, vs, F⟩ Hf H ω (L2.start N vs) (start0 N rs) := by
  have hl : rs.length = vs.length := by have := rep.len; rwa [List.length_map, List.length_map] at this
  refine ⟨rep.ex, rep.own, ?_, fun k hk => ?_, fun i r q => ?_⟩
  · unfold start0 L2.start
    rw [List.length_append, List.length_append, List.length_map, List.length_map, List.length_replicate, List.length_replicate, hl]
  · unfold L2.start
    rw [List.getElem?_append_left (by rw [List.length_map]; exact hF k hk)]
    exact rep.fix k hk
  · unfold start0 at q
    by_cases hi : i < rs.length
    · rw [List.getElem?_append_left (by rw [List.length_map]; exact hi)] at q
      obtain ⟨v, h1, h2⟩ := rep.slot i r q
      refine ⟨v, ?_, h2⟩
      unfold L2.start
      rw [List.getElem?_append_left (by rw [List.length_map, ← hl]; exact hi)]
      exact h1
    · rw [List.getElem?_append_right (by rw [List.length_map]; omega), List.getElem?_replicate] at q
      split at q <;> cases q
/-- THE RULE for a def from which no error goes out: its body as a term of rules, and the reading of that term -/
theorem dfn_ok {x qual : Str} {st : Stmt} {f : Addr} {fd : FuncData} {N ps : List Str} {k : Nat} {L : Fn} {F : List Nat} {sp : SpD} (T : Fun K x qual st f fd) (S : FnScope N ps (defScope st)) (hF : ∀ i ∈ F, i < ps.length)
    (hbody : ∀ (cdv : Value) (A : Around) (outer : List Env) (s : Shared) (H : Hp) (vs : List V) (E : XK) (rs : List Res) (Pd : Res → Af → Prop) (Ed : Value → Af → Prop), vs.length = ps.length → Room k (A.deeper (envOfC qual (defScope st) s.heap.objs.size f cdv)) → sp rs Pd Ed →
      ∃ t, DSs (cxOf CX0 P w K mg base N qual (defScope st) f cdv A outer s H E).nox ⟨L, vs, F⟩ (defBody st) t ∧ t { nx := fun ρ => Pd (.fz .none) fun k => (ρ[k]?).bind fun o => o, rt := Pd } (start0 N rs)) :
    FnOk P w K mg base CX0 (k + 1) f fd ps (toSp L F ps.length sp) := by
  refine T.ok S (fun vs H Q E h => h.1) (fun cdv A outer s H vs Q E hr h => ?_)
  obtain ⟨hn, Hf, ω, rs, Pd, Ed, rep, hsp, hP, hE⟩ := h
  obtain ⟨t, h1, h2⟩ := hbody cdv A outer s H vs E rs Pd Ed hn hr hsp
  refine ⟨_, h1, Hf, ω, _, _, rep_start rep (fun k hk => by rw [hn]; exact hF k hk), h2, fun σ' H' Hf' ω' ρ' rep' st' q => ?_, fun v H' Hf' ω' r af rr st' q => hP _ _ _ _ _ _ rr st' q, fun _ _ _ _ _ _ _ z => z.elim, fun _ _ _ _ _ _ _ z => z.elim⟩
  obtain ⟨ω2, r2, s2⟩ := rep'.ret (v := .non) (r := .fz .none) (S := fun _ => False) st' (fun z => by have := hF _ z; rw [hn] at this; exact absurd this (Nat.lt_irrefl _)) air_none .non
  exact hP _ _ _ _ _ _ r2 s2 q
end

/-! ### calls -/
section
variable {X : Cx} {G : Fx} {e : Expr} {es : List Expr} {tl : DTL} {ta : DTA} {n : Nat} {sp : SpD}
theorem rep_args {L : Fn} {Hf H : Hp} {vs : List V} {ds : List PyData} (ex : Ex Hf H) (h : DdAll L Hf vs ds) : RepF ⟨L, vs, []⟩ Hf H (fun _ => none) (vs.map some) ((ds.map Res.fz).map some) := by
  refine ⟨ex, fun _ _ z => (nomatch z), ?_, fun _ z => (nomatch z), fun i r q => ?_⟩
  · rw [List.length_map, List.length_map, List.length_map, h.len]
  rw [List.getElem?_map, List.getElem?_map] at q
  cases hd : ds[i]? with
  | none => rw [hd] at q; cases q
  | some d =>
    rw [hd] at q
    cases q
    obtain ⟨v, h1, h2⟩ := h.get hd
    exact ⟨v, by rw [List.getElem?_map, h1]; rfl, h2⟩
/-- f(..) of data; nothing is raised -/
def cCall (sp : SpD) (tl : DTL) : DTR := fun ρ Q => tl ρ fun ds ρ1 => sp (ds.map Res.fz) (fun r _ => Q r ρ1) (fun _ _ => False)
theorem lR_call {σ : L2.St} {H : Hp} {Q : VK} (h : lR G (cCall sp tl) σ H Q) : L2.tCall (toSp G.K [] n sp) [] E0 (lD G n tl) σ H Q := by
  obtain ⟨Hf, ω, ρ, Qd, rep, ht, k⟩ := h
  refine ⟨Hf, ω, ρ, _, rep, ht, fun vs H1 Hf1 ω1 ρ1 ds hl rep1 st1 hv q1 => ?_⟩
  show toSp G.K [] n sp (vs ++ []) H1 Q E0
  rw [List.append_nil]
  refine ⟨by rw [hv.len, hl], Hf1, fun _ => none, ds.map Res.fz, _, _, rep_args rep1.ex hv, q1, fun v H2 Hf2 ω2 r af rr st2 q2 => ?_, fun _ _ _ _ _ _ _ z => z⟩
  have nO : ∀ a, ω2 a ≠ none → H1 a = none := fun a ha => by
    cases q : ω2 a with
    | none => exact absurd q ha
    | some i =>
      rcases st2.new a i q with ⟨j, z⟩ | z
      · cases z
      · exact z
  have repC : RepF G Hf2 H2 ω1 σ ρ1 := by
    refine ⟨rr.ex, fun b j w => ?_, rep1.len, rep1.fix, fun j r' w => ?_⟩
    · obtain ⟨z1, o, z2⟩ := rep1.own b j w
      exact ⟨st2.cap b o z2 rfl z1, o, st2.fr b o z2 rfl⟩
    · obtain ⟨u, u1, u2⟩ := rep1.slot j r' w
      refine ⟨u, u1, u2.mono st2.fz (fun b hb => ?_) fun _ z => z⟩
      obtain ⟨z1, o, z2⟩ := rep1.own b j hb
      rw [z2]; exact st2.fr b o z2 rfl
  have stC : Stp Hf1 H1 ω1 Hf2 H2 ω1 := ⟨st2.fz, fun b o q _ => st2.fr b o q rfl, st2.keep, fun b o q _ z => st2.cap b o q rfl z, fun b j w => .inl ⟨j, w⟩⟩
  refine k v H2 Hf2 ω1 ρ1 r (fun a => ω2 a = some vs.length) repC (st1.trans stC) (fun a ha => ?_) rr.res q2
  have hn := nO a (by rw [ha]; exact fun z => nomatch z)
  obtain ⟨z1, z2⟩ := rr.own a _ ha
  refine ⟨.inl ?_, z1, ?_, z2⟩
  · cases q : H a with
    | none => rfl
    | some o => obtain ⟨o', h'⟩ := st1.keep a o q; rw [hn] at h'; cases h'
  · cases q : ω1 a with
    | none => rfl
    | some i => obtain ⟨_, o, h'⟩ := rep1.own a i q; rw [hn] at h'; cases h'
theorem dr_call {CX : CXT} {k : Nat} {f : Addr} {fd : FuncData} {ps : List Str} {x : Str} {p pos : Pos} (F : FnOk X.prog X.w X.K X.mg X.base CX k f fd ps (toSp G.K [] n sp)) (hr : Room k X.A) (hg : Gl X x) (hm : X.mg x = some (.ref f)) (hk : PySem.W.keepIn X.K (.ref f) = true)
    (hb : Binds X.K fd ps []) (hx : Passes CX X E0) (ha : DD X G (e :: es) n tl) (hdb : (x == ("__debug__" : Str)) = false := by decide) (he : starEach (e :: es) X.env = (false, eval e X.env) :: starEach es X.env := by rfl) (hpl : (backTo pos (starEach es X.env)).any (·.1) = false := by rfl) :
    DR X G (.Call (.Name x p) (e :: es) [] pos) (cCall sp tl) := pe_imp (pe_call F hr hg hm hk hb .nil hx ha hdb he hpl) fun _ _ _ h => lR_call h
theorem dr_call0 {CX : CXT} {k : Nat} {f : Addr} {fd : FuncData} {ps : List Str} {x : Str} {p pos : Pos} (F : FnOk X.prog X.w X.K X.mg X.base CX k f fd ps (toSp G.K [] 0 sp)) (hr : Room k X.A) (hg : Gl X x) (hm : X.mg x = some (.ref f)) (hk : PySem.W.keepIn X.K (.ref f) = true)
    (hb : Binds X.K fd ps []) (hx : Passes CX X E0) (hdb : (x == ("__debug__" : Str)) = false := by decide) :
    DR X G (.Call (.Name x p) [] [] pos) (cCall sp tD0) := pe_imp (pe_call0 F hr hg hm hk hb .nil hx hdb) fun σ H Q h => by
  obtain ⟨Hf, ω, ρ, Qd, rep, ht, k⟩ := h
  have h2 := lR_call (n := 0) (G := G) (tl := tD0) ⟨Hf, ω, ρ, Qd, rep, ht, k⟩
  obtain ⟨Hf1, ω1, ρ1, Qd1, rep1, ht1, k1⟩ := h2
  exact k1 [] H Hf1 ω1 ρ1 [] rfl rep1 Stp.refl .nil ht1

/-! one mutable argument: the slot i, at place k -/
def tA0 : DTA := fun ρ Q => Q [] ρ
def tA1 (t : DTE) (ta : DTA) : DTA := fun ρ Q => t ρ fun d ρ1 => ta ρ1 fun as ρ2 => Q (.dat d :: as) ρ2
def tAS (i : Nat) (ta : DTA) : DTA := fun ρ Q => ta ρ fun as ρ2 => Q (.sl i :: as) ρ2
theorem da_nil : DA X G [] tA0 := pa_imp pa_nil fun σ H Q ⟨Hf, ω, ρ, Qd, rep, ht, k⟩ => k [] H Hf ω ρ [] rep Stp.refl .nil ht
theorem ArgOk.mono {L : Fn} {Hf Hf' : Hp} {σ : L2.St} (e : Ex Hf Hf') : ∀ {vs : List V} {as : List Arg}, ArgOk L Hf σ vs as → ArgOk L Hf' σ vs as
  | _, _, .nil => .nil
  | _, _, .dat h t => .dat (e.dp h) (t.mono e)
  | _, _, .sl h t => .sl h (t.mono e)
theorem da_cons {t : DTE} (he : DE X G e t) (ha : DA X G es ta) (hs : starEach (e :: es) X.env = (false, eval e X.env) :: starEach es X.env := by rfl) : DA X G (e :: es) (tA1 t ta) := pa_imp (pa_cons he ha hs) fun σ H Q ⟨Hf, ω, ρ, Qd, rep, ht, k⟩ =>
  ⟨Hf, ω, ρ, _, rep, ht, fun v H1 Hf1 ω1 ρ1 d rep1 st1 hv q1 => ⟨Hf1, ω1, ρ1, _, rep1, q1, fun vs H2 Hf2 ω2 ρ2 as rep2 st2 hvs q2 =>
    k (v :: vs) H2 Hf2 ω2 ρ2 (.dat d :: as) rep2 (st1.trans st2) (.dat (st2.fz.dp hv) hvs) q2⟩⟩
/-- the slot must hold something now -/
def tASl (i : Nat) (ta : DTA) : DTA := fun ρ Q => (∃ r, ρ[i]? = some (some r)) ∧ ta ρ fun as ρ2 => Q (.sl i :: as) ρ2
theorem da_slot {i : Nat} (he : PE X e (tVar i)) (ha : DA X G es ta) (hs : starEach (e :: es) X.env = (false, eval e X.env) :: starEach es X.env := by rfl) : DA X G (e :: es) (tASl i ta) := pa_imp (pa_cons he ha hs) fun σ H Q ⟨Hf, ω, ρ, Qd, rep, ⟨⟨r, hr⟩, ht⟩, k⟩ => by
  obtain ⟨v, e1, _⟩ := rep.slot i r hr
  exact ⟨v, e1, Hf, ω, ρ, _, rep, ht, fun vs H2 Hf2 ω2 ρ2 as rep2 st2 hvs q2 => k (v :: vs) H2 Hf2 ω2 ρ2 (.sl i :: as) rep2 st2 (.sl e1 hvs) q2⟩
/-- the resources, r0 for the slot -/
def argR (r0 : Res) : List Arg → List Res
  | [] => []
  | .dat d :: as => .fz d :: argR r0 as
  | .sl _ :: as => r0 :: argR r0 as
/-- the places at which slots stand -/
def slotsA : Nat → List Arg → List (Nat × Nat)
  | _, [] => []
  | m, .dat _ :: as => slotsA (m + 1) as
  | m, .sl i :: as => (m, i) :: slotsA (m + 1) as
def cCallS (i k n : Nat) (sp : SpD) (ta : DTA) : DTR := fun ρ Q => ta ρ fun as ρ1 => as.length = n ∧ slotsA 0 as = [(k, i)] ∧ match ρ1[i]? with
  | some (some r0) => sp (argR r0 as) (fun r af => Q r (ρ1.set i (af k))) (fun _ _ => False)
  | _ => False
theorem argR_get {L : Fn} {Hf : Hp} {σ : L2.St} {r0 : Res} : ∀ {vs : List V} {as : List Arg} {m j : Nat} {r : Res}, ArgOk L Hf σ vs as → (argR r0 as)[j]? = some r →
    ∃ v, vs[j]? = some v ∧ ((∃ d, r = .fz d ∧ Dd L Hf v d ∧ (∀ i, (m + j, i) ∉ slotsA m as)) ∨ ∃ i, r = r0 ∧ (m + j, i) ∈ slotsA m as ∧ σ[i]? = some (some v))
  | _, _, _, _, _, .nil, h => by simp [argR] at h
  | _, _, m, 0, r, .dat (v := v) (d := d) (as := as) hd t, h => by
    cases h
    refine ⟨v, rfl, .inl ⟨d, rfl, hd, fun i hi => ?_⟩⟩
    have : ∀ (as : List Arg) (m m' i : Nat), (m', i) ∈ slotsA m as → m ≤ m' := by
      intro as
      induction as with
      | nil => intro m m' i h; cases h
      | cons a r ih =>
        intro m m' i h
        cases a with
        | dat d => exact Nat.le_of_succ_le (ih _ _ _ h)
        | sl q =>
          rcases List.mem_cons.mp h with e | h
          · cases e; exact Nat.le_refl _
          · exact Nat.le_of_succ_le (ih _ _ _ h)
    have := this as (m + 1) m i hi
    omega
  | _, _, m, 0, r, .sl (v := v) (i := i) hs t, h => by
    cases h
    exact ⟨v, rfl, .inr ⟨i, rfl, List.mem_cons_self, hs⟩⟩
  | _, _, m, j + 1, r, .dat (v := v) (as := as) hd t, h => by
    obtain ⟨w, h1, h2⟩ := argR_get (m := m + 1) (j := j) t h
    refine ⟨w, h1, ?_⟩
    have e : m + (j + 1) = m + 1 + j := by omega
    rw [e]
    exact h2
  | _, _, m, j + 1, r, .sl (v := v) (i := i) (as := as) hs t, h => by
    obtain ⟨w, h1, h2⟩ := argR_get (m := m + 1) (j := j) t h
    refine ⟨w, h1, ?_⟩
    have e : m + (j + 1) = m + 1 + j := by omega
    rw [e]
    rcases h2 with ⟨d, a1, a2, a3⟩ | ⟨i', a1, a2, a3⟩
    · refine .inl ⟨d, a1, a2, fun i' hi' => ?_⟩
      rcases List.mem_cons.mp hi' with z | z
      · have := congrArg Prod.fst z; simp at this; omega
      · exact a3 i' z
    · exact .inr ⟨i', a1, List.mem_cons_of_mem _ a2, a3⟩
theorem argR_len {L : Fn} {Hf : Hp} {σ : L2.St} {r0 : Res} : ∀ {vs : List V} {as : List Arg}, ArgOk L Hf σ vs as → (argR r0 as).length = vs.length ∧ as.length = vs.length
  | _, _, .nil => ⟨rfl, rfl⟩
  | _, _, .dat _ t => ⟨congrArg (· + 1) (argR_len t).1, congrArg (· + 1) (argR_len (r0 := r0) t).2⟩
  | _, _, .sl _ t => ⟨congrArg (· + 1) (argR_len t).1, congrArg (· + 1) (argR_len (r0 := r0) t).2⟩
theorem argR_at {L : Fn} {Hf : Hp} {σ : L2.St} : ∀ {vs : List V} {as : List Arg} {m j i : Nat}, ArgOk L Hf σ vs as → (m + j, i) ∈ slotsA m as → ∃ v, vs[j]? = some v ∧ σ[i]? = some (some v)
  | _, _, _, _, _, .nil, h => by cases h
  | _, _, m, 0, i, .dat (as := as) hd t, h => by
    have : ∀ (as : List Arg) (m m' i : Nat), (m', i) ∈ slotsA m as → m ≤ m' := by
      intro as
      induction as with
      | nil => intro m m' i h; cases h
      | cons a r ih =>
        intro m m' i h
        cases a with
        | dat d => exact Nat.le_of_succ_le (ih _ _ _ h)
        | sl q =>
          rcases List.mem_cons.mp h with e | h
          · cases e; exact Nat.le_refl _
          · exact Nat.le_of_succ_le (ih _ _ _ h)
    have := this as (m + 1) (m + 0) i h
    omega
  | _, _, m, j + 1, i, .dat (as := as) hd t, h => by
    have e : m + (j + 1) = m + 1 + j := by omega
    rw [e] at h
    exact argR_at (m := m + 1) (j := j) t h
  | _, _, m, 0, i, .sl (v := v) (i := i') (as := as) hs t, h => by
    rcases List.mem_cons.mp h with z | z
    · have e := congrArg Prod.snd z
      simp only at e
      subst e
      exact ⟨v, rfl, hs⟩
    · have : ∀ (as : List Arg) (m m' i : Nat), (m', i) ∈ slotsA m as → m ≤ m' := by
        intro as
        induction as with
        | nil => intro m m' i h; cases h
        | cons a r ih =>
          intro m m' i h
          cases a with
          | dat d => exact Nat.le_of_succ_le (ih _ _ _ h)
          | sl q =>
            rcases List.mem_cons.mp h with e | h
            · cases e; exact Nat.le_refl _
            · exact Nat.le_of_succ_le (ih _ _ _ h)
      have := this as (m + 1) (m + 0) i z
      omega
  | _, _, m, j + 1, i, .sl (as := as) hs t, h => by
    have e : m + (j + 1) = m + 1 + j := by omega
    rcases List.mem_cons.mp h with z | z
    · have h1 : m + (j + 1) = m := congrArg Prod.fst z
      omega
    · rw [e] at z
      exact argR_at (m := m + 1) (j := j) t z
theorem lR_callS {i k : Nat} {σ : L2.St} {H : Hp} {Q : VK} (h : lR G (cCallS i k n sp ta) σ H Q) : L2.tCall (toSp G.K [k] n sp) [] E0 (lA G ta) σ H Q := by
  classical
  obtain ⟨Hf, ω, ρ, Qd, rep, ht, kk⟩ := h
  refine ⟨Hf, ω, ρ, _, rep, ht, fun vs H1 Hf1 ω1 ρ1 as rep1 st1 hv q1 => ?_⟩
  show toSp G.K [k] n sp (vs ++ []) H1 Q E0
  rw [List.append_nil]
  obtain ⟨hlen, hs, q1⟩ := q1
  split at q1
  · rename_i r0 hr0
    obtain ⟨l1, l2⟩ := argR_len (r0 := r0) hv
    obtain ⟨vk, hvk, hσi⟩ := argR_at (m := 0) (j := k) (i := i) hv (by rw [hs, Nat.zero_add]; exact List.mem_singleton.mpr rfl)
    have hkl : k < vs.length := (List.getElem?_eq_some_iff.mp hvk).1
    have repA : RepF ⟨G.K, vs, [k]⟩ Hf1 H1 (fun a => if ω1 a = some i then some k else none) (vs.map some) ((argR r0 as).map some) := by
      refine ⟨rep1.ex, fun b j w => ?_, by rw [List.length_map, List.length_map, l1], fun j hj => ?_, fun j r w => ?_⟩
      · by_cases hb : ω1 b = some i
        · exact rep1.own b i hb
        · simp [hb] at w
      · rw [List.mem_singleton.mp hj, List.getElem?_map]
      · rw [List.getElem?_map] at w
        cases z : (argR r0 as)[j]? with
        | none => rw [z] at w; cases w
        | some r' =>
          rw [z] at w
          cases w
          obtain ⟨v, h1, h2⟩ := argR_get (m := 0) hv z
          rw [hs] at h2
          rcases h2 with ⟨d, rfl, h3, _⟩ | ⟨i', rfl, h3, h4⟩
          · exact ⟨v, by rw [List.getElem?_map, h1]; rfl, h3⟩
          · have e := List.mem_singleton.mp h3
            have e1 : j = k := by have := congrArg Prod.fst e; simpa using this
            have e2 : i' = i := congrArg Prod.snd e
            subst e1 e2
            obtain ⟨u, u1, u2⟩ := rep1.slot i' _ hr0
            rw [h4] at u1
            cases u1
            refine ⟨v, by rw [List.getElem?_map, h1]; rfl, u2.mono (Ex.refl _) (fun _ _ => rfl) fun b hb => ?_⟩
            have hb' : ω1 b = some i' := hb
            simp [hb']
    refine ⟨by rw [← l2, hlen], Hf1, _, argR r0 as, _, _, repA, q1, fun v H2 Hf2 ω2 r af rr st2 q2 => ?_, fun _ _ _ _ _ _ _ z => z⟩
    have fr : ∀ a o, H1 a = some o → ω1 a ≠ some i → H2 a = some o := fun a o h1 h2 => st2.fr a o h1 (by simp [h2])
    have cap : ∀ a o, H1 a = some o → ω1 a ≠ some i → Hf1 a = none → Hf2 a = none := fun a o h1 h2 h3 => st2.cap a o h1 (by simp [h2]) h3
    have nw : ∀ a m, ω2 a = some m → ω1 a = some i ∨ H1 a = none := fun a m h => by
      rcases st2.new a m h with ⟨j, z⟩ | z
      · by_cases hb : ω1 a = some i
        · exact .inl hb
        · simp [hb] at z
      · exact .inr z
    have oth : ∀ a j, ω1 a = some j → j ≠ i → ω2 a = none := fun a j h hne => by
      cases q : ω2 a with
      | none => rfl
      | some m =>
        rcases nw a m q with z | z
        · rw [h] at z; exact absurd (Option.some.inj z) hne
        · obtain ⟨_, o, h'⟩ := rep1.own a j h; rw [z] at h'; cases h'
    have repC : RepF G Hf2 H2 (fun a => if ω2 a = some k then some i else if ω1 a = some i then none else ω1 a) σ (ρ1.set i (af k)) := by
      refine ⟨rr.ex, fun b j w => ?_, by rw [List.length_set]; exact rep1.len, rep1.fix, fun j r' w => ?_⟩
      · by_cases h1 : ω2 b = some k
        · exact rr.own b k h1
        · simp only [h1, if_false] at w
          by_cases h2 : ω1 b = some i
          · simp [h2] at w
          · simp only [h2, if_false] at w
            obtain ⟨z1, o, z2⟩ := rep1.own b j w
            exact ⟨cap b o z2 h2 z1, o, fr b o z2 h2⟩
      · rcases set_get2 w with ⟨ej, er, _⟩ | ⟨ne, ww⟩
        · subst ej
          obtain ⟨u, u1, u2⟩ := rr.args k r' (List.mem_singleton.mpr rfl) er
          rw [hvk] at u1
          cases u1
          refine ⟨vk, hσi, u2.mono (Ex.refl _) (fun _ _ => rfl) fun b hb => ?_⟩
          have hb' : ω2 b = some k := hb
          simp [hb']
        · obtain ⟨u, u1, u2⟩ := rep1.slot j r' ww
          refine ⟨u, u1, u2.mono st2.fz (fun b hb => ?_) fun b hb => ?_⟩
          · obtain ⟨z1, o, z2⟩ := rep1.own b j hb
            rw [z2]
            exact fr b o z2 fun z => by rw [hb] at z; exact ne (Option.some.inj z).symm
          · have h1 : ω2 b ≠ some k := by rw [oth b j hb (fun z => ne z.symm)]; exact fun z => nomatch z
            have h2 : ω1 b ≠ some i := fun z => by rw [hb] at z; exact ne (Option.some.inj z).symm
            simp only [h1, if_false, h2]
            exact hb
    have stC : Stp Hf1 H1 ω1 Hf2 H2 (fun a => if ω2 a = some k then some i else if ω1 a = some i then none else ω1 a) := by
      refine ⟨st2.fz, fun b o q w => fr b o q (by rw [w]; exact fun z => nomatch z), st2.keep, fun b o q w z => cap b o q (by rw [w]; exact fun z => nomatch z) z, fun b j w => ?_⟩
      by_cases h1 : ω2 b = some k
      · rcases nw b k h1 with z | z
        · exact .inl ⟨i, z⟩
        · exact .inr z
      · simp only [h1, if_false] at w
        by_cases h2 : ω1 b = some i
        · simp [h2] at w
        · simp only [h2, if_false] at w; exact .inl ⟨j, w⟩
    refine kk v H2 Hf2 _ _ r (fun a => ω2 a = some vs.length) repC (st1.trans stC) (fun a ha => ?_) rr.res q2
    obtain ⟨z1, z2⟩ := rr.own a _ ha
    have h1 : ω2 a ≠ some k := by rw [ha]; exact fun z => absurd (Option.some.inj z) (Nat.ne_of_gt hkl)
    refine ⟨?_, z1, ?_, z2⟩
    · rcases nw a _ ha with z | z
      · rcases st1.new a i z with w | w
        · exact .inr w
        · exact .inl w
      · refine .inl ?_
        cases q : H a with
        | none => rfl
        | some o => obtain ⟨o', h'⟩ := st1.keep a o q; rw [z] at h'; cases h'
    · simp only [h1, if_false]
      by_cases h2 : ω1 a = some i
      · simp [h2]
      · simp only [h2, if_false]
        cases q : ω1 a with
        | none => rfl
        | some j =>
          rw [oth a j q (fun z => h2 (by rw [q, z]))] at ha
          cases ha
  · exact q1.elim
theorem dr_callS {CX : CXT} {k0 i k : Nat} {f : Addr} {fd : FuncData} {ps : List Str} {x : Str} {p pos : Pos} (F : FnOk X.prog X.w X.K X.mg X.base CX k0 f fd ps (toSp G.K [k] n sp)) (hr : Room k0 X.A) (hg : Gl X x) (hm : X.mg x = some (.ref f)) (hk : PySem.W.keepIn X.K (.ref f) = true)
    (hb : Binds X.K fd ps []) (hx : Passes CX X E0) (ha : DA X G (e :: es) ta) (hdb : (x == ("__debug__" : Str)) = false := by decide) (he : starEach (e :: es) X.env = (false, eval e X.env) :: starEach es X.env := by rfl) (hpl : (backTo pos (starEach es X.env)).any (·.1) = false := by rfl) :
    DR X G (.Call (.Name x p) (e :: es) [] pos) (cCallS i k n sp ta) := pe_imp (pe_call F hr hg hm hk hb .nil hx ha hdb he hpl) fun _ _ _ h => lR_callS h
end
end DL

namespace DL
open PySem PySem.Spec PyProof.Rows L2

/-! ### defs by their names -/
/-- a def of the text as it stands behind the top -/
structure FnT (K : PySem.W.Frag) (mg : Str → Option Value) (x : Str) (st : Stmt) (ps : List Str) : Prop where
  ex : ∃ f fd, Fun K x x st f fd ∧ mg x = some (.ref f) ∧ Binds K fd ps []
/-- a def that keeps a promise, called by its name -/
structure Cal (P : Program) (w : World) (K : PySem.W.Frag) (mg : Str → Option Value) (base : Heap) (L : Fn) (k : Nat) (x : Str) (F : List Nat) (n : Nat) (sp : SpD) : Prop where
  ex : ∃ (f : Addr) (fd : FuncData) (ps : List Str), FnOk P w K mg base CX0 k f fd ps (toSp L F n sp) ∧ mg x = some (.ref f) ∧ PySem.W.keepIn K (.ref f) = true ∧ Binds K fd ps []
section
variable {P : Program} {w : World} {K : PySem.W.Frag} {mg : Str → Option Value} {base : Heap} {L : Fn}
theorem Cal.mono {j k : Nat} {x : Str} {F : List Nat} {n : Nat} {sp : SpD} (c : Cal P w K mg base L j x F n sp) (h : j ≤ k) : Cal P w K mg base L k x F n sp := by
  obtain ⟨f, fd, ps, a, b⟩ := c.ex
  exact ⟨f, fd, ps, a.mono h, b⟩
theorem cal_ok {x : Str} {st : Stmt} {N ps : List Str} {k : Nat} {F : List Nat} {sp : SpD} (T : FnT K mg x st ps) (S : FnScope N ps (defScope st)) (hF : ∀ i ∈ F, i < ps.length)
    (hbody : ∀ (f : Addr) (cdv : Value) (A : Around) (outer : List Env) (s : Shared) (H : Hp) (vs : List V) (E : XK) (rs : List Res) (Pd : Res → Af → Prop) (Ed : Value → Af → Prop), vs.length = ps.length → Room k (A.deeper (envOfC x (defScope st) s.heap.objs.size f cdv)) → sp rs Pd Ed →
      ∃ t, DSs (cxOf CX0 P w K mg base N x (defScope st) f cdv A outer s H E).nox ⟨L, vs, F⟩ (defBody st) t ∧ t { nx := fun ρ => Pd (.fz .none) fun k => (ρ[k]?).bind fun o => o, rt := Pd } (start0 N rs)) :
    Cal P w K mg base L (k + 1) x F ps.length sp := by
  obtain ⟨f, fd, h1, h2, h3⟩ := T.ex
  exact ⟨f, fd, ps, dfn_ok h1 S hF (hbody f), h2, h1.kp, h3⟩
end
section
variable {X : Cx} {G : Fx} {e : Expr} {es : List Expr} {tl : DTL} {ta : DTA} {n : Nat} {sp : SpD} {x : Str} {p pos : Pos} {j k : Nat}
theorem dr_c (C : Cal X.prog X.w X.K X.mg X.base G.K j x [] n sp) (hr : Room k X.A) (ha : DD X G (e :: es) n tl) (hjk : j ≤ k := by decide) (hg : Gl X x := by rfl) (hdb : (x == ("__debug__" : Str)) = false := by decide) (he : starEach (e :: es) X.env = (false, eval e X.env) :: starEach es X.env := by rfl) (hpl : (backTo pos (starEach es X.env)).any (·.1) = false := by rfl) :
    DR X G (.Call (.Name x p) (e :: es) [] pos) (cCall sp tl) := by
  obtain ⟨f, fd, ps, a, b, c, d⟩ := C.ex
  exact dr_call a (hr.mono hjk) hg b c d (fun _ _ _ _ _ _ _ h => h.elim) ha hdb he hpl
theorem dr_c0 (C : Cal X.prog X.w X.K X.mg X.base G.K j x [] 0 sp) (hr : Room k X.A) (hjk : j ≤ k := by decide) (hg : Gl X x := by rfl) (hdb : (x == ("__debug__" : Str)) = false := by decide) : DR X G (.Call (.Name x p) [] [] pos) (cCall sp tD0) := by
  obtain ⟨f, fd, ps, a, b, c, d⟩ := C.ex
  exact dr_call0 a (hr.mono hjk) hg b c d (fun _ _ _ _ _ _ _ h => h.elim) hdb
theorem dr_cs {i m : Nat} (C : Cal X.prog X.w X.K X.mg X.base G.K j x [m] n sp) (hr : Room k X.A) (ha : DA X G (e :: es) ta) (hjk : j ≤ k := by decide) (hg : Gl X x := by rfl) (hdb : (x == ("__debug__" : Str)) = false := by decide) (he : starEach (e :: es) X.env = (false, eval e X.env) :: starEach es X.env := by rfl) (hpl : (backTo pos (starEach es X.env)).any (·.1) = false := by rfl) :
    DR X G (.Call (.Name x p) (e :: es) [] pos) (cCallS i m n sp ta) := by
  obtain ⟨f, fd, ps, a, b, c, d⟩ := C.ex
  exact dr_callS a (hr.mono hjk) hg b c d (fun _ _ _ _ _ _ _ h => h.elim) ha hdb he hpl
/-- a constant of the module, an int -/
theorem de_gi {i : Int} (h : ∃ t, X.mg x = some (.int i t)) (hg : Gl X x := by rfl) (hd : (x == ("__debug__" : Str)) = false := by decide) : DE X G (.Name x pos) (tCD (.int i)) := by
  obtain ⟨t, h⟩ := h
  exact de_c (v := .int i) (pe_glob hg h ⟨t, rfl⟩ hd) fun _ => .int i
end
end DL

/-! zip and enumerate over lists and tuples in any mix, as the layer's iterators (over the library's Draws, WalksT) -/
namespace DL
open PySem PySem.Spec PyProof.Rows L2

theorem meets_en1 {v : Value} {o : Obj} {H : Heap → Prop} (B : Begins v o H) : Meets (Builtin.«enumerate.__new__» ⟨[.type "enumerate", v], []⟩) (fun _ R s => H s.heap ∧
    R (.ok (.ret (.ref (s.heap.push o).objs.size))) { s with heap := (s.heap.push o).push { cls := .type "enumerate", data := .fields #[.none, .bool false, .ref s.heap.objs.size, rawInt 0, .none, .none] } }) := by
  refine .of_wp fun prog w A R s hh => ?_
  obtain ⟨hp, gg, dd, kk, oo⟩ := s
  obtain ⟨h1, h2⟩ := hh
  have sb := sub_enumerate
  have it : ∀ {A' : Around} {E : Value → Shared → Prop} {Q : Value → Shared → Prop}, Q (.ref hp.objs.size) ⟨hp.push o, gg, dd, kk, oo⟩ → wpAny (model prog w) A' (pyIter v) Q E ⟨hp, gg, dd, kk, oo⟩ := fun q => B.iter prog w _ _ ⟨hp, gg, dd, kk, oo⟩ _ h1 q
  wp_walk using it
  refine wpAny_stack_any fun st => wpAny_pure ?_
  split
  · rename_i c _ _ _ _ _
    cases (c == Value.type "enumerate") <;> (wp_walk using it; exact ⟨_, rfl, h2⟩)
  · wp_walk using it; exact ⟨_, rfl, h2⟩
theorem enum_begins1 {prog : Program} {w : World} {A : Around} {E : Value → Shared → Prop} {s : Shared} {v : Value} {o : Obj} {H : Heap → Prop} {Q : Value → Shared → Prop} (B : Begins v o H) (h1 : H s.heap)
    (h : ∀ h', IsEnum h' (s.heap.objs.size + 1) s.heap.objs.size 0 .none → h'.get? s.heap.objs.size = some o → (∀ b o, s.heap.get? b = some o → h'.get? b = some o) → Q (.ref (s.heap.objs.size + 1)) { s with heap := h' }) :
    wpAny (model prog w) A (call (.type "enumerate") [v]) Q E s := by
  refine callType_new F.called_enumerate (by decide) (F.typeCall_enumerate_1 _) (F.newCall_enumerate_1 _) (fun obj => F.args_object_init_2 obj _) F.entry_enumerate_new (meets_en1 B) ⟨h1, ?_⟩
  have zz : (s.heap.push o).objs.size = s.heap.objs.size + 1 := Heap.size_push ..
  have he := Heap.get?_push_size (s.heap.push o) (o := { cls := .type "enumerate", data := .fields #[.none, .bool false, .ref s.heap.objs.size, rawInt 0, .none, .none] }) rfl
  rw [zz] at he
  show _ ∧ _
  rw [zz]
  exact ⟨⟨_, he, rfl⟩, h _ he (Heap.get?_push_of_some _ (Heap.get?_push_size _ B.free)) fun b o x => Heap.get?_push_of_some _ (Heap.get?_push_of_some _ x)⟩

/-! ### a list (true) or a tuple (false) -/
def SqX (K : PySem.W.Frag) (k : Bool) (H : Hp) (a : Addr) (xs : List V) : Prop := match k with
  | true => SqL K H a xs
  | false => SqT K H a xs
def ItX (k : Bool) (h : Heap) (it a : Addr) (i : Nat) : Prop := match k with
  | true => h.IsListIter it a i
  | false => h.IsTupleIter it a i
def IsX (k : Bool) (h : Heap) (a : Addr) (items : Array Value) : Prop := match k with
  | true => h.IsList a items
  | false => h.IsTuple a items
def itO (k : Bool) (a : Addr) : Obj := match k with
  | true => { cls := .type "list_iterator", data := .fields #[.ref a, .int 0 0] }
  | false => { cls := .type "tuple_iterator", data := .fields #[.ref a, .int 0 0] }
theorem beginsX (k : Bool) (a : Addr) (items : Array Value) : Begins (.ref a) (itO k a) fun h => IsX k h a items := by
  cases k with
  | true => exact begins_list a items
  | false => exact begins_tuple a items
theorem ItX.start {k : Bool} {h : Heap} {it a : Addr} (e : h.get? it = some (itO k a)) : ItX k h it a 0 := by
  cases k <;> exact ⟨_, e, rfl, rfl⟩
theorem ItX.at {k : Bool} {h h' : Heap} {it a : Addr} {i : Nat} (x : ItX k h it a i) (e : ∀ o, h.get? it = some o → h'.get? it = some o) : ItX k h' it a i := by
  cases k <;> (obtain ⟨o, ho, r⟩ := x; exact ⟨o, e o ho, r⟩)
theorem ItX.obj {k : Bool} {h : Heap} {it a : Addr} {i : Nat} (x : ItX k h it a i) : ∃ o, h.get? it = some o ∧ ∀ v, o.data ≠ .cell v := by
  cases k <;> (obtain ⟨o, ho, _, hd⟩ := x; exact ⟨o, ho, fun v q => by rw [hd] at q; cases q⟩)
theorem drawsX {prog : Program} {w : World} {A : Around} (hh : A.handled = none) (k : Bool) (it a : Addr) (hne : a ≠ it) (items : Array Value) :
    Draws prog w A it [it, a] items.size (fun i v => items[i]? = some v) (fun i h => ItX k h it a i ∧ IsX k h a items) := by
  cases k with
  | true => exact Draws.list hh it a hne items
  | false => exact Draws.tuple hh it a hne items
section
variable {X : Cx} {pins : List (Addr × Obj)} {σ : L2.St} {H : Hp} {s : Shared} {a : Addr} {xs ys : List V} {k : Bool}
theorem seqX (I : Inv X pins σ H s) (h : SqX X.K k H a xs) : ∃ its : List Value, Vals xs its ∧ IsX k s.heap a its.toArray := by
  cases k with
  | true => obtain ⟨its, r, p, _⟩ := I.list h; exact ⟨its, r, p.isList⟩
  | false => obtain ⟨its, r, p, _⟩ := I.tuple h; exact ⟨its, r, show s.heap.IsTuple a its.toArray from p⟩
theorem seqX_inj (I : Inv X pins σ H s) (h : SqX X.K k H a xs) (h' : SqX X.K k H a ys) : xs = ys := by
  cases k with
  | true => exact I.list_inj h h'
  | false => exact I.tuple_inj h h'
theorem IsX.lt {h : Heap} {items : Array Value} (x : IsX k h a items) : a < h.objs.size := by
  cases k with
  | true => obtain ⟨o, ho, _⟩ := x; exact Heap.lt_size ho
  | false => obtain ⟨o, ho, _⟩ := x; exact Heap.lt_size ho
end
/-! ### zip -/
def JZ (K : PySem.W.Frag) (k1 k2 : Bool) (a b : Addr) : It :=
  ⟨fun i H => ∃ (xs ys : List V) (x y : V), SqX K k1 H a xs ∧ SqX K k2 H b ys ∧ xs[i]? = some x ∧ ys[i]? = some y,
   fun i H v H' => ∃ T x y, v = .ref T ∧ H T = none ∧ H' = upd H T (.tup [x, y]) ∧ (∀ xs, SqX K k1 H a xs → xs[i]? = some x) ∧ (∀ ys, SqX K k2 H b ys → ys[i]? = some y),
   fun i H => ∃ xs ys : List V, SqX K k1 H a xs ∧ SqX K k2 H b ys ∧ i = min xs.length ys.length⟩
theorem turn_zipX {P : Program} {w : World} {K : PySem.W.Frag} {elts : List Expr} {kk : Nat} {tpos : Pos} {k1 k2 : Bool} {a b z TI TO i1 i2 : Addr} (S : ZipSep2 z TI TO i1 i2 [i1, a] [i2, b]) (n1 : a ≠ i1) (n2 : b ≠ i2) :
    Turn P w K (.Tuple elts kk tpos) (JZ K k1 k2 a b) [z, TI, TO, i1, i2] z (fun i h => IsZip h z TI TO .none ∧ IsTupOf2 h TI (.ref i1) (.ref i2) ∧ (∃ x y, IsTupOf2 h TO x y) ∧ ItX k1 h i1 a i ∧ ItX k2 h i2 b i) where
  mem := by simp
  obj := fun i h ⟨hz, hTI, ⟨x, y, hTO⟩, q1, q2⟩ c hc => by
    simp only [List.mem_cons, List.not_mem_nil, or_false] at hc
    rcases hc with rfl | rfl | rfl | rfl | rfl
    · exact ⟨_, hz, fun v q => by cases q⟩
    · exact ⟨_, hTI, fun v q => by cases q⟩
    · exact ⟨_, hTO, fun v q => by cases q⟩
    · exact q1.obj
    · exact q2.obj
  keep := fun i h h' ⟨hz, hTI, ⟨x, y, hTO⟩, q1, q2⟩ k => ⟨k z (by simp) _ hz, k TI (by simp) _ hTI, ⟨x, y, k TO (by simp) _ hTO⟩, q1.at (k i1 (by simp)), q2.at (k i2 (by simp))⟩
  item := by
    intro X hP hw hK hc i pins s σ H E I hf st hg
    subst hP hw hK
    obtain ⟨hz, hTI, ⟨x0, y0, hTO⟩, q1, q2⟩ := st
    obtain ⟨xs, ys, x, y, hqx, hqy, hx, hy⟩ := hg
    obtain ⟨its, rv, p1⟩ := seqX I hqx
    obtain ⟨its2, rv2, p2⟩ := seqX I hqy
    obtain ⟨u, hu, ru⟩ := rv.get hx
    obtain ⟨u2, hu2, ru2⟩ := rv2.get hy
    have hh : X.A.in1.handled = none := I.ok.hd hc
    have W := WalksT.zipD2 S (drawsX (prog := X.prog) (w := X.w) hh k1 i1 a n1 its.toArray) (drawsX (prog := X.prog) (w := X.w) hh k2 i2 b n2 its2.toArray)
    have l1 := (List.getElem?_eq_some_iff.mp hu).1
    have l2 := (List.getElem?_eq_some_iff.mp hu2).1
    refine W.item i s _ _ (by simp only [List.size_toArray]; omega) ⟨hz, hTI, ⟨x0, y0, hTO⟩, ⟨q1, p1⟩, ⟨q2, p2⟩⟩ fun T vals h' tk ⟨v1, v2, e1, e2, ev⟩ hT hTup hm hk => ?_
    refine ⟨.ref T, rfl, W.go elts kk tpos i T { s with heap := h', toks := tk } _ _ hm fun h2 st2 hk2 => ?_⟩
    subst ev
    have ev1 : v1 = u := by
      have : its.toArray[i]? = some u := by simpa using hu
      rw [this] at e1; exact (Option.some.inj e1).symm
    have ev2 : v2 = u2 := by
      have : its2.toArray[i]? = some u2 := by simpa using hu2
      rw [this] at e2; exact (Option.some.inj e2).symm
    subst ev1 ev2
    have hT2 : h2.IsTuple T #[v1, v2] := hTup.at fun o q => hk2 T o (W.apart i T h' hm) q
    have new : ObjOk X.prog X.w (upd H T (.tup [x, y])) h2 T (.tup [x, y]) := ⟨by show 2 ≤ sizeLine; decide, [v1, v2], .cons ru (.cons ru2 .nil), hT2⟩
    have sub : ∀ c, c ∉ [z, TI, TO, i1, i2] → c ∉ [z, TO, i1, i2] := fun c hc q => hc (by simp only [List.mem_cons, List.not_mem_nil, or_false] at q ⊢; rcases q with q | q | q | q <;> simp [q])
    have I1 := I.turnedNew (t' := tk) (ch := [z, TI, TO, i1, i2]) (fun c o hc q => hk2 c o (sub c hc) (hk c o (sub c hc) q)) hf hT new
    obtain ⟨z2, TI2, TO2, ⟨a1, _⟩, ⟨a2, _⟩⟩ := st2
    refine ⟨.ref T, _, I1, rfl, ⟨T, x, y, rfl, I.hok.fresh hT, rfl, fun l hl => by rw [seqX_inj I hl hqx]; exact hx, fun l hl => by rw [seqX_inj I hl hqy]; exact hy⟩, ⟨z2, TI2, TO2, a1, a2⟩, fun c hcm => ?_⟩
    have hlt : c < s.heap.objs.size := by
      simp only [List.mem_cons, List.not_mem_nil, or_false] at hcm
      rcases hcm with rfl | rfl | rfl | rfl | rfl
      · exact Heap.lt_size hz
      · exact Heap.lt_size hTI
      · exact Heap.lt_size hTO
      · obtain ⟨o, h, _⟩ := q1.obj; exact Heap.lt_size h
      · obtain ⟨o, h, _⟩ := q2.obj; exact Heap.lt_size h
    rw [upd_ne (Nat.ne_of_lt (Nat.lt_of_lt_of_le hlt hT))]
    exact (hf c hcm).1
  done := by
    intro X hP hw hK hc i pins s σ H E I hf st hg
    subst hP hw hK
    obtain ⟨hz, hTI, ⟨x0, y0, hTO⟩, q1, q2⟩ := st
    obtain ⟨xs, ys, hqx, hqy, hi⟩ := hg
    obtain ⟨its, rv, p1⟩ := seqX I hqx
    obtain ⟨its2, rv2, p2⟩ := seqX I hqy
    have hh : X.A.in1.handled = none := I.ok.hd hc
    have W := WalksT.zipD2 S (drawsX (prog := X.prog) (w := X.w) hh k1 i1 a n1 its.toArray) (drawsX (prog := X.prog) (w := X.w) hh k2 i2 b n2 its2.toArray)
    have e : i = min its.toArray.size its2.toArray.size := by rw [List.size_toArray, List.size_toArray, ← rv.length, ← rv2.length]; exact hi
    subst e
    have sub : ∀ c, c ∉ [z, TI, TO, i1, i2] → c ∉ [z, TO, i1, i2] := fun c hc q => hc (by simp only [List.mem_cons, List.not_mem_nil, or_false] at q ⊢; rcases q with q | q | q | q <;> simp [q])
    exact W.done s _ _ ⟨hz, hTI, ⟨x0, y0, hTO⟩, ⟨q1, p1⟩, ⟨q2, p2⟩⟩ fun h' tk hk => ⟨rfl, I.turnedL (t' := tk) (ch := [z, TI, TO, i1, i2]) (fun c o hc q => hk c o (sub c hc) q) hf⟩
  self := fun A i s Q E st h => wpAny_pyIter_zip st.1 h
def iZX (K : PySem.W.Frag) (ta : TA) : TI := fun σ H R => ta σ H fun vs H1 => ∃ k1 k2 a b xs ys, vs = [.ref a, .ref b] ∧ SqX K k1 H1 a xs ∧ SqX K k2 H1 b ys ∧ R (JZ K k1 k2 a b) H1
theorem pi_zipX {X : Cx} {e e2 : Expr} {ta : TA} {p pos tpos : Pos} {elts : List Expr} {kk : Nat} (hg : Gl X "zip") (hm : X.mg "zip" = none) (ha : PA X [e, e2] ta)
    (hs : starEach [e, e2] X.env = (false, eval e X.env) :: starEach [e2] X.env := by rfl) (hpl : (backTo pos (starEach [e2] X.env)).any (·.1) = false := by rfl) : PI X (.Tuple elts kk tpos) (.Call (.Name "zip" p) [e, e2] [] pos) (iZX X.K ta) := by
  refine ⟨fun pins s σ H R I h => Call_ (ld_blt I hg hm PyProof.Rows.boot_zip (PyProof.Rows.callWith_type1 (thn (ha.run pos pins s σ H _ I h) fun us s1 ⟨vs, H1, I1, r1, q1⟩ => ?_) hs hpl))⟩
  obtain ⟨k1, k2, a, b, xs, ys, ex, hqx, hqy, q⟩ := q1
  subst ex
  obtain ⟨u1, u2, rfl, r, r'⟩ := vals2 r1
  cases r
  cases r'
  obtain ⟨its, rv, p1⟩ := seqX I1 hqx
  obtain ⟨its2, rv2, p2⟩ := seqX I1 hqy
  refine zip_begins2 (beginsX k1 a its.toArray) (beginsX k2 b its2.toArray) p1 p2 fun h' hz hTI hTO h1 h2 hsz hk => wpAny_pyIter_zip hz ?_
  have I2 : Inv X pins σ H1 { s1 with heap := h' } := I1.kept (t' := s1.toks) hk
  have S : ZipSep2 (s1.heap.objs.size + 4) (s1.heap.objs.size + 2) (s1.heap.objs.size + 3) s1.heap.objs.size (s1.heap.objs.size + 1) [s1.heap.objs.size, a] [s1.heap.objs.size + 1, b] :=
    zip_sep2 (fp1 := [a]) (fp2 := [b]) (fun c hc => by rw [List.mem_singleton.mp hc]; exact p1.lt) (fun c hc => by rw [List.mem_singleton.mp hc]; exact p2.lt)
  have na : a ≠ s1.heap.objs.size := Nat.ne_of_lt p1.lt
  have nb : b ≠ s1.heap.objs.size + 1 := Nat.ne_of_lt (Nat.lt_succ_of_lt p2.lt)
  refine ⟨s1.heap.objs.size + 4, [s1.heap.objs.size + 4, s1.heap.objs.size + 2, s1.heap.objs.size + 3, s1.heap.objs.size, s1.heap.objs.size + 1], _, _, H1, rfl, I2, turn_zipX S na nb, ⟨hz, hTI, ⟨_, _, hTO⟩, .start h1, .start h2⟩, fun c hc => ?_, q⟩
  have hle : s1.heap.objs.size ≤ c := by
    simp only [List.mem_cons, List.not_mem_nil, or_false] at hc
    rcases hc with rfl | rfl | rfl | rfl | rfl
    · exact Nat.le_add_right _ 4
    · exact Nat.le_add_right _ 2
    · exact Nat.le_add_right _ 3
    · exact Nat.le_refl _
    · exact Nat.le_add_right _ 1
  exact I1.fpOk hle (I1.hok.fresh hle)
/-! ### enumerate -/
def JE (K : PySem.W.Frag) (k : Bool) (a : Addr) : It :=
  ⟨fun i H => ∃ (xs : List V) (x : V), SqX K k H a xs ∧ xs[i]? = some x,
   fun i H v H' => ∃ T x, v = .ref T ∧ H T = none ∧ H' = upd H T (.tup [.int (i : Nat), x]) ∧ ∀ xs, SqX K k H a xs → xs[i]? = some x,
   fun i H => ∃ xs : List V, SqX K k H a xs ∧ i = xs.length⟩
theorem turn_enumX {P : Program} {w : World} {K : PySem.W.Frag} {elts : List Expr} {kk : Nat} {tpos : Pos} {k : Bool} {a e it : Addr} (n0 : a ≠ it) (n1 : e ≠ it) (n2 : e ≠ a) :
    Turn P w K (.Tuple elts kk tpos) (JE K k a) [e, it] e (fun i h => (∃ old, IsEnum h e it (0 + (i : Int)) old) ∧ ItX k h it a i) where
  mem := by simp
  obj := fun i h ⟨⟨old, he⟩, q⟩ c hc => by
    simp only [List.mem_cons, List.not_mem_nil, or_false] at hc
    rcases hc with rfl | rfl
    · exact ⟨_, he, fun v q => by cases q⟩
    · exact q.obj
  keep := fun i h h' ⟨⟨old, he⟩, q⟩ k => ⟨⟨old, k e (by simp) _ he⟩, q.at (k it (by simp))⟩
  item := by
    intro X hP hw hK hc i pins s σ H E I hf st hg
    subst hP hw hK
    obtain ⟨⟨old, he⟩, q1⟩ := st
    obtain ⟨xs, x, hqx, hx⟩ := hg
    obtain ⟨its, rv, p1⟩ := seqX I hqx
    obtain ⟨u, hu, ru⟩ := rv.get hx
    have hh : X.A.in1.handled = none := I.ok.hd hc
    have W := WalksT.enumFrom 0 (drawsX (prog := X.prog) (w := X.w) hh k it a n0 its.toArray) e n1 (by simp only [List.mem_cons, List.not_mem_nil, or_false, not_or]; exact ⟨n1, n2⟩) (List.mem_cons_self ..)
    have l1 := (List.getElem?_eq_some_iff.mp hu).1
    refine W.item i s _ _ (by simp only [List.size_toArray]; omega) ⟨⟨old, he⟩, ⟨q1, p1⟩⟩ fun T vals h' tk ⟨t, v1, e1, ev⟩ hT hTup hm hk => ?_
    refine ⟨.ref T, rfl, W.go elts kk tpos i T { s with heap := h', toks := tk } _ _ hm fun h2 st2 hk2 => ?_⟩
    subst ev
    have ev1 : v1 = u := by
      have : its.toArray[i]? = some u := by simpa using hu
      rw [this] at e1; exact (Option.some.inj e1).symm
    subst ev1
    have hT2 : h2.IsTuple T #[.int (0 + (i : Int)) t, v1] := hTup.at fun o q => hk2 T o (W.apart i T h' hm) q
    have new : ObjOk X.prog X.w (upd H T (.tup [.int (i : Nat), x])) h2 T (.tup [.int (i : Nat), x]) := ⟨by show 2 ≤ sizeLine; decide, [.int (0 + (i : Int)) t, v1], .cons ⟨t, by rw [Int.zero_add]⟩ (.cons ru .nil), hT2⟩
    have I1 := I.turnedNew (t' := tk) (ch := [e, it]) (fun c o hc q => hk2 c o hc (hk c o hc q)) hf hT new
    obtain ⟨he2, ⟨a1, _⟩⟩ := st2
    refine ⟨.ref T, _, I1, rfl, ⟨T, x, rfl, I.hok.fresh hT, rfl, fun l hl => by rw [seqX_inj I hl hqx]; exact hx⟩, ⟨he2, a1⟩, fun c hcm => ?_⟩
    have hlt : c < s.heap.objs.size := by
      simp only [List.mem_cons, List.not_mem_nil, or_false] at hcm
      rcases hcm with rfl | rfl
      · exact Heap.lt_size he
      · obtain ⟨o, h, _⟩ := q1.obj; exact Heap.lt_size h
    rw [upd_ne (Nat.ne_of_lt (Nat.lt_of_lt_of_le hlt hT))]
    exact (hf c hcm).1
  done := by
    intro X hP hw hK hc i pins s σ H E I hf st hg
    subst hP hw hK
    obtain ⟨⟨old, he⟩, q1⟩ := st
    obtain ⟨xs, hqx, hi⟩ := hg
    obtain ⟨its, rv, p1⟩ := seqX I hqx
    have hh : X.A.in1.handled = none := I.ok.hd hc
    have W := WalksT.enumFrom 0 (drawsX (prog := X.prog) (w := X.w) hh k it a n0 its.toArray) e n1 (by simp only [List.mem_cons, List.not_mem_nil, or_false, not_or]; exact ⟨n1, n2⟩) (List.mem_cons_self ..)
    have e' : i = its.toArray.size := by rw [List.size_toArray, ← rv.length]; exact hi
    subst e'
    exact W.done s _ _ ⟨⟨old, he⟩, ⟨q1, p1⟩⟩ fun h' tk hk => ⟨rfl, I.turnedL (t' := tk) (ch := [e, it]) (fun c o hc q => hk c o hc q) hf⟩
  self := fun A i s Q E ⟨⟨_, he⟩, _⟩ h => wpAny_pyIter_enum he h
def iEX (K : PySem.W.Frag) (ta : TA) : TI := fun σ H R => ta σ H fun vs H1 => ∃ k a xs, vs = [.ref a] ∧ SqX K k H1 a xs ∧ R (JE K k a) H1
theorem pi_enumX {X : Cx} {e : Expr} {ta : TA} {p pos tpos : Pos} {elts : List Expr} {kk : Nat} (hg : Gl X "enumerate") (hm : X.mg "enumerate" = none) (ha : PA X [e] ta) (hs : starEach [e] X.env = [(false, eval e X.env)] := by rfl) :
    PI X (.Tuple elts kk tpos) (.Call (.Name "enumerate" p) [e] [] pos) (iEX X.K ta) := by
  refine ⟨fun pins s σ H R I h => Call_ (ld_blt I hg hm boot_enumerate (PyProof.Rows.callWith_type1 (thn (ha.run pos pins s σ H _ I h) fun us s1 ⟨vs, H1, I1, r1, q1⟩ => ?_) hs rfl))⟩
  obtain ⟨k, a, xs, ex, hqx, q⟩ := q1
  subst ex
  obtain ⟨u1, rfl, r⟩ := vals1 r1
  cases r
  obtain ⟨its, rv, p1⟩ := seqX I1 hqx
  refine enum_begins1 (beginsX k a its.toArray) p1 fun h' he h1 hk => wpAny_pyIter_enum he ?_
  have I2 : Inv X pins σ H1 { s1 with heap := h' } := I1.kept (t' := s1.toks) hk
  have na : a ≠ s1.heap.objs.size := Nat.ne_of_lt p1.lt
  have ne : s1.heap.objs.size + 1 ≠ s1.heap.objs.size := Nat.succ_ne_self _
  have nb : s1.heap.objs.size + 1 ≠ a := Nat.ne_of_gt (Nat.lt_succ_of_lt p1.lt)
  refine ⟨s1.heap.objs.size + 1, [s1.heap.objs.size + 1, s1.heap.objs.size], _, _, H1, rfl, I2, turn_enumX na ne nb, ⟨⟨.none, he⟩, .start h1⟩, fun c hc => ?_, q⟩
  have hle : s1.heap.objs.size ≤ c := by
    simp only [List.mem_cons, List.not_mem_nil, or_false] at hc
    rcases hc with rfl | rfl
    · exact Nat.le_add_right _ 1
    · exact Nat.le_refl _
  exact I1.fpOk hle (I1.hok.fresh hle)

/-! ### on data -/
def zipD (xs ys : List PyData) : List PyData := (xs.zip ys).map fun p => .tuple [p.1, p.2]
def enumD (xs : List PyData) : List PyData := xs.zipIdx.map fun p => .tuple [.int (p.2 : Nat), p.1]
theorem zipD_get {xs ys : List PyData} {i : Nat} {d : PyData} (h : (zipD xs ys)[i]? = some d) : ∃ x y, xs[i]? = some x ∧ ys[i]? = some y ∧ d = .tuple [x, y] := by
  unfold zipD at h
  rw [List.getElem?_map] at h
  cases q : (xs.zip ys)[i]? with
  | none => rw [q] at h; cases h
  | some p =>
    rw [q] at h
    cases h
    obtain ⟨h1, h2⟩ := (List.getElem?_zip_eq_some).mp q
    exact ⟨_, _, h1, h2, rfl⟩
theorem zipD_len (xs ys : List PyData) : (zipD xs ys).length = min xs.length ys.length := by unfold zipD; rw [List.length_map, List.length_zip]
theorem enumD_len (xs : List PyData) : (enumD xs).length = xs.length := by unfold enumD; rw [List.length_map, List.length_zipIdx]
theorem enumD_get {xs : List PyData} {i : Nat} {d : PyData} (h : (enumD xs)[i]? = some d) : ∃ x, xs[i]? = some x ∧ d = .tuple [.int (i : Nat), x] := by
  unfold enumD at h
  rw [List.getElem?_map, List.getElem?_zipIdx] at h
  cases q : xs[i]? with
  | none => rw [q] at h; cases h
  | some x => rw [q] at h; cases h; exact ⟨x, rfl, by simp⟩
/-- a list or a tuple, and its items -/
theorem seq_of {K : PySem.W.Frag} {L : Fn} {Hf H : Hp} {v : V} {d : PyData} {xs : List PyData} (ex : Ex Hf H) (h : Dd L Hf v d) (hx : itemsD d = some xs) : ∃ k a vs, v = .ref a ∧ SqX K k H a vs ∧ DdAll L Hf vs xs ∧ ∀ H', Ex Hf H' → SqX K k H' a vs := by
  unfold itemsD at hx
  split at hx
  · cases hx
    cases h with
    | @lst a vs _ h1 h2 => exact ⟨true, a, vs, rfl, SqL.of (ex _ _ h1), h2, fun H' e => SqL.of (e _ _ h1)⟩
  · cases hx
    cases h with
    | @tup a vs _ h1 h2 => exact ⟨false, a, vs, rfl, SqT.of (ex _ _ h1), h2, fun H' e => SqT.of (e _ _ h1)⟩
  · cases hx
section
variable {X : Cx} {G : Fx} {e e2 : Expr} {tl : DTL} {n : Nat} {p pos tpos : Pos} {elts : List Expr} {kk : Nat}
def tZipI (tl : DTL) : DTL := fun ρ Q => tl ρ fun ds ρ' => match ds with
  | [d1, d2] => opt (itemsD d1) fun xs => opt (itemsD d2) fun ys => Q (zipD xs ys) ρ'
  | _ => False
theorem di_zip (hg : Gl X "zip") (hm : X.mg "zip" = none) (ha : DD X G [e, e2] n tl)
    (hs : starEach [e, e2] X.env = (false, eval e X.env) :: starEach [e2] X.env := by rfl) (hpl : (backTo pos (starEach [e2] X.env)).any (·.1) = false := by rfl) : DI X G (.Tuple elts kk tpos) (.Call (.Name "zip" p) [e, e2] [] pos) (tZipI tl) :=
  pi_imp (pi_zipX hg hm ha hs hpl) fun σ H Q ⟨Hf, ω, ρ, Qd, rep, ht, k⟩ => by
  refine ⟨Hf, ω, ρ, _, rep, ht, fun vs H1 Hf1 ω1 ρ1 ds hl rep1 st1 hv q1 => ?_⟩
  match ds, hv, q1 with
  | [d1, d2], hv, q1 =>
    obtain ⟨xs, hx, q1⟩ := opt_of q1
    obtain ⟨ys, hy, q1⟩ := opt_of q1
    obtain ⟨v, w, rfl, g1, g2⟩ := hv.two
    obtain ⟨k1, a, us, rfl, s1, c1, m1⟩ := seq_of (K := X.K) rep1.ex g1 hx
    obtain ⟨k2, b, ws, rfl, s2, c2, m2⟩ := seq_of (K := X.K) rep1.ex g2 hy
    refine ⟨k1, k2, a, b, us, ws, rfl, s1, s2, k _ _ _ _ _ _ rep1 st1 ⟨fun i H' hi ex => ?_, fun H' ex => ?_, fun i Hf' H' x H2 d hd e1 e2 y => ?_⟩ q1⟩
    · rw [zipD_len] at hi
      have a1 : i < us.length := by rw [c1.len]; omega
      have a2 : i < ws.length := by rw [c2.len]; omega
      exact ⟨us, ws, us[i], ws[i], m1 H' ex, m2 H' ex, List.getElem?_eq_getElem a1, List.getElem?_eq_getElem a2⟩
    · exact ⟨us, ws, m1 H' ex, m2 H' ex, by rw [zipD_len, c1.len, c2.len]⟩
    · obtain ⟨T, vx, vy, rfl, nT, rfl, y1, y2⟩ := y
      obtain ⟨x1, x2, hx1, hx2, rfl⟩ := zipD_get hd
      obtain ⟨w1, hw1, hd1⟩ := c1.get hx1
      obtain ⟨w2, hw2, hd2⟩ := c2.get hx2
      have t1 := y1 us (m1 H' (e1.trans e2))
      have t2 := y2 ws (m2 H' (e1.trans e2))
      rw [hw1] at t1
      rw [hw2] at t2
      cases t1
      cases t2
      have g : Grw Hf' H' _ _ := .new (o := .tup [vx, vy]) e2 nT
      exact ⟨_, g, .tup upd_same (.cons ((e1.trans g.fz).dp hd1) (.cons ((e1.trans g.fz).dp hd2) .nil))⟩
  | [], _, q1 => exact q1.elim
  | [_], _, q1 => exact q1.elim
  | _ :: _ :: _ :: _, _, q1 => exact q1.elim
def tEnI (tl : DTL) : DTL := fun ρ Q => tl ρ fun ds ρ' => match ds with
  | [d] => opt (itemsD d) fun xs => Q (enumD xs) ρ'
  | _ => False
theorem di_enum (hg : Gl X "enumerate") (hm : X.mg "enumerate" = none) (ha : DD X G [e] n tl) (hs : starEach [e] X.env = [(false, eval e X.env)] := by rfl) :
    DI X G (.Tuple elts kk tpos) (.Call (.Name "enumerate" p) [e] [] pos) (tEnI tl) :=
  pi_imp (pi_enumX hg hm ha hs) fun σ H Q ⟨Hf, ω, ρ, Qd, rep, ht, k⟩ => by
  refine ⟨Hf, ω, ρ, _, rep, ht, fun vs H1 Hf1 ω1 ρ1 ds hl rep1 st1 hv q1 => ?_⟩
  match ds, hv, q1 with
  | [d1], hv, q1 =>
    obtain ⟨xs, hx, q1⟩ := opt_of q1
    obtain ⟨v, rfl, g1⟩ := hv.one
    obtain ⟨k1, a, us, rfl, s1, c1, m1⟩ := seq_of (K := X.K) rep1.ex g1 hx
    refine ⟨k1, a, us, rfl, s1, k _ _ _ _ _ _ rep1 st1 ⟨fun i H' hi ex => ?_, fun H' ex => ?_, fun i Hf' H' x H2 d hd e1 e2 y => ?_⟩ q1⟩
    · rw [enumD_len] at hi
      have a1 : i < us.length := by rw [c1.len]; omega
      exact ⟨us, us[i], m1 H' ex, List.getElem?_eq_getElem a1⟩
    · exact ⟨us, m1 H' ex, by rw [enumD_len, c1.len]⟩
    · obtain ⟨T, vx, rfl, nT, rfl, y1⟩ := y
      obtain ⟨x1, hx1, rfl⟩ := enumD_get hd
      obtain ⟨w1, hw1, hd1⟩ := c1.get hx1
      have t1 := y1 us (m1 H' (e1.trans e2))
      rw [hw1] at t1
      cases t1
      have g : Grw Hf' H' _ _ := .new (o := .tup [.int (i : Nat), vx]) e2 nT
      exact ⟨_, g, .tup upd_same (.cons (.int _) (.cons ((e1.trans g.fz).dp hd1) .nil))⟩
  | [], _, q1 => exact q1.elim
  | _ :: _ :: _, _, q1 => exact q1.elim
end
end DL

namespace DL
open PySem PySem.Spec PyProof.Rows L2

/-! ### built-in names -/
structure LOk (L : Fn) : Prop where
  t_int : L "int" = some (.ty "int")
  t_bool : L "bool" = some (.ty "bool")
  t_str : L "str" = some (.ty "str")
  t_tuple : L "tuple" = some (.ty "tuple")
  t_list : L "list" = some (.ty "list")
theorem bt_len : bootBuiltins "len" = some (.builtin "len") := PySem.boot_len
theorem bt_max : bootBuiltins "max" = some (.builtin "max") := by first | exact PyProof.Rows.boot_max | exact PySem.boot_max | decide +kernel
theorem bt_min : bootBuiltins "min" = some (.builtin "min") := by first | exact PyProof.Rows.boot_min | exact PySem.boot_min | decide +kernel
theorem bt_sum : bootBuiltins "sum" = some (.builtin "sum") := by first | exact PyProof.Rows.boot_sum | exact PySem.boot_sum | decide +kernel
theorem bt_all : bootBuiltins "all" = some (.builtin "all") := by first | exact PyProof.Rows.boot_all | exact PySem.boot_all | decide +kernel
theorem bt_isinstance : bootBuiltins "isinstance" = some (.builtin "isinstance") := by first | exact PyProof.Rows.boot_isinstance | exact PySem.boot_isinstance | decide +kernel
theorem bt_int : bootBuiltins "int" = some (.type "int") := by first | exact PyProof.Rows.boot_int | exact PySem.boot_int | decide +kernel
theorem bt_bool : bootBuiltins "bool" = some (.type "bool") := by first | exact PyProof.Rows.boot_bool | exact PySem.boot_bool | decide +kernel
theorem bt_str : bootBuiltins "str" = some (.type "str") := by first | exact PyProof.Rows.boot_str | exact PySem.boot_str | decide +kernel
theorem bt_tuple : bootBuiltins "tuple" = some (.type "tuple") := by first | exact PyProof.Rows.boot_tuple | exact PySem.boot_tuple | decide +kernel
theorem bt_list : bootBuiltins "list" = some (.type "list") := by first | exact PyProof.Rows.boot_list | exact PySem.boot_list | decide +kernel
section
variable {X : Cx} {G : Fx} {a : Expr} {ta : DTE} {pa : DTP} {pos : Pos}
/-! -a; list(range(..)) -/
def tNeg (t : DTE) : DTE := fun ρ Q => t ρ fun z ρ' => isI z fun i => Q (.int (-i)) ρ'
def tNegP (t : DTP) : DTP := fun ρ Q => t ρ fun z => isI z fun i => Q (.int (-i))
theorem de_neg (h : DE X G a ta) : DE X G (.UnaryOp .USub a pos) (tNeg ta) := pe_imp (pe_un un_neg h) fun σ H Q ⟨Hf, ω, ρ, Qd, rep, ht, k⟩ =>
  ⟨Hf, ω, ρ, _, rep, ht, fun v H1 Hf1 ω1 ρ1 d rep1 st1 hv q1 => by
    obtain ⟨i, rfl, q⟩ := isI_of q1
    exact ⟨i, hv.isint, k _ _ _ _ _ _ rep1 st1 (.int _) q⟩⟩
theorem dv_neg (h : DP X G a pa) : DP X G (.UnaryOp .USub a pos) (tNegP pa) := pe_imp (pe_un un_neg h) fun σ H Q ⟨Hf, ω, ρ, Qd, rep, ht, k⟩ =>
  ⟨Hf, ω, ρ, _, rep, ht, fun v H1 d ex hv q1 => by
    obtain ⟨i, rfl, q⟩ := isI_of q1
    exact ⟨i, hv.isint, k _ _ _ ex (.int _) q⟩⟩
theorem rgV_dd {L : Fn} {H : Hp} (n : Int) : DdAll L H (rgV 0 n) (rngD 0 n.toNat) := by
  unfold rgV rngD
  rw [show (n - 0).toNat = n.toNat by omega]
  induction (List.range n.toNat) with
  | nil => exact .nil
  | cons x r ih => exact .cons (.int _) ih
def tListRg (t : DTE) : DTR := fun ρ Q => t ρ fun z ρ' => isI z fun n => n ≤ 100000 ∧ -100000 ≤ n ∧ Q (.ls (rngD 0 n.toNat)) ρ'
theorem dr_listRg {p p2 pos2 : Pos} (hc : X.calm = true) (hm : X.mg "list" = none) (hm2 : X.mg "range" = none) (h : DE X G a ta) (hg : Gl X "list" := by rfl) (hg2 : Gl X "range" := by rfl)
    (na : starEach [.Call (.Name "range" p2) [a] [] pos2] X.env = (false, eval (.Call (.Name "range" p2) [a] [] pos2) X.env) :: starEach [] X.env := by rfl) (nb : starEach [a] X.env = (false, eval a X.env) :: starEach [] X.env := by rfl) :
    DR X G (.Call (.Name "list" p) [.Call (.Name "range" p2) [a] [] pos2] [] pos) (tListRg ta) := pe_imp (pe_listRg hc hg hm (prg_1 hg2 hm2 h nb) na) fun σ H Q ⟨Hf, ω, ρ, Qd, rep, ht, k⟩ =>
  ⟨Hf, ω, ρ, _, rep, ht, fun v H1 Hf1 ω1 ρ1 d rep1 st1 hv q1 => by
    obtain ⟨n, rfl, c1, c2, q⟩ := isI_of q1
    refine ⟨n, hv.isint, ⟨by omega, by omega, by omega, by omega, by omega⟩, fun p hp => ?_⟩
    obtain ⟨r2, s2, f2, v2⟩ := lay_ls (G := G) rep1 hp (rgV_dd n)
    refine k _ _ _ _ _ _ _ r2 (st1.trans s2) (fun b hb => ?_) v2 q
    obtain ⟨z1, z2, z3, z4⟩ := f2 b hb
    refine ⟨.inl ?_, z2, z3, z4⟩
    cases w : H b with
    | none => rfl
    | some o => obtain ⟨o', h'⟩ := st1.keep b o w; rw [z1] at h'; cases h'⟩
end

/-! ### typed data -/
theorem lay_none : PyData.canLay0 .none = true := by rw [PyData.canLay0]
theorem lay_bool (b : Bool) : PyData.canLay0 (.bool b) = true := by rw [PyData.canLay0]
theorem lay_int (i : Int) : PyData.canLay0 (.int i) = true := by rw [PyData.canLay0]
theorem lay_line : PyData.canLay0 (.str "line") = true := by rw [PyData.canLay0]; decide +kernel
theorem lay_side : PyData.canLay0 (.str "side") = true := by rw [PyData.canLay0]; decide +kernel
theorem lay_all {ds : List PyData} (h : ∀ d ∈ ds, d.canLay0 = true) : PyData.canLayAll0 ds = true := by
  induction ds with
  | nil => rw [PyData.canLayAll0]
  | cons d r ih => rw [PyData.canLayAll0, h d List.mem_cons_self, ih fun e he => h e (List.mem_cons_of_mem _ he)]; rfl
theorem dep_all {ds : List PyData} {n : Nat} (h : ∀ d ∈ ds, d.depth ≤ n) : PyData.depthAll ds ≤ n := by
  induction ds with
  | nil => rw [PyData.depthAll]; exact Nat.zero_le _
  | cons d r ih => rw [PyData.depthAll]; exact Nat.max_le.mpr ⟨h d List.mem_cons_self, ih fun e he => h e (List.mem_cons_of_mem _ he)⟩
/-- fit for ==, n deep at most -/
def Fit (n : Nat) (d : PyData) : Prop := d.canLay0 = true ∧ d.depth ≤ n
theorem Fit.shaped {n : Nat} {d : PyData} (h : Fit n d) (hn : n ≤ 64 := by decide) : SeqAt.shaped d = true := by
  show (d.canLay0 && decide (d.depth ≤ 64)) = true
  rw [h.1, decide_eq_true (Nat.le_trans h.2 hn)]; rfl
theorem fit_none {n : Nat} : Fit n .none := ⟨lay_none, by rw [PyData.depth]; exact Nat.zero_le _⟩
theorem fit_bool {n : Nat} (b : Bool) : Fit n (.bool b) := ⟨lay_bool b, by rw [PyData.depth]; exact Nat.zero_le _⟩
theorem fit_int {n : Nat} (i : Int) : Fit n (.int i) := ⟨lay_int i, by rw [PyData.depth]; exact Nat.zero_le _⟩
theorem fit_line {n : Nat} : Fit n (.str "line") := ⟨lay_line, by rw [PyData.depth]; exact Nat.zero_le _⟩
theorem fit_side {n : Nat} : Fit n (.str "side") := ⟨lay_side, by rw [PyData.depth]; exact Nat.zero_le _⟩
theorem fit_list {n : Nat} {ds : List PyData} (h : ∀ d ∈ ds, Fit n d) : Fit (n + 1) (.list ds) := ⟨by rw [PyData.canLay0]; exact lay_all fun d hd => (h d hd).1, by rw [PyData.depth]; have := dep_all fun d hd => (h d hd).2; omega⟩
theorem fit_tuple {n : Nat} {ds : List PyData} (h : ∀ d ∈ ds, Fit n d) : Fit (n + 1) (.tuple ds) := ⟨by rw [PyData.canLay0]; exact lay_all fun d hd => (h d hd).1, by rw [PyData.depth]; have := dep_all fun d hd => (h d hd).2; omega⟩
theorem eqD_fit {n : Nat} {d e : PyData} (h : Fit n d) (k : Fit n e) (hn : n ≤ 64 := by decide) : eqD d e = some (.bool (PyData.eqv d e)) := if_pos ⟨h.shaped hn, k.shaped hn⟩
theorem neD_fit {n : Nat} {d e : PyData} (h : Fit n d) (k : Fit n e) (hn : n ≤ 64 := by decide) : neD d e = some (.bool (!PyData.eqv d e)) := if_pos ⟨h.shaped hn, k.shaped hn⟩
/-- a Lean type told as data: == is = -/
class Enc (α : Type) where
  d : α → PyData
  n : Nat
  fit : ∀ x, Fit n (d x)
  eqv : ∀ x y, PyData.eqv (d x) (d y) = true ↔ x = y
theorem Fit.mono {n m : Nat} {d : PyData} (h : Fit n d) (k : n ≤ m) : Fit m d := ⟨h.1, Nat.le_trans h.2 k⟩
instance : Enc Int := ⟨.int, 0, fun i => fit_int i, fun x y => by rw [PyData.eqv]; exact beq_iff_eq⟩
instance : Enc Bool := ⟨.bool, 0, fun i => fit_bool i, fun x y => by rw [PyData.eqv]; exact beq_iff_eq⟩
theorem eqvAll_enc {α : Type} [Enc α] : ∀ xs ys : List α, PyData.eqvAll (xs.map Enc.d) (ys.map Enc.d) = true ↔ xs = ys
  | [], [] => by simp [PyData.eqvAll]
  | [], y :: ys => by simp [PyData.eqvAll]
  | x :: xs, [] => by simp [PyData.eqvAll]
  | x :: xs, y :: ys => by
    rw [List.map_cons, List.map_cons, PyData.eqvAll, Bool.and_eq_true, Enc.eqv, eqvAll_enc xs ys, List.cons.injEq]
instance {α : Type} [Enc α] : Enc (List α) := ⟨fun xs => .list (xs.map Enc.d), Enc.n α + 1, fun xs => fit_list fun d hd => by obtain ⟨x, _, rfl⟩ := List.mem_map.mp hd; exact Enc.fit x,
  fun x y => by rw [PyData.eqv]; exact eqvAll_enc x y⟩
/-- a tuple of things of one kind -/
structure Tp (α : Type) where
  l : List α
  deriving DecidableEq
instance {α : Type} [Enc α] : Enc (Tp α) := ⟨fun xs => .tuple (xs.l.map Enc.d), Enc.n α + 1, fun xs => fit_tuple fun d hd => by obtain ⟨x, _, rfl⟩ := List.mem_map.mp hd; exact Enc.fit x,
  fun x y => by
    rw [PyData.eqv, eqvAll_enc]
    cases x; cases y; simp⟩
instance {α β : Type} [Enc α] [Enc β] : Enc (α × β) := ⟨fun p => .tuple [Enc.d p.1, Enc.d p.2], max (Enc.n α) (Enc.n β) + 1, fun p => fit_tuple fun d hd => by
    simp only [List.mem_cons, List.not_mem_nil, or_false] at hd
    rcases hd with rfl | rfl
    · exact (Enc.fit p.1).mono (Nat.le_max_left _ _)
    · exact (Enc.fit p.2).mono (Nat.le_max_right _ _),
  fun x y => by
    rw [PyData.eqv, PyData.eqvAll, PyData.eqvAll, PyData.eqvAll, Bool.and_eq_true, Bool.and_eq_true, Enc.eqv, Enc.eqv]
    obtain ⟨a, b⟩ := x
    obtain ⟨c, d⟩ := y
    simp⟩
instance : Enc (Option Bool) := ⟨fun o => match o with | none => .none | some b => .bool b, 0, fun o => by cases o; exact fit_none; exact fit_bool _, fun x y => by
  cases x <;> cases y <;> simp [PyData.eqv]⟩
instance : Enc (Option Int) := ⟨fun o => match o with | none => .none | some b => .int b, 0, fun o => by cases o; exact fit_none; exact fit_int _, fun x y => by
  cases x <;> cases y <;> simp [PyData.eqv]⟩
/-- a rule: line (else side), charges, pause -/
structure Rl where
  ln : Bool
  c : Int
  p : Int
  deriving DecidableEq
def kD (b : Bool) : PyData := .str (if b = true then "line" else "side")
theorem fit_kD {n : Nat} (b : Bool) : Fit n (kD b) := by cases b; exact fit_side; exact fit_line
theorem eqv_kD (a b : Bool) : PyData.eqv (kD a) (kD b) = decide (a = b) := by
  cases a <;> cases b <;> (unfold kD; rw [PyData.eqv]; decide +kernel)
instance : Enc Rl := ⟨fun r => .tuple [kD r.ln, .int r.c, .int r.p], 1, fun r => fit_tuple fun d hd => by
    simp only [List.mem_cons, List.not_mem_nil, or_false] at hd
    rcases hd with rfl | rfl | rfl
    · exact fit_kD _
    · exact fit_int _
    · exact fit_int _,
  fun x y => by
    obtain ⟨a, b, c⟩ := x
    obtain ⟨a', b', c'⟩ := y
    rw [PyData.eqv, PyData.eqvAll, PyData.eqvAll, PyData.eqvAll, PyData.eqvAll, eqv_kD, PyData.eqv, PyData.eqv]
    simp⟩
section
variable {α : Type} [Enc α] [DecidableEq α]
theorem enc_eqv (x y : α) : PyData.eqv (Enc.d x) (Enc.d y) = decide (x = y) := by
  rw [Bool.eq_iff_iff, Enc.eqv, decide_eq_true_iff]
theorem eqD_enc (x y : α) (h : Enc.n α ≤ 64 := by decide) : eqD (Enc.d x) (Enc.d y) = some (.bool (decide (x = y))) := by rw [eqD_fit (Enc.fit x) (Enc.fit y) h, enc_eqv]
theorem neD_enc (x y : α) (h : Enc.n α ≤ 64 := by decide) : neD (Enc.d x) (Enc.d y) = some (.bool (!decide (x = y))) := by rw [neD_fit (Enc.fit x) (Enc.fit y) h, enc_eqv]
end
/-! ### steps of a reading -/
theorem opt_if {α : Type} {c : Prop} [Decidable c] {a : α} {k : α → Prop} (h : c) (q : k a) : opt (if c then some a else none) k := by rw [if_pos h]; exact q
theorem start0_eq {N : List Str} {rs : List Res} {ρ : DSt} (h : ρ = rs.map some ++ List.replicate (N.length - rs.length) none) : start0 N rs = ρ := h.symm
theorem addD_i (i j : Int) : addD (.int i) (.int j) = some (.int (i + j)) := rfl
theorem subD_i (i j : Int) : subD (.int i) (.int j) = some (.int (i - j)) := rfl
theorem cmpI_i (g : Int → Int → Bool) (i j : Int) : cmpI g (.int i) (.int j) = some (.bool (g i j)) := rfl
theorem max2_i (i j : Int) : max2D [.int i, .int j] = some (.int (max i j)) := rfl
theorem min2_i (i j : Int) : min2D [.int i, .int j] = some (.int (min i j)) := rfl
theorem len_l (xs : List PyData) : lenD [.list xs] = some (.int xs.length) := rfl
theorem len_t (xs : List PyData) : lenD [.tuple xs] = some (.int xs.length) := rfl
theorem items_l (xs : List PyData) : itemsD (.list xs) = some xs := rfl
theorem items_t (xs : List PyData) : itemsD (.tuple xs) = some xs := rfl
theorem tuple_l (xs : List PyData) : tupleD [.list xs] = some (.tuple xs) := rfl
theorem tuple_t (xs : List PyData) : tupleD [.tuple xs] = some (.tuple xs) := rfl
theorem list_l (xs : List PyData) : listD [.list xs] = some (.list xs) := rfl
theorem list_t (xs : List PyData) : listD [.tuple xs] = some (.list xs) := rfl
theorem eqD_k (b : Bool) : eqD (kD b) (.str "line") = some (.bool b) := by
  have := eqD_fit (fit_kD (n := 0) b) (fit_kD (n := 0) true)
  rw [eqv_kD] at this
  rw [show (PyData.str "line") = kD true from rfl, this]
  cases b <;> rfl
theorem eqD_k' (b : Bool) : eqD (kD b) (.str "side") = some (.bool (!b)) := by
  have := eqD_fit (fit_kD (n := 0) b) (fit_kD (n := 0) false)
  rw [eqv_kD] at this
  rw [show (PyData.str "side") = kD false from rfl, this]
  cases b <;> rfl
theorem eqD_i (i j : Int) : eqD (.int i) (.int j) = some (.bool (decide (i = j))) := eqD_enc i j
theorem neD_i (i j : Int) : neD (.int i) (.int j) = some (.bool (!decide (i = j))) := neD_enc i j
theorem eqD_b (i j : Bool) : eqD (.bool i) (.bool j) = some (.bool (decide (i = j))) := eqD_enc i j
theorem neD_b (i j : Bool) : neD (.bool i) (.bool j) = some (.bool (!decide (i = j))) := neD_enc i j
theorem eqD_tI (xs ys : List Int) : eqD (.tuple (xs.map .int)) (.tuple (ys.map .int)) = some (.bool (decide (xs = ys))) := by
  have : eqD (.tuple (xs.map .int)) (.tuple (ys.map .int)) = some (.bool (decide (Tp.mk xs = Tp.mk ys))) := eqD_enc (Tp.mk xs) (Tp.mk ys) (by decide)
  rw [this]; simp
theorem neD_tI (xs ys : List Int) : neD (.tuple (xs.map .int)) (.tuple (ys.map .int)) = some (.bool (!decide (xs = ys))) := by
  have : neD (.tuple (xs.map .int)) (.tuple (ys.map .int)) = some (.bool (!decide (Tp.mk xs = Tp.mk ys))) := neD_enc (Tp.mk xs) (Tp.mk ys) (by decide)
  rw [this]; simp
end DL

namespace DL
open PySem PySem.Spec PyProof.Rows L2

/-! ### the script -/
def lenS : List PyData → Option PyData
  | [.dict [(_, .list xs)]] => some (.int xs.length)
  | _ => none
def ixS (d e : PyData) : Option PyData := match d, e with
  | .dict [(_, .list xs)], .int i => atI xs i
  | _, _ => none
theorem Dd.isscr {L : Fn} {H : Hp} {v : V} {k : PyData} {ds : List PyData} (h : Dd L H v (.dict [(k, .list ds)])) : ∃ a vs, v = .ref a ∧ (Rd H a (.lst vs) ∨ L.own a vs) ∧ DdAll L H vs ds := by
  generalize e : (PyData.dict [(k, .list ds)]) = d at h
  cases h <;> cases e
  exact ⟨_, _, rfl, by assumption, by assumption⟩
theorem cLenS {K : PySem.W.Frag} {L : Fn} (ho : ∀ a vs H, L.own a vs → SqL K H a vs) : RCD L (fun xs H Q => ∃ p ys, xs = [.ref p] ∧ (SqL K H p ys ∨ SqT K H p ys) ∧ Q (.int ys.length) H) lenS := by
  intro xs ds z Hf H Q ex hv hz k
  unfold lenS at hz
  split at hz
  · cases hz
    obtain ⟨v, rfl, h⟩ := hv.one
    obtain ⟨a, vs, rfl, h1, h2⟩ := h.isscr
    exact ⟨a, vs, rfl, .inl (h1.elim (fun q => .inl (ex.rd q)) fun q => ho _ _ _ q), k _ _ _ (.refl ex) (by rw [h2.len]; exact .int _)⟩
  · cases hz
theorem dIxS {K : PySem.W.Frag} {L : Fn} (ho : ∀ a vs H, L.own a vs → SqL K H a vs) : R2D L (rIx K) ixS := by
  intro x y d e z Hf H Q ex hx hy hz k
  unfold ixS at hz
  split at hz
  · rename_i xs i
    obtain ⟨a, vs, rfl, h1, h2⟩ := hx.isscr
    obtain ⟨v, e1, e2⟩ := atI_all (i := i) (z := z) h2 hz
    exact .inl ⟨a, vs, i, v, rfl, hy.isint, h1.elim (fun q => .inl (ex.rd q)) (fun q => ho _ _ _ q), e1, k _ _ _ (.refl ex) e2⟩
  · cases hz

/-! ### nested lists -/
section
variable {K : Fn} {Hf H : Hp} {o : Own}
theorem NlAll.upd {j : Nat} {ds : List PyData} : ∀ {ps : List Addr} {vs : List V} {xs : List (PyData ⊕ List PyData)} {j : Nat} {ds : List PyData}, NlAll K Hf H o ps vs xs → xs[j]? = some (.inr ds) →
    ∃ p ws, vs[j]? = some (.ref p) ∧ p ∈ ps ∧ o p ∧ H p = some (.lst ws) ∧ DdAll K Hf ws ds ∧ ∀ ws' ds', DdAll K Hf ws' ds' → NlAll K Hf (L2.upd H p (.lst ws')) o ps vs (xs.set j (.inr ds'))
  | _, _, _, _, _, .nil, e => by simp at e
  | _, _, _, 0, _, .dat _ _, e => by simp at e
  | _, _, _, j + 1, ds, .dat h t, e => by
    obtain ⟨p, ws, a1, a2, a3, a4, a5, a6⟩ := NlAll.upd (j := j) (ds := ds) t (by simpa using e)
    exact ⟨p, ws, by simpa using a1, a2, a3, a4, a5, fun ws' ds' q => .dat h (a6 ws' ds' q)⟩
  | _, _, _, 0, _, .sub (p := p) (ws := ws) h1 h2 h3 h4 t, e => by
    simp at e
    subst e
    refine ⟨p, ws, rfl, List.mem_cons_self, h1, h2, h3, fun ws' ds' q => .sub h1 upd_same q h4 (t.mono (Ex.refl _) (fun b hb _ => ?_) fun _ _ w => w)⟩
    rw [upd_ne (fun z => h4 (by rw [← z]; exact hb))]
  | _, _, _, j + 1, ds, .sub h1 h2 h3 h4 t, e => by
    obtain ⟨p', ws, a1, a2, a3, a4, a5, a6⟩ := NlAll.upd (j := j) (ds := ds) t (by simpa using e)
    refine ⟨p', ws, by simpa using a1, List.mem_cons_of_mem _ a2, a3, a4, a5, fun ws' ds' q => .sub h1 ?_ h3 h4 (a6 ws' ds' q)⟩
    rw [upd_ne (fun z => h4 (by rw [z]; exact a2))]; exact h2
theorem NlAll.put {v : V} {d : PyData} (q : Dd K Hf v d) : ∀ {ps : List Addr} {vs : List V} {xs : List (PyData ⊕ List PyData)} {j : Nat} {d0 : PyData}, NlAll K Hf H o ps vs xs → xs[j]? = some (.inl d0) →
    NlAll K Hf H o ps (vs.set j v) (xs.set j (.inl d))
  | _, _, _, _, _, .nil, e => by simp at e
  | _, _, _, 0, _, .dat _ t, e => .dat q t
  | _, _, _, j + 1, d0, .dat h t, e => .dat h (NlAll.put q (j := j) (d0 := d0) t (by simpa using e))
  | _, _, _, 0, _, .sub _ _ _ _ _, e => by simp at e
  | _, _, _, j + 1, d0, .sub h1 h2 h3 h4 t, e => .sub h1 h2 h3 h4 (NlAll.put q (j := j) (d0 := d0) t (by simpa using e))
theorem NlAll.snoc {p : Addr} {ws : List V} {ds : List PyData} (h1 : o p) (h2 : H p = some (.lst ws)) (h3 : DdAll K Hf ws ds) : ∀ {ps : List Addr} {vs : List V} {xs : List (PyData ⊕ List PyData)}, NlAll K Hf H o ps vs xs → p ∉ ps →
    NlAll K Hf H o (ps ++ [p]) (vs ++ [.ref p]) (xs ++ [.inr ds])
  | _, _, _, .nil, _ => .sub h1 h2 h3 (by simp) .nil
  | _, _, _, .dat h t, n => .dat h (NlAll.snoc h1 h2 h3 t n)
  | _, _, _, .sub a1 a2 a3 a4 t, n => .sub a1 a2 a3 (fun z => by
      rcases List.mem_append.mp z with z | z
      · exact a4 z
      · exact n (List.mem_cons.mpr (.inl (List.mem_singleton.mp z).symm))) (NlAll.snoc h1 h2 h3 t fun z => n (List.mem_cons_of_mem _ z))
end
section
variable {X : Cx} {G : Fx} {e a b c tg : Expr} {es : List Expr} {n : Nat} {pos : Pos}
theorem back_air {Hf H Hf1 H1 : Hp} {ω ω1 : Addr → Option Nat} (st : Stp Hf H ω Hf1 H1 ω1) {a : Addr} (h : H1 a = none ∨ ∃ j, ω1 a = some j) : H a = none ∨ ∃ j, ω a = some j := by
  rcases h with h | ⟨j, h⟩
  · left
    cases q : H a with
    | none => rfl
    | some o => obtain ⟨o', h'⟩ := st.keep a o q; rw [h] at h'; cases h'
  · rcases st.new a j h with z | z
    · exact .inr z
    · exact .inl z
/-- air stays air -/
theorem air_stp {H0 Hf H Hf1 H1 : Hp} {ω0 ω ω1 : Addr → Option Nat} (st : Stp Hf H ω Hf1 H1 ω1) {S : Own} (h : Air H0 ω0 Hf H ω S) : Air H0 ω0 Hf1 H1 ω1 S := fun a ha => by
  obtain ⟨h1, h2, h3, o, h4⟩ := h a ha
  exact ⟨h1, st.cap a o h4 h3 h2, st.notNew h4 h3, o, st.fr a o h4 h3⟩
theorem nl_stp {Hf H Hf1 H1 H0 : Hp} {ω ω1 ω0 : Addr → Option Nat} (st : Stp Hf H ω Hf1 H1 ω1) {ps : List Addr} {vs : List V} {xs : List (PyData ⊕ List PyData)} {o : Own} (ha : Air H0 ω0 Hf H ω fun a => a ∈ ps) (h : NlAll G.K Hf H o ps vs xs) : NlAll G.K Hf1 H1 o ps vs xs :=
  h.mono st.fz (fun b hb _ => by obtain ⟨_, _, h3, u, h4⟩ := ha b hb; rw [h4]; exact st.fr b u h4 h3) fun _ _ w => w
/-! displays -/
abbrev DTN := DSt → (List (PyData ⊕ List PyData) → DSt → Prop) → Prop
def lN (G : Fx) (n : Nat) (t : DTN) : TA := fun σ H Q => ∃ Hf ω ρ Qd, RepF G Hf H ω σ ρ ∧ t ρ Qd ∧
  ∀ vs H' Hf' ω' ρ' xs ps, xs.length = n → RepF G Hf' H' ω' σ ρ' → Stp Hf H ω Hf' H' ω' → Air H ω Hf' H' ω' (fun a => a ∈ ps) → NlAll G.K Hf' H' (fun a => a ∈ ps) ps vs xs → Qd xs ρ' → Q vs H'
abbrev DN (X : Cx) (G : Fx) (es : List Expr) (n : Nat) (t : DTN) : Prop := PA X es (lN G n t)
def tN0 : DTN := fun ρ Q => Q [] ρ
def tN1 (t : DTE) (u : DTN) : DTN := fun ρ Q => t ρ fun d ρ1 => u ρ1 fun xs ρ2 => Q (.inl d :: xs) ρ2
def lsR (r : Res) (k : List PyData → Prop) : Prop := match r with
  | .ls xs => k xs
  | _ => False
def nlR (r : Res) (k : List (PyData ⊕ List PyData) → Prop) : Prop := match r with
  | .nl xs => k xs
  | _ => False
def tN2 (t : DTR) (u : DTN) : DTN := fun ρ Q => t ρ fun r ρ1 => lsR r fun ds => u ρ1 fun xs ρ2 => Q (.inr ds :: xs) ρ2
theorem dn_nil : DN X G [] 0 tN0 := pa_imp pa_nil fun σ H Q ⟨Hf, ω, ρ, Qd, rep, ht, k⟩ => k [] H Hf ω ρ [] [] rfl rep Stp.refl (fun _ z => nomatch z) .nil ht
theorem dn_e {t : DTE} {u : DTN} (ha : DE X G e t) (hl : DN X G es n u) (hs : starEach (e :: es) X.env = (false, eval e X.env) :: starEach es X.env := by rfl) : DN X G (e :: es) (n + 1) (tN1 t u) := pa_imp (pa_cons ha hl hs) fun σ H Q ⟨Hf, ω, ρ, Qd, rep, ht, k⟩ =>
  ⟨Hf, ω, ρ, _, rep, ht, fun v H1 Hf1 ω1 ρ1 d rep1 st1 hv q1 => ⟨Hf1, ω1, ρ1, _, rep1, q1, fun vs H2 Hf2 ω2 ρ2 xs ps hn rep2 st2 ai hvs q2 =>
    k (v :: vs) H2 Hf2 ω2 ρ2 (.inl d :: xs) ps (by rw [List.length_cons, hn]) rep2 (st1.trans st2) (fun a h => ⟨back_air st1 (ai a h).1, (ai a h).2⟩) (.dat (st2.fz.dp hv) hvs) q2⟩⟩
theorem dn_l {t : DTR} {u : DTN} (ha : DR X G e t) (hl : DN X G es n u) (hs : starEach (e :: es) X.env = (false, eval e X.env) :: starEach es X.env := by rfl) : DN X G (e :: es) (n + 1) (tN2 t u) := pa_imp (pa_cons ha hl hs) fun σ H Q ⟨Hf, ω, ρ, Qd, rep, ht, k⟩ => by
  refine ⟨Hf, ω, ρ, _, rep, ht, fun v H1 Hf1 ω1 ρ1 r S rep1 st1 hS hv q1 => ?_⟩
  cases r with
  | fz _ => exact q1.elim
  | nl _ => exact q1.elim
  | ext _ => exact q1.elim
  | ls ds =>
    obtain ⟨p, ws, rfl, hp, h1, h2⟩ := hv
    obtain ⟨z1, z2, z3, _⟩ := hS p hp
    refine ⟨Hf1, ω1, ρ1, _, rep1, q1, fun vs H2 Hf2 ω2 ρ2 xs ps hn rep2 st2 ai hvs q2 => ?_⟩
    have np : p ∉ ps := fun z => by
      rcases (ai p z).1 with w | ⟨j, w⟩
      · rw [h1] at w; cases w
      · rw [z3] at w; cases w
    refine k (.ref p :: vs) H2 Hf2 ω2 ρ2 (.inr ds :: xs) (p :: ps) (by rw [List.length_cons, hn]) rep2 (st1.trans st2) (fun a h => ?_)
      (.sub List.mem_cons_self (st2.fr p _ h1 z3) (st2.fz.dpAll h2) np (hvs.mono (Ex.refl _) (fun _ _ _ => rfl) fun b _ hb => List.mem_cons_of_mem _ hb)) q2
    rcases List.mem_cons.mp h with rfl | h
    · exact ⟨z1, st2.cap _ _ h1 z3 z2, st2.notNew h1 z3, _, st2.fr _ _ h1 z3⟩
    · exact ⟨back_air st1 (ai a h).1, (ai a h).2⟩
def tLstN (u : DTN) : DTR := fun ρ Q => u ρ fun xs ρ1 => Q (.nl xs) ρ1
theorem dr_lstN {u : DTN} {pos : Pos} (h : DN X G es n u) (hn : n ≤ 100000 := by decide) : DR X G (.List es pos) (tLstN u) := pe_imp (pe_lst h) fun σ H Q ⟨Hf, ω, ρ, Qd, rep, ht, k⟩ =>
  ⟨Hf, ω, ρ, _, rep, ht, fun vs H1 Hf1 ω1 ρ1 xs ps hl rep1 st1 ai hv q1 => ⟨sz (by rw [hv.len, hl]; exact hn), fun p hp => by
    have g : Grw Hf1 H1 Hf1 (upd H1 p (.lst vs)) := .lay rep1.ex hp
    have np : p ∉ ps := fun z => by
      obtain ⟨_, _, _, u, w⟩ := ai p z
      rw [hp] at w; cases w
    have ai2 := air_stp (g.stp rep1) ai
    refine k _ _ _ _ _ (.nl xs) (fun a => a = p ∨ a ∈ ps) (g.rep rep1) (st1.trans (g.stp rep1)) (fun a ha => ?_) ⟨p, ps, vs, rfl, .inl rfl, np, upd_same, (nl_stp (g.stp rep1) ai hv).mono (Ex.refl _) (fun _ _ _ => rfl) fun b _ hb => .inr hb⟩ q1
    rcases ha with rfl | ha
    · refine ⟨back_air st1 (.inl hp), rep1.ex.none hp, ?_, _, upd_same⟩
      cases q : ω1 a with
      | none => rfl
      | some i => obtain ⟨_, o, h⟩ := rep1.own a i q; rw [hp] at h; cases h
    · exact ai2 a ha⟩⟩
/-! a slot's nested list is changed -/
def nlAt (ρ : DSt) (i : Nat) (k : List (PyData ⊕ List PyData) → Prop) : Prop := match ρ[i]? with
  | some (some (.nl xs)) => k xs
  | _ => False
theorem nlAt_of {ρ : DSt} {i : Nat} {k : List (PyData ⊕ List PyData) → Prop} (h : nlAt ρ i k) : ∃ xs, ρ[i]? = some (some (.nl xs)) ∧ k xs := by
  unfold nlAt at h
  split at h
  · exact ⟨_, by assumption, h⟩
  · exact h.elim
theorem RepF.oset {Hf H : Hp} {ω : Addr → Option Nat} {σ : L2.St} {ρ : DSt} {i : Nat} {r : Res} {p : Addr} {v : V} {u : HO} (rep : RepF G Hf H ω σ ρ) (hi : σ[i]? = some (some v)) (hp : ω p = some i) (hv : RepV G.K Hf (upd H p u) (fun a => ω a = some i) v r) :
    RepF G Hf (upd H p u) ω σ (ρ.set i (some r)) ∧ Stp Hf H ω Hf (upd H p u) ω := by
  obtain ⟨nf, o0, h0⟩ := rep.own p i hp
  refine ⟨⟨fun b u q => ?_, fun b j w => ?_, by rw [List.length_set]; exact rep.len, rep.fix, fun j r' w => ?_⟩, Ex.refl _, fun b u q w => ?_, fun b u q => ?_, fun _ _ _ _ z => z, fun b j w => .inl ⟨j, w⟩⟩
  · have hb : b ≠ p := fun z => by subst z; rw [nf] at q; cases q
    rw [upd_ne hb]; exact rep.ex b u q
  · by_cases hb : b = p
    · subst hb; exact ⟨nf, _, upd_same⟩
    · rw [upd_ne hb]; exact rep.own b j w
  · rcases set_get2 w with ⟨ej, er, _⟩ | ⟨ne, ww⟩
    · subst ej
      cases er
      exact ⟨_, hi, hv⟩
    · obtain ⟨u', u1, u2⟩ := rep.slot j r' ww
      refine ⟨u', u1, u2.mono (Ex.refl _) (fun b hb => ?_) fun _ z => z⟩
      have hb' : b ≠ p := fun z => by subst z; rw [hp] at hb; exact ne (Option.some.inj hb)
      rw [upd_ne hb']
  · have hb : b ≠ p := fun z => by subst z; rw [hp] at w; cases w
    rw [upd_ne hb]; exact q
  · by_cases hb : b = p
    · subst hb; exact ⟨_, upd_same⟩
    · rw [upd_ne hb]; exact ⟨u, q⟩
/-- the j-th item, a sublist -/
def nlSub (ρ : DSt) (i j : Nat) (k : List (PyData ⊕ List PyData) → List PyData → Prop) : Prop := nlAt ρ i fun xs => match xs[j]? with
  | some (.inr ds) => k xs ds
  | _ => False
theorem nlSub_of {ρ : DSt} {i j : Nat} {k : List (PyData ⊕ List PyData) → List PyData → Prop} (h : nlSub ρ i j k) : ∃ xs ds, ρ[i]? = some (some (.nl xs)) ∧ xs[j]? = some (.inr ds) ∧ k xs ds := by
  obtain ⟨xs, h1, h2⟩ := nlAt_of h
  split at h2
  · exact ⟨_, _, h1, by assumption, h2⟩
  · exact h2.elim
/-- x[j].append(e), e a number, say -/
def tAppN (i j : Nat) (pl : DSt → (List PyData → Prop) → Prop) : DTR := fun ρ Q => nlSub ρ i j fun xs ds => pl ρ fun es => match es with
  | [d] => scalD d = true ∧ ds.length < 100000 ∧ Q (.fz .none) (ρ.set i (some (.nl (xs.set j (.inr (ds ++ [d]))))))
  | _ => False
theorem RepF.sub {Hf H : Hp} {ω : Addr → Option Nat} {σ : L2.St} {ρ : DSt} {i j : Nat} {xs : List (PyData ⊕ List PyData)} {ds : List PyData} (rep : RepF G Hf H ω σ ρ) (h1 : ρ[i]? = some (some (.nl xs))) (h2 : xs[j]? = some (.inr ds)) :
    ∃ a vs p ws, σ[i]? = some (some (.ref a)) ∧ H a = some (.lst vs) ∧ vs[j]? = some (.ref p) ∧ H p = some (.lst ws) ∧ DdAll G.K Hf ws ds ∧
      ∀ ws' ds', DdAll G.K Hf ws' ds' → RepF G Hf (upd H p (.lst ws')) ω σ (ρ.set i (some (.nl (xs.set j (.inr ds'))))) ∧ Stp Hf H ω Hf (upd H p (.lst ws')) ω := by
  obtain ⟨v, e1, a, ps, vs, rfl, ha, na, hH, hn⟩ := rep.slot i _ h1
  obtain ⟨p, ws, a1, a2, a3, a4, a5, a6⟩ := hn.upd (j := j) (ds := ds) h2
  refine ⟨a, vs, p, ws, e1, hH, a1, a4, a5, fun ws' ds' q => rep.oset e1 a3 ⟨a, ps, vs, rfl, ha, na, ?_, a6 ws' ds' q⟩⟩
  rw [upd_ne (fun z => na (by rw [z]; exact a2))]; exact hH
theorem atI_nat' {vs : List V} {j : Nat} {v : V} (h : vs[j]? = some v) : atI vs (j : Int) = some v := atI_nat h
theorem dr_appN {i j : Nat} {x : Expr} {apos p1 p2 : Pos} {kk : Nat} {pl : DSt → (List PyData → Prop) → Prop} (hx : PE X x (tVar i)) (ha : DDP X G (e :: es) pl) (hbase : attributeBase (.Subscript x (.Constant (.int (j : Int)) kk p1) p2) "append" X.env (eval (.Subscript x (.Constant (.int (j : Int)) kk p1) p2) X.env) = eval (.Subscript x (.Constant (.int (j : Int)) kk p1) p2) X.env := by rfl)
    (hfew : ((backTo pos (starEach (e :: es) X.env)).all (fun x => !x.1) && (backToKw pos (keywordEach [] X.env)).all (fun x => x.1.isSome)
      && decide ((e :: es).length + ([] : List Keyword).length + (if ([] : List Keyword).isEmpty then 0 else 1) < 30)) = true := by rfl)
    (hline : (apos.endLine == pos.line) = true := by rfl) (hs : starEach (e :: es) X.env = (false, eval e X.env) :: starEach es X.env := by rfl) (hplain : (backTo pos (starEach es X.env)).any (·.1) = false := by rfl)
    (hpx : PlainIx (.Constant (.int (j : Int)) kk p1) := by exact fun _ _ => rfl) :
    DR X G (.Call (.Attribute (.Subscript x (.Constant (.int (j : Int)) kk p1) p2) "append" apos) (e :: es) [] pos) (tAppN i j pl) :=
  pe_imp (pe_bm PySem.F.plainAttrs_list PySem.F.slot_list_append PySem.F.type_list_append (fun pins s σ H => mt_append pins s σ H) (pe_ix ix_list hx pe_int hpx) ha hbase hfew hline hs hplain) fun σ H Q ⟨Hf, ω, ρ, Qd, rep, ht, k⟩ => by
  obtain ⟨xs, ds, q1, q2, ht⟩ := nlSub_of ht
  obtain ⟨a, vs, p, ws, e1, e2, e3, e4, e5, _⟩ := rep.sub q1 q2
  refine ⟨.ref a, e1, a, vs, (j : Int), .ref p, rfl, rfl, .inl (.inl e2), atI_nat' e3, .inl ⟨rfl, ws, .of e4⟩, Hf, ω, ρ, _, rep, ht, fun us H1 es' ex1 hv q3 => ?_⟩
  match es', hv, q3 with
  | [d], hv, q3 =>
    obtain ⟨hsc, hlen, q3⟩ := q3
    obtain ⟨y, rfl, hy⟩ := hv.one
    have rep1 := (rep.look ex1).rep rep
    obtain ⟨a', vs', p', ws', f1, f2, f3, f4, f5, f6⟩ := rep1.sub q1 q2
    rw [e1] at f1
    cases f1
    rw [ex1 _ _ e2] at f2
    cases f2
    rw [e3] at f3
    cases f3
    refine ⟨p, ws', y, rfl, rfl, f4, szl (by rw [f5.len]; exact hlen), ?_⟩
    obtain ⟨r2, s2⟩ := f6 (ws' ++ [y]) (ds ++ [d]) (f5.app (.cons (hy.scal hsc) .nil))
    exact k _ _ _ _ _ (.fz .none) (fun _ => False) r2 (((rep.look ex1).stp rep).trans s2) (fun _ z => z.elim) .non q3
  | [], _, q3 => exact q3.elim
  | _ :: _ :: _, _, q3 => exact q3.elim
/-- x[j].pop(0) -/
def tPop0N (i j : Nat) : DTE := fun ρ Q => nlSub ρ i j fun xs ds => match ds with
  | d :: r => Q d (ρ.set i (some (.nl (xs.set j (.inr r)))))
  | [] => False
theorem de_pop0N {i j : Nat} {x : Expr} {apos p1 p2 p3 : Pos} {kk k3 : Nat} (hx : PE X x (tVar i)) (hbase : attributeBase (.Subscript x (.Constant (.int (j : Int)) kk p1) p2) "pop" X.env (eval (.Subscript x (.Constant (.int (j : Int)) kk p1) p2) X.env) = eval (.Subscript x (.Constant (.int (j : Int)) kk p1) p2) X.env := by rfl)
    (hfew : ((backTo pos (starEach [.Constant (.int 0) k3 p3] X.env)).all (fun x => !x.1) && (backToKw pos (keywordEach [] X.env)).all (fun x => x.1.isSome)
      && decide ([Expr.Constant (.int 0) k3 p3].length + ([] : List Keyword).length + (if ([] : List Keyword).isEmpty then 0 else 1) < 30)) = true := by rfl)
    (hline : (apos.endLine == pos.line) = true := by rfl) (hpx : PlainIx (.Constant (.int (j : Int)) kk p1) := by exact fun _ _ => rfl) :
    DE X G (.Call (.Attribute (.Subscript x (.Constant (.int (j : Int)) kk p1) p2) "pop" apos) [.Constant (.int 0) k3 p3] [] pos) (tPop0N i j) :=
  pe_imp (pe_bm PySem.F.plainAttrs_list PySem.F.slot_list_pop PySem.F.type_list_pop (fun pins s σ H => mt_popAt pins s σ H) (pe_ix ix_list hx pe_int hpx) (pa_cons pe_int pa_nil) hbase hfew hline) fun σ H Q ⟨Hf, ω, ρ, Qd, rep, ht, k⟩ => by
  obtain ⟨xs, ds, q1, q2, ht⟩ := nlSub_of ht
  obtain ⟨a, vs, p, ws, e1, e2, e3, e4, e5, e6⟩ := rep.sub q1 q2
  refine ⟨.ref a, e1, a, vs, (j : Int), .ref p, rfl, rfl, .inl (.inl e2), atI_nat' e3, .inl ⟨rfl, ws, .of e4⟩, ?_⟩
  match ds, e5, ht with
  | [], _, ht => exact ht.elim
  | d :: r, .cons (v := y) (vs := yr) h1 h2, ht =>
    obtain ⟨r2, s2⟩ := e6 yr r h2
    refine ⟨p, y :: yr, 0, 0, y, rfl, rfl, e4, by decide, by decide, ?_, rfl, ?_⟩
    · show seqIndex? 0 (yr.length + 1) = some 0
      unfold seqIndex?
      simp
      try omega
    · exact k _ _ _ _ _ _ r2 s2 h1 ht
/-- x[c] = e, an item that is no sublist -/
def sPutN (i : Nat) (t tj : DTE) : DTS := fun D ρ => t ρ fun d ρ1 => nlAt ρ1 i fun _ => tj ρ1 fun z ρ2 => isI z fun m => nlAt ρ2 i fun xs => opt (ixN xs.length m) fun j => match xs[j]? with
  | some (.inl _) => D.nx (ρ2.set i (some (.nl (xs.set j (.inl d)))))
  | _ => False
theorem ds_putN {i : Nat} {x ix : Expr} {te tj : DTE} {p2 : Pos} (he : DE X G e te) (hx : PE X x (tVar i)) (hj : DE X G ix tj)
    (ha : ∀ v, assign (.Subscript x ix p2) X.env v = (do
      let ov ← holding [v] (eval x X.env)
      let iv ← holding [v, ov] (eval ix X.env)
      standAt p2
      holding [v, ov, iv] (setItem ov iv v)
      release [v, ov, iv] []) := by intro _; rfl)
    (hs : swapsWithSole [.Subscript x ix p2] e pos.line X.env = pure false := by rfl) (hw : swappedStores [.Subscript x ix p2] e X.env = pure none := by rfl)
    (h1 : (assignEach [.Subscript x ix p2] X.env).map (·.2) = [assign (.Subscript x ix p2) X.env] := by rfl) : DS X G (.Assign [.Subscript x ix p2] e pos) (sPutN i te tj) :=
  ps_imp (ps_asg he (pg_sub hx hj set_list ha) hs hw h1) fun D σ H ⟨Hf, ω, ρ, Dd, rep, ht, k1, _⟩ => by
  refine ⟨Hf, ω, ρ, _, rep, ht, fun v H1 Hf1 ω1 ρ1 d rep1 st1 hv q1 => ?_⟩
  obtain ⟨xs0, q0, q1⟩ := nlAt_of q1
  obtain ⟨w, e1, p, ps, vs, rfl, hp, hnp, h1, h2⟩ := rep1.slot i _ q0
  refine ⟨.ref p, e1, Hf1, ω1, ρ1, _, rep1, q1, fun z H2 Hf2 ω2 ρ2 dz rep2 st2 hz q2 => ?_⟩
  obtain ⟨m, rfl, q2⟩ := isI_of q2
  obtain ⟨xs, q3, q4⟩ := nlAt_of q2
  obtain ⟨j, hjx, q5⟩ := opt_of q4
  split at q5
  · rename_i d0 hd0
    obtain ⟨w2, w1, p', ps', vs', rfl, hp', hnp', h1', h2'⟩ := rep2.slot i _ q3
    rw [e1] at w1
    cases w1
    obtain ⟨r2, s2⟩ := rep2.oset (r := .nl (xs.set j (.inl d))) (u := .lst (vs'.set j v)) e1 hp' ⟨p, ps', vs'.set j v, rfl, hp', hnp', upd_same, by
      have := NlAll.put (st2.fz.dp hv) h2' hd0
      exact this.mono (Ex.refl _) (fun b hb _ => by rw [upd_ne (fun z => hnp' (by rw [← z]; exact hb))]) fun _ _ z => z⟩
    exact ⟨p, vs', m, j, rfl, hz.isint, h1', by rw [h2'.len]; exact hjx, k1 _ _ _ _ _ r2 ((st1.trans st2).trans s2) q5⟩
  · exact q5.elim
end
end DL

namespace DL
open PySem PySem.Spec PyProof.Rows L2
section
variable {X : Cx} {G : Fx} {e a b c tg iter : Expr} {es : List Expr} {n : Nat} {pos : Pos} {ti : DTL} {body : List Stmt} {t : DTS}

/-! ### a list of new lists -/
def tLcN (vs : List Nat) (ti : DTL) (g : DTG) (te : DTR) : DTR := fun ρ Q => ti ρ fun ds ρ1 => ∃ I : Nat → List (List PyData) → DSt → Prop, I 0 [] (wipeD ρ1 vs) ∧
  (∀ k d acc ρ', ds[k]? = some d → I k acc ρ' → g d ρ' fun ρ2 => te ρ2 fun r ρ4 => lsR r fun y => acc.length < 100000 ∧ I (k + 1) (acc ++ [y]) (wipeD ρ4 vs)) ∧
  ∀ acc ρ', I ds.length acc ρ' → Q (.nl (acc.map .inr)) ρ'
theorem lR_lcN {vs js : List Nat} {g : DTG} {te : DTR} (hF : ∀ k ∈ G.F, k ∉ vs) (hj : ∀ j ∈ js, j ∈ vs) {σ : L2.St} {H : Hp} {Q : VK} (h : lR G (tLcN vs ti g te) σ H Q) : tLc (lI G ti) (lG G js g) (lT G tYesD) (lR G te) vs σ H Q := by
  obtain ⟨Hf, ω, ρ, Qd, rep, ht, k⟩ := h
  refine ⟨Hf, ω, ρ, _, rep, ht, fun J H1 Hf1 ω1 ρ1 ds rep1 st1 wk ⟨I, i0, i1, i2⟩ D nD => ?_⟩
  have nH : H D = none := by
    cases q : H D with
    | none => rfl
    | some o => obtain ⟨o', h'⟩ := st1.keep D o q; rw [nD] at h'; cases h'
  have nω : ω1 D = none := by
    cases q : ω1 D with
    | none => rfl
    | some i => obtain ⟨_, o, h'⟩ := rep1.own D i q; rw [nD] at h'; cases h'
  have nHf : Hf1 D = none := rep1.ex.none nD
  refine ⟨fun i m H' => m = ds.length - i ∧ i ≤ ds.length ∧ ∃ Hf' ω' ρ' acc va ps, RepF G Hf' H' ω' (wipe σ vs) ρ' ∧ Stp Hf H ω Hf' H' ω' ∧ Ex Hf1 Hf' ∧ H' D = some (.lst va) ∧ Hf' D = none ∧ ω' D = none ∧ D ∉ ps ∧ Air H ω Hf' H' ω' (fun a => a ∈ ps) ∧ NlAll G.K Hf' H' (fun a => a ∈ ps) ps va (acc.map .inr) ∧ I i acc ρ',
    ⟨_, rfl, Nat.zero_le _, Hf1, ω1, _, [], [], [], rep1.turn (σ := σ) hF rfl nHf nω, st1.grown nH, Ex.refl _, upd_same, nHf, nω, by simp, fun _ z => (nomatch z), .nil, i0⟩, ?_⟩
  rintro i m H' ⟨rfl, hi, Hf', ω', ρ', acc, va, ps, rep', st', ex', hD, hDf, hDω, hDp, hai, hva, hI⟩
  by_cases hlt : i < ds.length
  · refine .inr ⟨wk.go i H' hlt (ex'.trans rep'.ex), fun H2 => ∃ Hf2 ω2 ρ2 acc va ps, RepF G Hf2 H2 ω2 (wipe σ vs) ρ2 ∧ Stp Hf H ω Hf2 H2 ω2 ∧ Ex Hf1 Hf2 ∧ H2 D = some (.lst va) ∧ Hf2 D = none ∧ ω2 D = none ∧ D ∉ ps ∧ Air H ω Hf2 H2 ω2 (fun a => a ∈ ps) ∧ NlAll G.K Hf2 H2 (fun a => a ∈ ps) ps va (acc.map .inr) ∧ I (i + 1) acc ρ2,
      fun H2 ⟨Hf2, ω2, ρ2, acc, va, ps, q⟩ => ⟨ds.length - (i + 1), by omega, rfl, hlt, Hf2, ω2, ρ2, acc, va, ps, q⟩, fun x H2 hy => ?_⟩
    have hd : ds[i]? = some ds[i] := List.getElem?_eq_getElem hlt
    obtain ⟨Hf2, g2, hx⟩ := wk.yld i Hf' H' x H2 _ hd ex' rep'.ex hy
    have sg2 := g2.stp rep'
    refine ⟨Hf2, ω', ρ', _, ds[i], g2.rep rep', hx, i1 i _ acc ρ' hd hI, fun σ3 H3 Hf3 ω3 ρ3 rep3 st3 hl3 ho3 q3 => ?_⟩
    have he : wipe σ3 vs = wipe σ vs := by
      refine List.ext_getElem? fun j => ?_
      by_cases hjv : j ∈ vs
      · by_cases hjl : j < σ.length
        · rw [wipe_in hjl hjv, wipe_in (by rw [hl3, wipe_length]; exact hjl) hjv]
        · rw [List.getElem?_eq_none (by rw [wipe_length, hl3, wipe_length]; omega), List.getElem?_eq_none (by rw [wipe_length]; omega)]
      · rw [wipe_out hjv, ho3 j fun z => hjv (hj j z)]
    have st23 := sg2.trans st3
    have D3 : H3 D = some (.lst va) := st23.fr D _ hD hDω
    have D3f : Hf3 D = none := st23.cap D _ hD hDω hDf
    have D3ω : ω3 D = none := st23.notNew hD hDω
    have S3 : Stp Hf H ω Hf3 H3 ω3 := st'.trans st23
    have E3 : Ex Hf1 Hf3 := ex'.trans st23.fz
    have A3 := air_stp st23 hai
    have V3 := nl_stp (G := G) st23 hai hva
    refine ⟨he, Hf3, ω3, ρ3, fun b ρ' => b = true ∧ ρ' = ρ3, rep3, ⟨rfl, rfl⟩, fun bb H4 Hf4 ω4 ρ4 rep4 st4 q4 => ?_⟩
    obtain ⟨rfl, rfl⟩ := q4
    refine iteT ⟨Hf4, ω4, ρ4, _, rep4, q3, fun y H5 Hf5 ω5 ρ5 r S rep5 st5 hS hyd q5 => ?_⟩
    cases r with
    | fz _ => exact q5.elim
    | nl _ => exact q5.elim
    | ext _ => exact q5.elim
    | ls yd =>
      obtain ⟨p, ws, rfl, hp, p1, p2⟩ := hyd
      have st35 := st4.trans st5
      have A5 := air_stp st35 A3
      have V5 := nl_stp (G := G) st35 A3 V3
      have D5 : H5 D = some (.lst va) := st35.fr D _ D3 D3ω
      have D5f : Hf5 D = none := st35.cap D _ D3 D3ω D3f
      have D5ω : ω5 D = none := st35.notNew D3 D3ω
      obtain ⟨z1, z2, z3, _⟩ := hS p hp
      have hp4 : H4 p = none ∨ ∃ j, ω4 p = some j := z1
      have npD : p ≠ D := fun z => by
        subst z
        have w := st4.fr p _ D3 D3ω
        have w2 := st4.notNew D3 D3ω
        rcases hp4 with u | ⟨j, u⟩
        · rw [w] at u; cases u
        · rw [w2] at u; cases u
      have npp : p ∉ ps := fun z => by
        obtain ⟨_, _, u3, o, u4⟩ := air_stp st4 A3 p z
        rcases hp4 with u | ⟨j, u⟩
        · rw [u4] at u; cases u
        · rw [u3] at u; cases u
      refine ⟨va, D5, szl (by rw [V5.len, List.length_map]; exact q5.1), Hf5, ω5, _, acc ++ [yd], va ++ [.ref p], ps ++ [p], rep5.turn hF he D5f D5ω, (S3.trans st35).grown nH, E3.trans st35.fz, upd_same, D5f, D5ω, ?_, fun a ha => ?_, ?_, q5.2⟩
      · intro z
        rcases List.mem_append.mp z with z | z
        · exact hDp z
        · exact npD (List.mem_singleton.mp z).symm
      · rcases List.mem_append.mp ha with z | z
        · obtain ⟨u1, u2, u3, o, u4⟩ := A5 a z
          exact ⟨u1, u2, u3, o, by rw [upd_ne (fun w => hDp (by rw [← w]; exact z))]; exact u4⟩
        · have := List.mem_singleton.mp z
          subst this
          exact ⟨back_air (S3.trans st4) z1, z2, z3, _, by rw [upd_ne npD]; exact p1⟩
      · rw [List.map_append]
        refine NlAll.snoc (o := fun a => a ∈ ps ++ [p]) (by simp) (by rw [upd_ne npD]; exact p1) p2 (V5.mono (Ex.refl _) (fun b hb _ => by rw [upd_ne (fun w => hDp (by rw [← w]; exact hb))]) fun b _ hb => List.mem_append_left _ hb) npp
  · have e : i = ds.length := by omega
    subst e
    refine .inl ⟨wk.stop H' (ex'.trans rep'.ex), ?_⟩
    refine k _ _ _ _ _ (.nl (acc.map .inr)) (fun a => a = D ∨ a ∈ ps) (rep'.unwiped rep) st' (fun a ha => ?_) ⟨D, ps, va, rfl, .inl rfl, hDp, hD, hva.mono (Ex.refl _) (fun _ _ _ => rfl) fun b _ hb => .inr hb⟩ (i2 acc ρ' hI)
    rcases ha with rfl | ha
    · exact ⟨.inl nH, hDf, hDω, _, hD⟩
    · exact hai a ha
variable {elt : Expr} {scope : Scope} {own : List (Str × Nat)} {g : DTG} {te : DTR} {js : List Nat}
theorem dr_lcN (hF : ∀ k ∈ G.F, k ∉ own.map (·.2)) (hj : ∀ j ∈ js, j ∈ own.map (·.2)) (hc : X.calm = true) (hN : X.N.Nodup) (hi : DI X G tg iter ti) (ok : BlkOk X.N X.env.scope scope own)
    (hg : ∀ (s : Shared) (H : Hp) (C : Addr) (cl : List (Str × Addr)) (fp : List Addr), DG (X.blk s H scope (compEnvC scope cl C X.env) fp) G tg js g)
    (he : ∀ (s : Shared) (H : Hp) (C : Addr) (cl : List (Str × Addr)) (fp : List Addr), DR (X.blk s H scope (compEnvC scope cl C X.env) fp) G elt te) (hs : ∀ x, foldedSetIterable iter X.env x = pure x := by intro _; rfl) :
    DR X G (.ListComp elt [⟨tg, iter, [], 0⟩] scope pos) (tLcN (own.map (·.2)) ti g te) := pe_imp (pe_lc hc hN hi ok hg (fun _ _ _ _ _ => dts_nil) he hs) fun _ _ _ h => lR_lcN hF hj h

/-! ### for x in a list of new lists: each becomes the slot's -/
def sForN (i : Nat) (te : DTR) (tb : DTS) : DTS := fun D ρ => te ρ fun r ρ1 => nlR r fun bs => (∀ x ∈ bs, ∃ ds, x = .inr ds) ∧ ∃ I : Nat → DSt → Prop, I 0 ρ1 ∧
  (∀ k ds ρ', bs[k]? = some (.inr ds) → I k ρ' → tb { D with nx := I (k + 1), ct := I (k + 1), bk := D.nx } (ρ'.set i (some (.ls ds)))) ∧ ∀ ρ', I bs.length ρ' → D.nx ρ'
theorem ds_forN {i : Nat} {x : Str} {xpos : Pos} (hFi : i ∉ G.F) (hp : PassesOwn (model X.prog X.w) X.A X.env X.xe) (hc : X.calm = true) (hi : DR X G iter te) (hg : PG X (.Name x xpos) (gName i)) (hb : DSs X G body t)
    (hs : ∀ x, foldedSetIterable iter X.env x = pure x := by intro _; rfl) : DS X G (.For (.Name x xpos) iter body [] pos) (sForN i te t) := ps_imp (ps_for hp hc (pi_seq hi) hg hb hs) fun D σ H ⟨Hf, ω, ρ, Dd, rep, ht, k1, k2, k3, k4⟩ => by
  refine ⟨Hf, ω, ρ, _, rep, ht, fun v H1 Hf1 ω1 ρ1 r S rep1 st1 hS hv q1 => ?_⟩
  cases r with
  | fz _ => exact q1.elim
  | ls _ => exact q1.elim
  | ext _ => exact q1.elim
  | nl bs =>
    obtain ⟨hbs, I, i0, i1, i2⟩ := q1
    obtain ⟨A, ps, vs, rfl, hA, hAp, hH, hN⟩ := hv
    refine ⟨A, rfl, .inl ⟨vs, .of hH, ?_⟩⟩
    have hAS := hS A hA
    have hlen := hN.len
    refine ⟨fun j m σ' H' => m = bs.length - j ∧ j ≤ bs.length ∧ ∃ Hf' ω' ρ' ps', RepF G Hf' H' ω' σ' ρ' ∧ Stp Hf H ω Hf' H' ω' ∧ H' A = some (.lst vs) ∧ ω' A = none ∧ A ∉ ps' ∧ Air H ω Hf' H' ω' (fun a => a ∈ ps') ∧ NlAll G.K Hf' H' (fun a => a ∈ ps') ps' (vs.drop j) (bs.drop j) ∧ I j ρ',
      ⟨_, rfl, Nat.zero_le _, Hf1, ω1, ρ1, ps, rep1, st1, hH, hAS.2.2.1, hAp, fun a ha => hS a (hN.own a ha), hN.mono (Ex.refl _) (fun _ _ _ => rfl) fun b hb _ => hb, i0⟩, ?_⟩
    rintro j m σ' H' ⟨rfl, hj, Hf', ω', ρ', ps', rep', st', hA', hAω, hAn, hai, hnl, hI⟩
    by_cases hlt : j < bs.length
    · have hv : j < vs.length := by rw [hlen]; exact hlt
      refine .inr ⟨⟨vs, vs[j], .of hA', by simp [hv]⟩, fun σ2 H2 => ∃ Hf' ω' ρ' ps', RepF G Hf' H2 ω' σ2 ρ' ∧ Stp Hf H ω Hf' H2 ω' ∧ H2 A = some (.lst vs) ∧ ω' A = none ∧ A ∉ ps' ∧ Air H ω Hf' H2 ω' (fun a => a ∈ ps') ∧ NlAll G.K Hf' H2 (fun a => a ∈ ps') ps' (vs.drop (j + 1)) (bs.drop (j + 1)) ∧ I (j + 1) ρ',
        fun σ2 H2 ⟨Hf2, ω2, ρ2, q⟩ => ⟨bs.length - (j + 1), by omega, rfl, hlt, Hf2, ω2, ρ2, q⟩, fun x H2 hy => ?_⟩
      obtain ⟨rfl, hy⟩ := hy
      have ev := hy vs (.of hA')
      obtain ⟨ds, eds⟩ := hbs bs[j] (List.getElem_mem hlt)
      have ebs : bs[j]? = some (.inr ds) := by rw [List.getElem?_eq_getElem hlt, eds]
      rw [List.drop_eq_getElem_cons hlt, List.drop_eq_getElem_cons hv, eds] at hnl
      have ex : vs[j] = x := by rw [List.getElem?_eq_getElem hv] at ev; exact Option.some.inj ev
      rw [ex] at hnl
      cases hnl with
      | @sub psr _ _ p ws _ h1 h2 h3 h4 ht =>
        have hpm : p ∈ p :: psr := List.mem_cons_self
        have hpa := hai p hpm
        have pA : A ≠ p := fun z => hAn (by rw [z]; exact hpm)
        have hair : Air H ω Hf' H2 ω' (fun a => a = p) := fun a ha => by subst ha; exact hpa
        obtain ⟨ω2, r2, s2, n2⟩ := rep'.put (r := .ls ds) st' hFi hair ⟨p, ws, rfl, rfl, h2, h3⟩
        refine ⟨Hf', ω2, _, _, r2, i1 j ds ρ' ebs hI, ?_, ?_, ?_, ?_⟩
        · exact fun σ4 H4 Hf4 ω4 ρ4 rep4 st4 q4 => by
            have ar : Air H ω Hf' H2 ω2 (fun a => a ∈ psr) := fun a ha => by
              obtain ⟨u1, u2, u3, u4⟩ := hai a (List.mem_cons_of_mem _ ha)
              exact ⟨u1, u2, n2 a u3 (fun z => h4 (by rw [← z]; exact ha)), u4⟩
            have hAω2 : ω2 A = none := n2 A hAω pA
            have hnr : NlAll G.K Hf' H2 (fun a => a ∈ psr) psr (vs.drop (j + 1)) (bs.drop (j + 1)) := ht.mono (Ex.refl _) (fun _ _ _ => rfl) fun b hb _ => hb
            exact ⟨Hf4, ω4, ρ4, psr, rep4, s2.trans st4, st4.fr A _ hA' hAω2, st4.notNew hA' hAω2, fun z => hAn (List.mem_cons_of_mem _ z), air_stp st4 ar, nl_stp (G := G) st4 ar hnr, q4⟩
        · exact fun v H4 Hf4 ω4 r af rep4 st4 q4 => k2 _ _ _ _ _ _ rep4 (s2.trans st4) q4
        · exact fun σ4 H4 Hf4 ω4 ρ4 rep4 st4 q4 => k1 _ _ _ _ _ rep4 (s2.trans st4) q4
        · exact fun σ4 H4 Hf4 ω4 ρ4 rep4 st4 q4 => by
            have ar : Air H ω Hf' H2 ω2 (fun a => a ∈ psr) := fun a ha => by
              obtain ⟨u1, u2, u3, u4⟩ := hai a (List.mem_cons_of_mem _ ha)
              exact ⟨u1, u2, n2 a u3 (fun z => h4 (by rw [← z]; exact ha)), u4⟩
            have hAω2 : ω2 A = none := n2 A hAω pA
            have hnr : NlAll G.K Hf' H2 (fun a => a ∈ psr) psr (vs.drop (j + 1)) (bs.drop (j + 1)) := ht.mono (Ex.refl _) (fun _ _ _ => rfl) fun b hb _ => hb
            exact ⟨Hf4, ω4, ρ4, psr, rep4, s2.trans st4, st4.fr A _ hA' hAω2, st4.notNew hA' hAω2, fun z => hAn (List.mem_cons_of_mem _ z), air_stp st4 ar, nl_stp (G := G) st4 ar hnr, q4⟩
    · have e : j = bs.length := by omega
      subst e
      exact .inl ⟨⟨vs, .of hA', by rw [hlen]; exact Nat.le_refl _⟩, k1 _ _ _ _ _ rep' st' (i2 ρ' hI)⟩
end
end DL

namespace DL
open PySem PySem.Spec PyProof.Rows L2
/-- the names of the built-in classes; the lists that stand for good -/
def namesF (x : Str) : Option V := if x = "int" then some (.ty "int") else if x = "bool" then some (.ty "bool") else if x = "str" then some (.ty "str") else if x = "tuple" then some (.ty "tuple") else if x = "list" then some (.ty "list") else none
def Lof (K : PySem.W.Frag) : Fn where
  f := namesF
  own a vs := ∀ H, SqL K H a vs
theorem names_ok : (namesF "int" = some (.ty "int") ∧ namesF "bool" = some (.ty "bool") ∧ namesF "str" = some (.ty "str")) ∧ namesF "tuple" = some (.ty "tuple") ∧ namesF "list" = some (.ty "list") := by
  refine ⟨⟨?_, ?_, ?_⟩, ?_, ?_⟩ <;> (unfold namesF; repeat (first | rw [if_pos rfl] | rw [if_neg (by decide +kernel)]))
theorem lok (K : PySem.W.Frag) : LOk (Lof K) := ⟨names_ok.1.1, names_ok.1.2.1, names_ok.1.2.2, names_ok.2.1, names_ok.2.2⟩
section
variable {K : PySem.W.Frag} {h : Heap} {mg : Str → Option Value}
theorem fnT_mk {x : Str} {st : Stmt} {ps : List Str} {f : Addr} {oc : Value} {od an : Option Addr} {osl : Array (Option Value)} {kV doc pm cdv ct : Value} (X : K.In h) (G : h.Ns mainGlobals mg)
    (a : PySem.W.nsIn K mainGlobals x = some (some (.ref f))) (l : K.lookup f = some ⟨oc, od, .func (PySem.W.fnOf x x (defArgs st) (defBody st) (defScope st) .none kV doc pm an cdv ct), osl⟩)
    (c : PySem.W.codeIn K cdv x = true) (k : PySem.W.keepIn K (.ref f) = true)
    (hb : ∀ (kV doc pm : Value) (an : Option Addr) (cdv ct : Value) (us : List Value), us.length = ps.length → bindArgs (PySem.W.fnOf x x (defArgs st) (defBody st) (defScope st) .none kV doc pm an cdv ct) ⟨us, []⟩ = pure (ps.zip us)) : FnT K mg x st ps :=
  ⟨f, _, fun_mk (st := st) l c k, PySem.W.mg_of X G a, (fun_mk (st := st) l c k).binds hb⟩
theorem tup_mk {x : Str} {a : Addr} {ss : List (Str × Tok)} {od : Option Addr} {osl : Array (Option Value)} {n : Nat} (X : K.In h) (G : h.Ns mainGlobals mg)
    (e : PySem.W.nsIn K mainGlobals x = some (some (.ref a))) (l : K.lookup a = some ⟨.type "tuple", od, .seq (ss.map fun p => Value.str p.1 p.2).toArray n, osl⟩) (hs : ss.length ≤ 1000) :
    ∃ a, mg x = some (.ref a) ∧ ∀ H, SqT K H a (ss.map fun p => V.str p.1) := by
  refine ⟨a, PySem.W.mg_of X G e, fun H => .inr ⟨_, _, n, l, rfl, rfl, ?_, ?_⟩⟩
  · rw [List.size_toArray, List.length_map]; exact sz (by omega)
  · show Vals (ss.map fun p => V.str p.1) (ss.map fun p => Value.str p.1 p.2)
    clear l e hs
    induction ss with
    | nil => exact .nil
    | cons p r ih => exact .cons ⟨p.2, rfl⟩ ih
/-- the law's own promise -/
def sp_law : SpD := fun rs P _ => ∃ ns : List Int, rs = [.fz (.dict [(.str "script", .list (ns.map .int))])] ∧ ns.length ≤ 63 ∧ ∀ af, P (.fz (.bool true)) af
theorem dd_ints {L : Fn} {H : Hp} : ∀ ns : List Int, DdAll L H (ns.map V.int) (ns.map .int)
  | [] => .nil
  | n :: ns => .cons (.int n) (dd_ints ns)
theorem law_sp {H : Hp} {a : Addr} {ns : List Int} (hl : ns.length ≤ 63) (hS : SqL K H a (ns.map V.int)) : toSp (Lof K) [] 1 sp_law [.ref a] H (fun v _ => v = .bl true) fun _ _ _ => False := by
  refine ⟨rfl, H, fun _ => none, [.fz (.dict [(.str "script", .list (ns.map .int))])], fun r _ => r = .fz (.bool true), fun _ _ => False, ⟨Ex.refl _, fun _ _ z => (nomatch z), rfl, fun _ z => (nomatch z), fun i r q => ?_⟩, ⟨ns, rfl, hl, fun _ => rfl⟩, ?_, fun _ _ _ _ _ _ _ z => z⟩
  · match i, q with
    | 0, q =>
      cases q
      refine ⟨.ref a, rfl, .scr ?_ (dd_ints ns)⟩
      rcases hS with q | q
      · exact .inl q
      · exact .inr fun H' => .inr q
    | i + 1, q => simp at q
  · intro v H' Hf' ω' r af rr _ q
    subst q
    exact rr.res.isbl
end
end DL

namespace DL
open PySem PySem.Spec PyProof.Rows L2
/-! ### a tuple, a list times an int, from 0 on -/
theorem tmul_one (l : Addr) (items : Array Value) (n : Nat) (dd : Option Addr) (sl : Array (Option Value)) (x : Int) (u : Tok) (c0 : (decide (x < -(2 ^ 63)) || decide (x ≥ 2 ^ 63)) = false) (c1 : (items.isEmpty || x == 1) = true) :
    Meets (Builtin.«tuple.__mul__» ⟨[.ref l, .int x u], []⟩) (fun _ R s => s.heap.get? l = some { cls := .type "tuple", dict := dd, data := .seq items n, slots := sl } ∧ R (.ok (.ret (Value.ref l))) s) :=
  .of_wp fun prog w A R s h => by
    obtain ⟨hp, g, d, tk, os⟩ := s
    obtain ⟨hl, h⟩ := h
    have f1 := AutoSeq1.idx_int
    wp_walk using wpAny_loadPart' hl
    repeat (first
      | (refine wpAny_ite_false (decide_eq_false (by rw [c0]; exact Bool.false_ne_true)) ?_; wp_walk using wpAny_loadPart' hl)
      | (refine wpAny_ite_true (decide_eq_true c1) ?_; wp_walk using wpAny_loadPart' hl))
    exact ⟨_, rfl, h⟩
theorem tmul_zero (l : Addr) (items : Array Value) (n : Nat) (dd : Option Addr) (sl : Array (Option Value)) (x : Int) (u : Tok) (c0 : (decide (x < -(2 ^ 63)) || decide (x ≥ 2 ^ 63)) = false) (c1 : (items.isEmpty || x == 1) = false) (c2 : (decide (x ≤ 0) || items.isEmpty) = true) :
    Meets (Builtin.«tuple.__mul__» ⟨[.ref l, .int x u], []⟩) (fun _ R s => s.heap.get? l = some { cls := .type "tuple", dict := dd, data := .seq items n, slots := sl } ∧
      R (.ok (.ret (Value.ref s.heap.objs.size))) { s with heap := s.heap.push { cls := Value.type "tuple", data := Data.seq #[] }, toks := s.toks }) :=
  .of_wp fun prog w A R s h => by
    obtain ⟨hp, g, d, tk, os⟩ := s
    obtain ⟨hl, h⟩ := h
    have f1 := AutoSeq1.idx_int
    wp_walk using wpAny_loadPart' hl
    repeat (first
      | (refine wpAny_ite_false (decide_eq_false (by rw [c0]; exact Bool.false_ne_true)) ?_; wp_walk using wpAny_loadPart' hl)
      | (refine wpAny_ite_false (decide_eq_false (by rw [c1]; exact Bool.false_ne_true)) ?_; wp_walk using wpAny_loadPart' hl)
      | (refine wpAny_ite_true (decide_eq_true c2) ?_; wp_walk using wpAny_loadPart' hl))
    exact ⟨_, rfl, h⟩
def rRepT01 (K : PySem.W.Frag) : R2 := fun x y H Q => ∃ l k xs, x = .ref l ∧ y = .int k ∧ SqT K H l xs ∧ xs ≠ [] ∧ ((k = 1 ∧ Q (.ref l) H) ∨ (k = 0 ∧ ∀ p, H p = none → Q (.ref p) (upd H p (.tup []))))
def rRepL (K : PySem.W.Frag) : R2 := fun x y H Q => ∃ l k xs, x = .ref l ∧ y = .int k ∧ SqL K H l xs ∧ 0 ≤ k ∧ k ≤ 1000 ∧ xs.length ≤ 1000 ∧ ∀ p, H p = none → Q (.ref p) (upd H p (.lst (List.replicate k.toNat xs).flatten))
section
variable {X : Cx}
theorem op_repT01 : OpR X (binaryOp .Mult) (rRepT01 X.K) := by
  intro pins s σ H x y v u Q I rx ry h
  obtain ⟨l, k, xs, rfl, rfl, hT, hne, q⟩ := h
  cases rx
  obtain ⟨t, rfl⟩ := ry
  obtain ⟨its, r, ⟨⟨cls, dd, data, sl⟩, ho, hc, n, hd⟩, hs⟩ := I.tuple hT
  simp only at hc hd
  subst hc hd
  have hle : its.length = xs.length := r.length.symm
  have hn : its ≠ [] := fun e => hne (by
    rw [e] at hle
    exact List.eq_nil_of_length_eq_zero hle.symm)
  have hi : its.toArray.isEmpty = false := by
    cases its with
    | nil => exact absurd rfl hn
    | cons a b => rfl
  rcases q with ⟨rfl, q⟩ | ⟨rfl, q⟩
  · refine wpAny_binaryOp_repeat_ref (T := "tuple") (U := "int") (by decide) ⟨_, ho, rfl⟩ (fun s' => typeIs_int s' 1 t) noFill_tuple_mul F.fills_int_mul F.slot_int_rmul repeat_tuple F.slot_int_index.lookup
      (call_meets F.slot_int_rmul (typeIs_int s 1 t) F.entry_int_rmul (F.args_int_rmul_2 _ _) (int_rmul_tuple 1 t l its.toArray n dd sl)
        ⟨ho, rfl, ⟨_, ho, rfl⟩, call_meets F.slot_tuple_mul ⟨_, ho, rfl⟩ F.entry_tuple_mul (F.args_tuple_mul_2 _ _) (tmul_one l its.toArray n dd sl 1 t (by decide) (by rw [hi]; rfl)) ⟨ho, ?_⟩⟩)
    exact ⟨.ref l, H, I, rfl, q⟩
  · refine wpAny_binaryOp_repeat_ref (T := "tuple") (U := "int") (by decide) ⟨_, ho, rfl⟩ (fun s' => typeIs_int s' 0 t) noFill_tuple_mul F.fills_int_mul F.slot_int_rmul repeat_tuple F.slot_int_index.lookup
      (call_meets F.slot_int_rmul (typeIs_int s 0 t) F.entry_int_rmul (F.args_int_rmul_2 _ _) (int_rmul_tuple 0 t l its.toArray n dd sl)
        ⟨ho, rfl, ⟨_, ho, rfl⟩, call_meets F.slot_tuple_mul ⟨_, ho, rfl⟩ F.entry_tuple_mul (F.args_tuple_mul_2 _ _) (tmul_zero l its.toArray n dd sl 0 t (by decide) (by rw [hi]; rfl) (by rfl)) ⟨ho, ?_⟩⟩)
    refine ⟨.ref s.heap.objs.size, _, I.laid (t' := s.toks) (o := .tup []) (fun b ob q => Heap.get?_push_of_some _ q) (Nat.le_refl _) ?_, rfl, q _ (I.hok.fresh (Nat.le_refl _))⟩
    exact ⟨Nat.zero_le _, [], .nil, IsTup.new _ _⟩
theorem op_repL : OpR X (binaryOp .Mult) (rRepL X.K) := by
  intro pins s σ H x y v u Q I rx ry h
  obtain ⟨l, k, xs, rfl, rfl, hT, h1, h2, hz, q⟩ := h
  cases rx
  obtain ⟨t, rfl⟩ := ry
  obtain ⟨its, r, hp, hs⟩ := I.list hT
  obtain ⟨⟨cls, dd, data, sl⟩, ho, hc, n, hd⟩ := hp.isList
  simp only at hc hd
  subst hc hd
  have hle : its.length = xs.length := r.length.symm
  have hm : its.toArray.size * k.toNat ≤ 1000 * 1000 := by
    rw [List.size_toArray, hle]
    exact Nat.mul_le_mul hz (by omega)
  have flen : (List.replicate k.toNat its).flatten.length ≤ sizeLine := by
    rw [PyProof.Rows.lm_len_rep_flat, hle, sizeLine_eq]
    have a1 : k.toNat * xs.length ≤ 1000 * 1000 := Nat.mul_le_mul (by omega) hz
    omega
  refine wpAny_binaryOp_repeat_ref (T := "list") (U := "int") (by decide) ⟨_, ho, rfl⟩ (fun s' => typeIs_int s' k t) noFill_list_mul F.fills_int_mul F.slot_int_rmul repeat_list F.slot_int_index.lookup
    (call_meets F.slot_int_rmul (typeIs_int s k t) F.entry_int_rmul (F.args_int_rmul_2 _ _) (lm_int_rmul_list_any k t l its.toArray n dd sl)
      ⟨ho, rfl, ⟨_, ho, rfl⟩, call_meets F.slot_list_mul ⟨_, ho, rfl⟩ F.entry_list_mul (F.args_list_mul_2 _ _)
        (lm_list_mul_any l its.toArray n dd sl k t (by simp [Builtin.List.listFitsIndex]; omega) (Nat.not_lt.mpr (Nat.le_trans hm (by decide))) (by unfold Builtin.List.listTooLong; rw [sizeLine_eq]; rw [decide_eq_true_iff]; exact Nat.not_lt.mpr (Nat.le_trans hm (by decide))))
        ⟨ho, ?_⟩⟩)
  rw [listMul_foldl_if]
  refine ⟨.ref s.heap.objs.size, _, I.laid (t' := s.toks) (o := .lst (List.replicate k.toNat xs).flatten) (fun b ob q => Heap.get?_push_of_some _ q) (Nat.le_refl _) ?_, rfl, q _ (I.hok.fresh (Nat.le_refl _))⟩
  exact ⟨by rw [PyProof.Rows.lm_len_rep_flat, sizeLine_eq]; have a1 : k.toNat * xs.length ≤ 1000 * 1000 := Nat.mul_le_mul (by omega) hz; omega, _, _, r.rep k.toNat, Heap.get?_push_size _ rfl⟩
end
/-! the operator on data -/
def mulAD : PyData → PyData → Option PyData
  | .int i, .int j => mulD (.int i) (.int j)
  | .tuple xs, .int k => if 0 ≤ k ∧ k ≤ 1000 ∧ xs ≠ [] ∧ xs.length ≤ 1000 then some (.tuple (List.replicate k.toNat xs).flatten) else none
  | .list xs, .int k => if 0 ≤ k ∧ k ≤ 1000 ∧ xs.length ≤ 1000 then some (.list (List.replicate k.toNat xs).flatten) else none
  | _, _ => none
abbrev rMulA (K : PySem.W.Frag) : R2 := fun x y H Q => rI CMul (fun i j => .int (i * j)) x y H Q ∨ rRepT K x y H Q ∨ rRepT01 K x y H Q ∨ rRepL K x y H Q
theorem oMulA {X : Cx} : OpR X (binaryOp .Mult) (rMulA X.K) := op_mul.or (op_repT.or (op_repT01.or op_repL))
theorem DdAll.rep {L : Fn} {H : Hp} {vs : List V} {ds : List PyData} (h : DdAll L H vs ds) : ∀ n : Nat, DdAll L H (List.replicate n vs).flatten (List.replicate n ds).flatten
  | 0 => .nil
  | n + 1 => by rw [List.replicate_succ, List.replicate_succ, List.flatten_cons, List.flatten_cons]; exact h.app (h.rep n)
theorem dMulA {K : PySem.W.Frag} {L : Fn} : R2D L (rMulA K) mulAD := by
  intro x y d e z Hf H Q ex hx hy hz k
  unfold mulAD at hz
  split at hz
  · exact .inl (dMul x y _ _ z Hf H Q ex hx hy hz k)
  · rename_i xs i
    obtain ⟨⟨c1, c2, c3, c4⟩, rfl⟩ := if_of hz
    cases hx with
    | @tup a vs ds h1 h2 =>
      have hne : vs ≠ [] := fun e => c3 (h2.nil_iff.mp e)
      by_cases h : 2 ≤ i
      · refine .inr (.inl ⟨a, i, vs, rfl, hy.isint, .of (ex _ _ h1), hne, h, c2, by rw [h2.len]; exact c4, fun p hp => ?_⟩)
        exact k _ _ _ (.new ex hp) (.tup upd_same ((Ex.new (ex.none hp)).dpAll (h2.rep _)))
      · have : i = 1 ∨ i = 0 := by omega
        rcases this with rfl | rfl
        · refine .inr (.inr (.inl ⟨a, 1, vs, rfl, hy.isint, .of (ex _ _ h1), hne, .inl ⟨rfl, ?_⟩⟩))
          have := k (.ref a) Hf H (.refl ex)
          refine this (.tup h1 ?_)
          have r := h2.rep 1
          have e1 : (List.replicate 1 vs).flatten = vs := by simp
          rw [e1] at r
          exact r
        · exact .inr (.inr (.inl ⟨a, 0, vs, rfl, hy.isint, .of (ex _ _ h1), hne, .inr ⟨rfl, fun p hp => k _ _ _ (.new ex hp) (.tup upd_same .nil)⟩⟩))
  · rename_i xs i
    obtain ⟨⟨c1, c2, c4⟩, rfl⟩ := if_of hz
    cases hx with
    | @lst a vs ds h1 h2 =>
      refine .inr (.inr (.inr ⟨a, i, vs, rfl, hy.isint, .of (ex _ _ h1), c1, c2, by rw [h2.len]; exact c4, fun p hp => ?_⟩))
      exact k _ _ _ (.new ex hp) (.lst upd_same ((Ex.new (ex.none hp)).dpAll (h2.rep _)))
  · cases hz
end DL

namespace DL
open PySem PySem.Spec PyProof.Rows L2
section
variable {X : Cx} {G : Fx} {a b c : Expr} {pos : Pos}
/-- a, b, c = e1, e2, e3 -/
def sPar3 (i j l : Nat) (t u w : DTR) : DTS := fun D ρ => t ρ fun r ρ1 => u ρ1 fun r' ρ2 => w ρ2 fun r'' ρ3 => D.nx (((ρ3.set i (some r)).set j (some r')).set l (some r''))
theorem air_sep {H0 Hf1 H1 Hf2 H2 : Hp} {ω0 ω1 ω2 : Addr → Option Nat} {S S' : Own} (h : Air H0 ω0 Hf1 H1 ω1 S) (h' : Air H1 ω1 Hf2 H2 ω2 S') : ∀ b, S' b → ¬ S b := fun b hb z => by
  obtain ⟨_, _, w3, o', w4⟩ := h b z
  rcases (h' b hb).1 with z1 | ⟨j', z1⟩
  · rw [w4] at z1; cases z1
  · rw [w3] at z1; cases z1
theorem RepV.stp {H0 Hf H Hf1 H1 : Hp} {ω0 ω ω1 : Addr → Option Nat} {v : V} {r : Res} {S : Own} (st : Stp Hf H ω Hf1 H1 ω1) (hS : Air H0 ω0 Hf H ω S) (hv : RepV G.K Hf H S v r) : RepV G.K Hf1 H1 S v r :=
  hv.mono st.fz (fun b hb => by
    obtain ⟨z1, z2, z3, o, z4⟩ := hS b hb
    rw [z4]; exact st.fr b o z4 z3) fun _ z => z
theorem ds_par3 {i j l : Nat} {x y z : Str} {t u w : DTR} {px py pz pt : Pos} {kt k2 pt2} (hc : X.calm = true) (hFi : i ∉ G.F) (hFj : j ∉ G.F) (hFl : l ∉ G.F) (hN : X.N.Nodup) (hi : X.N[i]? = some x) (hj : X.N[j]? = some y) (hl : X.N[l]? = some z) (hij : i ≠ j) (hil : i ≠ l) (hjl : j ≠ l)
    (hx : X.env.scope.names.lookup x = some .local) (hy : X.env.scope.names.lookup y = some .local) (hz : X.env.scope.names.lookup z = some .local) (ha : DR X G a t) (hb : DR X G b u) (hcc : DR X G c w)
    (hs0 : starEach (a :: [b, c]) X.env = (false, eval a X.env) :: starEach [b, c] X.env := by rfl) (hs1 : starEach (b :: [c]) X.env = (false, eval b X.env) :: starEach [c] X.env := by rfl) (hs2 : starEach (c :: []) X.env = (false, eval c X.env) :: starEach [] X.env := by rfl)
    (hw : swappedStores [.Tuple [.Name x px, .Name y py, .Name z pz] kt pt] (.Tuple [a, b, c] k2 pt2) X.env = pure (some [x, y, z]) := by rfl)
    (hs : swapsWithSole [.Tuple [.Name x px, .Name y py, .Name z pz] kt pt] (.Tuple [a, b, c] k2 pt2) pos.line X.env = pure false := by rfl) :
    DS X G (.Assign [.Tuple [.Name x px, .Name y py, .Name z pz] kt pt] (.Tuple [a, b, c] k2 pt2) pos) (sPar3 i j l t u w) :=
  ps_imp (ps_par3 hc hN hi hj hl hij hil hjl hx hy hz (pa_cons ha (pa_cons hb (pa_cons hcc pa_nil hs2) hs1) hs0) hw hs) fun D σ H ⟨Hf, ω, ρ, Dd, rep, ht, k1, _⟩ => by
  refine ⟨Hf, ω, ρ, _, rep, ht, fun v H1 Hf1 ω1 ρ1 r S rep1 st1 hS hv q1 => ⟨Hf1, ω1, ρ1, _, rep1, q1, fun v' H2 Hf2 ω2 ρ2 r' S' rep2 st2 hS' hv' q2 => ⟨Hf2, ω2, ρ2, _, rep2, q2, fun v'' H3 Hf3 ω3 ρ3 r'' S'' rep3 st3 hS'' hv'' q3 => ⟨v, v', v'', rfl, ?_⟩⟩⟩⟩
  have st23 := st2.trans st3
  have A1 := air_stp st23 hS
  have V1 : RepV G.K Hf3 H3 S v r := RepV.stp st23 hS hv
  have A2 := air_stp st3 hS'
  have V2 : RepV G.K Hf3 H3 S' v' r' := RepV.stp st3 hS' hv'
  have n12 := air_sep hS hS'
  have n13 := air_sep (air_stp st2 hS) hS''
  have n23 := air_sep hS' hS''
  obtain ⟨ω4, r4, s4, n4⟩ := rep3.put ((st1.trans st2).trans st3) hFi A1 V1
  have A2' : Air H ω Hf3 H3 ω4 S' := fun b hb => by
    obtain ⟨z1, z2, z3, z4⟩ := A2 b hb
    exact ⟨back_air st1 z1, z2, n4 b z3 (n12 b hb), z4⟩
  obtain ⟨ω5, r5, s5, n5⟩ := r4.put s4 hFj A2' V2
  have A3' : Air H ω Hf3 H3 ω5 S'' := fun b hb => by
    obtain ⟨z1, z2, z3, z4⟩ := hS'' b hb
    exact ⟨back_air (st1.trans st2) z1, z2, n5 b (n4 b z3 (n13 b hb)) (n23 b hb), z4⟩
  obtain ⟨ω6, r6, s6, _⟩ := r5.put s5 hFl A3' hv''
  exact k1 _ _ _ _ _ r6 s6 q3
end
end DL

/-! the promises and the mathematics of the package's defs -/
namespace LW
open PySem PySem.Spec PyProof.Rows L2 DL

abbrev tI (xs : List Int) : PyData := .tuple (xs.map .int)
abbrev lI' (xs : List Int) : PyData := .list (xs.map .int)
abbrev rD (r : Rl) : PyData := .tuple [kD r.ln, .int r.c, .int r.p]
/-- a rule that the document allows -/
structure RlOk (r : Rl) : Prop where
  c1 : 1 ≤ r.c
  c2 : r.c ≤ 20
  p1 : 1 ≤ r.p
  p2 : r.p ≤ 1000
/-! ### lists -/
theorem tk_succ {α : Type} {f : PyData → α} {ds : List PyData} {k : Nat} {d : PyData} (h : ds[k]? = some d) : (ds.take (k + 1)).map f = (ds.take k).map f ++ [f d] := by
  rw [List.take_add_one, h, List.map_append]; rfl
theorem tk_succ' {α β : Type} {f : α → β} {ds : List α} {k : Nat} {d : α} (h : ds[k]? = some d) : (ds.take (k + 1)).map f = (ds.take k).map f ++ [f d] := by
  rw [List.take_add_one, h, List.map_append]; rfl
theorem tk_len {α : Type} {f : PyData → α} {ds : List PyData} {k n : Nat} {d : PyData} (h : ds[k]? = some d) (hn : ds.length ≤ n) : ((ds.take k).map f).length < n := by
  have : k < ds.length := by
    by_cases q : k < ds.length
    · exact q
    · rw [List.getElem?_eq_none (by omega)] at h; cases h
  rw [List.length_map, List.length_take]; omega
theorem lt_of_get {α : Type} {ds : List α} {k : Nat} {d : α} (h : ds[k]? = some d) : k < ds.length := by
  by_cases q : k < ds.length
  · exact q
  · rw [List.getElem?_eq_none (by omega)] at h; cases h
theorem mem_of_get {α : Type} {ds : List α} {k : Nat} {d : α} (h : ds[k]? = some d) : d ∈ ds := List.mem_of_getElem? h
theorem map_get {α β : Type} {f : α → β} {ds : List α} {k : Nat} {d : β} (h : (ds.map f)[k]? = some d) : ∃ x, ds[k]? = some x ∧ f x = d := by
  rw [List.getElem?_map] at h
  exact Option.map_eq_some_iff.mp h
/-! ### what the recognizers say -/
def isIntB (d : PyData) (lo hi : Int) : Bool := match d with
  | .int i => decide (lo ≤ i) && decide (i ≤ hi)
  | _ => false
def isRuleB (d : PyData) : Bool := match d with
  | .tuple [.str k, c, p] => (decide (k = "line") || decide (k = "side")) && isIntB c 1 20 && isIntB p 1 1000
  | _ => false
def ascB : List Int → Bool
  | a :: b :: r => decide (a ≤ b) && ascB (b :: r)
  | _ => true
/-- ascending -/
def Asc : List Int → Prop
  | a :: b :: r => a ≤ b ∧ Asc (b :: r)
  | _ => True
theorem ascB_iff : ∀ xs : List Int, ascB xs = true ↔ Asc xs
  | [] => by simp [ascB, Asc]
  | [a] => by simp [ascB, Asc]
  | a :: b :: r => by simp [ascB, Asc, ascB_iff (b :: r)]
structure RowOk (ns : List Int) : Prop where
  len : ns.length ≤ 60
  rng : ∀ n ∈ ns, 0 ≤ n ∧ n ≤ 1000000000
  asc : Asc ns
def isRowB (d : PyData) : Bool := match d with
  | .tuple ds => decide (ds.length ≤ 60) && ds.all (fun d => isIntB d 0 1000000000) && (match intsD ds with
    | some ns => ascB ns
    | none => false)
  | _ => false
theorem isRowB_ok {ns : List Int} (h : RowOk ns) : isRowB (tI ns) = true := by
  unfold isRowB tI
  simp only [List.length_map, intsD_map, Bool.and_eq_true, decide_eq_true_eq, (ascB_iff ns).mpr h.asc, and_true, h.len, true_and]
  rw [List.all_eq_true]
  intro d hd
  obtain ⟨n, hn, rfl⟩ := List.mem_map.mp hd
  have := h.rng n hn
  simp [isIntB, this.1, this.2]
theorem isRuleB_ok {r : Rl} (h : RlOk r) : isRuleB (rD r) = true := by
  obtain ⟨ln, c, p⟩ := r
  have h1 := h.c1; have h2 := h.c2; have h3 := h.p1; have h4 := h.p2
  simp only at h1 h2 h3 h4
  have e1 : isIntB (.int c) 1 20 = true := by simp [isIntB, h1, h2]
  have e2 : isIntB (.int p) 1 1000 = true := by simp [isIntB, h3, h4]
  cases ln
  · show ((decide (("side" : Str) = "line") || decide (("side" : Str) = "side")) && isIntB (.int c) 1 20 && isIntB (.int p) 1 1000) = true
    rw [e1, e2, decide_eq_true (rfl : ("side" : Str) = "side"), Bool.or_true]; rfl
  · show ((decide (("line" : Str) = "line") || decide (("line" : Str) = "side")) && isIntB (.int c) 1 20 && isIntB (.int p) 1 1000) = true
    rw [e1, e2, decide_eq_true (rfl : ("line" : Str) = "line"), Bool.true_or]; rfl
theorem isRuleB_len {ds : List PyData} (h : ds.length ≠ 3) : isRuleB (.tuple ds) = false := by
  match ds, h with
  | [], _ => rfl
  | [a], _ => cases a <;> rfl
  | [a, b], _ => cases a <;> rfl
  | [a, b, c], h => exact absurd rfl h
  | a :: b :: c :: e :: r, _ => cases a <;> rfl
def sp_is_integer : SpD := fun rs P _ => ∃ d lo hi, rs = [.fz d, .fz (.int lo), .fz (.int hi)] ∧ d.canLay0 = true ∧ ∀ af, P (.fz (.bool (isIntB d lo hi))) af
def sp_is_rule : SpD := fun rs P _ => ∃ d, rs = [.fz d] ∧ d.canLay0 = true ∧ ∀ af, P (.fz (.bool (isRuleB d))) af
def sp_is_row : SpD := fun rs P _ => ∃ d, rs = [.fz d] ∧ d.canLay0 = true ∧ ∀ af, P (.fz (.bool (isRowB d))) af
def sp_need_rule : SpD := fun rs P _ => ∃ r : Rl, rs = [.fz (rD r)] ∧ RlOk r ∧ ∀ af, P (.fz .none) af
def sp_need_row : SpD := fun rs P _ => ∃ ns, rs = [.fz (tI ns)] ∧ RowOk ns ∧ ∀ af, P (.fz .none) af
theorem isi_eq {T : String} {d : PyData} : isiD T [d, .dict [(.str (Str.ofString T), .none)]] = (isT T d).map .bool := by
  unfold isiD; exact if_pos rfl
theorem lay_tI (ns : List Int) : (tI ns).canLay0 = true := (Enc.fit (Tp.mk ns)).1
theorem lay_rD (r : Rl) : (rD r).canLay0 = true := (Enc.fit r).1
theorem lay_mem {ds : List PyData} (h : PyData.canLay0 (.tuple ds) = true) : ∀ d ∈ ds, d.canLay0 = true := by
  rw [PyData.canLay0] at h
  induction ds with
  | nil => intro d hd; cases hd
  | cons e r ih =>
    rw [PyData.canLayAll0, Bool.and_eq_true] at h
    intro d hd
    rcases List.mem_cons.mp hd with rfl | hd
    · exact h.1
    · exact ih h.2 d hd
/-! .. of each built-in class -/
theorem isT_int_none : isT "int" .none = some false := by rfl
theorem isT_int_bool (x : Bool) : isT "int" (.bool x) = some true := by rfl
theorem isT_int_int (x : Int) : isT "int" (.int x) = some true := by rfl
theorem isT_int_str (x : Str) : isT "int" (.str x) = some false := by rfl
theorem isT_int_list (x : List PyData) : isT "int" (.list x) = some false := by rfl
theorem isT_int_tuple (x : List PyData) : isT "int" (.tuple x) = some false := by rfl
theorem isT_bool_none : isT "bool" .none = some false := by rfl
theorem isT_bool_bool (x : Bool) : isT "bool" (.bool x) = some true := by rfl
theorem isT_bool_int (x : Int) : isT "bool" (.int x) = some false := by rfl
theorem isT_bool_str (x : Str) : isT "bool" (.str x) = some false := by rfl
theorem isT_bool_list (x : List PyData) : isT "bool" (.list x) = some false := by rfl
theorem isT_bool_tuple (x : List PyData) : isT "bool" (.tuple x) = some false := by rfl
theorem isT_str_none : isT "str" .none = some false := by rfl
theorem isT_str_bool (x : Bool) : isT "str" (.bool x) = some false := by rfl
theorem isT_str_int (x : Int) : isT "str" (.int x) = some false := by rfl
theorem isT_str_str (x : Str) : isT "str" (.str x) = some true := by rfl
theorem isT_str_list (x : List PyData) : isT "str" (.list x) = some false := by rfl
theorem isT_str_tuple (x : List PyData) : isT "str" (.tuple x) = some false := by rfl
theorem isT_tuple_none : isT "tuple" .none = some false := by rfl
theorem isT_tuple_bool (x : Bool) : isT "tuple" (.bool x) = some false := by rfl
theorem isT_tuple_int (x : Int) : isT "tuple" (.int x) = some false := by rfl
theorem isT_tuple_str (x : Str) : isT "tuple" (.str x) = some false := by rfl
theorem isT_tuple_list (x : List PyData) : isT "tuple" (.list x) = some false := by rfl
theorem isT_tuple_tuple (x : List PyData) : isT "tuple" (.tuple x) = some true := by rfl
theorem isT_list_none : isT "list" .none = some false := by rfl
theorem isT_list_bool (x : Bool) : isT "list" (.bool x) = some false := by rfl
theorem isT_list_int (x : Int) : isT "list" (.int x) = some false := by rfl
theorem isT_list_str (x : Str) : isT "list" (.str x) = some false := by rfl
theorem isT_list_list (x : List PyData) : isT "list" (.list x) = some true := by rfl
theorem isT_list_tuple (x : List PyData) : isT "list" (.tuple x) = some false := by rfl
theorem resD_fz (d : PyData) (k : PyData → Prop) : resD (.fz d) k = k d := rfl
theorem resD_ls (d : List PyData) (k : PyData → Prop) : resD (.ls d) k = k (.list d) := rfl
theorem scal_i (i : Int) : scalD (.int i) = true := rfl
theorem scal_b (i : Bool) : scalD (.bool i) = true := rfl
theorem scal_s (i : Str) : scalD (.str i) = true := rfl
theorem scal_n : scalD .none = true := rfl
theorem any_k (k : Str) : ([.str "line", .str "side"] : List PyData).any (fun y => y.eqv (.str k)) = (decide (k = "line") || decide (k = "side")) := by
  rw [List.any_cons, List.any_cons, List.any_nil, Bool.or_false, PyData.eqv, PyData.eqv]
  congr 1 <;> (rw [Bool.eq_iff_iff]; simp only [beq_iff_eq, decide_eq_true_eq]; exact ⟨fun h => h.symm, fun h => h.symm⟩)
theorem bols_mapf {α : Type} (g : α → Bool) (ds : List α) : bolsD (ds.map fun d => .bool (g d)) = some (ds.map g) := by
  have := bolsD_map (ds.map g)
  rwa [List.map_map] at this
/-! ### loops -/
theorem lc_go {vs : List Nat} {ti : DTL} {g : DTG} {tt : DTT} {te : DTE} {ρ : DSt} {Q : Res → DSt → Prop} (ds : List PyData) (ρ1 : DSt) (I : Nat → List PyData → DSt → Prop) (hti : ∀ R : List PyData → DSt → Prop, R ds ρ1 → ti ρ R) (h0 : I 0 [] (wipeD ρ1 vs))
    (hs : ∀ (k : Nat) d acc ρ', ds[k]? = some d → I k acc ρ' → g d ρ' fun ρ2 => tt ρ2 fun b ρ3 => ifB b (te ρ3 fun y ρ4 => acc.length < 100000 ∧ I (k + 1) (acc ++ [y]) (wipeD ρ4 vs)) (I (k + 1) acc (wipeD ρ3 vs)))
    (he : ∀ acc ρ', I ds.length acc ρ' → Q (.ls acc) ρ') : tLcD vs ti g tt te ρ Q := hti _ ⟨I, h0, hs, he⟩
theorem lc_map {vs : List Nat} {ti : DTL} {g : DTG} {te : DTE} {ρ : DSt} {Q : Res → DSt → Prop} (ds : List PyData) (ρ1 ρw : DSt) (f : PyData → PyData) (hti : ∀ R : List PyData → DSt → Prop, R ds ρ1 → ti ρ R) (hw : wipeD ρ1 vs = ρw) (hn : ds.length ≤ 100000)
    (hs : ∀ (k : Nat) d (R : PyData → DSt → Prop), ds[k]? = some d → (∀ ρ4, wipeD ρ4 vs = ρw → R (f d) ρ4) → g d ρw fun ρ2 => te ρ2 R)
    (he : Q (.ls (ds.map f)) ρw) : tLcD vs ti g tYesD te ρ Q := by
  refine lc_go ds ρ1 (fun k acc ρ' => acc = (ds.take k).map f ∧ ρ' = ρw) hti ⟨rfl, hw⟩ (fun k d acc ρ' hk hI => ?_) (fun acc ρ' hI => ?_)
  · obtain ⟨rfl, rfl⟩ := hI
    exact hs k d _ hk fun ρ4 h4 => ⟨tk_len hk hn, (tk_succ hk).symm, h4⟩
  · obtain ⟨rfl, rfl⟩ := hI
    rw [List.take_length]; exact he
theorem nx0 (c l : PyData) (d : List PyData) : ixD (.list (nlD [.inl c, .inr d, .inl l])) (.int 0) = some c := rfl
theorem nx1 (c l : PyData) (d : List PyData) : ixD (.list (nlD [.inl c, .inr d, .inl l])) (.int 1) = some (.list d) := rfl
theorem nx2 (c l : PyData) (d : List PyData) : ixD (.list (nlD [.inl c, .inr d, .inl l])) (.int 2) = some l := rfl
theorem ixN30 : ixN 3 0 = some 0 := rfl
theorem ixN32 : ixN 3 2 = some 2 := rfl
theorem ixN20 : ixN 2 0 = some 0 := rfl
theorem ixN21 : ixN 2 1 = some 1 := rfl
theorem ix_c0 (x : PyData) (r : List PyData) : ixD (.list (x :: r)) (.int 0) = some x := by
  show atI (x :: r) 0 = _
  unfold atI ixN
  simp
theorem and_no {a : Bool} {g q : Prop} (h : a = true → (g ↔ q)) (hq : q) : ifB a g q := by
  cases a with
  | true => exact (h rfl).mpr hq
  | false => exact hq
/-- what follows is not looked at yet -/
inductive hold (f : DSt → Prop) (ρ : DSt) : Prop where
  | mk (h : f ρ) : hold f ρ
theorem hold_go {f : DSt → Prop} {ρ : DSt} (h : f ρ) : hold f ρ := .mk h
theorem hold_eq (f : DSt → Prop) : hold f = f := funext fun ρ => propext ⟨fun h => h.1, .mk⟩
theorem sSeq_h (t u : DTS) (D : DEnds) (ρ : DSt) : sSeq t u D ρ = t { D with nx := hold (u D) } ρ := by rw [hold_eq]; rfl
/-- a loop over ds from ρ1 -/
def ForP (g : DTG) (tb : DTS) (D : DEnds) (ds : List PyData) (ρ1 : DSt) : Prop := ∃ I : Nat → DSt → Prop, I 0 ρ1 ∧
  (∀ k d ρ', ds[k]? = some d → I k ρ' → g d ρ' fun ρ2 => tb { D with nx := I (k + 1), ct := I (k + 1), bk := D.nx } ρ2) ∧ ∀ ρ', I ds.length ρ' → D.nx ρ'
theorem for_un {ti : DTL} {g : DTG} {tb : DTS} {D : DEnds} {ρ : DSt} (h : ti ρ (ForP g tb D)) : sFor ti g tb D ρ := h
theorem for_p {g : DTG} {tb : DTS} {D : DEnds} {ds : List PyData} {ρ1 : DSt} (I : Nat → DSt → Prop) (h0 : I 0 ρ1)
    (hs : ∀ (k : Nat) d ρ', ds[k]? = some d → I k ρ' → g d ρ' fun ρ2 => tb { D with nx := I (k + 1), ct := I (k + 1), bk := D.nx } ρ2) (he : ∀ ρ', I ds.length ρ' → D.nx ρ') : ForP g tb D ds ρ1 := ⟨I, h0, hs, he⟩
/-- a comprehension over ds from ρ1 -/
def LcP (vs : List Nat) (g : DTG) (tt : DTT) (te : DTE) (Q : Res → DSt → Prop) (ds : List PyData) (ρ1 : DSt) : Prop := ∃ I : Nat → List PyData → DSt → Prop, I 0 [] (wipeD ρ1 vs) ∧
  (∀ k d acc ρ', ds[k]? = some d → I k acc ρ' → g d ρ' fun ρ2 => tt ρ2 fun b ρ3 => ifB b (te ρ3 fun y ρ4 => acc.length < 100000 ∧ I (k + 1) (acc ++ [y]) (wipeD ρ4 vs)) (I (k + 1) acc (wipeD ρ3 vs))) ∧
  ∀ acc ρ', I ds.length acc ρ' → Q (.ls acc) ρ'
theorem lc_un {vs : List Nat} {ti : DTL} {g : DTG} {tt : DTT} {te : DTE} {ρ : DSt} {Q : Res → DSt → Prop} (h : ti ρ (LcP vs g tt te Q)) : tLcD vs ti g tt te ρ Q := h
theorem lc_p {vs : List Nat} {g : DTG} {tt : DTT} {te : DTE} {Q : Res → DSt → Prop} {ds : List PyData} {ρ1 : DSt} (I : Nat → List PyData → DSt → Prop) (h0 : I 0 [] (wipeD ρ1 vs))
    (hs : ∀ (k : Nat) d acc ρ', ds[k]? = some d → I k acc ρ' → g d ρ' fun ρ2 => tt ρ2 fun b ρ3 => ifB b (te ρ3 fun y ρ4 => acc.length < 100000 ∧ I (k + 1) (acc ++ [y]) (wipeD ρ4 vs)) (I (k + 1) acc (wipeD ρ3 vs)))
    (he : ∀ acc ρ', I ds.length acc ρ' → Q (.ls acc) ρ') : LcP vs g tt te Q ds ρ1 := ⟨I, h0, hs, he⟩
theorem lc_pm {vs : List Nat} {g : DTG} {te : DTE} {Q : Res → DSt → Prop} {ds : List PyData} {ρ1 : DSt} (ρw : DSt) (f : PyData → PyData) (hw : wipeD ρ1 vs = ρw) (hn : ds.length ≤ 100000)
    (hs : ∀ (k : Nat) d (R : PyData → DSt → Prop), ds[k]? = some d → (∀ ρ4, wipeD ρ4 vs = ρw → R (f d) ρ4) → g d ρw fun ρ2 => te ρ2 R)
    (he : Q (.ls (ds.map f)) ρw) : LcP vs g tYesD te Q ds ρ1 := by
  refine lc_p (fun k acc ρ' => acc = (ds.take k).map f ∧ ρ' = ρw) ⟨rfl, hw⟩ (fun k d acc ρ' hk hI => ?_) (fun acc ρ' hI => ?_)
  · obtain ⟨rfl, rfl⟩ := hI
    exact hs k d _ hk fun ρ4 h4 => ⟨tk_len hk hn, (tk_succ hk).symm, h4⟩
  · obtain ⟨rfl, rfl⟩ := hI
    rw [List.take_length]; exact he
theorem for_go {ti : DTL} {g : DTG} {tb : DTS} {D : DEnds} {ρ : DSt} (ds : List PyData) (ρ1 : DSt) (I : Nat → DSt → Prop) (hti : ∀ R : List PyData → DSt → Prop, R ds ρ1 → ti ρ R) (h0 : I 0 ρ1)
    (hs : ∀ (k : Nat) d ρ', ds[k]? = some d → I k ρ' → g d ρ' fun ρ2 => tb { D with nx := I (k + 1), ct := I (k + 1), bk := D.nx } ρ2) (he : ∀ ρ', I ds.length ρ' → D.nx ρ') : sFor ti g tb D ρ := hti _ ⟨I, h0, hs, he⟩
theorem while_go {c : DTT} {tb : DTS} {D : DEnds} {ρ : DSt} (I : Nat → DSt → Prop) (m : Nat) (h0 : I m ρ)
    (hs : ∀ m ρ', I m ρ' → c ρ' fun b ρ1 => ifB b (tb { D with nx := fun ρ2 => ∃ m', m' < m ∧ I m' ρ2, ct := fun ρ2 => ∃ m', m' < m ∧ I m' ρ2, bk := D.nx } ρ1) (D.nx ρ1)) : sWhile c tb D ρ := ⟨I, ⟨m, h0⟩, hs⟩
theorem slice_t1 (x : PyData) (xs : List PyData) : sliceD (.tuple (x :: xs)) (some 1) none = some (.tuple xs) := by
  show some (PyData.tuple (DL.cutD (x :: xs) (some 1) none)) = _
  congr 2
  unfold DL.cutD
  have e1 : HT.sIx (x :: xs).length 0 (some 1) = 1 := by
    unfold HT.sIx
    simp
  have e2 : HT.sIx (x :: xs).length (x :: xs).length none = (x :: xs).length := rfl
  rw [e1, e2]
  simp
theorem slice_t0 : sliceD (.tuple []) (some 1) none = some (.tuple []) := rfl
theorem asc_pairs : ∀ ns : List Int, (ns.zip ns.tail).all (fun p => decide (p.1 ≤ p.2)) = ascB ns
  | [] => rfl
  | [a] => rfl
  | a :: b :: r => by
    have ih := asc_pairs (b :: r)
    simp only [List.tail_cons] at ih ⊢
    rw [List.zip_cons_cons, List.all_cons, ih]; rfl
theorem zip_tI (xs ys : List Int) : zipD (xs.map .int) (ys.map .int) = (xs.zip ys).map fun p => .tuple [.int p.1, .int p.2] := by
  unfold zipD
  rw [List.zip_map, List.map_map]; rfl
def prD (g : Int → Int → PyData) (d : PyData) : PyData := match d with
  | .tuple [.int a, .int b] => g a b
  | _ => .none
theorem zip_pr (g : Int → Int → PyData) (xs ys : List Int) : (zipD (xs.map .int) (ys.map .int)).map (prD g) = (xs.zip ys).map fun p => g p.1 p.2 := by
  rw [zip_tI, List.map_map]; rfl
theorem zip_get {xs ys : List Int} {k : Nat} {d : PyData} (h : (zipD (xs.map .int) (ys.map .int))[k]? = some d) : ∃ a b, d = .tuple [.int a, .int b] ∧ xs[k]? = some a ∧ ys[k]? = some b := by
  obtain ⟨x, y, h1, h2, rfl⟩ := zipD_get h
  obtain ⟨a, ha, rfl⟩ := map_get h1
  obtain ⟨b, hb, rfl⟩ := map_get h2
  exact ⟨a, b, rfl, ha, hb⟩
theorem slice_tl (ns : List Int) : sliceD (tI ns) (some 1) none = some (tI ns.tail) := by
  cases ns with
  | nil => exact slice_t0
  | cons a r => exact slice_t1 _ _
theorem ints_of_all {ds : List PyData} {lo hi : Int} (h : ds.all (fun d => isIntB d lo hi) = true) : ∃ ns : List Int, ds = ns.map .int ∧ ∀ n ∈ ns, lo ≤ n ∧ n ≤ hi := by
  induction ds with
  | nil => exact ⟨[], rfl, by simp⟩
  | cons d r ih =>
    rw [List.all_cons, Bool.and_eq_true] at h
    obtain ⟨ns, rfl, hn⟩ := ih h.2
    cases d with
    | int i =>
      have h1 : (decide (lo ≤ i) && decide (i ≤ hi)) = true := h.1
      rw [Bool.and_eq_true, decide_eq_true_eq, decide_eq_true_eq] at h1
      refine ⟨i :: ns, rfl, fun n hm => ?_⟩
      rcases List.mem_cons.mp hm with rfl | hm
      · exact h1
      · exact hn n hm
    | _ => cases h.1
/-! ### the uses -/
/-- one more charge is taken at t: the times at which charges come back -/
def takeL (r : Rl) (bs : List Int) (t : Int) : List Int :=
  bs ++ [(if r.ln = true ∧ bs ≠ [] then max t (bs.getLast?.getD 0) else t) + r.p]
def sp_taken : SpD := fun rs P _ => ∃ (r : Rl) (bs : List Int) (t : Int), rs = [.fz (rD r), .fz (tI bs), .fz (.int t)] ∧ bs.length ≤ 1000 ∧ ∀ af, P (.fz (tI (takeL r bs t))) af
/-! ### small steps of readings -/
theorem neD_tI0 (bs : List Int) : neD (tI bs) (.tuple []) = some (.bool (!decide (bs = []))) := neD_tI bs []
theorem eqD_tI0 (bs : List Int) : eqD (tI bs) (.tuple []) = some (.bool (decide (bs = []))) := eqD_tI bs []
theorem eqD_lI (xs ys : List Int) : eqD (lI' xs) (lI' ys) = some (.bool (decide (xs = ys))) := eqD_enc xs ys (by decide)
theorem neD_lI (xs ys : List Int) : neD (lI' xs) (lI' ys) = some (.bool (!decide (xs = ys))) := neD_enc xs ys (by decide)
theorem neD_lI0 (bs : List Int) : neD (lI' bs) (.list []) = some (.bool (!decide (bs = []))) := neD_lI bs []
theorem eqD_lI0 (bs : List Int) : eqD (lI' bs) (.list []) = some (.bool (decide (bs = []))) := eqD_lI bs []
theorem ixN_last {n : Nat} (h : 0 < n) : ixN n (-1) = some (n - 1) := by
  unfold ixN
  split
  · omega
  · split <;> first | (congr 1; omega) | omega
theorem ix_last {bs : List Int} (h : bs ≠ []) : ixD (tI bs) (.int (-1)) = some (.int (bs.getLast?.getD 0)) := by
  have hl : 0 < bs.length := List.length_pos_iff.mpr h
  show (itemsD (tI bs)).bind (fun xs => atI xs (-1)) = _
  show atI (bs.map PyData.int) (-1) = _
  unfold atI
  rw [List.length_map, ixN_last hl]
  show (bs.map PyData.int)[bs.length - 1]? = _
  rw [List.getElem?_map, List.getLast?_eq_getElem?]
  cases q : bs[bs.length - 1]? with
  | none => rw [List.getElem?_eq_none_iff] at q; omega
  | some x => rfl
theorem ix_lastL {bs : List Int} (h : bs ≠ []) : ixD (lI' bs) (.int (-1)) = some (.int (bs.getLast?.getD 0)) := ix_last h
theorem ix_nat {bs : List Int} {i : Int} {x : Int} (h0 : 0 ≤ i) (h : bs[i.toNat]? = some x) : ixD (tI bs) (.int i) = some (.int x) := by
  show atI (bs.map PyData.int) i = _
  obtain ⟨j, rfl⟩ := Int.eq_ofNat_of_zero_le h0
  have h' : bs[j]? = some x := h
  exact atI_nat (by rw [List.getElem?_map, h']; rfl)
theorem ix_natL {bs : List Int} {i : Int} {x : Int} (h0 : 0 ≤ i) (h : bs[i.toNat]? = some x) : ixD (lI' bs) (.int i) = some (.int x) := ix_nat h0 h
theorem add_t1 {bs : List Int} {x : Int} (h : bs.length ≤ 10000) : addD (tI bs) (.tuple [.int x]) = some (tI (bs ++ [x])) := by
  show (if (bs.map PyData.int).length + 1 ≤ 100000 then _ else _) = _
  rw [if_pos (by rw [List.length_map]; omega)]
  simp [tI]
end LW

namespace LW
open PySem PySem.Spec PyProof.Rows L2 DL
/-! ### waiting -/
def lastD (xs : List Int) : Int := xs.getLast?.getD 0
/-- the time at which a press at t may be carried out: behind the last one, and when a charge is there -/
def srvT (r : Rl) (bs fd : List Int) (t : Int) : Int :=
  let t1 := if fd = [] then t else max t (lastD fd)
  if r.c ≤ bs.length then max t1 (bs[bs.length - r.c.toNat]?.getD 0) else t1
def srvStep (r : Rl) (s : List Int × List Int) (t : Int) : List Int × List Int := (takeL r s.1 (srvT r s.1 s.2 t), s.2 ++ [srvT r s.1 s.2 t])
def srvS (r : Rl) (ns : List Int) : List Int × List Int := ns.foldl (srvStep r) ([], [])
def servedL (r : Rl) (ns : List Int) : List Int := (srvS r ns).2
theorem takeL_len (r : Rl) (bs : List Int) (t : Int) : (takeL r bs t).length = bs.length + 1 := by unfold takeL; simp
theorem srv_len (r : Rl) : ∀ (ns : List Int) (s : List Int × List Int), (ns.foldl (srvStep r) s).1.length = s.1.length + ns.length ∧ (ns.foldl (srvStep r) s).2.length = s.2.length + ns.length
  | [], s => ⟨rfl, rfl⟩
  | t :: ns, s => by
    obtain ⟨h1, h2⟩ := srv_len r ns (srvStep r s t)
    rw [List.foldl_cons, h1, h2]
    unfold srvStep
    simp [takeL_len]
    omega
theorem srvS_len (r : Rl) (ns : List Int) : (srvS r ns).1.length = ns.length ∧ (srvS r ns).2.length = ns.length := by
  have := srv_len r ns ([], [])
  simp only [List.length_nil, Nat.zero_add] at this
  exact this
theorem servedL_len (r : Rl) (ns : List Int) : (servedL r ns).length = ns.length := (srvS_len r ns).2
theorem srvS_succ {r : Rl} {ns : List Int} {k : Nat} {t : Int} (h : ns[k]? = some t) : srvS r (ns.take (k + 1)) = srvStep r (srvS r (ns.take k)) t := by
  unfold srvS
  rw [List.take_add_one, h, List.foldl_append]; rfl
def sp_served : SpD := fun rs P _ => ∃ (r : Rl) (ns : List Int), rs = [.fz (rD r), .fz (tI ns)] ∧ RlOk r ∧ ns.length ≤ 60 ∧ ∀ af, P (.ls ((servedL r ns).map .int)) af
def sp_carried_out : SpD := fun rs P _ => ∃ (r : Rl) (ns : List Int), rs = [.fz (rD r), .fz (tI ns)] ∧ RlOk r ∧ RowOk ns ∧ ∀ af, P (.ls ((servedL r ns).map .int)) af
/-- max([0] + [later - time ..]) -/
def waitL (ns ds : List Int) : Int := maxI (0 :: (ns.zip ds).map fun p => p.2 - p.1)
def sp_longest_wait : SpD := fun rs P _ => ∃ (r : Rl) (ns : List Int), rs = [.fz (rD r), .fz (tI ns)] ∧ RlOk r ∧ RowOk ns ∧ ∀ af, P (.fz (.int (waitL ns (servedL r ns)))) af
theorem max_l {ns : List Int} (h : ns ≠ []) : maxLD [lI' ns] = some (.int (maxI ns)) := by
  show (intsD (ns.map .int)).bind _ = _
  rw [intsD_map]
  exact if_pos h
end LW

namespace LW
open PySem PySem.Spec PyProof.Rows L2 DL
/-! ### what the laws draw -/
abbrev scrD (ns : List Int) : PyData := .dict [(.str "script", .list (ns.map .int))]
structure IsBag (b : List PyData) : Prop where
  ex : ∃ (ds : List Int) (j : Int), b = [lI' ds, .int j] ∧ ds.length = 400 ∧ (∀ d ∈ ds, 0 ≤ d ∧ d < 1000) ∧ 0 ≤ j
def sp_law_cell_at : SpD := fun rs P _ => ∃ (ns : List Int) (k : Int), rs = [.fz (scrD ns), .fz (.int k)] ∧ 0 ≤ k ∧ ∀ c af, P (.fz (.int c)) af
def sp_law_draws : SpD := fun rs P _ => ∃ (c : Int), rs = [.fz (.int c), .fz (.int 400), .fz (.int 1000)] ∧ ∀ (ds : List Int) af, ds.length = 400 → (∀ d ∈ ds, 0 ≤ d ∧ d < 1000) → P (.ls (ds.map .int)) af
def sp_law_bag : SpD := fun rs P _ => ∃ (ns : List Int) (k : Int), rs = [.fz (scrD ns), .fz (.int k)] ∧ 0 ≤ k ∧ ∀ b af, IsBag b → P (.ls b) af
def sp_law_bags : SpD := fun rs P _ => ∃ (ns : List Int) (k : Int), rs = [.fz (scrD ns), .fz (.int k)] ∧ ns.length ≤ 63 ∧ 0 ≤ k ∧ k ≤ 100 ∧ ∀ (bs : List (List PyData)) af, (∀ b ∈ bs, IsBag b) → P (.nl (bs.map .inr)) af
def sp_law_take : SpD := fun rs P _ => ∃ (b : List PyData) (m : Int), rs = [.ls b, .fz (.int m)] ∧ IsBag b ∧ 1 ≤ m ∧ ∀ v b' af, IsBag b' → 0 ≤ v → v < m → v < 1000 → af 0 = some (.ls b') → P (.fz (.int v)) af
def sp_law_rule : SpD := fun rs P _ => ∃ (b : List PyData), rs = [.ls b] ∧ IsBag b ∧ ∀ r b' af, RlOk r → IsBag b' → af 0 = some (.ls b') → P (.fz (rD r)) af
def sp_law_row : SpD := fun rs P _ => ∃ (b : List PyData) (m p : Int), rs = [.ls b, .fz (.int m), .fz (.int p)] ∧ IsBag b ∧ 0 ≤ m ∧ m ≤ 60 ∧ 1 ≤ p ∧ ∀ (ns : List Int) b' af, (ns.length : Int) ≤ m → Asc ns → (∀ n ∈ ns, 0 ≤ n ∧ n ≤ 60000) → IsBag b' → af 0 = some (.ls b') → P (.fz (tI ns)) af
theorem lcN_go {vs : List Nat} {ti : DTL} {g : DTG} {te : DTR} {ρ : DSt} {Q : Res → DSt → Prop} (ds : List PyData) (ρ1 : DSt) (I : Nat → List (List PyData) → DSt → Prop) (hti : ∀ R : List PyData → DSt → Prop, R ds ρ1 → ti ρ R) (h0 : I 0 [] (wipeD ρ1 vs))
    (hs : ∀ (k : Nat) d acc ρ', ds[k]? = some d → I k acc ρ' → g d ρ' fun ρ2 => te ρ2 fun r ρ4 => lsR r fun y => acc.length < 100000 ∧ I (k + 1) (acc ++ [y]) (wipeD ρ4 vs))
    (he : ∀ acc ρ', I ds.length acc ρ' → Q (.nl (acc.map .inr)) ρ') : tLcN vs ti g te ρ Q := hti _ ⟨I, h0, hs, he⟩
theorem forN_go {i : Nat} {te : DTR} {tb : DTS} {D : DEnds} {ρ : DSt} (bs : List (List PyData)) (ρ1 : DSt) (I : Nat → DSt → Prop) (hti : ∀ R : Res → DSt → Prop, R (.nl (bs.map .inr)) ρ1 → te ρ R) (h0 : I 0 ρ1)
    (hs : ∀ (k : Nat) ds ρ', bs[k]? = some ds → I k ρ' → tb { D with nx := I (k + 1), ct := I (k + 1), bk := D.nx } (ρ'.set i (some (.ls ds)))) (he : ∀ ρ', I bs.length ρ' → D.nx ρ') : sForN i te tb D ρ := by
  refine hti _ ⟨fun x hx => ?_, I, h0, fun k ds ρ' hk hI => hs k ds ρ' ?_ hI, fun ρ' hI => he ρ' (by rw [List.length_map] at hI; exact hI)⟩
  · obtain ⟨d, _, rfl⟩ := List.mem_map.mp hx
    exact ⟨d, rfl⟩
  · obtain ⟨x, hx, e⟩ := map_get hk
    cases e
    exact hx
theorem atI_ok {α : Type} {xs : List α} {i : Int} (h0 : 0 ≤ i) (h : i < xs.length) : ∃ x, atI xs i = some x ∧ xs[i.toNat]? = some x := by
  obtain ⟨j, rfl⟩ := Int.eq_ofNat_of_zero_le h0
  have hj : j < xs.length := by omega
  exact ⟨xs[j], atI_nat (List.getElem?_eq_getElem hj), List.getElem?_eq_getElem hj⟩
theorem ix_l {xs : List PyData} {i : Int} (h0 : 0 ≤ i) (h : i < xs.length) : ∃ x, ixD (.list xs) (.int i) = some x ∧ xs[i.toNat]? = some x := atI_ok h0 h
theorem mod_i {i j : Int} (h : 0 < j) : modD (.int i) (.int j) = some (.int (i % j)) := if_pos h
theorem fdiv_i {i j : Int} (h : 0 < j) (k : j < 1073741824) : fdivD (.int i) (.int j) = some (.int (i / j)) := if_pos ⟨h, k⟩
theorem mul_i {i j : Int} (h : i.natAbs < 2 ^ 64 ∨ j.natAbs < 2 ^ 64) : mulD (.int i) (.int j) = some (.int (i * j)) := if_pos h
theorem Asc.snoc {xs : List Int} {x : Int} (h : Asc xs) (hx : ∀ y ∈ xs.getLast?, y ≤ x) : Asc (xs ++ [x]) := by
  induction xs with
  | nil => trivial
  | cons a r ih =>
    cases r with
    | nil => exact ⟨hx a rfl, trivial⟩
    | cons b r =>
      refine ⟨h.1, ih h.2 fun y hy => hx y ?_⟩
      rw [List.getLast?_cons_cons]; exact hy
end LW

namespace LW
open PySem PySem.Spec PyProof.Rows L2 DL
/-! ### the laws' store of charges: charges there, times at which the next ones are due, the last such time -/
abbrev at0 (bs : List Int) (j : Nat) : Int := bs[j]?.getD 0
theorem at0_get {bs : List Int} {j : Nat} (h : j < bs.length) : bs[j]? = some (at0 bs j) := by
  unfold at0; rw [List.getElem?_eq_getElem h]; rfl
theorem at0_app {bs : List Int} {x : Int} {j : Nat} (h : j < bs.length) : at0 (bs ++ [x]) j = at0 bs j := by
  unfold at0; rw [List.getElem?_append_left h]
theorem at0_end {bs : List Int} {x : Int} : at0 (bs ++ [x]) bs.length = x := by
  unfold at0; rw [List.getElem?_append_right (Nat.le_refl _)]; simp
theorem asc_le : ∀ {bs : List Int}, Asc bs → ∀ {i j : Nat}, i ≤ j → j < bs.length → at0 bs i ≤ at0 bs j
  | [], _, _, _, _, h => by simp at h
  | [a], _, i, j, hij, h => by
    have : j = 0 := by simp at h; exact h
    subst this
    have : i = 0 := by omega
    subst this; exact Int.le_refl _
  | a :: b :: r, hA, i, j, hij, h => by
    cases j with
    | zero => have : i = 0 := by omega
              subst this; exact Int.le_refl _
    | succ j =>
      have hj : j < (b :: r).length := by simpa using h
      cases i with
      | zero =>
        have h1 : at0 (b :: r) 0 ≤ at0 (b :: r) j := asc_le hA.2 (Nat.zero_le _) hj
        have h2 : at0 (a :: b :: r) (j + 1) = at0 (b :: r) j := rfl
        have h3 : at0 (a :: b :: r) 0 = a := rfl
        have h4 : at0 (b :: r) 0 = b := rfl
        rw [h2, h3]; rw [h4] at h1; exact Int.le_trans hA.1 h1
      | succ i => exact asc_le (bs := b :: r) hA.2 (by omega) hj
theorem last_at0 {bs : List Int} : bs.getLast?.getD 0 = at0 bs (bs.length - 1) := by rw [List.getLast?_eq_getElem?]
/-- is a charge there at t -/
def availB (r : Rl) (bs : List Int) (t : Int) : Bool := decide ((bs.length : Int) < r.c) || decide (at0 bs (bs.length - r.c.toNat) ≤ t)
structure StR (r : Rl) (bs : List Int) (k : Nat) (due : List Int) (last : Int) : Prop where
  hk : k ≤ bs.length
  hc : ((bs.length - k : Nat) : Int) ≤ r.c
  side : r.ln = false → due = bs.drop k
  line : r.ln = true → due = (bs.drop k).take 1
  hl : r.ln = true → k < bs.length → last = at0 bs k
  step : r.ln = true → ∀ j, k ≤ j → j + 1 < bs.length → at0 bs (j + 1) = at0 bs j + r.p
abbrev stL (r : Rl) (bs : List Int) (k : Nat) (due : List Int) (last : Int) : List (PyData ⊕ List PyData) := [.inl (.int (r.c - ((bs.length - k : Nat) : Int))), .inr (due.map .int), .inl (.int last)]
structure Rep (r : Rl) (bs : List Int) (t0 : Int) (s : List (PyData ⊕ List PyData)) : Prop where
  ex : ∃ k due last, s = stL r bs k due last ∧ StR r bs k due last ∧ Asc bs ∧ (∀ j, j < k → at0 bs j ≤ t0) ∧ (r.ln = false → ∀ j, j < bs.length → at0 bs j ≤ t0 + r.p) ∧ ∀ j, k ≤ j → j < bs.length → t0 < at0 bs j
theorem rep_new {r : Rl} (h : RlOk r) : Rep r [] 0 [.inl (.int r.c), .inr [], .inl (.int 0)] := by
  refine ⟨0, [], 0, ?_, ⟨Nat.le_refl _, ?_, fun _ => rfl, fun _ => rfl, fun _ z => absurd z (by simp), fun _ _ _ z => absurd z (by simp)⟩, trivial, fun _ z => absurd z (Nat.not_lt_zero _), (fun _ _ z => absurd z (Nat.not_lt_zero _)), fun _ _ z => absurd z (Nat.not_lt_zero _)⟩
  · show _ = [Sum.inl (PyData.int (r.c - 0)), _, _]
    rw [Int.sub_zero]; rfl
  · have := h.c1; simp; omega
theorem drop_at {bs : List Int} {k : Nat} (h : k < bs.length) : bs.drop k = at0 bs k :: bs.drop (k + 1) := by
  rw [List.drop_eq_getElem_cons h]; unfold at0; rw [List.getElem?_eq_getElem h]; rfl
/-- due is not empty: k is not behind the end -/
theorem StR.ne {r : Rl} {bs : List Int} {k : Nat} {due : List Int} {last : Int} (h : StR r bs k due last) : due = [] ↔ k = bs.length := by
  have hk := h.hk
  cases hl : r.ln with
  | false =>
    rw [h.side hl, List.drop_eq_nil_iff]; omega
  | true =>
    rw [h.line hl]
    constructor
    · intro e
      by_cases q : k < bs.length
      · rw [drop_at q] at e; cases e
      · omega
    · intro e; rw [e]; simp
theorem StR.head {r : Rl} {bs : List Int} {k : Nat} {due : List Int} {last : Int} (h : StR r bs k due last) (q : k < bs.length) : ∃ rest, due = at0 bs k :: rest ∧ (r.ln = false → rest = bs.drop (k + 1)) ∧ (r.ln = true → rest = []) := by
  cases hl : r.ln with
  | false => exact ⟨bs.drop (k + 1), by rw [h.side hl, drop_at q], fun _ => rfl, fun z => by cases z⟩
  | true => exact ⟨[], by rw [h.line hl, drop_at q]; rfl, (fun z => by cases z), fun _ => rfl⟩
theorem StR.pop_line {r : Rl} {bs : List Int} {k : Nat} {due : List Int} {last : Int} (h : StR r bs k due last) (hs : r.ln = true) (q : k + 1 < bs.length) : StR r bs (k + 1) [last + r.p] (last + r.p) := by
  have e : last + r.p = at0 bs (k + 1) := by rw [h.hl hs (by omega), h.step hs k (Nat.le_refl _) q]
  refine ⟨by omega, by have := h.hc; omega, (fun z => by rw [hs] at z; cases z), fun _ => ?_, fun _ _ => e, fun _ j h1 h2 => h.step hs j (by omega) h2⟩
  rw [drop_at q, e]; rfl
theorem StR.pop_end {r : Rl} {bs : List Int} {k : Nat} {due : List Int} {last : Int} (h : StR r bs k due last) (hs : r.ln = true) (q : k + 1 = bs.length) : StR r bs (k + 1) [] last := by
  refine ⟨by omega, by have := h.hc; omega, (fun z => by rw [hs] at z; cases z), fun _ => ?_, fun _ z => by omega, fun _ j h1 h2 => by omega⟩
  rw [q]; simp
theorem StR.pop_side {r : Rl} {bs : List Int} {k : Nat} {due : List Int} {last : Int} (h : StR r bs k due last) (hs : r.ln = false) (q : k < bs.length) : StR r bs (k + 1) (bs.drop (k + 1)) last := by
  exact ⟨by omega, by have := h.hc; omega, fun _ => rfl, (fun z => by rw [hs] at z; cases z), (fun z => by rw [hs] at z; cases z), fun z => by rw [hs] at z; cases z⟩
theorem avail_no {r : Rl} {bs : List Int} {k : Nat} {t : Int} (ok : RlOk r) (hk : k ≤ bs.length) (hc : ((bs.length - k : Nat) : Int) = r.c) (hn : at0 bs k > t) : availB r bs t = false := by
  have c1 := ok.c1
  have e : bs.length - r.c.toNat = k := by omega
  unfold availB
  rw [e, decide_eq_false (by omega), decide_eq_false (by omega)]; rfl
theorem avail_yes {r : Rl} {bs : List Int} {k : Nat} {t : Int} (hk : k ≤ bs.length) (hc : ((bs.length - k : Nat) : Int) < r.c) (hp : ∀ j, j < k → at0 bs j ≤ t) : availB r bs t = true := by
  unfold availB
  by_cases q : (bs.length : Int) < r.c
  · rw [decide_eq_true q]; rfl
  · rw [decide_eq_true (hp (bs.length - r.c.toNat) (by omega)), Bool.or_true]
/-- behind a press that is used -/
theorem rep_side {r : Rl} {bs : List Int} {k : Nat} {due : List Int} {last t : Int} (ok : RlOk r) (h : StR r bs k due last) (hs : r.ln = false) (hA : Asc bs) (hp : ∀ j, j < k → at0 bs j ≤ t) (hb : ∀ j, j < bs.length → at0 bs j ≤ t + r.p) (hc : ((bs.length - k : Nat) : Int) < r.c) (hgt : ∀ j, k ≤ j → j < bs.length → t < at0 bs j) :
    Rep r (takeL r bs t) t [.inl (.int (r.c - ((bs.length - k : Nat) : Int) - 1)), .inr ((due ++ [t + r.p]).map .int), .inl (.int last)] := by
  have e : takeL r bs t = bs ++ [t + r.p] := by
    unfold takeL; rw [if_neg (fun z => by rw [hs] at z; cases z.1)]
  have hk := h.hk
  rw [e]
  refine ⟨k, due ++ [t + r.p], last, ?_, ⟨by simp; omega, by simp; omega, fun _ => ?_, (fun z => by rw [hs] at z; cases z), (fun z => by rw [hs] at z; cases z), (fun z => by rw [hs] at z; cases z)⟩, hA.snoc fun y hy => ?_, fun j hj => ?_, fun _ j hj => ?_, fun j h1 hj => ?_⟩
  · have : r.c - ((bs.length - k : Nat) : Int) - 1 = r.c - (((bs ++ [t + r.p]).length - k : Nat) : Int) := by simp; omega
    rw [this]
  · rw [h.side hs, List.drop_append_of_le_length hk]
  · rw [List.getLast?_eq_getElem?] at hy
    have hl := lt_of_get (Option.mem_def.mp hy)
    have := hb _ hl
    unfold at0 at this
    rw [Option.mem_def.mp hy] at this
    exact this
  · rw [at0_app (by omega)]; exact hp j hj
  · by_cases q : j < bs.length
    · rw [at0_app q]; exact hb j q
    · have : j = bs.length := by simp at hj; omega
      rw [this, at0_end]; exact Int.le_refl _
  · have p1 := ok.p1
    by_cases q : j < bs.length
    · rw [at0_app q]; exact hgt j h1 q
    · have : j = bs.length := by simp at hj; omega
      rw [this, at0_end]; omega
theorem rep_line0 {r : Rl} {bs : List Int} {k : Nat} {due : List Int} {last t : Int} (ok : RlOk r) (h : StR r bs k due last) (hs : r.ln = true) (hA : Asc bs) (hp : ∀ j, j < k → at0 bs j ≤ t) (he : k = bs.length) (hc : ((bs.length - k : Nat) : Int) < r.c) :
    Rep r (takeL r bs t) t [.inl (.int (r.c - ((bs.length - k : Nat) : Int) - 1)), .inr (([t + r.p] : List Int).map .int), .inl (.int (t + r.p))] := by
  subst he
  have p1 := ok.p1
  have e : takeL r bs t = bs ++ [t + r.p] := by
    unfold takeL
    by_cases q : bs = []
    · rw [if_neg (fun z => z.2 q)]
    · have hl : 0 < bs.length := List.length_pos_iff.mpr q
      have := hp (bs.length - 1) (by omega)
      rw [if_pos ⟨hs, q⟩, last_at0, Int.max_eq_left this]
  rw [e]
  refine ⟨bs.length, [t + r.p], t + r.p, ?_, ⟨by simp, by simp; have := ok.c1; omega, (fun z => by rw [hs] at z; cases z), fun _ => by simp, fun _ _ => at0_end.symm, fun _ j h1 h2 => by simp at h2; omega⟩, hA.snoc fun y hy => ?_, fun j hj => ?_, (fun z => by rw [hs] at z; cases z), fun j h1 hj => ?_⟩
  · have : r.c - ((bs.length - bs.length : Nat) : Int) - 1 = r.c - (((bs ++ [t + r.p]).length - bs.length : Nat) : Int) := by simp
    rw [this]
  · rw [List.getLast?_eq_getElem?] at hy
    have hl := lt_of_get (Option.mem_def.mp hy)
    have := hp _ hl
    unfold at0 at this
    rw [Option.mem_def.mp hy] at this
    have h3 : y ≤ t := this
    omega
  · rw [at0_app hj]; exact hp j hj
  · have : j = bs.length := by simp at hj; omega
    rw [this, at0_end]; omega
theorem rep_line1 {r : Rl} {bs : List Int} {k : Nat} {due : List Int} {last t : Int} (ok : RlOk r) (h : StR r bs k due last) (hs : r.ln = true) (hA : Asc bs) (hp : ∀ j, j < k → at0 bs j ≤ t) (he : k < bs.length) (hn : t < at0 bs k) (hc : ((bs.length - k : Nat) : Int) < r.c) :
    Rep r (takeL r bs t) t [.inl (.int (r.c - ((bs.length - k : Nat) : Int) - 1)), .inr (due.map .int), .inl (.int last)] := by
  have p1 := ok.p1
  have q : bs ≠ [] := fun z => by subst z; simp at he
  have hll : at0 bs k ≤ at0 bs (bs.length - 1) := asc_le hA (by omega) (by omega)
  have e : takeL r bs t = bs ++ [at0 bs (bs.length - 1) + r.p] := by
    unfold takeL
    rw [if_pos ⟨hs, q⟩, last_at0, Int.max_eq_right (by omega)]
  rw [e]
  refine ⟨k, due, last, ?_, ⟨by simp; omega, by simp; omega, (fun z => by rw [hs] at z; cases z), fun _ => ?_, fun _ _ => ?_, fun _ j h1 h2 => ?_⟩, hA.snoc fun y hy => ?_, fun j hj => ?_, (fun z => by rw [hs] at z; cases z), fun j h1 hj => ?_⟩
  · have : r.c - ((bs.length - k : Nat) : Int) - 1 = r.c - (((bs ++ [at0 bs (bs.length - 1) + r.p]).length - k : Nat) : Int) := by simp; omega
    rw [this]
  · rw [h.line hs, List.drop_append_of_le_length (by omega), drop_at he]; rfl
  · rw [at0_app he]; exact h.hl hs he
  · by_cases z : j + 1 < bs.length
    · rw [at0_app z, at0_app (by omega)]; exact h.step hs j h1 z
    · have : j + 1 = bs.length := by simp at h2; omega
      rw [this, at0_end, at0_app (by omega)]
      congr 2; omega
  · have hl : 0 < bs.length := by omega
    rw [List.getLast?_eq_getElem?] at hy
    have e2 : at0 bs (bs.length - 1) = y := by unfold at0; rw [Option.mem_def.mp hy]; rfl
    omega
  · rw [at0_app (by omega)]; exact hp j hj
  · by_cases q : j < bs.length
    · rw [at0_app q]; have := asc_le hA h1 q; omega
    · have : j = bs.length := by simp at hj; omega
      rw [this, at0_end]; omega
def sp_law_press : SpD := fun rs P _ => ∃ (r : Rl) (bs : List Int) (t0 t : Int) (s : List (PyData ⊕ List PyData)), rs = [.fz (rD r), .nl s, .fz (.int t)] ∧ RlOk r ∧ Rep r bs t0 s ∧ t0 ≤ t ∧ bs.length ≤ 5000 ∧
  (availB r bs t = true → ∀ s' af, Rep r (takeL r bs t) t s' → af 1 = some (.nl s') → P (.fz (.bool true)) af) ∧
  (availB r bs t = false → ∀ s' af, Rep r bs t s' → af 1 = some (.nl s') → P (.fz (.bool false)) af)
end LW

namespace LW
open PySem PySem.Spec PyProof.Rows L2 DL
def sp_law_waited : SpD := fun rs P _ => ∃ (r : Rl) (ns : List Int), rs = [.fz (rD r), .fz (tI ns)] ∧ RlOk r ∧ ns.length ≤ 60 ∧ (∀ n ∈ ns, 0 ≤ n) ∧ ∀ af, P (.ls ((servedL r ns).map .int)) af
/-! ### the law's loop over its bags -/
def ForNP (i : Nat) (tb : DTS) (D : DEnds) (r : Res) (ρ1 : DSt) : Prop := nlR r fun bs => (∀ x ∈ bs, ∃ ds, x = .inr ds) ∧ ∃ I : Nat → DSt → Prop, I 0 ρ1 ∧
  (∀ k ds ρ', bs[k]? = some (.inr ds) → I k ρ' → tb { D with nx := I (k + 1), ct := I (k + 1), bk := D.nx } (ρ'.set i (some (.ls ds)))) ∧ ∀ ρ', I bs.length ρ' → D.nx ρ'
theorem forN_un {i : Nat} {te : DTR} {tb : DTS} {D : DEnds} {ρ : DSt} (h : te ρ (ForNP i tb D)) : sForN i te tb D ρ := h
/-- one and the same is true of the state before each turn; what follows the body is not looked at -/
theorem forN_p {i : Nat} {tb : DTS} {D : DEnds} {bs : List (List PyData)} {ρ1 : DSt} (I : DSt → Prop) (h0 : I ρ1) (hb : ∀ b ∈ bs, IsBag b)
    (hs : ∀ (D' : DEnds) b ρ', (∀ ρ, I ρ → D'.nx ρ) → (∀ ρ, I ρ → D'.ct ρ) → IsBag b → I ρ' → tb D' (ρ'.set i (some (.ls b)))) (he : ∀ ρ', I ρ' → D.nx ρ') : ForNP i tb D (.nl (bs.map .inr)) ρ1 := by
  refine ⟨fun x hx => ?_, fun _ => I, h0, fun k ds ρ' hk hI => ?_, fun ρ' hI => he ρ' hI⟩
  · obtain ⟨d, _, rfl⟩ := List.mem_map.mp hx
    exact ⟨d, rfl⟩
  · obtain ⟨x, hx, e⟩ := map_get hk
    cases e
    exact hs { D with nx := I, ct := I, bk := D.nx } _ ρ' (fun _ h => h) (fun _ h => h) (hb _ (mem_of_get hx)) hI
theorem rep_flat {α : Type} (x : α) : ∀ n : Nat, (List.replicate n [x]).flatten = List.replicate n x
  | 0 => rfl
  | n + 1 => by rw [List.replicate_succ, List.flatten_cons, rep_flat x n]; rfl
theorem mulA_t {x c : Int} (h0 : 0 ≤ c) (h1 : c ≤ 1000) : mulAD (.tuple [.int x]) (.int c) = some (tI (List.replicate c.toNat x)) := by
  show (if _ then some (PyData.tuple _) else none) = _
  rw [if_pos ⟨h0, h1, by simp, by simp⟩, rep_flat]; simp [tI]
theorem mulA_l {x c : Int} (h0 : 0 ≤ c) (h1 : c ≤ 1000) : mulAD (.list [.int x]) (.int c) = some (lI' (List.replicate c.toNat x)) := by
  show (if _ then some (PyData.list _) else none) = _
  rw [if_pos ⟨h0, h1, by simp⟩, rep_flat]; simp [lI']
theorem asc_rep (x : Int) : ∀ n : Nat, Asc (List.replicate n x)
  | 0 => trivial
  | 1 => trivial
  | n + 2 => ⟨Int.le_refl _, asc_rep x (n + 1)⟩
theorem rowOk_rep {n : Nat} {x : Int} (h : n ≤ 60) (h0 : 0 ≤ x) (h1 : x ≤ 1000000000) : RowOk (List.replicate n x) := ⟨by simpa using h, fun y hy => by rw [List.eq_of_mem_replicate hy]; exact ⟨h0, h1⟩, asc_rep x n⟩
theorem neD_self {d : PyData} (h : SeqAt.shaped d = true) (e : PyData.eqv d d = true) : neD d d = some (.bool false) := by unfold neD; rw [if_pos ⟨h, h⟩, e]; rfl
theorem neg_i (i : Int) : True := trivial
theorem lastD_app (xs : List Int) (x : Int) : lastD (xs ++ [x]) = x := by unfold lastD; simp
end LW

namespace LW
open PySem PySem.Spec PyProof.Rows L2 DL
/-! ### comprehensions with a test -/
theorem lc_pf {vs : List Nat} {g : DTG} {tt : DTT} {te : DTE} {Q : Res → DSt → Prop} {ds : List PyData} {ρ1 : DSt} (ρw : DSt) (p : PyData → Bool) (f : PyData → PyData) (hw : wipeD ρ1 vs = ρw) (hn : ds.length ≤ 100000)
    (hs : ∀ (k : Nat) d (A : PyData → DSt → Prop) (B : DSt → Prop), ds[k]? = some d → (p d = true → ∀ ρ4, wipeD ρ4 vs = ρw → A (f d) ρ4) → (p d = false → ∀ ρ3, wipeD ρ3 vs = ρw → B ρ3) → g d ρw fun ρ2 => tt ρ2 fun b ρ3 => ifB b (te ρ3 A) (B ρ3))
    (he : Q (.ls ((ds.filter p).map f)) ρw) : LcP vs g tt te Q ds ρ1 := by
  refine lc_p (fun k acc ρ' => acc = ((ds.take k).filter p).map f ∧ ρ' = ρw) ⟨rfl, hw⟩ (fun k d acc ρ' hk hI => ?_) (fun acc ρ' hI => ?_)
  · obtain ⟨rfl, rfl⟩ := hI
    have hl := lt_of_get hk
    refine hs k d _ _ hk (fun hp ρ4 h4 => ⟨?_, ?_, h4⟩) fun hp ρ3 h3 => ⟨?_, h3⟩
    · have := List.length_filter_le p (ds.take k)
      rw [List.length_take] at this
      rw [List.length_map]; omega
    · rw [List.take_add_one, hk, List.filter_append, List.map_append]
      show _ = _ ++ ([d].filter p).map f
      rw [List.filter_cons, if_pos hp]; rfl
    · rw [List.take_add_one, hk, List.filter_append, List.map_append]
      show _ = _ ++ ([d].filter p).map f
      rw [List.filter_cons, if_neg (by rw [hp]; exact Bool.false_ne_true)]
      simp
  · obtain ⟨rfl, rfl⟩ := hI
    rw [List.take_length]; exact he
theorem filter_map_ints (p : Int → Bool) (pd : PyData → Bool) (h : ∀ x, pd (.int x) = p x) (xs : List Int) : (xs.map PyData.int).filter pd = (xs.filter p).map .int := by
  rw [List.filter_map]
  congr 2
  funext x; exact h x
/-! ### presses that are used -/
def leftL (r : Rl) (bs : List Int) (t : Int) : Int := r.c - (bs.filter fun b => decide (t < b)).length
def goodB (r : Rl) (bs : List Int) (t : Int) : Bool := decide (0 < leftL r bs t)
def stepP (r : Rl) (bs : List Int) (t : Int) : List Int := if goodB r bs t = true then takeL r bs t else bs
/-- the times at which charges come back, behind the presses of ns -/
def bsL (r : Rl) (ns : List Int) : List Int := ns.foldl (stepP r) []
theorem bsL_succ {r : Rl} {ns : List Int} {k : Nat} {t : Int} (h : ns[k]? = some t) : bsL r (ns.take (k + 1)) = stepP r (bsL r (ns.take k)) t := by
  unfold bsL
  rw [List.take_add_one, h, List.foldl_append]; rfl
theorem stepP_len (r : Rl) (bs : List Int) (t : Int) : (stepP r bs t).length ≤ bs.length + 1 := by
  unfold stepP
  split
  · rw [takeL_len]; exact Nat.le_refl _
  · omega
theorem bsL_len (r : Rl) (ns : List Int) : (bsL r ns).length ≤ ns.length := by
  have : ∀ (ns bs : List Int), (ns.foldl (stepP r) bs).length ≤ bs.length + ns.length := by
    intro ns
    induction ns with
    | nil => intro bs; exact Nat.le_refl _
    | cons t r' ih =>
      intro bs
      rw [List.foldl_cons]
      have h1 := ih (stepP r bs t)
      have h2 := stepP_len r bs t
      rw [List.length_cons]; omega
  have := this ns []
  simpa [bsL] using this
/-- what pressed gives: is the press used, the times behind it -/
def prsL (r : Rl) (ns : List Int) : List (Bool × List Int) := (List.range ns.length).map fun k => (goodB r (bsL r (ns.take k)) (ns[k]?.getD 0), bsL r (ns.take (k + 1)))
def prD2 (p : Bool × List Int) : PyData := .tuple [.bool p.1, tI p.2]
theorem prsL_len (r : Rl) (ns : List Int) : (prsL r ns).length = ns.length := by unfold prsL; simp
theorem prsL_get {r : Rl} {ns : List Int} {k : Nat} (h : k < ns.length) : (prsL r ns)[k]? = some (goodB r (bsL r (ns.take k)) (ns[k]?.getD 0), bsL r (ns.take (k + 1))) := by
  unfold prsL
  rw [List.getElem?_map, List.getElem?_range h]; rfl
/-- which presses are used, by their places -/
def useL (r : Rl) (ns : List Int) : List Nat := (List.range ns.length).filter fun k => goodB r (bsL r (ns.take k)) (ns[k]?.getD 0)
abbrev lN' (ks : List Nat) : PyData := .list (ks.map fun k => .int (k : Nat))
theorem enum_range (xs : List PyData) : enumD xs = (List.range xs.length).map fun k => .tuple [.int (k : Nat), xs[k]?.getD .none] := by
  refine List.ext_getElem? fun i => ?_
  by_cases h : i < xs.length
  · rw [List.getElem?_map, List.getElem?_range h]
    unfold enumD
    rw [List.getElem?_map, List.getElem?_zipIdx, List.getElem?_eq_getElem h]
    simp [List.getElem?_eq_getElem h]
  · rw [List.getElem?_eq_none (by rw [enumD_len]; omega), List.getElem?_eq_none (by simp; omega)]
def stGood (d : PyData) : Bool := match d with
  | .tuple [_, .tuple (.bool b :: _)] => b
  | _ => false
def stAt (d : PyData) : PyData := match d with
  | .tuple [a, _] => a
  | _ => .none
theorem use_of_prs (r : Rl) (ns : List Int) : ((enumD ((prsL r ns).map prD2)).filter stGood).map stAt = (useL r ns).map fun k => .int (k : Nat) := by
  rw [enum_range, List.filter_map, List.map_map]
  unfold useL
  rw [List.length_map, prsL_len]
  have e : (List.range ns.length).filter (stGood ∘ fun k => PyData.tuple [.int (k : Nat), (((prsL r ns).map prD2)[k]?).getD .none]) = (List.range ns.length).filter fun k => goodB r (bsL r (ns.take k)) (ns[k]?.getD 0) := by
    refine List.filter_congr fun k hk => ?_
    have hk := List.mem_range.mp hk
    rw [Function.comp_apply, List.getElem?_map, prsL_get hk]
    rfl
  rw [e]
  rfl
def sp_left_at : SpD := fun rs P _ => ∃ (r : Rl) (bs : List Int) (t : Int), rs = [.fz (rD r), .fz (tI bs), .fz (.int t)] ∧ bs.length ≤ 1000 ∧ ∀ af, P (.fz (.int (leftL r bs t))) af
def sp_pressed : SpD := fun rs P _ => ∃ (r : Rl) (ns : List Int) (d : PyData), rs = [.fz (rD r), .fz d] ∧ itemsD d = some (ns.map .int) ∧ ns.length ≤ 1000 ∧ ∀ af, P (.ls ((prsL r ns).map prD2)) af
def sp_used_indices : SpD := fun rs P _ => ∃ (r : Rl) (ns : List Int), rs = [.fz (rD r), .fz (tI ns)] ∧ ns.length ≤ 1000 ∧ ∀ af, P (.ls ((useL r ns).map fun k => .int (k : Nat))) af
def sp_uses : SpD := fun rs P _ => ∃ (r : Rl) (ns : List Int), rs = [.fz (rD r), .fz (tI ns)] ∧ RlOk r ∧ RowOk ns ∧ ∀ af, P (.ls ((useL r ns).map fun k => .int (k : Nat))) af
end LW

namespace LW
open PySem PySem.Spec PyProof.Rows L2 DL
/-! ### spans: when a sequence of uses is possible -/
/-- the least time between a use and the n-th one behind it -/
def spn (r : Rl) (n : Nat) : Int := if r.ln = true then (if r.c ≤ n then ((n : Int) - r.c + 1) * r.p else 0) else (n : Int) / r.c * r.p
structure Valid (r : Rl) (us : List Int) : Prop where
  v : ∀ m j, m < j → j < us.length → at0 us m + spn r (j - m) ≤ at0 us j
def bsOf (r : Rl) (us : List Int) : List Int := us.foldl (takeL r) []
theorem bsOf_snoc (r : Rl) (us : List Int) (t : Int) : bsOf r (us ++ [t]) = takeL r (bsOf r us) t := by unfold bsOf; rw [List.foldl_append]; rfl
theorem bsOf_len (r : Rl) (us : List Int) : (bsOf r us).length = us.length := by
  have : ∀ (us bs : List Int), (us.foldl (takeL r) bs).length = bs.length + us.length := by
    intro us
    induction us with
    | nil => intro bs; rfl
    | cons t s ih => intro bs; rw [List.foldl_cons, ih, takeL_len, List.length_cons]; omega
  have := this us []
  simpa [bsOf] using this
theorem snoc_ind {P : List Int → Prop} (h0 : P []) (hs : ∀ us t, P us → P (us ++ [t])) (us : List Int) : P us := by
  have : ∀ n, ∀ us : List Int, us.length = n → P us := by
    intro n
    induction n with
    | zero => intro us h; rw [List.length_eq_zero_iff.mp h]; exact h0
    | succ n ih =>
      intro us h
      have hne : us ≠ [] := fun z => by rw [z] at h; cases h
      rw [← List.dropLast_concat_getLast hne]
      exact hs _ _ (ih _ (by rw [List.length_dropLast, h]; rfl))
  exact this _ us rfl
theorem spn_nonneg {r : Rl} (ok : RlOk r) (n : Nat) : 0 ≤ spn r n := by
  have c1 := ok.c1
  have p1 := ok.p1
  unfold spn
  split
  · split
    · exact Int.mul_nonneg (by omega) (by omega)
    · exact Int.le_refl _
  · exact Int.mul_nonneg (Int.ediv_nonneg (by omega) (by omega)) (by omega)
theorem Valid.asc {r : Rl} {us : List Int} (ok : RlOk r) (h : Valid r us) {i j : Nat} (hij : i ≤ j) (hj : j < us.length) : at0 us i ≤ at0 us j := by
  by_cases z : i = j
  · rw [z]; exact Int.le_refl _
  · have := h.v i j (by omega) hj
    have := spn_nonneg ok (j - i)
    omega
theorem Valid.init {r : Rl} {us : List Int} {t : Int} (h : Valid r (us ++ [t])) : Valid r us := ⟨fun m j hm hj => by
  have := h.v m j hm (by simp; omega)
  rw [at0_app hj, at0_app (by omega)] at this
  exact this⟩
theorem valid_snoc {r : Rl} {us : List Int} {t : Int} : Valid r (us ++ [t]) ↔ Valid r us ∧ ∀ m, m < us.length → at0 us m + spn r (us.length - m) ≤ t := by
  constructor
  · intro h
    refine ⟨h.init, fun m hm => ?_⟩
    have := h.v m us.length hm (by simp)
    rw [at0_app hm, at0_end] at this
    exact this
  · rintro ⟨h1, h2⟩
    refine ⟨fun m j hm hj => ?_⟩
    by_cases z : j < us.length
    · rw [at0_app z, at0_app (by omega)]; exact h1.v m j hm z
    · have : j = us.length := by simp at hj; omega
      subst this
      rw [at0_end, at0_app hm]; exact h2 m hm
theorem bs_side {r : Rl} (hs : r.ln = false) (us : List Int) : bsOf r us = us.map (· + r.p) := by
  refine snoc_ind (P := fun us => bsOf r us = us.map (· + r.p)) rfl (fun us t ih => ?_) us
  rw [bsOf_snoc, ih]
  unfold takeL
  rw [if_neg (fun z => by rw [hs] at z; cases z.1), List.map_append]; rfl
theorem bs_line {r : Rl} (hs : r.ln = true) (us : List Int) : (∀ m j, m ≤ j → j < us.length → at0 us m + ((j : Int) - m + 1) * r.p ≤ at0 (bsOf r us) j) ∧ ∀ j, j < us.length → ∃ m, m ≤ j ∧ at0 (bsOf r us) j = at0 us m + ((j : Int) - m + 1) * r.p := by
  refine snoc_ind (P := fun us => (∀ m j, m ≤ j → j < us.length → at0 us m + ((j : Int) - m + 1) * r.p ≤ at0 (bsOf r us) j) ∧ ∀ j, j < us.length → ∃ m, m ≤ j ∧ at0 (bsOf r us) j = at0 us m + ((j : Int) - m + 1) * r.p) ?_ (fun us t ih => ?_) us
  · exact ⟨fun _ _ _ h => absurd h (Nat.not_lt_zero _), fun _ h => absurd h (Nat.not_lt_zero _)⟩
  obtain ⟨i1, i2⟩ := ih
  have hl := bsOf_len r us
  rw [bsOf_snoc]
  have old : ∀ j, j < us.length → at0 (takeL r (bsOf r us) t) j = at0 (bsOf r us) j := fun j hj => by
    unfold takeL; exact at0_app (by omega)
  have new : at0 (takeL r (bsOf r us) t) us.length = (if us = [] then t else max t (at0 (bsOf r us) (us.length - 1))) + r.p := by
    unfold takeL
    rw [← hl, at0_end]
    by_cases z : us = []
    · subst z
      rw [if_neg (fun e => e.2 rfl), if_pos rfl]
    · have hb : bsOf r us ≠ [] := fun e => z (List.length_eq_zero_iff.mp (by rw [← hl, e]; rfl))
      rw [if_pos ⟨hs, hb⟩, if_neg z, last_at0]
  constructor
  · intro m j hm hj
    by_cases z : j < us.length
    · rw [old j z, at0_app (by omega)]; exact i1 m j hm z
    · have : j = us.length := by simp at hj; omega
      subst this
      rw [new]
      by_cases y : m = us.length
      · subst y
        rw [at0_end]
        have : ((us.length : Int) - us.length + 1) * r.p = r.p := by rw [Int.sub_self]; simp
        rw [this]
        split <;> omega
      · have hne : us ≠ [] := fun e => by rw [e] at hm y; simp at hm y; omega
        have hp : 0 < us.length := List.length_pos_iff.mpr hne
        have := i1 m (us.length - 1) (by omega) (by omega)
        rw [if_neg hne, at0_app (by omega)]
        have e : ((us.length - 1 : Nat) : Int) - m + 1 = (us.length : Int) - m := by omega
        rw [e] at this
        have e2 : ((us.length : Int) - m + 1) * r.p = ((us.length : Int) - m) * r.p + r.p := by rw [Int.add_mul, Int.one_mul]
        rw [e2]; omega
  · intro j hj
    by_cases z : j < us.length
    · obtain ⟨m, hm, e⟩ := i2 j z
      exact ⟨m, hm, by rw [old j z, at0_app (by omega)]; exact e⟩
    · have : j = us.length := by simp at hj; omega
      subst this
      rw [new]
      by_cases y : us = []
      · subst y
        exact ⟨0, Nat.le_refl _, by simp [at0]⟩
      · have hp : 0 < us.length := List.length_pos_iff.mpr y
        rw [if_neg y]
        by_cases w : t ≤ at0 (bsOf r us) (us.length - 1)
        · obtain ⟨m, hm, e⟩ := i2 (us.length - 1) (by omega)
          refine ⟨m, by omega, ?_⟩
          rw [Int.max_eq_right w, e, at0_app (by omega)]
          have e1 : ((us.length - 1 : Nat) : Int) - m + 1 = (us.length : Int) - m := by omega
          have e2 : ((us.length : Int) - m + 1) * r.p = ((us.length : Int) - m) * r.p + r.p := by rw [Int.add_mul, Int.one_mul]
          rw [e1, e2]; omega
        · refine ⟨us.length, Nat.le_refl _, ?_⟩
          rw [Int.max_eq_left (by omega), at0_end, Int.sub_self]; simp
theorem avail_iff {r : Rl} {us : List Int} {t : Int} (ok : RlOk r) (hv : Valid r us) (ht : ∀ m, m < us.length → at0 us m ≤ t) :
    availB r (bsOf r us) t = true ↔ ∀ m, m < us.length → at0 us m + spn r (us.length - m) ≤ t := by
  have c1 := ok.c1
  have hl := bsOf_len r us
  unfold availB
  rw [hl, Bool.or_eq_true, decide_eq_true_eq, decide_eq_true_eq]
  by_cases hc : (us.length : Int) < r.c
  · refine ⟨fun _ m hm => ?_, fun _ => .inl hc⟩
    have e : spn r (us.length - m) = 0 := by
      unfold spn
      split
      · rw [if_neg (by omega)]
      · rw [Int.ediv_eq_zero_of_lt (by omega) (by omega), Int.zero_mul]
    rw [e]; have := ht m hm; omega
  · have hk : us.length - r.c.toNat < us.length := by omega
    cases hs : r.ln with
    | true =>
      obtain ⟨b1, b2⟩ := bs_line hs us
      constructor
      · rintro (h | h)
        · exact absurd h hc
        intro m hm
        unfold spn
        rw [if_pos hs]
        split
        · have := b1 m (us.length - r.c.toNat) (by omega) hk
          have e : ((us.length - r.c.toNat : Nat) : Int) - m + 1 = ((us.length - m : Nat) : Int) - r.c + 1 := by omega
          rw [e] at this; omega
        · have := ht m hm; omega
      · intro h
        right
        obtain ⟨m, hm, e⟩ := b2 (us.length - r.c.toNat) hk
        have := h m (by omega)
        unfold spn at this
        rw [if_pos hs, if_pos (by omega)] at this
        have e1 : ((us.length - r.c.toNat : Nat) : Int) - m + 1 = ((us.length - m : Nat) : Int) - r.c + 1 := by omega
        rw [e, e1]; exact this
    | false =>
      have hb : at0 (bsOf r us) (us.length - r.c.toNat) = at0 us (us.length - r.c.toNat) + r.p := by
        rw [bs_side hs]
        unfold at0
        rw [List.getElem?_map, List.getElem?_eq_getElem hk]; rfl
      rw [hb]
      constructor
      · rintro (h | h)
        · exact absurd h hc
        intro m hm
        by_cases hn : r.c ≤ ((us.length - m : Nat) : Int)
        · have hm2 : m ≤ us.length - r.c.toNat := by omega
          have e : spn r (us.length - m) = spn r (us.length - r.c.toNat - m) + r.p := by
            unfold spn
            rw [if_neg (by rw [hs]; exact Bool.false_ne_true), if_neg (by rw [hs]; exact Bool.false_ne_true)]
            have e1 : ((us.length - m : Nat) : Int) = ((us.length - r.c.toNat - m : Nat) : Int) + r.c * 1 := by omega
            rw [e1, Int.add_mul_ediv_left _ _ (by omega), Int.add_mul, Int.one_mul]
          rw [e]
          by_cases z : m = us.length - r.c.toNat
          · rw [← z, Nat.sub_self]
            have : spn r 0 = 0 := by
              unfold spn
              rw [if_neg (by rw [hs]; exact Bool.false_ne_true)]
              simp
            rw [this, z]; omega
          · have := hv.v m (us.length - r.c.toNat) (by omega) hk
            omega
        · have e : spn r (us.length - m) = 0 := by
            unfold spn
            rw [if_neg (by rw [hs]; exact Bool.false_ne_true), Int.ediv_eq_zero_of_lt (by omega) (by omega), Int.zero_mul]
          rw [e]; have := ht m hm; omega
      · intro h
        right
        have := h (us.length - r.c.toNat) hk
        unfold spn at this
        rw [if_neg (by rw [hs]; exact Bool.false_ne_true)] at this
        have e1 : ((us.length - (us.length - r.c.toNat) : Nat) : Int) = r.c := by omega
        rw [e1, Int.ediv_self (by omega), Int.one_mul] at this
        exact this
end LW

namespace LW
open PySem PySem.Spec PyProof.Rows L2 DL
theorem asc_of {xs : List Int} (h : ∀ i, i + 1 < xs.length → at0 xs i ≤ at0 xs (i + 1)) : Asc xs := by
  induction xs with
  | nil => trivial
  | cons a r ih =>
    cases r with
    | nil => trivial
    | cons b r => exact ⟨h 0 (by simp), ih fun i hi => h (i + 1) (by simpa using hi)⟩
theorem getLast_at0 {xs : List Int} {y : Int} (h : xs.getLast? = some y) : xs ≠ [] ∧ at0 xs (xs.length - 1) = y := by
  rw [List.getLast?_eq_getElem?] at h
  refine ⟨fun z => by subst z; simp at h, ?_⟩
  unfold at0; rw [h]; rfl
/-- the times at which charges come back ascend -/
theorem bsOf_asc {r : Rl} (ok : RlOk r) {us : List Int} (h : ∀ i j, i ≤ j → j < us.length → at0 us i ≤ at0 us j) : Asc (bsOf r us) := by
  have p1 := ok.p1
  revert h
  refine snoc_ind (P := fun us => (∀ i j, i ≤ j → j < us.length → at0 us i ≤ at0 us j) → Asc (bsOf r us)) (fun _ => trivial) (fun us t ih h => ?_) us
  have hA := ih fun i j hij hj => by
    have := h i j hij (by simp; omega)
    rwa [at0_app (by omega), at0_app hj] at this
  have hl := bsOf_len r us
  rw [bsOf_snoc]
  unfold takeL
  refine hA.snoc fun y hy => ?_
  obtain ⟨hne, hy⟩ := getLast_at0 (Option.mem_def.mp hy)
  have hus : 0 < us.length := by rw [← hl]; exact List.length_pos_iff.mpr hne
  by_cases hs : r.ln = true
  · rw [if_pos ⟨hs, hne⟩, last_at0, hy]; omega
  · rw [if_neg (fun z => hs z.1)]
    have hs : r.ln = false := by simpa using hs
    have e : at0 (bsOf r us) ((bsOf r us).length - 1) = at0 us (us.length - 1) + r.p := by
      rw [hl, bs_side hs]
      unfold at0
      rw [List.getElem?_map, List.getElem?_eq_getElem (by omega)]; rfl
    have := h (us.length - 1) us.length (by omega) (by simp)
    rw [at0_app (by omega), at0_end] at this
    rw [← hy, e]; omega
/-- the number of charges that are out -/
theorem good_avail {r : Rl} {bs : List Int} {t : Int} (ok : RlOk r) (h : Asc bs) : goodB r bs t = availB r bs t := by
  have c1 := ok.c1
  have key : ∀ k, k ≤ bs.length → (∀ j, j < k → at0 bs j ≤ t) → (∀ j, k ≤ j → j < bs.length → t < at0 bs j) → (bs.filter fun b => decide (t < b)).length = bs.length - k := by
    intro k hk h1 h2
    have e : bs = bs.take k ++ bs.drop k := (List.take_append_drop k bs).symm
    have e1 : (bs.take k).filter (fun b => decide (t < b)) = [] := by
      rw [List.filter_eq_nil_iff]
      intro b hb
      obtain ⟨j, hj, rfl⟩ := List.mem_iff_getElem.mp hb
      have hj2 : j < k ∧ j < bs.length := by rw [List.length_take] at hj; omega
      have := h1 j hj2.1
      unfold at0 at this
      rw [List.getElem?_eq_getElem hj2.2] at this
      simp only [Option.getD_some] at this
      simp only [List.getElem_take, decide_eq_true_eq, Int.not_lt]
      exact this
    have e2 : (bs.drop k).filter (fun b => decide (t < b)) = bs.drop k := by
      rw [List.filter_eq_self]
      intro b hb
      obtain ⟨j, hj, rfl⟩ := List.mem_iff_getElem.mp hb
      have hj2 : k + j < bs.length := by rw [List.length_drop] at hj; omega
      have := h2 (k + j) (by omega) hj2
      unfold at0 at this
      rw [List.getElem?_eq_getElem hj2] at this
      simp only [Option.getD_some] at this
      simp only [List.getElem_drop, decide_eq_true_eq]
      exact this
    conv => lhs; rw [e]
    rw [List.filter_append, e1, e2, List.nil_append, List.length_drop]
  -- the first place behind t
  have hex : ∃ k, k ≤ bs.length ∧ (∀ j, j < k → at0 bs j ≤ t) ∧ ∀ j, k ≤ j → j < bs.length → t < at0 bs j := by
    clear key
    have : ∀ n, n ≤ bs.length → (∀ j, n ≤ j → j < bs.length → t < at0 bs j) → ∃ k, k ≤ bs.length ∧ (∀ j, j < k → at0 bs j ≤ t) ∧ ∀ j, k ≤ j → j < bs.length → t < at0 bs j := by
      intro n
      induction n with
      | zero => exact fun h1 h2 => ⟨0, h1, fun j hj => absurd hj (Nat.not_lt_zero _), h2⟩
      | succ n ih =>
        intro h1 h2
        by_cases z : t < at0 bs n
        · refine ih (by omega) fun j hj hl => ?_
          by_cases y : j = n
          · rw [y]; exact z
          · exact h2 j (by omega) hl
        · exact ⟨n + 1, h1, fun j hj => Int.le_trans (asc_le h (by omega : j ≤ n) (by omega)) (by omega), h2⟩
    exact this bs.length (Nat.le_refl _) fun j h1 h2 => by omega
  obtain ⟨k, k1, k2, k3⟩ := hex
  have hk := key k k1 k2 k3
  unfold goodB leftL
  rw [hk]
  unfold availB
  by_cases hc : (bs.length : Int) < r.c
  · rw [decide_eq_true hc, Bool.true_or, decide_eq_true (by omega)]
  · rw [decide_eq_false hc, Bool.false_or]
    rw [Bool.eq_iff_iff, decide_eq_true_eq, decide_eq_true_eq]
    constructor
    · intro h; exact k2 _ (by omega)
    · intro h
      by_cases z : bs.length - r.c.toNat < k
      · omega
      · have := k3 (bs.length - r.c.toNat) (by omega) (by omega)
        omega
/-! ### the presses that are used, as times -/
def grd (r : Rl) (us : List Int) (t : Int) : List Int := if availB r (bsOf r us) t = true then us ++ [t] else us
def usT (r : Rl) (ns : List Int) : List Int := ns.foldl (grd r) []
theorem usT_snoc (r : Rl) (ns : List Int) (t : Int) : usT r (ns ++ [t]) = grd r (usT r ns) t := by unfold usT; rw [List.foldl_append]; rfl
def AscP (xs : List Int) : Prop := ∀ i j, i ≤ j → j < xs.length → at0 xs i ≤ at0 xs j
theorem AscP.init {xs : List Int} {t : Int} (h : AscP (xs ++ [t])) : AscP xs := fun i j hij hj => by
  have := h i j hij (by simp; omega)
  rwa [at0_app (by omega), at0_app hj] at this
theorem Asc.p {xs : List Int} (h : Asc xs) : AscP xs := fun _ _ hij hj => asc_le h hij hj
theorem AscP.last {xs : List Int} {t : Int} (h : AscP (xs ++ [t])) {i : Nat} (hi : i < xs.length) : at0 xs i ≤ t := by
  have := h i xs.length (by omega) (by simp)
  rwa [at0_app hi, at0_end] at this
theorem mem_at0 {xs : List Int} {x : Int} (h : x ∈ xs) : ∃ i, i < xs.length ∧ at0 xs i = x := by
  obtain ⟨i, hi, rfl⟩ := List.mem_iff_getElem.mp h
  exact ⟨i, hi, by unfold at0; rw [List.getElem?_eq_getElem hi]; rfl⟩
theorem at0_mem {xs : List Int} {i : Nat} (h : i < xs.length) : at0 xs i ∈ xs := by
  unfold at0; rw [List.getElem?_eq_getElem h]; exact List.getElem_mem h
/-- behind ascending presses: the used ones are a possible row, among the presses; the program's and the store's times belong to them -/
theorem usT_ok {r : Rl} (ok : RlOk r) (ns : List Int) (hA : AscP ns) : Valid r (usT r ns) ∧ (∀ x ∈ usT r ns, x ∈ ns) ∧ bsL r ns = bsOf r (usT r ns) := by
  revert hA
  refine snoc_ind (P := fun ns => AscP ns → Valid r (usT r ns) ∧ (∀ x ∈ usT r ns, x ∈ ns) ∧ bsL r ns = bsOf r (usT r ns)) (fun _ => ⟨⟨fun _ _ _ h => absurd h (Nat.not_lt_zero _)⟩, fun _ h => h, rfl⟩) (fun ns t ih hA => ?_) ns
  obtain ⟨h1, h2, h3⟩ := ih hA.init
  have ht : ∀ m, m < (usT r ns).length → at0 (usT r ns) m ≤ t := fun m hm => by
    obtain ⟨i, hi, e⟩ := mem_at0 (h2 _ (at0_mem hm))
    rw [← e]; exact hA.last hi
  have hB : bsL r (ns ++ [t]) = stepP r (bsL r ns) t := by unfold bsL; rw [List.foldl_append]; rfl
  have hG := good_avail (t := t) ok (bsOf_asc ok fun i j hij hj => h1.asc ok hij hj)
  rw [usT_snoc, hB, h3]
  unfold grd stepP
  rw [hG]
  by_cases z : availB r (bsOf r (usT r ns)) t = true
  · rw [if_pos z, if_pos z, bsOf_snoc]
    refine ⟨valid_snoc.mpr ⟨h1, (avail_iff ok h1 ht).mp z⟩, fun x hx => ?_, rfl⟩
    rcases List.mem_append.mp hx with h | h
    · exact List.mem_append_left _ (h2 x h)
    · exact List.mem_append_right _ h
  · rw [if_neg z, if_neg z]
    exact ⟨h1, fun x hx => List.mem_append_left _ (h2 x hx), rfl⟩
/-- is a press at t used behind the presses of ns -/
theorem good_iff {r : Rl} (ok : RlOk r) {ns : List Int} {t : Int} (hA : AscP (ns ++ [t])) : goodB r (bsL r ns) t = true ↔ Valid r (usT r ns ++ [t]) := by
  obtain ⟨h1, h2, h3⟩ := usT_ok ok ns hA.init
  have ht : ∀ m, m < (usT r ns).length → at0 (usT r ns) m ≤ t := fun m hm => by
    obtain ⟨i, hi, e⟩ := mem_at0 (h2 _ (at0_mem hm))
    rw [← e]; exact hA.last hi
  rw [h3, good_avail ok (bsOf_asc ok fun i j hij hj => h1.asc ok hij hj), avail_iff ok h1 ht, valid_snoc]
  exact ⟨fun h => ⟨h1, h⟩, fun h => h.2⟩
end LW

namespace LW
open PySem PySem.Spec PyProof.Rows L2 DL
/-! ### carried out as early as possible -/
theorem srvS_snoc (r : Rl) (ns : List Int) (t : Int) : srvS r (ns ++ [t]) = srvStep r (srvS r ns) t := by unfold srvS; rw [List.foldl_append]; rfl
theorem servedL_snoc (r : Rl) (ns : List Int) (t : Int) : servedL r (ns ++ [t]) = servedL r ns ++ [srvT r (srvS r ns).1 (srvS r ns).2 t] := by
  unfold servedL; rw [srvS_snoc]; rfl
theorem srv_ok {r : Rl} (ok : RlOk r) (ns : List Int) : Valid r (servedL r ns) ∧ (srvS r ns).1 = bsOf r (servedL r ns) ∧ ∀ j, j < ns.length → at0 ns j ≤ at0 (servedL r ns) j := by
  refine snoc_ind (P := fun ns => Valid r (servedL r ns) ∧ (srvS r ns).1 = bsOf r (servedL r ns) ∧ ∀ j, j < ns.length → at0 ns j ≤ at0 (servedL r ns) j) ⟨⟨fun _ _ _ h => absurd h (Nat.not_lt_zero _)⟩, rfl, fun _ h => absurd h (Nat.not_lt_zero _)⟩ (fun ns t ih => ?_) ns
  obtain ⟨h1, h2, h3⟩ := ih
  have hl := servedL_len r ns
  have hb := bsOf_len r (servedL r ns)
  have c1 := ok.c1
  have e1 : (srvS r (ns ++ [t])).1 = takeL r (srvS r ns).1 (srvT r (srvS r ns).1 (srvS r ns).2 t) := by rw [srvS_snoc]; rfl
  rw [servedL_snoc, bsOf_snoc, e1, h2]
  have e2 : (srvS r ns).2 = servedL r ns := rfl
  rw [e2]
  have ge : t ≤ srvT r (bsOf r (servedL r ns)) (servedL r ns) t ∧ (∀ m, m < (servedL r ns).length → at0 (servedL r ns) m ≤ srvT r (bsOf r (servedL r ns)) (servedL r ns) t) := by
    have t1 : t ≤ (if servedL r ns = [] then t else max t (lastD (servedL r ns))) ∧ ∀ m, m < (servedL r ns).length → at0 (servedL r ns) m ≤ (if servedL r ns = [] then t else max t (lastD (servedL r ns))) := by
      by_cases z : servedL r ns = []
      · rw [if_pos z]; exact ⟨Int.le_refl _, fun m hm => by rw [z] at hm; cases hm⟩
      · rw [if_neg z]
        refine ⟨by omega, fun m hm => ?_⟩
        have := h1.asc ok (by omega : m ≤ (servedL r ns).length - 1) (by omega)
        have e : lastD (servedL r ns) = at0 (servedL r ns) ((servedL r ns).length - 1) := last_at0
        rw [e]; omega
    unfold srvT
    simp only
    split
    · exact ⟨by have := t1.1; omega, fun m hm => by have := t1.2 m hm; omega⟩
    · exact t1
  have hav : availB r (bsOf r (servedL r ns)) (srvT r (bsOf r (servedL r ns)) (servedL r ns) t) = true := by
    unfold availB srvT
    simp only
    rw [hb]
    by_cases z : r.c ≤ (servedL r ns).length
    · rw [if_pos z, Bool.or_eq_true, decide_eq_true_eq, decide_eq_true_eq]
      right
      exact Int.le_max_right _ _
    · rw [decide_eq_true (by omega), Bool.true_or]
  refine ⟨valid_snoc.mpr ⟨h1, (avail_iff ok h1 ge.2).mp hav⟩, rfl, fun j hj => ?_⟩
  by_cases z : j < ns.length
  · rw [at0_app z, at0_app (by omega)]; exact h3 j z
  · have : j = ns.length := by simp at hj; omega
    subst this
    rw [at0_end]
    have e3 : at0 (servedL r ns ++ [srvT r (bsOf r (servedL r ns)) (servedL r ns) t]) ns.length = srvT r (bsOf r (servedL r ns)) (servedL r ns) t := by
      rw [← hl]; exact at0_end
    rw [e3]; exact ge.1
/-- no possible row behind the presses is earlier, under a rule that is no better -/
theorem srv_least {A B : Rl} (oa : RlOk A) (ob : RlOk B) (hAB : ∀ n, spn A n ≤ spn B n) (ns : List Int) : ∀ v : List Int, v.length = ns.length → Valid B v → (∀ j, j < ns.length → at0 ns j ≤ at0 v j) → ∀ j, j < ns.length → at0 (servedL A ns) j ≤ at0 v j := by
  refine snoc_ind (P := fun ns => ∀ v : List Int, v.length = ns.length → Valid B v → (∀ j, j < ns.length → at0 ns j ≤ at0 v j) → ∀ j, j < ns.length → at0 (servedL A ns) j ≤ at0 v j) (fun _ _ _ _ _ h => absurd h (Nat.not_lt_zero _)) (fun ns t ih v hl hv hg j hj => ?_) ns
  have hne : v ≠ [] := fun z => by rw [z] at hl; simp at hl
  obtain ⟨w, y, rfl⟩ : ∃ w y, v = w ++ [y] := ⟨_, _, (List.dropLast_concat_getLast hne).symm⟩
  have hw : w.length = ns.length := by simp at hl; exact hl
  have sl := servedL_len A ns
  have hold := ih w hw hv.init fun j hj => by
    have := hg j (by simp; omega)
    rwa [at0_app hj, at0_app (by omega)] at this
  rw [servedL_snoc]
  by_cases z : j < ns.length
  · rw [at0_app (by omega), at0_app (by omega)]; exact hold j z
  have : j = ns.length := by simp at hj; omega
  subst this
  have e3 : at0 (servedL A ns ++ [srvT A (srvS A ns).1 (srvS A ns).2 t]) ns.length = srvT A (srvS A ns).1 (srvS A ns).2 t := by rw [← sl]; exact at0_end
  have e4 : at0 (w ++ [y]) ns.length = y := by rw [← hw]; exact at0_end
  rw [e3, e4]
  obtain ⟨a1, a2, a3⟩ := srv_ok oa ns
  have e2 : (srvS A ns).2 = servedL A ns := rfl
  rw [a2, e2]
  have ty : t ≤ y := by
    have := hg ns.length (by simp)
    rwa [at0_end, e4] at this
  have hvy := (valid_snoc.mp hv).2
  have hm : ∀ m, m < (servedL A ns).length → at0 (servedL A ns) m + spn A ((servedL A ns).length - m) ≤ y := fun m hm => by
    have q1 := hold m (by omega)
    have q2 := hvy m (by omega)
    have q3 := hAB (w.length - m)
    rw [sl, ← hw]; omega
  have hle : ∀ m, m < (servedL A ns).length → at0 (servedL A ns) m ≤ y := fun m h => by
    have := hm m h
    have := spn_nonneg oa ((servedL A ns).length - m)
    omega
  have hav := (avail_iff oa a1 hle).mpr hm
  have c1 := oa.c1
  have hb := bsOf_len A (servedL A ns)
  have t1 : (if servedL A ns = [] then t else max t (lastD (servedL A ns))) ≤ y := by
    split
    · exact ty
    · rename_i z
      have e : lastD (servedL A ns) = at0 (servedL A ns) ((servedL A ns).length - 1) := last_at0
      have hp : 0 < (servedL A ns).length := List.length_pos_iff.mpr z
      have := hle ((servedL A ns).length - 1) (by omega)
      rw [e]; omega
  unfold availB at hav
  rw [hb, Bool.or_eq_true, decide_eq_true_eq, decide_eq_true_eq] at hav
  unfold srvT
  simp only
  rw [hb]
  by_cases z : A.c ≤ (servedL A ns).length
  · rw [if_pos z]
    have : at0 (bsOf A (servedL A ns)) ((servedL A ns).length - A.c.toNat) ≤ y := by
      rcases hav with h | h
      · omega
      · exact h
    exact Int.max_le.mpr ⟨t1, this⟩
  · rw [if_neg z]; exact t1
theorem ext_at0 {xs ys : List Int} (hl : xs.length = ys.length) (h : ∀ j, j < xs.length → at0 xs j = at0 ys j) : xs = ys := by
  refine List.ext_getElem? fun i => ?_
  by_cases z : i < xs.length
  · rw [at0_get z, at0_get (by omega), h i z]
  · rw [List.getElem?_eq_none (by omega), List.getElem?_eq_none (by omega)]
/-- a possible row is carried out as it stands -/
theorem srv_self {r : Rl} (ok : RlOk r) {v : List Int} (hv : Valid r v) : servedL r v = v := by
  have h1 := srv_least ok ok (fun _ => Int.le_refl _) v v rfl hv fun _ _ => Int.le_refl _
  have h2 := (srv_ok ok v).2.2
  refine ext_at0 (servedL_len r v) fun j hj => ?_
  rw [servedL_len] at hj
  have := h1 j hj
  have := h2 j hj
  omega
theorem srv_le {A B : Rl} (oa : RlOk A) (ob : RlOk B) (hAB : ∀ n, spn A n ≤ spn B n) (ns : List Int) {j : Nat} (hj : j < ns.length) : at0 (servedL A ns) j ≤ at0 (servedL B ns) j := by
  obtain ⟨h1, _, h3⟩ := srv_ok ob ns
  exact srv_least oa ob hAB ns _ (servedL_len B ns) h1 h3 j hj
/-! ### as many uses as possible -/
theorem usT_pre (r : Rl) (ns : List Int) (t : Int) : usT r (ns ++ [t]) = usT r ns ∨ usT r (ns ++ [t]) = usT r ns ++ [t] := by
  rw [usT_snoc]; unfold grd; split
  · exact .inr rfl
  · exact .inl rfl
theorem usT_best {A B : Rl} (oa : RlOk A) (ob : RlOk B) (hAB : ∀ n, spn A n ≤ spn B n) (ns : List Int) : AscP ns → ∀ v : List Int, v.Sublist ns → Valid B v → v.length ≤ (usT A ns).length ∧ ∀ k, k < v.length → at0 (usT A ns) k ≤ at0 v k := by
  refine snoc_ind (P := fun ns => AscP ns → ∀ v : List Int, v.Sublist ns → Valid B v → v.length ≤ (usT A ns).length ∧ ∀ k, k < v.length → at0 (usT A ns) k ≤ at0 v k) (fun _ v hs _ => ?_) (fun ns t ih hA v hs hv => ?_) ns
  · rw [List.sublist_nil.mp hs]; exact ⟨Nat.le_refl _, fun _ h => absurd h (Nat.not_lt_zero _)⟩
  obtain ⟨v1, v2, rfl, s1, s2⟩ := List.sublist_append_iff.mp hs
  obtain ⟨u1, u2, _⟩ := usT_ok oa ns hA.init
  have keep : ∀ k, k < (usT A ns).length → at0 (usT A (ns ++ [t])) k = at0 (usT A ns) k := fun k hk => by
    rcases usT_pre A ns t with e | e
    · rw [e]
    · rw [e, at0_app hk]
  have grow : (usT A ns).length ≤ (usT A (ns ++ [t])).length := by
    rcases usT_pre A ns t with e | e
    · rw [e]; exact Nat.le_refl _
    · rw [e]; simp
  have ht : ∀ m, m < (usT A ns).length → at0 (usT A ns) m ≤ t := fun m hm => by
    obtain ⟨i, hi, e⟩ := mem_at0 (u2 _ (at0_mem hm))
    rw [← e]; exact hA.last hi
  have c2 : v2 = [] ∨ v2 = [t] := by
    cases v2 with
    | nil => exact .inl rfl
    | cons a r =>
      cases s2 with
      | cons _ h => cases h
      | cons_cons _ h => rw [List.sublist_nil.mp h]; exact .inr rfl
  rcases c2 with rfl | rfl
  · rw [List.append_nil] at hv ⊢
    obtain ⟨i1, i2⟩ := ih hA.init v1 s1 hv
    exact ⟨Nat.le_trans i1 grow, fun k hk => by rw [keep k (by omega)]; exact i2 k hk⟩
  · obtain ⟨i1, i2⟩ := ih hA.init v1 s1 hv.init
    by_cases z : v1.length < (usT A ns).length
    · refine ⟨by simp; omega, fun k hk => ?_⟩
      rw [keep k (by simp at hk; omega)]
      by_cases y : k < v1.length
      · rw [at0_app y]; exact i2 k y
      · have : k = v1.length := by simp at hk; omega
        subst this
        rw [at0_end]; exact ht _ z
    · have hl : (usT A ns).length = v1.length := by omega
      have hvy := (valid_snoc.mp hv).2
      have hm : ∀ m, m < (usT A ns).length → at0 (usT A ns) m + spn A ((usT A ns).length - m) ≤ t := fun m hm => by
        have q1 := i2 m (by omega)
        have q2 := hvy m (by omega)
        have q3 := hAB (v1.length - m)
        rw [hl]; omega
      have hav := (avail_iff oa u1 ht).mpr hm
      have e : usT A (ns ++ [t]) = usT A ns ++ [t] := by rw [usT_snoc]; unfold grd; rw [if_pos hav]
      rw [e]
      refine ⟨by simp; omega, fun k hk => ?_⟩
      by_cases y : k < v1.length
      · rw [at0_app y, at0_app (by omega)]; exact i2 k y
      · have : k = v1.length := by simp at hk; omega
        subst this
        rw [at0_end, ← hl, at0_end]; exact Int.le_refl _
/-- a possible row: all presses are used -/
theorem usT_all {r : Rl} (ok : RlOk r) {ns : List Int} (hA : AscP ns) : usT r ns = ns ↔ Valid r ns := by
  constructor
  · intro e; have := (usT_ok ok ns hA).1; rwa [e] at this
  · revert hA
    refine snoc_ind (P := fun ns => AscP ns → Valid r ns → usT r ns = ns) (fun _ _ => rfl) (fun ns t ih hA hv => ?_) ns
    have e := ih hA.init hv.init
    obtain ⟨h1, h2⟩ := valid_snoc.mp hv
    rw [usT_snoc, e]
    unfold grd
    rw [if_pos ((avail_iff ok h1 fun m hm => hA.last hm).mpr h2)]
/-! ### one rule no worse than another one -/
theorem spn_mono {r : Rl} (ok : RlOk r) {m n : Nat} (h : m ≤ n) : spn r m ≤ spn r n := by
  have c1 := ok.c1
  have p1 := ok.p1
  unfold spn
  split
  · split
    · rw [if_pos (by omega)]
      exact Int.mul_le_mul_of_nonneg_right (by omega) (by omega)
    · split
      · exact Int.mul_nonneg (by omega) (by omega)
      · exact Int.le_refl _
  · exact Int.mul_le_mul_of_nonneg_right (Int.ediv_le_ediv (by omega) (by omega)) (by omega)
/-- the longest pause with which charges of a kind replace a rule -/
def lpI (ln : Bool) (c : Int) (r : Rl) : Int :=
  if ln = false ∧ r.ln = false then c / r.c * r.p
  else if c < r.c then 0
  else if ln = false then (c + 1 - r.c) * r.p
  else if r.ln = false then r.p / r.c else r.p
def betterB (a b : Rl) : Bool := decide (a.p ≤ lpI a.ln a.c b)
theorem better_spn {a b : Rl} (oa : RlOk a) (ob : RlOk b) (h : betterB a b = true) (n : Nat) : spn a n ≤ spn b n := by
  have a1 := oa.c1; have a3 := oa.p1; have b1 := ob.c1; have b3 := ob.p1
  have h : a.p ≤ lpI a.ln a.c b := of_decide_eq_true h
  unfold lpI at h
  unfold spn
  cases ha : a.ln with
  | false =>
    rw [if_neg Bool.false_ne_true]
    have hk0 : 0 ≤ (n : Int) / a.c := Int.ediv_nonneg (by omega) (by omega)
    have hk1 : (n : Int) / a.c * a.c ≤ n := Int.ediv_mul_le _ (by omega)
    cases hb : b.ln with
    | false =>
      rw [ha, hb, if_pos ⟨rfl, rfl⟩] at h
      rw [if_neg Bool.false_ne_true]
      have hq0 : 0 ≤ a.c / b.c := Int.ediv_nonneg (by omega) (by omega)
      have hq1 : a.c / b.c * b.c ≤ a.c := Int.ediv_mul_le _ (by omega)
      have s1 : (n : Int) / a.c * a.p ≤ (n : Int) / a.c * (a.c / b.c * b.p) := Int.mul_le_mul_of_nonneg_left h hk0
      have s2 : (n : Int) / a.c * (a.c / b.c) ≤ (n : Int) / b.c := by
        rw [Int.le_ediv_iff_mul_le (by omega)]
        have : (n : Int) / a.c * (a.c / b.c * b.c) ≤ (n : Int) / a.c * a.c := Int.mul_le_mul_of_nonneg_left hq1 hk0
        rw [Int.mul_assoc]; omega
      have s3 : (n : Int) / a.c * (a.c / b.c) * b.p ≤ (n : Int) / b.c * b.p := Int.mul_le_mul_of_nonneg_right s2 (by omega)
      rw [← Int.mul_assoc] at s1
      omega
    | true =>
      rw [ha, hb, if_neg (fun z => by cases z.2)] at h
      rw [if_pos rfl]
      by_cases hc : a.c < b.c
      · rw [if_pos hc] at h; omega
      rw [if_neg hc, if_pos rfl] at h
      by_cases hz : (n : Int) / a.c = 0
      · rw [hz, Int.zero_mul]
        split
        · exact Int.mul_nonneg (by omega) (by omega)
        · exact Int.le_refl _
      · have hk2 : 1 ≤ (n : Int) / a.c := by omega
        have hn : a.c ≤ n := by
          have : 1 * a.c ≤ (n : Int) / a.c * a.c := Int.mul_le_mul_of_nonneg_right hk2 (by omega)
          omega
        rw [if_pos (by omega)]
        have s1 : (n : Int) / a.c * a.p ≤ (n : Int) / a.c * ((a.c + 1 - b.c) * b.p) := Int.mul_le_mul_of_nonneg_left h hk0
        have s2 : (n : Int) / a.c * (a.c + 1 - b.c) ≤ n - b.c + 1 := by
          have e : (n : Int) / a.c * (a.c + 1 - b.c) = (n : Int) / a.c * a.c - (n : Int) / a.c * (b.c - 1) := by rw [← Int.mul_sub]; congr 1; omega
          have : 1 * (b.c - 1) ≤ (n : Int) / a.c * (b.c - 1) := Int.mul_le_mul_of_nonneg_right hk2 (by omega)
          rw [e]; omega
        have s3 := Int.mul_le_mul_of_nonneg_right s2 (by omega : 0 ≤ b.p)
        rw [← Int.mul_assoc] at s1
        omega
  | true =>
    rw [if_pos rfl]
    rw [ha, if_neg (fun z => by cases z.1)] at h
    by_cases hc : a.c < b.c
    · rw [if_pos hc] at h; omega
    rw [if_neg hc, if_neg (fun z => by cases z)] at h
    cases hb : b.ln with
    | false =>
      rw [hb, if_pos rfl] at h
      rw [if_neg Bool.false_ne_true]
      have hk0 : 0 ≤ (n : Int) / b.c := Int.ediv_nonneg (by omega) (by omega)
      split
      · have s0 : b.p / b.c * b.c ≤ b.p := Int.ediv_mul_le _ (by omega)
        have s1 : a.p * b.c ≤ b.p := by
          have := Int.mul_le_mul_of_nonneg_right h (by omega : 0 ≤ b.c)
          omega
        have s2 : (n : Int) - b.c + 1 ≤ (n : Int) / b.c * b.c := by
          have := Int.lt_ediv_add_one_mul_self (n : Int) (by omega : 0 < b.c)
          rw [Int.add_mul, Int.one_mul] at this
          omega
        have s3 : ((n : Int) - a.c + 1) * a.p ≤ ((n : Int) / b.c * b.c) * a.p := Int.mul_le_mul_of_nonneg_right (by omega) (by omega)
        have s4 : (n : Int) / b.c * (a.p * b.c) ≤ (n : Int) / b.c * b.p := Int.mul_le_mul_of_nonneg_left s1 hk0
        have e : (n : Int) / b.c * b.c * a.p = (n : Int) / b.c * (a.p * b.c) := by rw [Int.mul_assoc, Int.mul_comm b.c a.p]
        omega
      · exact Int.mul_nonneg hk0 (by omega)
    | true =>
      rw [hb, if_neg (fun z => by cases z)] at h
      rw [if_pos rfl]
      split
      · rw [if_pos (by omega)]
        have s1 : ((n : Int) - a.c + 1) * a.p ≤ ((n : Int) - a.c + 1) * b.p := Int.mul_le_mul_of_nonneg_left h (by omega)
        have s2 : ((n : Int) - a.c + 1) * b.p ≤ ((n : Int) - b.c + 1) * b.p := Int.mul_le_mul_of_nonneg_right (by omega) (by omega)
        omega
      · split
        · exact Int.mul_nonneg (by omega) (by omega)
        · exact Int.le_refl _
end LW

namespace LW
open PySem PySem.Spec PyProof.Rows L2 DL
/-! ### compare -/
def sp_longest_pause : SpD := fun rs P _ => ∃ (ln : Bool) (c : Int) (r : Rl), rs = [.fz (kD ln), .fz (.int c), .fz (rD r)] ∧ RlOk r ∧ 0 ≤ c ∧ c ≤ 100 ∧ ∀ af, P (.fz (.int (lpI ln c r))) af
def sp_better : SpD := fun rs P _ => ∃ (a b : Rl), rs = [.fz (rD a), .fz (rD b)] ∧ RlOk a ∧ RlOk b ∧ ∀ af, P (.fz (.bool (betterB a b))) af
def sp_need_two : SpD := fun rs P _ => ∃ (a b : Rl), rs = [.fz (rD a), .fz (rD b)] ∧ RlOk a ∧ RlOk b ∧ ∀ af, P (.fz .none) af
def sp_replaces : SpD := fun rs P _ => ∃ (a b : Rl), rs = [.fz (rD a), .fz (rD b)] ∧ RlOk a ∧ RlOk b ∧ ∀ af, P (.fz (.bool (betterB a b))) af
def sp_law_near : SpD := fun rs P _ => ∃ (b : List PyData) (r : Rl), rs = [.ls b, .fz (rD r)] ∧ IsBag b ∧ RlOk r ∧ ∀ r' b' af, RlOk r' → IsBag b' → af 0 = some (.ls b') → P (.fz (rD r')) af
def sp_law_times : SpD := fun rs P _ => ∃ (r : Rl) (ns : List Int), rs = [.fz (rD r), .fz (tI ns)] ∧ RlOk r ∧ ns.length ≤ 60 ∧ ∀ af, P (.ls ((servedL r ns).map .int)) af
theorem rix0 (r : Rl) : ixD (rD r) (.int 0) = some (kD r.ln) := rfl
theorem rix1 (r : Rl) : ixD (rD r) (.int 1) = some (.int r.c) := rfl
theorem rix2 (r : Rl) : ixD (rD r) (.int 2) = some (.int r.p) := rfl
end LW

namespace LW
open PySem PySem.Spec PyProof.Rows L2 DL
/-! ### the used presses by their places -/
theorem useL_snoc (r : Rl) (ns : List Int) (t : Int) : useL r (ns ++ [t]) = useL r ns ++ if goodB r (bsL r ns) t = true then [ns.length] else [] := by
  unfold useL
  rw [List.length_append, List.length_singleton, List.range_succ, List.filter_append]
  congr 1
  · refine List.filter_congr fun k hk => ?_
    have hk := List.mem_range.mp hk
    rw [List.take_append_of_le_length (by omega), List.getElem?_append_left hk]
  · rw [List.filter_cons, List.filter_nil, List.take_append_of_le_length (Nat.le_refl _), List.take_length, List.getElem?_append_right (Nat.le_refl _), Nat.sub_self]
    rfl
theorem useL_lt (r : Rl) (ns : List Int) : ∀ k ∈ useL r ns, k < ns.length := fun k hk => by
  unfold useL at hk
  exact List.mem_range.mp (List.mem_filter.mp hk).1
theorem grd_good {r : Rl} (ok : RlOk r) {ns : List Int} {t : Int} (hA : AscP ns) : grd r (usT r ns) t = if goodB r (bsL r ns) t = true then usT r ns ++ [t] else usT r ns := by
  obtain ⟨h1, h2, h3⟩ := usT_ok ok ns hA
  unfold grd
  rw [h3, good_avail ok (bsOf_asc ok fun i j hij hj => h1.asc ok hij hj)]
theorem useL_times {r : Rl} (ok : RlOk r) (ns : List Int) : AscP ns → (useL r ns).map (at0 ns) = usT r ns := by
  refine snoc_ind (P := fun ns => AscP ns → (useL r ns).map (at0 ns) = usT r ns) (fun _ => rfl) (fun ns t ih hA => ?_) ns
  rw [useL_snoc, usT_snoc, grd_good ok hA.init, List.map_append]
  have e : (useL r ns).map (at0 (ns ++ [t])) = (useL r ns).map (at0 ns) := List.map_congr_left fun k hk => at0_app (useL_lt r ns k hk)
  rw [e, ih hA.init]
  by_cases z : goodB r (bsL r ns) t = true
  · rw [if_pos z, if_pos z, List.map_cons, List.map_nil, at0_end]
  · rw [if_neg z, if_neg z]; simp
theorem useL_len {r : Rl} (ok : RlOk r) {ns : List Int} (hA : AscP ns) : (useL r ns).length = (usT r ns).length := by
  rw [← useL_times ok ns hA, List.length_map]
theorem useL_all {r : Rl} (ok : RlOk r) {ns : List Int} (hA : AscP ns) : useL r ns = List.range ns.length ↔ Valid r ns := by
  rw [← usT_all ok hA]
  constructor
  · intro h
    have h2 := useL_times ok ns hA
    rw [h] at h2
    rw [← h2]
    refine ext_at0 (by simp) fun j hj => ?_
    have hj : j < ns.length := by simpa using hj
    show ((List.range ns.length).map (at0 ns))[j]?.getD 0 = _
    rw [List.getElem?_map, List.getElem?_range hj]; rfl
  · intro h
    have hl := useL_len ok hA
    rw [h] at hl
    unfold useL at hl ⊢
    have : ((List.range ns.length).filter fun k => goodB r (bsL r (ns.take k)) (ns[k]?.getD 0)).length = (List.range ns.length).length := by rw [hl, List.length_range]
    exact List.filter_eq_self.mpr (List.length_filter_eq_length_iff.mp this)
theorem usT_sub (r : Rl) (ns : List Int) : (usT r ns).Sublist ns := by
  refine snoc_ind (P := fun ns => (usT r ns).Sublist ns) (List.nil_sublist _) (fun ns t ih => ?_) ns
  rcases usT_pre r ns t with e | e
  · rw [e]; exact ih.trans (List.sublist_append_left _ _)
  · rw [e]; exact ih.append (List.Sublist.refl _)
theorem AscP.cons {a : Int} {xs : List Int} (h : AscP (a :: xs)) : AscP xs := fun i j hij hj => h (i + 1) (j + 1) (by omega) (by simpa using hj)
theorem sub_ge {v xs : List Int} (h : v.Sublist xs) : AscP xs → ∀ j, j < v.length → at0 xs j ≤ at0 v j := by
  induction h with
  | slnil => exact fun _ _ h => absurd h (Nat.not_lt_zero _)
  | @cons v xs a s ih =>
    intro hA j hj
    have h1 := ih hA.cons j hj
    have h2 : at0 (a :: xs) j ≤ at0 (a :: xs) (j + 1) := hA j (j + 1) (by omega) (by have := s.length_le; simp; omega)
    have h3 : at0 (a :: xs) (j + 1) = at0 xs j := rfl
    omega
  | @cons_cons v xs a s ih =>
    intro hA j hj
    cases j with
    | zero => exact Int.le_refl _
    | succ j => exact ih hA.cons j (by simpa using hj)
theorem sub_ascP {v xs : List Int} (h : v.Sublist xs) (hA : AscP xs) : AscP v := by
  have hp : xs.Pairwise (· ≤ ·) := by
    rw [List.pairwise_iff_getElem]
    intro i j hi hj hij
    have := hA i j (by omega) hj
    unfold at0 at this
    rw [List.getElem?_eq_getElem hi, List.getElem?_eq_getElem hj] at this
    exact this
  have hv := hp.sublist h
  rw [List.pairwise_iff_getElem] at hv
  intro i j hij hj
  by_cases z : i = j
  · rw [z]; exact Int.le_refl _
  · have := hv i j (by omega) hj (by omega)
    unfold at0
    rw [List.getElem?_eq_getElem (by omega), List.getElem?_eq_getElem hj]
    exact this
/-- a part of a possible row is possible -/
theorem Valid.sub {r : Rl} (ok : RlOk r) {v xs : List Int} (h : v.Sublist xs) (hv : Valid r xs) : Valid r v := by
  have hp : xs.Pairwise (· ≤ ·) := by
    rw [List.pairwise_iff_getElem]
    intro i j hi hj hij
    have := hv.asc ok (by omega : i ≤ j) hj
    unfold at0 at this
    rw [List.getElem?_eq_getElem hi, List.getElem?_eq_getElem hj] at this
    exact this
  obtain ⟨is, rfl, his⟩ := List.sublist_eq_map_getElem h
  refine ⟨fun m j hm hj => ?_⟩
  rw [List.length_map] at hj
  rw [List.pairwise_iff_getElem] at his
  have key : ∀ m j (hm : m < is.length) (hj : j < is.length), m ≤ j → j - m ≤ (is[j] : Nat) - (is[m] : Nat) ∧ (is[m] : Nat) ≤ is[j] := by
    intro m j hm hj hmj
    induction j with
    | zero => have : m = 0 := by omega
              subst this; simp
    | succ j ih =>
      by_cases z : m = j + 1
      · subst z; simp
      · have h1 := ih (by omega) (by omega)
        have h2 : is[j] < is[j + 1] := his j (j + 1) (by omega) hj (by omega)
        have h3 : (is[j] : Nat) < is[j + 1] := h2
        omega
  have k1 := key m j (by omega) hj (by omega)
  have lt : (is[m] : Nat) < is[j] := his m j (by omega) hj hm
  have e : ∀ i, (hi : i < is.length) → at0 (is.map fun i => xs[i]) i = at0 xs is[i] := fun i hi => by
    unfold at0
    rw [List.getElem?_map, List.getElem?_eq_getElem hi, List.getElem?_eq_getElem is[i].2]
    rfl
  have h1 := hv.v is[m] is[j] lt is[j].2
  have h2 := spn_mono ok k1.1
  have e1 := e m (by omega)
  have e2 := e j hj
  rw [show (xs[·]) = fun i : Fin xs.length => xs[i] from rfl] at *
  rw [e1, e2]; omega
/-! ### readings of lists of places -/
theorem nat_ints (ks : List Nat) : (ks.map fun k => PyData.int (k : Nat)) = (ks.map fun k : Nat => (k : Int)).map .int := by rw [List.map_map]; rfl
theorem nat_inj {ks ms : List Nat} : (ks.map fun k : Nat => (k : Int)) = (ms.map fun k : Nat => (k : Int)) ↔ ks = ms := by
  constructor
  · intro h
    have := congrArg (List.map Int.toNat) h
    rw [List.map_map, List.map_map] at this
    simpa [Function.comp_def] using this
  · intro h; rw [h]
theorem neD_lN (ks ms : List Nat) : neD (.list (ks.map fun k => .int (k : Nat))) (.list (ms.map fun k => .int (k : Nat))) = some (.bool (!decide (ks = ms))) := by
  rw [nat_ints, nat_ints, neD_lI]
  congr 3
  exact decide_eq_decide.mpr nat_inj
theorem eqD_lN (ks ms : List Nat) : eqD (.list (ks.map fun k => .int (k : Nat))) (.list (ms.map fun k => .int (k : Nat))) = some (.bool (decide (ks = ms))) := by
  rw [nat_ints, nat_ints, eqD_lI]
  congr 2
  exact decide_eq_decide.mpr nat_inj
theorem rng_nat (n : Nat) : rngD 0 n = (List.range n).map fun k => .int (k : Nat) := by
  unfold rngD
  refine List.map_congr_left fun k _ => ?_
  rw [Int.zero_add]
theorem ix_at {bs : List Int} {k : Nat} (h : k < bs.length) : ixD (lI' bs) (.int (k : Nat)) = some (.int (at0 bs k)) := ix_natL (by omega) (by
  have : ((k : Nat) : Int).toNat = k := by omega
  rw [this]; exact at0_get h)
theorem ix_atT {bs : List Int} {k : Nat} (h : k < bs.length) : ixD (tI bs) (.int (k : Nat)) = some (.int (at0 bs k)) := ix_at h
theorem ix_atN {ks : List Nat} {k : Nat} (h : k < ks.length) : ixD (.list (ks.map fun k => .int (k : Nat))) (.int (k : Nat)) = some (.int (ks[k] : Nat)) := by
  rw [nat_ints]
  have h2 := ix_at (bs := ks.map fun k : Nat => (k : Int)) (k := k) (by rw [List.length_map]; exact h)
  rw [h2]
  unfold at0
  rw [List.getElem?_map, List.getElem?_eq_getElem h]; rfl
theorem zip_range {xs ys : List Int} (h : xs.length = ys.length) : ((xs.zip ys).map fun p => p.2 - p.1) = (List.range xs.length).map fun i => at0 ys i - at0 xs i := by
  refine List.ext_getElem? fun i => ?_
  by_cases z : i < xs.length
  · have hz : (xs.zip ys)[i]? = some (at0 xs i, at0 ys i) := List.getElem?_zip_eq_some.mpr ⟨at0_get z, at0_get (h ▸ z)⟩
    rw [List.getElem?_map, List.getElem?_map, List.getElem?_range z, hz]; rfl
  · rw [List.getElem?_eq_none (by simp; omega), List.getElem?_eq_none (by simp; omega)]
/-- a loop in whose turns one and the same stays true -/
theorem for_pc {g : DTG} {tb : DTS} {D : DEnds} {ds : List PyData} {ρ1 : DSt} (I : DSt → Prop) (P : PyData → Prop) (h0 : I ρ1) (hP : ∀ d ∈ ds, P d)
    (hs : ∀ (D' : DEnds) d ρ', (∀ ρ, I ρ → D'.nx ρ) → (∀ ρ, I ρ → D'.ct ρ) → P d → I ρ' → g d ρ' fun ρ2 => tb D' ρ2) (he : ∀ ρ', I ρ' → D.nx ρ') : ForP g tb D ds ρ1 :=
  for_p (fun _ => I) h0 (fun _ d ρ' hk hI => hs { D with nx := I, ct := I, bk := D.nx } d ρ' (fun _ h => h) (fun _ h => h) (hP d (mem_of_get hk)) hI) he
end LW

namespace DL
open PySem PySem.Spec PyProof.Rows L2
/-! ### defs with one parameter and *rest -/
section
variable {P : Program} {w : World} {K : PySem.W.Frag} {mg : Str → Option Value} {base : Heap}
/-- u, *rest: rest is laid as a tuple, then the body runs -/
def StarB (fd : FuncData) (ps : List Str) : Prop := ∀ us : List Value, (1 ≤ us.length ∧ us.length ≤ 4) → bindArgs fd ⟨us, []⟩ = (newTuple (us.drop 1) >>= fun t => pure (ps.zip (us.take 1 ++ [t])))
/-- what a call by such a def needs: it is run at the state behind the tuple -/
def StarRun (P : Program) (w : World) (K : PySem.W.Frag) (mg : Str → Option Value) (base : Heap) (CX : CXT) (k : Nat) (f : Addr) (sp : Sp) : Prop :=
  ∀ (A : Around) (outer : List Env) (s : Shared) (H2 : Hp) (us : List Value) (vs : List V) (Q : VK) (E : XK), Room k A → (1 ≤ us.length ∧ us.length ≤ 4) → K.In s.heap →
    Env0 P w K mg base A outer { s with heap := s.heap.push { cls := .type "tuple", data := .seq (us.drop 1).toArray } } H2 → Vals vs (us.take 1 ++ [.ref s.heap.objs.size]) → sp vs H2 Q E →
    codeAny (model P w) A (.call (.ref f) ⟨us, []⟩) (CR CX outer P w H2 { s with heap := s.heap.push { cls := .type "tuple", data := .seq (us.drop 1).toArray } } Q E) s
theorem star_run {CX : CXT} {x qual : Str} {st : Stmt} {f : Addr} {fd : FuncData} {N : List Str} {p0 p1 : Str} {k : Nat} {sp : Sp} (F : Fun K x qual st f fd) (S : FnScope N [p0, p1] (defScope st)) (hb : StarB fd [p0, p1]) (len : ∀ vs H Q E, sp vs H Q E → vs.length = 2)
    (hbody : ∀ (cdv : Value) (A : Around) (outer : List Env) (s : Shared) (H : Hp) (vs : List V) (Q : VK) (E : XK), Room k (A.deeper (envOfC qual (defScope st) s.heap.objs.size f cdv)) → sp vs H Q E →
      ∃ t, PSs (cxOf CX P w K mg base N qual (defScope st) f cdv A outer s H E) (defBody st) t ∧ t { nx := fun _ H' => Q .non H', rt := Q } (start N vs) H) : StarRun P w K mg base CX (k + 1) f sp := by
  obtain ⟨oc, od, kV, doc, pm, an, cdv, ct, osl, rfl, lk, hcd⟩ := F.ex
  intro A outer s H2 us vs Q E hr hus KX e0 rv hsp
  have hl2 := len _ _ _ _ hsp
  refine codeAny_call_function hr.depth (KX _ _ lk) rfl S.co S.gen rfl (PySem.W.codeRec_of KX hcd) ?_
  rw [hb us hus]
  refine wpAny_bind (wpAny_newObj_type ?_ (by show (us.drop 1).toArray.size ≤ sizeLine; rw [List.size_toArray, List.length_drop]; have := hus.2; show us.length - 1 ≤ sizeLine; exact Nat.le_trans (show us.length - 1 ≤ 4 by omega) (by decide)))
  refine wpAny_pure ?_
  have bnd : ∀ y ∈ [p0, p1].zip (us.take 1 ++ [.ref s.heap.objs.size]), (defScope st).names.lookup y.1 = some .local ∨ ((defScope st).names.lookup y.1 = some .cell ∧ ((cellsFrom ((s.heap.push { cls := .type "tuple", data := .seq (us.drop 1).toArray }).objs.size + 1) (defScope st).names []).lookup y.1).isSome = true) := by
    rintro ⟨n, v⟩ hy
    exact (S.par n (List.of_mem_zip hy).1).imp _root_.id fun q => ⟨q, PySem.W.cellsFrom_some _ _ _ (.inl q)⟩
  refine wpAny_newFunctionEnv_cells S.kind bnd fun env he s1 hx => ?_
  cases he
  have lim := e0.mod.nolimit.keeps fun b o e => (e0.bs b o e).1
  refine ⟨lim.keeps hx.toInCall.keep, codeAny_func ?_⟩
  obtain ⟨t, ht, hq⟩ := hbody cdv A outer { s with heap := s.heap.push { cls := .type "tuple", data := .seq (us.drop 1).toArray } } H2 vs Q E (hr.deeper _) hsp
  have J := inv_start (CX := CX) (E := E) (cd := cdv) (f := f) (qual := qual) S hr.hd e0 hl2 rv hx
  refine wpAny_mono (ht.run [] s1 (start N vs) H2 _ J hq) (fun fl s2 hs => ?_) fun _ _ z => z
  match fl, hs with
  | .ret u, ⟨v, σ', H', J', rv', q⟩ => exact ⟨v, H', J'.os, J'.bare, J'.base, J'.hok, rv', q⟩
  | .next, ⟨σ', H', J', q⟩ => exact ⟨.non, H', J'.os, J'.bare, J'.base, J'.hok, rfl, q⟩
  | .brk, ⟨_, _, _, q⟩ => exact q.elim
  | .cont, ⟨_, _, _, q⟩ => exact q.elim
end
section
variable {X : Cx} {x : Str} {p pos : Pos} {e : Expr} {es : List Expr} {t : TA} {f : Addr} {k : Nat} {sp : Sp}
def tStar (sp : Sp) (t : TA) : TE := fun σ H Q => t σ H fun vs H1 => (1 ≤ vs.length ∧ vs.length ≤ 4) ∧ ∀ a, H1 a = none → sp (vs.take 1 ++ [.ref a]) (upd H1 a (.tup (vs.drop 1))) Q E0
theorem vals_take {vs : List V} {us : List Value} (h : Vals vs us) : ∀ n, Vals (vs.take n) (us.take n) := by
  induction h with
  | nil => intro n; simp; exact .nil
  | cons a _ ih => intro n; cases n with
    | zero => exact .nil
    | succ n => exact .cons a (ih n)
theorem vals_drop {vs : List V} {us : List Value} (h : Vals vs us) : ∀ n, Vals (vs.drop n) (us.drop n) := by
  induction h with
  | nil => intro n; simp; exact .nil
  | cons a t ih => intro n; cases n with
    | zero => exact .cons a t
    | succ n => exact ih n
theorem pe_star (F : StarRun X.prog X.w X.K X.mg X.base CX0 k f sp) (hr : Room k X.A) (hg : Gl X x) (hm : X.mg x = some (.ref f)) (hk : PySem.W.keepIn X.K (.ref f) = true) (ha : PA X (e :: es) t)
    (hdb : (x == ("__debug__" : Str)) = false := by decide) (he : starEach (e :: es) X.env = (false, eval e X.env) :: starEach es X.env := by rfl) (hpl : (backTo pos (starEach es X.env)).any (·.1) = false := by rfl) :
    PE X (.Call (.Name x p) (e :: es) [] pos) (tStar sp t) := by
  refine ⟨fun pins s σ H Q I h => wpAny_Call_Name_kw (ld_glob I hg hm ?_ hdb)⟩
  refine PySem.W.callWith_K (h₀ := X.base) I.ok.mod.kin hk (thn (ha.run pos pins s σ H _ I h) fun us s1 ⟨vs, H1, I1, r, hn, q⟩ => ⟨I1.kIn, ?_⟩) he hpl
  have hn2 : (1 ≤ us.length ∧ us.length ≤ 4) := by rw [← r.length]; exact hn
  have I2 : Inv X pins σ (upd H1 s1.heap.objs.size (.tup (vs.drop 1))) { s1 with heap := s1.heap.push { cls := .type "tuple", data := .seq (us.drop 1).toArray } } :=
    I1.laid (t' := s1.toks) (o := .tup (vs.drop 1)) (fun b ob z => Heap.get?_push_of_some _ z) (Nat.le_refl _) ⟨by rw [List.length_drop]; exact Nat.le_trans (show vs.length - 1 ≤ 4 by have := hn.2; omega) (by decide), _, vals_drop r 1, IsTup.new _ _⟩
  have rv : Vals (vs.take 1 ++ [.ref s1.heap.objs.size]) (us.take 1 ++ [.ref s1.heap.objs.size]) := (vals_take r 1).append (.cons rfl .nil)
  refine wpAny_call (codeAny_mono (F X.A X.stack s1 _ us _ Q E0 hr hn2 I1.kIn I2.env0 rv (q _ (I1.hok.fresh (Nat.le_refl _)))) fun r s' hq => ?_)
  match r, hq with
  | .ok (.ret u), hq => exact I2.after hq
  | .ok .next, hq => exact False.elim hq
  | .ok .brk, hq => exact False.elim hq
  | .ok .cont, hq => exact False.elim hq
  | .error _, hq => exact False.elim hq
end
/-! .. on data -/
section
variable {X : Cx} {G : Fx} {e : Expr} {es : List Expr} {tl : DTL} {n : Nat} {sp : SpD}
/-- a call of data at a state -/
theorem call_core {Hf1 H1 : Hp} {ω1 : Addr → Option Nat} {σ : L2.St} {ρ1 : DSt} {vs : List V} {ds : List PyData} {Q : VK} {Qd : Res → DSt → Prop} (rep1 : RepF G Hf1 H1 ω1 σ ρ1) (hv : DdAll G.K Hf1 vs ds) (hl : ds.length = n)
    (q1 : sp (ds.map Res.fz) (fun r _ => Qd r ρ1) (fun _ _ => False))
    (k : ∀ v H2 Hf2 r (S : Own), RepF G Hf2 H2 ω1 σ ρ1 → Stp Hf1 H1 ω1 Hf2 H2 ω1 → Air H1 ω1 Hf2 H2 ω1 S → RepV G.K Hf2 H2 S v r → Qd r ρ1 → Q v H2) : toSp G.K [] n sp vs H1 Q E0 := by
  refine ⟨by rw [hv.len, hl], Hf1, fun _ => none, ds.map Res.fz, _, _, rep_args rep1.ex hv, q1, fun v H2 Hf2 ω2 r af rr st2 q2 => ?_, fun _ _ _ _ _ _ _ z => z⟩
  have nO : ∀ a, ω2 a ≠ none → H1 a = none := fun a ha => by
    cases q : ω2 a with
    | none => exact absurd q ha
    | some i =>
      rcases st2.new a i q with ⟨j, z⟩ | z
      · cases z
      · exact z
  have repC : RepF G Hf2 H2 ω1 σ ρ1 := by
    refine ⟨rr.ex, fun b j w => ?_, rep1.len, rep1.fix, fun j r' w => ?_⟩
    · obtain ⟨z1, o, z2⟩ := rep1.own b j w
      exact ⟨st2.cap b o z2 rfl z1, o, st2.fr b o z2 rfl⟩
    · obtain ⟨u, u1, u2⟩ := rep1.slot j r' w
      refine ⟨u, u1, u2.mono st2.fz (fun b hb => ?_) fun _ z => z⟩
      obtain ⟨z1, o, z2⟩ := rep1.own b j hb
      rw [z2]; exact st2.fr b o z2 rfl
  have stC : Stp Hf1 H1 ω1 Hf2 H2 ω1 := ⟨st2.fz, fun b o q _ => st2.fr b o q rfl, st2.keep, fun b o q _ z => st2.cap b o q rfl z, fun b j w => .inl ⟨j, w⟩⟩
  refine k v H2 Hf2 r (fun a => ω2 a = some vs.length) repC stC (fun a ha => ?_) rr.res q2
  have hn := nO a (by rw [ha]; exact fun z => nomatch z)
  obtain ⟨z1, z2⟩ := rr.own a _ ha
  refine ⟨.inl hn, z1, ?_, z2⟩
  cases q : ω1 a with
  | none => rfl
  | some i => obtain ⟨_, o, h'⟩ := rep1.own a i q; rw [hn] at h'; cases h'
/-- f(d, *rest) -/
def cCallSt (sp : SpD) (tl : DTL) : DTR := fun ρ Q => tl ρ fun ds ρ1 => sp [.fz (ds.headD .none), .fz (.tuple (ds.drop 1))] (fun r _ => Q r ρ1) (fun _ _ => False)
theorem lR_callSt (hn : 1 ≤ n ∧ n ≤ 4) {σ : L2.St} {H : Hp} {Q : VK} (h : lR G (cCallSt sp tl) σ H Q) : tStar (toSp G.K [] 2 sp) (lD G n tl) σ H Q := by
  obtain ⟨Hf, ω, ρ, Qd, rep, ht, k⟩ := h
  refine ⟨Hf, ω, ρ, _, rep, ht, fun vs H1 Hf1 ω1 ρ1 ds hl rep1 st1 hv q1 => ⟨by rw [hv.len, hl]; exact hn, fun p hp => ?_⟩⟩
  have g : Grw Hf1 H1 _ _ := .new (o := .tup (vs.drop 1)) rep1.ex hp
  have st2 := st1.trans (g.stp rep1)
  match ds, hv, q1 with
  | [], _, _ => simp at hl; omega
  | d :: r, .cons (v := v) (vs := vr) h1 h2, q1 =>
    have hv2 : DdAll G.K (upd Hf1 p (.tup ((v :: vr).drop 1))) ((v :: vr).take 1 ++ [.ref p]) [d, .tuple r] := .cons (g.fz.dp h1) (.cons (.tup upd_same (g.fz.dpAll h2)) .nil)
    refine call_core (n := 2) (Qd := Qd) (g.rep rep1) hv2 rfl q1 fun u H3 Hf3 r3 S rep3 st3 hS hr3 q3 => ?_
    exact k u H3 Hf3 ω1 ρ1 r3 S rep3 (st2.trans st3) (fun a ha => ⟨back_air st2 (hS a ha).1, (hS a ha).2⟩) hr3 q3
/-- a def with *rest that keeps a promise -/
structure CalS (P : Program) (w : World) (K : PySem.W.Frag) (mg : Str → Option Value) (base : Heap) (L : Fn) (k : Nat) (x : Str) (sp : SpD) : Prop where
  ex : ∃ f : Addr, StarRun P w K mg base CX0 k f (toSp L [] 2 sp) ∧ mg x = some (.ref f) ∧ PySem.W.keepIn K (.ref f) = true
structure FnTS (K : PySem.W.Frag) (mg : Str → Option Value) (x : Str) (st : Stmt) (ps : List Str) : Prop where
  ex : ∃ f fd, Fun K x x st f fd ∧ mg x = some (.ref f) ∧ StarB fd ps
theorem cals_ok {P : Program} {w : World} {K : PySem.W.Frag} {mg : Str → Option Value} {base : Heap} {L : Fn} {x : Str} {st : Stmt} {N : List Str} {p0 p1 : Str} {k : Nat} {sp : SpD} (T : FnTS K mg x st [p0, p1]) (S : FnScope N [p0, p1] (defScope st))
    (hbody : ∀ (f : Addr) (cdv : Value) (A : Around) (outer : List Env) (s : Shared) (H : Hp) (vs : List V) (E : XK) (rs : List Res) (Pd : Res → Af → Prop) (Ed : Value → Af → Prop), vs.length = 2 → Room k (A.deeper (envOfC x (defScope st) s.heap.objs.size f cdv)) → sp rs Pd Ed →
      ∃ t, DSs (cxOf CX0 P w K mg base N x (defScope st) f cdv A outer s H E).nox ⟨L, vs, []⟩ (defBody st) t ∧ t { nx := fun ρ => Pd (.fz .none) fun k => (ρ[k]?).bind fun o => o, rt := Pd } (start0 N rs)) :
    CalS P w K mg base L (k + 1) x sp := by
  obtain ⟨f, fd, h1, h2, h3⟩ := T.ex
  refine ⟨f, star_run h1 S h3 (fun vs H Q E h => h.1) (fun cdv A outer s H vs Q E hr h => ?_), h2, h1.kp⟩
  obtain ⟨hn, Hf, ω, rs, Pd, Ed, rep, hsp, hP, hE⟩ := h
  obtain ⟨t, b1, b2⟩ := hbody f cdv A outer s H vs E rs Pd Ed hn hr hsp
  refine ⟨_, b1.nox, Hf, ω, _, _, rep_start rep (fun k hk => nomatch hk), b2, fun σ' H' Hf' ω' ρ' rep' st' q => ?_, fun v H' Hf' ω' r af rr st' q => hP _ _ _ _ _ _ rr st' q, fun _ _ _ _ _ _ _ z => z.elim, fun _ _ _ _ _ _ _ z => z.elim⟩
  obtain ⟨ω2, r2, s2⟩ := rep'.ret (v := .non) (r := .fz .none) (S := fun _ => False) st' (fun z => nomatch z) air_none .non
  exact hP _ _ _ _ _ _ r2 s2 q
theorem dr_cst {x : Str} {p pos : Pos} {j k : Nat} (C : CalS X.prog X.w X.K X.mg X.base G.K j x sp) (hr : Room k X.A) (ha : DD X G (e :: es) n tl) (hn : 1 ≤ n ∧ n ≤ 4 := by decide) (hjk : j ≤ k := by decide) (hg : Gl X x := by rfl) (hdb : (x == ("__debug__" : Str)) = false := by decide)
    (he : starEach (e :: es) X.env = (false, eval e X.env) :: starEach es X.env := by rfl) (hpl : (backTo pos (starEach es X.env)).any (·.1) = false := by rfl) : DR X G (.Call (.Name x p) (e :: es) [] pos) (cCallSt sp tl) := by
  obtain ⟨f, a, b, c⟩ := C.ex
  exact pe_imp (pe_star a (hr.mono hjk) hg b c ha hdb he hpl) fun _ _ _ h => lR_callSt hn h
end
section
variable {K : PySem.W.Frag} {h : Heap} {mg : Str → Option Value}
theorem star_of {fd : FuncData} {ps : List Str} (h1 : ∀ a, bindArgs fd ⟨[a], []⟩ = (newTuple [] >>= fun t => pure (ps.zip [a, t]))) (h2 : ∀ a b, bindArgs fd ⟨[a, b], []⟩ = (newTuple [b] >>= fun t => pure (ps.zip [a, t]))) (h3 : ∀ a b c, bindArgs fd ⟨[a, b, c], []⟩ = (newTuple [b, c] >>= fun t => pure (ps.zip [a, t])))
    (h4 : ∀ a b c d, bindArgs fd ⟨[a, b, c, d], []⟩ = (newTuple [b, c, d] >>= fun t => pure (ps.zip [a, t]))) : StarB fd ps := fun us hl => by
  match us, hl with
  | [a, b], _ => exact h2 a b
  | [a, b, c], _ => exact h3 a b c
  | [a, b, c, d], _ => exact h4 a b c d
  | [], z => exact absurd z.1 (by simp)
  | [a], _ => exact h1 a
  | _ :: _ :: _ :: _ :: _ :: _, z => exact absurd z.2 (by simp)
theorem fnTS_mk {x : Str} {st : Stmt} {ps : List Str} {f : Addr} {oc : Value} {od an : Option Addr} {osl : Array (Option Value)} {kV doc pm cdv ct : Value} (X : K.In h) (G : h.Ns mainGlobals mg)
    (a : PySem.W.nsIn K mainGlobals x = some (some (.ref f))) (l : K.lookup f = some ⟨oc, od, .func (PySem.W.fnOf x x (defArgs st) (defBody st) (defScope st) .none kV doc pm an cdv ct), osl⟩)
    (c : PySem.W.codeIn K cdv x = true) (k : PySem.W.keepIn K (.ref f) = true)
    (hb : StarB (PySem.W.fnOf x x (defArgs st) (defBody st) (defScope st) .none kV doc pm an cdv ct) ps) : FnTS K mg x st ps :=
  ⟨f, _, fun_mk (st := st) l c k, PySem.W.mg_of X G a, hb⟩
end
end DL

namespace LW
open PySem PySem.Spec PyProof.Rows L2 DL
def totL (r : Rl) (rows : List (List Int)) : Int := (rows.map fun row => ((useL r row).length : Int)).sum
def sp_total_uses : SpD := fun rs P _ => ∃ (r : Rl) (rows : List (List Int)), rs = [.fz (rD r), .fz (.tuple (rows.map tI))] ∧ RlOk r ∧ rows.length ≤ 10 ∧ (∀ row ∈ rows, RowOk row) ∧ ∀ af, P (.fz (.int (totL r rows))) af
def decT (d : PyData) : List Int := match d with
  | .tuple ds => (intsD ds).getD []
  | _ => []
theorem decT_tI (ns : List Int) : decT (tI ns) = ns := by
  show (intsD (ns.map .int)).getD [] = ns
  rw [intsD_map]; rfl
theorem sum_i (ns : List Int) : sumD [lI' ns] = some (.int ns.sum) := by
  show (intsD (ns.map .int)).map _ = _
  rw [intsD_map]; rfl
/-! ### the laws' steps -/
theorem at0_take' {xs : List Int} {k j : Nat} (h : j < k) : at0 (xs.take k) j = at0 xs j := by
  unfold at0; rw [List.getElem?_take_of_lt h]
theorem count_out {bs : List Int} {t : Int} {k : Nat} (hk : k ≤ bs.length) (h1 : ∀ j, j < k → at0 bs j ≤ t) (h2 : ∀ j, k ≤ j → j < bs.length → t < at0 bs j) : (bs.filter fun b => decide (t < b)).length = bs.length - k := by
  have e1 : (bs.take k).filter (fun b => decide (t < b)) = [] := by
    rw [List.filter_eq_nil_iff]
    intro b hb
    obtain ⟨j, hj, rfl⟩ := mem_at0 hb
    rw [List.length_take] at hj
    rw [at0_take' (by omega)]
    simpa using h1 j (by omega)
  have e2 : (bs.drop k).filter (fun b => decide (t < b)) = bs.drop k := by
    rw [List.filter_eq_self]
    intro b hb
    obtain ⟨j, hj, rfl⟩ := mem_at0 hb
    rw [List.length_drop] at hj
    have e : at0 (bs.drop k) j = at0 bs (k + j) := by unfold at0; rw [List.getElem?_drop]
    rw [e]
    simpa using h2 (k + j) (by omega) (by omega)
  conv => lhs; rw [(List.take_append_drop k bs).symm]
  rw [List.filter_append, e1, e2, List.nil_append, List.length_drop]
theorem rep_left {r : Rl} {bs : List Int} {t : Int} {s : List (PyData ⊕ List PyData)} (h : Rep r bs t s) : ∃ y z, s = [.inl (.int (leftL r bs t)), .inr y, .inl z] := by
  obtain ⟨k, due, last, rfl, st, _, h1, _, h2⟩ := h.ex
  unfold leftL
  rw [count_out st.hk h1 h2]
  exact ⟨due.map .int, .int last, rfl⟩
/-- is the press used, the charges behind it -/
def stpL (r : Rl) (ns : List Int) : List (Bool × Int) := (List.range ns.length).map fun k => (goodB r (bsL r (ns.take k)) (at0 ns k), leftL r (bsL r (ns.take (k + 1))) (at0 ns k))
def prS (p : Bool × Int) : PyData := .tuple [.bool p.1, .int p.2]
theorem stpL_len (r : Rl) (ns : List Int) : (stpL r ns).length = ns.length := by unfold stpL; simp
theorem stpL_get {r : Rl} {ns : List Int} {k : Nat} (h : k < ns.length) : (stpL r ns)[k]? = some (goodB r (bsL r (ns.take k)) (at0 ns k), leftL r (bsL r (ns.take (k + 1))) (at0 ns k)) := by
  unfold stpL
  rw [List.getElem?_map, List.getElem?_range h]; rfl
theorem use_of_stp (r : Rl) (ns : List Int) : ((enumD ((stpL r ns).map prS)).filter stGood).map stAt = (useL r ns).map fun k => .int (k : Nat) := by
  rw [enum_range, List.filter_map, List.map_map]
  unfold useL
  rw [List.length_map, stpL_len]
  have e : (List.range ns.length).filter (stGood ∘ fun k => PyData.tuple [.int (k : Nat), (((stpL r ns).map prS)[k]?).getD .none]) = (List.range ns.length).filter fun k => goodB r (bsL r (ns.take k)) (ns[k]?.getD 0) := by
    refine List.filter_congr fun k hk => ?_
    have hk := List.mem_range.mp hk
    rw [Function.comp_apply, List.getElem?_map, stpL_get hk]
    rfl
  rw [e]
  rfl
def sp_law_steps : SpD := fun rs P _ => ∃ (r : Rl) (ns : List Int), rs = [.fz (rD r), .fz (tI ns)] ∧ RlOk r ∧ ns.length ≤ 1000 ∧ AscP ns ∧ (∀ n ∈ ns, 0 ≤ n) ∧ ∀ af, P (.ls ((stpL r ns).map prS)) af
def sp_law_used : SpD := fun rs P _ => ∃ (r : Rl) (ns : List Int), rs = [.fz (rD r), .fz (tI ns)] ∧ RlOk r ∧ ns.length ≤ 1000 ∧ AscP ns ∧ (∀ n ∈ ns, 0 ≤ n) ∧ ∀ af, P (.ls ((useL r ns).map fun k => .int (k : Nat))) af
theorem bsL_asc {r : Rl} (ok : RlOk r) {ns : List Int} (hA : AscP ns) : Asc (bsL r ns) := by
  obtain ⟨h1, _, h3⟩ := usT_ok ok ns hA
  rw [h3]
  exact bsOf_asc ok fun i j hij hj => h1.asc ok hij hj
theorem AscP.take {xs : List Int} (h : AscP xs) (k : Nat) : AscP (xs.take k) := sub_ascP (List.take_sublist k xs) h
end LW

namespace LW
open PySem PySem.Spec PyProof.Rows L2 DL
/-- what stands behind a test is shown once -/
theorem and_via {b : Bool} {p q : Prop} (hq : q) (h : b = true → q → p) : ifB b p q := by
  cases b with
  | true => exact h rfl hq
  | false => exact hq
end LW

namespace DL
open PySem PySem.Spec PyProof.Rows L2
theorem wpAny_alive {M : Model} {A : Around} {E : Value → Shared → Prop} {s : Shared} {a : Addr} {Q : Option Obj → Shared → Prop} (h : Q (s.heap.get? a) s) : wpAny M A (loadIfAlive a) Q E s := by
  exact fun _ _ _ => h
theorem zip_lk_len : typeLookup (.type "zip") "__len__" = pure none := by rw [typeLookup_type, builtinLookup_eq_fast]; kernel_rfl
theorem zip_lk_hint : typeLookup (.type "zip") "__length_hint__" = pure none := by rw [typeLookup_type, builtinLookup_eq_fast]; kernel_rfl
section
variable {prog : Program} {w : World} {A : Around} {E : Value → Shared → Prop} {s : Shared} {z TI TO T i1 i2 : Addr} {fp1 fp2 : List Addr} {n1 n2 i : Nat} {P1 P2 : Nat → Value → Prop} {St1 St2 : Nat → Heap → Prop} {b : Bool}
/-- a zip whose own tuple is held by somebody -/
abbrev ZipH (h : Heap) (z TI TO T : Addr) (b : Bool) : Prop := h.get? z = some { cls := .type "zip", dict := none, data := .fields #[rawInt T, .bool b, .bool false, .ref TI, .ref TO], slots := #[] }
theorem owned_held {Q : Bool → Shared → Prop} (hz : ZipH s.heap z TI TO T b) (hT : ∃ o, s.heap.get? T = some o) (hQ : ∀ h', ZipH h' z TI TO T true → Heap.SameBut z s.heap h' → Q false { s with heap := h' }) :
    wpAny (model prog w) A (Builtin.SmallTypes.ownedTupleIsFree (.ref z)) Q E s := by
  obtain ⟨oT, hT⟩ := hT
  unfold Builtin.SmallTypes.ownedTupleIsFree
  refine wpAny_bind (wpAny_field hz rfl (x := rawInt T) rfl ?_)
  show wpAny _ _ (loadIfAlive ((T : Int).toNat) >>= _) _ _ _
  refine wpAny_bind (wpAny_alive ?_)
  rw [Int.toNat_natCast, hT]
  simp only [Option.isNone_some, Bool.false_eq_true, if_false]
  refine wpAny_bind (wpAny_field hz rfl (x := .bool b) rfl ?_)
  cases b with
  | true => exact wpAny_pure (hQ s.heap hz ⟨rfl, fun _ _ => rfl⟩)
  | false => exact wpAny_bind (wpAny_setField_rec hz (by simp) fun h' hz' hs => wpAny_pure (hQ h' hz' hs))
theorem held_item {Q : Value → Shared → Prop} (S : ZipSep2 z TI TO i1 i2 fp1 fp2) (D1 : Draws prog w A i1 fp1 n1 P1 St1) (D2 : Draws prog w A i2 fp2 n2 P2 St2)
    (hz : ZipH s.heap z TI TO T b) (hTI : IsTupOf2 s.heap TI (.ref i1) (.ref i2)) (hT : ∃ o, s.heap.get? T = some o) (st1 : St1 i s.heap) (st2 : St2 i s.heap) (lt1 : i < n1) (lt2 : i < n2)
    (hQ : ∀ x1 x2 h' tk, P1 i x1 → P2 i x2 → ZipH h' z TI TO T true → St1 (i + 1) h' → St2 (i + 1) h' → IsTupOf2 h' s.heap.objs.size x1 x2 →
      (∀ c o, c ≠ z → c ≠ i1 → c ≠ i2 → s.heap.get? c = some o → h'.get? c = some o) → Q (.ref s.heap.objs.size) { s with heap := h', toks := tk }) :
    wpAny (model prog w) A (Builtin.«zip.__next__» ⟨[.ref z], []⟩) (fun fin s' => ∃ v, fin = .done (.ret v) ∧ Q v s') E s := by
  obtain ⟨hp, g, d, tk0, os⟩ := s
  show wpAny _ _ (field (.ref z) 2 >>= fun _ => _) _ _ _
  refine wpAny_bind (wpAny_field hz rfl (x := .bool false) rfl ?_)
  show wpAny _ _ (field (.ref z) 3 >>= fun _ => _) _ _ _
  refine wpAny_bind (wpAny_field hz rfl (x := .ref TI) rfl ?_)
  refine wpAny_bind (wpAny_seqItems hTI rfl ?_)
  show wpAny _ _ (Builtin.SmallTypes.ownedTupleIsFree (.ref z) >>= fun _ => _) _ _ _
  refine wpAny_bind (owned_held hz hT fun g0 hz0 hs0 => ?_)
  replace hs0 : Heap.SameBut z hp g0 := hs0
  simp only [Bool.false_eq_true, if_false]
  refine wpAny_bind ?_
  rw [← Array.forIn_toList]
  simp only [List.forIn_cons, List.forIn_nil]
  refine wpAny_bind (wpAny_bind (wpAny_holding ?_))
  show wpAny _ _ (Builtin.SmallTypes.nextOf (.ref i1) >>= fun _ => _) _ _ ⟨g0, g, d, tk0, os⟩
  refine wpAny_bind (D1.item i _ _ _ lt1 (D1.over st1 hs0 S.zf1) fun x1 p1 tk1 hx1 sn1 hp1 => wpAny_pure ?_)
  replace hp1 : Heap.SameBut i1 g0 p1 := hp1
  refine wpAny_pure ?_
  refine wpAny_bind (wpAny_bind (wpAny_holding ?_))
  show wpAny _ _ (Builtin.SmallTypes.nextOf (.ref i2) >>= fun _ => _) _ _ ⟨p1, g, d, tk1, os⟩
  refine wpAny_bind (D2.item i _ _ _ lt2 (D2.over (D2.over st2 hs0 S.zf2) hp1 S.sep1_2) fun x2 p2 tk2 hx2 sn2 hp2 => wpAny_pure ?_)
  replace hp2 : Heap.SameBut i2 p1 p2 := hp2
  refine wpAny_pure (wpAny_pure ?_)
  show wpAny _ _ (newTuple [x1, x2] >>= fun _ => _) _ _ _
  refine wpAny_bind (wpAny_newTuple ?_)
  have hsz : p2.objs.size = hp.objs.size := by rw [hp2.1, hp1.1, hs0.1]
  have hzz : ZipH p2 z TI TO T true := hp2.extBut _ _ S.zi2 (hp1.extBut _ _ S.zi1 hz0)
  refine wpAny_pure ⟨_, rfl, ?_⟩
  show Q (.ref p2.objs.size) ⟨p2.push { cls := .type "tuple", data := .seq #[x1, x2] }, g, d, tk2, os⟩
  have kp : ∀ c o, p2.get? c = some o → (p2.push { cls := .type "tuple", data := .seq #[x1, x2] }).get? c = some o := fun c o e => Heap.get?_push_of_some _ e
  have hT8 : IsTupOf2 (p2.push { cls := .type "tuple", data := .seq #[x1, x2] }) p2.objs.size x1 x2 := Heap.get?_push_size _ rfl
  have hj1 : St1 (i + 1) p2 := D1.over sn1 hp2 S.sep2_1
  rw [hsz] at hT8 ⊢
  exact hQ x1 x2 _ tk2 hx1 hx2 (kp _ _ hzz) (D1.frame _ _ _ hj1 fun b _ o e => kp b o e) (D2.frame _ _ _ sn2 fun b _ o e => kp b o e) hT8
    fun c o cz c1 c2 e => kp c o (hp2.extBut _ _ c2 (hp1.extBut _ _ c1 (hs0.extBut _ _ cz e)))
theorem held_end {Q : Fin → Shared → Prop} (S : ZipSep2 z TI TO i1 i2 fp1 fp2) (D1 : Draws prog w A i1 fp1 n1 P1 St1) (hz : ZipH s.heap z TI TO T b) (hTI : IsTupOf2 s.heap TI (.ref i1) (.ref i2)) (hT : ∃ o, s.heap.get? T = some o) (st1 : St1 n1 s.heap)
    (hE : ∀ h' e, (∀ c o, c ≠ z → c ≠ i1 → c ≠ i2 → s.heap.get? c = some o → h'.get? c = some o) → (∃ o, h'.get? e = some o ∧ o.cls = .type "StopIteration") → E (.ref e) { s with heap := h' }) :
    wpAny (model prog w) A (Builtin.«zip.__next__» ⟨[.ref z], []⟩) Q E s := by
  obtain ⟨hp, g, d, tk0, os⟩ := s
  show wpAny _ _ (field (.ref z) 2 >>= fun _ => _) _ _ _
  refine wpAny_bind (wpAny_field hz rfl (x := .bool false) rfl ?_)
  show wpAny _ _ (field (.ref z) 3 >>= fun _ => _) _ _ _
  refine wpAny_bind (wpAny_field hz rfl (x := .ref TI) rfl ?_)
  refine wpAny_bind (wpAny_seqItems hTI rfl ?_)
  show wpAny _ _ (Builtin.SmallTypes.ownedTupleIsFree (.ref z) >>= fun _ => _) _ _ _
  refine wpAny_bind (owned_held hz hT fun g0 hz0 hs0 => ?_)
  replace hs0 : Heap.SameBut z hp g0 := hs0
  simp only [Bool.false_eq_true, if_false]
  refine wpAny_bind ?_
  rw [← Array.forIn_toList]
  simp only [List.forIn_cons, List.forIn_nil]
  refine wpAny_bind (wpAny_bind (wpAny_holding ?_))
  show wpAny _ _ (Builtin.SmallTypes.nextOf (.ref i1) >>= fun _ => _) _ _ ⟨g0, g, d, tk0, os⟩
  refine wpAny_bind (D1.done ⟨g0, g, d, tk0, os⟩ _ _ (D1.over st1 hs0 S.zf1) fun q e hq he => ?_)
  replace hq : Heap.ExtBut i1 g0 q := hq
  exact hE q e (fun c o cz c1 _ x => hq _ _ c1 (hs0.extBut _ _ cz x)) he
/-- a zip amid the making of a list: at its first turn, or held by what it handed out first -/
def ZSt (h : Heap) (z TI TO i1 i2 : Addr) (i : Nat) : Prop := IsTupOf2 h TI (.ref i1) (.ref i2) ∧ ((i = 0 ∧ IsZip h z TI TO .none ∧ ∃ a1 a2, IsTupOf2 h TO a1 a2) ∨ ∃ T b, ZipH h z TI TO T b ∧ (∃ o, h.get? T = some o) ∧ T ≠ z ∧ T ≠ i1 ∧ T ≠ i2)
theorem ZSt.kept {h h' : Heap} (x : ZSt h z TI TO i1 i2 i) (k : ∀ c o, h.get? c = some o → h'.get? c = some o) : ZSt h' z TI TO i1 i2 i := by
  obtain ⟨a, b⟩ := x
  refine ⟨k _ _ a, ?_⟩
  rcases b with ⟨r, b, a1, a2, c⟩ | ⟨T, b, c, ⟨o, d⟩, e⟩
  · exact .inl ⟨r, k _ _ b, a1, a2, k _ _ c⟩
  · exact .inr ⟨T, b, k _ _ c, ⟨o, k _ _ d⟩, e⟩
theorem znext_item {Q : Option Value → Shared → Prop} (S : ZipSep2 z TI TO i1 i2 fp1 fp2) (D1 : Draws prog w A.in1 i1 fp1 n1 P1 St1) (D2 : Draws prog w A.in1 i2 fp2 n2 P2 St2)
    (hz : ZSt s.heap z TI TO i1 i2 i) (st1 : St1 i s.heap) (st2 : St2 i s.heap) (lt1 : i < n1) (lt2 : i < n2)
    (hQ : ∀ x1 x2 h' tk, P1 i x1 → P2 i x2 → ZSt h' z TI TO i1 i2 (i + 1) → St1 (i + 1) h' → St2 (i + 1) h' → IsTupOf2 h' s.heap.objs.size x1 x2 →
      (∀ c o, c ≠ z → c ≠ TO → c ≠ i1 → c ≠ i2 → s.heap.get? c = some o → h'.get? c = some o) → Q (some (.ref s.heap.objs.size)) { s with heap := h', toks := tk }) :
    wpAny (model prog w) A (pyNext (.ref z)) Q E s := by
  obtain ⟨hTI, hz⟩ := hz
  have lt : ∀ {c o}, s.heap.get? c = some o → s.heap.objs.size ≠ c := fun e => Nat.ne_of_gt (Heap.lt_size e)
  have l1 : s.heap.objs.size ≠ i1 := by obtain ⟨_, e⟩ := D1.live _ _ st1; exact lt e
  have l2 : s.heap.objs.size ≠ i2 := by obtain ⟨_, e⟩ := D2.live _ _ st2; exact lt e
  rcases hz with ⟨rfl, hz, a1, a2, hTO⟩ | ⟨T, b, hz, hT, t1, t2, t3⟩
  · have lz := lt hz
    refine wpAny_pyNext_zipD2_item S D1 D2 hz hTI hTO st1 st2 lt1 lt2 fun x1 x2 h' tk y1 y2 b1 b2 d1 d2 b5 b6 hk => ?_
    exact hQ x1 x2 h' tk y1 y2 ⟨hk _ _ S.TIz S.TITO S.TIi1 S.TIi2 hTI, .inr ⟨_, _, b1, ⟨_, b5⟩, lz, l1, l2⟩⟩ d1 d2 b5 hk
  · have hty : s.TypeIs (.ref z) "zip" := ⟨_, hz, rfl⟩
    unfold pyNext
    refine wpAny_bind (wpAny_attempt (wpAny_callSpecial?_slot (name := Str.ofString "__next__") hty F.slot_zip_next (wpAny_call_entry F.slot_zip_next hty F.entry_zip_next
      (held_item S D1 D2 hz hTI hT st1 st2 lt1 lt2 fun x1 x2 h' tk y1 y2 b1 d1 d2 b5 hk => wpAny_pure ?_) (F.args_zip_next_1 _))))
    obtain ⟨oT, hT⟩ := hT
    exact hQ x1 x2 h' tk y1 y2 ⟨hk _ _ S.TIz S.TIi1 S.TIi2 hTI, .inr ⟨T, _, b1, ⟨oT, hk _ _ t1 t2 t3 hT⟩, t1, t2, t3⟩⟩ d1 d2 b5 fun c o cz _ c1 c2 e => hk c o cz c1 c2 e
theorem znext_end {Q : Option Value → Shared → Prop} (S : ZipSep2 z TI TO i1 i2 fp1 fp2) (D1 : Draws prog w A.in1 i1 fp1 n1 P1 St1) (D2 : Draws prog w A.in1 i2 fp2 n2 P2 St2)
    (hz : ZSt s.heap z TI TO i1 i2 n1) (st1 : St1 n1 s.heap) (st2 : St2 n1 s.heap) (hle : n1 ≤ n2)
    (hQ : ∀ h' tk, (∀ c o, c ≠ z → c ≠ TO → c ≠ i1 → c ≠ i2 → s.heap.get? c = some o → h'.get? c = some o) → Q none { s with heap := h', toks := tk }) :
    wpAny (model prog w) A (pyNext (.ref z)) Q E s := by
  obtain ⟨hTI, hz⟩ := hz
  rcases hz with ⟨e0, hz, a1, a2, hTO⟩ | ⟨T, b, hz, hT, t1, t2, t3⟩
  · exact wpAny_pyNext_zipD2_end S D1 D2 hz hTI hTO st1 st2 (Nat.le_refl _) hle (.inl rfl) hQ
  · have hty : s.TypeIs (.ref z) "zip" := ⟨_, hz, rfl⟩
    unfold pyNext
    refine wpAny_bind (wpAny_attempt (wpAny_callSpecial?_slot (name := Str.ofString "__next__") hty F.slot_zip_next (wpAny_call_entry F.slot_zip_next hty F.entry_zip_next
      (held_end S D1 hz hTI hT st1 fun h' e hk he => ?_) (F.args_zip_next_1 _))))
    obtain ⟨o, ho, hc⟩ := he
    exact wpAny_bind (wpAny_isInstance (T := "StopIteration") (b := true) ⟨o, ho, hc⟩ isSubtype_stop (wpAny_pure (hQ h' _ fun c o cz _ c1 c2 e => hk c o cz c1 c2 e)))
theorem ne_base {a z base : Addr} (h : z < base) (k : base ≤ a) : a ≠ z := fun e => by subst e; exact Nat.lt_irrefl _ (Nat.lt_of_lt_of_le h k)
/-- the tuples of the first i turns -/
inductive Zd (P1 P2 : Nat → Value → Prop) (b : Nat) (h : Heap) : Nat → List Value → Prop where
  | nil : Zd P1 P2 b h 0 []
  | snoc {i acc x1 x2 T} (t : Zd P1 P2 b h i acc) (p1 : P1 i x1) (p2 : P2 i x2) (hT : IsTupOf2 h T x1 x2) (hb : b ≤ T) (hn : .ref T ∉ acc) : Zd P1 P2 b h (i + 1) (acc ++ [.ref T])
theorem Zd.kept {P1 P2 : Nat → Value → Prop} {b i : Nat} {h h' : Heap} {acc : List Value} (k : ∀ c o, b ≤ c → h.get? c = some o → h'.get? c = some o) (x : Zd P1 P2 b h i acc) : Zd P1 P2 b h' i acc := by
  induction x with
  | nil => exact .nil
  | snoc t p1 p2 hT hb hn ih => exact .snoc ih p1 p2 (k _ _ hb hT) hb hn
theorem Zd.len {P1 P2 : Nat → Value → Prop} {b i : Nat} {h : Heap} {acc : List Value} (x : Zd P1 P2 b h i acc) : acc.length = i := by
  induction x with
  | nil => rfl
  | snoc t p1 p2 hT hb hn ih => rw [List.length_append, ih]; rfl
theorem Zd.live {P1 P2 : Nat → Value → Prop} {b i : Nat} {h : Heap} {acc : List Value} (x : Zd P1 P2 b h i acc) : ∀ a, .ref a ∈ acc → a < h.objs.size := by
  induction x with
  | nil => intro a m; cases m
  | snoc t p1 p2 hT hb hn ih =>
    intro a m
    rcases List.mem_append.mp m with m | m
    · exact ih a m
    · cases List.mem_singleton.mp m; exact Heap.lt_size hT
/-- the loop that makes a list of a zip's tuples -/
theorem extend_zip {R : Result → Shared → Prop} {res : Value} {L : Addr} {base : Nat} {h0 : Heap} {n : Nat} (S : ZipSep2 z TI TO i1 i2 fp1 fp2) (D1 : Draws prog w A.in1.in1 i1 fp1 n P1 St1) (D2 : Draws prog w A.in1.in1 i2 fp2 n P2 St2) (hn : n ≤ 100000)
    (hLz : L ≠ z) (hLI : L ≠ TI) (hLO : L ≠ TO) (hL1 : L ∉ fp1) (hL2 : L ∉ fp2) (bz : z < base) (bI : TI < base) (bO : TO < base) (b1 : i1 < base) (b2 : i2 < base) (bL : L < base) :
    ∀ (k i : Nat) (s : Shared) (acc : List Value) (c : Nat), n - i = k → i ≤ n → ZSt s.heap z TI TO i1 i2 i → St1 i s.heap → St2 i s.heap → base ≤ s.heap.objs.size →
      s.heap.get? L = some { cls := .type "list", dict := none, data := .seq acc.toArray c, slots := #[] } → Zd P1 P2 base s.heap i acc →
      (∀ a o, a ≠ z → a ≠ TO → a ≠ i1 → a ≠ i2 → a ≠ L → h0.get? a = some o → s.heap.get? a = some o) →
      (∀ h' tk acc' c', h'.get? L = some { cls := .type "list", dict := none, data := .seq acc'.toArray c', slots := #[] } → Zd P1 P2 base h' n acc' → (∀ a o, a ≠ z → a ≠ TO → a ≠ i1 → a ≠ i2 → a ≠ L → h0.get? a = some o → h'.get? a = some o) →
        R (.ok (.ret res)) { s with heap := h', toks := tk }) → codeAny (model prog w) A (.builtin "list.extend.loop" ⟨[.ref L, .ref z, res], []⟩) R s := by
  have hL1' : L ≠ i1 := fun e => hL1 (by rw [e]; exact S.mem1)
  have hL2' : L ≠ i2 := fun e => hL2 (by rw [e]; exact S.mem2)
  intro k
  induction k with
  | zero =>
    intro i s acc c hk hi hz st1 st2 hb hL hd hold hR
    have hin : i = n := by omega
    subst hin
    refine codeAny_builtin F.entry_extend_loop ?_
    rw [Around.under_plainId F.plain_extend_loop _]
    show wpAny _ A.in1 (pyNext (.ref z) >>= fun _ => _) _ _ s
    refine wpAny_bind (znext_end S D1 D2 hz st1 st2 (Nat.le_refl _) fun h' tk hk => ?_)
    refine wpAny_pure (hR h' tk acc c (hk _ _ hLz hLO hL1' hL2' hL) (hd.kept fun a o ha e => hk a o (ne_base bz ha) (ne_base bO ha) (ne_base b1 ha) (ne_base b2 ha) e) fun a o c1 c2 c3 c4 c5 e => hk a o c1 c2 c3 c4 (hold a o c1 c2 c3 c4 c5 e))
  | succ k ih =>
    intro i s acc c hk hi hz st1 st2 hb hL hd hold hR
    have hlt : i < n := by omega
    refine codeAny_builtin F.entry_extend_loop ?_
    rw [Around.under_plainId F.plain_extend_loop _]
    show wpAny _ A.in1 (pyNext (.ref z) >>= fun _ => _) _ _ s
    refine wpAny_bind (znext_item S D1 D2 hz st1 st2 hlt hlt fun x1 x2 h' tk p1 p2 hz' st1' st2' hT hk => ?_)
    have hL' := hk _ _ hLz hLO hL1' hL2' hL
    show wpAny _ A.in1 (updateSeq L (·.push (.ref s.heap.objs.size)) >>= fun _ => _) _ _ _
    refine wpAny_bind ?_
    have al := hd.len
    refine wpAny_updateSeq (s := { s with heap := h', toks := tk }) hL' rfl (wpAny_pure ⟨plainId_quiet F.plain_extend_loop _, ?_⟩) (by simp [al]; exact Nat.le_trans (Nat.le_of_lt hlt) (sz hn)) (by simp [al]; exact Nat.le_trans (Nat.le_of_lt hlt) (sz hn))
    have oth : ∀ a o, a ≠ L → h'.get? a = some o → (h'.update L (Obj.mapSeq (·.push (Value.ref s.heap.objs.size)))).get? a = some o := fun a o ha e => (Heap.get?_update_other _ _ (Ne.symm ha)).trans e
    have hsz' : (h'.update L (Obj.mapSeq (·.push (Value.ref s.heap.objs.size)))).objs.size = h'.objs.size := (Heap.SameBut.update ..).1
    have hTl : s.heap.objs.size < h'.objs.size := Heap.lt_size hT
    have hdL := Heap.get?_update_self (Obj.mapSeq (·.push (Value.ref s.heap.objs.size))) hL' rfl
    refine ih (i + 1) { s with heap := _, toks := tk } (acc ++ [.ref s.heap.objs.size]) _ (by omega) hlt ?_ (D1.frame _ _ _ st1' fun b hb' o e => oth b o (fun q => hL1 (q ▸ hb')) e) (D2.frame _ _ _ st2' fun b hb' o e => oth b o (fun q => hL2 (q ▸ hb')) e) (by show base ≤ _; rw [hsz']; omega) (by rw [hdL]; simp [Obj.mapSeq]; rfl)
      (.snoc ((hd.kept fun a o ha e => hk a o (ne_base bz ha) (ne_base bO ha) (ne_base b1 ha) (ne_base b2 ha) e).kept fun a o ha e => oth a o (ne_base bL ha) e) p1 p2 (oth _ _ (ne_base bL hb) hT) hb fun m => Nat.lt_irrefl _ (hd.live _ m))
      (fun a o c1 c2 c3 c4 c5 e => oth a o c5 (hk a o c1 c2 c3 c4 (hold a o c1 c2 c3 c4 c5 e))) fun h'' tk'' acc'' c'' q1 q2 q3 => hR h'' tk'' acc'' c'' q1 q2 q3
    obtain ⟨y1, y2⟩ := hz'
    refine ⟨oth _ _ (Ne.symm hLI) y1, ?_⟩
    rcases y2 with ⟨r, _⟩ | ⟨T, b, c, ⟨o, d⟩, e⟩
    · cases r
    · by_cases q : T = L
      · subst q
        exact .inr ⟨T, b, oth _ _ (Ne.symm hLz) c, ⟨_, hdL⟩, e⟩
      · exact .inr ⟨T, b, oth _ _ (Ne.symm hLz) c, ⟨o, oth _ _ q d⟩, e⟩
end
end DL

namespace DL
open PySem PySem.Spec PyProof.Rows L2
section
variable {prog : Program} {w : World} {A : Around} {E : Value → Shared → Prop} {s : Shared} {z TI TO l1 l2 i1 i2 : Addr} {xs ys : Array Value}
/-- what a list of a zip's tuples needs -/
structure ZipRdy (h : Heap) (z TI TO i1 i2 l1 l2 : Addr) (xs ys : Array Value) : Prop where
  zip : IsZip h z TI TO .none
  own : IsTupOf2 h TI (.ref i1) (.ref i2)
  kep : ∃ a1 a2, IsTupOf2 h TO a1 a2
  it1 : h.IsListIter i1 l1 0
  it2 : h.IsListIter i2 l2 0
  ls1 : h.IsList l1 xs
  ls2 : h.IsList l2 ys
theorem lt_iter {h : Heap} {i l : Addr} {n : Nat} (x : h.IsListIter i l n) : i < h.objs.size := by obtain ⟨_, e, _⟩ := x; exact Heap.lt_size e
theorem lt_lst {h : Heap} {l : Addr} {v : Array Value} (x : h.IsList l v) : l < h.objs.size := by obtain ⟨_, e, _⟩ := x; exact Heap.lt_size e
theorem ZipRdy.kept {h h' : Heap} (x : ZipRdy h z TI TO i1 i2 l1 l2 xs ys) (k : ∀ c o, h.get? c = some o → h'.get? c = some o) : ZipRdy h' z TI TO i1 i2 l1 l2 xs ys :=
  ⟨k _ _ x.zip, k _ _ x.own, let ⟨a, b, c⟩ := x.kep; ⟨a, b, k _ _ c⟩, x.it1.at fun o e => k _ o e, x.it2.at fun o e => k _ o e, x.ls1.at fun o e => k _ o e, x.ls2.at fun o e => k _ o e⟩
theorem sep_of (D : ZipApart z TI TO i1 i2 l1 l2) : ZipSep2 z TI TO i1 i2 [i1, l1] [i2, l2] where
  TIz := D.TIz
  TOz := D.TOz
  TITO := D.TITO
  TIi1 := D.TIi1
  mem1 := by simp
  zf1 := by simp [Ne.symm D.i1z, Ne.symm D.l1z]
  Tf1 := by simp [D.TOi1, Ne.symm D.l1TO]
  TIi2 := D.TIi2
  mem2 := by simp
  zf2 := by simp [Ne.symm D.i2z, Ne.symm D.l2z]
  Tf2 := by simp [D.TOi2, Ne.symm D.l2TO]
  sep1_2 := by simp [D.i12, Ne.symm D.l2i1]
  sep2_1 := by simp [Ne.symm D.i12, Ne.symm D.l1i2]
abbrev ZQ (xs : Array Value) (i : Nat) (v : Value) : Prop := xs[i]? = some v
theorem extend_zip0 {R : Result → Shared → Prop} {res : Value} {L : Addr} (hh : A.handled = none) (D : ZipApart z TI TO i1 i2 l1 l2) (W : ZipRdy s.heap z TI TO i1 i2 l1 l2 xs ys) (hs : xs.size = ys.size) (hn : xs.size ≤ 100000)
    (hL : s.heap.get? L = some { cls := .type "list", data := .seq #[] c }) (hz : z < L) (hI : TI < L) (hO : TO < L) (h1 : i1 < L) (h2 : i2 < L) (h3 : l1 < L) (h4 : l2 < L) 
    (hR : ∀ h' tk acc' c', h'.get? L = some { cls := .type "list", dict := none, data := .seq acc'.toArray c', slots := #[] } → Zd (ZQ xs) (ZQ ys) (s.heap.objs.size) h' xs.size acc' → (∀ a o, a ≠ z → a ≠ TO → a ≠ i1 → a ≠ i2 → a ≠ L → s.heap.get? a = some o → h'.get? a = some o) →
      R (.ok (.ret res)) { s with heap := h', toks := tk }) :
    wpAny (model prog w) A.in1 (Builtin.List.listExtendWith (.ref L) (.ref z) res)
      (fun fin s' => match fin with | .done f => R (.ok f) s' | .again c' => c'.quiet = true ∧ codeAny (model prog w) A c' R s') (fun e s' => R (.error e) s') s := by
  have hty : s.TypeIs (.ref z) "zip" := ⟨_, W.zip, rfl⟩
  have hLl : L < s.heap.objs.size := Heap.lt_size hL
  have hLz : L ≠ z := Nat.ne_of_gt hz
  unfold Builtin.List.listExtendWith
  refine wpAny_bind (wpAny_typeOf hty ?_)
  have e1 : Builtin.List.listSameRef (.ref L) (.ref z) = false := by simp [Builtin.List.listSameRef, hLz]
  have e2 : (Value.type "zip" == Value.type "list") = false := by decide
  have e3 : (Value.type "zip" == Value.type "tuple") = false := by decide
  simp only [e1, e2, e3, Bool.or_false, Bool.false_eq_true, if_false]
  refine wpAny_bind (wpAny_pyIter_zip W.zip ?_)
  refine wpAny_bind (wpAny_holding ?_)
  unfold Builtin.List.listLengthHint
  refine wpAny_bind (wpAny_specialOf hty zip_lk_len ?_)
  show wpAny _ A.in1 (specialOf (Value.ref z) (Str.ofString "__length_hint__") >>= fun _ => _) _ _ _
  refine wpAny_bind (wpAny_specialOf hty zip_lk_hint ?_)
  refine wpAny_pure ?_
  show wpAny _ A.in1 (rule "list.extend.makes-room" >>= fun _ => Builtin.List.listTouch (.ref L) >>= fun _ => again (.builtin "list.extend.loop" ⟨[.ref L, .ref z, res], []⟩)) _ _ _
  refine wpAny_bind (wpAny_rule ?_)
  refine wpAny_bind ?_
  show wpAny _ A.in1 (updateSeq L (·.push .none) >>= fun _ => updateSeq L (·.pop)) _ _ _
  refine wpAny_bind (wpAny_updateSeq hL rfl ?_)
  have hL2 := Heap.get?_update_self (Obj.mapSeq (·.push Value.none)) hL rfl
  refine wpAny_updateSeq (hz := by seq_fits) hL2 rfl ?_
  have hL3 := Heap.get?_update_self (Obj.mapSeq (·.pop)) hL2 rfl
  have oth : ∀ b o, b ≠ L → s.heap.get? b = some o → ((s.heap.update L (Obj.mapSeq (·.push Value.none))).update L (Obj.mapSeq (·.pop))).get? b = some o :=
    fun b o hb e => (Heap.get?_update_other _ _ (Ne.symm hb)).trans ((Heap.get?_update_other _ _ (Ne.symm hb)).trans e)
  have hsz' : ((s.heap.update L (Obj.mapSeq (·.push Value.none))).update L (Obj.mapSeq (·.pop))).objs.size = s.heap.objs.size := (Heap.SameBut.update ..).1.trans (Heap.SameBut.update ..).1
  obtain ⟨a1, a2, hTO⟩ := W.kep
  refine wpAny_pure ⟨plainId_quiet F.plain_extend_loop _, extend_zip (h0 := s.heap) (base := s.heap.objs.size) (n := xs.size) (sep_of D) (Draws.list (A := A.in1.in1) hh i1 l1 D.l1i1 xs) (by rw [hs]; exact Draws.list (A := A.in1.in1) hh i2 l2 D.l2i2 ys) hn hLz (Nat.ne_of_gt hI) (Nat.ne_of_gt hO)
    (fun m => (List.mem_cons.mp m).elim (Nat.ne_of_gt h1) fun m => Nat.ne_of_gt h3 (List.mem_singleton.mp m)) (fun m => (List.mem_cons.mp m).elim (Nat.ne_of_gt h2) fun m => Nat.ne_of_gt h4 (List.mem_singleton.mp m)) (Nat.lt_trans hz hLl) (Nat.lt_trans hI hLl) (Nat.lt_trans hO hLl) (Nat.lt_trans h1 hLl) (Nat.lt_trans h2 hLl) hLl xs.size 0 { s with heap := _ } [] _ rfl (Nat.zero_le _)
    ⟨oth _ _ (Nat.ne_of_lt hI) W.own, .inl ⟨rfl, oth _ _ (Nat.ne_of_lt hz) W.zip, a1, a2, oth _ _ (Nat.ne_of_lt hO) hTO⟩⟩ (show _ ∧ _ from ⟨W.it1.at fun o e => oth _ o (Nat.ne_of_lt h1) e, W.ls1.at fun o e => oth _ o (Nat.ne_of_lt h3) e⟩) (show _ ∧ _ from ⟨W.it2.at fun o e => oth _ o (Nat.ne_of_lt h2) e, W.ls2.at fun o e => oth _ o (Nat.ne_of_lt h4) e⟩)
    (by show _ ≤ _; rw [hsz']; exact Nat.le_refl _) hL3 .nil (fun a o _ _ _ _ c5 e => oth a o c5 e) fun h' tk acc' c' q1 q2 q3 => hR h' tk acc' c' q1 q2 q3⟩
theorem call_list_zip {Q : Value → Shared → Prop} (hh : A.handled = none) (D : ZipApart z TI TO i1 i2 l1 l2) (W : ZipRdy s.heap z TI TO i1 i2 l1 l2 xs ys) (hs : xs.size = ys.size) (hn : xs.size ≤ 100000)
    (hQ : ∀ h' tk acc' c', h'.get? s.heap.objs.size = some { cls := .type "list", dict := none, data := .seq acc'.toArray c', slots := #[] } → Zd (ZQ xs) (ZQ ys) (s.heap.objs.size + 1) h' xs.size acc' → (∀ a o, a ≠ z → a ≠ TO → a ≠ i1 → a ≠ i2 → s.heap.get? a = some o → h'.get? a = some o) →
      Q (.ref s.heap.objs.size) { s with heap := h', toks := tk }) : wpAny (model prog w) A (call (.type "list") [.ref z]) Q E s := by
  have z1 : z < s.heap.objs.size := Heap.lt_size W.zip
  have z2 : TI < s.heap.objs.size := Heap.lt_size W.own
  have z3 : TO < s.heap.objs.size := by obtain ⟨_, _, e⟩ := W.kep; exact Heap.lt_size e
  refine callType_codes (Q₁ := fun obj s1 => obj = .ref s.heap.objs.size ∧ s1 = { s with heap := s.heap.push { cls := .type "list", data := .seq #[] } }) F.called_list (F.typeCall_list_1 _) F.entry_list_init
    (code_list_new _ ⟨rfl, rfl⟩) fun obj s1 q => ?_
  obtain ⟨rfl, rfl⟩ := q
  have hL : (s.heap.push { cls := .type "list", data := .seq #[] }).get? s.heap.objs.size = some { cls := .type "list", data := .seq #[] } := Heap.get?_push_size _ rfl
  have pu : ∀ b o, s.heap.get? b = some o → (s.heap.push { cls := .type "list", data := .seq #[] }).get? b = some o := fun b o e => Heap.get?_push_of_some _ e
  refine ⟨⟨_, hL, rfl⟩, F.args_list_init_2 _ _, ?_⟩
  show wpAny _ A.in1.in1 (do let old ← Builtin.List.listItems (.ref s.heap.objs.size); Builtin.List.listUpdate (.ref s.heap.objs.size) (fun _ => #[]); letGo old.toList.reverse; Builtin.List.listExtendWith (.ref s.heap.objs.size) (.ref z) .none) _ _ _
  refine wpAny_bind ?_
  unfold Builtin.List.listItems
  refine wpAny_bind (wpAny_seqItems hL rfl (wpAny_pure ?_))
  show wpAny _ A.in1.in1 (updateSeq s.heap.objs.size (fun _ => #[]) >>= fun _ => letGo (#[] : Array Value).toList.reverse >>= fun _ => Builtin.List.listExtendWith (.ref s.heap.objs.size) (.ref z) .none) _ _ _
  refine wpAny_bind (wpAny_updateSeq hL rfl ?_)
  have hL2 := Heap.get?_update_self (Obj.mapSeq (fun _ => (#[] : Array Value))) hL rfl
  have oth : ∀ b o, b ≠ s.heap.objs.size → (s.heap.push { cls := .type "list", data := .seq #[] }).get? b = some o → ((s.heap.push { cls := .type "list", data := .seq #[] }).update s.heap.objs.size (Obj.mapSeq (fun _ => (#[] : Array Value)))).get? b = some o :=
    fun b o hb e => (Heap.get?_update_other _ _ (Ne.symm hb)).trans e
  have hsz' : ((s.heap.push { cls := .type "list", data := .seq #[] }).update s.heap.objs.size (Obj.mapSeq (fun _ => (#[] : Array Value)))).objs.size = s.heap.objs.size + 1 := (Heap.SameBut.update ..).1.trans (Heap.size_push ..)
  have old : ∀ b o, s.heap.get? b = some o → ((s.heap.push { cls := .type "list", data := .seq #[] }).update s.heap.objs.size (Obj.mapSeq (fun _ => (#[] : Array Value)))).get? b = some o := fun b o e => oth b o (Nat.ne_of_lt (Heap.lt_size e)) (pu b o e)
  refine wpAny_bind (wpAny_letGo ?_)
  refine extend_zip0 (s := { s with heap := _ }) hh D (W.kept old) hs hn hL2 z1 z2 z3 (lt_iter W.it1) (lt_iter W.it2) (lt_lst W.ls1) (lt_lst W.ls2) fun h' tk acc' c' q1 q2 q3 => ?_
  refine ⟨rfl, hQ h' tk acc' c' q1 (hsz' ▸ q2) fun a o c1 c2 c3 c4 e => q3 a o c1 c2 c3 c4 (Nat.ne_of_lt (Heap.lt_size e)) (old a o e)⟩
end
/-! ### .. over tracked heaps -/
inductive Lz (H : Hp) : List Addr → List (V × V) → Hp → Prop where
  | nil : Lz H [] [] H
  | snoc {Ts ps Hm T x y} (t : Lz H Ts ps Hm) (h : Hm T = none) : Lz H (Ts ++ [T]) (ps ++ [(x, y)]) (upd Hm T (.tup [x, y]))
theorem Lz.len {H Hm : Hp} {Ts : List Addr} {ps : List (V × V)} (x : Lz H Ts ps Hm) : Ts.length = ps.length := by
  induction x with
  | nil => rfl
  | snoc t h ih => simp [ih]
theorem un_more {fs ex : List Addr} {H Hm : Hp} {h h' : Heap} {a : Addr} {o : HO} (u : Un fs ex H Hm h h') (hp : h.objs.size ≤ a) (hn : Hm a = none) : Un fs ex H (upd Hm a o) h h' where
  keep := u.keep
  slot := u.slot
  free := fun b w q n x => by rw [upd_ne (Nat.ne_of_lt (Nat.lt_of_lt_of_le (Heap.lt_size q) hp))]; exact u.free b w q n x
  there := u.there
  tups := fun b xs q => by have := u.tups b xs q; rw [upd_ne (ne_of_none this hn)]; exact this
  frzs := fun b w xs q => by have := u.frzs b w xs q; rw [upd_ne (ne_of_none this hn)]; exact this
  tbls := fun b ps q => let ⟨m, e⟩ := u.tbls b ps q; ⟨m, by rw [upd_ne (ne_of_none e hn)]; exact e⟩
theorem vals_ref : ∀ Ts : List Addr, Vals (Ts.map V.ref) (Ts.map Value.ref)
  | [] => .nil
  | a :: r => .cons rfl (vals_ref r)
theorem lt_some {α : Type} {xs : List α} {i : Nat} {x : α} (h : xs[i]? = some x) : i < xs.length := (List.getElem?_eq_some_iff.mp h).1
theorem vals_back : ∀ {xs : List V} {us : List Value} {i : Nat} {u : Value}, Vals xs us → us[i]? = some u → ∃ x, xs[i]? = some x ∧ RelV x u
  | _, _, _, _, .nil, e => by simp at e
  | _, _, 0, _, .cons r _, e => by simp at e; rw [← e]; exact ⟨_, rfl, r⟩
  | _, _, i + 1, u, .cons _ t, e => by
    obtain ⟨x, h1, h2⟩ := vals_back (i := i) (u := u) t (by simpa using e)
    exact ⟨x, by simpa using h1, h2⟩
theorem zd_lz {P : Program} {w : World} {H : Hp} {h h' : Heap} {xs ys : Array Value} {vs ws : List V} {base : Nat} (hb : h.objs.size ≤ base) (rx : Vals vs xs.toList) (ry : Vals ws ys.toList) (u : Un [] [] H H h h') (ok : HOk P w H h') (fr : ∀ a, h.objs.size ≤ a → H a = none) :
    ∀ {i : Nat} {acc : List Value}, Zd (ZQ xs) (ZQ ys) base h' i acc → ∃ Ts Hm, acc = Ts.map .ref ∧ Lz H Ts ((vs.zip ws).take i) Hm ∧ Un [] [] H Hm h h' ∧ HOk P w Hm h' ∧ ∀ a, h.objs.size ≤ a → a ∉ Ts → Hm a = none := by
  intro i acc x
  induction x with
  | nil => exact ⟨[], H, rfl, by rw [List.take_zero]; exact .nil, u, ok, fun a ha _ => fr a ha⟩
  | @snoc i acc x1 x2 T t p1 p2 hT hbT hn ih =>
    obtain ⟨Ts, Hm, rfl, lz, um, okm, frm⟩ := ih
    have hTs : T ∉ Ts := fun m => hn (List.mem_map_of_mem m)
    have hTn := frm T (Nat.le_trans hb hbT) hTs
    obtain ⟨v, hv, rv⟩ := vals_back rx (by simpa using p1)
    obtain ⟨v2, hv2, rv2⟩ := vals_back ry (by simpa using p2)
    have tk : (vs.zip ws).take (i + 1) = (vs.zip ws).take i ++ [(v, v2)] := by
      rw [List.take_add_one, List.getElem?_zip_eq_some (z := (v, v2)) |>.mpr ⟨hv, hv2⟩]; rfl
    refine ⟨Ts ++ [T], upd Hm T (.tup [v, v2]), by simp, by rw [tk]; exact .snoc lz hTn, un_more um (Nat.le_trans hb hbT) hTn, okm.laidN (fun _ _ e => e) hTn ⟨by show 2 ≤ sizeLine; decide, [x1, x2], .cons rv (.cons rv2 .nil), _, hT, rfl, _, rfl⟩, fun a ha hm => ?_⟩
    rw [upd_ne (fun e => hm (by rw [e]; simp))]
    exact frm a ha fun m => hm (List.mem_append_left _ m)
def tLstZip (K : PySem.W.Frag) (ta : TA) : TE := fun σ H Q => ta σ H fun vs H1 => ∃ a b xs ys, vs = [.ref a, .ref b] ∧ SqL K H1 a xs ∧ SqL K H1 b ys ∧ xs.length = ys.length ∧ xs.length ≤ 100000 ∧ ∀ Hm Ts q, Lz H1 Ts (xs.zip ys) Hm → Hm q = none → Q (.ref q) (upd Hm q (.lst (Ts.map V.ref)))
theorem pe_listZip {X : Cx} {e e2 : Expr} {ta : TA} {p p2 pos pos2 : Pos} (hc : X.calm = true) (hm : X.mg "list" = none) (hm2 : X.mg "zip" = none) (ha : PA X [e, e2] ta) (hg : Gl X "list" := by rfl) (hg2 : Gl X "zip" := by rfl)
    (hs : starEach [e, e2] X.env = (false, eval e X.env) :: starEach [e2] X.env := by rfl) (hpl : (backTo pos2 (starEach [e2] X.env)).any (·.1) = false := by rfl)
    (na : starEach [.Call (.Name "zip" p2) [e, e2] [] pos2] X.env = (false, eval (.Call (.Name "zip" p2) [e, e2] [] pos2) X.env) :: starEach [] X.env := by rfl) :
    PE X (.Call (.Name "list" p) [.Call (.Name "zip" p2) [e, e2] [] pos2] [] pos) (tLstZip X.K ta) := by
  refine ⟨fun pins s σ H Q I h => ?_⟩
  have inner : wpAny (model X.prog X.w) X.A (eval (.Call (.Name "zip" p2) [e, e2] [] pos2) X.env) (fun v s2 => ∃ s1 h' H1 a b its its2 xs ys, v = .ref (s1.heap.objs.size + 4) ∧ Inv X pins σ H1 s1 ∧ s2 = { s1 with heap := h' } ∧ h'.objs.size = s1.heap.objs.size + 5 ∧
      (∀ c o, s1.heap.get? c = some o → h'.get? c = some o) ∧ a < s1.heap.objs.size ∧ b < s1.heap.objs.size ∧ Vals xs its ∧ Vals ys its2 ∧
      ZipRdy h' (s1.heap.objs.size + 4) (s1.heap.objs.size + 2) (s1.heap.objs.size + 3) s1.heap.objs.size (s1.heap.objs.size + 1) a b its.toArray its2.toArray ∧
      xs.length = ys.length ∧ xs.length ≤ 100000 ∧ ∀ Hm Ts q, Lz H1 Ts (xs.zip ys) Hm → Hm q = none → Q (.ref q) (upd Hm q (.lst (Ts.map V.ref)))) X.xe s := by
    refine Call_ (ld_blt I hg2 hm2 PyProof.Rows.boot_zip (PyProof.Rows.callWith_type1 (thn (ha.run pos2 pins s σ H _ I h) fun us s1 ⟨vs, H1, I1, r1, q1⟩ => ?_) hs hpl))
    obtain ⟨a, b, xs, ys, ex, hqx, hqy, hl, hn, q⟩ := q1
    subst ex
    cases r1 with
    | cons r rr =>
      cases rr with
      | cons r' rr =>
        cases rr
        cases r
        cases r'
        obtain ⟨its, rv, p1, _⟩ := I1.list hqx
        obtain ⟨its2, rv2, p2, _⟩ := I1.list hqy
        refine call_zip_2 p1.isList p2.isList fun h' hz hTI hTO h1 h2 hsz hk => ?_
        exact ⟨s1, h', H1, a, b, its, its2, xs, ys, rfl, I1, rfl, hsz, hk, p1.lt, p2.lt, rv, rv2, ⟨hz, hTI, ⟨_, _, hTO⟩, h1, h2, p1.isList.at fun o e => hk _ o e, p2.isList.at fun o e => hk _ o e⟩, hl, hn, q⟩
  refine Call_ (ld_blt I hg hm boot_list (PyProof.Rows.callWith_type1 (args_cons (thn inner fun v s2 hv => args_nil ?_) na) na))
  obtain ⟨s1, h', H1, a, b, its, its2, xs, ys, rfl, I1, rfl, hsz, hk, la, lb, rv, rv2, W, hl, hn, q⟩ := hv
  have l1 := rv.length
  have l2 := rv2.length
  refine call_list_zip (s := { s1 with heap := h' }) (I1.ok.hd hc) (PySem.W.ktu_apart s1.heap.objs.size a b la lb) W (by simp; omega) (by simp; omega) fun g tk acc c' q1 q2 q3 => ?_
  have k3 : ∀ a o, s1.heap.get? a = some o → g.get? a = some o := fun a o e => q3 a o (Nat.ne_of_lt (Nat.lt_of_lt_of_le (Heap.lt_size e) (Nat.le_add_right _ _))) (Nat.ne_of_lt (Nat.lt_of_lt_of_le (Heap.lt_size e) (Nat.le_add_right _ _))) (Nat.ne_of_lt (Heap.lt_size e)) (Nat.ne_of_lt (Nat.lt_of_lt_of_le (Heap.lt_size e) (Nat.le_add_right _ _))) (hk a o e)
  obtain ⟨Ts, Hm, rfl, lz, um, okm, frm⟩ := zd_lz (P := X.prog) (w := X.w) (h := s1.heap) (vs := xs) (ws := ys) (by show s1.heap.objs.size ≤ h'.objs.size + 1; omega) (by simpa using rv) (by simpa using rv2) (Un.kept k3) (I1.hok.kept k3) (fun a ha => I1.hok.fresh ha) q2
  have hnS : h'.objs.size ∉ Ts := fun m => by
    have : ∀ {i : Nat} {acc : List Value}, Zd (ZQ its.toArray) (ZQ its2.toArray) (h'.objs.size + 1) g i acc → .ref h'.objs.size ∉ acc := fun x => by
      induction x with
      | nil => exact fun m => nomatch m
      | snoc t p1 p2 hT hb hn ih =>
        intro m
        rcases List.mem_append.mp m with m | m
        · exact ih m
        · cases List.mem_singleton.mp m; omega
    exact this q2 (List.mem_map_of_mem m)
  have hSn := frm h'.objs.size (by omega) hnS
  have ezip : (xs.zip ys).take its.toArray.size = xs.zip ys := List.take_of_length_le (by simp; omega)
  rw [ezip] at lz
  have lTs := lz.len
  have um2 : Un X.fs [] H1 (upd Hm h'.objs.size (.lst (Ts.map V.ref))) s1.heap g := un_more (um.mono (fun b hb => nomatch hb) fun b hb => nomatch hb) (by omega) hSn
  refine ⟨.ref h'.objs.size, _, I1.un (t' := tk) um2 (okm.laidN (fun _ _ e => e) hSn ⟨by rw [List.length_map, lTs, List.length_zip]; exact Nat.le_trans (Nat.min_le_left _ _) (sz hn), Ts.map .ref, c', vals_ref Ts, q1⟩), rfl, q _ Ts _ lz hSn⟩
/-! ### .. on data -/
section
variable {X : Cx} {G : Fx} {a b : Expr} {tl : DTL} {n : Nat}
def tListZip (tl : DTL) : DTR := fun ρ Q => tl ρ fun ds ρ' => match ds with
  | [.list xs, .list ys] => xs.length = ys.length ∧ xs.length ≤ 100000 ∧ Q (.ls (zipD xs ys)) ρ'
  | _ => False
theorem lz_dd {L : Fn} {Hf H1 : Hp} (ex : Ex Hf H1) {ps : List (V × V)} {Ts : List Addr} {Hm : Hp} (lz : Lz H1 Ts ps Hm) : ∀ {ds : List (PyData × PyData)}, ds.length = ps.length → (∀ (i : Nat) p d, ps[i]? = some p → ds[i]? = some d → Dd L Hf p.1 d.1 ∧ Dd L Hf p.2 d.2) →
    ∃ Hf2, Grw Hf H1 Hf2 Hm ∧ DdAll L Hf2 (Ts.map V.ref) (ds.map fun d => .tuple [d.1, d.2]) := by
  induction lz with
  | nil =>
    intro ds hl _
    have : ds = [] := List.length_eq_zero_iff.mp (by simpa using hl)
    subst this
    exact ⟨Hf, .refl ex, .nil⟩
  | @snoc Ts ps Hm T x y t h ih =>
    intro ds hl hg
    rw [List.length_append] at hl
    obtain ⟨d0, d, rfl⟩ : ∃ d0 d, ds = d0 ++ [d] := ⟨ds.dropLast, ds.getLast (fun e => by rw [e] at hl; simp at hl), (List.dropLast_concat_getLast _).symm⟩
    have hl0 : d0.length = ps.length := by simp at hl; omega
    obtain ⟨Hf2, g, dd⟩ := ih hl0 fun i p d' e1 e2 => hg i p d' (by rw [List.getElem?_append_left (lt_some e1)]; exact e1) (by rw [List.getElem?_append_left (lt_some e2)]; exact e2)
    obtain ⟨z1, z2⟩ := hg ps.length (x, y) d (by simp) (by rw [← hl0]; simp)
    have g2 : Grw Hf2 Hm _ _ := .new (o := .tup [x, y]) g.ex h
    refine ⟨_, g.trans g2, ?_⟩
    rw [List.map_append, List.map_append]
    exact (g2.fz.dpAll dd).app (.cons (.tup upd_same (.cons (g2.fz.dp (g.fz.dp z1)) (.cons (g2.fz.dp (g.fz.dp z2)) .nil))) .nil)
theorem dr_listZip {p p2 pos pos2 : Pos} (hc : X.calm = true) (hm : X.mg "list" = none) (hm2 : X.mg "zip" = none) (h : DD X G [a, b] n tl) (hg : Gl X "list" := by rfl) (hg2 : Gl X "zip" := by rfl)
    (hs : starEach [a, b] X.env = (false, eval a X.env) :: starEach [b] X.env := by rfl) (hpl : (backTo pos2 (starEach [b] X.env)).any (·.1) = false := by rfl)
    (na : starEach [.Call (.Name "zip" p2) [a, b] [] pos2] X.env = (false, eval (.Call (.Name "zip" p2) [a, b] [] pos2) X.env) :: starEach [] X.env := by rfl) :
    DR X G (.Call (.Name "list" p) [.Call (.Name "zip" p2) [a, b] [] pos2] [] pos) (tListZip tl) := pe_imp (pe_listZip hc hm hm2 h hg hg2 hs hpl na) fun σ H Q ⟨Hf, ω, ρ, Qd, rep, ht, k⟩ =>
  ⟨Hf, ω, ρ, _, rep, ht, fun vs H1 Hf1 ω1 ρ1 ds hl rep1 st1 hv q1 => by
    split at q1
    · rename_i xs ys
      obtain ⟨e1, e2, q⟩ := q1
      obtain ⟨v, v2, rfl, h1, h2⟩ := hv.two
      cases h1 with
      | @lst a1 us _ y1 y2 =>
        cases h2 with
        | @lst a2 ws _ y3 y4 =>
          have n1 := y2.len
          have n2 := y4.len
          refine ⟨a1, a2, us, ws, rfl, .of (rep1.ex _ _ y1), .of (rep1.ex _ _ y3), by omega, by omega, fun Hm Ts q0 lz hq0 => ?_⟩
          obtain ⟨Hf2, g, dd⟩ := lz_dd (L := G.K) rep1.ex lz (ds := xs.zip ys) (by simp; omega) fun i pr d z1 z2 => by
            obtain ⟨u1, u2⟩ := List.getElem?_zip_eq_some.mp z1
            obtain ⟨u3, u4⟩ := List.getElem?_zip_eq_some.mp z2
            obtain ⟨w1, w2, w3⟩ := y2.get u3
            obtain ⟨w4, w5, w6⟩ := y4.get u4
            rw [u1] at w2; cases w2
            rw [u2] at w5; cases w5
            exact ⟨w3, w6⟩
          obtain ⟨r2, s2, f2, v2⟩ := lay_ls (G := G) (g.rep rep1) hq0 dd
          have st2 := st1.trans (g.stp rep1)
          have ez : (xs.zip ys).map (fun d => PyData.tuple [d.1, d.2]) = zipD xs ys := rfl
          rw [ez] at v2
          refine k _ _ _ _ _ _ _ r2 (st2.trans s2) (fun b hb => ?_) v2 q
          obtain ⟨z1, z2, z3, z4⟩ := f2 b hb
          refine ⟨.inl ?_, z2, z3, z4⟩
          cases w : H b with
          | none => rfl
          | some o => obtain ⟨o', h'⟩ := st2.keep b o w; rw [z1] at h'; cases h'
    · exact q1.elim⟩
end
/-! ### max of a tuple of ints -/
section
variable {prog : Program} {w : World} {A : Around} {E : Value → Shared → Prop} {s : Shared} {l : Addr} {xs : Array (Int × Tok)}
theorem max_tupI {Q : Value → Shared → Prop} (hh : A.handled = none) (hl : IsTup s.heap l (intItems xs)) (hne : 0 < xs.size)
    (h : ∀ v h' tk, (intItems xs)[argBest (fun i j => decide (numAt xs i > numAt xs j)) (xs.size - 1)]? = some v → (∀ b o, s.heap.get? b = some o → h'.get? b = some o) → Q v { s with heap := h', toks := tk }) :
    wpAny (model prog w) A (call (.builtin "max") [.ref l]) Q E s := by
  have hlt : l < s.heap.objs.size := by obtain ⟨_, e, _⟩ := hl; exact Heap.lt_size e
  refine call_max_walk (iter_tuple hl ?_)
  refine ⟨_, _, _, _, _, _, _, rfl, Walks.tuple (A := A.in1) hh _ l (Nat.ne_of_lt hlt) (intItems xs), ⟨⟨_, Heap.get?_push_size _ rfl, rfl, rfl⟩, hl.push _⟩, fun b hb => ?_, by simpa [intItems] using hne, CmpOf.ints_gt (numAt xs) (fun _ _ => intItems_at), fun v h' tk hP hk => ?_⟩
  · show b < (s.heap.push _).objs.size
    rw [Heap.size_push]
    rcases List.mem_cons.mp hb with rfl | hb
    · exact Nat.lt_succ_self _
    · cases List.mem_singleton.mp hb; exact Nat.lt_succ_of_lt hlt
  · refine h v h' tk (by simpa [intItems] using hP) fun b o e => hk b o (fun hm => ?_) (Heap.get?_push_of_some _ e)
    cases List.mem_singleton.mp hm
    exact Nat.lt_irrefl _ (Heap.lt_size e)
end
def rMaxT (K : PySem.W.Frag) : List V → Hp → VK → Prop := fun vs H Q => ∃ (a : Addr) (ns : List Int), vs = [V.ref a] ∧ SqT K H a (ns.map V.int) ∧ 0 < ns.length ∧ ∀ m, m ∈ ns → (∀ y, y ∈ ns → y ≤ m) → Q (.int m) H
theorem cr_maxT {X : Cx} (hc : X.calm = true) : CallR X (.builtin "max") (rMaxT X.K) := by
  intro pins s σ H vs us Q I r h
  obtain ⟨a, ns, rfl, hs, hne, q⟩ := h
  obtain ⟨its, rv, hl, _⟩ := I.tuple hs
  rw [Vals.ref1 r]
  obtain ⟨xs, e⟩ := rv.ints.allInts.items
  have hn : numsOf (intItems xs).toList = ns := by rw [← e]; exact rv.ints.numsOf
  rw [nums_intItems] at hn
  subst hn
  rw [e] at hl
  have hsz : 0 < xs.size := by simpa using hne
  refine max_tupI (I.ok.hd hc) hl hsz fun v h' tk hv hk => ?_
  obtain ⟨t, rfl⟩ := intItems_at hv
  obtain ⟨h1, h2⟩ := argBest_gt (numAt xs) (xs.size - 1)
  refine ⟨.int _, H, I.kept hk, ⟨_, rfl⟩, q _ ?_ fun a ha => ?_⟩
  · rw [numAt_eq]; exact PySem.getD_mem (by rw [List.length_map, Array.length_toList]; exact Nat.lt_of_le_of_lt h1 (by omega))
  · obtain ⟨j, hj, rfl⟩ := mem_getD ha
    rw [List.length_map, Array.length_toList] at hj
    rw [← numAt_eq]; exact h2 j (by omega)
def maxTD : List PyData → Option PyData
  | [.tuple xs] => (intsD xs).bind fun ns => if ns ≠ [] then some (.int (maxI ns)) else none
  | _ => none
theorem cMaxT {K : PySem.W.Frag} {L : Fn} : RCD L (rMaxT K) maxTD := by
  intro xs ds z Hf H Q ex hv hz k
  unfold maxTD at hz
  split at hz
  · rename_i us
    cases q : intsD us with
    | none => rw [q] at hz; cases hz
    | some ns =>
      rw [q] at hz
      obtain ⟨hne, rfl⟩ := if_of (show (if ns ≠ [] then some (PyData.int (maxI ns)) else none) = some z from hz)
      obtain ⟨v, rfl, h⟩ := hv.one
      rw [intsD_of q] at h
      cases h with
      | @tup a vs _ h1 h2 =>
        have e := h2.ints
        subst e
        refine ⟨a, ns, rfl, .of (ex _ _ h1), List.length_pos_iff.mpr hne, fun m hm hle => ?_⟩
        have : m = maxI ns := Int.le_antisymm (maxI_ge hm) (hle _ (maxI_mem hne))
        rw [this]
        exact k _ _ _ (.refl ex) (.int _)
  · cases hz
theorem max_t {ns : List Int} (h : ns ≠ []) : maxTD [.tuple (ns.map .int)] = some (.int (maxI ns)) := by
  show (intsD (ns.map .int)).bind _ = _
  rw [intsD_map]
  exact if_pos h
end DL

namespace LW
open PySem PySem.Spec PyProof.Rows L2 DL
def chL (ns : List Int) : List (List Int) := ns.foldl (fun f t => f ++ f.map (· ++ [t])) [[]]
theorem chL_snoc (ns : List Int) (t : Int) : chL (ns ++ [t]) = chL ns ++ (chL ns).map (· ++ [t]) := by unfold chL; rw [List.foldl_append]; rfl
theorem chL_len (ns : List Int) : (chL ns).length = 2 ^ ns.length := by
  refine snoc_ind (P := fun ns => (chL ns).length = 2 ^ ns.length) rfl (fun ns t ih => ?_) ns
  rw [chL_snoc, List.length_append, List.length_map, ih, List.length_append, List.length_singleton, Nat.pow_succ]; omega
theorem mem_chL (ns : List Int) : ∀ v, v ∈ chL ns ↔ v.Sublist ns := by
  refine snoc_ind (P := fun ns => ∀ v, v ∈ chL ns ↔ v.Sublist ns) (fun v => ?_) (fun ns t ih v => ?_) ns
  · show v ∈ [[]] ↔ _
    rw [List.mem_singleton, List.sublist_nil]
  · rw [chL_snoc, List.mem_append, List.mem_map]
    constructor
    · rintro (h | ⟨w, hw, rfl⟩)
      · exact ((ih v).mp h).trans (List.sublist_append_left _ _)
      · exact ((ih w).mp hw).append (List.Sublist.refl _)
    · intro h
      obtain ⟨v1, v2, rfl, s1, s2⟩ := List.sublist_append_iff.mp h
      have c2 : v2 = [] ∨ v2 = [t] := by
        cases v2 with
        | nil => exact .inl rfl
        | cons a r =>
          cases s2 with
          | cons _ h => cases h
          | cons_cons _ h => rw [List.sublist_nil.mp h]; exact .inr rfl
      rcases c2 with rfl | rfl
      · left; rw [List.append_nil]; exact (ih v1).mpr s1
      · right; exact ⟨v1, (ih v1).mpr s1, rfl⟩
def outL (ns : List Int) (k : Nat) : List Int := ns.take k ++ ns.drop (k + 1)
def sp_law_choices : SpD := fun rs P _ => ∃ (ns : List Int), rs = [.fz (tI ns)] ∧ ns.length ≤ 10 ∧ ∀ af, P (.fz (.list ((chL ns).map tI))) af
def sp_law_out : SpD := fun rs P _ => ∃ (ns : List Int) (k : Nat), rs = [.fz (tI ns), .fz (.int (k : Nat))] ∧ k < ns.length ∧ ns.length ≤ 1000 ∧ ∀ af, P (.fz (tI (outL ns k))) af
theorem slice_to {ns : List Int} {k : Nat} (h : k ≤ ns.length) : sliceD (tI ns) none (some (k : Nat)) = some (tI (ns.take k)) := by
  show some (PyData.tuple (DL.cutD (ns.map .int) none (some (k : Nat)))) = _
  unfold DL.cutD
  have e2 : HT.sIx (ns.map PyData.int).length (ns.map PyData.int).length (some (k : Nat)) = k := by
    rw [HT.sIx_nat, List.length_map]; omega
  have e1 : HT.sIx (ns.map PyData.int).length 0 none = 0 := rfl
  rw [e1, e2]
  simp [tI]
theorem slice_from {ns : List Int} {k : Nat} (h : k ≤ ns.length) : sliceD (tI ns) (some (k : Nat)) none = some (tI (ns.drop k)) := by
  show some (PyData.tuple (DL.cutD (ns.map .int) (some (k : Nat)) none)) = _
  unfold DL.cutD
  have e2 : HT.sIx (ns.map PyData.int).length 0 (some (k : Nat)) = k := by
    rw [HT.sIx_nat, List.length_map]; omega
  have e1 : HT.sIx (ns.map PyData.int).length (ns.map PyData.int).length none = (ns.map PyData.int).length := rfl
  rw [e1, e2, List.take_of_length_le (by simp)]
  simp [tI, List.map_drop]
theorem slice_last {ns : List Int} (h : ns ≠ []) : sliceD (tI ns) (some (-1)) none = some (tI [ns.getLast?.getD 0]) := by
  show some (PyData.tuple (DL.cutD (ns.map .int) (some (-1)) none)) = _
  unfold DL.cutD
  have hp := List.length_pos_iff.mpr h
  have e2 : HT.sIx (ns.map PyData.int).length 0 (some (-1)) = ns.length - 1 := by
    unfold HT.sIx
    rw [List.length_map]
    simp
    try omega
  have e1 : HT.sIx (ns.map PyData.int).length (ns.map PyData.int).length none = (ns.map PyData.int).length := rfl
  rw [e1, e2, List.take_of_length_le (by simp), List.getLast?_eq_getElem?, ← List.map_drop, List.drop_eq_getElem_cons (by omega)]
  rw [List.getElem?_eq_getElem (by omega), Option.getD_some, show ns.length - 1 + 1 = ns.length by omega, List.drop_length]
theorem add_tt {xs ys : List Int} (h : xs.length + ys.length ≤ 10000) : addD (tI xs) (tI ys) = some (tI (xs ++ ys)) := by
  show (if (xs.map PyData.int).length + (ys.map PyData.int).length ≤ 100000 then some _ else none) = _
  rw [if_pos (by rw [List.length_map, List.length_map]; omega)]
  simp [tI]
theorem add_ll {xs ys : List (List Int)} (h : xs.length + ys.length ≤ 10000) : addD (.list (xs.map tI)) (.list (ys.map tI)) = some (.list ((xs ++ ys).map tI)) := by
  show (if (xs.map tI).length + (ys.map tI).length ≤ 100000 then some _ else none) = _
  rw [if_pos (by rw [List.length_map, List.length_map]; omega), List.map_append]
theorem outL_sub (ns : List Int) (k : Nat) : (outL ns k).Sublist ns := by
  conv => rhs; rw [(List.take_append_drop k ns).symm]
  exact (List.Sublist.refl _).append (List.drop_sublist_drop_left ns (Nat.le_succ k))
theorem sub_rowOk {v ns : List Int} (h : v.Sublist ns) (rk : RowOk ns) : RowOk v := by
  have hA := sub_ascP h rk.asc.p
  exact ⟨Nat.le_trans h.length_le rk.len, fun n hn => rk.rng n (h.mem hn), asc_of fun i hi => hA i (i + 1) (by omega) hi⟩
theorem totL_one (r : Rl) (ns : List Int) : totL r [ns] = ((useL r ns).length : Int) := by unfold totL; simp
/-- without one press: as many uses, or one less -/
theorem out_range {r : Rl} (ok : RlOk r) {ns : List Int} (hA : AscP ns) {k : Nat} (hk : k < ns.length) : (usT r (outL ns k)).length ≤ (usT r ns).length ∧ (usT r ns).length ≤ (usT r (outL ns k)).length + 1 := by
  have ho := outL_sub ns k
  have hAo := sub_ascP ho hA
  obtain ⟨h1, _, _⟩ := usT_ok ok _ hAo
  obtain ⟨g1, _, _⟩ := usT_ok ok _ hA
  refine ⟨(usT_best ok ok (fun _ => Int.le_refl _) ns hA _ ((usT_sub r _).trans ho) h1).1, ?_⟩
  have hs := usT_sub r ns
  have e : ns = ns.take k ++ ns[k] :: ns.drop (k + 1) := by rw [← List.drop_eq_getElem_cons hk, List.take_append_drop]
  rw [e] at hs
  obtain ⟨a, b, hab, s1, s2⟩ := List.sublist_append_iff.mp hs
  have key : ∃ c : List Int, c.Sublist (ns.drop (k + 1)) ∧ c.Sublist b ∧ b.length ≤ c.length + 1 := by
    cases s2 with
    | cons _ h => exact ⟨b, h, List.Sublist.refl _, by omega⟩
    | cons_cons _ h => exact ⟨_, h, List.sublist_cons_self _ _, by simp⟩
  obtain ⟨c, c1, c2, c3⟩ := key
  rw [← e] at hab
  have hv : Valid r (a ++ c) := Valid.sub ok (by rw [hab]; exact (List.Sublist.refl a).append c2) g1
  have hb := (usT_best ok ok (fun _ => Int.le_refl _) (outL ns k) hAo (a ++ c) (s1.append c1) hv).1
  rw [hab, List.length_append]
  rw [List.length_append] at hb
  omega
theorem more_range (r : Rl) (ns : List Int) (t : Int) : (usT r (ns ++ [t])).length = (usT r ns).length ∨ (usT r (ns ++ [t])).length = (usT r ns).length + 1 := by
  rcases usT_pre r ns t with e | e
  · left; rw [e]
  · right; rw [e]; simp
theorem nin2 {x a b : Int} (h : x = a ∨ x = b) : ninD (.int x) (.tuple [.int a, .int b]) = some (.bool false) := by
  have e : ([.int a, .int b] : List PyData).any (fun y => PyData.eqv y (.int x)) = true := by
    rw [List.any_cons, List.any_cons, List.any_nil, Bool.or_false, PyData.eqv, PyData.eqv, Bool.or_eq_true, beq_iff_eq, beq_iff_eq]
    rcases h with h | h
    · exact .inl h.symm
    · exact .inr h.symm
  have e2 : ninD (.int x) (.tuple [.int a, .int b]) = some (.bool (!([.int a, .int b] : List PyData).any fun y => PyData.eqv y (.int x))) := by
    show (if (flatD (.int x) = true ∧ ([.int a, .int b] : List PyData).all flatD = true) then some (PyData.bool (!([.int a, .int b] : List PyData).any fun y => PyData.eqv y (.int x))) else none) = _
    exact if_pos ⟨rfl, rfl⟩
  rw [e2, e]; rfl
/-- all presses of v are used: v is possible -/
theorem used_all {r : Rl} (ok : RlOk r) {v : List Int} (hA : AscP v) : (useL r v).length = v.length ↔ Valid r v := by
  rw [useL_len ok hA, ← usT_all ok hA]
  exact ⟨fun h => (usT_sub r v).eq_of_length h, fun h => by rw [h]⟩
def atD (xs : List Int) (d : PyData) : PyData := match d with
  | .int i => .int (at0 xs i.toNat)
  | _ => .none
theorem atD_nat (xs : List Int) (k : Nat) : atD xs (.int (k : Nat)) = .int (at0 xs k) := by
  show PyData.int (at0 xs (((k : Nat) : Int)).toNat) = _
  rw [Int.toNat_natCast]
theorem at_uses {r : Rl} (ok : RlOk r) {ns : List Int} (hA : AscP ns) : ((useL r ns).map fun k => PyData.int (k : Nat)).map (atD ns) = (usT r ns).map .int := by
  rw [← useL_times ok ns hA, List.map_map, List.map_map]
  exact List.map_congr_left fun i _ => atD_nat ns i
theorem rowOk_more5 {v : List Int} (h : RowOk v) (hl : v.length < 60) (hne : v ≠ []) : RowOk (v ++ [v.getLast?.getD 0]) := by
  have e : v.getLast?.getD 0 ∈ v := by
    have := at0_mem (xs := v) (i := v.length - 1) (by have := List.length_pos_iff.mpr hne; omega)
    rwa [← last_at0] at this
  refine ⟨by simp; omega, fun n hn => ?_, h.asc.snoc fun y hy => ?_⟩
  · rcases List.mem_append.mp hn with z | z
    · exact h.rng n z
    · rw [List.mem_singleton.mp z]; exact h.rng _ e
  · rw [Option.mem_def.mp hy]; exact Int.le_refl _
theorem slice_e : sliceD (tI []) (some (-1)) none = some (tI []) := rfl
theorem k05_a : totL ⟨false, 1, 3⟩ [[0, 2, 3, 5]] = 2 := by decide +kernel
theorem k05_b : totL ⟨false, 1, 3⟩ [[2, 3, 5]] = 2 := by decide +kernel
end LW

namespace LW
open PySem PySem.Spec PyProof.Rows L2 DL
theorem spn_le {r : Rl} (ok : RlOk r) (n : Nat) : spn r n ≤ n * r.p := by
  have c1 := ok.c1
  have p1 := ok.p1
  unfold spn
  split
  · split
    · exact Int.mul_le_mul_of_nonneg_right (by omega) (by omega)
    · exact Int.mul_nonneg (by omega) (by omega)
  · exact Int.mul_le_mul_of_nonneg_right (Int.ediv_le_self _ (by omega)) (by omega)
theorem served_le {r : Rl} (ok : RlOk r) {ns : List Int} {M : Int} (h : ∀ n ∈ ns, n ≤ M) {j : Nat} (hj : j < ns.length) : at0 (servedL r ns) j ≤ M + j * r.p := by
  have p1 := ok.p1
  have e : ∀ i, i < ns.length → at0 ((List.range ns.length).map fun i => M + (i : Nat) * r.p) i = M + (i : Nat) * r.p := fun i hi => by
    unfold at0
    rw [List.getElem?_map, List.getElem?_range hi]; rfl
  have := srv_least ok ok (fun _ => Int.le_refl _) ns ((List.range ns.length).map fun i => M + (i : Nat) * r.p) (by simp) ⟨fun m j hm hj => ?_⟩ (fun j hj => ?_) j hj
  · rw [e j hj] at this; exact this
  · have hj : j < ns.length := by simpa using hj
    rw [e j hj, e m (by omega)]
    have := spn_le ok (j - m)
    have e2 : ((j - m : Nat) : Int) * r.p = (j : Int) * r.p - (m : Int) * r.p := by rw [← Int.sub_mul]; congr 1; omega
    omega
  · rw [e j hj]
    have h1 := h _ (at0_mem hj)
    have h2 : 0 ≤ (j : Int) * r.p := Int.mul_nonneg (by omega) (by omega)
    omega
theorem served_rowOk {r : Rl} (ok : RlOk r) {ns : List Int} (hl : ns.length ≤ 60) (hr : ∀ n ∈ ns, 0 ≤ n ∧ n ≤ 60000) : RowOk (servedL r ns) := by
  have p1 := ok.p1
  have p2 := ok.p2
  have sl := servedL_len r ns
  obtain ⟨v, _, ge⟩ := srv_ok ok ns
  refine ⟨by omega, fun x hx => ?_, asc_of fun i hi => v.asc ok (by omega) hi⟩
  obtain ⟨j, hj, rfl⟩ := mem_at0 hx
  rw [sl] at hj
  have h1 := ge j hj
  have h2 := (hr _ (at0_mem hj)).1
  have h3 := served_le ok (fun n hn => (hr n hn).2) hj
  have h4 : (j : Int) * r.p ≤ 60 * 1000 := by
    have a1 : (j : Int) * r.p ≤ j * 1000 := Int.mul_le_mul_of_nonneg_left p2 (by omega)
    omega
  exact ⟨by omega, by omega⟩
theorem servedL_take (r : Rl) (ns : List Int) : ∀ k, servedL r (ns.take k) = (servedL r ns).take k := by
  refine snoc_ind (P := fun ns => ∀ k, servedL r (ns.take k) = (servedL r ns).take k) (fun k => by simp [servedL, srvS]) (fun ns t ih k => ?_) ns
  have sl := servedL_len r ns
  by_cases z : k ≤ ns.length
  · rw [List.take_append_of_le_length z, servedL_snoc, List.take_append_of_le_length (by omega)]
    exact ih k
  · rw [List.take_of_length_le (by simp; omega), List.take_of_length_le (by rw [servedL_len]; simp; omega)]
theorem at0_take {xs : List Int} {k j : Nat} (h : j < k) : at0 (xs.take k) j = at0 xs j := by
  unfold at0; rw [List.getElem?_take_of_lt h]
/-- a used press is not carried out later than it was used -/
theorem used_late {r : Rl} (ok : RlOk r) {ns : List Int} (hA : AscP ns) {k : Nat} (hk : k < (usT r ns).length) : at0 (servedL r ns) k ≤ at0 (usT r ns) k := by
  have hs := usT_sub r ns
  have hle := hs.length_le
  have h1 := srv_least ok ok (fun _ => Int.le_refl _) (ns.take (usT r ns).length) (usT r ns) (by rw [List.length_take]; omega) (usT_ok ok ns hA).1 (fun j hj => by
    rw [List.length_take] at hj
    rw [at0_take (by omega)]
    exact sub_ge hs hA j (by omega)) k (by rw [List.length_take]; omega)
  rw [servedL_take, at0_take hk] at h1
  exact h1
theorem maxI_zero : ∀ xs : List Int, (∀ x ∈ xs, x = 0) → maxI (0 :: xs) = 0 := by
  intro xs h
  have h1 : maxI (0 :: xs) ∈ 0 :: xs := maxI_mem (by simp)
  rcases List.mem_cons.mp h1 with e | e
  · exact e
  · exact h _ e
theorem waitL_self (v : List Int) : waitL v v = 0 := by
  unfold waitL
  refine maxI_zero _ fun x hx => ?_
  obtain ⟨p, hp, rfl⟩ := List.mem_map.mp hx
  have : p.1 = p.2 := by
    obtain ⟨i, hi, e⟩ := List.mem_iff_getElem.mp hp
    rw [List.getElem_zip] at e
    rw [← e]
  omega
theorem rowOk_ascP {ns : List Int} (h : RowOk ns) : AscP ns := h.asc.p
theorem useL_last {r : Rl} (ok : RlOk r) {v : List Int} (hv : Valid r v) {d : Int} (hA : AscP (v ++ [d])) : (useL r (v ++ [d]) = List.range (v.length + 1) ∧ Valid r (v ++ [d])) ∨ (useL r (v ++ [d]) = List.range v.length ∧ ¬ Valid r (v ++ [d])) := by
  by_cases z : Valid r (v ++ [d])
  · left
    have := (useL_all ok hA).mpr z
    rw [List.length_append, List.length_singleton] at this
    exact ⟨this, z⟩
  · right
    refine ⟨?_, z⟩
    rw [useL_snoc, (useL_all ok hA.init).mpr hv, if_neg, List.append_nil]
    intro g
    rw [good_iff ok hA, (usT_all ok hA.init).mpr hv] at g
    exact z g
theorem late_more {r : Rl} (ok : RlOk r) {v : List Int} (hv : Valid r v) {d : Int} (hn : ¬ Valid r (v ++ [d])) : d < (servedL r (v ++ [d])).getLast?.getD 0 ∧ servedL r (v ++ [d]) ≠ [] := by
  have e : servedL r (v ++ [d]) = v ++ [srvT r (srvS r v).1 (srvS r v).2 d] := by rw [servedL_snoc, srv_self ok hv]
  obtain ⟨h1, _, h3⟩ := srv_ok ok (v ++ [d])
  have h4 := h3 v.length (by simp)
  rw [at0_end, e, at0_end] at h4
  rw [e] at h1 ⊢
  refine ⟨?_, by simp⟩
  rw [List.getLast?_concat, Option.getD_some]
  by_cases z : srvT r (srvS r v).1 (srvS r v).2 d = d
  · rw [z] at h1; exact absurd h1 hn
  · omega
theorem rowOk_more {v : List Int} (h : RowOk v) (hl : v.length < 60) (hne : v ≠ []) : RowOk (v ++ [v.getLast?.getD 0]) := by
  have e : v.getLast?.getD 0 ∈ v := by
    have := at0_mem (xs := v) (i := v.length - 1) (by have := List.length_pos_iff.mpr hne; omega)
    rwa [← last_at0] at this
  refine ⟨by simp; omega, fun n hn => ?_, h.asc.snoc fun y hy => ?_⟩
  · rcases List.mem_append.mp hn with z | z
    · exact h.rng n z
    · rw [List.mem_singleton.mp z]; exact h.rng _ e
  · rw [Option.mem_def.mp hy]; exact Int.le_refl _
theorem ix_lastN {ks : List Nat} (h : ks ≠ []) : ixD (.list (ks.map fun k => .int (k : Nat))) (.int (-1)) = some (.int ((ks.getLast?.getD 0 : Nat) : Int)) := by
  rw [nat_ints]
  have h2 : (ks.map fun k : Nat => (k : Int)) ≠ [] := by simpa using h
  have := ix_lastL h2
  rw [List.getLast?_map] at this
  rw [this]
  cases e : ks.getLast? with
  | none => rfl
  | some x => rfl
theorem range_last {n : Nat} (h : 0 < n) : (List.range n).getLast?.getD 0 = n - 1 := by
  obtain ⟨m, rfl⟩ : ∃ m, n = m + 1 := ⟨n - 1, by omega⟩
  rw [List.range_succ, List.getLast?_concat]; rfl
theorem k19_a : servedL ⟨true, 2, 10⟩ [0, 0, 0, 0] = [0, 0, 10, 20] := by decide +kernel
theorem k19_b : waitL [0, 9] (servedL ⟨false, 1, 10⟩ [0, 9]) = 1 := by decide +kernel
theorem k19_c : waitL [0, 0, 0, 0] (servedL ⟨false, 2, 10⟩ [0, 0, 0, 0]) = 10 := by decide +kernel
end LW

namespace LW
open PySem PySem.Spec PyProof.Rows L2 DL
theorem ediv_super (x y : Int) {c : Int} (hc : 0 < c) : x / c + y / c ≤ (x + y) / c := by
  rw [Int.le_ediv_iff_mul_le hc, Int.add_mul]
  have := Int.ediv_mul_le x (Int.ne_of_gt hc)
  have := Int.ediv_mul_le y (Int.ne_of_gt hc)
  omega
/-- two spans behind one another -/
theorem spn_super {r : Rl} (ok : RlOk r) (m n : Nat) : spn r m + spn r n ≤ spn r (m + n) := by
  have c1 := ok.c1
  have p1 := ok.p1
  unfold spn
  split
  · have key : ∀ a b : Int, 0 ≤ b → (a ≤ b) → a * r.p ≤ b * r.p := fun a b _ h => Int.mul_le_mul_of_nonneg_right h (by omega)
    split <;> split <;> split <;> first
      | (rw [← Int.add_mul]; exact key _ _ (by omega) (by omega))
      | omega
      | (rw [Int.add_zero]; exact key _ _ (by omega) (by omega))
      | (rw [Int.zero_add]; exact key _ _ (by omega) (by omega))
      | (rw [Int.add_zero]; exact Int.mul_nonneg (by omega) (by omega))
  · have h := ediv_super (m : Int) n (by omega : 0 < r.c)
    have := Int.mul_le_mul_of_nonneg_right h (by omega : 0 ≤ r.p)
    rw [Int.add_mul] at this
    exact this
/-- the span of as many uses more as there are charges is one pause -/
theorem spn_self {r : Rl} (ok : RlOk r) : spn r r.c.toNat = r.p := by
  have c1 := ok.c1
  have e : ((r.c.toNat : Nat) : Int) = r.c := by omega
  unfold spn
  split
  · rw [e, if_pos (Int.le_refl _), show r.c - r.c + 1 = 1 by omega, Int.one_mul]
  · rw [e, Int.ediv_self (by omega), Int.one_mul]
theorem spn_zero_lt {r : Rl} (ok : RlOk r) {n : Nat} (h : (n : Int) < r.c) : spn r n = 0 := by
  unfold spn
  rw [if_neg (show ¬ r.c ≤ (n : Int) by omega), Int.ediv_eq_zero_of_lt (by omega) h, Int.zero_mul]
  split <;> rfl
/-- what is asked of a rule by another one's span -/
theorem lpI_span {a b : Rl} (oa : RlOk a) (ob : RlOk b) (h : a.ln = false ∨ a.c < b.c) : lpI a.ln a.c b = spn b a.c.toNat := by
  have c1 := oa.c1
  have b1 := ob.c1
  have e : ((a.c.toNat : Nat) : Int) = a.c := by omega
  unfold lpI
  by_cases h1 : a.ln = false ∧ b.ln = false
  · rw [if_pos h1]; unfold spn; rw [if_neg (by rw [h1.2]; exact Bool.false_ne_true), e]
  · rw [if_neg h1]
    by_cases h2 : a.c < b.c
    · rw [if_pos h2, spn_zero_lt ob (by omega)]
    · rw [if_neg h2]
      rcases h with h | h
      · rw [if_pos h]
        have hb : b.ln = true := by
          cases q : b.ln with
          | true => rfl
          | false => exact absurd ⟨h, q⟩ h1
        unfold spn
        rw [if_pos hb, e, if_pos (by omega)]
        congr 1
        omega
      · exact absurd h h2
theorem better_of {a b : Rl} (oa : RlOk a) (ob : RlOk b) (h : ∀ n, spn a n ≤ spn b n) : betterB a b = true := by
  have c1 := oa.c1
  have c2 := oa.c2
  have b1 := ob.c1
  have b2 := ob.c2
  have p1 := oa.p1
  have p2 := ob.p1
  unfold betterB
  refine decide_eq_true ?_
  by_cases q : a.ln = false ∨ a.c < b.c
  · rw [lpI_span oa ob q, ← spn_self oa]; exact h _
  · have q1 : a.ln = true := by
      cases z : a.ln with
      | true => rfl
      | false => exact absurd (.inl z) q
    have q2 : ¬ a.c < b.c := fun z => q (.inr z)
    unfold lpI
    rw [if_neg (fun z => by rw [q1] at z; cases z.1), if_neg q2, if_neg (by rw [q1]; exact Bool.noConfusion)]
    split
    · rename_i hb
      rw [Int.le_ediv_iff_mul_le (by omega)]
      refine Int.not_lt.mp fun hlt => ?_
      -- a.p * b.c ≥ b.p + 1
      have hk := h ((a.c * a.p * b.c).toNat)
      have e : (((a.c * a.p * b.c).toNat : Nat) : Int) = a.c * a.p * b.c := Int.toNat_of_nonneg (Int.mul_nonneg (Int.mul_nonneg (by omega) (by omega)) (by omega))
      unfold spn at hk
      have hge : a.c ≤ a.c * a.p * b.c := by
        have h1 : a.c * 1 ≤ a.c * a.p := Int.mul_le_mul_of_nonneg_left p1 (by omega)
        have h2 : a.c * a.p * 1 ≤ a.c * a.p * b.c := Int.mul_le_mul_of_nonneg_left b1 (Int.mul_nonneg (by omega) (by omega))
        omega
      rw [if_pos q1, if_neg (show ¬ b.ln = true by rw [hb]; exact Bool.false_ne_true), e, if_pos hge, Int.mul_ediv_cancel _ (by omega)] at hk
      have h3 : a.c * a.p * (b.p + 1) ≤ a.c * a.p * (a.p * b.c) := Int.mul_le_mul_of_nonneg_left (by omega) (Int.mul_nonneg (by omega) (by omega))
      have e2 : (a.c * a.p * b.c - a.c + 1) * a.p = a.c * a.p * (a.p * b.c) - a.c * a.p + a.p := by
        rw [Int.add_mul, Int.sub_mul, Int.one_mul, Int.mul_assoc (a.c * a.p), Int.mul_comm b.c]
      have e3 : a.c * a.p * (b.p + 1) = a.c * a.p * b.p + a.c * a.p := by rw [Int.mul_add, Int.mul_one]
      omega
    · rename_i hb
      have hb : b.ln = true := by
        cases z : b.ln with
        | true => rfl
        | false => exact absurd z hb
      refine Int.not_lt.mp fun hlt => ?_
      have hk := h ((a.c + a.c * b.p).toNat)
      have h0 : 0 ≤ a.c * b.p := Int.mul_nonneg (by omega) (by omega)
      have e : (((a.c + a.c * b.p).toNat : Nat) : Int) = a.c + a.c * b.p := Int.toNat_of_nonneg (by omega)
      unfold spn at hk
      rw [if_pos q1, if_pos hb, e, if_pos (by omega), if_pos (by omega), show a.c + a.c * b.p - a.c + 1 = a.c * b.p + 1 by omega] at hk
      have h3 : (a.c * b.p + 1) * (b.p + 1) ≤ (a.c * b.p + 1) * a.p := Int.mul_le_mul_of_nonneg_left (by omega) (by omega)
      have h4 : (a.c + a.c * b.p - b.c + 1) * b.p ≤ (a.c + a.c * b.p) * b.p := Int.mul_le_mul_of_nonneg_right (by omega) (by omega)
      have e3 : (a.c * b.p + 1) * (b.p + 1) = a.c * b.p * b.p + b.p + (a.c * b.p + 1) := by rw [Int.mul_add, Int.mul_one, Int.add_mul, Int.one_mul]
      have e4 : (a.c + a.c * b.p) * b.p = a.c * b.p + a.c * b.p * b.p := Int.add_mul ..
      omega
theorem better_iff {a b : Rl} (oa : RlOk a) (ob : RlOk b) : betterB a b = true ↔ ∀ n, spn a n ≤ spn b n := ⟨fun h n => better_spn oa ob h n, better_of oa ob⟩
theorem better_trans {a b c : Rl} (oa : RlOk a) (ob : RlOk b) (oc : RlOk c) (h1 : betterB a b = true) (h2 : betterB b c = true) : betterB a c = true :=
  better_of oa oc fun n => Int.le_trans (better_spn oa ob h1 n) (better_spn ob oc h2 n)
theorem better_self {a : Rl} (oa : RlOk a) : betterB a a = true := better_of oa oa fun _ => Int.le_refl _
theorem spn_more {a b : Rl} (oa : RlOk a) (ob : RlOk b) (hk : a.ln = b.ln) (hc : b.c ≤ a.c) (hp : a.p ≤ b.p) (n : Nat) : spn a n ≤ spn b n := by
  have c1 := oa.c1
  have b1 := ob.c1
  have p1 := oa.p1
  unfold spn
  rw [hk]
  split
  · split
    · rw [if_pos (by omega)]
      exact Int.le_trans (Int.mul_le_mul_of_nonneg_right (show (n : Int) - a.c + 1 ≤ n - b.c + 1 by omega) (by omega)) (Int.mul_le_mul_of_nonneg_left hp (by omega))
    · split
      · exact Int.mul_nonneg (by omega) (by omega)
      · exact Int.le_refl _
  · have h1 : (n : Int) / a.c ≤ n / b.c := by
      rw [Int.le_ediv_iff_mul_le (by omega)]
      have h2 := Int.ediv_mul_le (n : Int) (show a.c ≠ 0 by omega)
      have h3 := Int.mul_le_mul_of_nonneg_left hc (Int.ediv_nonneg (show (0 : Int) ≤ n by omega) (show 0 ≤ a.c by omega))
      omega
    have h0 : 0 ≤ (n : Int) / b.c := Int.ediv_nonneg (by omega) (by omega)
    exact Int.le_trans (Int.mul_le_mul_of_nonneg_right h1 (by omega)) (Int.mul_le_mul_of_nonneg_left hp h0)
/-- the row that tells two rules apart -/
def tellL (a b : Rl) : List Int := (List.range (a.c.toNat + 1)).map fun k => spn b k
theorem tell_len (a b : Rl) : (tellL a b).length = a.c.toNat + 1 := by unfold tellL; simp
theorem tell_at {a b : Rl} {k : Nat} (h : k < a.c.toNat + 1) : at0 (tellL a b) k = spn b k := by
  show ((List.range (a.c.toNat + 1)).map fun k => spn b k)[k]?.getD 0 = _
  rw [List.getElem?_map, List.getElem?_range h]; rfl
theorem tell_valid {a b : Rl} (ob : RlOk b) : Valid b (tellL a b) := ⟨fun m j hm hj => by
  rw [tell_len] at hj
  rw [tell_at (by omega), tell_at (by omega)]
  have := spn_super ob m (j - m)
  rw [show m + (j - m) = j by omega] at this
  exact this⟩
theorem tell_not {a b : Rl} (oa : RlOk a) (ob : RlOk b) (h : spn b a.c.toNat < a.p) : ¬ Valid a (tellL a b) := fun hv => by
  have c1 := oa.c1
  have := hv.1 0 a.c.toNat (by omega) (by rw [tell_len]; omega)
  rw [tell_at (by omega), tell_at (by omega), Nat.sub_zero, spn_self oa] at this
  have := spn_nonneg ob 0
  omega
theorem not_better_tell {a b : Rl} (oa : RlOk a) (ob : RlOk b) (h : a.ln = false ∨ a.c < b.c) (n : betterB a b = false) : spn b a.c.toNat < a.p := by
  unfold betterB at n
  rw [lpI_span oa ob h] at n
  have := of_decide_eq_false n
  omega
/-! ### what the defs promise -/
def sp_least_span : SpD := fun rs P _ => ∃ (r : Rl) (n : Int), rs = [.fz (rD r), .fz (.int n)] ∧ RlOk r ∧ 1 ≤ n ∧ ∀ af, P (.fz (.int (spn r (n - 1).toNat))) af
def ndd (a : Rl) (n : Int) : Int := if a.ln = true then spn a (n - 1).toNat else a.p
def sp_needed_span : SpD := fun rs P _ => ∃ (r : Rl) (n : Int), rs = [.fz (rD r), .fz (.int n)] ∧ RlOk r ∧ 1 ≤ n ∧ ∀ af, P (.fz (.int (ndd r n))) af
def spnL (b : Rl) (n : Nat) : List Int := (List.range n).map fun k => spn b k
def spnD (b : Rl) (d : PyData) : PyData := match d with
  | .int i => .int (spn b (i - 1).toNat)
  | _ => PyData.none
theorem spnD_rng (b : Rl) (N : Nat) : ((rngD 1 (((N : Nat) : Int) + 1 - 1).toNat).map (spnD b)) = (spnL b N).map .int := by
  rw [show (((N : Nat) : Int) + 1 - 1).toNat = N by omega]
  unfold rngD spnL
  rw [List.map_map, List.map_map]
  refine List.map_congr_left fun k _ => ?_
  show PyData.int (spn b ((1 : Int) + (k : Nat) - 1).toNat) = .int (spn b k)
  rw [show ((1 : Int) + (k : Nat) - 1).toNat = k by omega]
def sp_telling_row : SpD := fun rs P _ => ∃ (a b : Rl), rs = [.fz (rD a), .fz (rD b)] ∧ RlOk a ∧ RlOk b ∧ (betterB a b = true → ∀ af, P (.fz .none) af) ∧
  (betterB a b = false → ∃ N : Nat, a.c + 1 ≤ N ∧ N ≤ 1000 ∧ spn b (N - 1) < ndd a N ∧ (∀ n : Nat, a.c + 1 ≤ n → n < N → ¬ spn b (n - 1) < ndd a n) ∧ ∀ af, P (.fz (.tuple ((spnL b N).map .int))) af)
theorem rg2_i {i j : Int} (h : j - i ≤ 100000) (h1 : -1000000 ≤ i) (h2 : i ≤ 1000000) (h3 : -1000000 ≤ j) (h4 : j ≤ 1000000) : rg2D [.int i, .int j] = some (rngD i (j - i).toNat) := if_pos (by omega)
def sp_law_follows : SpD := fun rs P _ => ∃ (a b : Rl) (ns : List Int), rs = [.fz (rD a), .fz (rD b), .fz (tI ns)] ∧ RlOk a ∧ RlOk b ∧ RowOk ns ∧ (∀ n, spn a n ≤ spn b n) ∧ ∀ af, P (.fz (.bool true)) af
theorem tell_first {a b : Rl} (oa : RlOk a) (ob : RlOk b) (h : spn b a.c.toNat < a.p) : ∃ N : Nat, a.c + 1 ≤ N ∧ N ≤ 1000 ∧ spn b (N - 1) < ndd a N ∧ (∀ n : Nat, a.c + 1 ≤ n → n < N → ¬ spn b (n - 1) < ndd a n) ∧ N = a.c.toNat + 1 := by
  have c1 := oa.c1
  have c2 := oa.c2
  refine ⟨a.c.toNat + 1, by omega, by omega, ?_, fun n h1 h2 => by omega, rfl⟩
  have e : ndd a ((a.c.toNat + 1 : Nat) : Int) = a.p := by
    unfold ndd
    rw [show (((a.c.toNat + 1 : Nat) : Int) - 1).toNat = a.c.toNat by omega, spn_self oa]
    split <;> rfl
  rw [e]
  exact h
theorem spnL_tell (a b : Rl) : spnL b (a.c.toNat + 1) = tellL a b := rfl
theorem tell_row {a b : Rl} (oa : RlOk a) (ob : RlOk b) : RowOk (tellL a b) := by
  have c1 := oa.c1
  have c2 := oa.c2
  refine ⟨by rw [tell_len]; omega, fun x hx => ?_, ?_⟩
  · obtain ⟨k, hk, rfl⟩ := List.mem_map.mp hx
    have hk := List.mem_range.mp hk
    refine ⟨spn_nonneg ob k, ?_⟩
    have h1 := spn_le ob k
    have h2 : (k : Int) * b.p ≤ 20 * b.p := Int.mul_le_mul_of_nonneg_right (by omega) (by have := ob.p1; omega)
    have := ob.p2
    omega
  · refine asc_of fun i hi => ?_
    rw [tell_len] at hi
    rw [tell_at (by omega), tell_at (by omega)]
    exact spn_mono ob (by omega)
theorem tell_less {a b : Rl} (oa : RlOk a) (ob : RlOk b) (h : spn b a.c.toNat < a.p) : totL a [tellL a b] < totL b [tellL a b] := by
  have rk := tell_row oa ob
  rw [totL_one, totL_one, (used_all ob rk.asc.p).mpr (tell_valid ob), useL_len oa rk.asc.p]
  have h1 := (usT_sub a (tellL a b)).length_le
  have h2 : (usT a (tellL a b)).length ≠ (tellL a b).length := fun e => by
    refine tell_not oa ob h ?_
    refine (used_all oa rk.asc.p).mp ?_
    rw [useL_len oa rk.asc.p, e]
  omega
theorem k08_two {r : Rl} (ok : RlOk r) (h : r.ln = false) : betterB ⟨false, 2 * r.c, 2 * r.p⟩ r = true := by
  unfold betterB
  refine decide_eq_true ?_
  show 2 * r.p ≤ lpI false (2 * r.c) r
  unfold lpI
  rw [if_pos ⟨rfl, h⟩, Int.mul_ediv_cancel _ (by have := ok.c1; omega)]
  exact Int.le_refl _
theorem k08_line {p : Int} : betterB ⟨true, 20, p⟩ ⟨true, 1, p - 1⟩ = false := by
  unfold betterB
  refine decide_eq_false ?_
  show ¬ p ≤ lpI true 20 ⟨true, 1, p - 1⟩
  unfold lpI
  rw [if_neg (fun z => by cases z.1), if_neg (show ¬ (20 : Int) < 1 by decide), if_neg Bool.noConfusion, if_neg Bool.noConfusion]
  show ¬ p ≤ p - 1
  omega
theorem k08_side {c p : Int} : betterB ⟨false, c, p⟩ ⟨true, c, p⟩ = true := by
  unfold betterB
  refine decide_eq_true ?_
  show p ≤ lpI false c ⟨true, c, p⟩
  unfold lpI
  rw [if_neg (fun z => by cases z.2), if_neg (show ¬ c < c from Int.lt_irrefl c), if_pos rfl]
  show p ≤ (c + 1 - c) * p
  rw [show c + 1 - c = 1 by omega, Int.one_mul]
  exact Int.le_refl _
theorem k08_a : betterB ⟨false, 4, 30⟩ ⟨true, 2, 10⟩ = true := by decide +kernel
theorem k08_b : betterB ⟨false, 4, 31⟩ ⟨true, 2, 10⟩ = false := by decide +kernel
def k08P (a : Rl) (d : PyData) : Bool := match d with
  | .tuple [_, .int c, _] => !a.ln || decide (a.c < c)
  | _ => false
theorem k08P_of {a r : Rl} (h : k08P a (rD r) = true) : a.ln = false ∨ a.c < r.c := by
  have h : (!a.ln || decide (a.c < r.c)) = true := h
  simpa using h
end LW

namespace DL
open PySem PySem.Spec PyProof.Rows L2
theorem room65 {k : Nat} {A : Around} (r : Room k A) : A.units + 65 < cLine := by have := r.un; omega
section
variable {X : Cx} {G : Fx} {e a b c tg : Expr} {ta tb tc : DTE} {pos : Pos}
/-! ### a written tuple of the module is walked -/
theorem wks_gl {K : PySem.W.Frag} {L : Fn} {Hf : Hp} {p : Addr} {vs : List V} {ds : List PyData} (h : ∀ H, SqT K H p vs) (k : ∀ H, DdAll L H vs ds) : Wks L (Itt K p) ds Hf := by
  refine ⟨fun i H hi ex => ?_, fun H ex => ⟨vs, h H, by rw [(k H).len]; exact Nat.le_refl _⟩, fun i Hf' H x H' d hd e1 e2 y => ?_⟩
  · have hl : i < vs.length := by rw [(k H).len]; exact hi
    exact ⟨vs, vs[i], h H, by simp [hl]⟩
  · obtain ⟨rfl, y⟩ := y
    obtain ⟨v, h1, h2⟩ := (k Hf').get hd
    have := y vs (h _)
    rw [h1] at this
    cases this
    exact ⟨Hf', .refl e2, h2⟩
def tGlI (ds : List PyData) : DTL := fun ρ Q => Q ds ρ
theorem di_gl {A : Addr} {vs : List V} {ds : List PyData} (hb : PE X e (tC (.ref A))) (hK : ∀ H, SqT X.K H A vs) (hd : ∀ H, DdAll G.K H vs ds) : DI X G tg e (tGlI ds) := pi_imp (pi_seq hb) fun σ H Q ⟨Hf, ω, ρ, Qd, rep, ht, k⟩ =>
  ⟨A, rfl, .inr ⟨vs, hK _, k _ _ _ _ _ _ rep Stp.refl (wks_gl hK hd) ht⟩⟩
/-! ### a list that nobody changes any more, told so -/
def frz1 (ρ : DSt) (i : Nat) : DSt := match ρ[i]? with
  | some (some (.ls xs)) => ρ.set i (some (.fz (.list xs)))
  | _ => ρ
def sFrz (i : Nat) (t : DTS) : DTS := fun D ρ => t { D with nx := fun ρ' => D.nx (frz1 ρ' i) } ρ
theorem ds_frz {st : Stmt} {t : DTS} (i : Nat) (h : DS X G st t) : DS X G st (sFrz i t) := ps_imp h fun D σ H ⟨Hf, ω, ρ, Dd, rep, ht, k1, k2, k3, k4⟩ =>
  ⟨Hf, ω, ρ, _, rep, ht, fun σ' H' Hf' ω' ρ' rep' st' q => by
    dsimp only at q
    unfold frz1 at q
    split at q
    · rename_i xs e
      obtain ⟨v, Hf2, ω2, e1, r, s, d⟩ := rep'.freeze e
      exact k1 _ _ _ _ _ r (st'.trans s) q
    · exact k1 _ _ _ _ _ rep' st' q, k2, k3, k4⟩
/-! ### in a list of data of any depth -/
def inXD (d e : PyData) : Option PyData := match e with
  | .list ds => if SeqAt.shaped d = true ∧ SeqAt.shaped (.list ds) = true then some (.bool (ds.any fun z => PyData.eqv z d)) else none
  | _ => none
def ninXD (d e : PyData) : Option PyData := match e with
  | .list ds => if SeqAt.shaped d = true ∧ SeqAt.shaped (.list ds) = true then some (.bool (!ds.any fun z => PyData.eqv z d)) else none
  | _ => none
theorem dInX {K : PySem.W.Frag} {L : Fn} : R2D L (rInD K) inXD := by
  intro x y d e z Hf H Q ex hx hy hz k
  unfold inXD at hz
  split at hz
  · rename_i ds
    obtain ⟨⟨c1, c2⟩, rfl⟩ := if_of hz
    exact ⟨d, ds, (ex.dp hx).old (lay_of c1), (ex.dp hy).old (lay_of c2), c1, c2, k _ _ _ (.refl ex) (.bl _)⟩
  · cases hz
theorem dNinX {K : PySem.W.Frag} {L : Fn} : R2D L (rNotInD K) ninXD := by
  intro x y d e z Hf H Q ex hx hy hz k
  unfold ninXD at hz
  split at hz
  · rename_i ds
    obtain ⟨⟨c1, c2⟩, rfl⟩ := if_of hz
    exact ⟨d, ds, (ex.dp hx).old (lay_of c1), (ex.dp hy).old (lay_of c2), c1, c2, k _ _ _ (.refl ex) (.bl _)⟩
  · cases hz
end
end DL

namespace LW
open PySem PySem.Spec PyProof.Rows L2 DL
/-! ### lists of places -/
def nI (k : Nat) : PyData := .int (k : Nat)
theorem nI_def (ks : List Nat) : (ks.map fun k => PyData.int (k : Nat)) = ks.map nI := rfl
theorem eqv_nI (a b : Nat) : PyData.eqv (nI a) (nI b) = decide (a = b) := by
  show PyData.eqv (.int a) (.int b) = _
  rw [PyData.eqv]
  by_cases h : a = b
  · subst h; simp
  · rw [decide_eq_false h]; simp; omega
theorem any_nI (ks : List Nat) (k : Nat) : ((ks.map fun k => PyData.int (k : Nat)).any fun y => PyData.eqv y (.int (k : Nat))) = decide (k ∈ ks) := by
  rw [nI_def, List.any_map]
  have e : ((fun y => PyData.eqv y (.int (k : Nat))) ∘ nI) = fun m => decide (m = k) := funext fun m => eqv_nI m k
  rw [e]
  by_cases h : k ∈ ks
  · rw [decide_eq_true h, List.any_eq_true]; exact ⟨k, h, by simp⟩
  · rw [decide_eq_false h, List.any_eq_false]
    intro m hm
    have : m ≠ k := fun e => h (e ▸ hm)
    simp [this]
theorem flat_nI (ks : List Nat) : (ks.map fun k => PyData.int (k : Nat)).all flatD = true := by
  rw [List.all_map, List.all_eq_true]; intro x _; rfl
theorem in_lN (k : Nat) (ks : List Nat) : inD (.int (k : Nat)) (.list (ks.map fun k => .int (k : Nat))) = some (.bool (decide (k ∈ ks))) := by
  show (if (flatD (.int (k : Nat)) = true ∧ (ks.map fun k => PyData.int (k : Nat)).all flatD = true) then some (PyData.bool ((ks.map fun k => PyData.int (k : Nat)).any fun y => PyData.eqv y (.int (k : Nat)))) else none) = _
  rw [if_pos ⟨rfl, flat_nI ks⟩, any_nI]
theorem nin_lN (k : Nat) (ks : List Nat) : ninD (.int (k : Nat)) (.list (ks.map fun k => .int (k : Nat))) = some (.bool (!decide (k ∈ ks))) := by
  show (if (flatD (.int (k : Nat)) = true ∧ (ks.map fun k => PyData.int (k : Nat)).all flatD = true) then some (PyData.bool (!(ks.map fun k => PyData.int (k : Nat)).any fun y => PyData.eqv y (.int (k : Nat)))) else none) = _
  rw [if_pos ⟨rfl, flat_nI ks⟩, any_nI]
/-- a test, a map of places, on data -/
def pN (p : Nat → Bool) (d : PyData) : Bool := match d with
  | .int i => p i.toNat
  | _ => false
def fN (f : Nat → Nat) (d : PyData) : PyData := match d with
  | .int i => nI (f i.toNat)
  | _ => d
theorem pN_i (p : Nat → Bool) (k : Nat) : pN p (.int (k : Nat)) = p k := by show p ((k : Int).toNat) = _; rw [Int.toNat_natCast]
theorem fN_i (f : Nat → Nat) (k : Nat) : fN f (.int (k : Nat)) = .int (f k : Nat) := by show nI (f ((k : Int).toNat)) = _; rw [Int.toNat_natCast]; rfl
theorem filt_pN (p : Nat → Bool) (ks : List Nat) : ((ks.map fun k => PyData.int (k : Nat)).filter (pN p)).map (fun d => d) = (ks.filter p).map fun k => .int (k : Nat) := by
  rw [List.map_id', List.filter_map]
  have e : (pN p ∘ fun k : Nat => PyData.int (k : Nat)) = p := funext fun k => pN_i p k
  rw [e]
theorem map_fN (f : Nat → Nat) (ks : List Nat) : (ks.map fun k => PyData.int (k : Nat)).map (fN f) = (ks.map f).map fun k => .int (k : Nat) := by
  rw [List.map_map, List.map_map]
  exact List.map_congr_left fun k _ => fN_i f k
/-! ### without one press -/
def shN (i p : Nat) : Nat := if i ≤ p then p + 1 else p
def usW (r : Rl) (ns : List Int) (i : Nat) : List Nat := (useL r (outL ns i)).map (shN i)
def gainL (r : Rl) (ns : List Int) (i : Nat) : List Nat := (usW r ns i).filter fun p => !decide (p ∈ useL r ns)
def lostL (r : Rl) (ns : List Int) (i : Nat) : List Nat := (useL r ns).filter fun p => !decide (p ∈ usW r ns i) && !decide (p = i)
def idleL (r : Rl) (ns : List Int) : List Nat := (List.range ns.length).filter fun i => decide (usW r ns i = (useL r ns).filter fun p => !decide (p = i))
theorem outL_len {ns : List Int} {i : Nat} (h : i < ns.length) : (outL ns i).length = ns.length - 1 := by unfold outL; simp; omega
theorem out_lo {ns : List Int} {i k : Nat} (h : k < i) (hi : i < ns.length) : (outL ns i)[k]? = ns[k]? := by
  unfold outL
  rw [List.getElem?_append_left (by simp; omega), List.getElem?_take_of_lt h]
theorem out_hi {ns : List Int} {i k : Nat} (h : i ≤ k) (hi : i < ns.length) : (outL ns i)[k]? = ns[k + 1]? := by
  unfold outL
  rw [List.getElem?_append_right (by simp; omega), List.getElem?_drop, List.length_take]
  congr 1
  omega
theorem out_sh {ns : List Int} {i k : Nat} (hi : i < ns.length) : (outL ns i)[k]? = ns[shN i k]? := by
  unfold shN
  by_cases h : i ≤ k
  · rw [if_pos h, out_hi h hi]
  · rw [if_neg h, out_lo (by omega) hi]
theorem not_used {r : Rl} {ns : List Int} {i : Nat} (hi : i < ns.length) (h : i ∉ useL r ns) : goodB r (bsL r (ns.take i)) (ns[i]?.getD 0) = false := by
  unfold useL at h
  rw [List.mem_filter] at h
  cases q : goodB r (bsL r (ns.take i)) (ns[i]?.getD 0) with
  | false => rfl
  | true => exact absurd ⟨List.mem_range.mpr hi, q⟩ h
theorem bsL_out {r : Rl} {ns : List Int} {i : Nat} (hi : i < ns.length) (h : i ∉ useL r ns) : ∀ k, k < ns.length → bsL r ((outL ns i).take k) = bsL r (ns.take (shN i k)) := by
  intro k
  induction k with
  | zero =>
    intro _
    unfold shN
    split
    · rename_i z
      have : i = 0 := by omega
      subst this
      obtain ⟨t, ht⟩ : ∃ t, ns[0]? = some t := ⟨_, List.getElem?_eq_getElem hi⟩
      have hg := not_used hi h
      rw [bsL_succ ht, ht] at *
      unfold stepP
      rw [show goodB r (bsL r (ns.take 0)) t = false from hg, if_neg Bool.false_ne_true]
      simp
    · simp
  | succ k ih =>
    intro hk
    have ih := ih (by omega)
    obtain ⟨t, ht⟩ : ∃ t, (outL ns i)[k]? = some t := ⟨_, List.getElem?_eq_getElem (by rw [outL_len hi]; omega)⟩
    have ht2 := ht
    rw [out_sh hi] at ht2
    rw [bsL_succ ht, ih, ← bsL_succ ht2]
    by_cases z : i ≤ k
    · unfold shN; rw [if_pos z, if_pos (by omega)]
    · by_cases z2 : i = k + 1
      · have e1 : shN i k = k := by unfold shN; rw [if_neg z]
        have e2 : shN i (k + 1) = k + 1 + 1 := by unfold shN; rw [if_pos (by omega)]
        rw [e1, e2]
        subst z2
        obtain ⟨u, hu⟩ : ∃ u, ns[k + 1]? = some u := ⟨_, List.getElem?_eq_getElem hi⟩
        have hg := not_used hi h
        rw [hu] at hg
        rw [bsL_succ hu]
        unfold stepP
        rw [show goodB r (bsL r (ns.take (k + 1))) u = false from hg, if_neg Bool.false_ne_true]
      · unfold shN; rw [if_neg z, if_neg (by omega)]
theorem range_out {n i : Nat} (h : i < n) : List.range n = (List.range i) ++ i :: (List.range (n - 1 - i)).map (fun k => k + i + 1) := by
  refine List.ext_getElem? fun k => ?_
  by_cases h1 : k < i
  · rw [List.getElem?_append_left (by simpa using h1), List.getElem?_range (by omega), List.getElem?_range h1]
  · rw [List.getElem?_append_right (by simp; omega), List.length_range]
    by_cases h2 : k = i
    · subst h2; rw [List.getElem?_range h]; simp
    · obtain ⟨m, rfl⟩ : ∃ m, k = i + m + 1 := ⟨k - i - 1, by omega⟩
      rw [show i + m + 1 - i = m + 1 by omega, List.getElem?_cons_succ, List.getElem?_map]
      by_cases h3 : i + m + 1 < n
      · rw [List.getElem?_range h3, List.getElem?_range (by omega)]; simp; omega
      · rw [List.getElem?_eq_none (by simp; omega), List.getElem?_eq_none (by simp; omega)]; rfl
theorem range_sh {n i : Nat} (h : i < n) : (List.range (n - 1)).map (shN i) = (List.range n).filter fun p => !decide (p = i) := by
  rw [range_out h, List.filter_append, List.filter_cons]
  have e1 : (List.range i).filter (fun p => !decide (p = i)) = List.range i := List.filter_eq_self.mpr fun p hp => by
    have := List.mem_range.mp hp
    simp; omega
  have e2 : ((List.range (n - 1 - i)).map fun k => k + i + 1).filter (fun p => !decide (p = i)) = (List.range (n - 1 - i)).map fun k => k + i + 1 := List.filter_eq_self.mpr fun p hp => by
    obtain ⟨k, _, rfl⟩ := List.mem_map.mp hp
    simp; omega
  rw [e1, e2, if_neg (by simp), show List.range (n - 1) = List.range (i + (n - 1 - i)) by congr 1; omega, List.range_add, List.map_append, List.map_map]
  congr 1
  · refine (List.map_congr_left fun k hk => ?_).trans (List.map_id' _)
    have := List.mem_range.mp hk
    unfold shN; rw [if_neg (by omega)]
  · refine List.map_congr_left fun k _ => ?_
    show shN i (i + k) = _
    unfold shN; rw [if_pos (by omega)]; omega
theorem shN_inj {i p q : Nat} (h : shN i p = shN i q) : p = q := by unfold shN at h; split at h <;> split at h <;> omega
theorem shN_ne (i p : Nat) : shN i p ≠ i := by unfold shN; split <;> omega
/-- a press that is not used may be left out: the others stay as they are -/
theorem usW_idle {r : Rl} {ns : List Int} {i : Nat} (hi : i < ns.length) (h : i ∉ useL r ns) : usW r ns i = useL r ns := by
  have e : useL r (outL ns i) = (List.range (ns.length - 1)).filter ((fun k => goodB r (bsL r (ns.take k)) (ns[k]?.getD 0)) ∘ shN i) := by
    unfold useL
    rw [outL_len hi]
    refine List.filter_congr fun k hk => ?_
    have hk := List.mem_range.mp hk
    rw [Function.comp_apply, bsL_out hi h k (by omega), out_sh hi]
  unfold usW
  rw [e, ← List.filter_map, range_sh hi, List.filter_filter]
  unfold useL
  refine List.filter_congr fun k hk => ?_
  by_cases z : k = i
  · subst z; rw [not_used hi h]; rfl
  · simp [z]
theorem useL_nodup (r : Rl) (ns : List Int) : (useL r ns).Nodup := List.nodup_range.filter _
theorem usW_nodup (r : Rl) (ns : List Int) (i : Nat) : (usW r ns i).Nodup := List.Pairwise.map (shN i) (fun _ _ h e => h (shN_inj e)) (useL_nodup r (outL ns i))
theorem usW_ne {r : Rl} {ns : List Int} {i p : Nat} (h : p ∈ usW r ns i) : p ≠ i := by
  obtain ⟨q, _, rfl⟩ := List.mem_map.mp h
  exact shN_ne i q
theorem gain_idle {r : Rl} {ns : List Int} {i : Nat} (hi : i < ns.length) (h : i ∉ useL r ns) : gainL r ns i = [] ∧ lostL r ns i = [] ∧ i ∈ idleL r ns := by
  have e := usW_idle hi h
  refine ⟨?_, ?_, ?_⟩
  · unfold gainL; rw [e]; exact List.filter_eq_nil_iff.mpr fun p hp => by simp [hp]
  · unfold lostL; rw [e]; exact List.filter_eq_nil_iff.mpr fun p hp => by simp [hp]
  · unfold idleL
    refine List.mem_filter.mpr ⟨List.mem_range.mpr hi, ?_⟩
    rw [e]
    refine decide_eq_true (List.filter_eq_self.mpr fun p hp => ?_).symm
    have : p ≠ i := fun z => h (z ▸ hp)
    simp [this]
theorem filt_two (p : Nat → Bool) : ∀ xs : List Nat, (xs.filter p).length + (xs.filter fun x => !p x).length = xs.length
  | [] => rfl
  | x :: xs => by
    have := filt_two p xs
    rw [List.filter_cons, List.filter_cons]
    cases p x <;> simp <;> omega
theorem filt_comm {xs ys : List Nat} (hx : xs.Nodup) (hy : ys.Nodup) : (xs.filter fun x => decide (x ∈ ys)).length = (ys.filter fun y => decide (y ∈ xs)).length := by
  refine List.Perm.length_eq (List.perm_iff_count.mpr fun a => ?_)
  have c1 := List.nodup_iff_count.mp (hx.filter fun x => decide (x ∈ ys)) a
  have c2 := List.nodup_iff_count.mp (hy.filter fun y => decide (y ∈ xs)) a
  by_cases h : a ∈ xs ∧ a ∈ ys
  · have m1 : a ∈ xs.filter fun x => decide (x ∈ ys) := List.mem_filter.mpr ⟨h.1, by simp [h.2]⟩
    have m2 : a ∈ ys.filter fun y => decide (y ∈ xs) := List.mem_filter.mpr ⟨h.2, by simp [h.1]⟩
    have := List.count_pos_iff.mpr m1
    have := List.count_pos_iff.mpr m2
    omega
  · have m1 : a ∉ xs.filter fun x => decide (x ∈ ys) := fun m => h ⟨(List.mem_filter.mp m).1, by simpa using (List.mem_filter.mp m).2⟩
    have m2 : a ∉ ys.filter fun y => decide (y ∈ xs) := fun m => h ⟨by simpa using (List.mem_filter.mp m).2, (List.mem_filter.mp m).1⟩
    rw [List.count_eq_zero_of_not_mem m1, List.count_eq_zero_of_not_mem m2]
/-- without a used press: one use is won more than is lost, at most -/
theorem gain_used {r : Rl} (ok : RlOk r) {ns : List Int} (hA : AscP ns) {i : Nat} (hi : i < ns.length) (h : i ∈ useL r ns) : (gainL r ns i).length = (lostL r ns i).length ∨ (gainL r ns i).length = (lostL r ns i).length + 1 := by
  have ho := out_range ok hA hi
  rw [← useL_len ok hA, ← useL_len ok (sub_ascP (outL_sub ns i) hA)] at ho
  have lw : (usW r ns i).length = (useL r (outL ns i)).length := by unfold usW; rw [List.length_map]
  have g1 := filt_two (fun p => decide (p ∈ useL r ns)) (usW r ns i)
  have g2 := filt_two (fun p => decide (p ∈ usW r ns i)) (useL r ns)
  have g3 := filt_comm (usW_nodup r ns i) (useL_nodup r ns)
  have g4 := filt_two (fun p => decide (p = i)) ((useL r ns).filter fun p => !decide (p ∈ usW r ns i))
  have e4 : ((useL r ns).filter fun p => !decide (p ∈ usW r ns i)).filter (fun p => decide (p = i)) = [i] := by
    have hc : ((useL r ns).filter fun p => !decide (p ∈ usW r ns i)).Nodup := (useL_nodup r ns).filter _
    have hm : i ∈ (useL r ns).filter fun p => !decide (p ∈ usW r ns i) := List.mem_filter.mpr ⟨h, by
      have : i ∉ usW r ns i := fun z => usW_ne z rfl
      simp [this]⟩
    have := hc.filter fun p => decide (p = i)
    have hall : ∀ p ∈ ((useL r ns).filter fun p => !decide (p ∈ usW r ns i)).filter (fun p => decide (p = i)), p = i := fun p hp => by simpa using (List.mem_filter.mp hp).2
    have hm2 : i ∈ ((useL r ns).filter fun p => !decide (p ∈ usW r ns i)).filter (fun p => decide (p = i)) := List.mem_filter.mpr ⟨hm, by simp⟩
    match hq : ((useL r ns).filter fun p => !decide (p ∈ usW r ns i)).filter (fun p => decide (p = i)), this, hall, hm2 with
    | [], _, _, m => cases m
    | [a], _, al, _ => rw [al a List.mem_cons_self]
    | a :: b :: _, nd, al, _ =>
      rw [al a List.mem_cons_self, al b (List.mem_cons_of_mem _ List.mem_cons_self)] at nd
      exact absurd List.mem_cons_self (List.nodup_cons.mp nd).1
  have e5 : ((useL r ns).filter fun p => !decide (p ∈ usW r ns i)).filter (fun p => !decide (p = i)) = lostL r ns i := by
    unfold lostL
    rw [List.filter_filter]
    refine List.filter_congr fun p _ => Bool.and_comm _ _
  rw [e4, e5] at g4
  have e6 : (usW r ns i).filter (fun p => !decide (p ∈ useL r ns)) = gainL r ns i := rfl
  rw [e6] at g1
  simp only [List.length_cons, List.length_nil] at g4
  omega
theorem usL_le (r : Rl) (ns : List Int) : (useL r ns).length ≤ ns.length := by
  have := (List.filter_sublist (p := fun k => goodB r (bsL r (ns.take k)) (ns[k]?.getD 0)) (l := List.range ns.length)).length_le
  rwa [List.length_range] at this
theorem usW_le (r : Rl) {ns : List Int} {i : Nat} (hi : i < ns.length) : (usW r ns i).length ≤ ns.length := by
  unfold usW
  have := usL_le r (outL ns i)
  rw [outL_len hi] at this
  rw [List.length_map]; omega
theorem nat_dec (a b : Nat) : decide (((a : Nat) : Int) = ((b : Nat) : Int)) = decide (a = b) := by
  by_cases h : a = b
  · subst h; simp
  · rw [decide_eq_false h, decide_eq_false (by omega)]
/-! ### what the defs promise -/
def sp_used_without : SpD := fun rs P _ => ∃ (r : Rl) (ns : List Int) (i : Nat), rs = [.fz (rD r), .fz (tI ns), .fz (.int (i : Nat))] ∧ i < ns.length ∧ ns.length ≤ 1000 ∧ ∀ af, P (.ls ((usW r ns i).map fun k => .int (k : Nat))) af
def sp_without : SpD := fun rs P _ => ∃ (r : Rl) (ns : List Int) (i : Nat), rs = [.fz (rD r), .fz (tI ns), .fz (.int (i : Nat))] ∧ RlOk r ∧ RowOk ns ∧ i < ns.length ∧
  ∀ af, P (.fz (.tuple [.list ((gainL r ns i).map fun k => .int (k : Nat)), .list ((lostL r ns i).map fun k => .int (k : Nat))])) af
def sp_idle_presses : SpD := fun rs P _ => ∃ (r : Rl) (ns : List Int), rs = [.fz (rD r), .fz (tI ns)] ∧ RlOk r ∧ RowOk ns ∧ ∀ af, P (.ls ((idleL r ns).map fun k => .int (k : Nat))) af
end LW

namespace DL
open PySem PySem.Spec PyProof.Rows L2 GenW
section
variable {M : Model} {A : Around} {R : GenEnd} {Y : Protocol} {n : Nat} {s₀ s : Shared} {c : Code} {fs : List Frame} {env : Env} {K : Flow → Sem PySem.Fin} {J : Value → Sem PySem.Fin} {gd : Bool → Bool} {lv : List Value → List Value}
theorem seg_For {target iter : Expr} {body : List Stmt} {pos : Pos}
    (h : wpAny M (A.over c fs) (eval iter env) (fun x s1 => wpAny M (A.over c fs) (pyIter x) (fun it s2 => ∀ p, Seg M A R Y n s₀ (.forLoop target it body [] env) (M.den (.forLoop target it body [] env))
      (.ret (fun r => ((match r with | .ok f => (.pure f : Sem Flow) | .error e => .raise e).onRaise (cameBack env)).wrap K J gd lv) none (gd false) (lv []) c p [] :: fs) s2) (fun _ _ => False) s1) (fun _ _ => False) s)
    (hs : ∀ x, foldedSetIterable iter env x = pure x) : Seg M A R Y n s₀ c ((exec (.For target iter body [] pos) env).wrap K J gd lv) fs s := by
  rw [exec_For]
  refine seg_bind_wrap (wpAny_standAt ?_)
  refine seg_bind_wrap (wpAny_mono h (fun x s1 h1 => ?_) fun _ _ z => z.elim)
  rw [hs]
  refine seg_bind_wrap (wpAny_pure ?_)
  refine seg_bind_wrap (wpAny_standAt ?_)
  refine seg_bind_wrap (wpAny_holding (wpAny_mono h1 (fun it s2 h2 => ?_) fun _ _ z => z.elim))
  exact seg_call h2
end
section
variable {prog : Program} {w : World} {A : Around} {R : GenEnd} {Y : Protocol} {n : Nat} {s₀ s : Shared} {fs : List Frame} {env : Env}
abbrev afterTurn (target : Expr) (it : Value) (body : List Stmt) (env : Env) (f : Flow) : Sem PySem.Fin := match f with
  | .next | .cont => .pure (.again (.forLoop target it body [] env))
  | .brk => .pure (.done .next)
  | .ret v => .pure (.done (.ret v))
abbrev goneBy (env : Env) (e : Value) : Sem PySem.Fin := (do noteFrame e env; theTreesLotGoes e : Sem Unit).wrap (fun _ => .raise e) .raise id id
theorem seg_forLoop {target : Expr} {it : Value} {body : List Stmt}
    (h : wpAny (model prog w) (A.over (.forLoop target it body [] env) fs) (pyNext it) (fun r s1 => match r with
      | none => Seg (model prog w) A R Y n s₀ (.block [] env) ((model prog w).den (.block [] env)) fs s1
      | some v => wpAny (model prog w) (A.over (.forLoop target it body [] env) fs) (letOwnedTupleGo target it v) (fun _ s2 => wpAny (model prog w) (A.over (.forLoop target it body [] env) fs) (assign target env v) (fun _ s3 =>
          Seg (model prog w) A R Y n s₀ (.forLoop target it body [] env) ((execs body env).wrap (afterTurn target it body env) (goneBy env) id id) fs s3) (fun _ _ => False) s2) (fun _ _ => False) s1) (fun _ _ => False) s) :
    Seg (model prog w) A R Y n s₀ (.forLoop target it body [] env) ((model prog w).den (.forLoop target it body [] env)) fs s := by
  show Seg _ A R Y n s₀ _ ((forTurn target it body [] env).onRaise (fun x => do noteFrame x env; theTreesLotGoes x)) fs s
  unfold forTurn
  rw [Sem.onRaise_eq_wrap]
  refine seg_bind_wrap (wpAny_standAt ?_)
  refine seg_bind_wrap (wpAny_onRaise (wpAny_mono h (fun r s1 hr => ?_) fun _ _ z => z.elim))
  cases r with
  | none => exact seg_again rfl hr
  | some v =>
    refine seg_bind_wrap (wpAny_mono hr (fun _ s2 h2 => ?_) fun _ _ z => z.elim)
    refine seg_bind_wrap (wpAny_mono h2 (fun _ s3 h3 => ?_) fun _ _ z => z.elim)
    rw [Sem.bind_eq_wrap', Sem.wrap_wrap]
    rw [Sem.wrap_congr (execs body env) _ _ (K' := afterTurn target it body env) (H' := goneBy env) (fun f => by cases f <;> rfl)
      (fun e => by first | exact Sem.bind_eq_wrap _ _ | (show (do noteFrame e env; theTreesLotGoes e : Sem Unit).bind (fun _ => .raise e) = _; rw [Sem.bind_eq_wrap]))]
    exact h3
theorem seg_block0 (h : Seg (model prog w) A R Y n s₀ (.block [] env) (.pure (.done .next)) fs s) : Seg (model prog w) A R Y n s₀ (.block [] env) ((model prog w).den (.block [] env)) fs s := h
end
section
variable {X : Cx}
theorem gi_nox {S : Addr} {ip : List (Addr × Obj)} {ys : List V} {σ : L2.St} {H : Hp} {s : Shared} (h : GI X.nox S ip ys σ H s) : GI X S ip ys σ H s := by
  obtain ⟨acc, c, r, I⟩ := h
  exact ⟨acc, c, r, I.unwish⟩
def tGFor (wi : TI) (g : TG) (tb : TGn) : TGn := fun D ys σ H => wi σ H fun J H1 => ∃ W : Nat → Nat → List V → L2.St → Hp → Prop, (∃ m, W 0 m ys σ H1) ∧ ∀ i m ys σ H, W i m ys σ H →
  (J.stop i H ∧ D.nx ys σ H) ∨ (J.go i H ∧ ∃ N : List V → L2.St → Hp → Prop, (∀ ys' σ' H', N ys' σ' H' → ∃ m', m' < m ∧ W (i + 1) m' ys' σ' H') ∧ ∀ v H', J.yld i H v H' → g v σ H' fun σ2 H2 => tb { D with nx := N, ct := N, bk := D.nx } ys σ2 H2)
theorem fp_addr {pins pins' : List (Addr × Obj)} {H H' : Hp} {b : Addr} (h : FpOk X pins H b) (hn : H' b = none) (hp : ∀ p ∈ pins', ∃ q ∈ pins, q.1 = p.1) : FpOk X pins' H' b := by
  unfold FpOk at h ⊢
  obtain ⟨h0, h1, h2, h3, h4, h5⟩ := h
  refine ⟨hn, h1, h2, h3, h4, fun p hm => ?_⟩
  rcases List.mem_append.mp hm with hm | hm
  · exact h5 p (List.mem_append_left _ hm)
  · obtain ⟨q, hq, e⟩ := hp p hm
    rw [← e]; exact h5 q (List.mem_append_right _ hq)
theorem gs_for {tg iter : Expr} {body : List Stmt} {pos : Pos} {wi : TI} {g : TG} {tb : TGn} (hp : PassesOwn (model X.prog X.w) X.A X.env X.xe) (hc : X.calm = true) (hi : PI X.nox tg iter wi) (hg : PG X.nox tg g) (hb : GSs X body tb)
    (hs : ∀ x, foldedSetIterable iter X.env x = pure x := by intro _; rfl) : GS X (.For tg iter body [] pos) (tGFor wi g tb) := by
  refine ⟨fun A S ip R n ys s₀ c fs K J gd lv s σ H D g0 hn k hI ht => ?_⟩
  obtain ⟨acc, cc, r, I⟩ := hI
  refine seg_For (h := ?_) hs
  rw [g0.over]
  refine wpAny_mono (hi.run _ s σ H _ (I.wish _) ht) (fun v s1 h1 => wpAny_mono h1 (fun itv s2 h2 p => ?_) fun _ _ z => z.elim) fun _ _ z => z.elim
  obtain ⟨it, fp, tn, Jt, H2, rfl, I2, T, st2, f2, W, ⟨m0, w0⟩, turn⟩ := h2
  have gl := fun (kk : Result → Sem PySem.Fin) => gc_loop (k := kk) (c' := .forLoop tg (.ref it) body [] X.env) (l := lv []) (kp := []) (p := p) g0 rfl rfl
  have fS : ∀ b ∈ fp, S ≠ b := fun b hb => by
    obtain ⟨_, _, _, _, _, h5⟩ := f2 b hb
    exact h5 (S, lstObj acc cc) (List.mem_append_right _ List.mem_cons_self)
  have loop : ∀ (m i n : Nat) (ys : List V) (s₀ s : Shared) (σ : L2.St) (H : Hp), n + ys.length = sizeLine → W i m ys σ H → GI X S ip ys σ H s → tn i s.heap → (∀ b ∈ fp, H b = none) →
      Seg (model X.prog X.w) A R (GY X S) n s₀ (.forLoop tg (.ref it) body [] X.env) ((model X.prog X.w).den (.forLoop tg (.ref it) body [] X.env))
        (.ret (fun r => ((match r with | .ok f => (.pure f : Sem Flow) | .error e => .raise e).onRaise (cameBack X.env)).wrap K J gd lv) none (gd false) (lv []) c p [] :: fs) s := by
    intro m
    induction m using Nat.strongRecOn with
    | ind m ih =>
      intro i n ys s₀ s σ H hn w hI st fr
      obtain ⟨acc3, c3, r3, I3⟩ := hI
      have stat : ∀ {H' : Hp}, (∀ b ∈ fp, H' b = none) → ∀ b ∈ fp, FpOk X.nox ((S, lstObj acc3 c3) :: ip) H' b := fun hn b hb => fp_addr (f2 b hb) (hn b hb) fun q hq => by
        rcases List.mem_cons.mp hq with hq | hq
        · exact ⟨(S, lstObj acc cc), List.mem_cons_self, by rw [hq]⟩
        · exact ⟨q, List.mem_cons_of_mem _ hq, rfl⟩
      have ee : ∀ (n : Nat) (s₀ : Shared) (x : Value) (s' : Shared), X.xe x s' → Seg (model X.prog X.w) A R (GY X S) n s₀ (.forLoop tg (.ref it) body [] X.env) (goneBy X.env x)
          (.ret (fun r => ((match r with | .ok f => (.pure f : Sem Flow) | .error e => .raise e).onRaise (cameBack X.env)).wrap K J gd lv) none (gd false) (lv []) c p [] :: fs) s' := fun n s₀ x s' hx => by
        refine seg_wrap ?_
        rw [(gl _).over]
        refine wpAny_bind (wpAny_mono (hp x s' hx) (fun _ s'' hcb => wpAny_theTreesLotGoes ?_) fun y s'' hcb => ?_)
        · exact seg_leaf (.error x) (seg_cameBack g0 k hcb)
        · exact seg_leaf (.error y) (seg_cameBack g0 k hcb)
      refine seg_forLoop ?_
      rw [(gl _).over]
      rcases turn i m ys σ H w with ⟨stop, qn⟩ | ⟨go, N, hN, step⟩
      · refine wpAny_mono (T.done X.nox rfl rfl rfl hc i _ s σ H (fun _ _ => False) (I3.wish _) (stat fr) st stop) (fun r s4 ⟨hr, I4⟩ => ?_) fun _ _ z => z.elim
        subst hr
        exact seg_block0 (seg_leaf (.ok .next) (k.ok n ys s₀ s4 .next hn ⟨σ, H, ⟨acc3, c3, r3, I4.unwish⟩, qn⟩))
      · refine wpAny_mono (T.item X.nox rfl rfl rfl hc i _ s σ H (fun _ _ => False) (I3.wish _) (stat fr) st go) (fun r s4 ⟨u, hr, h4⟩ => ?_) fun _ _ z => z.elim
        subst hr
        refine wpAny_mono h4 (fun _ s5 ⟨x, H5, I5, r5, y5, st5, fr5⟩ => ?_) fun _ _ z => z.elim
        have I5' := I5.pinned (stat fr5) (T.obj _ _ st5)
        refine wpAny_mono (hg.run _ s5 σ H5 x u _ I5' r5 (step x H5 y5)) (fun _ s6 ⟨σ6, H6, I6, q6⟩ => ?_) fun _ _ z => z.elim
        have G6 : GI X S (ip ++ pinsAt fp s5.heap) ys σ6 H6 s6 := ⟨acc3, c3, r3, I6.unwish⟩
        have fq : ∀ q ∈ ip ++ pinsAt fp s5.heap, q.1 ≠ S := fun q hq => (List.mem_append.mp hq).elim (fun z => g0.ip q z) fun z => Ne.symm (fS _ (of_pinsAt z).1)
        have gc : ∀ kk : Result → Sem PySem.Fin, GC X S (ip ++ pinsAt fp s5.heap) A (.forLoop tg (.ref it) body [] X.env) (.ret kk none (gd false) (lv []) c p [] :: fs) id := fun kk => ⟨(gl kk).pn, fq, (gl kk).apart, (gl kk).over, (gl kk).split, (gl kk).guard, (gl kk).gd⟩
        refine hb.run A S _ R n ys s₀ _ _ _ _ id id s6 σ6 H6 { D with nx := N, ct := N, bk := D.nx } (gc _) hn ⟨fun n' ys' s₀' s7 f hn' hs7 => ?_, fun n' s₀' x s7 hx => ee n' s₀' x s7 hx⟩ G6 q6
        have less : ∀ {ys' : List V} {σ7 : L2.St} {H7 : Hp}, GI X S (ip ++ pinsAt fp s5.heap) ys' σ7 H7 s7 → GI X S ip ys' σ7 H7 s7 ∧ tn (i + 1) s7.heap ∧ ∀ b ∈ fp, H7 b = none := fun {ys' σ7 H7} G7 => by
          obtain ⟨acc7, c7, r7, I7⟩ := G7
          have pin7 : ∀ q ∈ pinsAt fp s5.heap, s7.heap.get? q.1 = some q.2 ∧ H7 q.1 = none := fun q hq => by
            have := I7.pin q (List.mem_append_right _ (List.mem_cons_of_mem _ (List.mem_append_right _ hq)))
            exact ⟨this.1, this.2.1⟩
          refine ⟨⟨acc7, c7, r7, I7.pins_of fun q hq => I7.pin q (List.mem_append_right _ ?_)⟩, T.keep _ _ _ st5 fun b hb o e => (pin7 (b, o) (mem_pinsAt hb e)).1, fun b hb => ?_⟩
          · rcases List.mem_cons.mp hq with hq | hq
            · rw [hq]; exact List.mem_cons_self
            · exact List.mem_cons_of_mem _ (List.mem_append_left _ hq)
          · obtain ⟨o, e, _⟩ := T.obj _ _ st5 b hb
            exact (pin7 (b, o) (mem_pinsAt hb e)).2
        cases f with
        | next =>
          obtain ⟨σ7, H7, G7, n7⟩ := hs7
          obtain ⟨m', hm, w7⟩ := hN ys' σ7 H7 n7
          obtain ⟨a1, a2, a3⟩ := less G7
          exact seg_again rfl (ih m' hm (i + 1) n' ys' s₀' s7 σ7 H7 hn' w7 a1 a2 a3)
        | cont =>
          obtain ⟨σ7, H7, G7, n7⟩ := hs7
          obtain ⟨m', hm, w7⟩ := hN ys' σ7 H7 n7
          obtain ⟨a1, a2, a3⟩ := less G7
          exact seg_again rfl (ih m' hm (i + 1) n' ys' s₀' s7 σ7 H7 hn' w7 a1 a2 a3)
        | brk =>
          obtain ⟨σ7, H7, G7, q7⟩ := hs7
          exact seg_leaf (.ok .next) (k.ok n' ys' s₀' s7 .next hn' ⟨σ7, H7, (less G7).1, q7⟩)
        | ret v =>
          obtain ⟨x7, σ7, H7, G7, rv7, q7⟩ := hs7
          exact seg_leaf (.ok (.ret v)) (k.ok n' ys' s₀' s7 (.ret v) hn' ⟨x7, σ7, H7, (less G7).1, rv7, q7⟩)
  exact loop m0 0 n ys s₀ s2 σ H2 hn w0 ⟨acc, cc, r, I2.unwish⟩ st2 fun b hb => (f2 b hb).1
end
end DL

namespace DL
open PySem PySem.Spec PyProof.Rows L2 GenW
/-! ### a generator def on data: what is out so far is a list of data -/
abbrev DGn := (List PyData → DSt → Prop) → List PyData → DSt → Prop
def lGn (G : Fx) (t : DGn) : TGn := fun D ys σ H => ∃ Hf ω ρ Nx ds, RepF G Hf H ω σ ρ ∧ DdAll G.K Hf ys ds ∧ t Nx ds ρ ∧
  ∀ ys' σ' H' Hf' ω' ρ' ds', RepF G Hf' H' ω' σ' ρ' → Stp Hf H ω Hf' H' ω' → DdAll G.K Hf' ys' ds' → Nx ds' ρ' → D.nx ys' σ' H'
section
variable {X : Cx} {G : Fx} {st : Stmt} {rest body : List Stmt} {e tg iter : Expr} {pos yp : Pos}
theorem gs_imp {t t' : TGn} (h : GS X st t) (i : ∀ D ys σ H, t' D ys σ H → t D ys σ H) : GS X st t' := ⟨fun A S ip R n ys s₀ c fs K J gd lv s σ H D g hn k hI ht => h.run A S ip R n ys s₀ c fs K J gd lv s σ H D g hn k hI (i _ _ _ _ ht)⟩
theorem gss_imp {t t' : TGn} (h : GSs X rest t) (i : ∀ D ys σ H, t' D ys σ H → t D ys σ H) : GSs X rest t' := ⟨fun A S ip R n ys s₀ c fs K J gd lv s σ H D g hn k hI ht => h.run A S ip R n ys s₀ c fs K J gd lv s σ H D g hn k hI (i _ _ _ _ ht)⟩
theorem ps_nox {t : TS} (h : PS X.nox st t) : PS X st t := ⟨fun pins s σ H D I hw => wpAny_mono (h.run pins s σ H D (I.wish _) hw) (fun _ _ q => q.unwish) fun _ _ z => False.elim z⟩
def gnPl (t : DTS) : DGn := fun Nx ds ρ => t { nx := fun ρ' => Nx ds ρ', rt := fun _ _ => False } ρ
theorem gn_ps {t : DTS} (h : DS X.nox G st t) : GS X st (lGn G (gnPl t)) := gs_imp (gs_ps (ps_nox h)) fun D ys σ H ⟨Hf, ω, ρ, Nx, ds, rep, dd, ht, k⟩ =>
  ⟨Hf, ω, ρ, _, rep, ht, fun σ' H' Hf' ω' ρ' rep' st' q => k ys σ' H' Hf' ω' ρ' ds rep' st' (st'.fz.dpAll dd) q, fun _ _ _ _ _ _ _ _ z => z.elim, fun _ _ _ _ _ _ _ z => z.elim, fun _ _ _ _ _ _ _ z => z.elim⟩
def gnYd (te : DTE) : DGn := fun Nx ds ρ => ds.length < 100000 ∧ te ρ fun d ρ' => Nx (ds ++ [d]) ρ'
theorem gn_yield {te : DTE} (he : DE X.nox G e te) (hco : X.env.scope.isCoroutine = false := by rfl) (hi : interactive X.env = false := by rfl) : GS X (.Expr (.Yield (some e) yp) pos) (lGn G (gnYd te)) :=
  gs_imp (gs_yield (PE.nox he) hco hi) fun D ys σ H ⟨Hf, ω, ρ, Nx, ds, rep, dd, ⟨hl, ht⟩, k⟩ =>
  ⟨szl (by rw [dd.len]; exact hl), Hf, ω, ρ, _, rep, ht, fun v H' Hf' ω' ρ' d rep' st' hv q => k _ σ H' Hf' ω' ρ' _ rep' st' ((st'.fz.dpAll dd).app (.cons hv .nil)) q⟩
def gn0 : DGn := fun Nx ds ρ => Nx ds ρ
theorem gn_nil : GSs X [] (lGn G gn0) := gss_imp gss_nil fun D ys σ H ⟨Hf, ω, ρ, Nx, ds, rep, dd, ht, k⟩ => k ys σ H Hf ω ρ ds rep Stp.refl dd ht
def gnSq (t u : DGn) : DGn := fun Nx ds ρ => t (fun ds' ρ' => u Nx ds' ρ') ds ρ
theorem gn_cons {t u : DGn} (h : GS X st (lGn G t)) (hs : GSs X rest (lGn G u)) : GSs X (st :: rest) (lGn G (gnSq t u)) := gss_imp (gss_cons h hs) fun D ys σ H ⟨Hf, ω, ρ, Nx, ds, rep, dd, ht, k⟩ =>
  ⟨Hf, ω, ρ, _, ds, rep, dd, ht, fun ys' σ' H' Hf' ω' ρ' ds' rep' st' dd' q => ⟨Hf', ω', ρ', Nx, ds', rep', dd', q, fun ys2 σ2 H2 Hf2 ω2 ρ2 ds2 rep2 st2 dd2 q2 => k ys2 σ2 H2 Hf2 ω2 ρ2 ds2 rep2 (st'.trans st2) dd2 q2⟩⟩
def gnFor (ti : DTL) (g : DTG) (tb : DGn) : DGn := fun Nx ds ρ => ti ρ fun items ρ1 => ∃ I : Nat → List PyData → DSt → Prop, I 0 ds ρ1 ∧
  (∀ k d ds' ρ', items[k]? = some d → I k ds' ρ' → g d ρ' fun ρ2 => tb (I (k + 1)) ds' ρ2) ∧ ∀ ds' ρ', I items.length ds' ρ' → Nx ds' ρ'
theorem gn_for {js : List Nat} {ti : DTL} {g : DTG} {tb : DGn} (hp : PassesOwn (model X.prog X.w) X.A X.env X.xe) (hc : X.calm = true) (hi : DI X.nox G tg iter ti) (hg : DG X.nox G tg js g) (hb : GSs X body (lGn G tb))
    (hs : ∀ x, foldedSetIterable iter X.env x = pure x := by intro _; rfl) : GS X (.For tg iter body [] pos) (lGn G (gnFor ti g tb)) := gs_imp (gs_for hp hc hi hg hb hs) fun D ys σ H ⟨Hf, ω, ρ, Nx, ds, rep, dd, ht, k⟩ => by
  refine ⟨Hf, ω, ρ, _, rep, ht, fun J H1 Hf1 ω1 ρ1 items rep1 st1 wk ⟨I, i0, i1, i2⟩ => ?_⟩
  refine ⟨fun i m ys' σ' H' => m = items.length - i ∧ i ≤ items.length ∧ ∃ Hf' ω' ρ' ds', RepF G Hf' H' ω' σ' ρ' ∧ Stp Hf H ω Hf' H' ω' ∧ Ex Hf1 Hf' ∧ DdAll G.K Hf' ys' ds' ∧ I i ds' ρ', ⟨_, rfl, Nat.zero_le _, Hf1, ω1, ρ1, ds, rep1, st1, Ex.refl _, st1.fz.dpAll dd, i0⟩, ?_⟩
  rintro i m ys' σ' H' ⟨rfl, hi, Hf', ω', ρ', ds', rep', st', ex', dd', hI⟩
  by_cases hlt : i < items.length
  · refine .inr ⟨wk.go i H' hlt (ex'.trans rep'.ex), fun ys2 σ2 H2 => ∃ Hf2 ω2 ρ2 ds2, RepF G Hf2 H2 ω2 σ2 ρ2 ∧ Stp Hf H ω Hf2 H2 ω2 ∧ Ex Hf1 Hf2 ∧ DdAll G.K Hf2 ys2 ds2 ∧ I (i + 1) ds2 ρ2, fun ys2 σ2 H2 ⟨Hf2, ω2, ρ2, q⟩ => ⟨items.length - (i + 1), by omega, rfl, hlt, Hf2, ω2, ρ2, q⟩, fun x H2 hy => ?_⟩
    have hd : items[i]? = some items[i] := List.getElem?_eq_getElem hlt
    obtain ⟨Hf2, g2, hx⟩ := wk.yld i Hf' H' x H2 _ hd ex' rep'.ex hy
    refine ⟨Hf2, ω', ρ', _, items[i], g2.rep rep', hx, i1 i _ ds' ρ' hd hI, fun σ3 H3 Hf3 ω3 ρ3 rep3 st3 _ _ q3 => ?_⟩
    have S3 : Stp Hf H ω Hf3 H3 ω3 := (st'.trans (g2.stp rep')).trans st3
    have E3 : Ex Hf1 Hf3 := (ex'.trans g2.fz).trans st3.fz
    exact ⟨Hf3, ω3, ρ3, _, ds', rep3, (g2.fz.trans st3.fz).dpAll dd', q3, fun ys4 σ4 H4 Hf4 ω4 ρ4 ds4 rep4 st4 dd4 q4 => ⟨Hf4, ω4, ρ4, ds4, rep4, S3.trans st4, E3.trans st4.fz, dd4, q4⟩⟩
  · have e : i = items.length := by omega
    subst e
    exact .inl ⟨wk.stop H' (ex'.trans rep'.ex), k _ _ _ _ _ _ _ rep' st' dd' (i2 ds' ρ' hI)⟩
end
/-- what a generator def promises, on data -/
abbrev SpGD := List PyData → (List PyData → Prop) → Prop
def toSpG (L : Fn) (n : Nat) (sp : SpGD) : SpG := fun vs H cont _ => vs.length = n ∧ ∃ Hf ds P, Ex Hf H ∧ DdAll L Hf vs ds ∧ sp ds P ∧ ∀ ys H' Hf' ω' out, Ex Hf' H' → Stp Hf H (fun _ => none) Hf' H' ω' → DdAll L Hf' ys out → P out → cont ys H'
/-- a generator def that keeps a promise -/
structure CalG (P : Program) (w : World) (K : PySem.W.Frag) (mg : Str → Option Value) (base : Heap) (L : Fn) (k : Nat) (x : Str) (n : Nat) (sp : SpGD) : Prop where
  ex : ∃ (f : Addr) (fd : FuncData) (ps : List Str), GFn P w K mg base k f fd ps (toSpG L n sp) ∧ mg x = some (.ref f) ∧ PySem.W.keepIn K (.ref f) = true ∧ Binds K fd ps []
theorem calg_ok {P : Program} {w : World} {K : PySem.W.Frag} {mg : Str → Option Value} {base : Heap} {L : Fn} {x : Str} {st : Stmt} {N ps : List Str} {k : Nat} {sp : SpGD} (T : FnT K mg x st ps) (S : GScope N ps (defScope st))
    (hbody : ∀ (f : Addr) (cdv : Value) (A : Around) (outer : List Env) (s : Shared) (H : Hp) (vs : List V) (E : XK) (pn : List (Addr × Obj)) (ds : List PyData) (Pd : List PyData → Prop), vs.length = ps.length → Room k (A.deeper (envOfC x (defScope st) s.heap.objs.size f cdv)) → sp ds Pd →
      ∃ t, GSs (gcxOf P w K mg base N x (defScope st) f cdv A outer s H E pn) (defBody st) (lGn ⟨L, vs, []⟩ t) ∧ t (fun out _ => Pd out) [] (start0 N (ds.map Res.fz))) :
    CalG P w K mg base L (k + 1) x ps.length sp := by
  obtain ⟨f, fd, h1, h2, h3⟩ := T.ex
  obtain ⟨oc, od, kV, doc, pm, an, cdv, ct, osl, rfl, lk, hcd⟩ := h1.ex
  refine ⟨f, _, ps, gfn_of lk hcd S (fun vs H Q E h => h.1) (fun A outer s H vs Q E pn hr h => ?_), h2, h1.kp, h3⟩
  obtain ⟨hn, Hf, ds, Pd, ex, dd, hsp, hc⟩ := h
  obtain ⟨t, b1, b2⟩ := hbody f cdv A outer s H vs E pn ds Pd hn hr hsp
  refine ⟨_, b1, Hf, _, _, _, [], rep_start (rep_args ex dd) (fun _ hk => nomatch hk), .nil, b2, fun ys' σ' H' Hf' ω' ρ' ds' rep' st' dd' q => hc ys' H' Hf' ω' ds' rep'.ex st' dd' q⟩
section
variable {X : Cx} {G : Fx} {e : Expr} {es : List Expr} {tl : DTL} {n : Nat} {sp : SpGD}
def cListG (sp : SpGD) (tl : DTL) : DTR := fun ρ Q => tl ρ fun ds ρ1 => sp ds fun out => Q (.ls out) ρ1
theorem noStop0 {K : PySem.W.Frag} : NoStop K E0 := fun _ _ _ z => z.elim
theorem lR_listG {σ : L2.St} {H : Hp} {Q : VK} (h : lR G (cListG sp tl) σ H Q) : tListG (tCallG (toSpG G.K n sp) [] E0 (lD G n tl)) σ H Q := by
  obtain ⟨Hf, ω, ρ, Qd, rep, ht, k⟩ := h
  refine ⟨Hf, ω, ρ, _, rep, ht, fun vs H1 Hf1 ω1 ρ1 ds hl rep1 st1 hv q1 => ?_⟩
  show toSpG G.K n sp (vs ++ []) H1 _ E0
  rw [List.append_nil]
  refine ⟨by rw [hv.len, hl], Hf1, ds, _, rep1.ex, hv, q1, fun ys H2 Hf2 ω2 out ex2 st2 dd hP p hp => ?_⟩
  have repC : RepF G Hf2 H2 ω1 σ ρ1 := by
    refine ⟨ex2, fun b j w => ?_, rep1.len, rep1.fix, fun j r' w => ?_⟩
    · obtain ⟨z1, o, z2⟩ := rep1.own b j w
      exact ⟨st2.cap b o z2 rfl z1, o, st2.fr b o z2 rfl⟩
    · obtain ⟨u, u1, u2⟩ := rep1.slot j r' w
      refine ⟨u, u1, u2.mono st2.fz (fun b hb => ?_) fun _ z => z⟩
      obtain ⟨z1, o, z2⟩ := rep1.own b j hb
      rw [z2]; exact st2.fr b o z2 rfl
  have stC : Stp Hf1 H1 ω1 Hf2 H2 ω1 := ⟨st2.fz, fun b o q _ => st2.fr b o q rfl, st2.keep, fun b o q _ z => st2.cap b o q rfl z, fun b j w => .inl ⟨j, w⟩⟩
  obtain ⟨r2, s2, f2, v2⟩ := lay_ls (G := G) repC hp dd
  have st3 := st1.trans stC
  refine k _ _ _ _ _ _ _ r2 (st3.trans s2) (fun b hb => ?_) v2 hP
  obtain ⟨z1, z2, z3, z4⟩ := f2 b hb
  refine ⟨.inl ?_, z2, z3, z4⟩
  cases w : H b with
  | none => rfl
  | some o => obtain ⟨o', h'⟩ := st3.keep b o w; rw [z1] at h'; cases h'
/-- list(f(..)) of a generator def f -/
theorem dr_listG {x : Str} {p p2 pos pos2 : Pos} {j k : Nat} (C : CalG X.prog X.w X.K X.mg X.base G.K j x n sp) (hr : Room k X.A) (hxe : X.xe = fun _ _ => False) (hm : X.mg "list" = none) (ha : DD X G (e :: es) n tl) (hjk : j + 3 ≤ k := by decide) (hg : Gl X x := by rfl) (hg2 : Gl X "list" := by rfl)
    (hdb : (x == ("__debug__" : Str)) = false := by decide) (he : starEach (e :: es) X.env = (false, eval e X.env) :: starEach es X.env := by rfl) (hpl : (backTo pos2 (starEach es X.env)).any (·.1) = false := by rfl)
    (he2 : starEach [.Call (.Name x p2) (e :: es) [] pos2] X.env = (false, eval (.Call (.Name x p2) (e :: es) [] pos2) X.env) :: starEach [] X.env := by rfl) :
    DR X G (.Call (.Name "list" p) [.Call (.Name x p2) (e :: es) [] pos2] [] pos) (cListG sp tl) := by
  obtain ⟨f, fd, ps, a, b, c, d⟩ := C.ex
  refine pe_imp (pe_listG (E := E0) (pgen_call a (hr.mono (by omega)) hg b c d .nil ha hdb he hpl) (fun pins σ H s e s' I hc => ?_) noStop0 (hr.mono hjk) hg2 hm bt_list (he := he2)) fun _ _ _ h => lR_listG h
  obtain ⟨_, _, _, _, _, _, _, _, _, _, _, _, z⟩ := hc
  exact z.elim
end
end DL

/-! walking while an error is handled: lists, pairs, comprehensions -/
namespace DL
open PySem PySem.Spec PyProof.Rows L2 HotX L2H
section
variable {prog : Program} {w : World} {A : Around} {E : Value → Shared → Prop} {s : Shared}
theorem listEndH {it l x1 : Addr} {i : Nat} {items} {Q : Option Value → Shared → Prop} (hot : HotAt A x1 s.heap) (hx1 : x1 ≠ it) (hit : s.heap.IsListIter it l i) (hl : s.heap.IsList l items) (hx : items[i]? = none)
    (hQ : ∀ h', Heap.ExtBut it s.heap h' → Q none { s with heap := h' }) : wpAny (model prog w) A (pyNext (.ref it)) Q E s := by
  obtain ⟨u, hu, uc, ud⟩ := id hit
  obtain ⟨ul, hul, _, un, udl⟩ := hl
  obtain ⟨hh, ox, xs, hox, dx, cx⟩ := hot
  unfold pyNext
  refine wpAny_bind (wpAny_attempt (wpAny_callSpecial?_slot (name := Str.ofString "__next__") hit.typeIs slot_listiter_next (wpAny_call_entry slot_listiter_next hit.typeIs entry_listiter_next ?_ (args_listiter_next _))))
  show wpAny _ _ (field (.ref it) 0 >>= _) _ _ _
  refine wpAny_bind (wpAny_field hu ud (x := .ref l) rfl ?_)
  show wpAny _ _ (if (Value.ref l == Value.none) = true then _ else _) _ _ _
  rw [if_neg (show ¬ ((Value.ref l == Value.none) = true) from fun z => Bool.noConfusion z)]
  show wpAny _ _ (field (.ref it) 1 >>= _) _ _ _
  refine wpAny_bind (wpAny_field hu ud (x := .int i 0) rfl ?_)
  show wpAny _ _ (seqItems? (.ref l) >>= _) _ _ _
  refine wpAny_bind (wpAny_seqItems hul udl ?_)
  simp only [hx, Int.toNat_natCast]
  refine wpAny_bind (wpAny_rule (wpAny_bind (wpAny_setField hu ud (by simp) ?_)))
  have gx : (s.heap.update it (Obj.mapFields fun x => x.setIfInBounds 0 Value.none)).get? x1 = some ox := by
    rw [Heap.get?_update_other _ _ hx1.symm]; exact hox
  refine wpAny_bind (m := newExc (.type "StopIteration") []) ?_
  simp only [newTuple, newExc]
  refine wpAny_bind (wpAny_newObj_type ?_ (by size_fits))
  refine wpAny_bind (m := firstArgMember _ _) (wpAny_of_eq (a := Value.none) (by first | (simp only [firstArgMember]; rfl) | rfl) ?_)
  refine wpAny_newObj_type ?_ (by size_fits)
  refine raiseNew_hot (x1 := x1) ⟨hh, ox, xs, Heap.get?_push_of_some _ (Heap.get?_push_of_some _ gx), dx, cx⟩ (Nat.ne_of_lt (Heap.lt_size (Heap.get?_push_of_some _ gx))) (Heap.get?_push_size _ rfl) rfl (by first | (simp; done) | (simp; omega) | (simp only [Array.size_append]; simp; omega)) ?_
  refine wpAny_bind (wpAny_isInstance (b := true) (T := "StopIteration") ⟨_, Heap.get?_update_self _ (Heap.get?_push_size _ rfl) rfl, rfl⟩ isSubtype_stop ?_)
  refine wpAny_pure (hQ _ fun b v hb e => ?_)
  have e1 : (s.heap.update it (Obj.mapFields fun x => x.setIfInBounds 0 Value.none)).get? b = some v := by
    rw [Heap.get?_update_other _ _ (Ne.symm hb)]; exact e
  rw [Heap.get?_update_other _ _ (Nat.ne_of_gt (Heap.lt_size (Heap.get?_push_of_some _ e1)))]
  exact Heap.get?_push_of_some _ (Heap.get?_push_of_some _ e1)
theorem tupEndH {it t x1 : Addr} {i : Nat} {items} {Q : Option Value → Shared → Prop} (hot : HotAt A x1 s.heap) (hx1 : x1 ≠ it) (hit : IsTupIter s.heap it t i) (ht : IsTup s.heap t items) (hx : items[i]? = none)
    (hQ : ∀ h', Heap.ExtBut it s.heap h' → Q none { s with heap := h' }) : wpAny (model prog w) A (pyNext (.ref it)) Q E s := by
  obtain ⟨u, hu, uc, ud⟩ := id hit
  obtain ⟨ul, hul, _, un, udl⟩ := ht
  obtain ⟨hh, ox, xs, hox, dx, cx⟩ := hot
  unfold pyNext
  refine wpAny_bind (wpAny_attempt (wpAny_callSpecial?_slot (name := Str.ofString "__next__") hit.typeIs slot_tupleiter_next (wpAny_call_entry slot_tupleiter_next hit.typeIs entry_tupleiter_next ?_ (args_tupleiter_next _))))
  show wpAny _ _ (field (.ref it) 0 >>= _) _ _ _
  refine wpAny_bind (wpAny_field hu ud (x := .ref t) rfl ?_)
  show wpAny _ _ (if (Value.ref t == Value.none) = true then _ else _) _ _ _
  rw [if_neg (show ¬ ((Value.ref t == Value.none) = true) from fun z => Bool.noConfusion z)]
  show wpAny _ _ (field (.ref it) 1 >>= _) _ _ _
  refine wpAny_bind (wpAny_field hu ud (x := .int i 0) rfl ?_)
  show wpAny _ _ (seqItems? (.ref t) >>= _) _ _ _
  refine wpAny_bind (wpAny_seqItems hul udl ?_)
  simp only [hx, Int.toNat_natCast]
  refine wpAny_bind (wpAny_rule (wpAny_bind (wpAny_setField hu ud (by simp) ?_)))
  have gx : (s.heap.update it (Obj.mapFields fun x => x.setIfInBounds 0 Value.none)).get? x1 = some ox := by
    rw [Heap.get?_update_other _ _ hx1.symm]; exact hox
  refine wpAny_bind (m := newExc (.type "StopIteration") []) ?_
  simp only [newTuple, newExc]
  refine wpAny_bind (wpAny_newObj_type ?_ (by size_fits))
  refine wpAny_bind (m := firstArgMember _ _) (wpAny_of_eq (a := Value.none) (by first | (simp only [firstArgMember]; rfl) | rfl) ?_)
  refine wpAny_newObj_type ?_ (by size_fits)
  refine raiseNew_hot (x1 := x1) ⟨hh, ox, xs, Heap.get?_push_of_some _ (Heap.get?_push_of_some _ gx), dx, cx⟩ (Nat.ne_of_lt (Heap.lt_size (Heap.get?_push_of_some _ gx))) (Heap.get?_push_size _ rfl) rfl (by first | (simp; done) | (simp; omega) | (simp only [Array.size_append]; simp; omega)) ?_
  refine wpAny_bind (wpAny_isInstance (b := true) (T := "StopIteration") ⟨_, Heap.get?_update_self _ (Heap.get?_push_size _ rfl) rfl, rfl⟩ isSubtype_stop ?_)
  refine wpAny_pure (hQ _ fun b v hb e => ?_)
  have e1 : (s.heap.update it (Obj.mapFields fun x => x.setIfInBounds 0 Value.none)).get? b = some v := by
    rw [Heap.get?_update_other _ _ (Ne.symm hb)]; exact e
  rw [Heap.get?_update_other _ _ (Nat.ne_of_gt (Heap.lt_size (Heap.get?_push_of_some _ e1)))]
  exact Heap.get?_push_of_some _ (Heap.get?_push_of_some _ e1)
/-- a, b = a tuple, an error being handled -/
theorem unpackH {t x1 : Addr} {items : Array Value} {targets : List (Bool × (Value → Sem Unit))} {Q : Unit → Shared → Prop} (hot : HotAt A x1 s.heap) (ht : IsTup s.heap t items) (hn : targets.length = items.size) (hstar : targets.findIdx? (·.1) = none)
    (h : ∀ h', Heap.ExtBut s.heap.objs.size s.heap h' → wpAny (model prog w) A (assignInOrder (targets.map (·.2)) items.toList) Q E { s with heap := h' }) : wpAny (model prog w) A (unpack (.ref t) targets) Q E s := by
  have hlt : t ≠ s.heap.objs.size := by obtain ⟨o, ho, _⟩ := ht; exact Nat.ne_of_lt (Heap.lt_size ho)
  obtain ⟨hh, ox, xs, hox, dx, cx⟩ := hot
  have hx1 : x1 ≠ s.heap.objs.size := Nat.ne_of_lt (Heap.lt_size hox)
  unfold unpack
  rw [hn, hstar]
  refine wpAny_bind (wpAny_holding ?_)
  unfold unpackItems notIterableAtAll
  refine wpAny_bind (wpAny_bind (wpAny_specialOf ht.typeIs slot_tuple_iter.lookup (wpAny_pure ?_)))
  simp only [if_false, Bool.false_eq_true]
  refine wpAny_bind (wpAny_holding (iter_tuple ht ?_))
  refine wpAny_bind (wpAny_holding (draw_tuple hlt items.size 0 _ _ ⟨_, Heap.get?_push_size _ rfl, rfl, rfl⟩ (ht.push _) (by omega) fun h1 it1 sb1 => ?_))
  have hall : List.take items.size (List.drop 0 items.toList) = items.toList := by
    rw [List.drop_zero]; exact List.take_of_length_le (by simp)
  rw [hall, if_neg (by simp)]
  have gx : h1.get? x1 = some ox := sb1.extBut x1 ox hx1 (Heap.get?_push_of_some _ hox)
  refine wpAny_bind (wpAny_holding (tupEndH (x1 := x1) ⟨hh, ox, xs, gx, dx, cx⟩ hx1 it1 ((ht.push _).extBut sb1.extBut hlt) (by simp) fun h2 eb => ?_))
  simp only [Option.isSome_none, if_false, Bool.false_eq_true]
  exact wpAny_pure (h h2 fun b o hb e => eb b o hb (sb1.extBut b o hb (Heap.get?_push_of_some _ e)))
end
section
variable {X : Cx} {pos : Pos}
theorem pg_tupH {es : List Expr} {k : Nat} {t : TGs} {n : Nat} (hc : HotC X) (h : PGs X es t) (hn : (assignEach es X.env).length = n := by rfl) (hst : (assignEach es X.env).findIdx? (·.1) = none := by rfl) : PG X (.Tuple es k pos) (gTup X.K n t) := by
  refine ⟨fun pins s σ H v u Q I r ⟨a, xs, e1, hq, hl, hw⟩ => ?_⟩
  subst e1
  cases r
  obtain ⟨its, rv, ht, hz⟩ := I.tuple hq
  obtain ⟨x1, hot⟩ := hc.at I
  rw [PyProof.Rows.assign_Tuple]
  refine wpAny_bind (wpAny_standAt (unpackH hot ht (by simp [hn, ← hl, rv.length]) hst fun h' hx => ?_))
  have I1 : Inv X pins σ H { s with heap := h' } := I.kept (t' := s.toks) fun b o e => hx b o (Nat.ne_of_lt (Heap.lt_size e)) e
  exact h.run pins _ σ H xs _ Q I1 (by simpa using rv) hw
theorem turn_listH {P : Program} {w : World} {K : PySem.W.Frag} {tg : Expr} (a it : Addr) : TurnH P w K tg (Itl K a) [it] it (fun i h => h.IsListIter it a i) where
  mem := List.mem_singleton.mpr rfl
  obj := fun i h st b hb => by
    obtain rfl : b = it := List.mem_singleton.mp hb
    obtain ⟨o, e, c, d⟩ := st
    exact ⟨o, e, fun v z => by rw [d] at z; cases z⟩
  keep := fun i h h' st k => st.at fun o e => k it (List.mem_singleton.mpr rfl) o e
  item := by
    intro X hP hw hK hc i pins s σ H E I hf st hg
    subst hP hw hK
    obtain ⟨xs, x, hq, hx⟩ := hg
    obtain ⟨its, rv, p, hz⟩ := I.list hq
    obtain ⟨u, hu, ru⟩ := rv.get hx
    obtain ⟨f0, f1, f2, f3, f4, f5⟩ := hf it (List.mem_singleton.mpr rfl)
    refine wpAny_pyNext_list_item st p.isList (x := u) (by simpa using hu) fun h' st' sb => ?_
    have J : Inv X pins σ H { s with heap := h' } := I.turned (t' := s.toks) (fun b o hb e => (sb.2 b hb).trans e) f0 f1 f3 f4 f5
    obtain ⟨o, e, c, d⟩ := id st'
    exact ⟨u, rfl, go_of (s := { s with heap := h' }) e c d (by decide) ⟨x, H, J, ru, ⟨rfl, fun ys hy => by rw [J.list_inj hy hq]; exact hx⟩, st', fun b hb => (hf b hb).1⟩⟩
  done := by
    intro X hP hw hK hc i pins s σ H E I hf st hg
    subst hP hw hK
    obtain ⟨xs, hq, hx⟩ := hg
    obtain ⟨its, rv, p, hz⟩ := I.list hq
    obtain ⟨f0, f1, f2, f3, f4, f5⟩ := hf it (List.mem_singleton.mpr rfl)
    have hl := rv.length
    obtain ⟨⟨x1, o1⟩, ⟨hh, v1, e1, c1⟩, hp⟩ := hc
    have hm := List.mem_append_left pins hp
    exact listEndH (x1 := x1) ⟨hh, o1, v1, (I.pin _ hm).1, e1, c1⟩ (f5 _ hm) st p.isList (by simp; omega) fun h' eb => ⟨rfl, I.turned (t' := s.toks) (fun b o hb e => eb b o hb e) f0 f1 f3 f4 f5⟩
  self := fun _ _ _ _ _ st h => wpAny_pyIter_listiter st h
theorem pi_listH {tg l : Expr} {tl : TE} (hl : PE X l tl) : PIH X tg l (iList X.K tl) := by
  refine ⟨fun pins s σ H R I h => thn (hl.run pins s σ H _ I h) fun v s1 ⟨x, H1, I1, r1, a, e, ⟨xs, hq⟩, q⟩ => ?_⟩
  subst e
  cases r1
  obtain ⟨its, rv, p, hz⟩ := I1.list hq
  refine wpAny_pyIter_list p.isList ⟨s1.heap.objs.size, [s1.heap.objs.size], _, _, H1, rfl, I1.kept (t' := s1.toks) fun b o e => Heap.get?_push_of_some _ e, turn_listH a _, ⟨_, Heap.get?_push_size _ rfl, rfl, rfl⟩, fun b hb => ?_, q⟩
  obtain rfl : b = s1.heap.objs.size := List.mem_singleton.mp hb
  exact I1.fpOk (Nat.le_refl _) (I1.hok.fresh (Nat.le_refl _))
end
end DL

/-! a comprehension while an error is handled -/
namespace DL
open PySem PySem.Spec PyProof.Rows L2 HotX L2H
/-- the block's context, the handled error beside it -/
abbrev blkH (X : Cx) (p : Addr × Obj) (s : Shared) (H : Hp) (scope : Scope) (env : Env) (fp : List Addr) : Cx := (X.blk s H scope env fp).tr [p] fun _ _ => False
theorem blkH_hot {X : Cx} {p : Addr × Obj} {s : Shared} {H : Hp} {scope : Scope} {env : Env} {fp : List Addr} (h : Hot1 X.A p) : HotC (blkH X p s H scope env fp) := ⟨p, h, List.mem_singleton.mpr rfl⟩
section
variable {X : Cx}
theorem inv_blkH {p : Addr × Obj} {s s' : Shared} {H H' : Hp} {scope : Scope} {env : Env} {fp : List Addr} {σ : L2.St} (I : Inv (X.blk s H scope env fp) [] σ H' s') (h : s'.heap.get? p.1 = some p.2 ∧ H' p.1 = none ∧ p.1 ≠ env.locals ∧ p.1 ∉ (blkH X p s H scope env fp).fs ∧ ∀ v, p.2.data ≠ .cell v) : Inv (blkH X p s H scope env fp) [] σ H' s' :=
  ⟨I.ok.toTry _ _, I.os, I.bare, I.base, I.loc, I.cell, I.free, I.freeC, fun q hq => by
    have e : q = p := by simpa using (show q ∈ [p] ++ ([] : List (Addr × Obj)) from hq)
    rw [e]; exact h, I.hok, I.len⟩
/-- the pin's own facts -/
theorem pin_blkH {p : Addr × Obj} {pins : List (Addr × Obj)} {s s' : Shared} {H H' : Hp} {scope : Scope} {env : Env} {fp : List Addr} {σ σ' : L2.St} (hp : p ∈ X.pn) (I : Inv X pins σ H s) (J : Inv (X.blk s H scope env fp) [] σ' H' s') (hs : env.locals = s.heap.objs.size) (hfp : ∀ b ∈ fp, FpOk X pins H b) :
    s'.heap.get? p.1 = some p.2 ∧ H' p.1 = none ∧ p.1 ≠ env.locals ∧ p.1 ∉ (blkH X p s H scope env fp).fs ∧ ∀ v, p.2.data ≠ .cell v := by
  obtain ⟨g1, g2, g3, g4, g5⟩ := I.pin p (List.mem_append_left _ hp)
  have nx : p.1 ∉ fp := fun z => (hfp _ z).2.2.2.2.2 p (List.mem_append_left _ hp) rfl
  have nst : p.1 ∉ frs X.stack := fun z => (List.mem_cons.mp (I.stkSub p.1 z)).elim g3 g4
  have nfs : p.1 ∉ (X.blk s H scope env fp).fs := nst
  refine ⟨J.base.keep _ _ g1 g2 nfs nx, J.base.free _ _ g1 g2 nx, ?_, nfs, g5⟩
  rw [hs]; exact Nat.ne_of_lt (Heap.lt_size g1)
/-- the wish of a comprehension's end -/
theorem lcH {p : Addr × Obj} {pins : List (Addr × Obj)} {s : Shared} {σ : L2.St} {H : Hp} {Q : VK} {elt tg iter : Expr} {ifs : List Expr} {scope : Scope} {own : List (Str × Nat)} {pos ps : Pos} {wi : TI} {g : TG} {tt : TT} {te : TE} {Qf : Value → Shared → Prop}
    (h1 : Hot1 X.A p) (hp : p ∈ X.pn) (hN : X.N.Nodup) (I : Inv X pins σ H s) (hi : PIH X tg iter wi) (ok : BlkOk X.N X.env.scope scope own)
    (hg : ∀ (z : Shared) (H : Hp) (C : Addr) (cl : List (Str × Addr)) (fp : List Addr), PG (blkH X p z H scope (compEnvC scope cl C X.env) fp) tg g) (ht : ∀ (z : Shared) (H : Hp) (C : Addr) (cl : List (Str × Addr)) (fp : List Addr), PTs (blkH X p z H scope (compEnvC scope cl C X.env) fp) ifs tt)
    (he : ∀ (z : Shared) (H : Hp) (C : Addr) (cl : List (Str × Addr)) (fp : List Addr), PE (blkH X p z H scope (compEnvC scope cl C X.env) fp) elt te) (hs : ∀ x, foldedSetIterable iter X.env x = pure x)
    (h : tLc wi g tt te (own.map (·.2)) σ H Q) (fin : ∀ D C s' m H', Inv X pins σ H' s' → Q (.ref D) H' → s'.heap.Ns C m → FpOk X pins H' C → compPost (model X.prog X.w) X.A X.xe none Qf (.ref D) C (.ok .next) s') :
    wpAny (model X.prog X.w) X.A (comprehension (.ListComp elt [⟨tg, iter, ifs, 0⟩] scope pos) scope X.env ps (newList []) false (eval iter X.env) none) Qf X.xe s := by
  have hfree : ∀ y ∈ scope.names, y.2 = .free → ∃ c, X.env.cells.lookup y.1 = some c := fun y hy e => (ok.free y hy e).elim (fun k => I.ok.has _ (.inl k)) fun k => I.ok.has _ (.inr k)
  refine wpAny_comprehension_free (use := none) rfl hs (closure_ok hfree) ok.kind (fun y hy e => by rw [ok.uniq y hy, e]) (thn (hi.run pins s σ H _ I h) fun xv z1 hx => thn hx fun itv z2 h2 => ?_)
  obtain ⟨it, fp, tn, J, G2, e, I2, T, c2, f2, q⟩ := h2
  subst e
  refine wpAny_newObj_type (newEnv_comp ?_) (by show 0 ≤ sizeLine; decide)
  generalize hD : z2.heap.objs.size = D
  obtain ⟨W, ⟨m0, w0⟩, turn⟩ := q D (I2.hok.fresh (Nat.le_of_eq hD))
  generalize hs3 : ({ z2 with heap := z2.heap.push { cls := .type "list", data := .seq ([] : List Value).toArray } } : Shared) = z3
  have I3 : Inv X pins σ (upd G2 D (.lst [])) z3 := by
    rw [← hs3]
    refine I2.laid (t' := z2.toks) (fun b o e => Heap.get?_push_of_some _ e) (Nat.le_of_eq hD) ⟨Nat.zero_le _, [], 0, .nil, ?_⟩
    rw [← hD]; exact Heap.get?_push_size _ rfl
  have h3 : z3.heap = z2.heap.push { cls := .type "list", data := .seq ([] : List Value).toArray } := by rw [← hs3]
  have sz : ∀ b ∈ fp, b < z2.heap.objs.size := fun b hb => let ⟨o, e, _⟩ := T.obj _ _ c2 b hb; Heap.lt_size e
  have f3 : ∀ b ∈ fp, FpOk X pins (upd G2 D (.lst [])) b ∧ b < z3.heap.objs.size := fun b hb => by
    have hlt := sz b hb
    refine ⟨⟨?_, (f2 b hb).2⟩, by rw [h3, Heap.size_push]; exact Nat.lt_succ_of_lt hlt⟩
    rw [upd_ne (by rw [← hD]; exact Nat.ne_of_lt hlt)]; exact (f2 b hb).1
  have c3 : tn 0 z3.heap := T.keep _ _ _ c2 fun b _ o e => by rw [h3]; exact Heap.get?_push_of_some _ e
  have I4 := block_start I3 ok hN f3
  have pg := hg z3 (upd G2 D (.lst [])) z3.heap.objs.size (cellsFrom (z3.heap.objs.size + 1) scope.names (cloFrom X.env.cells scope.names [])) fp
  have pt := ht z3 (upd G2 D (.lst [])) z3.heap.objs.size (cellsFrom (z3.heap.objs.size + 1) scope.names (cloFrom X.env.cells scope.names [])) fp
  have pe := he z3 (upd G2 D (.lst [])) z3.heap.objs.size (cellsFrom (z3.heap.objs.size + 1) scope.names (cloFrom X.env.cells scope.names [])) fp
  show codeAny _ _ (.compStart (.ListComp elt [⟨tg, iter, ifs, 0⟩] scope pos) 0 (.ref it) (.ref D) (compEnvC scope (cellsFrom (z3.heap.objs.size + 1) scope.names (cloFrom X.env.cells scope.names [])) z3.heap.objs.size X.env)) (compPost (model X.prog X.w) X.A X.xe none Qf (.ref D) z3.heap.objs.size) { z3 with heap := pushCells (z3.heap.push { cls := .type "dict", data := .dict #[] }) scope.names }
  have nfp : ∀ b ∈ fp, (upd G2 D (.lst [])) b = none := fun b hb => (f3 b hb).1.1
  have cE : (compEnvC scope (cellsFrom (z3.heap.objs.size + 1) scope.names (cloFrom X.env.cells scope.names [])) z3.heap.objs.size X.env).locals = z3.heap.objs.size := rfl
  have I4 := inv_blkH (p := p) I4 (pin_blkH hp I3 I4 cE fun b hb => (f3 b hb).1)
  generalize hce : compEnvC scope (cellsFrom (z3.heap.objs.size + 1) scope.names (cloFrom X.env.cells scope.names [])) z3.heap.objs.size X.env = ce at I4 pg pt pe cE ⊢
  generalize hH3 : upd G2 D (.lst []) = G3 at I3 I4 pg pt pe w0 nfp f3
  generalize hs4 : ({ z3 with heap := pushCells (z3.heap.push { cls := .type "dict", data := .dict #[] }) scope.names } : Shared) = z4 at I4 ⊢
  have hot : HotC (blkH X p z3 G3 scope ce fp) := blkH_hot h1
  have ppin : ∀ {σ' H' s'}, Inv (blkH X p z3 G3 scope ce fp) [] σ' H' s' → ∀ b ∈ fp, p.1 ≠ b := fun _ b hb => (f3 b hb).1.2.2.2.2.2 p (List.mem_append_left _ hp)
  have c4 : tn 0 z4.heap := T.keep _ _ _ c3 fun b _ o e => by rw [← hs4]; exact pushCells_keeps _ _ _ _ (Heap.get?_push_of_some _ e)
  have stat : ∀ {σ' : L2.St} {H' : Hp} {s' : Shared}, Inv (blkH X p z3 G3 scope ce fp) [] σ' H' s' → (∀ b ∈ fp, H' b = none) → ∀ b ∈ fp, FpOk (blkH X p z3 G3 scope ce fp) [] H' b := fun {σ' H' s'} I' hn b hb =>
    ⟨hn b hb, (I'.ok.exf b hb).1, I'.ok.exfs b hb, .inl hb, fun x c e => (I'.ok.exf b hb).2 x c e, fun q hq => by
      have e : q = p := by simpa using (show q ∈ [p] ++ ([] : List (Addr × Obj)) from hq)
      rw [e]; exact ppin I' b hb⟩
  refine codeAny_compStart_list (?_ : codeAny (model X.prog X.w) X.A (.compLoop (.ListComp elt [⟨tg, iter, ifs, 0⟩] scope pos) 0 (.ref it) (.ref D) ce) (compPost (model X.prog X.w) X.A X.xe none Qf (.ref D) z3.heap.objs.size) z4) (T.self X.A 0 _ _ _ c4 ?_)
  all_goals
  refine compLoop_any (fun n s' => ∃ i H', Inv (blkH X p z3 G3 scope ce fp) [] (wipe σ (own.map (·.2))) H' s' ∧ tn i s'.heap ∧ (∀ b ∈ fp, H' b = none) ∧ W i n H') ?_ m0 ⟨0, G3, I4, c4, nfp, w0⟩
  rintro n z5 ⟨i, G5, I5, c5, n5, w5⟩
  rcases turn i n G5 w5 with ⟨stop, qq⟩ | ⟨go, Nx, hNx, step⟩
  · refine thnF (T.done (blkH X p z3 G3 scope ce fp) rfl rfl rfl hot i [] z5 _ G5 (fun _ _ => False) I5 (stat I5 n5) c5 stop) fun r z6 ⟨hr, I6⟩ => ?_
    subst hr
    have I7 : Inv X pins σ G5 z6 := I3.call' (ch := fp) I6.os I6.base I6.hok I6.bare fun b hb => ⟨(f3 b hb).1.2.2.2.1, (f3 b hb).1.2.1, (f3 b hb).1.2.2.2.2.1, (f3 b hb).1.2.2.2.2.2⟩
    have nC : G5 z3.heap.objs.size = none := by
      have z : G5 ce.locals = none := I6.free
      rwa [cE] at z
    obtain ⟨m, hn, _⟩ := I6.loc
    have hn : z6.heap.Ns ce.locals m := hn
    rw [cE] at hn
    exact fin D z3.heap.objs.size z6 m G5 I7 qq hn (I3.fpOk (Nat.le_refl _) nC)
  · refine thnF (T.item (blkH X p z3 G3 scope ce fp) rfl rfl rfl hot i [] z5 _ G5 (fun _ _ => False) I5 (stat I5 n5) c5 go) fun r z6 ⟨u, hr, h6⟩ => ?_
    subst hr
    refine thnF h6 fun _ z7 ⟨x, G7, I7, r7, y7, c7, n7⟩ => ?_
    refine thnF (pg.run _ z7 _ G7 x u _ (I7.pinned (stat I7 n7) (T.obj _ _ c7)) r7 (step x G7 y7)) fun _ z8 ⟨σ8, G8, I8, hw8, q8⟩ => ?_
    refine thnF (pt.run _ z8 σ8 G8 _ I8 q8) fun b z9 ⟨G9, I9, q9⟩ => ?_
    have again : ∀ {s' : Shared} {H' : Hp}, Inv (blkH X p z3 G3 scope ce fp) ([] ++ pinsAt fp z7.heap) σ8 H' s' → Nx H' → ∃ m, m < n ∧ ∃ i H', Inv (blkH X p z3 G3 scope ce fp) [] (wipe σ (own.map (·.2))) H' s' ∧ tn i s'.heap ∧ (∀ b ∈ fp, H' b = none) ∧ W i m H' := fun {s' H'} I' nx => by
      obtain ⟨m', hm, w'⟩ := hNx H' nx
      have pin' : ∀ b ∈ fp, ∀ o, z7.heap.get? b = some o → s'.heap.get? b = some o ∧ H' b = none := fun b hb o e =>
        let y := I'.pin (b, o) (List.mem_append_right _ (List.mem_append_right _ (mem_pinsAt hb e)))
        ⟨y.1, y.2.1⟩
      have hl : (wipe σ (own.map (·.2))).length = σ8.length := by rw [← hw8, wipe_length]
      refine ⟨m', hm, i + 1, H', (I'.unpinned (pins := [])).weak hl (fun j v e => ?_), T.keep _ _ _ c7 fun b hb o e => (pin' b hb o e).1, fun b hb => ?_, w'⟩
      · rw [← hw8] at e; exact (wipe_some e).1
      · obtain ⟨o, e, _⟩ := T.obj _ _ c7 b hb
        exact (pin' b hb o e).2
    cases b with
    | false =>
      simp only [if_false, Bool.false_eq_true] at q9 ⊢
      exact again I9 q9
    | true =>
      simp only [if_true] at q9 ⊢
      refine thnF (pe.run _ z9 σ8 G9 _ I9 q9) fun z za ⟨yv, Ga, Ia, ra, acc, hDa, hza, nx⟩ => ?_
      exact app_ok (X := blkH X p z3 G3 scope ce fp) Ia hDa hza ra fun zb Ib => again Ib nx
theorem pe_lcH {p : Addr × Obj} {elt tg iter : Expr} {ifs : List Expr} {scope : Scope} {own : List (Str × Nat)} {pos : Pos} {wi : TI} {g : TG} {tt : TT} {te : TE} (h1 : Hot1 X.A p) (hp : p ∈ X.pn) (hN : X.N.Nodup) (hi : PIH X tg iter wi) (ok : BlkOk X.N X.env.scope scope own)
    (hg : ∀ (z : Shared) (H : Hp) (C : Addr) (cl : List (Str × Addr)) (fp : List Addr), PG (blkH X p z H scope (compEnvC scope cl C X.env) fp) tg g) (ht : ∀ (z : Shared) (H : Hp) (C : Addr) (cl : List (Str × Addr)) (fp : List Addr), PTs (blkH X p z H scope (compEnvC scope cl C X.env) fp) ifs tt)
    (he : ∀ (z : Shared) (H : Hp) (C : Addr) (cl : List (Str × Addr)) (fp : List Addr), PE (blkH X p z H scope (compEnvC scope cl C X.env) fp) elt te) (hs : ∀ x, foldedSetIterable iter X.env x = pure x := by intro _; rfl) :
    PE X (.ListComp elt [⟨tg, iter, ifs, 0⟩] scope pos) (tLc wi g tt te (own.map (·.2))) := by
  refine ⟨fun pins s σ H Q I h => ?_⟩
  rw [eval_ListComp]
  refine lcH h1 hp hN I hi ok hg ht he hs h fun D C s' m H' I' q hn f => ⟨m, hn, fun h'' sb => ?_⟩
  obtain ⟨f0, f1, f2, f3, f4, f5⟩ := f
  exact ⟨.ref D, H', I'.turned (t' := s'.toks) (fun b o hb e => (sb.2 b hb).trans e) f0 f1 f3 f4 f5, rfl, q⟩
end
end DL

/-! errors on data: defs that raise, a try around a call of a local name -/
namespace DL
open PySem PySem.Spec PyProof.Rows L2 HotX L2H
/-! ### classes of errors, by their names -/
def errN : List Str := ["InvalidRule", "InvalidRow", "InvalidTime", "InvalidNumber", "InvalidKind", "InvalidOutcomes", "TooMany", "NothingToUndo"]
structure ErrF (K : PySem.W.Frag) (mg : Str → Option Value) (x : Str) : Prop where
  ex : ∃ D, mg x = some (.ref D) ∧ PySem.W.keepIn K (.ref D) = true ∧ PySem.W.excIn K D [.type "ValueError", .type "Exception", .type "BaseException", .type "object"] "ValueError.__new__" = true ∧ PySem.W.subIn K (.ref D) (.type "BaseException") = some true ∧ PySem.W.typeIn K (.ref D) = some (.type "type") ∧
    ExcC K D ∧ PySem.W.kitOne K (.ref D) (.type "ValueError") = some true ∧ (∀ C0, mg "ChargeError" = some (.ref C0) → PySem.W.exmOne K (.ref D) (.ref C0) = some true) ∧ ∀ y ∈ errN, ∃ Dy, mg y = some (.ref Dy) ∧ PySem.W.kitOne K (.ref D) (.ref Dy) = some (decide (y = x))
/-- a def that raises: with these arguments an error of the class named so; nothing that stood is changed -/
def toSpE (L : Fn) (mg : Str → Option Value) (n : Nat) (sp : List PyData → Str → Prop) : Sp := fun vs H _ E => vs.length = n ∧ ∃ Hf ds en c, Ex Hf H ∧ DdAll L Hf vs ds ∧ sp ds en ∧ mg en = some c ∧ ∀ H', Ex H H' → E c none H'
structure CalE (P : Program) (w : World) (K : PySem.W.Frag) (mg : Str → Option Value) (base : Heap) (L : Fn) (k : Nat) (x : Str) (n : Nat) (sp : List PyData → Str → Prop) : Prop where
  ex : ∃ (f : Addr) (fd : FuncData) (ps : List Str), FnOk P w K mg base (L2N.CX P w) k f fd ps (toSpE L mg n sp) ∧ mg x = some (.ref f) ∧ PySem.W.keepIn K (.ref f) = true ∧ Binds K fd ps []
/-- statements on the way to an error: all that stood at the entry is frozen -/
def lX (G : Fx) (H0 : Hp) (t : DTS) : TS := fun D σ H => ∃ Hf ω ρ Dd, RepF G Hf H ω σ ρ ∧ Ex H0 Hf ∧ t Dd ρ ∧
  (∀ σ' H' Hf' ω' ρ', RepF G Hf' H' ω' σ' ρ' → Stp Hf H ω Hf' H' ω' → Dd.nx ρ' → D.nx σ' H') ∧
  (∀ v H' Hf' ω' r af, RepR G Hf' H' ω' v r af → Stp Hf H ω Hf' H' ω' → Dd.rt r af → D.rt v H') ∧
  (∀ σ' H' Hf' ω' ρ', RepF G Hf' H' ω' σ' ρ' → Stp Hf H ω Hf' H' ω' → Dd.bk ρ' → D.bk σ' H') ∧
  (∀ σ' H' Hf' ω' ρ', RepF G Hf' H' ω' σ' ρ' → Stp Hf H ω Hf' H' ω' → Dd.ct ρ' → D.ct σ' H')
section
variable {X : Cx} {G : Fx} {H0 : Hp} {st : Stmt} {rest sts : List Stmt} {t u : DTS} {pos : Pos} {e c : Expr} {es : List Expr} {n : Nat} {tl : DTL}
theorem xs_ds (h : DS X G st t) : PS X st (lX G H0 t) := ps_imp h fun D σ H ⟨Hf, ω, ρ, Dd, rep, _, r⟩ => ⟨Hf, ω, ρ, Dd, rep, r⟩
theorem xss_cons (h : PS X st (lX G H0 t)) (hs : PSs X rest (lX G H0 u)) : PSs X (st :: rest) (lX G H0 (sSeq t u)) := pss_imp (pss_cons h hs) fun D σ H ⟨Hf, ω, ρ, Dd, rep, x0, ht, k1, k2, k3, k4⟩ =>
  ⟨Hf, ω, ρ, _, rep, x0, ht, fun σ1 H1 Hf1 ω1 ρ1 rep1 st1 q1 => ⟨Hf1, ω1, ρ1, Dd, rep1, x0.trans st1.fz, q1,
      fun σ2 H2 Hf2 ω2 ρ2 rep2 st2 q2 => k1 _ _ _ _ _ rep2 (st1.trans st2) q2, fun v H2 Hf2 ω2 r af rep2 st2 q2 => k2 _ _ _ _ _ _ rep2 (st1.trans st2) q2,
      fun σ2 H2 Hf2 ω2 ρ2 rep2 st2 q2 => k3 _ _ _ _ _ rep2 (st1.trans st2) q2, fun σ2 H2 Hf2 ω2 ρ2 rep2 st2 q2 => k4 _ _ _ _ _ rep2 (st1.trans st2) q2⟩, k2, k3, k4⟩
theorem xss_one (h : PS X st (lX G H0 t)) : PSs X [st] (lX G H0 t) := pss_one h
theorem xss_nil : PSs X [] (lX G H0 sNx) := pss_imp pss_nil fun D σ H ⟨Hf, ω, ρ, Dd, rep, _, ht, k1, _⟩ => k1 _ _ _ _ _ rep Stp.refl ht
theorem xss_never : PSs X sts (lX G H0 sNv) := pss_imp (pss_never (sts := sts)) fun D σ H ⟨Hf, ω, ρ, Dd, rep, _, ht, _⟩ => ht.elim
theorem xs_if {tc : DTT} {s1 s2 : List Stmt} (hc : DT X G c tc) (h1 : PSs X s1 (lX G H0 t)) (h2 : PSs X s2 (lX G H0 u)) : PS X (.If c s1 s2 pos) (lX G H0 (sIf tc t u)) := ps_imp (ps_if hc h1 h2) fun D σ H ⟨Hf, ω, ρ, Dd, rep, x0, ht, k1, k2, k3, k4⟩ => by
  refine ⟨Hf, ω, ρ, _, rep, ht, fun b H1 Hf1 ω1 ρ1 rep1 st1 q1 => ?_⟩
  have go : ∀ (w : DTS), w Dd ρ1 → lX G H0 w D σ H1 := fun w q => ⟨Hf1, ω1, ρ1, Dd, rep1, x0.trans st1.fz, q,
      fun σ2 H2 Hf2 ω2 ρ2 rep2 st2 q2 => k1 _ _ _ _ _ rep2 (st1.trans st2) q2, fun v H2 Hf2 ω2 r af rep2 st2 q2 => k2 _ _ _ _ _ _ rep2 (st1.trans st2) q2,
      fun σ2 H2 Hf2 ω2 ρ2 rep2 st2 q2 => k3 _ _ _ _ _ rep2 (st1.trans st2) q2, fun σ2 H2 Hf2 ω2 ρ2 rep2 st2 q2 => k4 _ _ _ _ _ rep2 (st1.trans st2) q2⟩
  cases b with
  | true => exact iteT (go t q1)
  | false => exact iteF (go u q1)
end
section
variable {P : Program} {w : World} {K : PySem.W.Frag} {mg : Str → Option Value} {base : Heap} {L : Fn}
theorem FunE.okX {x qual : Str} {st : Stmt} {f : Addr} {fd : FuncData} {N ps : List Str} {k : Nat} {sp : Sp} (F : Fun K x qual st f fd) (S : FnScope N ps (defScope st)) (len : ∀ vs H Q E, sp vs H Q E → vs.length = ps.length)
    (hbody : ∀ (cdv : Value) (A : Around) (outer : List Env) (s : Shared) (H : Hp) (vs : List V) (Q : VK) (E : XK), Room k (A.deeper (envOfC qual (defScope st) s.heap.objs.size f cdv)) → sp vs H Q E →
      ∃ t, PSs (cxOf (L2N.CX P w) P w K mg base N qual (defScope st) f cdv A outer s H E) (defBody st) t ∧ t { nx := fun _ H' => Q .non H', rt := Q } (L2.start N vs) H) : FnOk P w K mg base (L2N.CX P w) (k + 1) f fd ps sp := by
  obtain ⟨_, _, _, _, _, _, _, _, _, rfl, look, code⟩ := F.ex
  exact fn_of look code S len (hbody _)
/-- THE RULE for a def that raises -/
theorem cale_ok {x : Str} {st : Stmt} {N ps : List Str} {k : Nat} {sp : List PyData → Str → Prop} (T : FnT K mg x st ps) (S : FnScope N ps (defScope st))
    (hbody : ∀ (f : Addr) (cdv : Value) (A : Around) (outer : List Env) (s : Shared) (H : Hp) (vs : List V) (E : XK) (ds : List PyData) (en : Str) (c : Value), vs.length = ps.length → Room k (A.deeper (envOfC x (defScope st) s.heap.objs.size f cdv)) → sp ds en → mg en = some c → (∀ H', Ex H H' → E c none H') →
      ∃ t, PSs (cxOf (L2N.CX P w) P w K mg base N x (defScope st) f cdv A outer s H E) (defBody st) (lX ⟨L, vs, []⟩ H t) ∧ t { nx := fun _ => False, rt := fun _ _ => False } (start0 N (ds.map Res.fz))) :
    CalE P w K mg base L (k + 1) x ps.length sp := by
  obtain ⟨f, fd, h1, h2, h3⟩ := T.ex
  refine ⟨f, fd, ps, FunE.okX h1 S (fun vs H Q E h => h.1) (fun cdv A outer s H vs Q E hr h => ?_), h2, h1.kp, h3⟩
  obtain ⟨hn, Hf, ds, en, c, ex, hd, hsp, hc, hE⟩ := h
  obtain ⟨t, b1, b2⟩ := hbody f cdv A outer s H vs E ds en c hn hr hsp hc hE
  refine ⟨_, b1, H, fun _ => none, _, _, rep_start (rep_args (Ex.refl H) (ex.dpAll hd)) (fun _ z => nomatch z), Ex.refl H, b2, ?_, ?_, ?_, ?_⟩
  · exact fun _ _ _ _ _ _ _ z => z.elim
  · exact fun _ _ _ _ _ _ _ _ z => z.elim
  · exact fun _ _ _ _ _ _ _ z => z.elim
  · exact fun _ _ _ _ _ _ _ z => z.elim
end
section
variable {X : Cx} {G : Fx} {H0 : Hp} {e : Expr} {es : List Expr} {n : Nat} {tl : DTL} {x m : Str} {j k : Nat} {p p2 pos pos' : Pos} {E : XK}
/-- raise X('m') -/
theorem xs_raise {q : Nat} (F : ErrF X.K X.mg x) (hc : X.calm = true) (tk : L2N.Takes X fun cls d _ H => E cls d H) (hE : ∀ c, X.mg x = some c → ∀ H', Ex H0 H' → E c none H') (hg : Gl X x := by rfl) (hdb : (x == ("__debug__" : Str)) = false := by decide) :
    PS X (.Raise (some (.Call (.Name x p) [.Constant (.str m) q p2] [] pos)) none pos') (lX G H0 fun _ _ => True) := by
  obtain ⟨D, gD, kD, xD, sD, tD, _⟩ := F.ex
  exact ps_imp (L2N.ps_raise hc tk (L2N.pmk_own PySem.F.excBase_ValueError xD gD kD (raises_own sD tD) hg hdb)) fun D σ H ⟨Hf, ω, ρ, Dd, rep, x0, _⟩ => hE _ gD H (x0.trans rep.ex)
/-- a call that raises -/
theorem xs_callE {sp : List PyData → Str → Prop} (C : CalE X.prog X.w X.K X.mg X.base G.K j x n sp) (hr : Room k X.A) (tk : L2N.Takes X fun cls d _ H => E cls d H) (ha : DD X G (e :: es) n tl) (en : Str) (hm : ∃ c, X.mg en = some c) (hE : ∀ c, X.mg en = some c → ∀ H', Ex H0 H' → E c none H') (hjk : j ≤ k := by decide) (hg : Gl X x := by rfl) (hdb : (x == ("__debug__" : Str)) = false := by decide)
    (he : starEach (e :: es) X.env = (false, eval e X.env) :: starEach es X.env := by rfl) (hpl : (backTo pos (starEach es X.env)).any (·.1) = false := by rfl) (hs : swapsWith (.Call (.Name x p) (e :: es) [] pos) none pos'.line X.env = pure false := by rfl) :
    PS X (.Expr (.Call (.Name x p) (e :: es) [] pos) pos') (lX G H0 fun _ ρ => tl ρ fun ds _ => sp ds en) := by
  obtain ⟨f, fd, ps, a, b, c, d⟩ := C.ex
  obtain ⟨c0, hc0⟩ := hm
  refine ps_imp (ps_expr (pe_callS (E := WE fun cls d _ H => E cls d H) a (hr.mono hjk) hg b c d (fun σ => L2N.passAt tk σ) ha hdb he hpl) hs) fun D σ H ⟨Hf, ω, ρ, Dd, rep, x0, ht, _⟩ => ?_
  refine ⟨Hf, ω, ρ, _, rep, ht, fun vs H1 Hf1 ω1 ρ1 ds hl rep1 st1 hv q1 => ⟨hv.len.trans hl, Hf1, ds, en, c0, rep1.ex, hv, q1, hc0, fun H' ex' => ?_⟩⟩
  exact hE _ hc0 H' (((x0.trans st1.fz).trans rep1.ex).trans ex')
end
/-! ### a try around a call of a local name -/
def fnD (n : Str) : PyData := .dict [(.str n, .none)]
def isAt (a : Addr) : Asr := ⟨fun _ _ _ _ v => v = .ref a, fun _ _ _ h => h, none, fun _ h => nomatch h⟩
def HeldE (P : Program) (w : World) (K : PySem.W.Frag) (mg : Str → Option Value) (base : Heap) (L : Fn) (k n : Nat) (S : Str → List PyData → Str → Prop) : Prop :=
  ∀ nm v, (∃ ds en, S nm ds en) → L nm = some v → ∃ f fd ps, v = .ref f ∧ FnOk P w K mg base (L2N.CX P w) k f fd ps (toSpE L mg n (S nm)) ∧ PySem.W.keepIn K (.ref f) = true ∧ Binds K fd ps []
section
variable {X : Cx} {G : Fx} {e : Expr} {es : List Expr} {n : Nat} {tl : DTL} {x m : Str} {i j k : Nat} {p p2 pos pos2 pos3 pos' np : Pos} {t : TA} {W : WX}
def tCallE (X : Cx) (k j : Nat) (W : WX) (t : TA) : TE := fun σ H Q => ∃ f fd ps sp, σ[j]? = some (some (.ref f)) ∧ FnOk X.prog X.w X.K X.mg X.base (L2N.CX X.prog X.w) k f fd ps sp ∧ PySem.W.keepIn X.K (.ref f) = true ∧ Binds X.K fd ps [] ∧ t σ H fun vs H1 => sp vs H1 Q (WE W σ)
theorem pe_callE (hr : Room k X.A) (hN : X.N[j]? = some x) (hv : Vis X.env.scope x) (tk : L2N.Takes X W) (ha : PA X (e :: es) t) (hdb : (x == ("__debug__" : Str)) = false := by decide) (hcd : (x == ("__classdict__" : Str)) = false := by decide)
    (he : starEach (e :: es) X.env = (false, eval e X.env) :: starEach es X.env := by rfl) (hpl : (backTo pos (starEach es X.env)).any (·.1) = false := by rfl) : PE X (.Call (.Name x p) (e :: es) [] pos) (tCallE X k j W t) := by
  refine ⟨fun pins s σ H Q I ⟨f, fd, ps, sp, hs, F, hk, hb, ht⟩ => ?_⟩
  refine wpAny_Call_Name_kw (thn ((pe_var (pos := p) hN hv hdb hcd).run pins s σ H (fun v H1 => H1 = H ∧ v = .ref f) I ⟨_, hs, rfl, rfl⟩) fun u s1 ⟨v, H1, I1, r1, e1, e2⟩ => ?_)
  subst e1 e2
  cases r1
  refine PySem.W.callWith_K (h₀ := X.base) I.ok.mod.kin hk (thn (ha.run pos pins s1 σ _ _ I1 ht) fun us s2 ⟨vs, H2, I2, r, q⟩ => ⟨I2.kIn, run_fnS (E := WE W) F hr hb (L2N.passAt tk σ) I2 r q⟩) he hpl
theorem takesN {X : Cx} : L2N.Takes X (fun _ _ _ _ => False) := fun _ _ x => by
  obtain ⟨_, _, _, _, _, _, _, _, _, _, _, _, _, _, _, _, z⟩ := x
  exact z.elim
def sTry (i j n : Nat) (S : Str → List PyData → Str → Prop) (tl : DTL) (ts : Addr → Str → DTS) : DTS := fun D ρ => ∃ nm, ρ[j]? = some (some (.fz (fnD nm))) ∧ (∃ ds en, S nm ds en) ∧ tl ρ fun ds ρ1 => ∃ en, S nm ds en ∧
  ∀ a, ts a en { nx := fun ρ' => D.nx (ρ'.set i none), rt := fun _ _ => False } (ρ1.set i (some (.ext (isAt a))))
theorem RepF.unset {G : Fx} {Hf H : Hp} {ω : Addr → Option Nat} {σ : L2.St} {ρ : DSt} (i : Nat) (hF : G.F = []) (h : RepF G Hf H ω σ ρ) : RepF G Hf H ω (σ.set i none) (ρ.set i none) := by
  refine ⟨h.ex, h.own, by rw [List.length_set, List.length_set]; exact h.len, fun k hk => absurd (hF ▸ hk : k ∈ ([] : List Nat)) List.not_mem_nil, fun l r q => ?_⟩
  by_cases e : i = l
  · subst e
    by_cases hl : i < ρ.length
    · rw [List.getElem?_set_self hl] at q; cases q
    · rw [List.getElem?_eq_none (by rw [List.length_set]; omega)] at q; cases q
  · rw [List.getElem?_set_ne e] at q
    obtain ⟨v, a, b⟩ := h.slot l r q
    exact ⟨v, by rw [List.getElem?_set_ne e]; exact a, b⟩
theorem ds_try {nx cl : Str} {C0 : Addr} {b0 : Stmt} {suite : List Stmt} {S : Str → List PyData → Str → Prop} {ts : Addr → Str → DTS} (hs : X.stack = X.env :: X.outer) (hf : X.env.frame = some X.env.locals) (hN : X.N.Nodup) (hi : X.N[i]? = some nx) (hln : X.env.kindOf nx = some .local) (hF : G.F = []) (hm : X.mg "ChargeError" = some (.ref C0)) (hg : Gl X "ChargeError")
    (hr : Room k X.A) (HS : HeldE X.prog X.w X.K X.mg X.base G.K k n S) (HE : ∀ nm ds en, S nm ds en → ErrF X.K X.mg en) (hj : X.N[j]? = some cl) (hv : Vis X.env.scope cl) (hdb : (cl == ("__debug__" : Str)) = false) (hcd : (cl == ("__classdict__" : Str)) = false)
    (ha : ∀ (pn : List (Addr × Obj)) (xe : Value → Shared → Prop), DD (X.tr pn xe) G (e :: es) n tl)
    (hsu : ∀ (a : Addr) (oe : Obj) (cls : Value) (pn : List (Addr × Obj)) (en : Str), L2N.Zn cls none oe → (∃ vs, oe.data = .fields vs) → X.mg en = some cls → ErrF X.K X.mg en → DSs (X.suite a ((a, oe) :: pn)) G (b0 :: suite) (ts a en))
    (he : starEach (e :: es) X.env = (false, eval e X.env) :: starEach es X.env := by rfl) (hpl : (backTo pos2 (starEach es X.env)).any (·.1) = false := by rfl) (hsw : swapsWith (.Call (.Name cl p) (e :: es) [] pos2) none pos3.line X.env = pure false := by rfl) :
    DS X G (.Try [.Expr (.Call (.Name cl p) (e :: es) [] pos2) pos3] [.ExceptHandler (some (.Name "ChargeError" np)) (some nx) (b0 :: suite) pos'] [] [] pos) (sTry i j n S tl ts) := by
  have hb : ∀ (W : WX) (pn : List (Addr × Obj)) (xe : Value → Shared → Prop), L2N.Takes (X.tr pn xe) W → PassesOwn (model X.prog X.w) X.A X.env xe → PSs (X.tr pn xe) [.Expr (.Call (.Name cl p) (e :: es) [] pos2) pos3] (tDrop (tCallE X k j W (lD G n tl))) := fun W pn xe tk _ =>
    pss_one (ps_expr (pe_callE (X := X.tr pn xe) hr hj hv tk (ha pn xe) hdb hcd he hpl) hsw)
  refine ps_imp (L2N.ps_try_as (X := X) (i := i) (c := .ref C0) (Wout := fun _ _ _ _ => False) (tb := fun W => tDrop (tCallE X k j W (lD G n tl))) (ts := fun a cls d D σ H => ∃ en, d = none ∧ X.mg en = some cls ∧ ErrF X.K X.mg en ∧ lS G (ts a en) D σ H) hs hf hN hi hln ⟨hg, by decide, .inl hm⟩ takesN hb
    fun a oe cls d pn hz hd => ⟨fun pins s σ H D I ⟨en, e1, e2, e3, h⟩ => by subst e1; exact (hsu a oe cls pn en hz hd e2 e3).run pins s σ H D I h⟩) fun D σ H ⟨Hf, ω, ρ, Dd, rep, ⟨nm, hj1, hne, ht⟩, k1, k2, k3, k4⟩ => ?_
  obtain ⟨v, hv1, hv2⟩ := rep.slot j _ hj1
  have hfn : G.K nm = some v := by
    cases (show DL.Dd G.K Hf v (fnD nm) from hv2) with
    | fn h => exact h
  obtain ⟨f, fd, ps, rfl, F, hk, hbd⟩ := HS nm v hne hfn
  refine ⟨f, fd, ps, _, hv1, F, hk, hbd, Hf, ω, ρ, _, rep, ht, fun vs H1 Hf1 ω1 ρ1 ds hl rep1 st1 hvs q1 => ?_⟩
  obtain ⟨en, hS, hts⟩ := q1
  have HF := HE _ _ _ hS
  obtain ⟨De, g1, _, _, _, _, _, _, g8, _⟩ := HF.ex
  refine ⟨hvs.len.trans hl, Hf1, ds, en, .ref De, rep1.ex, hvs, hS, g1, fun H' ex' => ⟨true, g8 _ hm, fun _ a na => ⟨en, rfl, g1, HF, ?_⟩, fun z => nomatch z⟩⟩
  have gr : Grw Hf1 H1 Hf1 H' := ⟨Ex.refl _, ex', rep1.ex.trans ex', fun _ _ _ h => h⟩
  obtain ⟨ω2, r2, s2, _⟩ := (gr.rep rep1).put (v := .ref a) (i := i) (r := .ext (isAt a)) (S := fun _ => False) Stp.refl (by rw [hF]; exact List.not_mem_nil) air_none rfl
  refine ⟨Hf1, ω2, _, _, r2, hts a, fun σ3 H3 Hf3 ω3 ρ3 rep3 st3 q3 => ?_, ?_, ?_, ?_⟩
  · exact k1 _ _ _ _ _ (rep3.unset i hF) (((st1.trans (gr.stp rep1)).trans s2).trans st3) q3
  · exact fun _ _ _ _ _ _ _ _ z => z.elim
  · exact fun _ _ _ _ _ _ _ z => z.elim
  · exact fun _ _ _ _ _ _ _ z => z.elim
end
end DL

/-! the suite of an except clause, on data -/
namespace DL
open PySem PySem.Spec PyProof.Rows L2 HotX L2H
section
variable {X : Cx} {G : Fx} {i : Nat} {a : Addr} {oe : Obj} {cls : Value} {pn : List (Addr × Obj)} {en nx y : Str} {p p2 p3 pos : Pos}
theorem hotS (hz : L2N.Zn cls none oe) (hd : ∃ vs, oe.data = .fields vs) : Hot1 (X.suite a ((a, oe) :: pn)).A (a, oe) := let ⟨vs, h⟩ := hd; ⟨rfl, vs, h, hz.2.2 vs h⟩
def tIsE (i : Nat) (a : Addr) (b : Bool) : DTE := fun ρ Q => ρ[i]? = some (some (.ext (isAt a))) ∧ Q (.bool b) ρ
theorem de_isE {D : Addr} {vc : V} {cv : Value} {b : Bool} (hz : Zc (.ref D) none oe) (hd : ∃ vs, oe.data = .fields vs) (C : ExcC X.K D) (hm : X.mg "isinstance" = none) (hg : Gl X "isinstance") (hN : X.N[i]? = some nx) (hv : Vis X.env.scope nx) (hdb : (nx == ("__debug__" : Str)) = false) (hcd : (nx == ("__classdict__" : Str)) = false)
    (hc : PE (X.suite a ((a, oe) :: pn)) (.Name y p3) (tC vc)) (hcv : ∀ u, RelV vc u → u = cv) (hk : PySem.W.kitOne X.K (.ref D) cv = some b) : DE (X.suite a ((a, oe) :: pn)) G (.Call (.Name "isinstance" p) [.Name nx p2, .Name y p3] [] pos) (tIsE i a b) := by
  refine pe_imp (pe_callB (call_isE (X := X) C hz hd) hg hm bt_isinstance (pa_cons (pe_var (i := i) hN hv hdb hcd) (pa_cons hc pa_nil))) fun σ H Q ⟨Hf, ω, ρ, Qd, rep, ⟨hs, ht⟩, k⟩ => ?_
  obtain ⟨v, h1, h2⟩ := rep.slot i _ hs
  have h2 : v = .ref a := h2
  subst h2
  exact ⟨_, h1, vc, cv, b, rfl, hcv, hk, k _ _ _ _ _ _ rep Stp.refl (.bl b) ht⟩
theorem de_isY (hz : L2N.Zn cls none oe) (hd : ∃ vs, oe.data = .fields vs) (hcl : X.mg en = some cls) (F : ErrF X.K X.mg en) (hm : X.mg "isinstance" = none) (hy : y ∈ errN) (hg : Gl X "isinstance" := by rfl) (hgy : Gl X y := by rfl) (hN : X.N[i]? = some nx := by rfl) (hv : Vis X.env.scope nx := by exact Or.inl rfl) (hdb : (nx == ("__debug__" : Str)) = false := by decide) (hcd : (nx == ("__classdict__" : Str)) = false := by decide) (hdy : (y == ("__debug__" : Str)) = false := by decide) :
    DE (X.suite a ((a, oe) :: pn)) G (.Call (.Name "isinstance" p) [.Name nx p2, .Name y p3] [] pos) (tIsE i a (decide (y = en))) := by
  obtain ⟨D, gD, _, _, _, _, C, _, _, hk⟩ := F.ex
  obtain ⟨Dy, gy, ky⟩ := hk y hy
  obtain rfl : cls = .ref D := Option.some.inj (hcl.symm.trans gD)
  exact de_isE (vc := .ref Dy) hz.zc hd C hm hg hN hv hdb hcd (pe_glob hgy gy rfl hdy) (fun u r => r) ky
theorem bt_ValueError : bootBuiltins "ValueError" = some (.type "ValueError") := by decide +kernel
theorem de_isV (hz : L2N.Zn cls none oe) (hd : ∃ vs, oe.data = .fields vs) (hcl : X.mg en = some cls) (F : ErrF X.K X.mg en) (hm : X.mg "isinstance" = none) (hmv : X.mg "ValueError" = none) (hg : Gl X "isinstance" := by rfl) (hgy : Gl X "ValueError" := by rfl) (hN : X.N[i]? = some nx := by rfl) (hv : Vis X.env.scope nx := by exact Or.inl rfl) (hdb : (nx == ("__debug__" : Str)) = false := by decide) (hcd : (nx == ("__classdict__" : Str)) = false := by decide) :
    DE (X.suite a ((a, oe) :: pn)) G (.Call (.Name "isinstance" p) [.Name nx p2, .Name "ValueError" p3] [] pos) (tIsE i a true) := by
  obtain ⟨D, gD, _, _, _, _, C, kv, _, _⟩ := F.ex
  obtain rfl : cls = .ref D := Option.some.inj (hcl.symm.trans gD)
  exact de_isE (vc := .ty "ValueError") hz.zc hd C hm hg hN hv hdb hcd (pe_bltn hgy hmv bt_ValueError rfl) (fun u r => r) kv
end
section
variable {X : Cx} {G : Fx} {e tg iter : Expr} {ta : DTE} {pos : Pos} {n : Nat}
theorem dg_tupH {ts : List Expr} {kk : Nat} {js : List Nat} {gs : DTGs} (hc : HotC X) (h : DGs X G ts js gs) (hn : (assignEach ts X.env).length = n := by rfl) (hst : (assignEach ts X.env).findIdx? (·.1) = none := by rfl) : DG X G (.Tuple ts kk pos) js (gTp n gs) :=
  pg_imp (pg_tupH hc h hn hst) fun v σ H Q ⟨Hf, ω, ρ, Qd, d, rep, hv, ht, k⟩ => by
  cases hv with
  | @tup p vs ds c1 c2 => exact ⟨p, vs, rfl, .of (rep.ex _ _ c1), c2.len.trans ht.1, Hf, ω, ρ, Qd, ds, rep, c2, ht.2, k⟩
  | _ => exact ht.elim
def tSeqL (t : DTE) : DTL := fun ρ Q => t ρ fun d ρ' => match d with
  | .list xs => Q xs ρ'
  | _ => False
theorem dih_seq (h : DE X G e ta) : PIH X tg e (lI G (tSeqL ta)) := ⟨fun pins s σ H R I ⟨Hf, ω, ρ, Qd, rep, ht, k⟩ => (pi_listH h).run pins s σ H R I ⟨Hf, ω, ρ, _, rep, ht, fun v H1 Hf1 ω1 ρ1 d rep1 st1 hv q => by
  cases hv with
  | @lst p vs _ h1 h2 => exact ⟨p, rfl, ⟨vs, .of (rep1.ex _ _ h1)⟩, k _ _ _ _ _ _ rep1 st1 (wks_lst h1 h2) q⟩
  | _ => exact q.elim⟩⟩
theorem dr_lcH {p : Addr × Obj} {elt : Expr} {ifs : List Expr} {scope : Scope} {own : List (Str × Nat)} {ti : DTL} {g : DTG} {tt : DTT} {te : DTE} {js : List Nat} (hF : ∀ k ∈ G.F, k ∉ own.map (·.2)) (hj : ∀ j ∈ js, j ∈ own.map (·.2)) (h1 : Hot1 X.A p) (hp : p ∈ X.pn) (hN : X.N.Nodup) (hi : PIH X tg iter (lI G ti)) (ok : BlkOk X.N X.env.scope scope own)
    (hg : ∀ (z : Shared) (H : Hp) (C : Addr) (cl : List (Str × Addr)) (fp : List Addr), DG (blkH X p z H scope (compEnvC scope cl C X.env) fp) G tg js g) (ht : ∀ (z : Shared) (H : Hp) (C : Addr) (cl : List (Str × Addr)) (fp : List Addr), DTs (blkH X p z H scope (compEnvC scope cl C X.env) fp) G ifs tt)
    (he : ∀ (z : Shared) (H : Hp) (C : Addr) (cl : List (Str × Addr)) (fp : List Addr), DE (blkH X p z H scope (compEnvC scope cl C X.env) fp) G elt te) (hs : ∀ x, foldedSetIterable iter X.env x = pure x := by intro _; rfl) :
    DR X G (.ListComp elt [⟨tg, iter, ifs, 0⟩] scope pos) (tLcD (own.map (·.2)) ti g tt te) := pe_imp (pe_lcH h1 hp hN hi ok hg ht he hs) fun _ _ _ h => lR_lc hF hj h
/-- a def of the text as a value -/
theorem de_fn {x : Str} (h : ∃ f, X.mg x = some (.ref f) ∧ G.K x = some (.ref f)) (hg : Gl X x := by rfl) (hd : (x == ("__debug__" : Str)) = false := by decide) : DE X G (.Name x pos) (tCD (fnD x)) := by
  obtain ⟨f, h1, h2⟩ := h
  exact de_c (v := .ref f) (pe_glob hg h1 rfl hd) fun _ => .fn h2
end
/-! a, b = e1, e2 by way of a tuple (one of the names lies in a cell) -/
section
variable {X : Cx} {G : Fx} {a b : Expr} {pos : Pos}
theorem ds_parT {i j : Nat} {x y : Str} {t u : DTR} {px py pt : Pos} {kt k2 pt2} (hc : X.calm = true) (hFi : i ∉ G.F) (hFj : j ∉ G.F) (hgi : PG X (.Name x px) (gName i)) (hgj : PG X (.Name y py) (gName j)) (ha : DR X G a t) (hb : DR X G b u)
    (hs0 : starEach (a :: [b]) X.env = (false, eval a X.env) :: starEach [b] X.env := by rfl) (hs1 : starEach (b :: []) X.env = (false, eval b X.env) :: starEach [] X.env := by rfl)
    (e1 : (assignEach (.Name x px :: [.Name y py]) X.env).map (·.2) = assign (.Name x px) X.env :: (assignEach [.Name y py] X.env).map (·.2) := by rfl) (e2 : (assignEach (.Name y py :: []) X.env).map (·.2) = assign (.Name y py) X.env :: (assignEach [] X.env).map (·.2) := by rfl)
    (hn : (assignEach [.Name x px, .Name y py] X.env).length = 2 := by rfl) (hst : (assignEach [.Name x px, .Name y py] X.env).findIdx? (·.1) = none := by rfl)
    (hs : swapsWithSole [.Tuple [.Name x px, .Name y py] kt pt] (.Tuple [a, b] k2 pt2) pos.line X.env = pure false := by rfl) (hw : swappedStores [.Tuple [.Name x px, .Name y py] kt pt] (.Tuple [a, b] k2 pt2) X.env = pure none := by rfl)
    (h1 : (assignEach [.Tuple [.Name x px, .Name y py] kt pt] X.env).map (·.2) = [assign (.Tuple [.Name x px, .Name y py] kt pt) X.env] := by rfl) :
    DS X G (.Assign [.Tuple [.Name x px, .Name y py] kt pt] (.Tuple [a, b] k2 pt2) pos) (sPar i j t u) :=
  ps_imp (ps_asg (pe_tup (pa_cons ha (pa_cons hb pa_nil hs1) hs0)) (pg_tup hc (pgs_cons hgi (pgs_cons hgj pgs_nil e2) e1) hn hst) hs hw h1) fun D σ H ⟨Hf, ω, ρ, Dd, rep, ht, k1, _⟩ => by
  refine ⟨Hf, ω, ρ, _, rep, ht, fun v H1 Hf1 ω1 ρ1 r S rep1 st1 hS hv q1 => ⟨Hf1, ω1, ρ1, _, rep1, q1, fun v' H2 Hf2 ω2 ρ2 r' S' rep2 st2 hS' hv' q2 => ⟨sz (show 2 ≤ 100000 by decide), fun p hp => ⟨p, [v, v'], rfl, .of upd_same, rfl, v, [v'], rfl, v', [], rfl, rfl, ?_⟩⟩⟩⟩
  have hS2 : Air H ω Hf2 H2 ω2 S := fun b hb => by
    obtain ⟨z1, z2, z3, o, z4⟩ := hS b hb
    exact ⟨z1, st2.cap b o z4 z3 z2, st2.notNew z4 z3, o, st2.fr b o z4 z3⟩
  have hv2 : RepV G.K Hf2 H2 S v r := hv.mono st2.fz (fun b hb => by
    obtain ⟨z1, z2, z3, o, z4⟩ := hS b hb
    rw [z4]; exact st2.fr b o z4 z3) fun _ z => z
  obtain ⟨ω3, r3, s3, n3⟩ := rep2.put (st1.trans st2) hFi hS2 hv2
  have hS3 : Air H ω Hf2 H2 ω3 S' := fun b hb => by
    obtain ⟨z1, z2, z3, o, z4⟩ := hS' b hb
    have nS : ¬ S b := fun z => by
      obtain ⟨_, _, w3, o', w4⟩ := hS b z
      rcases z1 with z1 | ⟨j', z1⟩
      · rw [w4] at z1; cases z1
      · rw [w3] at z1; cases z1
    refine ⟨?_, z2, n3 b z3 nS, o, z4⟩
    rcases z1 with z1 | ⟨j', z1⟩
    · refine .inl ?_
      cases q : H b with
      | none => rfl
      | some o1 => obtain ⟨o2, h2⟩ := st1.keep b o1 q; rw [h2] at z1; cases z1
    · rcases st1.new b j' z1 with w | w
      · exact .inr w
      · exact .inl w
  obtain ⟨ω4, r4, s4, _⟩ := r3.put s3 hFj hS3 hv'
  have g : Grw Hf2 H2 Hf2 (upd H2 p (.tup [v, v'])) := .lay rep2.ex hp
  exact k1 _ _ _ _ _ (g.rep r4) (s4.trans (g.stp r4)) q2
end
end DL

/-! the law's own promise where defs are values -/
namespace DL
open PySem PySem.Spec PyProof.Rows L2 HotX L2H
def refV : Value → Option V
  | .ref a => some (.ref a)
  | _ => none
/-- the names of the built-in classes and of the defs that are handed on -/
def Lmg (K : PySem.W.Frag) (mg : Str → Option Value) (fns : List Str) : Fn where
  f := fun x => match namesF x with
    | some v => some v
    | none => if x ∈ fns then (mg x).bind refV else none
  own a vs := ∀ H, SqL K H a vs
theorem lokM (K : PySem.W.Frag) (mg : Str → Option Value) (fns : List Str) : LOk (Lmg K mg fns) := by
  have key : ∀ x v, namesF x = some v → (Lmg K mg fns).f x = some v := fun x v h => by
    show (match namesF x with | some v => some v | none => _) = _
    rw [h]
  exact ⟨key _ _ names_ok.1.1, key _ _ names_ok.1.2.1, key _ _ names_ok.1.2.2, key _ _ names_ok.2.1, key _ _ names_ok.2.2⟩
theorem fn_at {K : PySem.W.Frag} {mg : Str → Option Value} {fns : List Str} {x : Str} {f : Addr} (h : mg x = some (.ref f)) (hx : x ∈ fns) (hn : namesF x = none) : ∃ f, mg x = some (.ref f) ∧ (Lmg K mg fns).f x = some (.ref f) := by
  refine ⟨f, h, ?_⟩
  show (match namesF x with | some v => some v | none => if x ∈ fns then (mg x).bind refV else none) = _
  rw [hn, h]
  simp only [hx, if_true]
  rfl
def spLaw (K : PySem.W.Frag) : Sp := fun vs H Q _ => ∃ a ns, vs = [.ref a] ∧ List.length ns ≤ 63 ∧ SqL K H a (ns.map V.int) ∧ ∀ v H', v = .bl true → Q v H'
theorem spLaw_of {K : PySem.W.Frag} {L : Fn} (hown : ∀ a vs, (∀ H, SqL K H a vs) → L.own a vs) : ∀ vs H Q E, spLaw K vs H Q E → toSp L [] 1 sp_law vs H Q E := by
  rintro _ H Q E ⟨a, ns, rfl, hl, hS, hQ⟩
  refine ⟨rfl, H, fun _ => none, [.fz (.dict [(.str "script", .list (ns.map .int))])], fun r _ => r = .fz (.bool true), fun _ _ => False, ⟨Ex.refl _, fun _ _ z => (nomatch z), rfl, fun _ z => (nomatch z), fun i r q => ?_⟩, ⟨ns, rfl, hl, fun _ => rfl⟩, fun v H' Hf' ω' r af rr _ q => ?_, fun _ _ _ _ _ _ _ z => z.elim⟩
  · match i, q with
    | 0, q =>
      cases q
      refine ⟨.ref a, rfl, .scr ?_ (dd_ints ns)⟩
      rcases hS with q | q
      · exact .inl q
      · exact .inr (hown _ _ fun H' => .inr q)
    | i + 1, q => simp at q
  · subst q
    exact hQ _ _ rr.res.isbl
/-- the promise of _law_error: S tells which defs raise what -/
def sp_law_error (S : Str → List PyData → Str → Prop) : SpD := fun rs P _ => ∃ nm d1 d2 d3 en, rs = [.fz (fnD nm), .fz d1, .fz d2, .fz d3] ∧ S nm [d1, d2, d3] en ∧ ∀ af, P (.fz (.list [.str en, .bool true])) af
section
variable {P : Program} {w : World} {K : PySem.W.Frag} {mg : Str → Option Value} {base : Heap} {L : Fn}
theorem held_mk {k n : Nat} {S : Str → List PyData → Str → Prop} (h : ∀ nm, (∃ ds en, S nm ds en) → ∃ j sp, j ≤ k ∧ CalE P w K mg base L j nm n sp ∧ (∀ ds en, S nm ds en → sp ds en) ∧ ∃ f, mg nm = some (.ref f) ∧ L nm = some (.ref f)) : HeldE P w K mg base L k n S := by
  intro nm v hne hL
  obtain ⟨j, sp, hj, C, imp, f, g1, g2⟩ := h nm hne
  obtain ⟨f', fd, ps, F, hm, hk, hb⟩ := C.ex
  cases hm.symm.trans g1
  cases hL.symm.trans g2
  refine ⟨_, fd, ps, rfl, (F.mono hj).imp fun vs H Q E ⟨hl, Hf, ds, en, c, a, b, hs, d⟩ => ⟨hl, Hf, ds, en, c, a, b, imp _ _ hs, d⟩, hk, hb⟩
theorem hEe {en : Str} {c : Value} {E : XK} {H : Hp} (hc : mg en = some c) (hE : ∀ H', Ex H H' → E c none H') : ∀ c', mg en = some c' → ∀ H', Ex H H' → E c' none H' := fun c' h => by
  cases h.symm.trans hc
  exact hE
theorem CalE.mono {j k n : Nat} {x : Str} {sp : List PyData → Str → Prop} (C : CalE P w K mg base L j x n sp) (h : j ≤ k) : CalE P w K mg base L k x n sp := by
  obtain ⟨f, fd, ps, a, b⟩ := C.ex
  exact ⟨f, fd, ps, a.mono h, b⟩
end
theorem errN_all {Q : Str → Prop} (h1 : Q "InvalidRule") (h2 : Q "InvalidRow") (h3 : Q "InvalidTime") (h4 : Q "InvalidNumber") (h5 : Q "InvalidKind") (h6 : Q "InvalidOutcomes") (h7 : Q "TooMany") (h8 : Q "NothingToUndo") : ∀ y ∈ errN, Q y := by
  intro y hy
  simp only [errN, List.mem_cons, List.not_mem_nil, or_false] at hy
  rcases hy with rfl | rfl | rfl | rfl | rfl | rfl | rfl | rfl <;> assumption
theorem kit_own {K : PySem.W.Frag} {D Dy : Addr} {b : Bool} (hd : PySem.W.hasDictIn K Dy = true) (ht : PySem.W.typeIn K (.ref Dy) = some (.type "type")) (ss : PySem.W.subIn K (.ref D) (.ref D) = some true) (hs : PySem.W.subIn K (.ref D) (.ref Dy) = some b) : PySem.W.kitOne K (.ref D) (.ref Dy) = some b := by
  obtain ⟨cd, hc, _⟩ := PySem.W.any_some hd
  unfold PySem.W.kitOne
  by_cases e : D = Dy
  · subst e
    cases ss.symm.trans hs
    exact if_pos (beq_self_eq_true _)
  · rw [if_neg (fun z => e (Value.ref.inj (beq_iff_eq.mp z)))]
    show (if ((PySem.W.clsIn K Dy).isSome && PySem.W.typeIn K (.ref Dy) == some (.type "type")) = true then _ else none) = _
    have e2 : ((PySem.W.clsIn K Dy).isSome && PySem.W.typeIn K (.ref Dy) == some (.type "type")) = true := by
      rw [hc, ht] <;> rfl
    rw [if_pos e2]
    exact hs
theorem kit_val {K : PySem.W.Frag} {D : Addr} (hs : PySem.W.subIn K (.ref D) (.type "ValueError") = some true) : PySem.W.kitOne K (.ref D) (.type "ValueError") = some true := by
  unfold PySem.W.kitOne
  rw [if_neg (fun z => by cases beq_iff_eq.mp z)]
  show (if PySem.W.kitMeta "ValueError" = true then _ else none) = _
  rw [if_pos (by decide +kernel)]
  exact hs
end DL

namespace LW
open PySem PySem.Spec PyProof.Rows L2 DL
/-! errors: which def raises what -/
def spe_need_rule : List PyData → Str → Prop := fun ds en => ∃ d, ds = [d] ∧ d.canLay0 = true ∧ isRuleB d = false ∧ en = "InvalidRule"
def spe_need_row : List PyData → Str → Prop := fun ds en => ∃ d, ds = [d] ∧ d.canLay0 = true ∧ isRowB d = false ∧ en = "InvalidRow"
def errP (en : Str) (d : PyData) : Bool := match d with
  | .tuple [_, .bool b] => b
  | _ => false
def errG (d : PyData) : PyData := match d with
  | .tuple [x, _] => x
  | _ => .none
def errRows (en : Str) : List PyData := errN.map fun y => .tuple [.str y, .bool (decide (y = en))]
theorem errRows_fil {en : Str} (h : en ∈ errN) : ((errRows en).filter (errP en)).map errG = [.str en] := by
  have key : ∀ ys : List Str, ((ys.map fun y => PyData.tuple [.str y, .bool (decide (y = en))]).filter (errP en)).map errG = (ys.filter fun y => decide (y = en)).map .str := by
    intro ys
    induction ys with
    | nil => rfl
    | cons y ys ih =>
      rw [List.map_cons, List.filter_cons, List.filter_cons]
      show List.map errG (if decide (y = en) = true then _ else _) = List.map .str (if decide (y = en) = true then _ else _)
      split
      · rw [List.map_cons, List.map_cons, ih]; rfl
      · exact ih
  unfold errRows
  rw [key]
  have e : (errN.filter fun y => decide (y = en)) = [en] := by
    have all : ∀ e ∈ errN, (errN.filter fun y => decide (y = e)) = [e] := by decide +kernel
    exact all en h
  rw [e]; rfl
def spe_without : List PyData → Str → Prop := fun ds en => ∃ (r : Rl) (ns : List Int) (d : PyData), ds = [rD r, tI ns, d] ∧ RlOk r ∧ RowOk ns ∧ d.canLay0 = true ∧ isIntB d 0 ((ns.length : Int) - 1) = false ∧ en = "InvalidNumber"
def sErr_k10 : Str → List PyData → Str → Prop := fun nm ds en => nm = "without" ∧ spe_without ds en
theorem sErr_k10_n : ∀ nm ds en, sErr_k10 nm ds en → en = "InvalidNumber" := fun _ _ _ ⟨_, _, _, _, _, _, _, _, _, h⟩ => h
theorem add_Ll {xs ys : List PyData} (h : xs.length + ys.length ≤ 100000) : addD (.list xs) (.list ys) = some (.list (xs ++ ys)) := by
  unfold addD
  first
    | exact if_pos h
    | simp only [h, if_true]
theorem int_lo {i lo hi : Int} (h : i < lo) : isIntB (.int i) lo hi = false := by
  show (decide (lo ≤ i) && decide (i ≤ hi)) = false
  rw [decide_eq_false (by omega)]; rfl
theorem int_hi {i lo hi : Int} (h : hi < i) : isIntB (.int i) lo hi = false := by
  show (decide (lo ≤ i) && decide (i ≤ hi)) = false
  rw [decide_eq_false (by omega : ¬ i ≤ hi), Bool.and_false]
theorem ne_err {x : Str} (hx : PyData.strOk x = true) : neD (.list [.str x, .bool true]) (.list [.str x, .bool true]) = some (.bool false) := by
  unfold neD
  have e : PyData.eqv (.list [.str x, .bool true]) (.list [.str x, .bool true]) = true := by
    simp [PyData.eqv, PyData.eqvAll]
  have sh : SeqAt.shaped (.list [.str x, .bool true]) = true := by
    simp [SeqAt.shaped, PyData.canLay0, PyData.canLayAll0, PyData.depth, PyData.depthAll, hx]
  rw [e, if_pos ⟨sh, sh⟩]; rfl
end LW

/-! a lambda with parameters, handed to a def that calls it -/
namespace DL
open PySem PySem.Spec PyProof.Rows L2 HotX L2H LamX NdefX
/-- the object at f is the lambda, its code object at c -/
def LamO (f : Addr) (q : Str) (params : Arguments) (body : Expr) (scope : Scope) (c : Addr) : HO := .ext fun h => ∃ pm ctv, h.get? f = some (PySem.W.kla_obj "<lambda>" q params body scope [] pm c ctv)
theorem lamO_at {P : Program} {w : World} {H : Hp} {h : Heap} {f c : Addr} {q : Str} {params : Arguments} {body : Expr} {scope : Scope} (hok : HOk P w H h) (e : H f = some (LamO f q params body scope c)) : ∃ pm ctv, h.get? f = some (PySem.W.kla_obj "<lambda>" q params body scope [] pm c ctv) := by
  obtain ⟨z, _, _⟩ := hok f _ e
  exact z
/-- a table of code objects of one name, all of them such that Z -/
def TabC (ps : Array Value) (H : Hp) (q : Str) (Z : Addr → Prop) : Prop := TriplesOk ps.toList ∧ ∀ (pos : Pos) (cv : Value), codeAmong pos ps.toList = some cv → ∃ c, cv = .ref c ∧ H c = some (CodeO c q) ∧ Z c
section
variable {X : Cx} {pins : List (Addr × Obj)} {σ : L2.St} {H : Hp} {s : Shared}
theorem inv_lam {q : Str} {params : Arguments} {body : Expr} {scope : Scope} {c : Addr} {o : Obj} {t' : Nat} {pm ctv : Value} (I : Inv X pins σ H s) (ho : o = PySem.W.kla_obj "<lambda>" q params body scope [] pm c ctv) :
    Inv X pins σ (upd H s.heap.objs.size (LamO s.heap.objs.size q params body scope c)) { s with heap := s.heap.push o, toks := t' } := by
  subst ho
  refine I.laid (a := s.heap.objs.size) (fun b u e => Heap.get?_push_of_some _ e) (Nat.le_refl _) ?_
  have e : (s.heap.push (PySem.W.kla_obj "<lambda>" q params body scope [] pm c ctv)).get? s.heap.objs.size = some (PySem.W.kla_obj "<lambda>" q params body scope [] pm c ctv) := Heap.get?_push_size _ rfl
  exact ⟨⟨pm, ctv, e⟩, ⟨_, e⟩, fun h1 h2 ⟨p, t, z⟩ st => ⟨p, t, st _ z⟩⟩
/-- what the making of a lambda leaves: f the function, c its code object, at P the table -/
structure Lamd (Z : Addr → Prop) (H H1 : Hp) (P f c : Addr) (q : Str) (params : Arguments) (body : Expr) (scope : Scope) : Prop where
  keep : ∀ b o, b ≠ P → H b = some o → H1 b = some o
  tab : ∃ ps, H1 P = some (.tbl ps) ∧ TabC ps H1 q fun c0 => Z c0 ∨ c0 = c
  cz : H c = none ∨ Z c
  nfc : c ≠ f
  f0 : H f = none
  f1 : H1 f = some (LamO f q params body scope c)
  c1 : H1 c = some (CodeO c q)
  only : ∀ b, H b = none → b = f ∨ b = c ∨ H1 b = none
def tLamd (P : Addr) (q : Str) (params : Arguments) (body : Expr) (scope : Scope) : TE := fun σ H Q => ∃ Z : Addr → Prop, (∃ ps, H P = some (.tbl ps) ∧ TabC ps H q Z) ∧ ∀ f c H1, Lamd Z H H1 P f c q params body scope → Q (.ref f) H1
theorem pe_lambda {c P : Addr} {q : Str} {params : Arguments} {body : Expr} {scope : Scope} {pos : Pos} (TB : TabB X.base X.mg c P) (hcode : X.env.code = .ref c) (hq : X.env.qual ++ "<lambda>" = q) (hdef : defaultsOf params X.env = ([], [])) (hcl : closureFor scope X.env = pure []) :
    PE X (.Lambda params body scope pos) (tLamd P q params body scope) := by
  refine ⟨fun pins s σ H Q I ⟨Z, ⟨ps, hP, ht, ha⟩, h⟩ => ?_⟩
  refine PySem.W.kla_eval hdef ?_
  rw [hq]
  have bP : s.heap.BuiltinsAt X.mg P := TB.bm.keeps I.bk
  have hP' : s.heap.get? P = some { cls := .none, data := .fields ps } := I.hok P _ hP
  cases hc : codeAmong pos ps.toList with
  | none =>
    refine PySem.W.kla_makeFunction (mg := X.mg) (c := c) (P := P) (ps := ps) hcl I.ok.glob (I.mod.glob.keeps I.bk) hcode (TB.code.keeps I.bk) hP' ht hc TB.gP bP fun c' ctv h' tk hx hge hlt hrec htb => ?_
    obtain ⟨c2, oc, vs, t, e2, hoc, hd, hv⟩ := hrec
    cases e2
    have nC : H c' = none := I.hok.fresh hge
    have nPc : P ≠ c' := ne_of_none hP nC
    have J1 := inv_table (t' := tk) (more := #[rawInt pos.line, rawInt pos.col, .ref c']) (h' := h') I hP (fun b o hb e => hx b o hb e) htb hge ⟨oc, vs, t, hoc, hd, hv⟩
    have nF := J1.hok.fresh (Nat.le_refl _)
    have J2 := inv_lam (q := q) (params := params) (body := body) (scope := scope) (c := c') (t' := tk) (pm := (X.mg "__name__").getD .none) (ctv := ctv) J1 rfl
    have nF0 : H h'.objs.size = none := I.hok.fresh (Nat.le_trans hge (Nat.le_of_lt hlt))
    have nfc : h'.objs.size ≠ c' := Nat.ne_of_gt hlt
    have nfP : P ≠ h'.objs.size := ne_of_none hP nF0
    have eL : (ps ++ #[rawInt pos.line, rawInt pos.col, .ref c']).toList = ps.toList ++ [rawInt pos.line, rawInt pos.col, .ref c'] := by simp
    have keep : ∀ b o, b ≠ P → H b = some o → upd (upd (upd H P (.tbl (ps ++ #[rawInt pos.line, rawInt pos.col, .ref c']))) c' (CodeO c' q)) h'.objs.size (LamO h'.objs.size q params body scope c') b = some o := fun b o hb e => by
      rw [upd_ne (ne_of_none e nF0), upd_ne (ne_of_none e nC), upd_ne hb]; exact e
    have c1 : upd (upd (upd H P (.tbl (ps ++ #[rawInt pos.line, rawInt pos.col, .ref c']))) c' (CodeO c' q)) h'.objs.size (LamO h'.objs.size q params body scope c') c' = some (CodeO c' q) := by
      rw [upd_ne (Ne.symm nfc), upd_same]
    refine ⟨.ref h'.objs.size, _, J2, rfl, h _ c' _ ⟨keep, ⟨_, by rw [upd_ne nfP, upd_ne nPc, upd_same], by rw [eL]; exact PySem.TriplesOk_snoc _ _ _ _ ht, fun p' cv hcv => ?_⟩, .inl nC, Ne.symm nfc, nF0, upd_same, c1, fun b e => ?_⟩⟩
    · rw [eL] at hcv
      rcases among_app _ ht hcv with z | z
      · obtain ⟨c0, e1, e2, e3⟩ := ha p' cv z
        exact ⟨c0, e1, keep _ _ (fun z => by rw [z, hP] at e2; cases (show HO.tbl ps = CodeO P q from Option.some.inj e2)) e2, .inl e3⟩
      · exact ⟨c', z, c1, .inr rfl⟩
    · by_cases z1 : b = h'.objs.size
      · exact .inl z1
      · by_cases z2 : b = c'
        · exact .inr (.inl z2)
        · refine .inr (.inr ?_)
          have z3 : b ≠ P := fun z => by rw [z, hP] at e; cases e
          rw [upd_ne z1, upd_ne z2, upd_ne z3]; exact e
  | some cv =>
    obtain ⟨c', e, hco, hcz⟩ := ha pos cv hc
    subst e
    refine PySem.W.kla_makeFunctionHit (mg := X.mg) (c := c) (P := P) (ps := ps) hcl I.ok.glob (I.mod.glob.keeps I.bk) hcode (TB.code.keeps I.bk) hP' ht hc bP fun ctv h' tk hx hsz => ?_
    have J1 : Inv X pins σ H { s with heap := h', toks := tk } := I.kept hx
    have nF : H h'.objs.size = none := J1.hok.fresh (Nat.le_refl _)
    have J2 := inv_lam (q := q) (params := params) (body := body) (scope := scope) (c := c') (t' := tk) (pm := (X.mg "__name__").getD .none) (ctv := ctv) J1 rfl
    have keep : ∀ b o, H b = some o → upd H h'.objs.size (LamO h'.objs.size q params body scope c') b = some o := fun b o e => by
      rw [upd_ne (ne_of_none e nF)]; exact e
    refine ⟨.ref h'.objs.size, _, J2, rfl, h _ c' _ ⟨fun b o _ e => keep b o e, ⟨ps, keep _ _ hP, ht, fun p' cv hcv => ?_⟩, .inr hcz, ne_of_none hco nF, nF, upd_same, keep _ _ hco, fun b e => ?_⟩⟩
    · obtain ⟨c0, e1, e2, e3⟩ := ha p' cv hcv
      exact ⟨c0, e1, keep _ _ e2, .inl e3⟩
    · by_cases z1 : b = h'.objs.size
      · exact .inl z1
      · exact .inr (.inr (by rw [upd_ne z1]; exact e))
end
/-! ### the lambda run -/
/-- the lambda, wherever its object and its code object are known, raises so -/
def LamOk (P : Program) (w : World) (K : PySem.W.Frag) (mg : Str → Option Value) (base : Heap) (L : Fn) (k : Nat) (q : Str) (params : Arguments) (body : Expr) (scope : Scope) (n : Nat) (sp : List PyData → Str → Prop) : Prop :=
  ∀ (f c : Addr) (A : Around) (outer : List Env) (s : Shared) (H : Hp) (us : List Value) (vs : List V) (Q : VK) (E : XK), Room k A → Env0 P w K mg base A outer s H → H f = some (LamO f q params body scope c) → H c = some (CodeO c q) → Vals vs us → toSpE L mg n sp vs H Q E →
    codeAny (model P w) A (.call (.ref f) ⟨us, []⟩) (CR (L2N.CX P w) outer P w H s Q E) s
theorem lamok_mk {P : Program} {w : World} {K : PySem.W.Frag} {mg : Str → Option Value} {base : Heap} {L : Fn} {k : Nat} {q : Str} {params : Arguments} {body : Expr} {scope : Scope} {N ps : List Str} {sp : List PyData → Str → Prop} (S : FnScope N ps scope)
    (hbind : ∀ (pm cdv ctv : Value) (us : List Value), us.length = ps.length → bindArgs (PySem.W.kla_fn "<lambda>" q params body scope [] pm cdv ctv) ⟨us, []⟩ = pure (ps.zip us))
    (hbody : ∀ (f : Addr) (cdv : Value) (A : Around) (outer : List Env) (s : Shared) (H : Hp) (vs : List V) (Q : VK) (E : XK) (Hf : Hp) (ds : List PyData) (en : Str) (c : Value), vs.length = ps.length → Room k (A.deeper (envOfC q scope s.heap.objs.size f cdv)) → Ex Hf H → DdAll L Hf vs ds → sp ds en → mg en = some c → (∀ H', Ex H H' → E c none H') →
      ∃ t, PE (cxOf (L2N.CX P w) P w K mg base N q scope f cdv A outer s H E) body t ∧ t (L2.start N vs) H Q) :
    LamOk P w K mg base L (k + 1) q params body scope ps.length sp := by
  intro f c A outer s H us vs Q E hr e0 hf hc r ⟨hn, Hf, ds, en, cv, ex, hd, hsp, hm, hE⟩
  obtain ⟨pm, ctv, ho⟩ := lamO_at e0.hok hf
  obtain ⟨⟨oc, xs, t, hoc, hdc, hvc⟩, _, _⟩ := e0.hok c _ hc
  have KX : K.In s.heap := e0.mod.kin.keeps fun b o e => (e0.bs b o e).1
  have lim : s.heap.NoLimit := e0.mod.nolimit.keeps fun b o e => (e0.bs b o e).1
  have hkind : ∀ y ∈ ps.zip us, scope.names.lookup y.1 = some .local ∨ (scope.names.lookup y.1 = some .cell ∧ ((cellsFrom (s.heap.objs.size + 1) scope.names []).lookup y.1).isSome = true) := fun ⟨n, v⟩ hy =>
    (S.par n (List.of_mem_zip hy).1).imp _root_.id fun z => ⟨z, PySem.W.cellsFrom_some _ _ _ (.inl z)⟩
  refine PySem.W.kla_callFunE hr.depth ho rfl S.co S.gen rfl ⟨c, oc, xs, t, rfl, hoc, hdc, hvc⟩ ?_
  rw [hbind _ _ _ us (by rw [← r.length]; exact hn)]
  refine wpAny_pure (wpAny_newFunctionEnv_cells S.kind hkind fun env he s1 x => ?_)
  subst he
  refine ⟨lim.keeps x.toInCall.keep, ?_⟩
  obtain ⟨tt, h1, h2⟩ := hbody f (.ref c) A outer s H vs Q E Hf ds en cv hn (hr.deeper _) ex hd hsp hm hE
  have J : Inv (cxOf (L2N.CX P w) P w K mg base N q scope f (.ref c) A outer s H E) [] (L2.start N vs) H s1 := inv_start S hr.hd e0 hn r x
  refine PySem.W.kla_codeExpr (wpAny_mono (h1.run [] s1 _ H Q J h2) (fun v s' hq => ?_) fun e s' hq => hq)
  obtain ⟨x', H', J', rv, hq⟩ := hq
  exact ⟨x', H', J'.os, J'.bare, J'.base, J'.hok, rv, hq⟩
end DL

/-! lambdas on data -/
namespace DL
open PySem PySem.Spec PyProof.Rows L2 HotX L2H LamX NdefX
/-- the slot's data, and the table at P beside it -/
def tabA (P : Addr) (q : Str) (d : PyData) : Asr where
  ok := fun K Hf H o v => DL.Dd K Hf v d ∧ o P ∧ ∃ ps, H P = some (.tbl ps) ∧ TriplesOk ps.toList ∧ ∀ (pos : Pos) (cv : Value), codeAmong pos ps.toList = some cv → ∃ c, cv = .ref c ∧ Hf c = some (CodeO c q)
  mono := fun e h w ⟨a, b, ps, c1, c2, c3⟩ => ⟨e.dp a, w _ b, ps, (h _ b).trans c1, c2, fun pos cv hc => let ⟨c, e1, e2⟩ := c3 pos cv hc; ⟨c, e1, e _ _ e2⟩⟩
  view := some d
  sees := fun ex hv ok => by cases hv; exact ex.dp ok.1
/-- a lambda -/
def lamA (q : Str) (params : Arguments) (body : Expr) (scope : Scope) : Asr where
  ok := fun _ Hf _ _ v => ∃ f c, v = .ref f ∧ Hf f = some (LamO f q params body scope c) ∧ Hf c = some (CodeO c q)
  mono := fun e _ _ ⟨f, c, a, b1, b2⟩ => ⟨f, c, a, e _ _ b1, e _ _ b2⟩
  view := none
  sees := fun _ h _ => nomatch h
section
variable {X : Cx} {G : Fx} {e : Expr} {es : List Expr} {n i : Nat} {tl : DTL} {tr : DTR} {x : Str} {p pos : Pos}
def tScr (i : Nat) : DTE := fun ρ Q => ∃ P q d, ρ[i]? = some (some (.ext (tabA P q d))) ∧ Q d ρ
theorem de_scr (h : PE X e (tVar i)) : DE X G e (tScr i) := pe_imp h fun σ H Q ⟨Hf, ω, ρ, Qd, rep, ⟨P, q, d, hi, ht⟩, k⟩ => by
  obtain ⟨v, h1, h2⟩ := rep.slot i _ hi
  exact ⟨v, h1, k _ _ _ _ _ _ rep Stp.refl h2.1 ht⟩
def tLamR (i : Nat) (P : Addr) (q : Str) (params : Arguments) (body : Expr) (scope : Scope) : DTR := fun ρ Q => (∃ d, ρ[i]? = some (some (.ext (tabA P q d)))) ∧ Q (.ext (lamA q params body scope)) ρ
theorem dr_lambda {c P : Addr} {q : Str} {params : Arguments} {body : Expr} {scope : Scope} (TB : TabB X.base X.mg c P) (hcode : X.env.code = .ref c) (hq : X.env.qual ++ "<lambda>" = q) (hdef : defaultsOf params X.env = ([], []) := by rfl) (hcl : closureFor scope X.env = pure [] := by rfl) :
    DR X G (.Lambda params body scope pos) (tLamR i P q params body scope) := pe_imp (pe_lambda TB hcode hq hdef hcl) fun σ H Q ⟨Hf, ω, ρ, Qd, rep, ⟨⟨d, hi⟩, ht⟩, k⟩ => by
  obtain ⟨v0, s1, hd, hoP, ps, hP, hT1, hT2⟩ := rep.slot i _ hi
  have hoP : ω P = some i := hoP
  have nfP : Hf P = none := (rep.own P i hoP).1
  refine ⟨fun c => Hf c = some (CodeO c q), ⟨ps, hP, hT1, fun pos cv hc => let ⟨c, e1, e2⟩ := hT2 pos cv hc; ⟨c, e1, rep.ex _ _ e2, e2⟩⟩, fun f c1 H1 L => ?_⟩
  have ncP : c1 ≠ P := fun z => by
    rcases L.cz with w | w
    · rw [z, hP] at w; cases w
    · rw [z, nfP] at w; cases w
  have nfp : f ≠ P := fun z => by have := L.f0; rw [z, hP] at this; cases this
  let Hf1 : Hp := fun b => if b = f then some (LamO f q params body scope c1) else if b = c1 then some (CodeO c1 q) else Hf b
  have hf1 : Hf1 f = some (LamO f q params body scope c1) := if_pos rfl
  have nfc : c1 ≠ f := L.nfc
  have hc1 : Hf1 c1 = some (CodeO c1 q) := (if_neg nfc).trans (if_pos rfl)
  have other : ∀ b, b ≠ f → b ≠ c1 → Hf1 b = Hf b := fun b h1 h2 => (if_neg h1).trans (if_neg h2)
  have exf : Ex Hf Hf1 := fun b o h => by
    have h3 := rep.ex _ _ h
    by_cases z1 : b = f
    · rw [z1, L.f0] at h3; cases h3
    · by_cases z2 : b = c1
      · have h4 := L.keep _ _ (by rw [z2]; exact ncP) h3
        rw [z2, L.c1] at h4
        rw [z2, hc1]; exact h4
      · rw [other b z1 z2]; exact h
  have ex1 : Ex Hf1 H1 := fun b o h => by
    by_cases z1 : b = f
    · rw [z1] at h ⊢; rw [L.f1]; rw [hf1] at h; exact h
    · by_cases z2 : b = c1
      · rw [z2] at h ⊢; rw [L.c1]; rw [hc1] at h; exact h
      · rw [other b z1 z2] at h
        exact L.keep _ _ (fun z => by rw [z, nfP] at h; cases h) (rep.ex _ _ h)
  have own1 : ∀ b j, ω b = some j → Hf1 b = none := fun b j w => by
    obtain ⟨z1, o, z2⟩ := rep.own b j w
    have n1 : b ≠ f := fun z => by rw [z, L.f0] at z2; cases z2
    have n2 : b ≠ c1 := fun z => by
      rcases L.cz with y | y
      · rw [z, y] at z2; cases z2
      · rw [z, y] at z1; cases z1
    rw [other b n1 n2]; exact z1
  obtain ⟨ps1, hP1, hU1, hU2⟩ := L.tab
  refine k (.ref f) H1 Hf1 ω ρ (.ext (lamA q params body scope)) (fun _ => False) ⟨ex1, fun b j w => ⟨own1 b j w, ?_⟩, rep.len, rep.fix, fun j r hr => ?_⟩ ⟨exf, fun b o h w => L.keep b o (fun z => by rw [z, hoP] at w; cases w) h, fun b o h => ?_, fun b o h w z => ?_, fun b j w => .inl ⟨j, w⟩⟩ (fun _ z => z.elim) ⟨f, c1, rfl, hf1, hc1⟩ ht
  · obtain ⟨_, o, z2⟩ := rep.own b j w
    by_cases z : b = P
    · exact ⟨_, by rw [z]; exact hP1⟩
    · exact ⟨o, L.keep _ _ z z2⟩
  · obtain ⟨u, u1, u2⟩ := rep.slot j r hr
    refine ⟨u, u1, ?_⟩
    by_cases hj : j = i
    · subst hj
      rw [hi] at hr
      cases hr
      obtain ⟨w1, w2, _⟩ := u2
      refine ⟨exf.dp w1, w2, ps1, hP1, hU1, fun pos cv hc => ?_⟩
      obtain ⟨c0, e1, e2, e3⟩ := hU2 pos cv hc
      refine ⟨c0, e1, ?_⟩
      rcases e3 with e3 | e3
      · exact exf _ _ e3
      · rw [e3]; exact hc1
    · refine u2.mono exf (fun b hb => ?_) fun _ z => z
      obtain ⟨_, o, z2⟩ := rep.own b j hb
      have nb : b ≠ P := fun z => by rw [z, hoP] at hb; exact hj (Option.some.inj hb).symm
      rw [z2]; exact L.keep _ _ nb z2
  · by_cases z : b = P
    · exact ⟨_, by rw [z]; exact hP1⟩
    · exact ⟨o, L.keep _ _ z h⟩
  · have n1 : b ≠ f := fun y => by rw [y, L.f0] at h; cases h
    have n2 : b ≠ c1 := fun y => by
      rcases L.cz with g | g
      · rw [y, g] at h; cases h
      · rw [y, g] at z; cases z
    rw [other b n1 n2]; exact z
end
end DL

/-! a lambda handed on; a try around its call; the law with such tables -/
namespace DL
open PySem PySem.Spec PyProof.Rows L2 HotX L2H LamX NdefX
/-- a call of resources that nobody owns, at a state -/
theorem call_coreR {G : Fx} {n : Nat} {sp : SpD} {Hf1 H1 : Hp} {ω1 : Addr → Option Nat} {σ : L2.St} {ρ1 : DSt} {vs : List V} {rs : List Res} {Q : VK} {Qd : Res → DSt → Prop} (rep1 : RepF G Hf1 H1 ω1 σ ρ1) (ra : RepF ⟨G.K, vs, []⟩ Hf1 H1 (fun _ => none) (vs.map some) (rs.map some)) (hl : vs.length = n)
    (q1 : sp rs (fun r _ => Qd r ρ1) (fun _ _ => False))
    (k : ∀ v H2 Hf2 r (S : Own), RepF G Hf2 H2 ω1 σ ρ1 → Stp Hf1 H1 ω1 Hf2 H2 ω1 → Air H1 ω1 Hf2 H2 ω1 S → RepV G.K Hf2 H2 S v r → Qd r ρ1 → Q v H2) : toSp G.K [] n sp vs H1 Q E0 := by
  refine ⟨hl, Hf1, fun _ => none, rs, _, _, ra, q1, fun v H2 Hf2 ω2 r af rr st2 q2 => ?_, fun _ _ _ _ _ _ _ z => z⟩
  have nO : ∀ a, ω2 a ≠ none → H1 a = none := fun a ha => by
    cases q : ω2 a with
    | none => exact absurd q ha
    | some i => exact (st2.new a i q).elim (fun ⟨j, z⟩ => nomatch z) fun z => z
  have repC : RepF G Hf2 H2 ω1 σ ρ1 := by
    refine ⟨rr.ex, fun b j w => ?_, rep1.len, rep1.fix, fun j r' w => ?_⟩
    · obtain ⟨z1, o, z2⟩ := rep1.own b j w
      exact ⟨st2.cap b o z2 rfl z1, o, st2.fr b o z2 rfl⟩
    · obtain ⟨u, u1, u2⟩ := rep1.slot j r' w
      refine ⟨u, u1, u2.mono st2.fz (fun b hb => ?_) fun _ z => z⟩
      obtain ⟨z1, o, z2⟩ := rep1.own b j hb
      rw [z2]; exact st2.fr b o z2 rfl
  have stC : Stp Hf1 H1 ω1 Hf2 H2 ω1 := ⟨st2.fz, fun b o q _ => st2.fr b o q rfl, st2.keep, fun b o q _ z => st2.cap b o q rfl z, fun b j w => .inl ⟨j, w⟩⟩
  refine k v H2 Hf2 r (fun a => ω2 a = some vs.length) repC stC (fun a ha => ?_) rr.res q2
  have hn := nO a (by rw [ha]; exact fun z => nomatch z)
  obtain ⟨z1, z2⟩ := rr.own a _ ha
  refine ⟨.inl hn, z1, ?_, z2⟩
  cases q : ω1 a with
  | none => rfl
  | some i => obtain ⟨_, o, h'⟩ := rep1.own a i q; rw [hn] at h'; cases h'
section
variable {X : Cx} {G : Fx} {e : Expr} {es : List Expr} {n i j k : Nat} {tl : DTL} {tr : DTR} {x : Str} {p pos : Pos} {sp : SpD} {q : Str} {params : Arguments} {body : Expr} {scope : Scope}
/-- f(lambda, ..) -/
def cCallL (q : Str) (params : Arguments) (body : Expr) (scope : Scope) (sp : SpD) (tr : DTR) (tl : DTL) : DTR := fun ρ Q => tr ρ fun r ρ1 => r = .ext (lamA q params body scope) ∧ tl ρ1 fun ds ρ2 => sp (.ext (lamA q params body scope) :: ds.map Res.fz) (fun r _ => Q r ρ2) (fun _ _ => False)
theorem dr_callL (C : Cal X.prog X.w X.K X.mg X.base G.K j x [] (n + 1) sp) (hr : Room k X.A) (hl : DR X G e tr) (ha : DD X G es n tl) (hjk : j ≤ k := by decide) (hg : Gl X x := by rfl) (hdb : (x == ("__debug__" : Str)) = false := by decide) (he : starEach (e :: es) X.env = (false, eval e X.env) :: starEach es X.env := by rfl) (hpl : (backTo pos (starEach es X.env)).any (·.1) = false := by rfl) :
    DR X G (.Call (.Name x p) (e :: es) [] pos) (cCallL q params body scope sp tr tl) := by
  obtain ⟨f, fd, ps, F, hm, hk, hb⟩ := C.ex
  refine pe_imp (pe_call (E := E0) F (hr.mono hjk) hg hm hk hb .nil (fun _ _ _ _ _ _ _ h => h.elim) (pa_cons hl ha he) hdb he hpl) fun σ H Q ⟨Hf, ω, ρ, Qd, rep, ht, kk⟩ => ?_
  refine ⟨Hf, ω, ρ, _, rep, ht, fun v H1 Hf1 ω1 ρ1 r S rep1 st1 hS hv q1 => ?_⟩
  obtain ⟨rfl, q1⟩ := q1
  obtain ⟨f0, c0, rfl, hf0, hc0⟩ := hv
  refine ⟨Hf1, ω1, ρ1, _, rep1, q1, fun vs H2 Hf2 ω2 ρ2 ds hl2 rep2 st2 hvs q2 => ?_⟩
  show toSp G.K [] (n + 1) sp ((.ref f0 :: vs) ++ []) H2 Q E0
  rw [List.append_nil]
  have ra : RepF ⟨G.K, .ref f0 :: vs, []⟩ Hf2 H2 (fun _ => none) ((.ref f0 :: vs).map some) ((Res.ext (lamA q params body scope) :: ds.map Res.fz).map some) := by
    have rb := rep_args (L := G.K) rep2.ex hvs
    refine ⟨rep2.ex, fun _ _ z => (nomatch z), ?_, fun _ z => (nomatch z), fun l r' w => ?_⟩
    · have := rb.len
      rw [List.map_cons, List.map_cons, List.length_cons, List.length_cons, this]
    · cases l with
      | zero =>
        cases w
        exact ⟨_, rfl, f0, c0, rfl, st2.fz _ _ hf0, st2.fz _ _ hc0⟩
      | succ l =>
        obtain ⟨u, u1, u2⟩ := rb.slot l r' (by simpa using w)
        exact ⟨u, by simpa using u1, u2.mono (Ex.refl _) (fun _ z => nomatch z) fun _ z => nomatch z⟩
  refine call_coreR (Qd := Qd) rep2 ra (by rw [List.length_cons, hvs.len, hl2]) q2 fun u H3 Hf3 r3 S3 rep3 st3 hS3 hr3 q3 => ?_
  have st12 := st1.trans st2
  exact kk u H3 Hf3 ω2 ρ2 r3 S3 rep3 (st12.trans st3) (fun a ha => ⟨back_air st12 (hS3 a ha).1, (hS3 a ha).2⟩) hr3 q3
end
/-! ### a try around the lambda's call -/
section
variable {X : Cx} {G : Fx} {e : Expr} {es : List Expr} {n : Nat} {tl : DTL} {i j k : Nat} {p pos pos2 pos3 pos' np : Pos} {t : TA} {W : WX} {q x : Str} {params : Arguments} {body : Expr} {scope : Scope} {S : List PyData → Str → Prop}
def tCallL2 (X : Cx) (L : Fn) (j n : Nat) (q : Str) (params : Arguments) (body : Expr) (scope : Scope) (S : List PyData → Str → Prop) (W : WX) (t : TA) : TE := fun σ H Q => ∃ f c, σ[j]? = some (some (.ref f)) ∧ H f = some (LamO f q params body scope c) ∧
  t σ H fun vs H1 => H1 f = some (LamO f q params body scope c) ∧ H1 c = some (CodeO c q) ∧ toSpE L X.mg n S vs H1 Q (WE W σ)
theorem fnAtL {pins : List (Addr × Obj)} {σ : L2.St} {H : Hp} {s : Shared} {f c : Addr} (I : Inv X pins σ H s) (e : H f = some (LamO f q params body scope c)) : PySem.W.FnAt f s.heap := by
  obtain ⟨pm, ctv, h⟩ := lamO_at I.hok e
  exact ⟨_, _, _, _, h⟩
theorem pe_callL2 {L : Fn} (HL : LamOk X.prog X.w X.K X.mg X.base L k q params body scope n S) (hr : Room k X.A) (hN : X.N[j]? = some x) (hv : Vis X.env.scope x) (tk : L2N.Takes X W) (ha : PA X (e :: es) t) (hdb : (x == ("__debug__" : Str)) = false := by decide) (hcd : (x == ("__classdict__" : Str)) = false := by decide)
    (he : starEach (e :: es) X.env = (false, eval e X.env) :: starEach es X.env := by rfl) (hpl : (backTo pos (starEach es X.env)).any (·.1) = false := by rfl) : PE X (.Call (.Name x p) (e :: es) [] pos) (tCallL2 X L j n q params body scope S W t) := by
  refine ⟨fun pins s σ H Q I ⟨f, c, hs, hf, ht⟩ => ?_⟩
  refine wpAny_Call_Name_kw (thn ((pe_var (pos := p) hN hv hdb hcd).run pins s σ H (fun v H1 => H1 = H ∧ v = .ref f) I ⟨_, hs, rfl, rfl⟩) fun u s1 ⟨v, H1, I1, r1, e1, e2⟩ => ?_)
  subst e1 e2
  cases r1
  refine PySem.W.callWith_F (first := []) (fnAtL I1 hf) (thn (ha.run pos pins s1 σ _ _ I1 ht) fun us s2 ⟨vs, H2, I2, r, h1, h2, q2⟩ => ⟨fnAtL I2 h1, ?_⟩) he hpl
  show wpAny _ _ (call (.ref f) us) _ _ _
  refine wpAny_call (codeAny_mono (HL f c X.A X.stack s2 H2 us vs Q (WE W σ) hr I2.env0 h1 h2 r q2) fun r s' hq => ?_)
  match r, hq with
  | .error e, hq => exact L2N.passAt tk σ pins H2 s2 e s' I2 hq
  | .ok (.ret u), hq => exact I2.after hq
  | .ok .next, hq => exact False.elim hq
  | .ok .brk, hq => exact False.elim hq
  | .ok .cont, hq => exact False.elim hq
def sTryL (i j n : Nat) (q : Str) (params : Arguments) (body : Expr) (scope : Scope) (S : List PyData → Str → Prop) (tl : DTL) (ts : Addr → Str → DTS) : DTS := fun D ρ => ρ[j]? = some (some (.ext (lamA q params body scope))) ∧ tl ρ fun ds ρ1 => ∃ en, S ds en ∧
  ∀ a, ts a en { nx := fun ρ' => D.nx (ρ'.set i none), rt := fun _ _ => False } (ρ1.set i (some (.ext (isAt a))))
theorem ds_tryL {nx cl : Str} {C0 : Addr} {b0 : Stmt} {suite : List Stmt} {ts : Addr → Str → DTS} (hs : X.stack = X.env :: X.outer) (hf : X.env.frame = some X.env.locals) (hN : X.N.Nodup) (hi : X.N[i]? = some nx) (hln : X.env.kindOf nx = some .local) (hF : G.F = []) (hm : X.mg "ChargeError" = some (.ref C0)) (hg : Gl X "ChargeError")
    (hr : Room k X.A) (HL : LamOk X.prog X.w X.K X.mg X.base G.K k q params body scope n S) (HE : ∀ ds en, S ds en → ErrF X.K X.mg en) (hj : X.N[j]? = some cl) (hv : Vis X.env.scope cl) (hdb : (cl == ("__debug__" : Str)) = false) (hcd : (cl == ("__classdict__" : Str)) = false)
    (ha : ∀ (pn : List (Addr × Obj)) (xe : Value → Shared → Prop), DD (X.tr pn xe) G (e :: es) n tl)
    (hsu : ∀ (a : Addr) (oe : Obj) (cls : Value) (pn : List (Addr × Obj)) (en : Str), L2N.Zn cls none oe → (∃ vs, oe.data = .fields vs) → X.mg en = some cls → ErrF X.K X.mg en → DSs (X.suite a ((a, oe) :: pn)) G (b0 :: suite) (ts a en))
    (he : starEach (e :: es) X.env = (false, eval e X.env) :: starEach es X.env := by rfl) (hpl : (backTo pos2 (starEach es X.env)).any (·.1) = false := by rfl) (hsw : swapsWith (.Call (.Name cl p) (e :: es) [] pos2) none pos3.line X.env = pure false := by rfl) :
    DS X G (.Try [.Expr (.Call (.Name cl p) (e :: es) [] pos2) pos3] [.ExceptHandler (some (.Name "ChargeError" np)) (some nx) (b0 :: suite) pos'] [] [] pos) (sTryL i j n q params body scope S tl ts) := by
  have hb : ∀ (W : WX) (pn : List (Addr × Obj)) (xe : Value → Shared → Prop), L2N.Takes (X.tr pn xe) W → PassesOwn (model X.prog X.w) X.A X.env xe → PSs (X.tr pn xe) [.Expr (.Call (.Name cl p) (e :: es) [] pos2) pos3] (tDrop (tCallL2 X G.K j n q params body scope S W (lD G n tl))) := fun W pn xe tk _ =>
    pss_one (ps_expr (pe_callL2 (X := X.tr pn xe) HL hr hj hv tk (ha pn xe) hdb hcd he hpl) hsw)
  refine ps_imp (L2N.ps_try_as (X := X) (i := i) (c := .ref C0) (Wout := fun _ _ _ _ => False) (tb := fun W => tDrop (tCallL2 X G.K j n q params body scope S W (lD G n tl))) (ts := fun a cls d D σ H => ∃ en, d = none ∧ X.mg en = some cls ∧ ErrF X.K X.mg en ∧ lS G (ts a en) D σ H) hs hf hN hi hln ⟨hg, by decide, .inl hm⟩ takesN hb
    fun a oe cls d pn hz hd => ⟨fun pins s σ H D I ⟨en, e1, e2, e3, h⟩ => by subst e1; exact (hsu a oe cls pn en hz hd e2 e3).run pins s σ H D I h⟩) fun D σ H ⟨Hf, ω, ρ, Dd, rep, ⟨hj1, ht⟩, k1, k2, k3, k4⟩ => ?_
  obtain ⟨v, hv1, f, c, rfl, hf1, hc1⟩ := rep.slot j _ hj1
  refine ⟨f, c, hv1, rep.ex _ _ hf1, Hf, ω, ρ, _, rep, ht, fun vs H1 Hf1 ω1 ρ1 ds hl rep1 st1 hvs q1 => ?_⟩
  obtain ⟨en, hS, hts⟩ := q1
  have HF := HE _ _ hS
  obtain ⟨De, g1, _, _, _, _, _, _, g8, _⟩ := HF.ex
  refine ⟨rep1.ex _ _ (st1.fz _ _ hf1), rep1.ex _ _ (st1.fz _ _ hc1), hvs.len.trans hl, Hf1, ds, en, .ref De, rep1.ex, hvs, hS, g1, fun H' ex' => ⟨true, g8 _ hm, fun _ a na => ⟨en, rfl, g1, HF, ?_⟩, fun z => nomatch z⟩⟩
  have gr : Grw Hf1 H1 Hf1 H' := ⟨Ex.refl _, ex', rep1.ex.trans ex', fun _ _ _ h => h⟩
  obtain ⟨ω2, r2, s2, _⟩ := (gr.rep rep1).put (v := .ref a) (i := i) (r := .ext (isAt a)) (S := fun _ => False) Stp.refl (by rw [hF]; exact List.not_mem_nil) air_none rfl
  refine ⟨Hf1, ω2, _, _, r2, hts a, fun σ3 H3 Hf3 ω3 ρ3 rep3 st3 q3 => ?_, ?_, ?_, ?_⟩
  · exact k1 _ _ _ _ _ (rep3.unset i hF) (((st1.trans (gr.stp rep1)).trans s2).trans st3) q3
  · exact fun _ _ _ _ _ _ _ _ z => z.elim
  · exact fun _ _ _ _ _ _ _ z => z.elim
  · exact fun _ _ _ _ _ _ _ z => z.elim
end
/-- the promise of _law_error for a lambda -/
def sp_law_errorL (q : Str) (params : Arguments) (body : Expr) (scope : Scope) (S : List PyData → Str → Prop) : SpD := fun rs P _ => ∃ d1 d2 d3 en, rs = [.ext (lamA q params body scope), .fz d1, .fz d2, .fz d3] ∧ S [d1, d2, d3] en ∧ ∀ af, P (.fz (.list [.str en, .bool true])) af
end DL

/-! lambda a, b, c: g(a, b); the law whose code object has a table -/
namespace DL
open PySem PySem.Spec PyProof.Rows L2 HotX L2H LamX NdefX
abbrev lamPar (p1 p2 p3 : Pos) : Arguments := { posonlyargs := [], args := [{ arg := "a", annotation := none, pos := p1 }, { arg := "b", annotation := none, pos := p2 }, { arg := "c", annotation := none, pos := p3 }], vararg := none, kwonlyargs := [], kw_defaults := [], kwarg := none, defaults := [] }
abbrev lamSc (g : Str) : Scope := { kind := .function, names := [("a", .local), ("b", .local), ("c", .local), (g, .globalImplicit)], isGenerator := false, isCoroutine := false, more := [] }
abbrev lamB2 (g : Str) (p1 p2 p3 p4 : Pos) : Expr := .Call (.Name g p1) [.Name "a" p2, .Name "b" p3] [] p4
theorem lamS (g : Str) : FnScope ["a", "b", "c"] ["a", "b", "c"] (lamSc g) where
  kind := rfl
  co := rfl
  gen := rfl
  nd := by decide +kernel
  pre := rfl
  par := fun x hx => by
    simp only [List.mem_cons, List.not_mem_nil, or_false] at hx
    rcases hx with rfl | rfl | rfl <;> exact .inl rfl
  nofree := fun y hy => by
    simp only [List.mem_cons, List.not_mem_nil, or_false] at hy
    rcases hy with rfl | rfl | rfl | rfl <;> exact fun z => nomatch z
section
variable {P : Program} {w : World} {K : PySem.W.Frag} {mg : Str → Option Value} {base : Heap} {L : Fn}
theorem lamok2 {j : Nat} {g q : Str} {spg : List PyData → Str → Prop} (C : CalE P w K mg base L j g 2 spg) (hg : (lamSc g).names.lookup g = some .globalImplicit) (hdb : (g == ("__debug__" : Str)) = false) (p1 p2 p3 p4 p5 p6 p7 : Pos) :
    LamOk P w K mg base L (j + 1) q (lamPar p1 p2 p3) (lamB2 g p4 p5 p6 p7) (lamSc g) 3 fun ds en => spg (ds.take 2) en := by
  refine lamok_mk (N := ["a", "b", "c"]) (ps := ["a", "b", "c"]) (lamS g) (fun pm cdv ctv us hl => match us, hl with | [_, _, _], _ => rfl) fun f cdv A outer s H vs Q E Hf ds en c hn hr ex hd hsp hm hE => ?_
  obtain ⟨f', fd, ps, F, hm', hk, hb⟩ := C.ex
  have hl := hd.len
  rw [hn] at hl
  obtain ⟨d1, d2, d3, rfl⟩ : ∃ a b c, ds = [a, b, c] := by
    match ds, hl with
    | [a, b, c], _ => exact ⟨a, b, c, rfl⟩
  refine ⟨_, pe_callS (X := cxOf (L2N.CX P w) P w K mg base ["a", "b", "c"] q (lamSc g) f cdv A outer s H E) (E := WE fun cls d _ H => E cls d H) (t := lD ⟨L, vs, []⟩ 2 (tD1 (tVarD 0) (tD1 (tVarD 1) tD0))) F hr hg hm' hk hb (fun σ => L2N.passAt (L2N.takes_of rfl rfl rfl rfl) σ) (dd_cons (de_var (pv 0)) (dd_cons (de_var (pv 1)) dd_nil)) hdb, ?_⟩
  refine ⟨Hf, fun _ => none, _, fun ds' _ => spg ds' en, rep_start (rep_args ex hd) (fun _ z => nomatch z), hsp, fun vs' H1 Hf1 ω1 ρ1 ds' hl' rep1 st1 hv q1 => ⟨hv.len.trans hl', Hf1, ds', en, c, rep1.ex, hv, q1, hm, fun H' ex' => ?_⟩⟩
  exact hE H' (Ex.trans (fun a o h => st1.fr a o h rfl) ex')
/-! ### the law -/
structure FunC (K : PySem.W.Frag) (x : Str) (st : Stmt) (f : Addr) (fd : FuncData) (cd : Value) : Prop where
  ex : ∃ (oc : Value) (od : Option Addr) (kV doc pm : Value) (an : Option Addr) (ct : Value) (osl : Array (Option Value)),
    fd = PySem.W.fnOf x x (defArgs st) (defBody st) (defScope st) .none kV doc pm an cd ct ∧ K.lookup f = some ⟨oc, od, .func fd, osl⟩ ∧ PySem.W.codeIn K cd x = true
theorem dfn_okC {x : Str} {st : Stmt} {f : Addr} {fd : FuncData} {cd : Value} {N ps : List Str} {k : Nat} {sp : SpD} (T : FunC K x st f fd cd) (S : FnScope N ps (defScope st))
    (hbody : ∀ (A : Around) (outer : List Env) (s : Shared) (H : Hp) (vs : List V) (E : XK) (rs : List Res) (Pd : Res → Af → Prop) (Ed : Value → Af → Prop), vs.length = ps.length → Room k (A.deeper (envOfC x (defScope st) s.heap.objs.size f cd)) → sp rs Pd Ed →
      ∃ t, DSs (cxOf CX0 P w K mg base N x (defScope st) f cd A outer s H E).nox ⟨L, vs, []⟩ (defBody st) t ∧ t { nx := fun ρ => Pd (.fz .none) fun k => (ρ[k]?).bind fun o => o, rt := Pd } (start0 N rs)) :
    FnOk P w K mg base CX0 (k + 1) f fd ps (toSp L [] ps.length sp) := by
  obtain ⟨_, _, _, _, _, _, _, _, rfl, look, code⟩ := T.ex
  refine fn_of look code S (fun vs H Q E h => h.1) fun A outer s H vs Q E hr h => ?_
  obtain ⟨hn, Hf, ω, rs, Pd, Ed, rep, hsp, hP, hE⟩ := h
  obtain ⟨t, h1, h2⟩ := hbody A outer s H vs E rs Pd Ed hn hr hsp
  refine ⟨_, h1.nox, Hf, ω, _, _, rep_start rep (fun _ z => nomatch z), h2, fun σ' H' Hf' ω' ρ' rep' st' q => ?_, fun v H' Hf' ω' r af rr st' q => hP _ _ _ _ _ _ rr st' q, fun _ _ _ _ _ _ _ z => z.elim, fun _ _ _ _ _ _ _ z => z.elim⟩
  obtain ⟨ω2, r2, s2⟩ := rep'.ret (v := .non) (r := .fz .none) (S := fun _ => False) st' (fun z => nomatch z) air_none .non
  exact hP _ _ _ _ _ _ r2 s2 q
end
def sp_lawT (P : Addr) (q : Str) : SpD := fun rs Pd _ => ∃ ns : List Int, rs = [.ext (tabA P q (.dict [(.str "script", .list (ns.map .int))]))] ∧ ns.length ≤ 63 ∧ ∀ af, Pd (.fz (.bool true)) af
def spLawT (K : PySem.W.Frag) (P : Addr) : Sp := fun vs H Q _ => ∃ a ns, vs = [.ref a] ∧ List.length ns ≤ 63 ∧ SqL K H a (ns.map V.int) ∧ H P = some (.tbl #[]) ∧ ∀ v H', v = .bl true → Q v H'
theorem spLawT_of {K : PySem.W.Frag} {L : Fn} {P : Addr} {q : Str} (hown : ∀ a vs, (∀ H, SqL K H a vs) → L.own a vs) : ∀ vs H Q E, spLawT K P vs H Q E → toSp L [] 1 (sp_lawT P q) vs H Q E := by
  rintro _ H Q E ⟨a, ns, rfl, hl, hS, hP, hQ⟩
  let Hf : Hp := fun b => if b = P then none else H b
  have hfP : Hf P = none := if_pos rfl
  have hfo : ∀ b, b ≠ P → Hf b = H b := fun b h => if_neg h
  have ex : Ex Hf H := fun b o h => by
    by_cases z : b = P
    · rw [z, hfP] at h; cases h
    · rw [hfo b z] at h; exact h
  refine ⟨rfl, Hf, fun b => if b = P then some 0 else none, [.ext (tabA P q (.dict [(.str "script", .list (ns.map .int))]))], fun r _ => r = .fz (.bool true), fun _ _ => False, ⟨ex, fun b i z => ?_, rfl, fun _ z => (nomatch z), fun i r hr => ?_⟩, ⟨ns, rfl, hl, fun _ => rfl⟩, fun v H' Hf' ω' r af rr _ e => ?_, fun _ _ _ _ _ _ _ z => z.elim⟩
  · by_cases e : b = P
    · rw [e]; exact ⟨hfP, _, hP⟩
    · rw [if_neg e] at z; cases z
  · match i, hr with
    | 0, hr =>
      cases hr
      refine ⟨.ref a, rfl, .scr ?_ (dd_ints ns), if_pos rfl, #[], hP, True.intro, fun pos cv hc => ?_⟩
      · rcases hS with h | h
        · refine .inl ?_
          have na : a ≠ P := fun z => by
            rw [z] at h
            rcases h with h | ⟨o, h⟩ <;> (rw [hP] at h; cases h)
          rcases h with h | ⟨o, h⟩
          · exact .inl ((hfo a na).trans h)
          · exact .inr ⟨o, (hfo a na).trans h⟩
        · exact .inr (hown _ _ fun H' => .inr h)
      · have z : codeAmong pos [] = some cv := hc
        simp [codeAmong] at z
    | i + 1, hr => simp at hr
  · subst e
    exact hQ _ _ rr.res.isbl
/-- the code object's table -/
def codA (v : Value) : Addr := match v with
  | .ref c => c
  | _ => 0
def tabAt (K : PySem.W.Frag) (c : Addr) : Addr := match K.lookup c with
  | some ⟨_, _, .fields vs, _⟩ => (match (vs[11]? : Option Value) with
    | some (.ref P) => P
    | _ => 0)
  | _ => 0
end DL
namespace DL
open PySem PySem.Spec PyProof.Rows L2
theorem lamok_up {P : Program} {w : World} {K : PySem.W.Frag} {mg : Str → Option Value} {base : Heap} {L : Fn} {j k n : Nat} {q : Str} {params : Arguments} {body : Expr} {scope : Scope} {sp : List PyData → Str → Prop} (h : LamOk P w K mg base L j q params body scope n sp) (hk : j ≤ k) : LamOk P w K mg base L k q params body scope n sp :=
  fun f c A outer s H us vs Q E hr => h f c A outer s H us vs Q E (hr.mono hk)
end DL
namespace DL
open PySem PySem.Spec PyProof.Rows L2
theorem dr_callLE {X : Cx} {G : Fx} {e : Expr} {es : List Expr} {n i j k : Nat} {tl : DTL} {x : Str} {p pos : Pos} {q : Str} {params : Arguments} {body : Expr} {scope : Scope} {P : Addr} {S : List PyData → Str → Prop} (C : Cal X.prog X.w X.K X.mg X.base G.K j x [] (n + 1) (sp_law_errorL q params body scope S)) (hr : Room k X.A) (hl : DR X G e (tLamR i P q params body scope)) (ha : DD X G es n tl) (hjk : j ≤ k := by decide) (hg : Gl X x := by rfl) (hdb : (x == ("__debug__" : Str)) = false := by decide) (he : starEach (e :: es) X.env = (false, eval e X.env) :: starEach es X.env := by rfl) (hpl : (backTo pos (starEach es X.env)).any (·.1) = false := by rfl) :
    DR X G (.Call (.Name x p) (e :: es) [] pos) (cCallL q params body scope (sp_law_errorL q params body scope S) (tLamR i P q params body scope) tl) := dr_callL C hr hl ha hjk hg hdb he hpl
end DL

/-! a lambda that hands on to a def with *rest; errors from inside a loop -/
namespace DL
open PySem PySem.Spec PyProof.Rows L2 HotX L2H LamX NdefX
section
variable {X : Cx} {G : Fx} {H0 : Hp} {st : Stmt} {t u : DTS} {pos : Pos} {tg iter : Expr} {body : List Stmt} {ti : DTL}
def sOr (t u : DTS) : DTS := fun D ρ => t D ρ ∨ u D ρ
theorem xs_or (h1 : PS X st (lX G H0 t)) (h2 : PS X st (lX G H0 u)) : PS X st (lX G H0 (sOr t u)) := ⟨fun pins s σ H D I ⟨Hf, ω, ρ, Dd, rep, x0, ht, k⟩ =>
  ht.elim (fun z => h1.run pins s σ H D I ⟨Hf, ω, ρ, Dd, rep, x0, z, k⟩) fun z => h2.run pins s σ H D I ⟨Hf, ω, ρ, Dd, rep, x0, z, k⟩⟩
theorem xs_for {js : List Nat} {g : DTG} (hp : PassesOwn (model X.prog X.w) X.A X.env X.xe) (hc : X.calm = true) (hi : DI X G tg iter ti) (hg : DG X G tg js g) (hb : PSs X body (lX G H0 t))
    (hs : ∀ x, foldedSetIterable iter X.env x = pure x := by intro _; rfl) : PS X (.For tg iter body [] pos) (lX G H0 (sFor ti g t)) := ps_imp (ps_for hp hc hi hg hb hs) fun D σ H ⟨Hf, ω, ρ, Dd, rep, x0, ht, k1, k2, k3, k4⟩ => by
  refine ⟨Hf, ω, ρ, _, rep, ht, fun J H1 Hf1 ω1 ρ1 ds rep1 st1 wk ⟨I, i0, i1, i2⟩ => ?_⟩
  refine ⟨fun i m σ' H' => m = ds.length - i ∧ i ≤ ds.length ∧ ∃ Hf' ω' ρ', RepF G Hf' H' ω' σ' ρ' ∧ Stp Hf H ω Hf' H' ω' ∧ Ex Hf1 Hf' ∧ I i ρ', ⟨_, rfl, Nat.zero_le _, Hf1, ω1, ρ1, rep1, st1, Ex.refl _, i0⟩, ?_⟩
  rintro i m σ' H' ⟨rfl, hi, Hf', ω', ρ', rep', st', ex', hI⟩
  by_cases hlt : i < ds.length
  · refine .inr ⟨wk.go i H' hlt (ex'.trans rep'.ex), fun σ2 H2 => ∃ Hf2 ω2 ρ2, RepF G Hf2 H2 ω2 σ2 ρ2 ∧ Stp Hf H ω Hf2 H2 ω2 ∧ Ex Hf1 Hf2 ∧ I (i + 1) ρ2, fun σ2 H2 ⟨Hf2, ω2, ρ2, q⟩ => ⟨ds.length - (i + 1), by omega, rfl, hlt, Hf2, ω2, ρ2, q⟩, fun x H2 hy => ?_⟩
    have hd : ds[i]? = some ds[i] := List.getElem?_eq_getElem hlt
    obtain ⟨Hf2, g2, hx⟩ := wk.yld i Hf' H' x H2 _ hd ex' rep'.ex hy
    refine ⟨Hf2, ω', ρ', _, ds[i], g2.rep rep', hx, i1 i _ ρ' hd hI, fun σ3 H3 Hf3 ω3 ρ3 rep3 st3 _ _ q3 => ?_⟩
    have S3 : Stp Hf H ω Hf3 H3 ω3 := (st'.trans (g2.stp rep')).trans st3
    have E3 : Ex Hf1 Hf3 := (ex'.trans g2.fz).trans st3.fz
    exact ⟨Hf3, ω3, ρ3, _, rep3, x0.trans S3.fz, q3, fun σ4 H4 Hf4 ω4 ρ4 rep4 st4 q4 => ⟨Hf4, ω4, ρ4, rep4, S3.trans st4, E3.trans st4.fz, q4⟩, fun v H4 Hf4 ω4 r af rep4 st4 q4 => k2 _ _ _ _ _ _ rep4 (S3.trans st4) q4,
      fun σ4 H4 Hf4 ω4 ρ4 rep4 st4 q4 => k1 _ _ _ _ _ rep4 (S3.trans st4) q4, fun σ4 H4 Hf4 ω4 ρ4 rep4 st4 q4 => ⟨Hf4, ω4, ρ4, rep4, S3.trans st4, E3.trans st4.fz, q4⟩⟩
  · have e : i = ds.length := by omega
    subst e
    exact .inl ⟨wk.stop H' (ex'.trans rep'.ex), k1 _ _ _ _ _ rep' st' (i2 ρ' hI)⟩
end
section
variable {X : Cx} {x : Str} {p pos : Pos} {e : Expr} {es : List Expr} {t : TA} {f : Addr} {k : Nat} {sp : Sp} {W : WX}
def tStarE (sp : Sp) (W : WX) (t : TA) : TE := fun σ H Q => t σ H fun vs H1 => (1 ≤ vs.length ∧ vs.length ≤ 4) ∧ ∀ a, H1 a = none → sp (vs.take 1 ++ [.ref a]) (upd H1 a (.tup (vs.drop 1))) Q (WE W σ)
theorem pe_starE (F : StarRun X.prog X.w X.K X.mg X.base (L2N.CX X.prog X.w) k f sp) (hr : Room k X.A) (hg : Gl X x) (hm : X.mg x = some (.ref f)) (hk : PySem.W.keepIn X.K (.ref f) = true) (tk : L2N.Takes X W) (ha : PA X (e :: es) t)
    (hdb : (x == ("__debug__" : Str)) = false := by decide) (he : starEach (e :: es) X.env = (false, eval e X.env) :: starEach es X.env := by rfl) (hpl : (backTo pos (starEach es X.env)).any (·.1) = false := by rfl) :
    PE X (.Call (.Name x p) (e :: es) [] pos) (tStarE sp W t) := by
  refine ⟨fun pins s σ H Q I h => wpAny_Call_Name_kw (ld_glob I hg hm ?_ hdb)⟩
  refine PySem.W.callWith_K (h₀ := X.base) I.ok.mod.kin hk (thn (ha.run pos pins s σ H _ I h) fun us s1 ⟨vs, H1, I1, r, hn, q⟩ => ⟨I1.kIn, ?_⟩) he hpl
  have hn2 : 1 ≤ us.length ∧ us.length ≤ 4 := by rw [← r.length]; exact hn
  have I2 : Inv X pins σ (upd H1 s1.heap.objs.size (.tup (vs.drop 1))) { s1 with heap := s1.heap.push { cls := .type "tuple", data := .seq (us.drop 1).toArray } } :=
    I1.laid (t' := s1.toks) (o := .tup (vs.drop 1)) (fun b ob z => Heap.get?_push_of_some _ z) (Nat.le_refl _) ⟨by rw [List.length_drop]; exact Nat.le_trans (show vs.length - 1 ≤ 4 by have := hn.2; omega) (by decide), _, vals_drop r 1, IsTup.new _ _⟩
  have rv : Vals (vs.take 1 ++ [.ref s1.heap.objs.size]) (us.take 1 ++ [.ref s1.heap.objs.size]) := (vals_take r 1).append (.cons rfl .nil)
  refine wpAny_call (codeAny_mono (F X.A X.stack s1 _ us _ Q (WE W σ) hr hn2 I1.kIn I2.env0 rv (q _ (I1.hok.fresh (Nat.le_refl _)))) fun r s' hq => ?_)
  match r, hq with
  | .ok (.ret u), hq => exact I2.after hq
  | .ok .next, hq => exact False.elim hq
  | .ok .brk, hq => exact False.elim hq
  | .ok .cont, hq => exact False.elim hq
  | .error e, hq => exact L2N.passAt tk σ pins _ _ e s' I2 hq
end
structure CalSE (P : Program) (w : World) (K : PySem.W.Frag) (mg : Str → Option Value) (base : Heap) (L : Fn) (k : Nat) (x : Str) (sp : List PyData → Str → Prop) : Prop where
  ex : ∃ f : Addr, StarRun P w K mg base (L2N.CX P w) k f (toSpE L mg 2 sp) ∧ mg x = some (.ref f) ∧ PySem.W.keepIn K (.ref f) = true
abbrev lamB3 (g : Str) (p1 p2 p3 p4 p5 : Pos) : Expr := .Call (.Name g p1) [.Name "a" p2, .Name "b" p3, .Name "c" p4] [] p5
section
variable {P : Program} {w : World} {K : PySem.W.Frag} {mg : Str → Option Value} {base : Heap} {L : Fn}
theorem calse_ok {x : Str} {st : Stmt} {N : List Str} {p0 p1 : Str} {k : Nat} {sp : List PyData → Str → Prop} (T : FnTS K mg x st [p0, p1]) (S : FnScope N [p0, p1] (defScope st))
    (hbody : ∀ (f : Addr) (cdv : Value) (A : Around) (outer : List Env) (s : Shared) (H : Hp) (vs : List V) (E : XK) (ds : List PyData) (en : Str) (c : Value), vs.length = 2 → Room k (A.deeper (envOfC x (defScope st) s.heap.objs.size f cdv)) → sp ds en → mg en = some c → (∀ H', Ex H H' → E c none H') →
      ∃ t, PSs (cxOf (L2N.CX P w) P w K mg base N x (defScope st) f cdv A outer s H E) (defBody st) (lX ⟨L, vs, []⟩ H t) ∧ t { nx := fun _ => False, rt := fun _ _ => False } (start0 N (ds.map Res.fz))) :
    CalSE P w K mg base L (k + 1) x sp := by
  obtain ⟨f, fd, h1, h2, h3⟩ := T.ex
  refine ⟨f, star_run h1 S h3 (fun vs H Q E h => h.1) (fun cdv A outer s H vs Q E hr h => ?_), h2, h1.kp⟩
  obtain ⟨hn, Hf, ds, en, c, ex, hd, hsp, hc, hE⟩ := h
  obtain ⟨t, b1, b2⟩ := hbody f cdv A outer s H vs E ds en c hn hr hsp hc hE
  refine ⟨_, b1, H, fun _ => none, _, _, rep_start (rep_args (Ex.refl H) (ex.dpAll hd)) (fun _ z => nomatch z), Ex.refl H, b2, ?_, ?_, ?_, ?_⟩
  · exact fun _ _ _ _ _ _ _ z => z.elim
  · exact fun _ _ _ _ _ _ _ _ z => z.elim
  · exact fun _ _ _ _ _ _ _ z => z.elim
  · exact fun _ _ _ _ _ _ _ z => z.elim
theorem lamok3 {j : Nat} {g q : Str} {spg : List PyData → Str → Prop} (C : CalSE P w K mg base L j g spg) (hg : (lamSc g).names.lookup g = some .globalImplicit) (hdb : (g == ("__debug__" : Str)) = false) (p1 p2 p3 p4 p5 p6 p7 p8 : Pos) :
    LamOk P w K mg base L (j + 1) q (lamPar p1 p2 p3) (lamB3 g p4 p5 p6 p7 p8) (lamSc g) 3 fun ds en => spg [ds.headD .none, .tuple (ds.drop 1)] en := by
  refine lamok_mk (N := ["a", "b", "c"]) (ps := ["a", "b", "c"]) (lamS g) (fun pm cdv ctv us hl => match us, hl with | [_, _, _], _ => rfl) fun f cdv A outer s H vs Q E Hf ds en c hn hr ex hd hsp hm hE => ?_
  obtain ⟨f', F, hm', hk⟩ := C.ex
  have hl := hd.len
  rw [hn] at hl
  obtain ⟨d1, d2, d3, rfl⟩ : ∃ a b c, ds = [a, b, c] := by
    match ds, hl with
    | [a, b, c], _ => exact ⟨a, b, c, rfl⟩
  refine ⟨_, pe_starE (X := cxOf (L2N.CX P w) P w K mg base ["a", "b", "c"] q (lamSc g) f cdv A outer s H E) (W := fun cls d _ H => E cls d H) (t := lD ⟨L, vs, []⟩ 3 (tD1 (tVarD 0) (tD1 (tVarD 1) (tD1 (tVarD 2) tD0)))) F hr hg hm' hk (L2N.takes_of rfl rfl rfl rfl) (dd_cons (de_var (pv 0)) (dd_cons (de_var (pv 1)) (dd_cons (de_var (pv 2)) dd_nil))) hdb, ?_⟩
  refine ⟨Hf, fun _ => none, _, fun ds' _ => ds' = [d1, d2, d3], rep_start (rep_args ex hd) (fun _ z => nomatch z), rfl, fun vs' H1 Hf1 ω1 ρ1 ds' hl' rep1 st1 hv q1 => ?_⟩
  subst q1
  refine ⟨by rw [hv.len]; exact ⟨Nat.le_of_ble_eq_true rfl, Nat.le_of_ble_eq_true rfl⟩, fun a ha => ?_⟩
  have g1 : Grw Hf1 H1 _ _ := .new (o := .tup (vs'.drop 1)) rep1.ex ha
  match vs', hv with
  | v :: vr, .cons h1 h2 =>
    refine ⟨rfl, _, [d1, .tuple [d2, d3]], en, c, (g1.rep rep1).ex, .cons (g1.fz.dp h1) (.cons (.tup upd_same (g1.fz.dpAll h2)) .nil), hsp, hm, fun H' ex' => hE H' ?_⟩
    exact Ex.trans (fun b o h => st1.fr b o h rfl) (Ex.trans (fun b o h => by rw [upd_ne (fun z => by rw [z, ha] at h; cases h)]; exact h) ex')
end
end DL

/-! repr of a bool; sorted of a row of ints, given as a list or as a tuple -/
namespace DL
open PySem PySem.Spec PyProof.Rows L2
section
variable {X : Cx}
def rReprB : List V → Hp → VK → Prop := fun xs H Q => ∃ b : Bool, xs = [.bl b] ∧ Q (.str (if b then "True" else "False")) H
theorem cr_reprB : CallR X (.builtin "repr") rReprB := fun pins s σ H xs us Q I r ⟨b, e, q⟩ => by
  subst e
  obtain ⟨u, rfl, rx⟩ := vals1 r
  cases rx
  exact PySem.P.repr_of_bool ⟨.str _, H, I.tok _, ⟨_, rfl⟩, q⟩
end
def reprBD : List PyData → Option PyData
  | [.bool b] => some (.str (if b then "True" else "False"))
  | _ => none
theorem cReprB {L : Fn} : RCD L rReprB reprBD := by
  intro xs ds z Hf H Q ex hv hz k
  unfold reprBD at hz
  split at hz
  · cases hz
    obtain ⟨v, rfl, h⟩ := hv.one
    cases h
    exact ⟨_, rfl, k _ _ _ (.refl ex) (.str _)⟩
  · cases hz
theorem reprB_b (b : Bool) : reprBD [.bool b] = some (.str (if b then "True" else "False")) := rfl
theorem bt_repr : bootBuiltins "repr" = some (.builtin "repr") := by decide +kernel
theorem bt_sorted : bootBuiltins "sorted" = some (.builtin "sorted") := by decide +kernel
/-! ### sorted -/
section
variable {prog : Program} {w : World} {A : Around} {E : Value → Shared → Prop} {s : Shared} {l : Addr} {vs : List Value}
/-- the items of a tuple, gathered in a list of their own -/
theorem gatherT {Q : List Value → Shared → Prop} (hl : IsTup s.heap l vs.toArray) (hL : vs.length ≤ sizeLine)
    (h : Q vs { s with heap := (s.heap.push (seqObj "list" #[] 0)).update s.heap.objs.size (Obj.mapSeq (· ++ vs.toArray)) }) : wpAny (model prog w) A (collect (.ref l)) Q E s := by
  obtain ⟨o, ho, hc, n, hd⟩ := id hl
  have h0 : (s.heap.push (seqObj "list" #[] 0)).get? l = some o := Heap.get?_push_of_some _ ho
  have h1 : (s.heap.push (seqObj "list" #[] 0)).get? s.heap.objs.size = some (seqObj "list" #[] 0) := Heap.get?_push_size _ rfl
  have tt : (Value.type "tuple" == Value.type "tuple") = true := by rfl
  unfold collect
  refine wpAny_bind (wpAny_runValue (codeAny_builtin entry_proto_collect' (show wpAny _ _ (do again (.builtin "list.__iadd__" ⟨[← newList [], .ref l], []⟩)) _ _ s from wpAny_bind (wpAny_newList (wpAny_pure ⟨Code.quiet_builtin _ (by decide +kernel), codeAny_builtin entry_list_iadd' ?_⟩)))))
  show wpAny _ _ (Builtin.List.listExtendWith (.ref s.heap.objs.size) (.ref l) (.ref s.heap.objs.size)) _ _ _
  unfold Builtin.List.listExtendWith
  refine wpAny_bind (wpAny_typeOf (T := "tuple") ⟨o, h0, hc⟩ ?_)
  rw [if_pos (by first | (rw [tt]; simp; done) | simp)]
  refine wpAny_bind (listItems_at h0 hd (wpAny_bind (listItems_at (xs := #[]) (n := 0) h1 rfl ?_)))
  rw [if_neg (by simp)]
  have fits : (#[] ++ vs.toArray : Array Value).size ≤ sizeLine + 1 := by simp only [Array.size_append, List.size_toArray, List.length_nil]; omega
  refine wpAny_bind (listUpdate_at (xs := #[]) (n := 0) h1 rfl (wpAny_pure ?_) (Nat.zero_le _) fits)
  show wpAny _ _ (load s.heap.objs.size >>= fun o => match o.data with
    | .seq xs _ => pure xs.toList
    | _ => unsupported "internal:collect") _ _ _
  refine wpAny_bind (wpAny_load (get?_update_seq h1 _) ?_)
  have e : ((#[] : Array Value) ++ vs.toArray).toList = vs := by simp
  show wpAny _ _ (pure ((#[] : Array Value) ++ vs.toArray).toList) _ _ _
  rw [e]
  exact wpAny_pure h
theorem sortedT {ns : List Int} {Q : Value → Shared → Prop} (hl : IsTup s.heap l vs.toArray) (hI : IntsAre vs ns) (hL : vs.length ≤ sizeLine)
    (h : ∀ (out : Array Value) (ns' : List Int), IntsAre out.toList ns' → ns'.Perm ns → ns'.Pairwise (· ≤ ·) → Q (.ref (s.heap.objs.size + 1)) { s with heap := sortedAll s.heap vs out }) :
    wpAny (model prog w) A (call (.builtin "sorted") [.ref l]) Q E s := by
  have sz : ((s.heap.push (seqObj "list" #[] 0)).update s.heap.objs.size (Obj.mapSeq (· ++ vs.toArray))).objs.size = s.heap.objs.size + 1 := (Heap.size_update ..).trans (size_push' _ _)
  have at1 : (((s.heap.push (seqObj "list" #[] 0)).update s.heap.objs.size (Obj.mapSeq (· ++ vs.toArray))).push (seqObj "list" vs.toArray 0)).get? (s.heap.objs.size + 1) = some (seqObj "list" vs.toArray 0) := sz ▸ Heap.get?_push_size _ rfl
  refine Calls.call_function_entry kind_sorted plain_sorted entry_sorted (args_sorted1 _) ?_
  unfold Builtin.«sorted»
  refine wpAny_bind (m := checkCount "sorted" 1 1 _) (wpAny_pure (wpAny_bind (gatherT hl hL (wpAny_bind (wpAny_newList ?_ hL)))))
  show wpAny _ _ _ _ _ { s with heap := ((s.heap.push (seqObj "list" #[] 0)).update s.heap.objs.size (Obj.mapSeq (· ++ vs.toArray))).push (seqObj "list" vs.toArray 0) }
  rw [sz]
  refine wpAny_bind (wpAny_holding (wpAny_call_entry slot_list_sort ⟨_, at1, rfl⟩ entry_list_sort (list_sort_treeAny at1 hI hL fun out ns' b1 b2 b3 => ⟨_, rfl, ?_⟩) (args_list_sort _)))
  exact wpAny_pure ⟨_, rfl, h out ns' b1 b2 b3⟩
end
def rSortA (K : PySem.W.Frag) : List V → Hp → VK → Prop := fun vs H Q => ∃ (a : Addr) (ns : List Int), vs = [V.ref a] ∧ (SqL K H a (ns.map V.int) ∨ SqT K H a (ns.map V.int)) ∧
  ∀ (ns' : List Int) (p : Addr), ns'.Perm ns → ns'.Pairwise (· ≤ ·) → H p = none → Q (.ref p) (upd H p (.lst (ns'.map V.int)))
theorem cr_sortA {X : Cx} : CallR X (.builtin "sorted") (rSortA X.K) := fun pins s σ H vs us Q I r ⟨a, ns, e, hs, q⟩ => by
  subst e
  rw [Vals.ref1 r]
  have fin : ∀ (its : List Value), Vals (ns.map V.int) its → (ns.map V.int).length ≤ sizeLine → ∀ (out : Array Value) (ns' : List Int), IntsAre out.toList ns' → ns'.Perm ns → ns'.Pairwise (· ≤ ·) → EP X pins σ Q (.ref (s.heap.objs.size + 1)) { s with heap := sortedAll s.heap its out } := fun its rv hz out ns' b1 b2 b3 => by
    obtain ⟨ep, he⟩ := PyProof.Rows.sortedAll_at s.heap its out
    have hn : (ns'.map V.int).length ≤ sizeLine := by rw [List.length_map, b2.length_eq]; rwa [List.length_map] at hz
    exact ⟨.ref _, _, I.laid (t' := s.toks) (o := .lst (ns'.map V.int)) (fun _ _ => PyProof.Rows.sortedAll_old) (Nat.le_succ _) ⟨hn, out.toList, ep, vals_of_ints b1, he⟩, rfl, q ns' _ b2 b3 (I.hok.fresh (Nat.le_succ _))⟩
  rcases hs with hs | hs
  · obtain ⟨its, rv, hl, hz⟩ := I.list hs
    exact PyProof.Rows.sorted_intsAny hl.isList rv.ints (by rw [← rv.length]; exact hz) (fin its rv hz)
  · obtain ⟨its, rv, hl, hz⟩ := I.tuple hs
    exact sortedT hl rv.ints (by rw [← rv.length]; exact hz) (fin its rv hz)
theorem perm_one : ∀ {xs ys : List Int}, xs.Perm ys → xs.Pairwise (· ≤ ·) → ys.Pairwise (· ≤ ·) → xs = ys
  | [], ys, h, _, _ => h.nil_eq
  | x :: xs, [], h, _, _ => by have := h.length_eq; simp at this
  | x :: xs, y :: ys, h, h1, h2 => by
    have a : x ≤ y := by
      rcases List.mem_cons.mp (h.mem_iff.mpr List.mem_cons_self) with z | z
      · exact Int.le_of_eq z.symm
      · exact (List.pairwise_cons.mp h1).1 _ z
    have b : y ≤ x := by
      rcases List.mem_cons.mp (h.mem_iff.mp List.mem_cons_self) with z | z
      · exact Int.le_of_eq z.symm
      · exact (List.pairwise_cons.mp h2).1 _ z
    have e : x = y := Int.le_antisymm a b
    subst e
    rw [perm_one ((List.perm_cons _).mp h) (List.pairwise_cons.mp h1).2 (List.pairwise_cons.mp h2).2]
def srtI (ns : List Int) : List Int := ns.mergeSort (fun a b => decide (a ≤ b))
theorem srtI_perm (ns : List Int) : (srtI ns).Perm ns := List.mergeSort_perm _ _
theorem srtI_up (ns : List Int) : (srtI ns).Pairwise (· ≤ ·) := by
  have := List.pairwise_mergeSort (le := fun a b : Int => decide (a ≤ b)) (fun a b c h1 h2 => by simp only [decide_eq_true_eq] at *; omega) (fun a b => by simp only [Bool.or_eq_true, decide_eq_true_eq]; omega) ns
  exact this.imp fun h => by simpa using h
theorem srtI_self {ns : List Int} (h : ns.Pairwise (· ≤ ·)) : srtI ns = ns := perm_one (srtI_perm ns) (srtI_up ns) h
def sortD : List PyData → Option PyData
  | [.list xs] => (intsD xs).map fun ns => .list ((srtI ns).map .int)
  | [.tuple xs] => (intsD xs).map fun ns => .list ((srtI ns).map .int)
  | _ => none
theorem cSort {K : PySem.W.Frag} {L : Fn} : RCD L (rSortA K) sortD := by
  intro xs ds z Hf H Q ex hv hz k
  have fin : ∀ (a : Addr) (vs : List V) (us : List PyData) (ns : List Int), intsD us = some ns → DdAll L Hf vs us → (vs = ns.map V.int → SqL K H a (ns.map V.int) ∨ SqT K H a (ns.map V.int)) → z = .list ((srtI ns).map .int) → rSortA K [.ref a] H Q := fun a vs us ns q h2 hs hz => by
    rw [intsD_of q] at h2
    refine ⟨a, ns, rfl, hs h2.ints, fun ns' p b1 b2 hp => ?_⟩
    have e : ns' = srtI ns := perm_one (b1.trans (srtI_perm ns).symm) b2 (srtI_up ns)
    subst e hz
    have g : Grw Hf H _ _ := .new (o := .lst ((srtI ns).map V.int)) ex hp
    exact k _ _ _ g (.lst upd_same (dd_ints _))
  unfold sortD at hz
  split at hz
  · rename_i us
    cases q : intsD us with
    | none => rw [q] at hz; cases hz
    | some ns =>
      rw [q] at hz
      obtain ⟨v, rfl, h⟩ := hv.one
      cases h with
      | @lst a vs _ h1 h2 => exact fin a vs us ns q h2 (fun e => .inl (.of (e ▸ ex _ _ h1))) (Option.some.inj hz).symm
  · rename_i us
    cases q : intsD us with
    | none => rw [q] at hz; cases hz
    | some ns =>
      rw [q] at hz
      obtain ⟨v, rfl, h⟩ := hv.one
      cases h with
      | @tup a vs _ h1 h2 => exact fin a vs us ns q h2 (fun e => .inr (.of (e ▸ ex _ _ h1))) (Option.some.inj hz).symm
  · cases hz
theorem sort_l (ns : List Int) : sortD [.list (ns.map .int)] = some (.list ((srtI ns).map .int)) := by
  show (intsD _).map _ = _
  rw [intsD_map]; rfl
theorem sort_t (ns : List Int) : sortD [.tuple (ns.map .int)] = some (.list ((srtI ns).map .int)) := by
  show (intsD _).map _ = _
  rw [intsD_map]; rfl
end DL

namespace LW
open PySem PySem.Spec PyProof.Rows L2 DL
/-! ### all times later by x -/
def shL (x : Int) (ns : List Int) : List Int := ns.map fun t => x + t
theorem shL_len (x : Int) (ns : List Int) : (shL x ns).length = ns.length := by unfold shL; simp
theorem shL_app (x : Int) (a b : List Int) : shL x (a ++ b) = shL x a ++ shL x b := by unfold shL; simp
theorem shL_nil (x : Int) (ns : List Int) : shL x ns = [] ↔ ns = [] := by unfold shL; simp
theorem shL_last {x : Int} {ns : List Int} (h : ns ≠ []) : (shL x ns).getLast?.getD 0 = x + ns.getLast?.getD 0 := by
  unfold shL
  rw [List.getLast?_map]
  cases q : ns.getLast? with
  | none => exact absurd (List.getLast?_eq_none_iff.mp q) h
  | some y => rfl
theorem shL_at {x : Int} {ns : List Int} {i : Nat} (h : i < ns.length) : (shL x ns)[i]?.getD 0 = x + ns[i]?.getD 0 := by
  unfold shL
  rw [List.getElem?_map, List.getElem?_eq_getElem h]; rfl
theorem bsL_snoc (r : Rl) (ns : List Int) (t : Int) : bsL r (ns ++ [t]) = stepP r (bsL r ns) t := by unfold bsL; rw [List.foldl_append]; rfl
theorem takeL_sh (r : Rl) (x t : Int) (bs : List Int) : takeL r (shL x bs) (x + t) = shL x (takeL r bs t) := by
  unfold takeL
  rw [shL_app]
  congr 1
  by_cases h : r.ln = true ∧ bs ≠ []
  · rw [if_pos h, if_pos ⟨h.1, fun z => h.2 ((shL_nil x bs).mp z)⟩, shL_last h.2]
    show [_] = [x + (_ + _)]
    congr 1; omega
  · rw [if_neg h, if_neg (fun z => h ⟨z.1, fun w => z.2 ((shL_nil x bs).mpr w)⟩)]
    show [_] = [x + (_ + _)]
    congr 1; omega
theorem leftL_sh (r : Rl) (x t : Int) (bs : List Int) : leftL r (shL x bs) (x + t) = leftL r bs t := by
  unfold leftL shL
  rw [List.filter_map, List.length_map]
  congr 3
  refine List.filter_congr fun b _ => ?_
  rw [Function.comp_apply]
  by_cases h : t < b
  · rw [decide_eq_true h, decide_eq_true (by omega)]
  · rw [decide_eq_false h, decide_eq_false (by omega)]
theorem goodB_sh (r : Rl) (x t : Int) (bs : List Int) : goodB r (shL x bs) (x + t) = goodB r bs t := by unfold goodB; rw [leftL_sh]
theorem stepP_sh (r : Rl) (x t : Int) (bs : List Int) : stepP r (shL x bs) (x + t) = shL x (stepP r bs t) := by
  unfold stepP
  rw [goodB_sh]
  split
  · exact takeL_sh r x t bs
  · rfl
theorem bsL_sh (r : Rl) (x : Int) (ns : List Int) : bsL r (shL x ns) = shL x (bsL r ns) :=
  snoc_ind (P := fun ns => bsL r (shL x ns) = shL x (bsL r ns)) rfl (fun ns t ih => by
    rw [shL_app, show shL x [t] = [x + t] from rfl, bsL_snoc, ih, stepP_sh, bsL_snoc]) ns
theorem useL_sh (r : Rl) (x : Int) (ns : List Int) : useL r (shL x ns) = useL r ns :=
  snoc_ind (P := fun ns => useL r (shL x ns) = useL r ns) rfl (fun ns t ih => by
    rw [shL_app, show shL x [t] = [x + t] from rfl, useL_snoc, ih, bsL_sh, goodB_sh, shL_len, useL_snoc]) ns
theorem stpL_snoc (r : Rl) (ns : List Int) (t : Int) : stpL r (ns ++ [t]) = stpL r ns ++ [(goodB r (bsL r ns) t, leftL r (bsL r (ns ++ [t])) t)] := by
  unfold stpL
  rw [List.length_append, List.length_singleton, List.range_succ, List.map_append]
  congr 1
  · refine List.map_congr_left fun k hk => ?_
    have hk := List.mem_range.mp hk
    rw [at0_app hk, List.take_append_of_le_length (by omega), List.take_append_of_le_length (by omega)]
  · rw [List.map_singleton, at0_end, List.take_append_of_le_length (Nat.le_refl _), List.take_length, List.take_of_length_le (by simp)]
theorem stpL_sh (r : Rl) (x : Int) (ns : List Int) : stpL r (shL x ns) = stpL r ns :=
  snoc_ind (P := fun ns => stpL r (shL x ns) = stpL r ns) rfl (fun ns t ih => by
    have e : shL x ns ++ [x + t] = shL x (ns ++ [t]) := by rw [shL_app]; rfl
    rw [← e, stpL_snoc, ih, bsL_sh, goodB_sh, e, bsL_sh, leftL_sh, stpL_snoc]) ns
/-! ### a row behind a rest -/
theorem leftL_rest {r : Rl} {old nb : List Int} {t : Int} (h : ∀ b ∈ old, b ≤ t) : leftL r (old ++ nb) t = leftL r nb t := by
  unfold leftL
  rw [List.filter_append, List.filter_eq_nil_iff.mpr (fun b hb => by have := h b hb; simp; omega), List.nil_append]
theorem last_mem {bs : List Int} (h : bs ≠ []) : bs.getLast?.getD 0 ∈ bs := by
  rw [List.getLast?_eq_some_getLast h]; exact List.getLast_mem h
theorem last_app {a b : List Int} (h : b ≠ []) : (a ++ b).getLast?.getD 0 = b.getLast?.getD 0 := by
  rw [List.getLast?_append, List.getLast?_eq_some_getLast h]; rfl
theorem takeL_rest {r : Rl} {old nb : List Int} {t : Int} (h : ∀ b ∈ old, b ≤ t) : takeL r (old ++ nb) t = old ++ takeL r nb t := by
  unfold takeL
  rw [List.append_assoc]
  congr 2
  by_cases hn : nb = []
  · subst hn
    rw [List.append_nil, if_neg (show ¬ (r.ln = true ∧ ([] : List Int) ≠ []) from fun z => z.2 rfl)]
    split
    · rename_i q
      have := h _ (last_mem q.2)
      rw [Int.max_eq_left this]
    · rfl
  · rw [last_app hn]
    by_cases hl : r.ln = true
    · rw [if_pos ⟨hl, by simp [hn]⟩, if_pos ⟨hl, hn⟩]
    · rw [if_neg (fun z => hl z.1), if_neg (fun z => hl z.1)]
theorem goodB_rest {r : Rl} {old nb : List Int} {t : Int} (h : ∀ b ∈ old, b ≤ t) : goodB r (old ++ nb) t = goodB r nb t := by unfold goodB; rw [leftL_rest h]
theorem stepP_rest {r : Rl} {old nb : List Int} {t : Int} (h : ∀ b ∈ old, b ≤ t) : stepP r (old ++ nb) t = old ++ stepP r nb t := by
  unfold stepP
  rw [goodB_rest h]
  split
  · exact takeL_rest h
  · rfl
theorem rest_all {r : Rl} {os : List Int} : ∀ ms : List Int, (∀ b ∈ bsL r os, ∀ m ∈ ms, b ≤ m) → bsL r (os ++ ms) = bsL r os ++ bsL r ms ∧ useL r (os ++ ms) = useL r os ++ (useL r ms).map (fun k => os.length + k) ∧ stpL r (os ++ ms) = stpL r os ++ stpL r ms := by
  refine snoc_ind (P := fun ms => (∀ b ∈ bsL r os, ∀ m ∈ ms, b ≤ m) → bsL r (os ++ ms) = bsL r os ++ bsL r ms ∧ useL r (os ++ ms) = useL r os ++ (useL r ms).map (fun k => os.length + k) ∧ stpL r (os ++ ms) = stpL r os ++ stpL r ms) (fun _ => ?_) (fun ms t ih h => ?_)
  · rw [List.append_nil]
    exact ⟨(List.append_nil _).symm, (List.append_nil _).symm, (List.append_nil _).symm⟩
  · obtain ⟨i1, i2, i3⟩ := ih fun b hb m hm => h b hb m (List.mem_append_left _ hm)
    have ht : ∀ b ∈ bsL r os, b ≤ t := fun b hb => h b hb t (by simp)
    have e1 : bsL r (os ++ (ms ++ [t])) = bsL r os ++ bsL r (ms ++ [t]) := by rw [← List.append_assoc, bsL_snoc, i1, stepP_rest ht, bsL_snoc]
    refine ⟨e1, ?_, ?_⟩
    · rw [← List.append_assoc, useL_snoc, i2, i1, goodB_rest ht, useL_snoc, List.map_append, List.append_assoc]
      congr 2
      split
      · simp
      · rfl
    · have e2 : bsL r (os ++ ms ++ [t]) = bsL r os ++ bsL r (ms ++ [t]) := by rw [List.append_assoc]; exact e1
      rw [← List.append_assoc, stpL_snoc, i3, i1, goodB_rest ht, e2, leftL_rest ht, stpL_snoc, List.append_assoc]
/-! ### when all charges are there -/
def fullL (r : Rl) (ns : List Int) : Int := if ns = [] then 0 else maxI (lastD ns :: bsL r ns)
theorem full_ge {r : Rl} {ns : List Int} (h : ns ≠ []) : lastD ns ≤ fullL r ns ∧ ∀ b ∈ bsL r ns, b ≤ fullL r ns := by
  unfold fullL
  rw [if_neg h]
  exact ⟨maxI_ge List.mem_cons_self, fun b hb => maxI_ge (List.mem_cons_of_mem _ hb)⟩
theorem full_bs {r : Rl} {ns : List Int} : ∀ b ∈ bsL r ns, b ≤ fullL r ns := fun b hb => by
  by_cases h : ns = []
  · subst h; cases hb
  · exact (full_ge h).2 b hb
theorem asc_last {ns : List Int} (h : AscP ns) : ∀ n ∈ ns, n ≤ lastD ns := fun n hn => by
  obtain ⟨i, hi, rfl⟩ := mem_at0 hn
  have := h i (ns.length - 1) (by omega) (by omega)
  rw [← last_at0] at this
  exact this
theorem full_row {r : Rl} {ns : List Int} (hA : AscP ns) : ∀ n ∈ ns, n ≤ fullL r ns := fun n hn => by
  have hne : ns ≠ [] := fun z => by rw [z] at hn; cases hn
  exact Int.le_trans (asc_last hA n hn) (full_ge hne).1
theorem bs_bound {r : Rl} (ok : RlOk r) {M : Int} (ns : List Int) : (∀ n ∈ ns, n ≤ M) → ∀ b ∈ bsL r ns, b ≤ M + ns.length * r.p := by
  have p1 := ok.p1
  refine snoc_ind (P := fun ns => (∀ n ∈ ns, n ≤ M) → ∀ b ∈ bsL r ns, b ≤ M + ns.length * r.p) (fun _ b hb => by cases hb) (fun ns t ih h b hb => ?_) ns
  have ih := ih fun n hn => h n (List.mem_append_left _ hn)
  have ht := h t (by simp)
  have e : ((ns ++ [t]).length : Int) * r.p = ns.length * r.p + r.p := by
    rw [List.length_append, List.length_singleton, show ((ns.length + 1 : Nat) : Int) = ns.length + 1 from rfl, Int.add_mul, Int.one_mul]
  have h0 : 0 ≤ (ns.length : Int) * r.p := Int.mul_nonneg (by omega) (by omega)
  rw [e]
  rw [bsL_snoc] at hb
  unfold stepP at hb
  split at hb
  · unfold takeL at hb
    rcases List.mem_append.mp hb with hb | hb
    · have := ih b hb; omega
    · have hb := List.mem_singleton.mp hb
      split at hb
      · rename_i q
        have := ih _ (last_mem q.2)
        omega
      · omega
  · have := ih b hb; omega
theorem full_bound {r : Rl} (ok : RlOk r) {M : Int} {ns : List Int} (h0 : 0 ≤ M) (h : ∀ n ∈ ns, n ≤ M) : fullL r ns ≤ M + ns.length * r.p := by
  have p1 := ok.p1
  have hp : 0 ≤ (ns.length : Int) * r.p := Int.mul_nonneg (by omega) (by omega)
  unfold fullL
  split
  · omega
  · rename_i hne
    rcases List.mem_cons.mp (maxI_mem (xs := lastD ns :: bsL r ns) (by simp)) with e | e
    · rw [e]
      have := h _ (last_mem hne)
      show ns.getLast?.getD 0 ≤ _
      omega
    · exact bs_bound ok ns h _ e
theorem full_nonneg {r : Rl} {ns : List Int} (h : ∀ n ∈ ns, 0 ≤ n) : 0 ≤ fullL r ns := by
  by_cases hne : ns = []
  · subst hne; exact Int.le_refl _
  · exact Int.le_trans (h _ (last_mem hne)) (full_ge (r := r) hne).1
theorem maxI_eq {xs : List Int} {m : Int} (h1 : m ∈ xs) (h2 : ∀ x ∈ xs, x ≤ m) : maxI xs = m := Int.le_antisymm (h2 _ (maxI_mem fun z => by rw [z] at h1; cases h1)) (maxI_ge h1)
theorem full_rest {r : Rl} {os ms : List Int} {x : Int} (hne : ms ≠ []) (h0 : ∀ m ∈ ms, 0 ≤ m) (hb : ∀ b ∈ bsL r os, b ≤ x) : fullL r (os ++ shL x ms) = x + fullL r ms := by
  have hx : ∀ b ∈ bsL r os, ∀ m ∈ shL x ms, b ≤ m := fun b hb' m hm => by
    obtain ⟨t, ht, rfl⟩ := List.mem_map.mp hm
    have := hb b hb'
    have := h0 t ht
    omega
  have hne2 : shL x ms ≠ [] := fun z => hne ((shL_nil x ms).mp z)
  have hl : lastD (os ++ shL x ms) = x + lastD ms := by
    show (os ++ shL x ms).getLast?.getD 0 = _
    rw [last_app hne2, shL_last hne]; rfl
  have hn0 := h0 _ (last_mem hne)
  have h1 : 0 ≤ lastD ms := hn0
  unfold fullL
  rw [if_neg hne, if_neg (by simp [hne2]), (rest_all _ hx).1, bsL_sh, hl]
  refine maxI_eq ?_ fun y hy => ?_
  · rcases List.mem_cons.mp (maxI_mem (xs := lastD ms :: bsL r ms) (by simp)) with e | e
    · rw [e]; exact List.mem_cons_self
    · exact List.mem_cons_of_mem _ (List.mem_append_right _ (List.mem_map.mpr ⟨_, e, rfl⟩))
  · have hm : lastD ms ≤ maxI (lastD ms :: bsL r ms) := maxI_ge List.mem_cons_self
    rcases List.mem_cons.mp hy with rfl | hy
    · omega
    · rcases List.mem_append.mp hy with hy | hy
      · have := hb y hy; omega
      · obtain ⟨b, hb2, rfl⟩ := List.mem_map.mp hy
        have : b ≤ maxI (lastD ms :: bsL r ms) := maxI_ge (List.mem_cons_of_mem _ hb2)
        omega
/-- the number of charges at a time -/
def chgL (r : Rl) (ns : List Int) (t : Int) : Int := leftL r (bsL r (ns.filter fun n => decide (n ≤ t))) t
theorem filt_all {ns : List Int} {t : Int} (h : ∀ n ∈ ns, n ≤ t) : (ns.filter fun n => decide (n ≤ t)) = ns := List.filter_eq_self.mpr fun n hn => decide_eq_true (h n hn)
theorem chg_full {r : Rl} {ns : List Int} {t : Int} (hA : AscP ns) (h : fullL r ns ≤ t) : chgL r ns t = r.c := by
  unfold chgL
  rw [filt_all fun n hn => Int.le_trans (full_row (r := r) hA n hn) h]
  unfold leftL
  rw [List.filter_eq_nil_iff.mpr (fun b hb => by have := full_bs (r := r) (ns := ns) b hb; simp; omega)]
  simp
theorem chg_less {r : Rl} {ns : List Int} (hA : AscP ns) (hne : ns ≠ []) (h : lastD ns < fullL r ns) : chgL r ns (fullL r ns - 1) < r.c := by
  have hm : fullL r ns ∈ bsL r ns := by
    unfold fullL at h ⊢
    rw [if_neg hne] at h ⊢
    rcases List.mem_cons.mp (maxI_mem (xs := lastD ns :: bsL r ns) (by simp)) with e | e
    · omega
    · exact e
  unfold chgL
  rw [filt_all fun n hn => by have := asc_last hA n hn; omega]
  unfold leftL
  have : 0 < ((bsL r ns).filter fun b => decide (fullL r ns - 1 < b)).length := List.length_pos_iff.mpr fun z => by
    have : fullL r ns ∈ (bsL r ns).filter fun b => decide (fullL r ns - 1 < b) := List.mem_filter.mpr ⟨hm, decide_eq_true (by omega)⟩
    rw [z] at this; cases this
  omega
theorem at0_lt {xs ys : List Int} {i : Nat} (h : i < xs.length) : at0 (xs ++ ys) i = at0 xs i := by
  show (xs ++ ys)[i]?.getD 0 = xs[i]?.getD 0
  rw [List.getElem?_append_left h]
theorem at0_ge {xs ys : List Int} {i : Nat} (h : xs.length ≤ i) : at0 (xs ++ ys) i = at0 ys (i - xs.length) := by
  show (xs ++ ys)[i]?.getD 0 = ys[i - xs.length]?.getD 0
  rw [List.getElem?_append_right h]
theorem AscP.app {xs ys : List Int} (hx : AscP xs) (hy : AscP ys) (h : ∀ x ∈ xs, ∀ y ∈ ys, x ≤ y) : AscP (xs ++ ys) := fun i j hij hj => by
  rw [List.length_append] at hj
  by_cases h1 : j < xs.length
  · rw [at0_lt (by omega), at0_lt h1]; exact hx i j hij h1
  · rw [at0_ge (i := j) (by omega)]
    by_cases h2 : i < xs.length
    · rw [at0_lt h2]; exact h _ (at0_mem h2) _ (at0_mem (by omega))
    · rw [at0_ge (by omega)]; exact hy _ _ (by omega) (by omega)
theorem AscP.sh {ns : List Int} (h : AscP ns) (x : Int) : AscP (shL x ns) := fun i j hij hj => by
  rw [shL_len] at hj
  show (shL x ns)[i]?.getD 0 ≤ (shL x ns)[j]?.getD 0
  rw [shL_at (by omega), shL_at hj]
  have := h i j hij hj
  show x + at0 ns i ≤ x + at0 ns j
  omega
theorem AscP.asc {ns : List Int} (h : AscP ns) : Asc ns := asc_of fun i hi => h i (i + 1) (by omega) hi
theorem row_app {a b : List Int} {x M : Int} (ha : RowOk a) (hb : AscP b) (hl : a.length + b.length ≤ 60) (h0 : 0 ≤ x) (h1 : ∀ n ∈ a, n ≤ x) (h2 : ∀ n ∈ b, 0 ≤ n ∧ n ≤ M) (h3 : x + M ≤ 1000000000) : RowOk (a ++ shL x b) := by
  refine ⟨by rw [List.length_append, shL_len]; exact hl, fun n hn => ?_, (AscP.app ha.asc.p (hb.sh x) fun n hn m hm => ?_).asc⟩
  · rcases List.mem_append.mp hn with hn | hn
    · exact ha.rng n hn
    · obtain ⟨t, ht, rfl⟩ := List.mem_map.mp hn
      have := h2 t ht
      omega
  · obtain ⟨t, ht, rfl⟩ := List.mem_map.mp hm
    have := h2 t ht
    have := h1 n hn
    omega
/-! ### what the defs promise -/
def sp_need_time : SpD := fun rs P _ => ∃ (t lo hi : Int), rs = [.fz (.int t), .fz (.int lo), .fz (.int hi)] ∧ lo ≤ t ∧ t ≤ hi ∧ ∀ af, P (.fz .none) af
def sp_charges_after : SpD := fun rs P _ => ∃ (r : Rl) (ns : List Int) (t : Int), rs = [.fz (rD r), .fz (tI ns), .fz (.int t)] ∧ ns.length ≤ 1000 ∧ ∀ af, P (.fz (.int (chgL r ns t))) af
def sp_charges_at : SpD := fun rs P _ => ∃ (r : Rl) (ns : List Int) (t : Int), rs = [.fz (rD r), .fz (tI ns), .fz (.int t)] ∧ RlOk r ∧ RowOk ns ∧ 0 ≤ t ∧ t ≤ 1000000000000 ∧ ∀ af, P (.fz (.int (chgL r ns t))) af
def sp_full_at : SpD := fun rs P _ => ∃ (r : Rl) (ns : List Int), rs = [.fz (rD r), .fz (tI ns)] ∧ RlOk r ∧ RowOk ns ∧ ∀ af, P (.fz (.int (fullL r ns))) af
def sp_track : SpGD := fun ds P => ∃ (r : Rl) (ns : List Int), ds = [rD r, tI ns] ∧ RlOk r ∧ RowOk ns ∧ P ((stpL r ns).map prS)
theorem neD_prs (ps : List (Bool × List Int)) : neD (.list (ps.map prD2)) (.list []) = some (.bool (!decide (ps = []))) := by
  rw [neD_fit (n := 4) (fit_list fun d hd => by
    obtain ⟨p, _, rfl⟩ := List.mem_map.mp hd
    exact fit_tuple fun d hd => by
      simp only [List.mem_cons, List.not_mem_nil, or_false] at hd
      rcases hd with rfl | rfl
      · exact fit_bool _
      · exact fit_tuple fun d hd => by obtain ⟨i, _, rfl⟩ := List.mem_map.mp hd; exact fit_int _) (fit_list fun d hd => by cases hd)]
  cases ps with
  | nil => rw [PyData.eqv, List.map_nil, PyData.eqvAll]; rfl
  | cons x xs => rw [PyData.eqv, List.map_cons, PyData.eqvAll]; simp
theorem ix_lastA {xs : List PyData} (h : xs ≠ []) : ixD (.list xs) (.int (-1)) = some (xs.getLast?.getD .none) := by
  have hl : 0 < xs.length := List.length_pos_iff.mpr h
  show atI xs (-1) = _
  unfold atI
  rw [ixN_last hl, List.getLast?_eq_getElem?]
  show xs[xs.length - 1]? = some (xs[xs.length - 1]?.getD PyData.none)
  rw [List.getElem?_eq_getElem (by omega)]
  rfl
theorem prs_last {r : Rl} {ns : List Int} (h : ns ≠ []) : ((prsL r ns).map prD2).getLast?.getD .none = prD2 (goodB r (bsL r (ns.take (ns.length - 1))) (ns[ns.length - 1]?.getD 0), bsL r ns) := by
  have hl : 0 < ns.length := List.length_pos_iff.mpr h
  rw [List.getLast?_eq_getElem?, List.length_map, prsL_len, List.getElem?_map, prsL_get (by omega), show ns.length - 1 + 1 = ns.length by omega, List.take_length]; rfl
/-- a test of ints -/
def leP (t : Int) (d : PyData) : Bool := match d with
  | .int n => decide (n ≤ t)
  | _ => false
theorem filt_leP (t : Int) (ns : List Int) : ((ns.map PyData.int).filter (leP t)).map (fun d => d) = (ns.filter fun n => decide (n ≤ t)).map .int := by
  rw [List.map_id', List.filter_map]
  rfl
def GForP (g : DTG) (tb : DGn) (Nx : List PyData → DSt → Prop) (ds : List PyData) (items : List PyData) (ρ1 : DSt) : Prop := ∃ I : Nat → List PyData → DSt → Prop, I 0 ds ρ1 ∧
  (∀ k d ds' ρ', items[k]? = some d → I k ds' ρ' → g d ρ' fun ρ2 => tb (I (k + 1)) ds' ρ2) ∧ ∀ ds' ρ', I items.length ds' ρ' → Nx ds' ρ'
theorem gnfor_un {ti : DTL} {g : DTG} {tb : DGn} {Nx : List PyData → DSt → Prop} {ds : List PyData} {ρ : DSt} (h : ti ρ (GForP g tb Nx ds)) : gnFor ti g tb Nx ds ρ := h
theorem gnfor_p {g : DTG} {tb : DGn} {Nx : List PyData → DSt → Prop} {ds items : List PyData} {ρ1 : DSt} (I : Nat → List PyData → DSt → Prop) (h0 : I 0 ds ρ1)
    (hs : ∀ (k : Nat) d ds' ρ', items[k]? = some d → I k ds' ρ' → g d ρ' fun ρ2 => tb (I (k + 1)) ds' ρ2) (he : ∀ ds' ρ', I items.length ds' ρ' → Nx ds' ρ') : GForP g tb Nx ds items ρ1 := ⟨I, h0, hs, he⟩
end LW

/-! range(a, b, -1) on data -/
namespace DL
open PySem PySem.Spec PyProof.Rows L2
def rngC (hi : Int) (n : Nat) : List PyData := (List.range n).map fun i => .int (hi + (i : Nat) * (-1))
theorem rngC_len (hi : Int) (n : Nat) : (rngC hi n).length = n := by unfold rngC; rw [List.length_map, List.length_range]
theorem rngC_get {hi : Int} {n i : Nat} {d : PyData} (h : (rngC hi n)[i]? = some d) : i < n ∧ d = .int (hi - (i : Nat)) := by
  unfold rngC at h
  rw [List.getElem?_map] at h
  by_cases q : i < n
  · rw [List.getElem?_range q] at h
    refine ⟨q, ?_⟩
    rw [← Option.some.inj h]
    show PyData.int (hi + (i : Nat) * (-1)) = .int (hi - (i : Nat))
    congr 1; omega
  · rw [List.getElem?_eq_none (by rw [List.length_range]; omega)] at h; cases h
theorem wks_rngC {L : Fn} {Hf : Hp} {hi : Int} {n : Nat} : Wks L (Itc hi (-1) n) (rngC hi n) Hf := by
  refine ⟨fun i H h _ => by rw [rngC_len] at h; exact h, fun H _ => by rw [rngC_len]; exact Nat.le_refl _, fun i Hf' H x H' d hd e1 e2 y => ?_⟩
  obtain ⟨rfl, rfl⟩ := y
  obtain ⟨_, rfl⟩ := rngC_get hd
  rw [show hi - (i : Nat) = hi + (i : Nat) * (-1) by omega]
  exact ⟨Hf', .refl e2, .int _⟩
def rg3D : List PyData → Option (List PyData)
  | [.int i, .int j, .int k] => if k = -1 ∧ -1000000000 ≤ i ∧ i ≤ 1000000000 ∧ -1000000000 ≤ j ∧ j ≤ 1000000000 then some (rngC i (i - j).toNat) else none
  | _ => none
section
variable {X : Cx} {G : Fx} {tg e a b : Expr} {tl : DTL} {n : Nat} {pos : Pos}
theorem di_rg3 {p : Pos} (hg : Gl X "range") (hm : X.mg "range" = none) (ha : DD X G [e, a, b] n tl) (hs : starEach [e, a, b] X.env = (false, eval e X.env) :: starEach [a, b] X.env := by rfl) (hpl : (backTo pos (starEach [a, b] X.env)).any (·.1) = false := by rfl) :
    DI X G tg (.Call (.Name "range" p) [e, a, b] [] pos) (tRgI rg3D tl) :=
  pi_imp (pi_range3 hg hm ha hs hpl) fun σ H Q ⟨Hf, ω, ρ, Qd, rep, ht, k⟩ => by
  refine ⟨Hf, ω, ρ, _, rep, ht, fun vs H1 Hf1 ω1 ρ1 ds hl rep1 st1 hv q1 => ?_⟩
  obtain ⟨xs, hx, q⟩ := opt_of q1
  unfold rg3D at hx
  split at hx
  · rename_i i j c
    obtain ⟨⟨rfl, c1, c2, c3, c4⟩, rfl⟩ := if_of hx
    match vs, hv with
    | _, .cons h1 (.cons h2 (.cons h3 .nil)) =>
      exact ⟨i, j, -1, _, by rw [h1.isint, h2.isint, h3.isint], RgC.neg (by omega) (by omega) (by omega) (by omega), k _ _ _ _ _ _ rep1 st1 wks_rngC q⟩
  · cases hx
end
theorem rg3_i {i j : Int} (h1 : -1000000 ≤ i) (h2 : i ≤ 1000000) (h3 : -1000000 ≤ j) (h4 : j ≤ 1000000) : rg3D [.int i, .int j, .int (-1)] = some (rngC i (i - j).toNat) := if_pos ⟨rfl, by omega, by omega, by omega, by omega⟩
end DL

namespace LW
open PySem PySem.Spec PyProof.Rows L2 DL
/-! the rows in which all presses are used, counted -/
/-- the rows that go on from a row, with times from lo on, n of them -/
def subs (r : Rl) : Nat → List Int → List Int → Int → List (List Int)
  | 0, _, _, _ => []
  | n + 1, row, bs, lo => (if goodB r bs lo = true then (row ++ [lo]) :: subs r n (row ++ [lo]) (takeL r bs lo) (lo + 1) else []) ++ subs r n row bs (lo + 1)
def loI (row : List Int) : Int := if row = [] then 0 else lastD row + 1
def nodeL (r : Rl) (T : Int) (p : List Int × List Int) : List (List Int) := p.1 :: subs r (T - loI p.1).toNat p.1 p.2 (loI p.1)
def allL (r : Rl) (T : Int) : List (List Int) := nodeL r T ([], [])
theorem subs_len (r : Rl) : ∀ (n : Nat) (row bs : List Int) (lo : Int), (subs r n row bs lo).length + 1 ≤ 2 ^ n
  | 0, _, _, _ => by simp [subs]
  | n + 1, row, bs, lo => by
    have h1 := subs_len r n (row ++ [lo]) (takeL r bs lo) (lo + 1)
    have h2 := subs_len r n row bs (lo + 1)
    have h3 : 2 ^ (n + 1) = 2 ^ n + 2 ^ n := by rw [Nat.pow_succ]; omega
    rw [subs, List.length_append]
    split
    · rw [List.length_cons]; omega
    · simp only [List.length_nil]; omega
theorem allL_len {r : Rl} {T : Int} (h : T ≤ 14) : (allL r T).length ≤ 16384 := by
  have h1 := subs_len r (T - loI []).toNat [] [] (loI [])
  have h2 : 2 ^ (T - loI []).toNat ≤ 2 ^ 14 := Nat.pow_le_pow_right (by decide) (by show (T - 0).toNat ≤ 14; omega)
  show (subs r (T - loI []).toNat [] [] (loI [])).length + 1 ≤ 16384
  exact Nat.le_trans h1 h2
theorem loI_snoc (row : List Int) (t : Int) : loI (row ++ [t]) = t + 1 := by
  unfold loI
  rw [if_neg (by simp)]
  show (row ++ [t]).getLast?.getD 0 + 1 = t + 1
  rw [List.getLast?_append]; rfl
/-- what stands in the waiting list -/
structure WOk (T : Int) (p : List Int × List Int) : Prop where
  h0 : 0 ≤ loI p.1
  h1 : (p.1.length : Int) ≤ loI p.1
  h2 : loI p.1 ≤ T
  h3 : p.2.length = p.1.length
theorem WOk.kid {T : Int} {r : Rl} {p : List Int × List Int} (h : WOk T p) {t : Int} (a : loI p.1 ≤ t) (b : t < T) : WOk T (p.1 ++ [t], takeL r p.2 t) := by
  obtain ⟨h0, h1, h2, h3⟩ := h
  have e := loI_snoc p.1 t
  refine ⟨?_, ?_, ?_, ?_⟩
  · show 0 ≤ loI (p.1 ++ [t]); omega
  · show ((p.1 ++ [t]).length : Int) ≤ loI (p.1 ++ [t]); rw [List.length_append, e]; simp; omega
  · show loI (p.1 ++ [t]) ≤ T; omega
  · show (takeL r p.2 t).length = (p.1 ++ [t]).length; rw [show (takeL r p.2 t).length = p.2.length + 1 by unfold takeL; split <;> simp, List.length_append, h3]; rfl
theorem subs_step (r : Rl) (T : Int) (row bs : List Int) (k : Nat) : subs r (k + 1) row bs (T - ((k + 1 : Nat) : Int)) =
    (if goodB r bs (T - ((k + 1 : Nat) : Int)) = true then nodeL r T (row ++ [T - ((k + 1 : Nat) : Int)], takeL r bs (T - ((k + 1 : Nat) : Int))) else []) ++ subs r k row bs (T - (k : Nat)) := by
  have e : T - ((k + 1 : Nat) : Int) + 1 = T - (k : Nat) := by omega
  rw [subs, e]
  unfold nodeL
  rw [loI_snoc, e, show (T - (T - ((k : Nat) : Int))).toNat = k by omega]
def prW (p : List Int × List Int) : PyData := .tuple [tI p.1, tI p.2]
theorem fit_prW (p : List Int × List Int) : Fit 2 (prW p) := fit_tuple fun d hd => by
  simp only [List.mem_cons, List.not_mem_nil, or_false] at hd
  have hI : ∀ ns : List Int, Fit 1 (tI ns) := fun ns => fit_tuple fun d hd => by obtain ⟨i, _, rfl⟩ := List.mem_map.mp hd; exact fit_int i
  rcases hd with rfl | rfl
  · exact hI _
  · exact hI _
theorem neD_prW (W : List (List Int × List Int)) : neD (.list (W.map prW)) (.list []) = some (.bool (!decide (W = []))) := by
  rw [neD_fit (n := 3) (fit_list fun d hd => by obtain ⟨p, _, rfl⟩ := List.mem_map.mp hd; exact fit_prW p) (fit_list fun d hd => by cases hd)]
  cases W with
  | nil => rw [PyData.eqv, List.map_nil, PyData.eqvAll]; rfl
  | cons x xs => rw [PyData.eqv, List.map_cons, PyData.eqvAll]; simp
def sp_all_rows : SpD := fun rs P _ => ∃ (r : Rl) (T : Int), rs = [.fz (rD r), .fz (.int T)] ∧ RlOk r ∧ 0 ≤ T ∧ T ≤ 14 ∧ ∀ af, P (.ls ((allL r T).map tI)) af
def sp_count_rows : SpD := fun rs P _ => ∃ (r : Rl) (T : Int), rs = [.fz (rD r), .fz (.int T)] ∧ RlOk r ∧ 0 ≤ T ∧ T ≤ 14 ∧ ∀ af, P (.fz (.int ((allL r T).length : Nat))) af
def sp_row_at : SpD := fun rs P _ => ∃ (r : Rl) (T : Int) (k : Nat) (row : List Int), rs = [.fz (rD r), .fz (.int T), .fz (.int (k : Nat))] ∧ RlOk r ∧ 0 ≤ T ∧ T ≤ 14 ∧ (allL r T)[k]? = some row ∧ ∀ af, P (.fz (tI row)) af
theorem last_lo {row : List Int} {q : PyData → Prop} (h : q (.int (loI row - 1))) : ifB (!decide (row = [])) (opt (ixD (tI row) (.int (-1))) q) (q (.int (-1))) := by
  by_cases z : row = []
  · subst z
    exact h
  · rw [decide_eq_false z, ix_last z]
    unfold loI at h
    rw [if_neg z, Int.add_sub_cancel] at h
    exact h
theorem flat_ge (r : Rl) (T : Int) : ∀ W : List (List Int × List Int), W.length ≤ (W.flatMap (nodeL r T)).length
  | [] => Nat.zero_le _
  | p :: W => by
    have := flat_ge r T W
    rw [List.flatMap_cons, List.length_append, List.length_cons]
    have : 1 ≤ (nodeL r T p).length := by unfold nodeL; rw [List.length_cons]; omega
    omega
end LW

/-! rows of ints of any lengths, sorted; sets of ints and of rows, sorted -/
namespace DL
open PySem PySem.Spec PyProof.Rows L2
/-! ### the order of rows -/
def intK : KeyOrd where
  α := Int
  blt a b := decide (a < b)
  irrefl a := by simp
  trans a b c h1 h2 := by simp only [decide_eq_true_eq] at *; omega
  negTrans a b c h := by simp only [decide_eq_true_eq] at *; omega
  total a b h1 h2 := by simp only [decide_eq_false_iff_not] at *; show a = b; omega
theorem lex_same : ∀ a b : List Int, PyProof.Rows.lexLt intK a b = HT.lexLt a b
  | [], [] => rfl
  | [], _ :: _ => rfl
  | _ :: _, [] => rfl
  | x :: xs, y :: ys => by
    rw [HT.lexLt_cons, ← lex_same xs ys]
    refine (lex_cons (O := intK) x y xs ys).trans ?_
    show (decide (x < y) || (!decide (y < x) && PyProof.Rows.lexLt intK xs ys)) = _
    by_cases h1 : x < y
    · rw [decide_eq_true h1, if_neg (by omega), Bool.true_or]
    · by_cases h2 : y < x
      · rw [decide_eq_false h1, decide_eq_true h2, if_neg (by omega)]; rfl
      · rw [decide_eq_false h1, decide_eq_false h2, if_pos (by omega)]; rfl
noncomputable def rowK (h : Heap) : PyProof.Rows.KeyKind where
  toKeyOrd := listOrd intK
  keyOf v := open Classical in if ∃ ns, TS.TupInts h v ns then some (TS.intsOf h v) else none
  dflt := ([] : List Int)
theorem rowK_some {h : Heap} {v : Value} {ns : List Int} (t : TS.TupInts h v ns) : (rowK h).keyOf v = some ns := by
  show (open Classical in if ∃ ns, TS.TupInts h v ns then some (TS.intsOf h v) else none) = _
  rw [if_pos ⟨ns, t⟩, t.ints]
theorem rowK_inv {h : Heap} {v : Value} {ns : List Int} (e : (rowK h).keyOf v = some ns) : TS.TupInts h v ns := by
  by_cases q : ∃ ns, TS.TupInts h v ns
  · obtain ⟨ms, t⟩ := q
    rw [rowK_some t] at e
    exact Option.some.inj e ▸ t
  · have e' : (rowK h).keyOf v = none := by
      show (open Classical in if ∃ ns, TS.TupInts h v ns then some (TS.intsOf h v) else none) = _
      rw [if_neg q]; rfl
    rw [e'] at e; cases e
section
variable {prog : Program} {w : World} {A : Around} {E : Value → Shared → Prop} {s : Shared}
theorem rowLt {x y : Value} {a b : List Int} {Q : Bool → Shared → Prop} (f : Bool) (hx : TS.TupInts s.heap x a) (hy : TS.TupInts s.heap y b) (hu : A.units < cLine) (q : Q (HT.lexLt a b) s) : wpAny (model prog w) A (oneLt' f x y) Q E s := by
  obtain ⟨l, xs, rfl, hl, hi⟩ := hx
  obtain ⟨m, ys, rfl, hm, hj⟩ := hy
  cases f with
  | false => exact PySem.W.kat_one _ _ (HT.lt_tupInts hl hm hi hj hu q)
  | true =>
    obtain ⟨⟨cls, dd, data, sl⟩, ho, hc, n, hd⟩ := id hl
    obtain ⟨⟨cls2, dd2, data2, sl2⟩, ho2, hc2, n2, hd2⟩ := id hm
    simp only at hc hd hc2 hd2
    subst hc hd hc2 hd2
    rw [oneLt'_eq]
    simp only [if_true]
    refine wpAny_bind (wpAny_cRoomFor hu ?_)
    refine wpAny_bind (wpAny_callSpecialIfBound?_slot (T := "tuple") ⟨_, ho, rfl⟩ PySem.F.slot_tuple_lt (call_meets PySem.F.slot_tuple_lt ⟨_, ho, rfl⟩ PySem.F.entry_tuple_lt (PySem.F.args_tuple_lt_2 _ _) (HT.tuple_lt_ints l m xs ys n n2 dd dd2 sl sl2 a b hi hj) ⟨ho, ho2, ?_⟩))
    exact wpAny_truthy_bool q
theorem rowFirsts : ∀ (vs : List Value) (fs : List (List Int)) {Q : List (Option Value) → Shared → Prop}, PySem.W.EachIs (TS.TupInts s.heap) vs fs →
    (∀ os : List (Option Value), os.map Option.isSome = fs.map (fun f => !f.isEmpty) → Q os s) → wpAny (model prog w) A (vs.mapM firstOfTuple') Q E s
  | [], _, _, .nil, h => by rw [List.mapM_nil]; exact wpAny_pure (h [] rfl)
  | v :: vs, f :: fs, Q, .cons t r, h => by
    obtain ⟨a, xs, rfl, ⟨o, ho, hc, n, hd⟩, hi⟩ := t
    rw [List.mapM_cons]
    refine wpAny_bind ?_
    rw [PySem.W.kas_first_eq]
    refine wpAny_bind (PySem.W.Looks.here (show PySem.W.Looks (model prog w) s.heap (typeOf (.ref a)) o.cls from (PySem.W.Looks.ld ho).andThen .now) ?_)
    rw [hc, if_neg (by first | decide | simp)]
    refine wpAny_bind (listItems_at ho hd (wpAny_pure ?_))
    refine wpAny_bind (rowFirsts vs fs r fun os e => wpAny_pure (h _ ?_))
    rw [List.map_cons, List.map_cons, e]
    congr 1
    cases f with
    | nil =>
      have z : xs.size = 0 := by have := hi.length; simpa using this
      rw [Array.getElem?_eq_none (by omega)]; rfl
    | cons y ys =>
      have z : 0 < xs.size := by have := hi.length; simp only [Array.length_toList, List.length_cons] at this; omega
      rw [Array.getElem?_eq_getElem z]; rfl
theorem rowType {v : Value} {f : List Int} (t : TS.TupInts s.heap v f) : PySem.W.Looks (model prog w) s.heap (typeOf v) (.type "tuple") := by
  obtain ⟨a, xs, rfl, ⟨o, ho, hc, n, hd⟩, hi⟩ := t
  rw [← hc]
  exact (PySem.W.Looks.ld ho).andThen .now
theorem rowKind {v0 : Value} {f0 : List Int} {vs : List Value} {fs : List (List Int)} (r : PySem.W.EachIs (TS.TupInts s.heap) (v0 :: vs) (f0 :: fs)) (he : [] ∈ f0 :: fs)
    {Q : SortKind → Shared → Prop} (q : Q (if f0.isEmpty then oneType' else general') s) : wpAny (model prog w) A (keyKind' (v0 :: vs).toArray) Q E s := by
  rw [PyProof.Rows.kat_kind_eq, List.mapM_toArray, map_eq_pure_bind]
  refine wpAny_bind (wpAny_bind (rowFirsts _ _ r fun os e => wpAny_pure ?_))
  have hall : (os.toArray.all fun x => x.isSome) = false := by
    rw [List.all_toArray, Bool.eq_false_iff]
    intro h
    have h2 : ∀ b ∈ os.map Option.isSome, b = true := fun b hb => by
      obtain ⟨o, ho, rfl⟩ := List.mem_map.mp hb
      exact List.all_eq_true.mp h o ho
    rw [e] at h2
    have := h2 _ (List.mem_map.mpr ⟨_, he, rfl⟩)
    exact absurd this (by decide)
  rw [if_neg (by rw [hall]; decide)]
  match os, e with
  | o :: os, e =>
  rw [List.map_cons, List.map_cons] at e
  have e1 := (List.cons.inj e).1
  cases f0 with
  | cons y ys =>
    cases o with
    | none => simp at e1
    | some z =>
      rw [if_pos (by rfl)]
      exact wpAny_pure q
  | nil =>
    cases o with
    | some z => simp at e1
    | none =>
      rw [if_neg (by simp)]
      rw [oneTypeOnly'_eq, List.mapM_toArray, map_eq_pure_bind]
      refine wpAny_bind (wpAny_bind (wpAny_bind (PySem.W.kas_mapM (r := Value.type "tuple") _ (fun v hv Q' hq => ?_) (wpAny_pure ?_))))
      · obtain ⟨f, _, t⟩ := r.left v hv
        exact (rowType t).here hq
      · have hall2 : ((List.map (fun _ => Value.type "tuple") (v0 :: vs)).toArray.all fun x => x == Value.type "tuple") = true := by
          simp only [List.all_toArray, List.all_map, List.all_eq_true]
          intro _ _; rfl
        have h0 : (List.map (fun _ => Value.type "tuple") (v0 :: vs)).toArray[0]? = some (Value.type "tuple") := by simp
        rw [h0]
        simp only [hall2, if_true]
        exact wpAny_pure (wpAny_pure q)
/-- rows with an empty one among them can be sorted -/
theorem rowsAt {vs : List Value} {fs : List (List Int)} (r : PySem.W.EachIs (TS.TupInts s.heap) vs fs) (he : [] ∈ fs) (hu : A.units < cLine) : PySem.W.SortsAt prog w A s (rowK s.heap) vs := by
  refine ⟨fun v hv => ?_, ?_⟩
  · obtain ⟨f, _, t⟩ := r.left v hv
    exact ⟨_, rowK_some t⟩
  · cases r with
    | nil => cases he
    | @cons v0 f0 vs fs r0 rs =>
    have r := PySem.W.EachIs.cons r0 rs
    refine ⟨if f0.isEmpty then oneType' else general', ?_, fun _ E Q q => rowKind r he q⟩
    intro E x y a b Q ha hb q
    have q' : Q (HT.lexLt (show List Int from a) (show List Int from b)) s := (lex_same a b) ▸ q
    split
    · rw [keyLt'_oneType]; exact rowLt true (rowK_inv ha) (rowK_inv hb) hu q'
    · exact (rowLt false (rowK_inv ha) (rowK_inv hb) hu q' : wpAny (model prog w) A (oneLt' false x y) Q E s)
end
/-! ### what a sort gives -/
abbrev leR (a b : List Int) : Bool := !HT.lexLt b a
def srtP (ks : List (Addr × List Int)) : List (Addr × List Int) := ks.mergeSort fun a b => leR a.2 b.2
def srtL (rs : List (List Int)) : List (List Int) := rs.mergeSort leR
theorem leR_trans (a b c : List Int) (h1 : leR a b = true) (h2 : leR b c = true) : leR a c = true := by
  unfold leR at *
  rw [← lex_same] at *
  have := KeyOrd.kle_trans (O := listOrd intK) (a := a) (b := b) (c := c) (by unfold KeyOrd.kle; simpa using h1) (by unfold KeyOrd.kle; simpa using h2)
  unfold KeyOrd.kle at this
  simpa using this
theorem leR_total (a b : List Int) : (leR a b || leR b a) = true := by
  unfold leR
  cases h1 : HT.lexLt b a with
  | false => rfl
  | true =>
    cases h2 : HT.lexLt a b with
    | false => rfl
    | true =>
      rw [← lex_same] at h1 h2
      have := PyProof.Rows.lex_trans (O := intK) b a b h1 h2
      exact absurd ((PyProof.Rows.lex_irrefl (O := intK) b).symm.trans this) (by decide)
theorem leR_anti {a b : List Int} (h1 : leR a b = true) (h2 : leR b a = true) : a = b := by
  unfold leR at *
  rw [← lex_same] at *
  exact PyProof.Rows.lex_total (O := intK) a b (by simpa using h2) (by simpa using h1)
theorem srtP_perm (ks : List (Addr × List Int)) : (srtP ks).Perm ks := List.mergeSort_perm _ _
theorem srtL_perm (rs : List (List Int)) : (srtL rs).Perm rs := List.mergeSort_perm _ _
theorem srtL_up (rs : List (List Int)) : (srtL rs).Pairwise (fun a b => leR a b = true) := List.pairwise_mergeSort leR_trans leR_total rs
theorem rows_one : ∀ {xs ys : List (List Int)}, xs.Perm ys → xs.Pairwise (fun a b => leR a b = true) → ys.Pairwise (fun a b => leR a b = true) → xs = ys
  | [], ys, h, _, _ => h.nil_eq
  | x :: xs, [], h, _, _ => by have := h.length_eq; simp at this
  | x :: xs, y :: ys, h, h1, h2 => by
    have rf : ∀ z : List Int, leR z z = true := fun z => by have := leR_total z z; simpa using this
    have a : leR x y = true := by
      rcases List.mem_cons.mp (h.mem_iff.mpr List.mem_cons_self) with z | z
      · rw [z]; exact rf x
      · exact (List.pairwise_cons.mp h1).1 _ z
    have b : leR y x = true := by
      rcases List.mem_cons.mp (h.mem_iff.mp List.mem_cons_self) with z | z
      · rw [z]; exact rf y
      · exact (List.pairwise_cons.mp h2).1 _ z
    have e : x = y := leR_anti a b
    subst e
    rw [rows_one ((List.perm_cons _).mp h) (List.pairwise_cons.mp h1).2 (List.pairwise_cons.mp h2).2]
theorem srtP_rows (ks : List (Addr × List Int)) : (srtP ks).map (·.2) = srtL (ks.map (·.2)) := by
  refine rows_one ((srtP_perm ks).map _ |>.trans (srtL_perm _).symm) ?_ (srtL_up _)
  rw [List.pairwise_map]
  exact List.pairwise_mergeSort (le := fun a b : Addr × List Int => leR a.2 b.2) (fun a b c => leR_trans _ _ _) (fun a b => leR_total _ _) ks
theorem srtP_vals {h : Heap} {ks : List (Addr × List Int)} (t : ∀ p ∈ ks, TS.TupInts h (.ref p.1) p.2) : PySem.W.sortVals (rowK h) false (ks.map fun p => Value.ref p.1) (ks.map fun p => Value.ref p.1) = (srtP ks).map fun p => Value.ref p.1 := by
  have each : ∀ ks : List (Addr × List Int), PySem.W.EachIs (fun v (p : Addr × List Int) => v = Value.ref p.1) (ks.map fun p => Value.ref p.1) ks := fun ks => by
    induction ks with
    | nil => exact .nil
    | cons k ks ih => exact .cons rfl ih
  have each2 : ∀ ks : List (Addr × List Int), (∀ p ∈ ks, TS.TupInts h (.ref p.1) p.2) → PySem.W.EachIs (fun v (p : Addr × List Int) => (rowK h).keyOf v = some p.2) (ks.map fun p => Value.ref p.1) ks := fun ks => by
    induction ks with
    | nil => intro _; exact .nil
    | cons k ks ih => exact fun t => .cons (rowK_some (t k List.mem_cons_self)) (ih fun p hp => t p (List.mem_cons_of_mem _ hp))
  have q := PySem.W.sortVals_each (κ := rowK h) (rev := false) (fun p : Addr × List Int => p.2) (each ks) (each2 ks t)
  have e : (PySem.W.sortLe (rowK h).toKeyOrd false fun p : Addr × List Int => p.2) = fun a b => leR a.2 b.2 := by
    funext a b
    unfold PySem.W.sortLe leR
    show (!(PyProof.Rows.lexLt intK b.2 a.2)) = _
    rw [lex_same]
  rw [e] at q
  have fin : ∀ {vs : List Value} {ps : List (Addr × List Int)}, PySem.W.EachIs (fun v (p : Addr × List Int) => v = Value.ref p.1) vs ps → vs = ps.map fun p => Value.ref p.1 := fun r => by
    induction r with
    | nil => rfl
    | cons h _ ih => rw [List.map_cons, h, ih]
  exact fin q
/-! ### the calls -/
theorem tup_refs {s : Shared} {ks : List (Addr × List Int)} (t : ∀ p ∈ ks, TS.TupInts s.heap (.ref p.1) p.2) : PySem.W.EachIs (TS.TupInts s.heap) (ks.map fun p => Value.ref p.1) (ks.map (·.2)) := by
  induction ks with
  | nil => exact .nil
  | cons k ks ih => exact .cons (t k List.mem_cons_self) (ih fun p hp => t p (List.mem_cons_of_mem _ hp))
section
variable {X : Cx}
/-- sorted(xs), xs a list of rows, an empty one among them -/
def rSortR (K : PySem.W.Frag) : List V → Hp → VK → Prop := fun vs H Q => ∃ (a : Addr) (ks : List (Addr × List Int)), vs = [V.ref a] ∧ SqL K H a (ks.map fun p => V.ref p.1) ∧ (∀ p ∈ ks, SqT K H p.1 (p.2.map V.int)) ∧ [] ∈ ks.map (·.2) ∧
  ∀ p, H p = none → Q (.ref p) (upd H p (.lst ((srtP ks).map fun q => V.ref q.1)))
theorem tups_mono {h h' : Heap} {ks : List (Addr × List Int)} (t : ∀ p ∈ ks, TS.TupInts h (.ref p.1) p.2) (k : ∀ b o, h.get? b = some o → h'.get? b = some o) : ∀ p ∈ ks, TS.TupInts h' (.ref p.1) p.2 :=
  fun p hp => (t p hp).keeps fun b o e _ => k b o e
theorem sort_refs {prog : Program} {w : World} {A : Around} {E : Value → Shared → Prop} {s : Shared} {l : Addr} {ks : List (Addr × List Int)} {vs : List Value} {Q : Value → Shared → Prop} (hl : s.heap.IsList l vs.toArray) (ev : vs = ks.map fun p => Value.ref p.1) (hz : vs.length ≤ sizeLine)
    (t : ∀ p ∈ ks, TS.TupInts s.heap (.ref p.1) p.2) (he : [] ∈ ks.map (·.2)) (hu : A.units + 64 < cLine) (q : ∀ out : List Value, out = (srtP ks).map (fun p => Value.ref p.1) → Q (.ref (s.heap.objs.size + 1)) { s with heap := sortedAll s.heap vs out.toArray }) :
    wpAny (model prog w) A (call (.builtin "sorted") [.ref l]) Q E s := by
  have t1 : ∀ p ∈ ks, TS.TupInts (PySem.W.sortingHeap (PySem.W.copyHeap s.heap vs) (s.heap.objs.size + 1) vs) (.ref p.1) p.2 := tups_mono t fun b o e => PySem.W.sorting_copy_old e
  refine PySem.W.sorted_vals (κ := rowK (PySem.W.sortingHeap (PySem.W.copyHeap s.heap vs) (s.heap.objs.size + 1) vs)) hl (rowsAt (fs := ks.map (·.2)) ?_ he ?_) hz (q _ ?_)
  · rw [ev]; rw [ev] at t1; exact tup_refs (s := { s with heap := _ }) t1
  · show A.in1.in1.units < cLine
    simp only [Around.in1]; omega
  · have := srtP_vals t1
    rw [← ev] at this
    exact this
theorem cr_sortR (hu : X.A.units + 64 < cLine) : CallR X (.builtin "sorted") (rSortR X.K) := fun pins s σ H vs us Q I r ⟨a, ks, e, hs, hk, he, q⟩ => by
  subst e
  rw [Vals.ref1 r]
  have fin : ∀ (its : List Value), (ks.map fun p => V.ref p.1).length ≤ sizeLine → ∀ out : List Value, out = (srtP ks).map (fun p => Value.ref p.1) → EP X pins σ Q (.ref (s.heap.objs.size + 1)) { s with heap := sortedAll s.heap its out.toArray } := fun its hz out eo => by
    obtain ⟨ep, he⟩ := PyProof.Rows.sortedAll_at s.heap its out.toArray
    have hn : ((srtP ks).map fun q => V.ref q.1).length ≤ sizeLine := by
      rw [List.length_map, (srtP_perm ks).length_eq]
      rwa [List.length_map] at hz
    have hv : Vals ((srtP ks).map fun q => V.ref q.1) out := eo ▸ vals_of_refs (srtP ks)
    exact ⟨.ref _, _, I.laid (t' := s.toks) (o := .lst ((srtP ks).map fun q => V.ref q.1)) (fun _ _ => PyProof.Rows.sortedAll_old) (Nat.le_succ _) ⟨hn, out, ep, hv, he⟩, rfl, q _ (I.hok.fresh (Nat.le_succ _))⟩
  obtain ⟨its, rv, hl, hz⟩ := I.list hs
  exact sort_refs hl.isList (refs_of_vals rv) (by rw [← rv.length]; exact hz) (fun p hp => tupI_raw I (hk p hp)) he hu (fin its hz)
end
/-! ### sorted(set(xs)) of rows -/
section
variable {P : Program} {w : World} {A : Around} {E : Value → Shared → Prop} {s : Shared}
theorem refs_order {L : List (Addr × List Int)} : ∀ vs : List Value, (∀ v ∈ vs, ∃ q ∈ L, Value.ref q.1 = v) → ∃ L1 : List (Addr × List Int), vs = L1.map (fun q => Value.ref q.1) ∧ ∀ q ∈ L1, q ∈ L
  | [], _ => ⟨[], rfl, fun q hq => by cases hq⟩
  | v :: vs, h => by
    obtain ⟨q, hq, e⟩ := h v List.mem_cons_self
    obtain ⟨L1, e1, hs⟩ := refs_order vs fun u hu => h u (List.mem_cons_of_mem _ hu)
    refine ⟨q :: L1, by rw [List.map_cons, e, e1], fun r hr => ?_⟩
    rcases List.mem_cons.mp hr with z | z
    · exact z ▸ hq
    · exact hs r z
theorem refs_perm {h : Heap} {L L1 : List (Addr × List Int)} (tup : ∀ p ∈ L, IsT P w h p.2 p.1) (nd : (L.map (·.2)).Nodup) (sub : ∀ q ∈ L1, q ∈ L) (pm : (L1.map fun q => Value.ref q.1).Perm (L.map fun q => Value.ref q.1)) : L1.Perm L := by
  have one : ∀ q ∈ L, ∀ r ∈ L, q.1 = r.1 → q = r := fun q hq r hr e => by
    have a1 := tup q hq
    rw [e] at a1
    exact Prod.ext e (a1.inj (tup r hr))
  have nL : L.Nodup := nodup_of_map nd
  have nr : (L.map fun q => Value.ref q.1).Nodup := by
    refine List.pairwise_map.mpr (List.Pairwise.imp_of_mem (fun {q r} hq hr hne e => ?_) nL)
    injection e with e
    exact hne (one q hq r hr e)
  refine (List.perm_ext_iff_of_nodup (nodup_of_map (pm.nodup_iff.mpr nr)) nL).mpr fun q => ⟨sub q, fun hq => ?_⟩
  obtain ⟨r, hr, e⟩ := List.mem_map.mp (pm.mem_iff.mpr (List.mem_map.mpr ⟨q, hq, rfl⟩))
  injection e with e
  rw [← one r (sub r hr) q hq e]
  exact hr
theorem sort_setR {a : Addr} {L : List (Addr × List Int)} {es : Array (Int × Value)} {ep : Nat} {t : SetTable} {Q : Value → Shared → Prop} (R : SetTR P w s.heap a L es ep t) (hh : A.handled = none) (he : [] ∈ L.map (·.2)) (hu : A.units + 64 < cLine)
    (hQ : ∀ s' p (out : List Value) (c : Nat) (L' : List (Addr × List Int)), (∀ b o, s.heap.get? b = some o → s'.heap.get? b = some o) → s'.gens = s.gens → s'.os = s.os → s.heap.objs.size ≤ p →
      s'.heap.get? p = some (seqObj "list" out.toArray c) → out = L'.map (fun q => Value.ref q.1) → L'.Perm L → L'.map (·.2) = srtL (L.map (·.2)) → Q (.ref p) s') :
    wpAny (model P w) A (call (.builtin "sorted") [.ref a]) Q E s := by
  obtain ⟨o, ho, hex, hd⟩ := R.ob
  have hfew := R.few
  have hsz := R.size
  refine Calls.call_function_entry kind_sorted plain_sorted entry_sorted (args_sorted1 _) ?_
  unfold Builtin.«sorted»
  refine wpAny_bind (m := checkCount "sorted" 1 1 _) (wpAny_pure ?_)
  refine wpAny_bind (collect_set (A := A.in1) hh ⟨o, ho, hex.1, hd⟩ R.fits (by unfold scanBound; omega) R.tab.ris R.led fun s1 vs k1 hz g1 o1 pm => ?_)
  have hes : es.toList.map (·.2) = L.map fun q => Value.ref q.1 := by
    rw [R.rows]
    unfold rowsOf
    rw [List.map_map]; rfl
  rw [hes] at pm
  obtain ⟨L1, e1, sub1⟩ := refs_order vs fun v hv => List.mem_map.mp (pm.mem_iff.mp hv)
  have pL : L1.Perm L := refs_perm R.tup R.nd sub1 (e1 ▸ pm)
  have hvl : vs.length ≤ sizeLine := by rw [pm.length_eq, List.length_map, sizeLine_eq]; omega
  refine wpAny_bind (wpAny_newList ?_ hvl)
  have hoL : (s1.heap.push (seqObj "list" vs.toArray 0)).get? s1.heap.objs.size = some (seqObj "list" vs.toArray 0) := Heap.get?_push_size _ rfl
  have k2 : ∀ b o, s1.heap.get? b = some o → (PySem.W.sortingHeap (s1.heap.push (seqObj "list" vs.toArray 0)) s1.heap.objs.size vs).get? b = some o := fun b o e =>
    PySem.W.sortingHeap_old (Nat.ne_of_lt (Heap.lt_size e)) (Heap.get?_push_of_some _ e)
  have t1 : ∀ p ∈ L1, TS.TupInts (PySem.W.sortingHeap (s1.heap.push (seqObj "list" vs.toArray 0)) s1.heap.objs.size vs) (.ref p.1) p.2 := fun p hp => tupInts_of (P := P) (w := w) (isT_keep (R.tup p (sub1 p hp)) fun b u e => k2 b u (k1 b u e))
  have sa : PySem.W.SortsAt P w A.in1.in1 { s1 with heap := PySem.W.sortingHeap (s1.heap.push (seqObj "list" vs.toArray 0)) s1.heap.objs.size vs } (rowK (PySem.W.sortingHeap (s1.heap.push (seqObj "list" vs.toArray 0)) s1.heap.objs.size vs)) vs := by
    refine rowsAt (fs := L1.map (·.2)) ?_ ((pL.map (·.2)).mem_iff.mpr he) ?_
    · have t2 := tup_refs (s := { s1 with heap := PySem.W.sortingHeap (s1.heap.push (seqObj "list" vs.toArray 0)) s1.heap.objs.size vs }) t1
      rw [← e1] at t2
      exact t2
    · show A.in1.in1.units < cLine
      simp only [Around.in1]; omega
  have out : PySem.W.sortVals (rowK (PySem.W.sortingHeap (s1.heap.push (seqObj "list" vs.toArray 0)) s1.heap.objs.size vs)) false vs vs = (srtP L1).map fun p => Value.ref p.1 := by
    have := srtP_vals t1
    rw [← e1] at this
    exact this
  refine wpAny_bind (wpAny_holding (wpAny_call_entry slot_list_sort ⟨_, hoL, rfl⟩ entry_list_sort (PySem.W.list_sort_vals (s := { s1 with heap := s1.heap.push (seqObj "list" vs.toArray 0) }) hoL sa hvl ⟨_, rfl, ?_⟩) (args_list_sort _)))
  generalize hov : PySem.W.sortVals (rowK (PySem.W.sortingHeap (s1.heap.push (seqObj "list" vs.toArray 0)) s1.heap.objs.size vs)) false vs vs = ov at out ⊢
  obtain ⟨c, hc⟩ := sortedHeap_at (vs := vs) (out := ov.toArray) hoL
  refine wpAny_pure ⟨_, rfl, hQ _ s1.heap.objs.size ov c (srtP L1) (fun b u e => ?_) g1 o1 hz hc out ((srtP_perm L1).trans pL) ?_⟩
  · have q := k1 b u e
    have hlt := Heap.lt_size q
    show (sortedHeap (s1.heap.push (seqObj "list" vs.toArray 0)) s1.heap.objs.size vs ov.toArray).get? b = some u
    rw [sortedHeap_old (Nat.ne_of_lt hlt) (by rw [size_push']; exact Nat.lt_succ_of_lt hlt)]
    exact Heap.get?_push_of_some _ q
  · rw [srtP_rows]
    exact rows_one (((srtL_perm _).trans (pL.map _)).trans (srtL_perm _).symm) (srtL_up _) (srtL_up _)
end
section
variable {X : Cx}
/-- sorted(xs), xs a set of rows, an empty one among them -/
def rSortRS (K : PySem.W.Frag) (P : Program) (w : World) : List V → Hp → VK → Prop := fun vs H Q => ∃ (a : Addr) (L : List (Addr × List Int)), vs = [V.ref a] ∧ H a = some (SetTO P w a L) ∧ (∀ p ∈ L, SqT K H p.1 (p.2.map V.int)) ∧ [] ∈ L.map (·.2) ∧
  ∀ (L' : List (Addr × List Int)) (p : Addr), L'.Perm L → (L.map (·.2)).Nodup → L'.map (·.2) = srtL (L.map (·.2)) → H p = none → Q (.ref p) (upd H p (.lst (L'.map fun q => V.ref q.1)))
theorem cr_sortRS (hc : X.calm = true) (hu : X.A.units + 64 < cLine) : CallR X (.builtin "sorted") (rSortRS X.K X.prog X.w) := by
  intro pins s σ H vs us Q I r h
  obtain ⟨a, L, rfl, ha, hk, he, q⟩ := h
  have R0 : SetT0 X.prog X.w s.heap a L := (I.hok a _ ha).1
  obtain ⟨es, ep, t, R⟩ := R0.full fun p hp => I.isT (hk p hp)
  rw [Vals.ref1 r]
  refine sort_setR R (I.ok.hd hc) he hu fun s' p out c L' k g o hp hg hout pm er => ?_
  have hlen : (L'.map fun q => V.ref q.1).length ≤ sizeLine := by rw [List.length_map, pm.length_eq, sizeLine_eq]; have := R.few; omega
  have hn : H p = none := I.hok.fresh hp
  have hv : Vals (L'.map fun q => V.ref q.1) out := by rw [hout]; exact vals_of_refs L'
  have J : Inv X pins σ (upd H p (.lst (L'.map fun q => V.ref q.1))) { s with heap := s'.heap, gens := s'.gens, drawn := s'.drawn, toks := s'.toks } :=
    I.call (ch := []) (Un.laid k hp hn) (I.hok.laid k hp ⟨hlen, out, c, hv, hg⟩) (by rw [g]; exact I.bare) (fun _ z => nomatch z)
  have e : s' = { s with heap := s'.heap, gens := s'.gens, drawn := s'.drawn, toks := s'.toks } := by
    cases s'
    cases s
    cases o
    rfl
  rw [e]
  exact ⟨.ref p, _, J, rfl, q L' p pm R.nd er hn⟩
end
/-! ### set(xs), xs a list of ints -/
section
variable {P : Program} {w : World} {A : Around} {E : Value → Shared → Prop} {s : Shared}
abbrev stO (w : World) : Obj := { cls := .type "set", dict := none, data := .set #[] 0 (.fresh 0 0 (!w.params.followText "set-order")) }
theorem set_listI {l : Addr} {its : List Value} (ns : List Int) {Q : Value → Shared → Prop} (hh : A.handled = none) (hl : s.heap.IsList l its.toArray) (hit : IntsAre its ns) (hb : ns.length + 1 < scanBound)
    (h : ∀ (h' : Heap) (tk c : Nat), SetR w h' s.heap.objs.size (fun j => decide (j ∈ ns)) c → c ≤ ns.length → (∀ b o, s.heap.get? b = some o → h'.get? b = some o) → Q (.ref s.heap.objs.size) { s with heap := h', toks := tk }) :
    wpAny (model P w) A (call (.type "set") [.ref l]) Q E s := by
  have hisz : its.toArray.size = ns.length := by rw [List.size_toArray]; exact hit.length
  obtain ⟨c, tl, hmro⟩ := F.called_set.mro
  have hmade := F.called_set.made
  have hsub := F.called_set.sub
  refine wpAny_call (codeAny_of_tree ?_)
  show wpAny _ _ (callAny (.type "set") _) _ _ _
  refine wpAny_pure ⟨Code.quiet_builtin _ (by decide +kernel), codeAny_builtin F.entry_type_call ?_⟩
  rw [Around.under_plain (weight_type_call_type "set" [.ref l] []) rfl]
  have h1 := F.called_set.notType
  have h2 := F.called_set.canCreate
  have hct := F.typeCall_set_1 (.ref l)
  repeat (any_goals (first | assumption | wp_step))
  refine codeAny_mono (code_set_led1 (.ref l) (E := E) (Q₁ := fun obj s₁ => obj = .ref s.heap.objs.size ∧ s₁ = { s with heap := s.heap.push (stO w) }) ⟨rfl, rfl⟩) fun r s₁ hr => ?_
  match r, hr with
  | .error e, hr => exact hr
  | .ok (.ret obj), hr =>
    obtain ⟨rfl, rfl⟩ := hr
    have hS : (s.heap.push (stO w)).get? s.heap.objs.size = some (stO w) := Heap.get?_push_size _ rfl
    have hT : Shared.TypeIs { s with heap := s.heap.push (stO w) } (.ref s.heap.objs.size) "set" := ⟨_, hS, rfl⟩
    have hli := F.called_set.init.lookup
    have hbi := F.called_set.init.bind (.ref s.heap.objs.size)
    repeat (any_goals (first | assumption | wp_step))
    refine codeAny_mono (codeAny_call_builtin (R := wants (fun r s₂ => r = .none ∧ ∃ h' tk c, s₂ = { s with heap := h', toks := tk } ∧ SetR w h' s.heap.objs.size (fun j => decide (j ∈ ns)) c ∧ c ≤ ns.length ∧
        (∀ b o, s.heap.get? b = some o → h'.get? b = some o)) E) F.called_set.init.plain F.entry_set_init (check_set_init_1 hT ?_)) fun r₂ s₂ hr₂ => ?_
    · obtain ⟨⟨ocls, odict, odata, oslots⟩, hol, hcl, nl, hdl⟩ := hl
      simp only at hcl hdl
      subst hcl; subst hdl
      have hol' : (s.heap.push (stO w)).get? l = some { cls := .type "list", dict := odict, data := .seq its.toArray nl, slots := oslots } := Heap.get?_push_of_some _ hol
      have hsls := F.sub_list_set
      have hslf := F.sub_list_frozenset
      have hne : (Value.type "list" == Value.type "dict") = false := by decide
      have hl1 : (s.heap.push (stO w)).IsList l its.toArray := ⟨_, hol', rfl, nl, rfl⟩
      unfold Builtin.«set.__init__» noKeywords Builtin.Frozenset.updateFrom
      generalize hPI : pyIter = PI
      wp_walk
      subst hPI
      refine wpAny_pyIter_list hl1 ?_
      refine wpAny_bind (wpAny_runValue ?_)
      have hlS : l < s.heap.objs.size := Heap.lt_size hol
      have hh3 : A.in1.in1.in1.handled = none := by simp [hh]
      have hz1 : (s.heap.push (stO w)).objs.size = s.heap.objs.size + 1 := Heap.size_push ..
      have hneI : l ≠ (s.heap.push (stO w)).objs.size := by rw [hz1]; exact Nat.ne_of_lt (Nat.lt_succ_of_lt hlS)
      have hSf : s.heap.objs.size ∉ [(s.heap.push (stO w)).objs.size, l] := by
        rw [hz1]; simp only [List.mem_cons, List.not_mem_nil, or_false, not_or]
        exact ⟨Nat.ne_of_lt (Nat.lt_succ_self _), Nat.ne_of_gt hlS⟩
      have hval : ∀ (i : Nat) (v : Value), its.toArray[i]? = some v → ∃ k t, ns[i]? = some k ∧ v = .int k t := fun i v hv => by
        have hi : i < ns.length := by rw [← hisz]; exact (Array.getElem?_eq_some_iff.mp hv).1
        obtain ⟨t, e⟩ := PyProof.Rows.IntsAre.int_at hit i v (by simpa using hv)
        refine ⟨ns[i], t, List.getElem?_eq_getElem hi, ?_⟩
        rw [e, List.getD_eq_getElem?_getD, List.getElem?_eq_getElem hi]; rfl
      refine set_update_ints ((Walks.list hh3 _ l hneI its.toArray).toS) s.heap.objs.size hSf ns hisz hb hval (its.toArray.size - 0) 0 _ (by omega) (Nat.zero_le _) ⟨⟨_, Heap.get?_push_size _ rfl, rfl, rfl⟩, (hl1.push _)⟩ ?hS0 ?hR
      case hS0 =>
        exact ⟨0, Nat.le_refl 0, setR_new_at (Heap.get?_push_of_some _ hS)⟩
      case hR =>
        intro s' c' hm hc' hS'
        obtain ⟨h', g2, d', tk', os'⟩ := s'
        have eg : g2 = s.gens := hm.gens
        have ed : d' = s.drawn := hm.drawn
        have eo : os' = s.os := hm.os
        subst eg; subst ed; subst eo
        show wpAny _ _ _ _ _ _
        refine wpAny_pure ?_
        show wpAny _ _ (ret Value.none) _ _ _
        rw [hisz] at hc'
        refine wpAny_pure ⟨rfl, h', tk', c', rfl, hS', hc', fun b o e => ?_⟩
        have hb0 : b < s.heap.objs.size := Heap.lt_size e
        exact hm.heap b o (by
          rw [hz1]; simp only [List.mem_cons, List.not_mem_nil, or_false, not_or]
          exact ⟨Nat.ne_of_lt hb0, Nat.ne_of_lt (Nat.lt_succ_of_lt hb0)⟩) (Heap.get?_push_of_some _ (Heap.get?_push_of_some _ e))
    · match r₂, hr₂ with
      | .error e, hr₂ => exact hr₂
      | .ok (.ret r), hr₂ =>
        obtain ⟨rfl, h', tk, c', rfl, hS', hc', hk'⟩ := hr₂
        repeat (any_goals (first | assumption | wp_step))
        exact h _ _ _ hS' hc' hk'
end
section
variable {X : Cx}
def rSetOfI (K : PySem.W.Frag) (w : World) : List V → Hp → VK → Prop := fun xs H Q => ∃ (l : Addr) (ns : List Int), xs = [V.ref l] ∧ SqL K H l (ns.map V.int) ∧ ns.length < 64 ∧
  ∀ a c, H a = none → c ≤ ns.length → Q (.ref a) (upd H a (SetO w a (fun j => decide (j ∈ ns)) c))
theorem cr_setOfI (hc : X.calm = true) : CallR X (.type "set") (rSetOfI X.K X.w) := by
  intro pins s σ H xs us Q I r h
  obtain ⟨l, ns, rfl, hl, hf, q⟩ := h
  rw [Vals.ref1 r]
  obtain ⟨its, rv, pl, hz⟩ := I.list hl
  refine set_listI (P := X.prog) (w := X.w) ns (I.ok.hd hc) pl.isList rv.ints (by unfold scanBound; omega) fun h' tk c R hcn k => ?_
  exact ⟨.ref s.heap.objs.size, _, I.laid (t' := tk) k (Nat.le_refl _) (setO_new R), rfl, q _ c (I.hok.fresh (Nat.le_refl _)) hcn⟩
end
end DL

/-! sorted(set(xs)) at the level of data -/
namespace DL
open PySem PySem.Spec PyProof.Rows L2
theorem room64 {k : Nat} (h : k + 65 < cLine) : k + 64 < cLine := by omega
abbrev rwI (xs : List Int) : PyData := .tuple (xs.map .int)
def dedI : List Int → List Int
  | [] => []
  | x :: r => if x ∈ r then dedI r else x :: dedI r
theorem dedI_mem (k : Int) : ∀ ns : List Int, k ∈ dedI ns ↔ k ∈ ns
  | [] => Iff.rfl
  | x :: r => by
    unfold dedI
    split
    · rename_i h
      rw [dedI_mem k r, List.mem_cons]
      exact ⟨.inr, fun q => q.elim (fun e => e ▸ h) id⟩
    · rw [List.mem_cons, List.mem_cons, dedI_mem k r]
theorem dedI_nodup : ∀ ns : List Int, (dedI ns).Nodup
  | [] => .nil
  | x :: r => by
    unfold dedI
    split
    · exact dedI_nodup r
    · rename_i h
      exact List.nodup_cons.mpr ⟨fun q => h ((dedI_mem x r).mp q), dedI_nodup r⟩
def rowsD : List PyData → Option (List (List Int))
  | [] => some []
  | .tuple us :: r => (intsD us).bind fun n => (rowsD r).map (n :: ·)
  | _ => none
theorem rowsD_map : ∀ rs : List (List Int), rowsD (rs.map rwI) = some rs
  | [] => rfl
  | r :: rs => by
    show (intsD (r.map .int)).bind (fun n => (rowsD (rs.map rwI)).map (n :: ·)) = _
    rw [intsD_map, rowsD_map rs]; rfl
theorem rowsD_of : ∀ {us : List PyData} {rs : List (List Int)}, rowsD us = some rs → us = rs.map rwI
  | [], rs, h => by cases h; rfl
  | .tuple us :: r, rs, h => by
    obtain ⟨n, h1, h2⟩ := Option.bind_eq_some_iff.mp (show (intsD us).bind (fun n => (rowsD r).map (n :: ·)) = some rs from h)
    obtain ⟨t, h3, rfl⟩ := Option.map_eq_some_iff.mp h2
    rw [intsD_of h1, rowsD_of h3]; rfl
  | .none :: _, _, h => by cases h
  | .bool _ :: _, _, h => by cases h
  | .int _ :: _, _, h => by cases h
  | .str _ :: _, _, h => by cases h
  | .list _ :: _, _, h => by cases h
  | .dict _ :: _, _, h => by cases h
/-- the rows at their places -/
theorem DdAll.rows {L : Fn} {H : Hp} : ∀ {rs : List (List Int)} {vs : List V}, DdAll L H vs (rs.map rwI) → ∃ ks : List (Addr × List Int), vs = ks.map (fun p => V.ref p.1) ∧ ks.map (·.2) = rs ∧ ∀ p ∈ ks, H p.1 = some (.tup (p.2.map V.int))
  | [], _, .nil => ⟨[], rfl, rfl, fun p hp => by cases hp⟩
  | r :: rs, _, .cons h t => by
    obtain ⟨ks, e1, e2, e3⟩ := DdAll.rows t
    cases h with
    | @tup a ws _ h1 h2 =>
      refine ⟨(a, r) :: ks, by rw [List.map_cons, e1], by rw [List.map_cons, e2], fun p hp => ?_⟩
      rcases List.mem_cons.mp hp with rfl | hp
      · rw [h1, h2.ints]
      · exact e3 p hp
theorem DdAll.of_rows {L : Fn} {H : Hp} : ∀ {ks : List (Addr × List Int)}, (∀ p ∈ ks, H p.1 = some (.tup (p.2.map V.int))) → DdAll L H (ks.map fun p => V.ref p.1) ((ks.map (·.2)).map rwI)
  | [], _ => .nil
  | p :: ks, h => .cons (.tup (h p List.mem_cons_self) (dd_ints _)) (DdAll.of_rows fun q hq => h q (List.mem_cons_of_mem _ hq))
/-! ### sorted of a list of rows -/
noncomputable def sortRD : List PyData → Option PyData
  | [.list xs] => (rowsD xs).bind fun rs => open Classical in if [] ∈ rs then some (.list ((srtL rs).map rwI)) else none
  | _ => none
theorem sortR_l {rs : List (List Int)} (h : [] ∈ rs) : sortRD [.list (rs.map rwI)] = some (.list ((srtL rs).map rwI)) := by
  show (rowsD _).bind _ = _
  rw [rowsD_map]
  show (open Classical in if [] ∈ rs then some (PyData.list ((srtL rs).map rwI)) else none) = _
  rw [if_pos h]
theorem cSortR {K : PySem.W.Frag} {L : Fn} : RCD L (rSortR K) sortRD := by
  intro xs ds z Hf H Q ex hv hz k
  unfold sortRD at hz
  split at hz
  · rename_i us
    obtain ⟨rs, h1, h2⟩ := Option.bind_eq_some_iff.mp hz
    split at h2
    · rename_i he
      cases rowsD_of h1
      obtain ⟨v, rfl, h⟩ := hv.one
      cases h with
      | @lst a vs _ q1 q2 =>
        obtain ⟨ks, e1, e2, e3⟩ := q2.rows
        subst e1
        refine ⟨a, ks, rfl, .of (ex _ _ q1), fun p hp => .of (ex _ _ (e3 p hp)), e2 ▸ he, fun p hp => ?_⟩
        cases h2
        have g : Grw Hf H _ _ := .new (o := .lst ((srtP ks).map fun q => V.ref q.1)) ex hp
        refine k _ _ _ g ?_
        rw [← e2, ← srtP_rows]
        exact .lst upd_same (DdAll.of_rows fun p hp => g.fz _ _ (e3 p ((srtP_perm ks).mem_iff.mp hp)))
    · cases h2
  · cases hz
/-! ### sorted of a set -/
def rSetAny (K : PySem.W.Frag) (P : Program) (w : World) : List V → Hp → VK → Prop := fun xs H Q => rSetOfI K w xs H Q ∨ rSetOfT K P w xs H Q
def rSortAny (K : PySem.W.Frag) (P : Program) (w : World) : List V → Hp → VK → Prop := fun xs H Q => rSortedSet w xs H Q ∨ rSortRS K P w xs H Q
section
variable {X : Cx}
theorem cr_setAny (hc : X.calm = true) (hu : X.A.units + 64 < cLine) : CallR X (.type "set") (rSetAny X.K X.prog X.w) := fun pins s σ H xs us Q I r h =>
  h.elim (fun h => cr_setOfI hc pins s σ H xs us Q I r h) fun h => cr_setOfT hc hu pins s σ H xs us Q I r h
theorem cr_sortAny (hc : X.calm = true) (hu : X.A.units + 64 < cLine) : CallR X (.builtin "sorted") (rSortAny X.K X.prog X.w) := fun pins s σ H xs us Q I r h =>
  h.elim (fun h => cr_sortedSet hc pins s σ H xs us Q I r h) fun h => cr_sortRS hc hu pins s σ H xs us Q I r h
end
abbrev ltR (a b : List Int) : Prop := HT.lexLt a b = true
noncomputable def sortSD : List PyData → Option PyData
  | [.list xs] => match intsD xs with
    | some ns => if ns.length < 64 then some (.list ((srtI (dedI ns)).map .int)) else none
    | none => (rowsD xs).bind fun rs => open Classical in if rs.length < 64 ∧ [] ∈ rs ∧ rs.Pairwise ltR then some (.list xs) else none
  | _ => none
theorem sortS_i {ns : List Int} (h : ns.length < 64) : sortSD [.list (ns.map .int)] = some (.list ((srtI (dedI ns)).map .int)) := by
  unfold sortSD
  simp only [intsD_map]
  rw [if_pos h]
theorem sortS_r {rs : List (List Int)} (h : rs.length < 64) (he : [] ∈ rs) (hp : rs.Pairwise ltR) : sortSD [.list (rs.map rwI)] = some (.list (rs.map rwI)) := by
  unfold sortSD
  have e : intsD (rs.map rwI) = none := by
    cases rs with
    | nil => cases he
    | cons r rs => rfl
  simp only [e, rowsD_map]
  show (open Classical in if rs.length < 64 ∧ [] ∈ rs ∧ rs.Pairwise ltR then some (PyData.list (rs.map rwI)) else none) = _
  rw [if_pos ⟨h, he, hp⟩]
theorem ltR_nodup {rs : List (List Int)} (h : rs.Pairwise ltR) : rs.Nodup := h.imp fun {a b} q e => by
  subst e
  have q' : HT.lexLt a a = true := q
  rw [← lex_same] at q'
  exact absurd ((PyProof.Rows.lex_irrefl (O := intK) a).symm.trans q') (by decide)
theorem ltR_le {a b : List Int} (h : ltR a b) : leR a b = true := by
  have q : HT.lexLt a b = true := h
  have t := leR_total b a
  cases e : leR b a with
  | false => rw [e] at t; simpa using t
  | true =>
    unfold leR at e
    rw [q] at e
    cases e
theorem cSortS {K : PySem.W.Frag} {P : Program} {w : World} {L : Fn} : RCD L (fun xs H Q => rSetAny K P w xs H fun v H1 => rSortAny K P w [v] H1 Q) sortSD := by
  intro xs ds z Hf H Q ex hv hz k
  unfold sortSD at hz
  split at hz
  · rename_i us
    obtain ⟨v, rfl, h⟩ := hv.one
    cases h with
    | @lst a vs _ q1 q2 =>
    split at hz
    · rename_i ns hn
      split at hz
      · rename_i hl
        cases hz
        rw [intsD_of hn] at q2
        cases q2.ints
        refine .inl ⟨a, ns, rfl, .of (ex _ _ q1), hl, fun b c hb hc => .inl ⟨b, _, c, rfl, upd_same, by omega, fun ms p s1 s2 s3 hp => ?_⟩⟩
        have e : ms = srtI (dedI ns) := by
          have nd : ms.Nodup := s1.imp fun {x y} h e => by omega
          refine perm_one (((List.perm_ext_iff_of_nodup nd (dedI_nodup ns)).mpr fun k => ?_).trans (srtI_perm _).symm) (s1.imp fun h => Int.le_of_lt h) (srtI_up _)
          rw [s2, dedI_mem]; simp
        subst e
        have hb' : Hf b = none := ex.none hb
        have hpb : p ≠ b := fun e => by rw [e, upd_same] at hp; cases hp
        have g1 : Grw Hf H Hf (upd H b (SetO w b (fun j => decide (j ∈ ns)) c)) := .lay ex hb
        have g : Grw Hf (upd H b (SetO w b (fun j => decide (j ∈ ns)) c)) _ _ := .new (o := .lst ((srtI (dedI ns)).map V.int)) g1.ex hp
        exact k _ _ _ (g1.trans g) (.lst upd_same (dd_ints _))
      · cases hz
    · obtain ⟨rs, h1, h2⟩ := Option.bind_eq_some_iff.mp hz
      split at h2
      · rename_i hc
        obtain ⟨hl, he, hp0⟩ := hc
        cases h2
        cases rowsD_of h1
        obtain ⟨ks, e1, e2, e3⟩ := q2.rows
        subst e1
        have hkl : ks.length < 64 := by rw [← e2, List.length_map] at hl; exact hl
        refine .inr ⟨a, ks, rfl, .of (ex _ _ q1), fun p hp => .of (ex _ _ (e3 p hp)), hkl, fun b L' hb s1 s2 => .inr ⟨b, L', rfl, upd_same, fun p hp => .of ((Ex.new hb) _ _ (ex _ _ (e3 p (s1 p hp)))), ?_, fun M p t1 t2 t3 hp => ?_⟩⟩
        · rw [← e2] at he
          obtain ⟨p, hp, e⟩ := List.mem_map.mp he
          exact e ▸ s2 p hp
        · have g1 : Grw Hf H Hf (upd H b (SetTO P w b L')) := .lay ex hb
          have g : Grw Hf (upd H b (SetTO P w b L')) _ _ := .new (o := .lst (M.map fun q => V.ref q.1)) g1.ex hp
          refine k _ _ _ (g1.trans g) ?_
          have er : M.map (·.2) = rs := by
            rw [t3]
            have nd : rs.Nodup := ltR_nodup hp0
            refine rows_one ((srtL_perm _).trans ((List.perm_ext_iff_of_nodup t2 nd).mpr fun r => ⟨fun h => ?_, fun h => ?_⟩)) (srtL_up _) (hp0.imp fun h => ltR_le h)
            · obtain ⟨p, hp, rfl⟩ := List.mem_map.mp h
              rw [← e2]
              exact List.mem_map.mpr ⟨p, s1 p hp, rfl⟩
            · rw [← e2] at h
              obtain ⟨p, hp, rfl⟩ := List.mem_map.mp h
              exact s2 p hp
          rw [← er]
          exact .lst upd_same (DdAll.of_rows fun p hp => g.fz _ _ (e3 p (s1 p (t1.mem_iff.mp hp))))
      · cases h2
  · cases hz
section
variable {X : Cx} {G : Fx} {e : Expr} {tl : DTL} {pl : DSt → (List PyData → Prop) → Prop} {p1 p2 q1 q2 : Pos}
theorem pe_sortSet (hc : X.calm = true) (hu : X.A.units + 64 < cLine) (hg1 : Gl X "sorted") (hg2 : Gl X "set") (hm1 : X.mg "sorted" = none) (hm2 : X.mg "set" = none) {ta : TA} (ha : PA X [e] ta)
    (he : starEach [e] X.env = (false, eval e X.env) :: starEach [] X.env := by rfl) :
    PE X (.Call (.Name "sorted" p1) [.Call (.Name "set" p2) [e] [] q2] [] q1) (tCB (fun xs H Q => rSetAny X.K X.prog X.w xs H fun v H1 => rSortAny X.K X.prog X.w [v] H1 Q) ta) :=
  pe_imp (pe_callB (cr_sortAny hc hu) hg1 hm1 bt_sorted (pa_cons (pe_callTy (cr_setAny hc hu) hg2 hm2 PyProof.Rows.boot_set ha (he := he)) pa_nil)) fun σ H Q h => h
theorem de_sortSet (hc : X.calm = true) (hu : X.A.units + 64 < cLine) (hg1 : Gl X "sorted") (hg2 : Gl X "set") (hm1 : X.mg "sorted" = none) (hm2 : X.mg "set" = none) (ha : DD X G [e] 1 tl)
    (he : starEach [e] X.env = (false, eval e X.env) :: starEach [] X.env := by rfl) : DE X G (.Call (.Name "sorted" p1) [.Call (.Name "set" p2) [e] [] q2] [] q1) (tClD sortSD tl) :=
  pe_imp (pe_sortSet hc hu hg1 hg2 hm1 hm2 ha he) fun _ _ _ h => lE_cl cSortS h
theorem dv_sortSet (hc : X.calm = true) (hu : X.A.units + 64 < cLine) (hg1 : Gl X "sorted") (hg2 : Gl X "set") (hm1 : X.mg "sorted" = none) (hm2 : X.mg "set" = none) (ha : DDP X G [e] pl)
    (he : starEach [e] X.env = (false, eval e X.env) :: starEach [] X.env := by rfl) : DP X G (.Call (.Name "sorted" p1) [.Call (.Name "set" p2) [e] [] q2] [] q1) (tClP sortSD pl) :=
  pe_imp (pe_sortSet hc hu hg1 hg2 hm1 hm2 ha he) fun _ _ _ h => lP_cl cSortS h
end
end DL

namespace LW
open PySem PySem.Spec PyProof.Rows L2 DL
/-! what the counted rows are -/
def okT (r : Rl) : List Int → Int → Int → List Int → Prop
  | _, _, _, [] => True
  | bs, lo, hi, x :: t => lo ≤ x ∧ x < hi ∧ goodB r bs x = true ∧ okT r (takeL r bs x) (x + 1) hi t
/-- strictly ascending, in [lo, hi) -/
def SA : Int → Int → List Int → Prop
  | _, _, [] => True
  | lo, hi, x :: t => lo ≤ x ∧ x < hi ∧ SA (x + 1) hi t
theorem okT_lo {r : Rl} {bs : List Int} {lo lo' hi : Int} (h : lo ≤ lo') : ∀ {t : List Int}, okT r bs lo' hi t → okT r bs lo hi t
  | [], _ => trivial
  | _ :: _, ⟨h1, h2⟩ => ⟨Int.le_trans h h1, h2⟩
theorem subs_mem (r : Rl) (hi : Int) : ∀ (n : Nat) (row bs : List Int) (lo : Int), lo + n = hi → ∀ m, m ∈ subs r n row bs lo ↔ ∃ x t, m = row ++ x :: t ∧ okT r bs lo hi (x :: t)
  | 0, row, bs, lo, h, m => by
    constructor
    · intro q; cases q
    · rintro ⟨x, t, _, h1, h2, _⟩; exfalso; omega
  | n + 1, row, bs, lo, h, m => by
    have h' : lo + 1 + (n : Int) = hi := by omega
    have i1 := subs_mem r hi n (row ++ [lo]) (takeL r bs lo) (lo + 1) h' m
    have i2 := subs_mem r hi n row bs (lo + 1) h' m
    rw [subs, List.mem_append, i2]
    constructor
    · rintro (q | ⟨x, t, e, q⟩)
      · by_cases g : goodB r bs lo = true
        · rw [if_pos g, List.mem_cons, i1] at q
          rcases q with e | ⟨x, t, e, q⟩
          · exact ⟨lo, [], e, Int.le_refl _, by omega, g, trivial⟩
          · refine ⟨lo, x :: t, by rw [e, List.append_assoc]; rfl, Int.le_refl _, by omega, g, q⟩
        · rw [if_neg g] at q; cases q
      · exact ⟨x, t, e, okT_lo (by omega) q⟩
    · rintro ⟨x, t, e, h1, h2, h3, h4⟩
      by_cases z : x = lo
      · subst z
        refine .inl ?_
        rw [if_pos h3, List.mem_cons, i1]
        cases t with
        | nil => exact .inl e
        | cons y t => exact .inr ⟨y, t, by rw [e, List.append_assoc]; rfl, h4⟩
      · exact .inr ⟨x, t, e, by omega, h2, h3, h4⟩
theorem lex_pre : ∀ p a b : List Int, HT.lexLt (p ++ a) (p ++ b) = HT.lexLt a b
  | [], _, _ => rfl
  | x :: p, a, b => by
    show HT.lexLt (x :: (p ++ a)) (x :: (p ++ b)) = _
    rw [HT.lexLt_cons, if_pos rfl, lex_pre p]
theorem subs_up (r : Rl) : ∀ (n : Nat) (row bs : List Int) (lo : Int), (subs r n row bs lo).Pairwise ltR
  | 0, _, _, _ => .nil
  | n + 1, row, bs, lo => by
    rw [subs]
    refine List.pairwise_append.mpr ⟨?_, subs_up r n row bs (lo + 1), fun a ha b hb => ?_⟩
    · split
      · refine List.pairwise_cons.mpr ⟨fun m hm => ?_, subs_up r n _ _ _⟩
        obtain ⟨x, t, rfl, _⟩ := (subs_mem r _ n _ _ _ rfl m).mp hm
        have := lex_pre (row ++ [lo]) [] (x :: t)
        rw [List.append_nil] at this
        exact this.trans rfl
      · exact .nil
    · obtain ⟨x, t, rfl, h1, _⟩ := (subs_mem r _ n _ _ _ rfl b).mp hb
      have ea : ∃ t', a = row ++ lo :: t' := by
        by_cases g : goodB r bs lo = true
        · rw [if_pos g] at ha
          rcases List.mem_cons.mp ha with rfl | ha
          · exact ⟨[], rfl⟩
          · obtain ⟨y, t', rfl, _⟩ := (subs_mem r _ n _ _ _ rfl a).mp ha
            exact ⟨y :: t', by rw [List.append_assoc]; rfl⟩
        · rw [if_neg g] at ha; cases ha
      obtain ⟨t', rfl⟩ := ea
      show HT.lexLt _ _ = true
      rw [lex_pre, HT.lexLt_cons, if_neg (by omega), decide_eq_true (by omega)]
theorem allL_eq (r : Rl) {T : Int} (h : 0 ≤ T) : allL r T = [] :: subs r T.toNat [] [] 0 := by
  show [] :: subs r (T - 0).toNat [] [] 0 = _
  rw [Int.sub_zero]
theorem allL_up (r : Rl) {T : Int} (h : 0 ≤ T) : (allL r T).Pairwise ltR := by
  rw [allL_eq r h]
  refine List.pairwise_cons.mpr ⟨fun m hm => ?_, subs_up r _ _ _ _⟩
  obtain ⟨x, t, rfl, _⟩ := (subs_mem r _ _ _ _ _ rfl m).mp hm
  rfl
theorem allL_ok (r : Rl) {T : Int} (h : 0 ≤ T) (m : List Int) : m ∈ allL r T ↔ okT r [] 0 T m := by
  rw [allL_eq r h, List.mem_cons, subs_mem r T _ _ _ _ (by omega)]
  cases m with
  | nil => exact ⟨fun _ => trivial, fun _ => .inl rfl⟩
  | cons x t =>
    constructor
    · rintro (e | ⟨y, u, e, q⟩)
      · cases e
      · cases e; exact q
    · exact fun q => .inr ⟨x, t, rfl, q⟩
theorem valid_pre {r : Rl} (ok : RlOk r) {us t : List Int} (h : Valid r (us ++ t)) : Valid r us := h.sub ok (List.sublist_append_left _ _)
theorem okT_valid {r : Rl} (ok : RlOk r) {hi : Int} : ∀ (t us : List Int) (lo : Int), Valid r us → (∀ m, m < us.length → at0 us m ≤ lo) → (okT r (bsOf r us) lo hi t ↔ Valid r (us ++ t) ∧ SA lo hi t)
  | [], us, lo, hv, hm => by rw [List.append_nil]; exact ⟨fun _ => ⟨hv, trivial⟩, fun _ => trivial⟩
  | x :: t, us, lo, hv, hm => by
    have ea : us ++ x :: t = (us ++ [x]) ++ t := by rw [List.append_assoc]; rfl
    have ga : lo ≤ x → (goodB r (bsOf r us) x = true ↔ Valid r (us ++ [x])) := fun hx => by
      rw [good_avail ok (bsOf_asc ok fun i j hij hj => hv.asc ok hij hj), avail_iff ok hv (fun m h => Int.le_trans (hm m h) hx), valid_snoc]
      exact ⟨fun h => ⟨hv, h⟩, fun h => h.2⟩
    have hm2 : lo ≤ x → ∀ m, m < (us ++ [x]).length → at0 (us ++ [x]) m ≤ x + 1 := fun hx m h => by
      by_cases z : m < us.length
      · rw [at0_app z]; have := hm m z; omega
      · have : m = us.length := by simp at h; omega
        subst this; rw [at0_end]; omega
    constructor
    · rintro ⟨h1, h2, h3, h4⟩
      have hv2 := (ga h1).mp h3
      rw [← bsOf_snoc] at h4
      obtain ⟨q1, q2⟩ := (okT_valid ok t (us ++ [x]) (x + 1) hv2 (hm2 h1)).mp h4
      exact ⟨ea ▸ q1, h1, h2, q2⟩
    · rintro ⟨q1, h1, h2, q2⟩
      rw [ea] at q1
      have hv2 := valid_pre ok q1
      refine ⟨h1, h2, (ga h1).mpr hv2, ?_⟩
      rw [← bsOf_snoc]
      exact (okT_valid ok t (us ++ [x]) (x + 1) hv2 (hm2 h1)).mpr ⟨q1, q2⟩
theorem valid_nil (r : Rl) : Valid r [] := ⟨fun m j _ h => absurd h (Nat.not_lt_zero _)⟩
theorem allL_mem {r : Rl} (ok : RlOk r) {T : Int} (h : 0 ≤ T) (m : List Int) : m ∈ allL r T ↔ Valid r m ∧ SA 0 T m := by
  rw [allL_ok r h]
  exact okT_valid ok m [] 0 (valid_nil r) fun m h => absurd h (Nat.not_lt_zero _)
theorem SA_mem : ∀ {lo hi : Int} {m : List Int}, SA lo hi m → ∀ x ∈ m, lo ≤ x ∧ x < hi
  | _, _, [], _, _, q => by cases q
  | lo, hi, y :: t, ⟨h1, h2, h3⟩, x, q => by
    rcases List.mem_cons.mp q with rfl | q
    · exact ⟨h1, h2⟩
    · have := SA_mem h3 x q; omega
theorem SA_asc : ∀ {lo hi : Int} {m : List Int}, SA lo hi m → Asc m
  | _, _, [], _ => trivial
  | _, _, [_], _ => trivial
  | lo, hi, y :: z :: t, ⟨h1, h2, h3⟩ => ⟨by have := h3.1; omega, SA_asc h3⟩
theorem SA_len : ∀ {lo hi : Int} {m : List Int}, SA lo hi m → lo ≤ hi → (m.length : Int) ≤ hi - lo
  | _, _, [], _, h => by simp; omega
  | lo, hi, y :: t, ⟨h1, h2, h3⟩, h => by have := SA_len h3 (by omega); rw [List.length_cons]; omega
theorem SA_snoc {hi x : Int} : ∀ {lo : Int} {m : List Int}, SA lo hi (m ++ [x]) ↔ SA lo x m ∧ lo ≤ x ∧ x < hi
  | lo, [] => ⟨fun ⟨h1, h2, _⟩ => ⟨trivial, h1, h2⟩, fun ⟨_, h1, h2⟩ => ⟨h1, h2, trivial⟩⟩
  | lo, y :: t => by
    show (lo ≤ y ∧ y < hi ∧ SA (y + 1) hi (t ++ [x])) ↔ _
    rw [SA_snoc (lo := y + 1) (m := t)]
    constructor
    · rintro ⟨h1, h2, h3, h4, h5⟩; exact ⟨⟨h1, by omega, h3⟩, by omega, h5⟩
    · rintro ⟨⟨h1, h2, h3⟩, h4, h5⟩; exact ⟨h1, by omega, h3, by omega, h5⟩
theorem SA_hi {hi hi' : Int} (h : hi ≤ hi') : ∀ {lo : Int} {m : List Int}, SA lo hi m → SA lo hi' m
  | _, [], _ => trivial
  | _, _ :: _, ⟨h1, h2, h3⟩ => ⟨h1, by omega, SA_hi h h3⟩
theorem sub_len {α : Type} [DecidableEq α] : ∀ {xs ys : List α}, xs.Nodup → (∀ x ∈ xs, x ∈ ys) → xs.length ≤ ys.length
  | [], _, _, _ => Nat.zero_le _
  | x :: xs, ys, hn, hs => by
    obtain ⟨h1, h2⟩ := List.nodup_cons.mp hn
    have hx := hs x List.mem_cons_self
    have := sub_len (ys := ys.erase x) h2 fun y hy => (List.mem_erase_of_ne (show y ≠ x from fun e => h1 (e ▸ hy))).mpr (hs y (List.mem_cons_of_mem _ hy))
    rw [List.length_erase_of_mem hx] at this
    have : 0 < ys.length := List.length_pos_of_mem hx
    rw [List.length_cons]; omega
theorem allL_nodup (r : Rl) {T : Int} (h : 0 ≤ T) : (allL r T).Nodup := ltR_nodup (allL_up r h)
theorem Valid.better {a b : Rl} (oa : RlOk a) (ob : RlOk b) (h : betterB a b = true) {m : List Int} (v : Valid b m) : Valid a m := ⟨fun i j hij hj => by
  have := v.v i j hij hj
  have := better_spn oa ob h (j - i)
  omega⟩
theorem allL_le {a b : Rl} (oa : RlOk a) (ob : RlOk b) {T : Int} (hT : 0 ≤ T) (h : betterB a b = true) : (allL b T).length ≤ (allL a T).length :=
  sub_len (allL_nodup b hT) fun m hm => by
    obtain ⟨h1, h2⟩ := (allL_mem ob hT m).mp hm
    exact (allL_mem oa hT m).mpr ⟨Valid.better oa ob h h1, h2⟩
theorem valid_one (r : Rl) (x : Int) : Valid r [x] := valid_snoc (us := []).mpr ⟨valid_nil r, fun m h => absurd h (Nat.not_lt_zero _)⟩
theorem allL_more {r : Rl} (ok : RlOk r) {T : Int} (hT : 0 ≤ T) : (allL r T).length < (allL r (T + 1)).length ∧ (allL r (T + 1)).length ≤ 2 * (allL r T).length := by
  constructor
  · refine sub_len (xs := [T] :: allL r T) (List.nodup_cons.mpr ⟨fun q => ?_, allL_nodup r hT⟩) fun m hm => ?_
    · have := ((allL_mem ok hT _).mp q).2.2.1; omega
    · rcases List.mem_cons.mp hm with rfl | hm
      · exact (allL_mem ok (by omega) _).mpr ⟨valid_one r T, hT, by omega, trivial⟩
      · obtain ⟨h1, h2⟩ := (allL_mem ok hT m).mp hm
        exact (allL_mem ok (by omega) m).mpr ⟨h1, SA_hi (by omega) h2⟩
  · have := sub_len (ys := allL r T ++ (allL r T).map (· ++ [T])) (allL_nodup r (T := T + 1) (by omega)) fun m hm => by
      obtain ⟨h1, h2⟩ := (allL_mem ok (by omega) m).mp hm
      rcases List.eq_nil_or_concat m with rfl | ⟨us, x, rfl⟩
      · exact List.mem_append_left _ ((allL_mem ok hT _).mpr ⟨valid_nil r, trivial⟩)
      · rw [List.concat_eq_append] at *
        obtain ⟨q1, q2, q3⟩ := SA_snoc.mp h2
        by_cases z : x = T
        · subst z
          exact List.mem_append_right _ (List.mem_map.mpr ⟨us, (allL_mem ok hT _).mpr ⟨h1.init, q1⟩, rfl⟩)
        · exact List.mem_append_left _ ((allL_mem ok hT _).mpr ⟨h1, SA_snoc.mpr ⟨q1, q2, by omega⟩⟩)
    rw [List.length_append, List.length_map] at this
    omega
theorem allL_zero (r : Rl) : (allL r 0).length = 1 := rfl
theorem allL_head (r : Rl) {T : Int} (h : 0 ≤ T) : (allL r T)[0]? = some [] := by rw [allL_eq r h]; rfl
theorem allL_last {r : Rl} (ok : RlOk r) {T : Int} (hT : 0 < T) : (allL r T)[(allL r T).length - 1]? = some [T - 1] := by
  have hm : [T - 1] ∈ allL r T := (allL_mem ok (by omega) _).mpr ⟨valid_one r _, by omega, by omega, trivial⟩
  obtain ⟨i, hi, e⟩ := List.mem_iff_getElem.mp hm
  by_cases z : i = (allL r T).length - 1
  · rw [← z, List.getElem?_eq_getElem hi, e]
  · exfalso
    have hl : (allL r T).length - 1 < (allL r T).length := by omega
    have q := List.pairwise_iff_getElem.mp (allL_up r (T := T) (by omega)) i _ hi hl (by omega)
    rw [e] at q
    have m := (allL_mem ok (by omega) _).mp (List.getElem_mem hl)
    generalize (allL r T)[(allL r T).length - 1] = row at q m
    obtain ⟨_, m⟩ := m
    match row, m with
    | [], _ => cases q
    | x :: t, ⟨h1, h2, h3⟩ =>
      have q : HT.lexLt [T - 1] (x :: t) = true := q
      rw [HT.lexLt_cons] at q
      split at q
      · match t, h3 with
        | [], _ => cases q
        | y :: t, h3 => have h4 := h3.1; have h5 := h3.2.1; omega
      · have := of_decide_eq_true q; omega
/-! ### specs -/
def sp_law_short : SpD := fun rs P _ => ∃ (b : List PyData), rs = [.ls b] ∧ IsBag b ∧ ∀ r b' af, RlOk r → r.c ≤ 3 → r.p ≤ 7 → IsBag b' → af 0 = some (.ls b') → P (.fz (rD r)) af
def sp_alike : SpD := fun rs P _ => ∃ (a b : Rl), rs = [.fz (rD a), .fz (rD b)] ∧ RlOk a ∧ RlOk b ∧ ∀ af, P (.fz (.bool (betterB a b && betterB b a))) af
/-! ### the rows that a law picks -/
def pickL (N v : Int) : List Int := srtI (dedI [0, N - 1, N / 2, v])
structure PickOk (N : Int) (ps : List Int) : Prop where
  up : ps.Pairwise (· < ·)
  rng : ∀ p ∈ ps, 0 ≤ p ∧ p < N
  zero : ps[0]? = some 0
  len : ps.length ≤ 5
theorem srt_up {ns : List Int} (h : ns.Nodup) : (srtI ns).Pairwise (· < ·) := by
  have h1 := srtI_up ns
  have h2 : (srtI ns).Nodup := (srtI_perm ns).nodup_iff.mpr h
  exact (List.pairwise_and_iff.mpr ⟨h1, h2⟩).imp fun {a b} ⟨p, q⟩ => by omega
theorem dedI_len : ∀ ns : List Int, (dedI ns).length ≤ ns.length
  | [] => Nat.le_refl _
  | x :: r => by
    unfold dedI
    have := dedI_len r
    split
    · rw [List.length_cons]; omega
    · rw [List.length_cons, List.length_cons]; omega
theorem pick_of {N : Int} {ns : List Int} (h0 : 0 ∈ ns) (hr : ∀ p ∈ ns, 0 ≤ p ∧ p < N) (hl : ns.length ≤ 5) : PickOk N (srtI (dedI ns)) := by
  have mem : ∀ p, p ∈ srtI (dedI ns) ↔ p ∈ ns := fun p => by rw [(srtI_perm _).mem_iff, dedI_mem]
  have up := srt_up (dedI_nodup ns)
  refine ⟨up, fun p hp => hr p ((mem p).mp hp), ?_, by rw [(srtI_perm _).length_eq]; exact Nat.le_trans (dedI_len ns) hl⟩
  have hz := (mem 0).mpr h0
  have hr' : ∀ p ∈ srtI (dedI ns), 0 ≤ p := fun p hp => (hr p ((mem p).mp hp)).1
  generalize srtI (dedI ns) = l at *
  cases l with
  | nil => cases hz
  | cons x t =>
    rcases List.mem_cons.mp hz with e | e
    · rw [e]; rfl
    · have := (List.pairwise_cons.mp up).1 0 e
      have := hr' x List.mem_cons_self
      omega
theorem pick_ok {N v : Int} (h : 1 ≤ N) (h0 : 0 ≤ v) (h1 : v < N) : PickOk N (pickL N v) := pick_of List.mem_cons_self (fun p hp => by
  simp only [List.mem_cons, List.not_mem_nil, or_false] at hp
  rcases hp with rfl | rfl | rfl | rfl <;> omega) (by simp)
def atR (r : Rl) (T : Int) (k : Int) : List Int := (allL r T)[k.toNat]?.getD []
def atRD (r : Rl) (T : Int) (d : PyData) : PyData := match d with
  | .int k => tI (atR r T k)
  | _ => .none
theorem atR_get {r : Rl} {T k : Int} (h0 : 0 ≤ k) (h : k < ((allL r T).length : Nat)) : (allL r T)[k.toNat]? = some (atR r T k) := by
  unfold atR
  rw [List.getElem?_eq_getElem (by omega)]; rfl
theorem atR_mem {r : Rl} {T k : Int} (h0 : 0 ≤ k) (h : k < ((allL r T).length : Nat)) : atR r T k ∈ allL r T := List.mem_of_getElem? (atR_get h0 h)
def rowsP (r : Rl) (T : Int) (ps : List Int) : List (List Int) := ps.map (atR r T)
theorem rowsP_up {r : Rl} {T : Int} (hT : 0 ≤ T) {ps : List Int} (h : PickOk ((allL r T).length : Nat) ps) : (rowsP r T ps).Pairwise ltR := by
  unfold rowsP
  rw [List.pairwise_map]
  refine h.up.imp_of_mem fun {a b} ha hb hab => ?_
  have a1 := h.rng a ha
  have b1 := h.rng b hb
  have q := List.pairwise_iff_getElem.mp (allL_up r hT) a.toNat b.toNat (by omega) (by omega) (by omega)
  have e1 := atR_get a1.1 a1.2
  have e2 := atR_get b1.1 b1.2
  rw [List.getElem?_eq_getElem (by omega)] at e1 e2
  rw [← Option.some.inj e1, ← Option.some.inj e2]
  exact q
theorem rowsP_zero {r : Rl} {T : Int} (hT : 0 ≤ T) {ps : List Int} (h : PickOk ((allL r T).length : Nat) ps) : (rowsP r T ps)[0]? = some [] := by
  unfold rowsP
  rw [List.getElem?_map, h.zero]
  show some (atR r T 0) = _
  unfold atR
  rw [show (0 : Int).toNat = 0 from rfl, allL_head r hT]; rfl
theorem rowsP_mem {r : Rl} {T : Int} {ps : List Int} (h : PickOk ((allL r T).length : Nat) ps) : ∀ row ∈ rowsP r T ps, row ∈ allL r T := fun row hr => by
  obtain ⟨p, hp, rfl⟩ := List.mem_map.mp hr
  exact atR_mem (h.rng p hp).1 (h.rng p hp).2
theorem ne_rows (rs : List (List Int)) : neD (.list (rs.map tI)) (.list (rs.map tI)) = some (.bool false) := by
  have h := neD_enc (rs.map Tp.mk) (rs.map Tp.mk) (by decide)
  rw [decide_eq_true rfl] at h
  have e : Enc.d (rs.map Tp.mk) = .list (rs.map tI) := by
    show PyData.list ((rs.map Tp.mk).map Enc.d) = _
    rw [List.map_map]; rfl
  rw [e] at h
  exact h
theorem SA_row {T : Int} {m : List Int} (h : SA 0 T m) (h0 : 0 ≤ T) (hT : T ≤ 60) : RowOk m :=
  ⟨by have := SA_len h h0; omega, fun n hn => by have := SA_mem h n hn; omega, SA_asc h⟩
theorem row_use {r : Rl} (ok : RlOk r) {m : List Int} (hA : Asc m) (hv : Valid r m) : useL r m = List.range m.length := (useL_all ok hA.p).mpr hv
theorem sortS_rows {r : Rl} {T : Int} (hT : 0 ≤ T) {ps : List Int} (h : PickOk ((allL r T).length : Nat) ps) : sortSD [.list ((rowsP r T ps).map tI)] = some (.list ((rowsP r T ps).map tI)) :=
  sortS_r (by unfold rowsP; rw [List.length_map]; have := h.len; omega) (List.mem_of_getElem? (rowsP_zero hT h)) (rowsP_up hT h)
theorem rows_at (r : Rl) (T : Int) (ps : List Int) : (ps.map PyData.int).map (atRD r T) = (rowsP r T ps).map tI := by
  unfold rowsP
  rw [List.map_map, List.map_map]; rfl
theorem ix_rows0 {r : Rl} {T : Int} (hT : 0 ≤ T) {ps : List Int} (h : PickOk ((allL r T).length : Nat) ps) : ixD (.list ((rowsP r T ps).map tI)) (.int 0) = some (tI []) :=
  (show atI ((rowsP r T ps).map tI) ((0 : Nat) : Int) = _ from atI_nat (by rw [List.getElem?_map, rowsP_zero hT h]; rfl))
theorem rg1_row (row : List Int) (h : row.length ≤ 60) : rg1D' [.int ((row.map PyData.int).length : Nat)] = some (rngD 0 row.length) := by
  rw [List.length_map]; exact if_pos (by omega)
theorem ix_one (x : Int) : ixD (tI [x]) (.int 0) = some (.int x) := rfl
theorem k20_a : (allL ⟨false, 1, 2⟩ 3).length = 5 ∧ (allL ⟨false, 1, 2⟩ 3)[2]? = some [0, 2] ∧ (allL ⟨false, 3, 1⟩ 10).length = 1024 := by decide +kernel
end LW

namespace LW
open PySem PySem.Spec PyProof.Rows L2 DL
/-! all rows of a time, sorted; errors of row_at and count_rows -/
def subF : Nat → List (List Int)
  | 0 => [[]]
  | n + 1 => subF n ++ (subF n).map (· ++ [(n : Int)])
theorem subF_mem : ∀ (n : Nat) (m : List Int), m ∈ subF n ↔ SA 0 n m
  | 0, m => by
    constructor
    · intro h; rw [List.mem_singleton.mp h]; trivial
    · intro h
      match m, h with
      | [], _ => exact List.mem_singleton.mpr rfl
      | x :: t, ⟨h1, h2, _⟩ => omega
  | n + 1, m => by
    rw [subF, List.mem_append, subF_mem n]
    constructor
    · rintro (h | h)
      · exact SA_hi (by omega) h
      · obtain ⟨u, hu, rfl⟩ := List.mem_map.mp h
        exact SA_snoc.mpr ⟨(subF_mem n u).mp hu, by omega, by omega⟩
    · intro h
      rcases List.eq_nil_or_concat m with rfl | ⟨us, x, rfl⟩
      · exact .inl trivial
      · rw [List.concat_eq_append] at *
        obtain ⟨q1, q2, q3⟩ := SA_snoc.mp h
        by_cases z : x = n
        · subst z
          exact .inr (List.mem_map.mpr ⟨us, (subF_mem n us).mpr q1, rfl⟩)
        · exact .inl (SA_snoc.mpr ⟨q1, q2, by omega⟩)
theorem subF_len : ∀ n : Nat, (subF n).length = 2 ^ n
  | 0 => rfl
  | n + 1 => by rw [subF, List.length_append, List.length_map, subF_len n, Nat.pow_succ]; omega
theorem subF_nodup : ∀ n : Nat, (subF n).Nodup
  | 0 => by simp [subF]
  | n + 1 => by
    rw [subF]
    refine List.nodup_append.mpr ⟨subF_nodup n, ?_, fun a ha b hb e => ?_⟩
    · refine List.pairwise_map.mpr ((subF_nodup n).imp fun {a b} h e => h (List.append_cancel_right e))
    · subst e
      obtain ⟨u, hu, rfl⟩ := List.mem_map.mp hb
      have := (SA_snoc.mp ((subF_mem n _).mp ha)).2.2
      omega
theorem subF_zero (n : Nat) : [] ∈ subF n := (subF_mem n []).mpr trivial
theorem le_lt {rs : List (List Int)} (h : rs.Pairwise (fun a b => leR a b = true)) (hn : rs.Nodup) : rs.Pairwise ltR :=
  (List.pairwise_and_iff.mpr ⟨h, hn⟩).imp fun {a b} ⟨p, q⟩ => by
    show HT.lexLt a b = true
    cases e : HT.lexLt a b with
    | true => rfl
    | false =>
      have : leR b a = true := by unfold leR; rw [e]; rfl
      exact absurd (leR_anti p this) q
def okR (r : Rl) (m : List Int) : Bool := decide ((useL r m).length = m.length)
theorem okR_valid {r : Rl} (ok : RlOk r) {T : Int} {m : List Int} (h : SA 0 T m) : okR r m = true ↔ Valid r m := by
  unfold okR
  rw [decide_eq_true_iff, ← useL_all ok (SA_asc h).p]
  constructor
  · intro e
    unfold useL at e ⊢
    refine List.filter_eq_self.mpr (List.length_filter_eq_length_iff.mp (e.trans List.length_range.symm))
  · intro e; rw [e, List.length_range]
theorem due_eq {r : Rl} (ok : RlOk r) (n : Nat) : (srtL (subF n)).filter (okR r) = allL r (n : Int) := by
  have nd : (srtL (subF n)).Nodup := (srtL_perm _).nodup_iff.mpr (subF_nodup n)
  have up := le_lt (srtL_up (subF n)) nd
  refine rows_one ((List.perm_ext_iff_of_nodup (nd.filter _) (allL_nodup r (by omega))).mpr fun m => ?_) ((srtL_up _).filter _) ((allL_up r (by omega)).imp fun h => ltR_le h)
  rw [List.mem_filter, (srtL_perm _).mem_iff, subF_mem, allL_mem ok (by omega)]
  constructor
  · rintro ⟨h1, h2⟩; exact ⟨(okR_valid ok h1).mp h2, h1⟩
  · rintro ⟨h1, h2⟩; exact ⟨h2, (okR_valid ok h2).mpr h1⟩
def sp_law_times11 : SpD := fun rs P _ => ∃ n : Nat, rs = [.fz (.int (n : Nat))] ∧ n ≤ 9 ∧ ∀ af, P (.fz (.list ((srtL (subF n)).map tI))) af
def spe_need_time : List PyData → Str → Prop := fun ds en => ∃ d lo hi, ds = [d, .int lo, .int hi] ∧ d.canLay0 = true ∧ isIntB d lo hi = false ∧ en = "InvalidTime"
def spe_row_at : List PyData → Str → Prop := fun ds en => (∃ (r : Rl) (T : Int) (d : PyData), ds = [rD r, .int T, d] ∧ RlOk r ∧ 0 ≤ T ∧ T ≤ 14 ∧ d.canLay0 = true ∧ isIntB d 0 ((allL r T).length - 1 : Int) = false ∧ en = "InvalidNumber") ∨
  ∃ (r : Rl) (d : PyData), ds = [rD r, d, .none] ∧ RlOk r ∧ d.canLay0 = true ∧ isIntB d 0 14 = false ∧ en = "InvalidTime"
def spe_count_rows : List PyData → Str → Prop := fun ds en => ∃ (r : Rl) (d : PyData), ds = [rD r, d] ∧ RlOk r ∧ d.canLay0 = true ∧ isIntB d 0 14 = false ∧ en = "InvalidTime"
theorem spe_count_rows_n {ds : List PyData} {en : Str} (h : spe_count_rows ds en) : en = "InvalidTime" := by obtain ⟨_, _, _, _, _, _, h⟩ := h; exact h
def sErr_k11 : Str → List PyData → Str → Prop := fun nm ds en => nm = "row_at" ∧ spe_row_at ds en
theorem sErr_k11_n : ∀ nm ds en, sErr_k11 nm ds en → en = "InvalidNumber" ∨ en = "InvalidTime" := by
  rintro nm ds en ⟨_, ⟨_, _, _, _, _, _, _, _, _, h⟩ | ⟨_, _, _, _, _, _, h⟩⟩
  · exact .inl h
  · exact .inr h
def snocD (x : Int) (d : PyData) : PyData := tI (decT d ++ [x])
theorem snocD_t (x : Int) (ns : List Int) : snocD x (tI ns) = tI (ns ++ [x]) := by unfold snocD; rw [decT_tI]
theorem snoc_map (x : Int) (rs : List (List Int)) : (rs.map tI).map (snocD x) = (rs.map (· ++ [x])).map tI := by
  rw [List.map_map, List.map_map]
  exact List.map_congr_left fun r _ => snocD_t x r
def okRD (r : Rl) (d : PyData) : Bool := okR r (decT d)
theorem okRD_t (r : Rl) (ns : List Int) : okRD r (tI ns) = okR r ns := by unfold okRD; rw [decT_tI]
theorem filt_rows (r : Rl) (rs : List (List Int)) : ((rs.map tI).filter (okRD r)).map (fun d => d) = (rs.filter (okR r)).map tI := by
  rw [List.map_id', List.filter_map]
  congr 1
  exact List.filter_congr fun m _ => okRD_t r m
def pick5 (N v w : Int) : List Int := srtI (dedI [0, N - 1, N / 2, v, w])
theorem pick5_ok {N v w : Int} (h : 1 ≤ N) (h0 : 0 ≤ v) (h1 : v < N) (h2 : 0 ≤ w) (h3 : w < N) : PickOk N (pick5 N v w) := pick_of List.mem_cons_self (fun p hp => by
  simp only [List.mem_cons, List.not_mem_nil, or_false] at hp
  rcases hp with rfl | rfl | rfl | rfl | rfl <;> omega) (by simp)
theorem SA_at {hi : Int} : ∀ {lo : Int} {m : List Int}, SA lo hi m → ∀ i j, i ≤ j → j < m.length → at0 m i ≤ at0 m j := fun h i j => (SA_asc h).p i j
theorem all_good {n : Nat} (hn : n ≤ 14) : (allL ⟨false, 14, 1000⟩ (n : Int)).length = 2 ^ n := by
  have ok : RlOk ⟨false, 14, 1000⟩ := ⟨by decide, by decide, by decide, by decide⟩
  have v : ∀ m, SA 0 (n : Int) m → Valid ⟨false, 14, 1000⟩ m := fun m h => ⟨fun i j hij hj => by
    have hl := SA_len h (by omega)
    have e : spn ⟨false, 14, 1000⟩ (j - i) = 0 := by
      unfold spn
      rw [if_neg (by decide)]
      show ((j - i : Nat) : Int) / 14 * 1000 = 0
      rw [Int.ediv_eq_zero_of_lt (by omega) (by omega)]; rfl
    rw [e, Int.add_zero]
    exact SA_at h i j (by omega) hj⟩
  rw [← subF_len n]
  refine Nat.le_antisymm (sub_len (allL_nodup _ (by omega)) fun m hm => (subF_mem n m).mpr ((allL_mem ok (by omega) m).mp hm).2) (sub_len (subF_nodup n) fun m hm => ?_)
  have h := (subF_mem n m).mp hm
  exact (allL_mem ok (by omega) m).mpr ⟨v m h, h⟩
theorem ix_rowsA {r : Rl} {T p : Int} (h0 : 0 ≤ p) (h : p < ((allL r T).length : Nat)) : ixD (.list ((allL r T).map tI)) (.int p) = some (tI (atR r T p)) := by
  obtain ⟨j, rfl⟩ := Int.eq_ofNat_of_zero_le h0
  exact (show atI ((allL r T).map tI) (j : Int) = _ from atI_nat (by rw [List.getElem?_map, show j = (j : Int).toNat by omega, atR_get h0 h]; rfl))
theorem k11_a : (allL ⟨true, 1, 1000⟩ 14).length = 15 ∧ (allL ⟨true, 3, 4⟩ 0)[0]? = some [] := by decide +kernel
end LW

namespace LW
open PySem PySem.Spec PyProof.Rows L2 DL
local macro_rules | `(tactic| walk_at "dl") => `(tactic| try simp only [sSeq, sAsg, sIf, sRet, sRetN, sNx, sBk, sCt, sSet, sPar, sPar3, sDrop, tVarD, tVarP, tCD, tCP, tBin, tBinP, tTs, tTsP, tAndD, tOrD, tNotD, tOf, tDR, tRD, resD_fz, resD_ls, tMv, tClD, tClP, tD0, tD1, tV0, tV1, tTupD, tTupP, tLstP, tLstR, tNeg, tNegP, tIfE, tAndE, tOrE, tNotE, tChainD, tSlD, tO0, tO1, gTp, gS0, gS1, gNm, isI_int, isB_bool, ifB_t, ifB_f, opt_some, tInK, tYesD, tSeqI, tRgI, tZipI, tEnI, tListRg, tListZip, tGlI, sFrz, frz1, gnPl, gnYd, gn0, gnSq, cListG, cCall, cCallS, cCallSt, List.headD_cons, List.drop_one, List.tail_cons, tA0, tA1, tASl, slotsA, argR, tAppD, lsAt, tPopD, sPutIx, tLstN, tN0, tN1, tN2, lsR, nlR, nlAt, nlSub, tAppN, tPop0N, sPutN, scal_i, scal_b, scal_n, scal_s, true_and, decide_true, decide_false, Nat.zero_le, if_true, if_false, Bool.not_true, Bool.not_false, Option.map_some, List.getElem?_cons_zero, List.getElem?_cons_succ, List.set_cons_zero, List.set_cons_succ, List.length_cons, List.length_nil, Nat.reduceAdd, Nat.zero_add, List.map_cons, List.map_nil, wipeD, Option.bind_some,
  addD_i, subD_i, cmpI_i, max2_i, min2_i, len_l, len_t, items_l, items_t, tuple_l, tuple_t, list_l, list_t, eqD_k, eqD_k', eqD_i, neD_i, eqD_b, neD_b, eqD_tI, neD_tI, eqD_lI, neD_lI, neD_tI0, eqD_tI0, neD_lI0, eqD_lI0, isi_eq, nx0, nx1, nx2, ixN30, ixN32, ixN20, ixN21])
local macro_rules | `(tactic| walk_at "st") => `(tactic| simp only [start0, List.map_cons, List.map_nil, List.length_cons, List.length_nil, Nat.reduceAdd, Nat.reduceSub, List.replicate_succ, List.replicate_zero, List.cons_append, List.nil_append])
local macro_rules | `(tactic| walk_at "lp") => `(tactic| simp only [sFor, sWhile, tLcD, tLcN, sForN])
local macro_rules | `(tactic| walk_at "ev") => `(tactic| try simp only [opt_some, isB_bool, ifB_t, ifB_f, isI_int, resD_fz, resD_ls, lsR, nlR, scal_i, scal_b, scal_n, scal_s, true_and, decide_true, decide_false, Nat.zero_le, if_true, if_false, Bool.not_true, Bool.not_false, Option.map_some, Option.bind_some, addD_i, subD_i, cmpI_i, max2_i, min2_i, len_l, len_t, items_l, items_t, tuple_l, tuple_t, list_l, list_t, eqD_k, eqD_k', eqD_i, neD_i, eqD_b, neD_b, eqD_tI, neD_tI, eqD_lI, neD_lI, neD_tI0, eqD_tI0, neD_lI0, eqD_lI0, isi_eq, nx0, nx1, nx2, ixN30, ixN32, ixN20, ixN21, List.getElem?_cons_zero, List.getElem?_cons_succ, List.set_cons_zero, List.set_cons_succ, List.length_cons, List.length_nil, Nat.reduceAdd, Nat.zero_add, isT_int_none, isT_int_bool, isT_int_int, isT_int_str, isT_int_list, isT_int_tuple, isT_bool_none, isT_bool_bool, isT_bool_int, isT_bool_str, isT_bool_list, isT_bool_tuple, isT_str_none, isT_str_bool, isT_str_int, isT_str_str, isT_str_list, isT_str_tuple, isT_tuple_none, isT_tuple_bool, isT_tuple_int, isT_tuple_str, isT_tuple_list, isT_tuple_tuple, isT_list_none, isT_list_bool, isT_list_int, isT_list_str, isT_list_list, isT_list_tuple])
local macro_rules | `(tactic| walk_at "sl") => `(tactic| try simp only [sSeq_h, sAsg, sIf, sRet, sRetN, sNx, sBk, sCt, sSet, sPar, sPar3, sDrop, tVarD, tVarP, tCD, tCP, tBin, tBinP, tTs, tTsP, tAndD, tOrD, tNotD, tOf, tDR, tRD, resD_fz, resD_ls, tMv, tClD, tClP, tD0, tD1, tV0, tV1, tTupD, tTupP, tLstP, tLstR, tNeg, tNegP, tIfE, tAndE, tOrE, tNotE, tChainD, tSlD, tO0, tO1, gTp, gS0, gS1, gNm, isI_int, isB_bool, ifB_t, ifB_f, opt_some, tInK, tYesD, tSeqI, tRgI, tZipI, tEnI, tListRg, tListZip, tGlI, sFrz, frz1, gnPl, gnYd, gn0, gnSq, cListG, cCall, cCallS, cCallSt, List.headD_cons, List.drop_one, List.tail_cons, tA0, tA1, tASl, slotsA, argR, tAppD, lsAt, tPopD, sPutIx, tLstN, tN0, tN1, tN2, lsR, nlR, nlAt, nlSub, tAppN, tPop0N, sPutN, scal_i, scal_b, scal_n, scal_s, true_and, decide_true, decide_false, Nat.zero_le, if_true, if_false, Bool.not_true, Bool.not_false, Option.map_some, List.getElem?_cons_zero, List.getElem?_cons_succ, List.set_cons_zero, List.set_cons_succ, List.length_cons, List.length_nil, Nat.reduceAdd, Nat.zero_add, List.map_cons, List.map_nil, wipeD, Option.bind_some,
  addD_i, subD_i, cmpI_i, max2_i, min2_i, len_l, len_t, items_l, items_t, tuple_l, tuple_t, list_l, list_t, eqD_k, eqD_k', eqD_i, neD_i, eqD_b, neD_b, eqD_tI, neD_tI, eqD_lI, neD_lI, neD_tI0, eqD_tI0, neD_lI0, eqD_lI0, isi_eq, nx0, nx1, nx2, ixN30, ixN32, ixN20, ixN21, isT_int_none, isT_int_bool, isT_int_int, isT_int_str, isT_int_list, isT_int_tuple, isT_bool_none, isT_bool_bool, isT_bool_int, isT_bool_str, isT_bool_list, isT_bool_tuple, isT_str_none, isT_str_bool, isT_str_int, isT_str_str, isT_str_list, isT_str_tuple, isT_tuple_none, isT_tuple_bool, isT_tuple_int, isT_tuple_str, isT_tuple_list, isT_tuple_tuple, isT_list_none, isT_list_bool, isT_list_int, isT_list_str, isT_list_list, isT_list_tuple])
def topS (i : Nat) : Stmt := PySem.Challenge.pw_chargerules_k11_rows_counted.main.body.getD i (.Pass ⟨0, 0, 0, 0⟩)
abbrev s_is_integer : Stmt := topS 12
abbrev N_is_integer : List Str := ["value", "low", "high"]
theorem sc_is_integer : FnScope N_is_integer ["value", "low", "high"] (defScope s_is_integer) := ⟨rfl, rfl, rfl, by decide +kernel, rfl, by decide +kernel, by decide +kernel⟩
abbrev s_is_rule : Stmt := topS 13
abbrev N_is_rule : List Str := ["value"]
theorem sc_is_rule : FnScope N_is_rule ["value"] (defScope s_is_rule) := ⟨rfl, rfl, rfl, by decide +kernel, rfl, by decide +kernel, by decide +kernel⟩
abbrev s_need_rule : Stmt := topS 14
abbrev N_need_rule : List Str := ["value"]
theorem sc_need_rule : FnScope N_need_rule ["value"] (defScope s_need_rule) := ⟨rfl, rfl, rfl, by decide +kernel, rfl, by decide +kernel, by decide +kernel⟩
abbrev s_need_time : Stmt := topS 15
abbrev N_need_time : List Str := ["value", "low", "high"]
theorem sc_need_time : FnScope N_need_time ["value", "low", "high"] (defScope s_need_time) := ⟨rfl, rfl, rfl, by decide +kernel, rfl, by decide +kernel, by decide +kernel⟩
abbrev s_taken : Stmt := topS 16
abbrev N_taken : List Str := ["rule", "returns", "time", "kind", "charges", "pause"]
theorem sc_taken : FnScope N_taken ["rule", "returns", "time"] (defScope s_taken) := ⟨rfl, rfl, rfl, by decide +kernel, rfl, by decide +kernel, by decide +kernel⟩
abbrev s_left_at : Stmt := topS 17
abbrev N_left_at : List Str := ["rule", "returns", "time", "one"]
theorem sc_left_at : FnScope N_left_at ["rule", "returns", "time"] (defScope s_left_at) := ⟨rfl, rfl, rfl, by decide +kernel, rfl, by decide +kernel, by decide +kernel⟩
abbrev s_all_rows : Stmt := topS 19
abbrev N_all_rows : List Str := ["rule", "ticks", "found", "waiting", "row", "returns", "time"]
theorem sc_all_rows : FnScope N_all_rows ["rule", "ticks"] (defScope s_all_rows) := ⟨rfl, rfl, rfl, by decide +kernel, rfl, by decide +kernel, by decide +kernel⟩
abbrev s_count_rows : Stmt := topS 20
abbrev N_count_rows : List Str := ["rule", "ticks"]
theorem sc_count_rows : FnScope N_count_rows ["rule", "ticks"] (defScope s_count_rows) := ⟨rfl, rfl, rfl, by decide +kernel, rfl, by decide +kernel, by decide +kernel⟩
abbrev s_row_at : Stmt := topS 21
abbrev N_row_at : List Str := ["rule", "ticks", "number", "rows"]
theorem sc_row_at : FnScope N_row_at ["rule", "ticks", "number"] (defScope s_row_at) := ⟨rfl, rfl, rfl, by decide +kernel, rfl, by decide +kernel, by decide +kernel⟩
abbrev s__law_cell_at : Stmt := topS 23
abbrev N__law_cell_at : List Str := ["script", "k"]
theorem sc__law_cell_at : FnScope N__law_cell_at ["script", "k"] (defScope s__law_cell_at) := ⟨rfl, rfl, rfl, by decide +kernel, rfl, by decide +kernel, by decide +kernel⟩
abbrev s__law_draws : Stmt := topS 24
abbrev N__law_draws : List Str := ["cell", "many", "size", "found", "rest", "stirred", "k"]
theorem sc__law_draws : FnScope N__law_draws ["cell", "many", "size"] (defScope s__law_draws) := ⟨rfl, rfl, rfl, by decide +kernel, rfl, by decide +kernel, by decide +kernel⟩
abbrev s__law_bag : Stmt := topS 25
abbrev N__law_bag : List Str := ["script", "k"]
theorem sc__law_bag : FnScope N__law_bag ["script", "k"] (defScope s__law_bag) := ⟨rfl, rfl, rfl, by decide +kernel, rfl, by decide +kernel, by decide +kernel⟩
abbrev s__law_bags : Stmt := topS 26
abbrev N__law_bags : List Str := ["script", "limit", "k"]
theorem sc__law_bags : FnScope N__law_bags ["script", "limit"] (defScope s__law_bags) := ⟨rfl, rfl, rfl, by decide +kernel, rfl, by decide +kernel, by decide +kernel⟩
abbrev s__law_take : Stmt := topS 27
abbrev N__law_take : List Str := ["bag", "many"]
theorem sc__law_take : FnScope N__law_take ["bag", "many"] (defScope s__law_take) := ⟨rfl, rfl, rfl, by decide +kernel, rfl, by decide +kernel, by decide +kernel⟩
abbrev s__law_rule : Stmt := topS 28
abbrev N__law_rule : List Str := ["bag", "charges", "pause"]
theorem sc__law_rule : FnScope N__law_rule ["bag"] (defScope s__law_rule) := ⟨rfl, rfl, rfl, by decide +kernel, rfl, by decide +kernel, by decide +kernel⟩
abbrev s__law_press : Stmt := topS 29
abbrev N__law_press : List Str := ["rule", "store", "time", "kind", "most", "pause"]
theorem sc__law_press : FnScope N__law_press ["rule", "store", "time"] (defScope s__law_press) := ⟨rfl, rfl, rfl, by decide +kernel, rfl, by decide +kernel, by decide +kernel⟩
abbrev s__law_steps : Stmt := topS 30
abbrev N__law_steps : List Str := ["rule", "row", "store", "found", "time", "good"]
theorem sc__law_steps : FnScope N__law_steps ["rule", "row"] (defScope s__law_steps) := ⟨rfl, rfl, rfl, by decide +kernel, rfl, by decide +kernel, by decide +kernel⟩
abbrev s__law_used : Stmt := topS 31
abbrev N__law_used : List Str := ["rule", "row", "at", "step"]
theorem sc__law_used : FnScope N__law_used ["rule", "row"] (defScope s__law_used) := ⟨rfl, rfl, rfl, by decide +kernel, rfl, by decide +kernel, by decide +kernel⟩
abbrev s__law_error : Stmt := topS 32
abbrev N__law_error : List Str := ["call", "a", "b", "c", "kinds", "e", "rows", "name", "there"]
theorem sc__law_error : FnScope N__law_error ["call", "a", "b", "c"] (defScope s__law_error) := ⟨rfl, rfl, rfl, by decide +kernel, rfl, by decide +kernel, by decide +kernel⟩
abbrev s__law_times : Stmt := topS 33
abbrev N__law_times : List Str := ["ticks", "found", "time", "row"]
theorem sc__law_times : FnScope N__law_times ["ticks"] (defScope s__law_times) := ⟨rfl, rfl, rfl, by decide +kernel, rfl, by decide +kernel, by decide +kernel⟩
abbrev s_law : Stmt := topS 34
abbrev N_law : List Str := ["script", "bag", "rule", "ticks", "due", "some", "odd", "row", "number"]
theorem sc_law : FnScope N_law ["script"] (defScope s_law) := ⟨rfl, rfl, rfl, by decide +kernel, rfl, by decide +kernel, by decide +kernel⟩
structure TXT (K : PySem.W.Frag) (mg : Str → Option Value) (L : Fn) : Prop where
  own : ∀ a vs H, L.own a vs → SqL K H a vs
  fn_row_at : ∃ f, mg "row_at" = some (.ref f) ∧ L.f "row_at" = some (.ref f)
  L : LOk L
  f_is_integer : FnT K mg "is_integer" s_is_integer ["value", "low", "high"]
  f_is_rule : FnT K mg "is_rule" s_is_rule ["value"]
  f_need_rule : FnT K mg "need_rule" s_need_rule ["value"]
  f_need_time : FnT K mg "need_time" s_need_time ["value", "low", "high"]
  f_taken : FnT K mg "taken" s_taken ["rule", "returns", "time"]
  f_left_at : FnT K mg "left_at" s_left_at ["rule", "returns", "time"]
  f_all_rows : FnT K mg "all_rows" s_all_rows ["rule", "ticks"]
  f_count_rows : FnT K mg "count_rows" s_count_rows ["rule", "ticks"]
  f_row_at : FnT K mg "row_at" s_row_at ["rule", "ticks", "number"]
  f__law_cell_at : FnT K mg "_law_cell_at" s__law_cell_at ["script", "k"]
  f__law_draws : FnT K mg "_law_draws" s__law_draws ["cell", "many", "size"]
  f__law_bag : FnT K mg "_law_bag" s__law_bag ["script", "k"]
  f__law_bags : FnT K mg "_law_bags" s__law_bags ["script", "limit"]
  f__law_take : FnT K mg "_law_take" s__law_take ["bag", "many"]
  f__law_rule : FnT K mg "_law_rule" s__law_rule ["bag"]
  f__law_press : FnT K mg "_law_press" s__law_press ["rule", "store", "time"]
  f__law_steps : FnT K mg "_law_steps" s__law_steps ["rule", "row"]
  f__law_used : FnT K mg "_law_used" s__law_used ["rule", "row"]
  f__law_error : FnT K mg "_law_error" s__law_error ["call", "a", "b", "c"]
  f__law_times : FnT K mg "_law_times" s__law_times ["ticks"]
  b_ValueError : mg "ValueError" = none
  b_bool : mg "bool" = none
  b_enumerate : mg "enumerate" = none
  b_int : mg "int" = none
  b_isinstance : mg "isinstance" = none
  b_len : mg "len" = none
  b_max : mg "max" = none
  b_min : mg "min" = none
  b_range : mg "range" = none
  b_set : mg "set" = none
  b_sorted : mg "sorted" = none
  b_str : mg "str" = none
  b_tuple : mg "tuple" = none
  c_ChargeError : ∃ C0, mg "ChargeError" = some (.ref C0)
  x_InvalidNumber : ErrF K mg "InvalidNumber"
  x_InvalidTime : ErrF K mg "InvalidTime"
  g_KINDS : ∃ a, mg "KINDS" = some (.ref a) ∧ ∀ H, SqT K H a [.str "line", .str "side"]
section
variable {P : Program} {w : World} {K : PySem.W.Frag} {mg : Str → Option Value} {base : Heap} {L : Fn}
theorem ok_is_integer (T : TXT K mg L) : Cal P w K mg base L 1 "is_integer" [] 3 sp_is_integer := by
  have nd : (N_is_integer).Nodup := by decide +kernel
  refine cal_ok (N := N_is_integer) T.f_is_integer sc_is_integer (by decide) fun f cdv A outer s H vs E rs Pd Ed hn hr h => ?_
  obtain ⟨d, lo, hi, rfl, hd, q⟩ := h
  refine ⟨_, (dss_one (ds_ret (List.not_mem_nil) (dr_e (de_and (de_callB call_isi (cIsi T.L.t_int kit_int) rfl T.b_isinstance bt_isinstance (dd_cons (de_var (pv 0)) (dd_cons (de_ty (pe_bltn rfl T.b_int bt_int rfl) T.L.t_int) dd_nil))) (de_and (de_not (de_callB call_isi (cIsi T.L.t_bool kit_bool) rfl T.b_isinstance bt_isinstance (dd_cons (de_var (pv 0)) (dd_cons (de_ty (pe_bltn rfl T.b_bool bt_bool rfl) T.L.t_bool) dd_nil)))) (de_one (de_chain op_le dCmp op_le dCmp (de_var (pv 1)) (de_var (pv 0)) (de_var (pv 2))))))))), ?_⟩
  walk_at "st"
  walk_at "dl"
  cases d with
  | dict _ => rw [PyData.canLay0] at hd; cases hd
  | int i =>
    walk_at "ev"
    have e : isIntB (.int i) lo hi = (decide (lo ≤ i) && decide (i ≤ hi)) := rfl
    rw [e] at q
    refine ifB_cases (fun hb => ?_) (fun hb => ?_)
    · rw [hb, Bool.true_and] at q; exact q _
    · rw [hb, Bool.false_and] at q; exact q _
  | bool i => walk_at "ev"; exact q _
  | none => walk_at "ev"; exact q _
  | str i => walk_at "ev"; exact q _
  | list i => walk_at "ev"; exact q _
  | tuple i => walk_at "ev"; exact q _
theorem ok_taken (T : TXT K mg L) : Cal P w K mg base L 1 "taken" [] 3 sp_taken := by
  have nd : (N_taken).Nodup := by decide +kernel
  refine cal_ok (N := N_taken) T.f_taken sc_taken (by decide) fun f cdv A outer s H vs E rs Pd Ed hn hr h => ?_
  obtain ⟨r, bs, t, rfl, hl, q⟩ := h
  refine ⟨_, (dss_cons (ds_asg (de_var (pv 0)) (dg_tup (n := 3) rfl (dgs_cons (dg_name (List.not_mem_nil) (pg_name (i := 3) nd rfl (Or.inl rfl))) (dgs_cons (dg_name (List.not_mem_nil) (pg_name (i := 4) nd rfl (Or.inl rfl))) (dgs_cons (dg_name (List.not_mem_nil) (pg_name (i := 5) nd rfl (Or.inl rfl))) dgs_nil)))))
        (dss_cons (ds_if (dt_w (dw_and (dt_cmp (op_eqD hr.units) dEq (de_var (pv 3)) de_str (nomark _)) (dw_and1 (dt_cmp (op_neD hr.units) dNe (de_var (pv 1)) (de_tup dd_nil) (nomark _))))) (dss_one (ds_ret (List.not_mem_nil) (dr_e (de_op oAdd dAdd (de_var (pv 1)) (de_tup (dd_cons (de_op oAdd dAdd (de_callB (call_max2 rfl) cMax2 rfl T.b_max bt_max (dd_cons (de_var (pv 2)) (dd_cons (de_ix ix_seq dIx (de_var (pv 1)) (de_neg de_int) (fun _ _ => rfl)) dd_nil))) (de_var (pv 5))) dd_nil)))))) dss_nil)
        (dss_one (ds_ret (List.not_mem_nil) (dr_e (de_op oAdd dAdd (de_var (pv 1)) (de_tup (dd_cons (de_op oAdd dAdd (de_var (pv 2)) (de_var (pv 5))) dd_nil)))))))), ?_⟩
  walk_at "st"
  walk_at "dl"
  unfold takeL at q
  refine ifB_cases (fun h1 => ?_) (fun h1 => ?_)
  · refine ifB_cases (fun h2 => ?_) (fun h2 => ?_)
    · have h3 : bs ≠ [] := by simpa using h2
      rw [if_pos ⟨h1, h3⟩] at q
      rw [ix_last h3]
      walk_at "ev"
      rw [add_t1 (by omega)]
      exact q _
    · have h3 : bs = [] := by simpa using h2
      rw [if_neg (fun z => z.2 h3)] at q
      rw [add_t1 (by omega)]
      exact q _
  · rw [if_neg (fun z => by rw [h1] at z; cases z.1)] at q
    rw [add_t1 (by omega)]
    exact q _
theorem ok_left_at (T : TXT K mg L) : Cal P w K mg base L 1 "left_at" [] 3 sp_left_at := by
  have nd : (N_left_at).Nodup := by decide +kernel
  refine cal_ok (N := N_left_at) T.f_left_at sc_left_at (by decide) fun f cdv A outer s H vs E rs Pd Ed hn hr h => ?_
  obtain ⟨r, bs, t, rfl, hl, q⟩ := h
  refine ⟨_, (dss_one (ds_ret (List.not_mem_nil) (dr_e (de_op op_sub dSub (de_ix ix_seq dIx (de_var (pv 0)) de_int (fun _ _ => rfl)) (de_callB call_len_seq cLen rfl T.b_len bt_len (dd_cons (de_r (dr_lc (own := [("one", 3)]) (js := [3]) (fun _ h => nomatch h) (by decide) rfl nd (di_seq (de_var (pv 1))) (blkOk_by (own := [("one", 3)]) (N := N_left_at) (sc := defScope s_left_at) (by decide +kernel)) (fun _ _ _ _ _ => (dg_name (List.not_mem_nil) (pg_name (i := 3) nd rfl (Or.inl rfl)))) (fun _ _ _ _ _ => (dts_one (dt_cmp op_gt dCmp (de_var (pv 3)) (de_var (pv 2)) (nomark _)))) (fun _ _ _ _ _ => (de_var (pv 3))))) dd_nil)))))), ?_⟩
  walk_at "st"
  walk_at "dl"
  rw [show ixD (rD r) (.int 1) = some (.int r.c) from rfl]
  walk_at "ev"
  refine lc_un ?_
  walk_at "sl"
  refine lc_pf [some (.fz (rD r)), some (.fz (tI bs)), some (.fz (.int t)), none] (fun d => match d with
    | .int b => decide (t < b)
    | _ => false) (fun d => d) rfl ?_ (fun k d A B hk hA hB => ?_) ?_
  · rw [List.length_map]; omega
  · obtain ⟨b, hb, rfl⟩ := map_get hk
    walk_at "sl"
    refine ifB_cases (fun h1 => ?_) (fun h1 => ?_)
    · exact hA h1 _ rfl
    · exact hB h1 _ rfl
  · rw [filter_map_ints (fun b => decide (t < b)) _ (fun x => rfl), List.map_id']
    walk_at "ev"
    rw [List.length_map]
    exact q _
theorem ok__law_cell_at (T : TXT K mg L) : Cal P w K mg base L 1 "_law_cell_at" [] 2 sp_law_cell_at := by
  have nd : (N__law_cell_at).Nodup := by decide +kernel
  refine cal_ok (N := N__law_cell_at) T.f__law_cell_at sc__law_cell_at (by decide) fun f cdv A outer s H vs E rs Pd Ed hn hr h => ?_
  obtain ⟨ns, k, rfl, hk, q⟩ := h
  refine ⟨_, (dss_cons (ds_if (dt_cmp op_lt dCmp (de_var (pv 1)) (de_callB call_len_seq (cLenS T.own) rfl T.b_len bt_len (dd_cons (de_var (pv 0)) dd_nil)) (nomark _)) (dss_one (ds_ret (List.not_mem_nil) (dr_e (de_ix ix_seq (dIxS T.own) (de_var (pv 0)) (de_var (pv 1)) (fun _ _ => rfl))))) dss_nil)
        (dss_one (ds_ret (List.not_mem_nil) (dr_e de_int)))), ?_⟩
  walk_at "st"
  walk_at "dl"
  have e1 : lenS [scrD ns] = some (.int (ns.length : Nat)) := by
    show some (PyData.int ((ns.map PyData.int).length : Nat)) = _
    rw [List.length_map]
  rw [e1]
  walk_at "ev"
  refine ifB_cases (fun hb => ?_) (fun hb => q _ _)
  have hb := of_decide_eq_true hb
  obtain ⟨x, e2, e3⟩ := atI_ok (xs := ns.map PyData.int) hk (by rw [List.length_map]; exact hb)
  obtain ⟨y, _, rfl⟩ := map_get e3
  have e4 : ixS (scrD ns) (.int k) = some (.int y) := e2
  rw [e4]
  exact q _ _
theorem ok__law_draws (T : TXT K mg L) : Cal P w K mg base L 1 "_law_draws" [] 3 sp_law_draws := by
  have nd : (N__law_draws).Nodup := by decide +kernel
  refine cal_ok (N := N__law_draws) T.f__law_draws sc__law_draws (by decide) fun f cdv A outer s H vs E rs Pd Ed hn hr h => ?_
  obtain ⟨c, rfl, q⟩ := h
  refine ⟨_, (dss_cons (ds_set (i := 3) (List.not_mem_nil) nd rfl (Or.inl rfl) (dr_lst dd_nil))
        (dss_cons (ds_set (i := 4) (List.not_mem_nil) nd rfl (Or.inl rfl) (dr_e (de_op op_mul dMul (de_var (pv 0)) (de_callTy call_int1 cInt1 rfl T.b_int bt_int (dd_cons (de_cmp op_ge dCmp (de_var (pv 0)) (de_op op_pow dPow de_int de_int) (nomark _)) dd_nil)))))
        (dss_cons (ds_set (i := 5) (List.not_mem_nil) nd rfl (Or.inl rfl) (dr_e (de_op op_mod dMod (de_var (pv 0)) de_int)))
        (dss_cons (ds_for PassesOwn.never rfl (di_rg1 rfl T.b_range (dd_cons (de_op oAdd dAdd (de_var (pv 1)) de_int) dd_nil)) (dg_name (List.not_mem_nil) (pg_name (i := 6) nd rfl (Or.inl rfl))) (dss_cons (ds_set (i := 5) (List.not_mem_nil) nd rfl (Or.inl rfl) (dr_e (de_op op_mod dMod (de_op oAdd dAdd (de_op oAdd dAdd (de_op oAdd dAdd (de_op op_mul dMul (de_var (pv 5)) (de_var (pv 5))) (de_op op_mul dMul de_int (de_var (pv 5)))) (de_var (pv 6))) de_int) de_int)))
          (dss_one (ds_if (dt_w (dw_and (dt_cmp op_gt dCmp (de_var (pv 6)) de_int (nomark _)) (dw_and1 (dt_cmp op_gt dCmp (de_var (pv 4)) de_int (nomark _))))) (dss_cons (ds_expr (dr_app (pv 3) (dd_cons (de_op op_mod dMod (de_var (pv 4)) (de_var (pv 2))) dd_nil)))
            (dss_one (ds_set (i := 4) (List.not_mem_nil) nd rfl (Or.inl rfl) (dr_e (de_op op_fdiv dFdiv (de_var (pv 4)) (de_var (pv 2))))))) (dss_one (ds_if (dt_cmp op_gt dCmp (de_var (pv 6)) de_int (nomark _)) (dss_one (ds_expr (dr_app (pv 3) (dd_cons (de_op op_mod dMod (de_op op_fdiv dFdiv (de_var (pv 5)) de_int) (de_var (pv 2))) dd_nil)))) dss_nil))))))
        (dss_one (ds_ret (List.not_mem_nil) (dr_mv (pv 3)))))))), ?_⟩
  walk_at "st"
  walk_at "dl"
  have e1 : powD (.int 10) (.int 18) = some (.int 1000000000000000000) := rfl
  rw [e1]
  walk_at "ev"
  have e2 : ∀ b : Bool, int1D [.bool b] = some (.int (if b = true then 1 else 0)) := fun _ => rfl
  rw [e2]
  walk_at "ev"
  rw [mul_i (by right; split <;> decide)]
  walk_at "ev"
  rw [mod_i (by decide)]
  walk_at "ev"
  generalize (c * if decide (1000000000000000000 ≤ c) = true then 1 else 0) = rest0
  have hst : 0 ≤ c % 2305843009213693951 ∧ c % 2305843009213693951 < 2305843009213693951 := ⟨Int.emod_nonneg _ (by decide), Int.emod_lt_of_pos _ (by decide)⟩
  generalize (c % 2305843009213693951) = st0 at hst
  refine for_go (rngD 0 403) [some (.fz (.int c)), some (.fz (.int 400)), some (.fz (.int 1000)), some (.ls []), some (.fz (.int rest0)), some (.fz (.int st0)), none] (fun k ρ' => ∃ (rest st : Int) (fd : List Int) (x : Option Res), ρ' = [some (.fz (.int c)), some (.fz (.int 400)), some (.fz (.int 1000)), some (.ls (fd.map .int)), some (.fz (.int rest)), some (.fz (.int st)), x] ∧ 0 ≤ st ∧ st < 2305843009213693951 ∧ fd.length = k - 3 ∧ ∀ d ∈ fd, 0 ≤ d ∧ d < 1000) (fun R hR => ?_) ⟨rest0, st0, [], none, rfl, hst.1, hst.2, rfl, by simp⟩ (fun k d ρ' hk hI => ?_) (fun ρ' hI => ?_)
  · walk_at "dl"; exact hR
  · obtain ⟨rest, st, fd, x, rfl, s0, s1, hl, hf⟩ := hI
    obtain ⟨hk1, rfl⟩ := rngD_get hk
    walk_at "dl"
    rw [mul_i (by left; omega), mul_i (by right; omega)]
    walk_at "ev"
    rw [mod_i (by decide)]
    walk_at "ev"
    have hst : 0 ≤ (st * st + 48271 * st + (0 + (k : Int)) + 1) % 2305843009213693951 ∧ (st * st + 48271 * st + (0 + (k : Int)) + 1) % 2305843009213693951 < 2305843009213693951 := ⟨Int.emod_nonneg _ (by decide), Int.emod_lt_of_pos _ (by decide)⟩
    generalize (st * st + 48271 * st + (0 + (k : Int)) + 1) % 2305843009213693951 = st1 at *
    have fin : ∀ y : Int, 0 ≤ y ∧ y < 1000 → 3 ≤ k → ∀ d ∈ fd ++ [y], 0 ≤ d ∧ d < 1000 := fun y hy _ d hd => by
      rcases List.mem_append.mp hd with h | h
      · exact hf d h
      · rw [List.mem_singleton.mp h]; exact hy
    refine ifB_cases (fun h1 => ?_) (fun h1 => ?_)
    · have h1 := of_decide_eq_true h1
      refine ifB_cases (fun h2 => ?_) (fun h2 => ?_)
      · rw [mod_i (by decide)]
        walk_at "ev"
        refine ⟨by rw [List.length_map]; omega, ?_⟩
        rw [fdiv_i (by decide) (by decide)]
        walk_at "ev"
        have := fin (rest % 1000) ⟨Int.emod_nonneg _ (by decide), Int.emod_lt_of_pos _ (by decide)⟩ (by omega)
        exact ⟨_, st1, fd ++ [rest % 1000], _, by rw [List.map_append]; rfl, hst.1, hst.2, by simp; omega, this⟩
      · refine ifB_cases (fun h3 => ?_) (fun h3 => ?_)
        · rw [fdiv_i (by decide) (by decide)]
          walk_at "ev"
          rw [mod_i (by decide)]
          walk_at "ev"
          refine ⟨by rw [List.length_map]; omega, ?_⟩
          have := fin (st1 / 4096 % 1000) ⟨Int.emod_nonneg _ (by decide), Int.emod_lt_of_pos _ (by decide)⟩ (by omega)
          exact ⟨_, st1, fd ++ [st1 / 4096 % 1000], _, by rw [List.map_append]; rfl, hst.1, hst.2, by simp; omega, this⟩
        · have h3 := of_decide_eq_false h3
          omega
    · have h1 := of_decide_eq_false h1
      refine ifB_cases (fun h3 => ?_) (fun h3 => ?_)
      · have h3 := of_decide_eq_true h3
        omega
      · exact ⟨_, st1, fd, _, rfl, hst.1, hst.2, by omega, hf⟩
  · obtain ⟨rest, st, fd, x, rfl, s0, s1, hl, hf⟩ := hI
    walk_at "dl"
    exact q fd _ (by rw [hl, rngD_len]) hf
theorem ok__law_take (T : TXT K mg L) : Cal P w K mg base L 1 "_law_take" [0] 2 sp_law_take := by
  have nd : (N__law_take).Nodup := by decide +kernel
  refine cal_ok (N := N__law_take) T.f__law_take sc__law_take (by decide) fun f cdv A outer s H vs E rs Pd Ed hn hr h => ?_
  have hrF : vs.length ∉ [0] := by rw [hn]; decide
  obtain ⟨b, m, rfl, hb, hm, q⟩ := h
  refine ⟨_, (dss_cons (ds_putIx (i := 0) (de_dp (dv_op oAdd dAdd (dv_ix ix_seq dIx (dv_var (pv 0)) dv_int (fun _ _ => rfl)) dv_int)) (pv 0) de_int)
        (dss_one (ds_ret hrF (dr_e (de_dp (dv_op op_mod dMod (dv_ix ix_seq dIx (dv_ix ix_seq dIx (dv_var (pv 0)) dv_int (fun _ _ => rfl)) (dv_op op_mod dMod (dv_ix ix_seq dIx (dv_var (pv 0)) dv_int (fun _ _ => rfl)) (dv_callB call_len_seq cLen rfl T.b_len bt_len (dvd_cons (dv_ix ix_seq dIx (dv_var (pv 0)) dv_int (fun _ _ => rfl)) dvd_nil))) (fun _ _ => rfl)) (dv_var (pv 1)))))))), ?_⟩
  obtain ⟨ds, j, rfl, hl, hd, hj⟩ := hb.ex
  walk_at "st"
  walk_at "dl"
  have e1 : ∀ j : Int, ixD (.list [lI' ds, .int j]) (.int 1) = some (.int j) := fun _ => rfl
  have e0 : ∀ j : Int, ixD (.list [lI' ds, .int j]) (.int 0) = some (lI' ds) := fun _ => rfl
  rw [e1]
  walk_at "ev"
  rw [e0, e1]
  walk_at "ev"
  rw [List.length_map, hl, mod_i (by decide)]
  walk_at "ev"
  have h1 : 0 ≤ (j + 1) % 400 ∧ (j + 1) % 400 < 400 := ⟨Int.emod_nonneg _ (by decide), Int.emod_lt_of_pos _ (by decide)⟩
  obtain ⟨x, h2⟩ : ∃ x, ds[((j + 1) % 400).toNat]? = some x := ⟨_, List.getElem?_eq_getElem (by omega)⟩
  have h3 := hd x (mem_of_get h2)
  rw [show ((400 : Nat) : Int) = 400 from rfl, ix_natL h1.1 h2]
  walk_at "ev"
  rw [mod_i (by omega)]
  walk_at "ev"
  have h4 : x % m ≤ x := by
    by_cases hx : x < m
    · rw [Int.emod_eq_of_lt h3.1 hx]; exact Int.le_refl _
    · have := Int.emod_lt_of_pos x (show (0 : Int) < m by omega); omega
  exact q _ _ _ ⟨ds, j + 1, rfl, hl, hd, by omega⟩ (Int.emod_nonneg _ (by omega)) (Int.emod_lt_of_pos _ (by omega)) (by omega) rfl
theorem ok__law_press (T : TXT K mg L) : Cal P w K mg base L 1 "_law_press" [1] 3 sp_law_press := by
  have nd : (N__law_press).Nodup := by decide +kernel
  refine cal_ok (N := N__law_press) T.f__law_press sc__law_press (by decide) fun f cdv A outer s H vs E rs Pd Ed hn hr h => ?_
  have hrF : vs.length ∉ [1] := by rw [hn]; decide
  obtain ⟨r, bs, t0, t, s0, rfl, ok, hrep, ht, hbl, q1, q0⟩ := h
  refine ⟨_, (dss_cons (ds_asg (de_var (pv 0)) (dg_tup (n := 3) rfl (dgs_cons (dg_name (show 3 ∉ ([1] : List Nat) by decide) (pg_name (i := 3) nd rfl (Or.inl rfl))) (dgs_cons (dg_name (show 4 ∉ ([1] : List Nat) by decide) (pg_name (i := 4) nd rfl (Or.inl rfl))) (dgs_cons (dg_name (show 5 ∉ ([1] : List Nat) by decide) (pg_name (i := 5) nd rfl (Or.inl rfl))) dgs_nil)))))
        (dss_cons (ds_while PassesOwn.never (dt_w (dw_and (dt_cmpP (op_neD hr.units) dNe (dv_ix ix_seq dIx (dv_var (pv 1)) dv_int (fun _ _ => rfl)) (dv_lst dvd_nil) (nomark _)) (dw_and1 (dt_cmpP op_le dCmp (dv_ix ix_seq dIx (dv_ix ix_seq dIx (dv_var (pv 1)) dv_int (fun _ _ => rfl)) dv_int (fun _ _ => rfl)) (dv_var (pv 2)) (nomark _))))) (dss_cons (ds_putN (i := 1) (de_dp (dv_op oAdd dAdd (dv_ix ix_seq dIx (dv_var (pv 1)) dv_int (fun _ _ => rfl)) dv_int)) (pv 1) de_int)
          (dss_cons (ds_expr (dr_e (de_pop0N (j := 1) (pv 1))))
          (dss_one (ds_if (dt_w (dw_and (dt_cmp (op_eqD hr.units) dEq (de_var (pv 3)) de_str (nomark _)) (dw_and (dt_cmpP op_lt dCmp (dv_ix ix_seq dIx (dv_var (pv 1)) dv_int (fun _ _ => rfl)) (dv_var (pv 4)) (nomark _)) (dw_and1 (dt_cmpP (op_eqD hr.units) dEq (dv_ix ix_seq dIx (dv_var (pv 1)) dv_int (fun _ _ => rfl)) (dv_lst dvd_nil) (nomark _)))))) (dss_cons (ds_expr (dr_appN (j := 1) (pv 1) (dvd_cons (dv_op oAdd dAdd (dv_ix ix_seq dIx (dv_var (pv 1)) dv_int (fun _ _ => rfl)) (dv_var (pv 5))) dvd_nil)))
            (dss_one (ds_putN (i := 1) (de_dp (dv_op oAdd dAdd (dv_ix ix_seq dIx (dv_var (pv 1)) dv_int (fun _ _ => rfl)) (dv_var (pv 5)))) (pv 1) de_int))) dss_nil)))))
        (dss_cons (ds_if (dt_cmpP (op_eqD hr.units) dEq (dv_ix ix_seq dIx (dv_var (pv 1)) dv_int (fun _ _ => rfl)) dv_int (nomark _)) (dss_one (ds_ret hrF (dr_e de_bl))) dss_nil)
        (dss_cons (ds_putN (i := 1) (de_dp (dv_op op_sub dSub (dv_ix ix_seq dIx (dv_var (pv 1)) dv_int (fun _ _ => rfl)) dv_int)) (pv 1) de_int)
        (dss_cons (ds_if (dt_cmp (op_eqD hr.units) dEq (de_var (pv 3)) de_str (nomark _)) (dss_one (ds_expr (dr_appN (j := 1) (pv 1) (dvd_cons (dv_op oAdd dAdd (dv_var (pv 2)) (dv_var (pv 5))) dvd_nil)))) (dss_one (ds_if (dt_cmpP (op_eqD hr.units) dEq (dv_ix ix_seq dIx (dv_var (pv 1)) dv_int (fun _ _ => rfl)) (dv_lst dvd_nil) (nomark _)) (dss_cons (ds_expr (dr_appN (j := 1) (pv 1) (dvd_cons (dv_op oAdd dAdd (dv_var (pv 2)) (dv_var (pv 5))) dvd_nil)))
            (dss_one (ds_putN (i := 1) (de_op oAdd dAdd (de_var (pv 2)) (de_var (pv 5))) (pv 1) de_int))) dss_nil)))
        (dss_one (ds_ret hrF (dr_e de_bl)))))))), ?_⟩
  obtain ⟨k0, due0, last0, rfl, st0, hA, hp0, hb0, _⟩ := hrep.ex
  walk_at "st"
  walk_at "dl"
  refine while_go (fun m ρ' => ∃ k due last, ρ' = [some (.fz (rD r)), some (.nl (stL r bs k due last)), some (.fz (.int t)), some (.fz (kD r.ln)), some (.fz (.int r.c)), some (.fz (.int r.p))] ∧ StR r bs k due last ∧ (∀ j, j < k → at0 bs j ≤ t) ∧ m = bs.length - k) _ ⟨k0, due0, last0, rfl, st0, fun j hj => Int.le_trans (hp0 j hj) ht, rfl⟩ (fun m ρ' hI => ?_)
  obtain ⟨k, due, last, rfl, st, hp, rfl⟩ := hI
  walk_at "dl"
  by_cases hbody : k < bs.length ∧ at0 bs k ≤ t
  · obtain ⟨hk, hle⟩ := hbody
    obtain ⟨rest, rfl, r0, r1⟩ := st.head hk
    rw [decide_eq_false (List.cons_ne_nil _ _), List.map_cons, ix_c0]
    walk_at "ev"
    rw [decide_eq_true hle]
    walk_at "ev"
    have hp' : ∀ j, j < k + 1 → at0 bs j ≤ t := fun j hj => by
      by_cases z : j = k
      · rw [z]; exact hle
      · exact hp j (by omega)
    have ec : r.c - ((bs.length - k : Nat) : Int) + 1 = r.c - ((bs.length - (k + 1) : Nat) : Int) := by omega
    rw [ec]
    refine ifB_cases (fun hs => ?_) (fun hs => ?_)
    · have := r1 hs
      subst this
      refine ifB_cases (fun h1 => ?_) (fun h1 => ?_)
      · have h1 := of_decide_eq_true h1
        rw [decide_eq_true rfl]
        walk_at "ev"
        exact ⟨by decide, bs.length - (k + 1), by omega, k + 1, [last + r.p], last + r.p, rfl, st.pop_line hs (by omega), hp', rfl⟩
      · have h1 := of_decide_eq_false h1
        exact ⟨bs.length - (k + 1), by omega, k + 1, [], last, rfl, st.pop_end hs (by omega), hp', rfl⟩
    · have := r0 hs
      subst this
      exact ⟨bs.length - (k + 1), by omega, k + 1, _, last, rfl, st.pop_side hs hk, hp', rfl⟩
  · refine and_no (fun ha => ?_) ?_
    · have hk : k < bs.length := by
        have : due ≠ [] := by simpa using ha
        have := mt st.ne.mpr this
        have := st.hk
        omega
      obtain ⟨rest, rfl, r0, r1⟩ := st.head hk
      rw [List.map_cons, ix_c0]
      walk_at "ev"
      rw [decide_eq_false (fun z => hbody ⟨hk, z⟩)]
      exact Iff.rfl
    · have hkl := st.hk
      have hcl := st.hc
      have hb1 : r.ln = false → ∀ j, j < bs.length → at0 bs j ≤ t + r.p := fun z j hj => Int.le_trans (hb0 z j hj) (by omega)
      have hgt : ∀ j, k ≤ j → j < bs.length → t < at0 bs j := fun j h1 hj => by
        have h2 : t < at0 bs k := Int.not_le.mp fun z => hbody ⟨by omega, z⟩
        have h3 := asc_le hA h1 hj
        omega
      refine ifB_cases (fun h1 => ?_) (fun h1 => ?_)
      · have h1 := of_decide_eq_true h1
        have c1 := ok.c1
        exact q0 (avail_no ok hkl (by omega) (Int.not_le.mp fun z => hbody ⟨by omega, z⟩)) (stL r bs k due last) _ ⟨k, due, last, rfl, st, hA, hp, hb1, hgt⟩ rfl
      · have h1 := of_decide_eq_false h1
        have hav := avail_yes (r := r) hkl (by omega) hp
        have hdl : (due.map PyData.int).length < 100000 := by
          rw [List.length_map]
          cases hs : r.ln with
          | false => rw [st.side hs, List.length_drop]; omega
          | true => rw [st.line hs, List.length_take]; omega
        refine ifB_cases (fun hs => ?_) (fun hs => ?_)
        · have hs : r.ln = false := by simpa using hs
          refine ⟨hdl, q1 hav _ _ (rep_side ok st hs hA hp (hb1 hs) (by omega) hgt) ?_⟩
          rw [List.map_append]; rfl
        · have hs : r.ln = true := by simpa using hs
          refine ifB_cases (fun h2 => ?_) (fun h2 => ?_)
          · have h2 := of_decide_eq_true h2
            subst h2
            have := st.ne.mp rfl
            exact ⟨by decide, q1 hav _ _ (rep_line0 ok st hs hA hp this (by omega)) rfl⟩
          · have h2 := of_decide_eq_false h2
            have hk : k < bs.length := by
              have := mt st.ne.mpr h2
              omega
            exact q1 hav _ _ (rep_line1 ok st hs hA hp hk (Int.not_le.mp fun z => hbody ⟨hk, z⟩) (by omega)) rfl
theorem ok__law_times (T : TXT K mg L) : Cal P w K mg base L 1 "_law_times" [] 1 sp_law_times11 := by
  have nd : (N__law_times).Nodup := by decide +kernel
  refine cal_ok (N := N__law_times) T.f__law_times sc__law_times (by decide) fun f cdv A outer s H vs E rs Pd Ed hn hr h => ?_
  obtain ⟨n, rfl, hn, q⟩ := h
  refine ⟨_, (dss_cons (ds_frz 1 (ds_set (i := 1) (List.not_mem_nil) nd rfl (Or.inl rfl) (dr_lst (dd_cons (de_tup dd_nil) dd_nil))))
        (dss_cons (ds_for PassesOwn.never rfl (di_rg1 rfl T.b_range (dd_cons (de_var (pv 0)) dd_nil)) (dg_name (List.not_mem_nil) (pg_name (i := 2) nd rfl (Or.inr rfl))) (dss_one (ds_set (i := 1) (List.not_mem_nil) nd rfl (Or.inl rfl) (dr_e (de_op oAdd dAdd (de_var (pv 1)) (de_r (dr_lc (own := [("row", 3)]) (js := [3]) (fun _ h => nomatch h) (by decide) rfl nd (di_seq (de_var (pv 1))) (blkOk_by (own := [("row", 3)]) (N := N__law_times) (sc := defScope s__law_times) (by decide +kernel)) (fun _ _ _ _ _ => (dg_name (List.not_mem_nil) (pg_name (i := 3) nd rfl (Or.inl rfl)))) (fun _ _ _ _ _ => dts_nil) (fun _ _ _ _ _ => (de_op oAdd dAdd (de_var (pv 3)) (de_tup (dd_cons (de_var (pv 2)) dd_nil)))))))))))
        (dss_one (ds_ret (List.not_mem_nil) (dr_e (de_callB (cr_sortR (room64 (room65 hr))) cSortR rfl T.b_sorted bt_sorted (dd_cons (de_var (pv 1)) dd_nil))))))), ?_⟩
  have hp : ∀ k, k ≤ n → 2 ^ k ≤ 512 := fun k hk => Nat.le_trans (Nat.pow_le_pow_right (by decide) (Nat.le_trans hk hn)) (by decide)
  walk_at "st"
  walk_at "sl"
  refine hold_go ?_
  walk_at "sl"
  refine for_un ?_
  walk_at "sl"
  rw [show rg1D' [.int (n : Nat)] = some (rngD 0 n) from if_pos (by omega)]
  walk_at "ev"
  refine for_p (fun k ρ' => ∃ x, ρ' = [some (.fz (.int (n : Nat))), some (.fz (.list ((subF k).map tI))), x, none]) ⟨none, rfl⟩ (fun k d ρ' hk hI => ?_) (fun ρ' hI => ?_)
  · obtain ⟨x, rfl⟩ := hI
    obtain ⟨hk1, rfl⟩ := rngD_get hk
    have h1 := hp k (by omega)
    have h2 := hp (k + 1) (by omega)
    have hl := subF_len k
    walk_at "sl"
    refine lc_un ?_
    walk_at "sl"
    refine lc_pm _ (snocD (0 + (k : Int))) rfl (by rw [List.length_map]; omega) (fun j d R hj hR => ?_) ?_
    · obtain ⟨m, hm, rfl⟩ := map_get hj
      have hml := SA_len ((subF_mem k m).mp (mem_of_get hm)) (by omega)
      walk_at "sl"
      rw [add_t1 (by omega)]
      walk_at "ev"
      rw [← snocD_t]
      exact hR _ rfl
    rw [snoc_map]
    walk_at "ev"
    rw [add_Ll (by rw [List.length_map, List.length_map, List.length_map, hl]; omega), ← List.map_append]
    walk_at "ev"
    exact ⟨some (.fz (.int (0 + (k : Int)))), by rw [show subF (k + 1) = subF k ++ (subF k).map (· ++ [0 + (k : Int)]) from by rw [Int.zero_add]; rfl]; rfl⟩
  · obtain ⟨x, rfl⟩ := hI
    rw [rngD_len]
    refine hold_go ?_
    walk_at "sl"
    rw [sortR_l (subF_zero n)]
    walk_at "ev"
    exact q _
theorem ok_is_rule (T : TXT K mg L) (C_is_integer : Cal P w K mg base L 1 "is_integer" [] 3 (sp_is_integer)) : Cal P w K mg base L 2 "is_rule" [] 1 sp_is_rule := by
  have nd : (N_is_rule).Nodup := by decide +kernel
  obtain ⟨a_KINDS, hm_KINDS, hk_KINDS⟩ := T.g_KINDS
  have hd_KINDS : ∀ H, DdAll L H [.str "line", .str "side"] [.str "line", .str "side"] := fun H => .cons (.str _) (.cons (.str _) (.nil))
  refine cal_ok (N := N_is_rule) T.f_is_rule sc_is_rule (by decide) fun f cdv A outer s H vs E rs Pd Ed hn hr h => ?_
  obtain ⟨d, rfl, hd, q⟩ := h
  refine ⟨_, (dss_cons (ds_if (dt_w (dw_or (dt_not (dt_val (de_callB call_isi (cIsi T.L.t_tuple kit_tuple) rfl T.b_isinstance bt_isinstance (dd_cons (de_var (pv 0)) (dd_cons (de_ty (pe_bltn rfl T.b_tuple bt_tuple rfl) T.L.t_tuple) dd_nil))))) (dw_or (dt_cmp (op_neD hr.units) dNe (de_callB call_len_seq cLen rfl T.b_len bt_len (dd_cons (de_var (pv 0)) dd_nil)) de_int (nomark _)) (dw_or (dt_not (dt_val (de_callB call_isi (cIsi T.L.t_str kit_str) rfl T.b_isinstance bt_isinstance (dd_cons (de_ix ix_seq dIx (de_var (pv 0)) de_int (fun _ _ => rfl)) (dd_cons (de_ty (pe_bltn rfl T.b_str bt_str rfl) T.L.t_str) dd_nil))))) (dw_or1 (dt_inK op_notIn_seq (de_ix ix_seq dIx (de_var (pv 0)) de_int (fun _ _ => rfl)) (pe_glob rfl hm_KINDS rfl) (by rfl) hk_KINDS hd_KINDS (by decide))))))) (dss_one (ds_ret (List.not_mem_nil) (dr_e de_bl))) dss_nil)
        (dss_one (ds_ret (List.not_mem_nil) (dr_e (de_and (de_r (dr_c C_is_integer hr (dd_cons (de_ix ix_seq dIx (de_var (pv 0)) de_int (fun _ _ => rfl)) (dd_cons de_int (dd_cons de_int dd_nil))))) (de_one (de_r (dr_c C_is_integer hr (dd_cons (de_ix ix_seq dIx (de_var (pv 0)) de_int (fun _ _ => rfl)) (dd_cons de_int (dd_cons de_int dd_nil))))))))))), ?_⟩
  walk_at "st"
  walk_at "dl"
  cases d with
  | dict _ => rw [PyData.canLay0] at hd; cases hd
  | int i => walk_at "ev"; exact q _
  | bool i => walk_at "ev"; exact q _
  | none => walk_at "ev"; exact q _
  | str i => walk_at "ev"; exact q _
  | list i => walk_at "ev"; exact q _
  | tuple ds =>
    walk_at "ev"
    by_cases hl : ds.length = 3
    case neg =>
      rw [isRuleB_len hl] at q
      rw [show (!decide ((ds.length : Int) = 3)) = true by simp; omega]
      walk_at "ev"
      exact q _
    obtain ⟨a, b, c, rfl⟩ : ∃ a b c, ds = [a, b, c] := by
      match ds, hl with
      | [a, b, c], _ => exact ⟨a, b, c, rfl⟩
    have hm := lay_mem hd
    have e0 : ixD (.tuple [a, b, c]) (.int 0) = some a := rfl
    have e1 : ixD (.tuple [a, b, c]) (.int 1) = some b := rfl
    have e2 : ixD (.tuple [a, b, c]) (.int 2) = some c := rfl
    have e3 : (!decide ((([a, b, c] : List PyData).length : Int) = 3)) = false := rfl
    rw [e3, e0, e1, e2]
    walk_at "ev"
    cases a with
    | dict _ => have := hm _ List.mem_cons_self; rw [PyData.canLay0] at this; cases this
    | int i => walk_at "ev"; exact q _
    | bool i => walk_at "ev"; exact q _
    | none => walk_at "ev"; exact q _
    | list i => walk_at "ev"; exact q _
    | tuple i => walk_at "ev"; exact q _
    | str k =>
      walk_at "ev"
      refine ⟨rfl, ?_⟩
      rw [any_k]
      have e : isRuleB (.tuple [.str k, b, c]) = ((decide (k = "line") || decide (k = "side")) && isIntB b 1 20 && isIntB c 1 1000) := rfl
      rw [e] at q
      refine ifB_cases (fun hb => ?_) (fun hb => ?_)
      · rw [Bool.not_eq_true'] at hb
        rw [hb, Bool.false_and, Bool.false_and] at q; exact q _
      · rw [Bool.not_eq_false'] at hb
        rw [hb, Bool.true_and] at q
        refine ⟨b, 1, 20, rfl, hm _ (by simp), fun af => ?_⟩
        walk_at "ev"
        refine ifB_cases (fun hb => ?_) (fun hb => ?_)
        · rw [hb, Bool.true_and] at q
          exact ⟨c, 1, 1000, rfl, hm _ (by simp), fun af => q _⟩
        · rw [hb, Bool.false_and] at q; exact q _
theorem ok_need_time (T : TXT K mg L) (C_is_integer : Cal P w K mg base L 1 "is_integer" [] 3 (sp_is_integer)) : Cal P w K mg base L 2 "need_time" [] 3 sp_need_time := by
  have nd : (N_need_time).Nodup := by decide +kernel
  refine cal_ok (N := N_need_time) T.f_need_time sc_need_time (by decide) fun f cdv A outer s H vs E rs Pd Ed hn hr h => ?_
  obtain ⟨t, lo, hi, rfl, h1, h2, q⟩ := h
  refine ⟨_, (dss_one (ds_if (dt_not (dt_val (de_r (dr_c C_is_integer hr (dd_cons (de_var (pv 0)) (dd_cons (de_var (pv 1)) (dd_cons (de_var (pv 2)) dd_nil))))))) (dss_one ds_never) dss_nil)), ?_⟩
  walk_at "st"
  walk_at "sl"
  refine ⟨_, _, _, rfl, lay_int _, fun af => ?_⟩
  walk_at "ev"
  rw [show isIntB (.int t) lo hi = true from by
    show (decide (lo ≤ t) && decide (t ≤ hi)) = true
    rw [decide_eq_true h1, decide_eq_true h2]; rfl]
  walk_at "ev"
  exact q _
theorem ok_all_rows (T : TXT K mg L) (C_left_at : Cal P w K mg base L 1 "left_at" [] 3 (sp_left_at)) (C_taken : Cal P w K mg base L 1 "taken" [] 3 (sp_taken)) : Cal P w K mg base L 2 "all_rows" [] 2 sp_all_rows := by
  have nd : (N_all_rows).Nodup := by decide +kernel
  refine cal_ok (N := N_all_rows) T.f_all_rows sc_all_rows (by decide) fun f cdv A outer s H vs E rs Pd Ed hn hr h => ?_
  obtain ⟨r, tk, rfl, ok, t0, t1, q⟩ := h
  refine ⟨_, (dss_cons (ds_par (i := 2) (j := 3) rfl (List.not_mem_nil) (List.not_mem_nil) nd rfl rfl (by decide) rfl rfl (dr_lst dd_nil) (dr_lst (dd_cons (de_tup (dd_cons (de_tup dd_nil) (dd_cons (de_tup dd_nil) dd_nil))) dd_nil)))
        (dss_cons (ds_while PassesOwn.never (dt_cmpP (op_neD hr.units) dNe (dv_var (pv 3)) (dv_lst dvd_nil) (nomark _)) (dss_cons (ds_asg (de_pop (pv 3)) (dg_tup (n := 2) rfl (dgs_cons (dg_name (List.not_mem_nil) (pg_name (i := 4) nd rfl (Or.inl rfl))) (dgs_cons (dg_name (List.not_mem_nil) (pg_name (i := 5) nd rfl (Or.inl rfl))) dgs_nil))))
          (dss_cons (ds_expr (dr_app (pv 2) (dd_cons (de_var (pv 4)) dd_nil)))
          (dss_one (ds_for PassesOwn.never rfl (di_rg3 rfl T.b_range (dd_cons (de_op op_sub dSub (de_var (pv 1)) de_int) (dd_cons (de_if (dt_cmp (op_neD hr.units) dNe (de_var (pv 4)) (de_tup dd_nil) (nomark _)) (de_ix ix_seq dIx (de_var (pv 4)) (de_neg de_int) (fun _ _ => rfl)) (de_neg de_int)) (dd_cons (de_neg de_int) dd_nil)))) (dg_name (List.not_mem_nil) (pg_name (i := 6) nd rfl (Or.inl rfl))) (dss_one (ds_if (dt_cmp op_gt dCmp (de_r (dr_c C_left_at hr (dd_cons (de_var (pv 0)) (dd_cons (de_var (pv 5)) (dd_cons (de_var (pv 6)) dd_nil))))) de_int (nomark _)) (dss_one (ds_expr (dr_app (pv 3) (dd_cons (de_tup (dd_cons (de_op oAdd dAdd (de_var (pv 4)) (de_tup (dd_cons (de_var (pv 6)) dd_nil))) (dd_cons (de_r (dr_c C_taken hr (dd_cons (de_var (pv 0)) (dd_cons (de_var (pv 5)) (dd_cons (de_var (pv 6)) dd_nil))))) dd_nil))) dd_nil)))) dss_nil)))))))
        (dss_one (ds_ret (List.not_mem_nil) (dr_mv (pv 2)))))), ?_⟩
  have hal := allL_len (r := r) t1
  walk_at "st"
  walk_at "sl"
  refine hold_go ?_
  walk_at "sl"
  refine while_go (fun m ρ' => ∃ (fnd : List (List Int)) (W : List (List Int × List Int)) (x y z : Option Res), ρ' = [some (.fz (rD r)), some (.fz (.int tk)), some (.ls (fnd.map tI)), some (.ls (W.map prW)), x, y, z] ∧ fnd ++ W.reverse.flatMap (nodeL r tk) = allL r tk ∧ (∀ p ∈ W, WOk tk p) ∧ m = (allL r tk).length - fnd.length) _ ⟨[], [([], [])], none, none, none, rfl, by simp [allL], fun p hp => by rw [List.mem_singleton.mp hp]; exact ⟨Int.le_refl _, Int.le_refl _, t0, rfl⟩, rfl⟩ (fun m ρ' hI => ?_)
  obtain ⟨fnd, W, x, y, z, rfl, hall, hW, rfl⟩ := hI
  walk_at "sl"
  rw [neD_prW]
  walk_at "ev"
  rcases List.eq_nil_or_concat W with rfl | ⟨W', p, rfl⟩
  · walk_at "ev"
    refine hold_go ?_
    walk_at "sl"
    rw [show fnd = allL r tk from by simpa using hall]
    exact q _
  rw [List.concat_eq_append] at *
  obtain ⟨w0, w1, w2, w3⟩ := hW p (by simp)
  rw [List.reverse_append, List.reverse_singleton, List.singleton_append, List.flatMap_cons] at hall
  have hlen := congrArg List.length hall
  have hge := flat_ge r tk W'.reverse
  rw [List.length_append, List.length_append, nodeL, List.length_cons] at hlen
  rw [List.length_reverse] at hge
  rw [decide_eq_false (by simp)]
  walk_at "ev"
  rw [show (List.map prW (W' ++ [p]))[(List.map prW (W' ++ [p])).length - 1]? = some (.tuple [tI p.1, tI p.2]) from by simp [prW]]
  walk_at "ev"
  rw [show (List.map prW (W' ++ [p])).dropLast = W'.map prW from by simp]
  refine hold_go ?_
  walk_at "sl"
  refine ⟨by rw [List.length_map]; omega, ?_⟩
  refine hold_go ?_
  walk_at "sl"
  refine for_un ?_
  walk_at "sl"
  refine last_lo ?_
  walk_at "ev"
  rw [rg3_i (by omega) (by omega) (by omega) (by omega)]
  walk_at "ev"
  have hn : (tk - 1 - (loI p.1 - 1)).toNat = (tk - loI p.1).toNat := by omega
  rw [hn]
  refine for_p (fun k ρ' => ∃ (Kd : List (List Int × List Int)) (z : Option Res), ρ' = [some (.fz (rD r)), some (.fz (.int tk)), some (.ls (fnd.map tI ++ [tI p.1])), some (.ls ((W' ++ Kd).map prW)), some (.fz (tI p.1)), some (.fz (tI p.2)), z] ∧ Kd.reverse.flatMap (nodeL r tk) = subs r k p.1 p.2 (tk - (k : Nat)) ∧ (∀ x ∈ Kd, WOk tk x) ∧ Kd.length ≤ k) ⟨[], z, by simp, by simp [subs], (fun x hx => by cases hx), Nat.le_refl _⟩ (fun k d ρ' hk hI => ?_) (fun ρ' hI => ?_)
  · obtain ⟨Kd, z, rfl, hKd, hKw, hKl⟩ := hI
    obtain ⟨hk1, rfl⟩ := rngC_get hk
    have et : tk - 1 - ((k : Nat) : Int) = tk - ((k + 1 : Nat) : Int) := by omega
    rw [et]
    have hs := subs_step r tk p.1 p.2 k
    have b1 : loI p.1 ≤ tk - ((k + 1 : Nat) : Int) := by omega
    have b2 : tk - ((k + 1 : Nat) : Int) < tk := by omega
    generalize tk - ((k + 1 : Nat) : Int) = t at hs b1 b2 ⊢
    walk_at "sl"
    refine ⟨r, p.2, t, rfl, by omega, fun af => ?_⟩
    walk_at "ev"
    refine ifB_cases (fun h1 => ?_) (fun h1 => ?_)
    · rw [show PyData.tuple [.int t] = tI [t] from rfl, add_tt (by simp; omega)]
      walk_at "ev"
      refine ⟨r, p.2, t, rfl, by omega, fun af => ?_⟩
      walk_at "ev"
      refine ⟨by rw [List.length_map, List.length_append]; omega, ?_⟩
      refine ⟨Kd ++ [(p.1 ++ [t], takeL r p.2 t)], _, by rw [← List.append_assoc, List.map_append (l₂ := [(p.1 ++ [t], takeL r p.2 t)])]; rfl, ?_, fun x hx => ?_, by simp; omega⟩
      · rw [hs, if_pos (show goodB r p.2 t = true from h1), List.reverse_append, List.reverse_singleton, List.singleton_append, List.flatMap_cons, hKd]
      · rcases List.mem_append.mp hx with hx | hx
        · exact hKw x hx
        · rw [List.mem_singleton.mp hx]; exact (hW p (by simp)).kid b1 b2
    · refine ⟨Kd, _, rfl, ?_, hKw, by omega⟩
      rw [hs, if_neg (fun z => by rw [show goodB r p.2 t = decide (0 < leftL r p.2 t) from rfl, h1] at z; cases z), List.nil_append, hKd]
  · obtain ⟨Kd, z, rfl, hKd, hKw, hKl⟩ := hI
    rw [rngC_len] at hKd
    refine ⟨(allL r tk).length - (fnd ++ [p.1]).length, by rw [List.length_append]; simp; omega, fnd ++ [p.1], W' ++ Kd, _, _, _, by rw [List.map_append (l₁ := fnd)]; rfl, ?_, fun x hx => ?_, rfl⟩
    · rw [List.reverse_append, List.flatMap_append, hKd, ← hall, nodeL, List.append_assoc, List.singleton_append]
      rw [show tk - (((tk - loI p.1).toNat : Nat) : Int) = loI p.1 by omega, List.cons_append]
    · rcases List.mem_append.mp hx with hx | hx
      · exact hW x (by simp [hx])
      · exact hKw x hx
theorem ok__law_bag (T : TXT K mg L) (C__law_draws : Cal P w K mg base L 1 "_law_draws" [] 3 (sp_law_draws)) (C__law_cell_at : Cal P w K mg base L 1 "_law_cell_at" [] 2 (sp_law_cell_at)) : Cal P w K mg base L 2 "_law_bag" [] 2 sp_law_bag := by
  have nd : (N__law_bag).Nodup := by decide +kernel
  refine cal_ok (N := N__law_bag) T.f__law_bag sc__law_bag (by decide) fun f cdv A outer s H vs E rs Pd Ed hn hr h => ?_
  obtain ⟨ns, k, rfl, hk, q⟩ := h
  refine ⟨_, (dss_one (ds_ret (List.not_mem_nil) (dr_lst (dd_cons (de_r (dr_c C__law_draws hr (dd_cons (de_r (dr_c C__law_cell_at hr (dd_cons (de_var (pv 0)) (dd_cons (de_var (pv 1)) dd_nil)))) (dd_cons de_int (dd_cons de_int dd_nil))))) (dd_cons de_int dd_nil))))), ?_⟩
  walk_at "st"
  walk_at "dl"
  refine ⟨ns, k, rfl, hk, fun c af => ?_⟩
  walk_at "ev"
  refine ⟨c, rfl, fun ds af h1 h2 => ?_⟩
  walk_at "ev"
  exact q _ _ ⟨ds, 0, rfl, h1, h2, by decide⟩
theorem ok__law_rule (T : TXT K mg L) (C__law_take : Cal P w K mg base L 1 "_law_take" [0] 2 (sp_law_take)) : Cal P w K mg base L 2 "_law_rule" [0] 1 sp_law_rule := by
  have nd : (N__law_rule).Nodup := by decide +kernel
  refine cal_ok (N := N__law_rule) T.f__law_rule sc__law_rule (by decide) fun f cdv A outer s H vs E rs Pd Ed hn hr h => ?_
  have hrF : vs.length ∉ [0] := by rw [hn]; decide
  obtain ⟨b, rfl, hb, q⟩ := h
  refine ⟨_, (dss_cons (ds_set (i := 1) (show 1 ∉ ([0] : List Nat) by decide) nd rfl (Or.inl rfl) (dr_e (de_op oAdd dAdd de_int (de_r (dr_cs (i := 0) C__law_take hr (da_slot (pv 0) (da_cons (de_ix ix_seq dIx (de_r (dr_lst (dd_cons de_int (dd_cons de_int (dd_cons de_int (dd_cons de_int dd_nil)))))) (de_r (dr_cs (i := 0) C__law_take hr (da_slot (pv 0) (da_cons de_int da_nil)))) (fun _ _ => rfl)) da_nil)))))))
        (dss_cons (ds_set (i := 2) (show 2 ∉ ([0] : List Nat) by decide) nd rfl (Or.inl rfl) (dr_e (de_op oAdd dAdd de_int (de_r (dr_cs (i := 0) C__law_take hr (da_slot (pv 0) (da_cons (de_ix ix_seq dIx (de_r (dr_lst (dd_cons de_int (dd_cons de_int (dd_cons de_int dd_nil))))) (de_r (dr_cs (i := 0) C__law_take hr (da_slot (pv 0) (da_cons de_int da_nil)))) (fun _ _ => rfl)) da_nil)))))))
        (dss_one (ds_ret hrF (dr_e (de_tup (dd_cons (de_ix ix_seq dIx (de_r (dr_lst (dd_cons de_str (dd_cons de_str dd_nil)))) (de_r (dr_cs (i := 0) C__law_take hr (da_slot (pv 0) (da_cons de_int da_nil)))) (fun _ _ => rfl)) (dd_cons (de_var (pv 1)) (dd_cons (de_var (pv 2)) dd_nil))))))))), ?_⟩
  walk_at "st"
  walk_at "dl"
  refine ⟨⟨_, rfl⟩, ⟨_, rfl⟩, ?_⟩
  refine ⟨b, 4, rfl, hb, by decide, fun v1 b1 af1 hb1 v10 v11 _ haf => ?_⟩
  walk_at "ev"
  obtain ⟨x, ex, ex'⟩ := ix_l (xs := [.int 3, .int 3, .int 8, .int 20]) v10 (by simpa using v11)
  rw [ex]
  obtain ⟨c, rfl, c1, c2⟩ : ∃ c : Int, x = .int c ∧ 1 ≤ c ∧ c ≤ 20 := by
    have := mem_of_get ex'
    simp only [List.mem_cons, List.not_mem_nil, or_false] at this
    rcases this with rfl | rfl | rfl | rfl <;> exact ⟨_, rfl, by decide, by decide⟩
  clear ex ex'
  simp only [haf, opt_some]
  refine ⟨b1, c, rfl, hb1, c1, fun v2 b2 af2 hb2 v20 v21 _ haf2 => ?_⟩
  walk_at "ev"
  simp only [haf2]
  refine ⟨⟨_, rfl⟩, ⟨_, rfl⟩, ?_⟩
  refine ⟨b2, 3, rfl, hb2, by decide, fun v3 b3 af3 hb3 v30 v31 _ haf3 => ?_⟩
  walk_at "ev"
  obtain ⟨x, ex, ex'⟩ := ix_l (xs := [.int 5, .int 12, .int 1000]) v30 (by simpa using v31)
  rw [ex]
  obtain ⟨p, rfl, p1, p2⟩ : ∃ c : Int, x = .int c ∧ 1 ≤ c ∧ c ≤ 1000 := by
    have := mem_of_get ex'
    simp only [List.mem_cons, List.not_mem_nil, or_false] at this
    rcases this with rfl | rfl | rfl <;> exact ⟨_, rfl, by decide, by decide⟩
  clear ex ex'
  simp only [haf3, opt_some]
  refine ⟨b3, p, rfl, hb3, p1, fun v4 b4 af4 hb4 v40 v41 _ haf4 => ?_⟩
  walk_at "ev"
  simp only [haf4]
  refine ⟨⟨_, rfl⟩, ?_⟩
  refine ⟨b4, 2, rfl, hb4, by decide, fun v5 b5 af5 hb5 v50 v51 _ haf5 => ?_⟩
  walk_at "ev"
  obtain ⟨x, ex, ex'⟩ := ix_l (xs := [.str "line", .str "side"]) v50 (by simpa using v51)
  rw [ex]
  obtain ⟨k, rfl⟩ : ∃ k : Bool, x = kD k := by
    have := mem_of_get ex'
    simp only [List.mem_cons, List.not_mem_nil, or_false] at this
    rcases this with rfl | rfl
    · exact ⟨true, rfl⟩
    · exact ⟨false, rfl⟩
  walk_at "ev"
  refine q ⟨k, 1 + v2, 1 + v4⟩ b5 _ ⟨?_, ?_, ?_, ?_⟩ hb5 ?_
  · show 1 ≤ 1 + v2; omega
  · show 1 + v2 ≤ 20; omega
  · show 1 ≤ 1 + v4; omega
  · show 1 + v4 ≤ 1000; omega
  · show (some (af5 0)).bind (fun o => o) = _
    rw [haf5]; rfl
theorem ok__law_steps (T : TXT K mg L) (C__law_press : Cal P w K mg base L 1 "_law_press" [1] 3 (sp_law_press)) : Cal P w K mg base L 2 "_law_steps" [] 2 sp_law_steps := by
  have nd : (N__law_steps).Nodup := by decide +kernel
  refine cal_ok (N := N__law_steps) T.f__law_steps sc__law_steps (by decide) fun f cdv A outer s H vs E rs Pd Ed hn hr h => ?_
  obtain ⟨r, ns, rfl, ok, hl, hA, h0, q⟩ := h
  refine ⟨_, (dss_cons (ds_par (i := 2) (j := 3) rfl (List.not_mem_nil) (List.not_mem_nil) nd rfl rfl (by decide) rfl rfl (dr_lstN (dn_e (de_ix ix_seq dIx (de_var (pv 0)) de_int (fun _ _ => rfl)) (dn_l (dr_lst dd_nil) (dn_e de_int dn_nil)))) (dr_lst dd_nil))
        (dss_cons (ds_for PassesOwn.never rfl (di_seq (de_var (pv 1))) (dg_name (List.not_mem_nil) (pg_name (i := 4) nd rfl (Or.inl rfl))) (dss_cons (ds_set (i := 5) (List.not_mem_nil) nd rfl (Or.inl rfl) (dr_cs (i := 2) C__law_press hr (da_cons (de_var (pv 0)) (da_slot (pv 2) (da_cons (de_var (pv 4)) da_nil)))))
          (dss_one (ds_expr (dr_app (pv 3) (dd_cons (de_tup (dd_cons (de_var (pv 5)) (dd_cons (de_dp (dv_ix ix_seq dIx (dv_var (pv 2)) dv_int (fun _ _ => rfl))) dd_nil))) dd_nil))))))
        (dss_one (ds_ret (List.not_mem_nil) (dr_mv (pv 3)))))), ?_⟩
  walk_at "st"
  walk_at "sl"
  rw [rix1]
  walk_at "ev"
  refine hold_go ?_
  walk_at "sl"
  refine for_un ?_
  walk_at "sl"
  refine for_p (fun k ρ' => ∃ s x y t0, ρ' = [some (.fz (rD r)), some (.fz (tI ns)), some (.nl s), some (.ls (((stpL r ns).take k).map prS)), x, y] ∧ Rep r (bsL r (ns.take k)) t0 s ∧ ∀ j, k ≤ j → j < ns.length → t0 ≤ at0 ns j) ⟨_, none, none, 0, rfl, rep_new ok, fun j _ hj => h0 _ (at0_mem hj)⟩ (fun k d ρ' hk hI => ?_) (fun ρ' hI => ?_)
  · obtain ⟨s, x, y, t0, rfl, hrep, ht0⟩ := hI
    obtain ⟨t, ht, rfl⟩ := map_get hk
    have hkl := lt_of_get ht
    have et : at0 ns k = t := by unfold at0; rw [ht]; rfl
    have hb := bsL_len r (ns.take k)
    rw [List.length_take] at hb
    have hg := good_avail (t := t) ok (bsL_asc ok (hA.take k))
    have s1 := tk_succ' (f := prS) (stpL_get (r := r) hkl)
    rw [et] at s1
    have s2 := bsL_succ (r := r) ht
    unfold stepP at s2
    have hlen : (((stpL r ns).take k).map prS).length < 100000 := by
      rw [List.length_map, List.length_take, stpL_len]; omega
    have htn : ∀ j, k + 1 ≤ j → j < ns.length → t ≤ at0 ns j := fun j h1 h2 => by rw [← et]; exact hA k j (by omega) h2
    walk_at "sl"
    refine ⟨⟨_, rfl⟩, ?_⟩
    refine ⟨r, _, t0, t, s, rfl, ok, hrep, by rw [← et]; exact ht0 k (Nat.le_refl _) hkl, by omega, fun hav s' af hr' haf => ?_, fun hav s' af hr' haf => ?_⟩
    · rw [← hg] at hav
      rw [if_pos hav] at s2
      rw [← s2] at hr'
      obtain ⟨z1, z2, rfl⟩ := rep_left hr'
      simp only [haf]
      refine hold_go ?_
      walk_at "sl"
      rw [s1, hav]
      exact ⟨hlen, _, _, _, t, rfl, hr', htn⟩
    · rw [← hg] at hav
      rw [if_neg (by rw [hav]; exact Bool.false_ne_true)] at s2
      rw [← s2] at hr'
      obtain ⟨z1, z2, rfl⟩ := rep_left hr'
      simp only [haf]
      refine hold_go ?_
      walk_at "sl"
      rw [s1, hav]
      exact ⟨hlen, _, _, _, t, rfl, hr', htn⟩
  · obtain ⟨s, x, y, t0, rfl, hrep, ht0⟩ := hI
    refine hold_go ?_
    walk_at "sl"
    rw [List.length_map, ← stpL_len r ns, List.take_length]
    exact q _
theorem ok_need_rule (T : TXT K mg L) (C_is_rule : Cal P w K mg base L 2 "is_rule" [] 1 (sp_is_rule)) : Cal P w K mg base L 3 "need_rule" [] 1 sp_need_rule := by
  have nd : (N_need_rule).Nodup := by decide +kernel
  refine cal_ok (N := N_need_rule) T.f_need_rule sc_need_rule (by decide) fun f cdv A outer s H vs E rs Pd Ed hn hr h => ?_
  obtain ⟨r, rfl, ok, q⟩ := h
  refine ⟨_, (dss_one (ds_if (dt_not (dt_val (de_r (dr_c C_is_rule hr (dd_cons (de_var (pv 0)) dd_nil))))) (dss_one ds_never) dss_nil)), ?_⟩
  walk_at "st"
  walk_at "dl"
  refine ⟨_, rfl, lay_rD r, fun af => ?_⟩
  rw [isRuleB_ok ok]
  walk_at "ev"
  exact q _
theorem ok__law_bags (T : TXT K mg L) (C__law_bag : Cal P w K mg base L 2 "_law_bag" [] 2 (sp_law_bag)) : Cal P w K mg base L 3 "_law_bags" [] 2 sp_law_bags := by
  have nd : (N__law_bags).Nodup := by decide +kernel
  refine cal_ok (N := N__law_bags) T.f__law_bags sc__law_bags (by decide) fun f cdv A outer s H vs E rs Pd Ed hn hr h => ?_
  obtain ⟨ns, k, rfl, hl, h0, hk, q⟩ := h
  refine ⟨_, (dss_one (ds_ret (List.not_mem_nil) (dr_lcN (own := [("k", 2)]) (js := [2]) (fun _ h => nomatch h) (by decide) rfl nd (di_rg1 rfl T.b_range (dd_cons (de_callB (call_max2 rfl) cMax2 rfl T.b_max bt_max (dd_cons de_int (dd_cons (de_callB (call_min2 rfl) cMin2 rfl T.b_min bt_min (dd_cons (de_var (pv 1)) (dd_cons (de_callB call_len_seq (cLenS T.own) rfl T.b_len bt_len (dd_cons (de_var (pv 0)) dd_nil)) dd_nil))) dd_nil))) dd_nil)) (blkOk_by (own := [("k", 2)]) (N := N__law_bags) (sc := defScope s__law_bags) (by decide +kernel)) (fun _ _ _ _ _ => (dg_name (List.not_mem_nil) (pg_name (i := 2) nd rfl (Or.inl rfl)))) (fun _ _ _ _ _ => (dr_c C__law_bag hr (dd_cons (de_var (pv 0)) (dd_cons (de_var (pv 2)) dd_nil))))))), ?_⟩
  walk_at "st"
  have e1 : lenS [scrD ns] = some (.int (ns.length : Nat)) := by
    show some (PyData.int ((ns.map PyData.int).length : Nat)) = _
    rw [List.length_map]
  walk_at "dl"
  refine lcN_go (rngD 0 (max 1 (min k (ns.length : Nat))).toNat) [some (.fz (scrD ns)), some (.fz (.int k)), none] (fun i acc ρ' => ρ' = [some (.fz (scrD ns)), some (.fz (.int k)), none] ∧ acc.length = i ∧ ∀ b ∈ acc, IsBag b) (fun R hR => ?_) ⟨rfl, rfl, by simp⟩ (fun i d acc ρ' hi hI => ?_) (fun acc ρ' hI => ?_)
  · walk_at "dl"
    rw [e1]
    walk_at "ev"
    have e2 : rg1D' [.int (max 1 (min k (ns.length : Nat)))] = some (rngD 0 (max 1 (min k (ns.length : Nat))).toNat) := if_pos (by omega)
    rw [e2]
    exact hR
  · obtain ⟨rfl, ha, hb⟩ := hI
    obtain ⟨hi1, rfl⟩ := rngD_get hi
    walk_at "dl"
    refine ⟨ns, _, rfl, by omega, fun b af hbb => ?_⟩
    walk_at "ev"
    refine ⟨by omega, by simp [ha], fun c hc => ?_⟩
    rcases List.mem_append.mp hc with h | h
    · exact hb c h
    · rw [List.mem_singleton.mp h]; exact hbb
  · obtain ⟨rfl, ha, hb⟩ := hI
    exact q acc _ hb
theorem ok__law_used (T : TXT K mg L) (C__law_steps : Cal P w K mg base L 2 "_law_steps" [] 2 (sp_law_steps)) : Cal P w K mg base L 3 "_law_used" [] 2 sp_law_used := by
  have nd : (N__law_used).Nodup := by decide +kernel
  refine cal_ok (N := N__law_used) T.f__law_used sc__law_used (by decide) fun f cdv A outer s H vs E rs Pd Ed hn hr h => ?_
  obtain ⟨r, ns, rfl, ok, hl, hA, h0, q⟩ := h
  refine ⟨_, (dss_one (ds_ret (List.not_mem_nil) (dr_lc (own := [("at", 2), ("step", 3)]) (js := [2, 3]) (fun _ h => nomatch h) (by decide) rfl nd (di_enum rfl T.b_enumerate (dd_cons (de_r (dr_c C__law_steps hr (dd_cons (de_var (pv 0)) (dd_cons (de_var (pv 1)) dd_nil)))) dd_nil)) (blkOk_by (own := [("at", 2), ("step", 3)]) (N := N__law_used) (sc := defScope s__law_used) (by decide +kernel)) (fun _ _ _ _ _ => (dg_tup (n := 2) rfl (dgs_cons (dg_name (List.not_mem_nil) (pg_name (i := 2) nd rfl (Or.inl rfl))) (dgs_cons (dg_name (List.not_mem_nil) (pg_name (i := 3) nd rfl (Or.inl rfl))) dgs_nil)))) (fun _ _ _ _ _ => (dts_one (dt_val (de_ix ix_seq dIx (de_var (pv 3)) de_int (fun _ _ => rfl))))) (fun _ _ _ _ _ => (de_var (pv 2)))))), ?_⟩
  walk_at "st"
  walk_at "sl"
  refine lc_un ?_
  walk_at "sl"
  refine ⟨r, ns, rfl, ok, hl, hA, h0, fun af => ?_⟩
  walk_at "ev"
  refine lc_pf [some (.fz (rD r)), some (.fz (tI ns)), none, none] stGood stAt rfl ?_ (fun k d A B hk hA hB => ?_) ?_
  · rw [enumD_len, List.length_map, stpL_len]; omega
  · obtain ⟨x, hx, rfl⟩ := enumD_get hk
    obtain ⟨p, hp, rfl⟩ := map_get hx
    walk_at "sl"
    rw [show ixD (prS p) (.int 0) = some (.bool p.1) from rfl]
    walk_at "ev"
    refine ifB_cases (fun h1 => ?_) (fun h1 => ?_)
    · exact hA h1 _ rfl
    · exact hB h1 _ rfl
  · rw [use_of_stp]
    exact q _
theorem ok_count_rows (T : TXT K mg L) (C_need_rule : Cal P w K mg base L 3 "need_rule" [] 1 (sp_need_rule)) (C_need_time : Cal P w K mg base L 2 "need_time" [] 3 (sp_need_time)) (C_all_rows : Cal P w K mg base L 2 "all_rows" [] 2 (sp_all_rows)) : Cal P w K mg base L 4 "count_rows" [] 2 sp_count_rows := by
  have nd : (N_count_rows).Nodup := by decide +kernel
  refine cal_ok (N := N_count_rows) T.f_count_rows sc_count_rows (by decide) fun f cdv A outer s H vs E rs Pd Ed hn hr h => ?_
  obtain ⟨r, tk, rfl, ok, t0, t1, q⟩ := h
  refine ⟨_, (dss_cons (ds_expr (dr_c C_need_rule hr (dd_cons (de_var (pv 0)) dd_nil)))
        (dss_cons (ds_expr (dr_c C_need_time hr (dd_cons (de_var (pv 1)) (dd_cons de_int (dd_cons de_int dd_nil)))))
        (dss_one (ds_ret (List.not_mem_nil) (dr_e (de_callB call_len_seq cLen rfl T.b_len bt_len (dd_cons (de_r (dr_c C_all_rows hr (dd_cons (de_var (pv 0)) (dd_cons (de_var (pv 1)) dd_nil)))) dd_nil))))))), ?_⟩
  walk_at "st"
  walk_at "sl"
  refine ⟨r, rfl, ok, fun af => ?_⟩
  refine hold_go ?_
  walk_at "sl"
  refine ⟨tk, _, _, rfl, t0, t1, fun af => ?_⟩
  refine hold_go ?_
  walk_at "sl"
  refine ⟨r, tk, rfl, ok, t0, t1, fun af => ?_⟩
  walk_at "ev"
  rw [List.length_map]
  exact q _
theorem ok_row_at (T : TXT K mg L) (C_need_rule : Cal P w K mg base L 3 "need_rule" [] 1 (sp_need_rule)) (C_need_time : Cal P w K mg base L 2 "need_time" [] 3 (sp_need_time)) (C_all_rows : Cal P w K mg base L 2 "all_rows" [] 2 (sp_all_rows)) : Cal P w K mg base L 4 "row_at" [] 3 sp_row_at := by
  have nd : (N_row_at).Nodup := by decide +kernel
  refine cal_ok (N := N_row_at) T.f_row_at sc_row_at (by decide) fun f cdv A outer s H vs E rs Pd Ed hn hr h => ?_
  obtain ⟨r, tk, k, row, rfl, ok, t0, t1, hk, q⟩ := h
  refine ⟨_, (dss_cons (ds_expr (dr_c C_need_rule hr (dd_cons (de_var (pv 0)) dd_nil)))
        (dss_cons (ds_expr (dr_c C_need_time hr (dd_cons (de_var (pv 1)) (dd_cons de_int (dd_cons de_int dd_nil)))))
        (dss_cons (ds_frz 3 (ds_set (i := 3) (List.not_mem_nil) nd rfl (Or.inl rfl) (dr_c C_all_rows hr (dd_cons (de_var (pv 0)) (dd_cons (de_var (pv 1)) dd_nil)))))
        (dss_cons (ds_if (dt_w (dw_or (dt_not (dt_val (de_callB call_isi (cIsi T.L.t_int kit_int) rfl T.b_isinstance bt_isinstance (dd_cons (de_var (pv 2)) (dd_cons (de_ty (pe_bltn rfl T.b_int bt_int rfl) T.L.t_int) dd_nil))))) (dw_or (dt_val (de_callB call_isi (cIsi T.L.t_bool kit_bool) rfl T.b_isinstance bt_isinstance (dd_cons (de_var (pv 2)) (dd_cons (de_ty (pe_bltn rfl T.b_bool bt_bool rfl) T.L.t_bool) dd_nil)))) (dw_or1 (dt_not (dt_chain op_le dCmp op_lt dCmp de_int (de_var (pv 2)) (de_callB call_len_seq cLen rfl T.b_len bt_len (dd_cons (de_var (pv 3)) dd_nil)))))))) (dss_one ds_never) dss_nil)
        (dss_one (ds_ret (List.not_mem_nil) (dr_e (de_ix ix_seq dIx (de_var (pv 3)) (de_var (pv 2)) (fun _ _ => rfl))))))))), ?_⟩
  have hal := allL_len (r := r) t1
  have hkl := lt_of_get hk
  walk_at "st"
  walk_at "sl"
  refine ⟨r, rfl, ok, fun af => ?_⟩
  refine hold_go ?_
  walk_at "sl"
  refine ⟨tk, _, _, rfl, t0, t1, fun af => ?_⟩
  refine hold_go ?_
  walk_at "sl"
  refine ⟨r, tk, rfl, ok, t0, t1, fun af => ?_⟩
  refine hold_go ?_
  walk_at "sl"
  rw [List.length_map, decide_eq_true (by omega : (0 : Int) ≤ ((k : Nat) : Int)), decide_eq_true (by omega)]
  walk_at "ev"
  refine hold_go ?_
  walk_at "sl"
  obtain ⟨x, ex, hx⟩ := ix_l (xs := (allL r tk).map tI) (i := ((k : Nat) : Int)) (by omega) (by rw [List.length_map]; omega)
  rw [ex]
  rw [show (((k : Nat) : Int)).toNat = k by omega, List.getElem?_map, hk] at hx
  cases hx
  exact q _
theorem ok__law_error (T : TXT K mg L) {S : Str → List PyData → Str → Prop} (HS : HeldE P w K mg base L 5 3 S) (HE : ∀ nm ds en, S nm ds en → ErrF K mg en) (HN : ∀ nm ds en, S nm ds en → en ∈ errN) : Cal P w K mg base L 6 "_law_error" [] 4 (sp_law_error S) := by
  have nd : (N__law_error).Nodup := by decide +kernel
  obtain ⟨C0, hC0⟩ := T.c_ChargeError
  refine cal_ok (N := N__law_error) T.f__law_error sc__law_error (by decide) fun f cdv A outer s H vs E rs Pd Ed hn hr h => ?_
  refine ⟨_, (dss_cons (ds_frz 4 (ds_set (i := 4) (List.not_mem_nil) nd rfl (Or.inl rfl) (dr_lst dd_nil)))
        (dss_cons (ds_try (i := 5) (j := 0) rfl rfl nd rfl rfl rfl hC0 rfl hr HS (fun nm ds en z => HE nm ds en z) rfl (Or.inl rfl) (by decide) (by decide) (fun _ _ => (dd_cons (de_var (pv 1)) (dd_cons (de_var (pv 2)) (dd_cons (de_var (pv 3)) dd_nil)))) (fun a oe cls pn en hz hd hcl hEr => (dss_cons (ds_frz 6 (ds_set (i := 6) (List.not_mem_nil) nd rfl (Or.inl rfl) (dr_lst (dd_cons (de_tup (dd_cons de_str (dd_cons (de_isY (i := 5) hz hd hcl hEr T.b_isinstance (by decide +kernel)) dd_nil))) (dd_cons (de_tup (dd_cons de_str (dd_cons (de_isY (i := 5) hz hd hcl hEr T.b_isinstance (by decide +kernel)) dd_nil))) dd_nil)))))
          (dss_cons (ds_set (i := 6) (List.not_mem_nil) nd rfl (Or.inl rfl) (dr_e (de_op oAdd dAdd (de_var (pv 6)) (de_r (dr_lst (dd_cons (de_tup (dd_cons de_str (dd_cons (de_isY (i := 5) hz hd hcl hEr T.b_isinstance (by decide +kernel)) dd_nil))) dd_nil))))))
          (dss_cons (ds_set (i := 6) (List.not_mem_nil) nd rfl (Or.inl rfl) (dr_e (de_op oAdd dAdd (de_var (pv 6)) (de_r (dr_lst (dd_cons (de_tup (dd_cons de_str (dd_cons (de_isY (i := 5) hz hd hcl hEr T.b_isinstance (by decide +kernel)) dd_nil))) dd_nil))))))
          (dss_cons (ds_set (i := 6) (List.not_mem_nil) nd rfl (Or.inl rfl) (dr_e (de_op oAdd dAdd (de_var (pv 6)) (de_r (dr_lst (dd_cons (de_tup (dd_cons de_str (dd_cons (de_isY (i := 5) hz hd hcl hEr T.b_isinstance (by decide +kernel)) dd_nil))) dd_nil))))))
          (dss_cons (ds_set (i := 6) (List.not_mem_nil) nd rfl (Or.inl rfl) (dr_e (de_op oAdd dAdd (de_var (pv 6)) (de_r (dr_lst (dd_cons (de_tup (dd_cons de_str (dd_cons (de_isY (i := 5) hz hd hcl hEr T.b_isinstance (by decide +kernel)) dd_nil))) dd_nil))))))
          (dss_cons (ds_set (i := 6) (List.not_mem_nil) nd rfl (Or.inl rfl) (dr_e (de_op oAdd dAdd (de_var (pv 6)) (de_r (dr_lst (dd_cons (de_tup (dd_cons de_str (dd_cons (de_isY (i := 5) hz hd hcl hEr T.b_isinstance (by decide +kernel)) dd_nil))) (dd_cons (de_tup (dd_cons de_str (dd_cons (de_isY (i := 5) hz hd hcl hEr T.b_isinstance (by decide +kernel)) dd_nil))) dd_nil)))))))
          (dss_one (ds_set (i := 4) (List.not_mem_nil) nd rfl (Or.inl rfl) (dr_e (de_op oAdd dAdd (de_r (dr_lcH (own := [("name", 7), ("there", 8)]) (js := [7, 8]) (fun _ h => nomatch h) (by decide) (hotS hz hd) List.mem_cons_self nd (dih_seq (de_var (pv 6))) (blkOk_by (own := [("name", 7), ("there", 8)]) (N := N__law_error) (sc := defScope s__law_error) (by decide +kernel)) (fun _ _ _ _ _ => (dg_tupH (n := 2) (blkH_hot (hotS hz hd)) (dgs_cons (dg_name (List.not_mem_nil) (pg_name (i := 7) nd rfl (Or.inl rfl))) (dgs_cons (dg_name (List.not_mem_nil) (pg_name (i := 8) nd rfl (Or.inl rfl))) dgs_nil)))) (fun _ _ _ _ _ => (dts_one (dt_val (de_var (pv 8))))) (fun _ _ _ _ _ => (de_var (pv 7))))) (de_r (dr_lst (dd_cons (de_isV (i := 5) hz hd hcl hEr T.b_isinstance T.b_ValueError) dd_nil)))))))))))))))
        (dss_one (ds_ret (List.not_mem_nil) (dr_e (de_var (pv 4))))))), ?_⟩
  obtain ⟨nm, d1, d2, d3, en, rfl, hS, q⟩ := h
  have hen := HN _ _ _ hS
  walk_at "st"
  walk_at "sl"
  refine ⟨nm, rfl, ⟨_, _, hS⟩, ?_⟩
  walk_at "sl"
  refine ⟨en, hS, fun a => ?_⟩
  repeat (simp only [tIsE]; walk_at "sl")
  iterate 5 (refine hold_go ?_; walk_at "sl"; repeat (simp only [tIsE]; walk_at "sl"); rw [add_Ll (by simp)]; walk_at "ev")
  refine hold_go ?_
  walk_at "sl"
  refine lc_un ?_
  simp only [tSeqL]
  walk_at "sl"
  refine lc_pf (ds := errRows en) _ (errP en) errG rfl (show (errN.map _).length ≤ 100000 by rw [List.length_map]; decide) (fun k d A B hk ha hb => ?_) ?_
  · obtain ⟨y, hy, rfl⟩ := map_get hk
    have hp : errP en (.tuple [.str y, .bool (decide (y = en))]) = decide (y = en) := rfl
    walk_at "sl"
    generalize decide (y = en) = bb at hp ha hb ⊢
    cases bb with
    | true => exact ha hp _ rfl
    | false => exact hb hp _ rfl
  rw [errRows_fil hen]
  walk_at "ev"
  repeat (simp only [tIsE]; walk_at "sl")
  rw [add_Ll (by simp)]
  walk_at "ev"
  exact q _
theorem ok__law_errorL (T : TXT K mg L) {q : Str} {params : Arguments} {body : Expr} {scope : Scope} {S : List PyData → Str → Prop} (HL : LamOk P w K mg base L 5 q params body scope 3 S) (HE : ∀ ds en, S ds en → ErrF K mg en) (HN : ∀ ds en, S ds en → en ∈ errN) : Cal P w K mg base L 6 "_law_error" [] 4 (sp_law_errorL q params body scope S) := by
  have nd : (N__law_error).Nodup := by decide +kernel
  obtain ⟨C0, hC0⟩ := T.c_ChargeError
  refine cal_ok (N := N__law_error) T.f__law_error sc__law_error (by decide) fun f cdv A outer s H vs E rs Pd Ed hn hr h => ?_
  refine ⟨_, (dss_cons (ds_frz 4 (ds_set (i := 4) (List.not_mem_nil) nd rfl (Or.inl rfl) (dr_lst dd_nil)))
        (dss_cons (ds_tryL (i := 5) (j := 0) rfl rfl nd rfl rfl rfl hC0 rfl hr HL HE rfl (Or.inl rfl) (by decide) (by decide) (fun _ _ => (dd_cons (de_var (pv 1)) (dd_cons (de_var (pv 2)) (dd_cons (de_var (pv 3)) dd_nil)))) (fun a oe cls pn en hz hd hcl hEr => (dss_cons (ds_frz 6 (ds_set (i := 6) (List.not_mem_nil) nd rfl (Or.inl rfl) (dr_lst (dd_cons (de_tup (dd_cons de_str (dd_cons (de_isY (i := 5) hz hd hcl hEr T.b_isinstance (by decide +kernel)) dd_nil))) (dd_cons (de_tup (dd_cons de_str (dd_cons (de_isY (i := 5) hz hd hcl hEr T.b_isinstance (by decide +kernel)) dd_nil))) dd_nil)))))
          (dss_cons (ds_set (i := 6) (List.not_mem_nil) nd rfl (Or.inl rfl) (dr_e (de_op oAdd dAdd (de_var (pv 6)) (de_r (dr_lst (dd_cons (de_tup (dd_cons de_str (dd_cons (de_isY (i := 5) hz hd hcl hEr T.b_isinstance (by decide +kernel)) dd_nil))) dd_nil))))))
          (dss_cons (ds_set (i := 6) (List.not_mem_nil) nd rfl (Or.inl rfl) (dr_e (de_op oAdd dAdd (de_var (pv 6)) (de_r (dr_lst (dd_cons (de_tup (dd_cons de_str (dd_cons (de_isY (i := 5) hz hd hcl hEr T.b_isinstance (by decide +kernel)) dd_nil))) dd_nil))))))
          (dss_cons (ds_set (i := 6) (List.not_mem_nil) nd rfl (Or.inl rfl) (dr_e (de_op oAdd dAdd (de_var (pv 6)) (de_r (dr_lst (dd_cons (de_tup (dd_cons de_str (dd_cons (de_isY (i := 5) hz hd hcl hEr T.b_isinstance (by decide +kernel)) dd_nil))) dd_nil))))))
          (dss_cons (ds_set (i := 6) (List.not_mem_nil) nd rfl (Or.inl rfl) (dr_e (de_op oAdd dAdd (de_var (pv 6)) (de_r (dr_lst (dd_cons (de_tup (dd_cons de_str (dd_cons (de_isY (i := 5) hz hd hcl hEr T.b_isinstance (by decide +kernel)) dd_nil))) dd_nil))))))
          (dss_cons (ds_set (i := 6) (List.not_mem_nil) nd rfl (Or.inl rfl) (dr_e (de_op oAdd dAdd (de_var (pv 6)) (de_r (dr_lst (dd_cons (de_tup (dd_cons de_str (dd_cons (de_isY (i := 5) hz hd hcl hEr T.b_isinstance (by decide +kernel)) dd_nil))) (dd_cons (de_tup (dd_cons de_str (dd_cons (de_isY (i := 5) hz hd hcl hEr T.b_isinstance (by decide +kernel)) dd_nil))) dd_nil)))))))
          (dss_one (ds_set (i := 4) (List.not_mem_nil) nd rfl (Or.inl rfl) (dr_e (de_op oAdd dAdd (de_r (dr_lcH (own := [("name", 7), ("there", 8)]) (js := [7, 8]) (fun _ h => nomatch h) (by decide) (hotS hz hd) List.mem_cons_self nd (dih_seq (de_var (pv 6))) (blkOk_by (own := [("name", 7), ("there", 8)]) (N := N__law_error) (sc := defScope s__law_error) (by decide +kernel)) (fun _ _ _ _ _ => (dg_tupH (n := 2) (blkH_hot (hotS hz hd)) (dgs_cons (dg_name (List.not_mem_nil) (pg_name (i := 7) nd rfl (Or.inl rfl))) (dgs_cons (dg_name (List.not_mem_nil) (pg_name (i := 8) nd rfl (Or.inl rfl))) dgs_nil)))) (fun _ _ _ _ _ => (dts_one (dt_val (de_var (pv 8))))) (fun _ _ _ _ _ => (de_var (pv 7))))) (de_r (dr_lst (dd_cons (de_isV (i := 5) hz hd hcl hEr T.b_isinstance T.b_ValueError) dd_nil)))))))))))))))
        (dss_one (ds_ret (List.not_mem_nil) (dr_e (de_var (pv 4))))))), ?_⟩
  obtain ⟨d1, d2, d3, en, rfl, hS, q⟩ := h
  have hen := HN _ _ hS
  walk_at "st"
  walk_at "sl"
  refine ⟨rfl, ?_⟩
  walk_at "sl"
  refine ⟨en, hS, fun a => ?_⟩
  repeat (simp only [tIsE]; walk_at "sl")
  iterate 5 (refine hold_go ?_; walk_at "sl"; repeat (simp only [tIsE]; walk_at "sl"); rw [add_Ll (by simp)]; walk_at "ev")
  refine hold_go ?_
  walk_at "sl"
  refine lc_un ?_
  simp only [tSeqL]
  walk_at "sl"
  refine lc_pf (ds := errRows en) _ (errP en) errG rfl (show (errN.map _).length ≤ 100000 by rw [List.length_map]; decide) (fun k d A B hk ha hb => ?_) ?_
  · obtain ⟨y, hy, rfl⟩ := map_get hk
    have hp : errP en (.tuple [.str y, .bool (decide (y = en))]) = decide (y = en) := rfl
    walk_at "sl"
    generalize decide (y = en) = bb at hp ha hb ⊢
    cases bb with
    | true => exact ha hp _ rfl
    | false => exact hb hp _ rfl
  rw [errRows_fil hen]
  walk_at "ev"
  repeat (simp only [tIsE]; walk_at "sl")
  rw [add_Ll (by simp)]
  walk_at "ev"
  exact q _
def lamQ : Str := (envOfC "law" (defScope s_law) 0 0 .none).qual ++ "<lambda>"
theorem ok_law {f : Addr} {fd : FuncData} {c0 P0 : Addr} (F : FunC K "law" s_law f fd (.ref c0)) (TB : LamX.TabB base mg c0 P0) (T : TXT K mg L) (C__law_bags : Cal P w K mg base L 3 "_law_bags" [] 2 (sp_law_bags)) (C__law_rule : Cal P w K mg base L 2 "_law_rule" [0] 1 (sp_law_rule)) (C__law_take : Cal P w K mg base L 1 "_law_take" [0] 2 (sp_law_take)) (C__law_times : Cal P w K mg base L 1 "_law_times" [] 1 (sp_law_times11)) (C__law_used : Cal P w K mg base L 3 "_law_used" [] 2 (sp_law_used)) (C_count_rows : Cal P w K mg base L 4 "count_rows" [] 2 (sp_count_rows)) (C_row_at : Cal P w K mg base L 4 "row_at" [] 3 (sp_row_at)) (C__law_error : Cal P w K mg base L 6 "_law_error" [] 4 (sp_law_error sErr_k11)) (C__law_errorL_count_rows : ∀ (q : Str) (p1 p2 p3 q0 q1 q2 q3 : Pos), Cal P w K mg base L 6 "_law_error" [] 4 (sp_law_errorL q (lamPar p1 p2 p3) (lamB2 "count_rows" q0 q1 q2 q3) (lamSc "count_rows") (fun ds en => spe_count_rows (ds.take 2) en))) : FnOk P w K mg base CX0 7 f fd ["script"] (toSp L [] 1 (sp_lawT P0 lamQ)) := by
  have nd : (N_law).Nodup := by decide +kernel
  refine dfn_okC F sc_law fun A outer s H vs E rs Pd Ed hn hr h => ?_
  obtain ⟨ns, rfl, hl, q⟩ := h
  refine ⟨_, (dss_cons (ds_forN (i := 1) (List.not_mem_nil) PassesOwn.never rfl (dr_c C__law_bags hr (dd_cons (de_scr (pv 0)) (dd_cons de_int dd_nil))) (pg_name (i := 1) nd rfl (Or.inl rfl)) (dss_cons (ds_frz 2 (ds_set (i := 2) (List.not_mem_nil) nd rfl (Or.inr rfl) (dr_cs (i := 1) C__law_rule hr (da_slot (pv 1) da_nil))))
          (dss_cons (ds_set (i := 2) (List.not_mem_nil) nd rfl (Or.inr rfl) (dr_e (de_tup (dd_cons (de_ix ix_seq dIx (de_var (pv 2)) de_int (fun _ _ => rfl)) (dd_cons (de_ix ix_seq dIx (de_var (pv 2)) de_int (fun _ _ => rfl)) (dd_cons (de_op oAdd dAdd de_int (de_op op_mod dMod (de_ix ix_seq dIx (de_var (pv 2)) de_int (fun _ _ => rfl)) de_int)) dd_nil))))))
          (dss_cons (ds_frz 3 (ds_set (i := 3) (List.not_mem_nil) nd rfl (Or.inr rfl) (dr_cs (i := 1) C__law_take hr (da_slot (pv 1) (da_cons de_int da_nil)))))
          (dss_cons (ds_frz 4 (ds_set (i := 4) (List.not_mem_nil) nd rfl (Or.inr rfl) (dr_lc (own := [("row", 7)]) (js := [7]) (fun _ h => nomatch h) (by decide) rfl nd (di_seq (de_r (dr_c C__law_times hr (dd_cons (de_var (pv 3)) dd_nil)))) (blkOk_by (own := [("row", 7)]) (N := N_law) (sc := defScope s_law) (by decide +kernel)) (fun _ _ _ _ _ => (dg_name (List.not_mem_nil) (pg_name (i := 7) nd rfl (Or.inl rfl)))) (fun _ _ _ _ _ => (dts_one (dt_cmp (op_eqD hr.units) dEq (de_callB call_len_seq cLen rfl T.b_len bt_len (dd_cons (de_r (dr_c C__law_used hr (dd_cons (de_var (pv 2)) (dd_cons (de_var (pv 7)) dd_nil)))) dd_nil)) (de_callB call_len_seq cLen rfl T.b_len bt_len (dd_cons (de_var (pv 7)) dd_nil)) (nomark _)))) (fun _ _ _ _ _ => (de_var (pv 7))))))
          (dss_cons (ds_if (dt_cmp (op_neD hr.units) dNe (de_r (dr_c C_count_rows hr (dd_cons (de_var (pv 2)) (dd_cons (de_var (pv 3)) dd_nil)))) (de_callB call_len_seq cLen rfl T.b_len bt_len (dd_cons (de_var (pv 4)) dd_nil)) (nomark _)) (dss_one (ds_ret (List.not_mem_nil) (dr_e de_bl))) dss_nil)
          (dss_cons (ds_frz 5 (ds_set (i := 5) (List.not_mem_nil) nd rfl (Or.inl rfl) (dr_e (de_sortSet rfl (room64 (room65 hr)) rfl rfl T.b_sorted T.b_set (dd_cons (de_r (dr_lst (dd_cons de_int (dd_cons (de_op op_sub dSub (de_callB call_len_seq cLen rfl T.b_len bt_len (dd_cons (de_var (pv 4)) dd_nil)) de_int) (dd_cons (de_op op_fdiv dFdiv (de_callB call_len_seq cLen rfl T.b_len bt_len (dd_cons (de_var (pv 4)) dd_nil)) de_int) (dd_cons (de_r (dr_cs (i := 1) C__law_take hr (da_slot (pv 1) (da_cons (de_callB call_len_seq cLen rfl T.b_len bt_len (dd_cons (de_var (pv 4)) dd_nil)) da_nil)))) (dd_cons (de_r (dr_cs (i := 1) C__law_take hr (da_slot (pv 1) (da_cons (de_callB call_len_seq cLen rfl T.b_len bt_len (dd_cons (de_var (pv 4)) dd_nil)) da_nil)))) dd_nil))))))) dd_nil)))))
          (dss_cons (ds_if (dt_cmp (op_neD hr.units) dNe (de_r (dr_lc (own := [("number", 8)]) (js := [8]) (fun _ h => nomatch h) (by decide) rfl nd (di_seq (de_var (pv 5))) (blkOk_by (own := [("number", 8)]) (N := N_law) (sc := defScope s_law) (by decide +kernel)) (fun _ _ _ _ _ => (dg_name (List.not_mem_nil) (pg_name (i := 8) nd rfl (Or.inl rfl)))) (fun _ _ _ _ _ => dts_nil) (fun _ _ _ _ _ => (de_r (dr_c C_row_at hr (dd_cons (de_var (pv 2)) (dd_cons (de_var (pv 3)) (dd_cons (de_var (pv 8)) dd_nil)))))))) (de_r (dr_lc (own := [("number", 8)]) (js := [8]) (fun _ h => nomatch h) (by decide) rfl nd (di_seq (de_var (pv 5))) (blkOk_by (own := [("number", 8)]) (N := N_law) (sc := defScope s_law) (by decide +kernel)) (fun _ _ _ _ _ => (dg_name (List.not_mem_nil) (pg_name (i := 8) nd rfl (Or.inl rfl)))) (fun _ _ _ _ _ => dts_nil) (fun _ _ _ _ _ => (de_ix ix_seq dIx (de_var (pv 4)) (de_var (pv 8)) (fun _ _ => rfl))))) (nomark _)) (dss_one (ds_ret (List.not_mem_nil) (dr_e de_bl))) dss_nil)
          (dss_cons (ds_for PassesOwn.never rfl (di_seq (de_tup (dd_cons (de_neg de_int) (dd_cons (de_callB call_len_seq cLen rfl T.b_len bt_len (dd_cons (de_var (pv 4)) dd_nil)) (dd_cons de_non (dd_cons de_bl (dd_cons de_str dd_nil))))))) (dg_name (List.not_mem_nil) (pg_name (i := 6) nd rfl (Or.inl rfl))) (dss_one (ds_if (dt_cmp (op_neD hr.units) dNe (de_r (dr_c C__law_error hr (dd_cons (de_fn T.fn_row_at) (dd_cons (de_var (pv 2)) (dd_cons (de_var (pv 3)) (dd_cons (de_var (pv 6)) dd_nil)))))) (de_r (dr_lst (dd_cons de_str (dd_cons de_bl dd_nil)))) (nomark _)) (dss_one (ds_ret (List.not_mem_nil) (dr_e de_bl))) dss_nil)))
          (dss_one (ds_for PassesOwn.never rfl (di_seq (de_tup (dd_cons (de_neg de_int) (dd_cons de_int (dd_cons de_non (dd_cons de_bl (dd_cons de_str dd_nil))))))) (dg_name (List.not_mem_nil) (pg_name (i := 6) nd rfl (Or.inl rfl))) (dss_cons (ds_if (dt_cmp (op_neD hr.units) dNe (de_r (dr_c C__law_error hr (dd_cons (de_fn T.fn_row_at) (dd_cons (de_var (pv 2)) (dd_cons (de_var (pv 6)) (dd_cons de_non dd_nil)))))) (de_r (dr_lst (dd_cons de_str (dd_cons de_bl dd_nil)))) (nomark _)) (dss_one (ds_ret (List.not_mem_nil) (dr_e de_bl))) dss_nil)
            (dss_one (ds_if (dt_cmp (op_neD hr.units) dNe (de_r (dr_callLE (C__law_errorL_count_rows _ _ _ _ _ _ _ _) hr (dr_lambda (i := 0) TB rfl rfl) (dd_cons (de_var (pv 2)) (dd_cons (de_var (pv 6)) (dd_cons de_int dd_nil))))) (de_r (dr_lst (dd_cons de_str (dd_cons de_bl dd_nil)))) (nomark _)) (dss_one (ds_ret (List.not_mem_nil) (dr_e de_bl))) dss_nil))))))))))))))
        (dss_cons (ds_if (dt_w (dw_or (dt_cmp (op_neD hr.units) dNe (de_r (dr_c C_count_rows hr (dd_cons (de_tup (dd_cons de_str (dd_cons de_int (dd_cons de_int dd_nil)))) (dd_cons de_int dd_nil)))) de_int (nomark _)) (dw_or1 (dt_cmp (op_neD hr.units) dNe (de_r (dr_c C_count_rows hr (dd_cons (de_tup (dd_cons de_str (dd_cons de_int (dd_cons de_int dd_nil)))) (dd_cons de_int dd_nil)))) de_int (nomark _))))) (dss_one (ds_ret (List.not_mem_nil) (dr_e de_bl))) dss_nil)
        (dss_cons (ds_if (dt_w (dw_or (dt_cmp (op_neD hr.units) dNe (de_r (dr_c C_count_rows hr (dd_cons (de_tup (dd_cons de_str (dd_cons de_int (dd_cons de_int dd_nil)))) (dd_cons de_int dd_nil)))) de_int (nomark _)) (dw_or1 (dt_cmp (op_neD hr.units) dNe (de_r (dr_c C_row_at hr (dd_cons (de_tup (dd_cons de_str (dd_cons de_int (dd_cons de_int dd_nil)))) (dd_cons de_int (dd_cons de_int dd_nil))))) (de_tup (dd_cons de_int (dd_cons de_int dd_nil))) (nomark _))))) (dss_one (ds_ret (List.not_mem_nil) (dr_e de_bl))) dss_nil)
        (dss_one (ds_ret (List.not_mem_nil) (dr_e (de_cmp (op_eqD hr.units) dEq (de_r (dr_c C_row_at hr (dd_cons (de_tup (dd_cons de_str (dd_cons de_int (dd_cons de_int dd_nil)))) (dd_cons de_int (dd_cons de_int dd_nil))))) (de_tup dd_nil) (nomark _)))))))), ?_⟩
  walk_at "st"
  refine forN_un ?_
  walk_at "sl"
  refine ⟨_, _, _, rfl, ?_⟩
  refine ⟨ns, 4, rfl, hl, by decide, by decide, fun bs af hbs => ?_⟩
  generalize hTT : Res.ext (tabA P0 lamQ (.dict [(.str "script", .list (ns.map .int))])) = TT
  refine forN_p (fun ρ' => ∃ a b c d e f, ρ' = [some TT, a, b, c, d, e, f, none, none]) ⟨_, _, _, _, _, _, rfl⟩ hbs (fun D' b ρ' hnx _ hb hI => ?_) (fun ρ' hI => ?_)
  · obtain ⟨x1, x2, x3, x4, x5, x6, rfl⟩ := hI
    walk_at "sl"
    refine ⟨⟨_, rfl⟩, ?_⟩
    refine ⟨b, rfl, hb, fun r0 b1 af1 ok0 hb1 haf1 => ?_⟩
    simp only [haf1]
    refine hold_go ?_
    walk_at "sl"
    rw [rix0, rix1, rix2]
    walk_at "ev"
    rw [mod_i (by decide)]
    walk_at "ev"
    have m0 : 0 ≤ r0.p % 7 ∧ r0.p % 7 < 7 := ⟨Int.emod_nonneg _ (by decide), Int.emod_lt_of_pos _ (by decide)⟩
    have ok : RlOk ⟨r0.ln, r0.c, 1 + r0.p % 7⟩ := ⟨ok0.c1, ok0.c2, by show 1 ≤ 1 + r0.p % 7; omega, by show 1 + r0.p % 7 ≤ 1000; omega⟩
    rw [show PyData.tuple [kD r0.ln, .int r0.c, .int (1 + r0.p % 7)] = rD ⟨r0.ln, r0.c, 1 + r0.p % 7⟩ from rfl]
    generalize (⟨r0.ln, r0.c, 1 + r0.p % 7⟩ : Rl) = r at ok
    refine hold_go ?_
    walk_at "sl"
    refine ⟨⟨_, rfl⟩, ?_⟩
    refine ⟨b1, 10, rfl, hb1, by decide, fun tk b2 af2 hb2 t0 t1 _ haf2 => ?_⟩
    simp only [haf2]
    obtain ⟨n, rfl⟩ := Int.eq_ofNat_of_zero_le t0
    refine hold_go ?_
    walk_at "sl"
    refine lc_un ?_
    walk_at "sl"
    refine ⟨n, rfl, by omega, fun af => ?_⟩
    walk_at "ev"
    refine lc_pf _ (okRD r) (fun d => d) rfl (by rw [List.length_map, (srtL_perm _).length_eq, subF_len]; exact Nat.le_trans (Nat.pow_le_pow_right (by decide) (show n ≤ 9 by omega)) (by decide)) (fun k d A B hk hA hB => ?_) ?_
    · obtain ⟨m, hm, rfl⟩ := map_get hk
      have hsa := (subF_mem n m).mp ((srtL_perm _).mem_iff.mp (mem_of_get hm))
      have rk := SA_row hsa (by omega) (by omega)
      have rl := rk.len
      walk_at "sl"
      refine ⟨r, m, rfl, ok, by omega, rk.asc.p, fun x hx => (rk.rng x hx).1, fun af => ?_⟩
      walk_at "ev"
      rw [List.length_map, List.length_map]
      have e := okRD_t r m
      unfold okR at e
      refine ifB_cases (fun h1 => ?_) (fun h1 => ?_)
      · exact hA (by rw [e]; have := of_decide_eq_true h1; exact decide_eq_true (by omega)) _ rfl
      · exact hB (by rw [e]; have := of_decide_eq_false h1; exact decide_eq_false (by omega)) _ rfl
    rw [filt_rows, due_eq ok n]
    walk_at "ev"
    refine hold_go ?_
    walk_at "sl"
    refine ⟨r, n, rfl, ok, by omega, by omega, fun af => ?_⟩
    walk_at "ev"
    rw [List.length_map]
    rw [decide_eq_true rfl]
    walk_at "ev"
    have n1 : 1 ≤ (allL r n).length := by rw [allL_eq r (by omega), List.length_cons]; omega
    refine hold_go ?_
    walk_at "sl"
    rw [List.length_map, fdiv_i (by decide) (by decide)]
    walk_at "ev"
    refine ⟨⟨_, rfl⟩, ?_⟩
    refine ⟨b2, ((allL r n).length : Nat), rfl, hb2, by omega, fun v b3 af3 hb3 v0 v1 _ haf3 => ?_⟩
    walk_at "ev"
    simp only [haf3]
    refine ⟨⟨_, rfl⟩, ?_⟩
    refine ⟨b3, ((allL r n).length : Nat), rfl, hb3, by omega, fun w b4 af4 hb4 w0 w1 _ haf4 => ?_⟩
    walk_at "ev"
    simp only [haf4]
    have pk := pick5_ok (N := ((allL r n).length : Nat)) (v := v) (w := w) (by omega) v0 v1 w0 w1
    rw [show [PyData.list [.int 0, .int (((allL r n).length : Nat) - 1), .int (((allL r n).length : Nat) / 2), .int v, .int w]] = [PyData.list (([0, ((allL r n).length : Nat) - 1, ((allL r n).length : Nat) / 2, v, w] : List Int).map .int)] from rfl, sortS_i (by simp)]
    walk_at "ev"
    have epk : srtI (dedI [0, ((allL r n).length : Nat) - 1, ((allL r n).length : Nat) / 2, v, w]) = pick5 ((allL r n).length : Nat) v w := rfl
    rw [epk]
    generalize pick5 ((allL r n).length : Nat) v w = ps at pk
    clear epk
    refine hold_go ?_
    walk_at "sl"
    refine lc_un ?_
    walk_at "sl"
    refine lc_pm _ (atRD r n) rfl (by rw [List.length_map]; have := pk.len; omega) (fun k d R hk hR => ?_) ?_
    · obtain ⟨p, hp, rfl⟩ := map_get hk
      have hpr := pk.rng p (mem_of_get hp)
      walk_at "sl"
      refine ⟨r, n, p.toNat, atR r n p, by rw [Int.toNat_of_nonneg hpr.1], ok, by omega, by omega, atR_get hpr.1 hpr.2, fun af => ?_⟩
      exact hR _ rfl
    walk_at "ev"
    refine lc_un ?_
    walk_at "sl"
    refine lc_pm _ (atRD r n) rfl (by rw [List.length_map]; have := pk.len; omega) (fun k d R hk hR => ?_) ?_
    · obtain ⟨p, hp, rfl⟩ := map_get hk
      have hpr := pk.rng p (mem_of_get hp)
      walk_at "sl"
      rw [ix_rowsA hpr.1 hpr.2]
      walk_at "ev"
      exact hR _ rfl
    rw [rows_at]
    walk_at "ev"
    rw [ne_rows]
    walk_at "ev"
    refine hold_go ?_
    walk_at "sl"
    refine for_un ?_
    walk_at "sl"
    rw [List.length_map]
    refine for_pc (fun ρ' => ∃ x, ρ' = [some TT, some (.ls b4), some (.fz (rD r)), some (.fz (.int (n : Nat))), some (.fz (.list ((allL r n).map tI))), some (.fz (.list (ps.map .int))), x, none, none]) (fun d => d.canLay0 = true ∧ isIntB d 0 ((allL r n).length - 1 : Int) = false) ⟨_, rfl⟩ (fun d hd => ?_) (fun D2 d ρ' hn2 _ hd hI => ?_) (fun ρ' hI => ?_)
    · simp only [List.mem_cons, List.not_mem_nil, or_false] at hd
      rcases hd with rfl | rfl | rfl | rfl | rfl
      · exact ⟨lay_int _, int_lo (by omega)⟩
      · exact ⟨lay_int _, int_hi (by omega)⟩
      · exact ⟨lay_none, rfl⟩
      · exact ⟨lay_bool _, rfl⟩
      · exact ⟨by rw [PyData.canLay0]; decide +kernel, rfl⟩
    · obtain ⟨x, rfl⟩ := hI
      walk_at "sl"
      refine ⟨"row_at", rD r, .int (n : Nat), d, "InvalidNumber", rfl, ⟨rfl, .inl ⟨r, n, d, rfl, ok, by omega, by omega, hd.1, hd.2, rfl⟩⟩, fun af => ?_⟩
      walk_at "ev"
      rw [ne_err (by decide +kernel)]
      walk_at "ev"
      exact hn2 _ ⟨_, rfl⟩
    obtain ⟨x, rfl⟩ := hI
    refine hold_go ?_
    walk_at "sl"
    refine for_un ?_
    walk_at "sl"
    refine for_pc (fun ρ' => ∃ x, ρ' = [some TT, some (.ls b4), some (.fz (rD r)), some (.fz (.int (n : Nat))), some (.fz (.list ((allL r n).map tI))), some (.fz (.list (ps.map .int))), x, none, none]) (fun d => d.canLay0 = true ∧ isIntB d 0 14 = false) ⟨_, rfl⟩ (fun d hd => ?_) (fun D2 d ρ' hn2 _ hd hI => ?_) (fun ρ' hI => ?_)
    · simp only [List.mem_cons, List.not_mem_nil, or_false] at hd
      rcases hd with rfl | rfl | rfl | rfl | rfl
      · exact ⟨lay_int _, int_lo (by omega)⟩
      · exact ⟨lay_int _, int_hi (by omega)⟩
      · exact ⟨lay_none, rfl⟩
      · exact ⟨lay_bool _, rfl⟩
      · exact ⟨by rw [PyData.canLay0]; decide +kernel, rfl⟩
    · obtain ⟨x, rfl⟩ := hI
      walk_at "sl"
      refine ⟨"row_at", rD r, d, .none, "InvalidTime", rfl, ⟨rfl, .inr ⟨r, d, rfl, ok, hd.1, hd.2, rfl⟩⟩, fun af => ?_⟩
      walk_at "ev"
      rw [ne_err (by decide +kernel)]
      walk_at "ev"
      refine hold_go ?_
      walk_at "sl"
      simp only [cCallL, tLamR]
      refine ⟨⟨_, by rw [← hTT]; rfl⟩, ?_⟩
      walk_at "sl"
      refine ⟨rD r, d, .int 0, "InvalidTime", rfl, ⟨r, d, rfl, ok, hd.1, hd.2, rfl⟩, fun af => ?_⟩
      walk_at "ev"
      rw [ne_err (by decide +kernel)]
      walk_at "ev"
      exact hn2 _ ⟨_, rfl⟩
    · obtain ⟨x, rfl⟩ := hI
      exact hnx _ ⟨_, _, _, _, _, _, rfl⟩
  · obtain ⟨x1, x2, x3, x4, x5, x6, rfl⟩ := hI
    walk_at "sl"
    have e0 := all_good (n := 14) (by decide)
    obtain ⟨e4, e5⟩ := k11_a
    obtain ⟨e1, e2, e3⟩ := k20_a
    refine ⟨⟨false, 14, 1000⟩, 14, rfl, ⟨by decide, by decide, by decide, by decide⟩, by decide, by decide, fun af => ?_⟩
    rw [show (allL ⟨false, 14, 1000⟩ 14).length = 16384 from e0]
    walk_at "ev"
    rw [decide_eq_true (show ((16384 : Nat) : Int) = 16384 from rfl)]
    walk_at "ev"
    refine ⟨⟨true, 1, 1000⟩, 14, rfl, ⟨by decide, by decide, by decide, by decide⟩, by decide, by decide, fun af => ?_⟩
    rw [e4]
    walk_at "ev"
    rw [decide_eq_true (show ((15 : Nat) : Int) = 15 from rfl)]
    walk_at "ev"
    refine hold_go ?_
    walk_at "sl"
    refine ⟨⟨false, 1, 2⟩, 3, rfl, ⟨by decide, by decide, by decide, by decide⟩, by decide, by decide, fun af => ?_⟩
    rw [e1]
    walk_at "ev"
    rw [decide_eq_true (show ((5 : Nat) : Int) = 5 from rfl)]
    walk_at "ev"
    refine ⟨⟨false, 1, 2⟩, 3, 2, [0, 2], rfl, ⟨by decide, by decide, by decide, by decide⟩, by decide, by decide, e2, fun af => ?_⟩
    walk_at "ev"
    rw [show neD (tI [0, 2]) (.tuple [.int 0, .int 2]) = some (.bool (!decide (([0, 2] : List Int) = [0, 2]))) from neD_tI [0, 2] [0, 2], decide_eq_true rfl]
    walk_at "ev"
    refine hold_go ?_
    walk_at "sl"
    refine ⟨⟨true, 3, 4⟩, 0, 0, [], rfl, ⟨by decide, by decide, by decide, by decide⟩, by decide, by decide, e5, fun af => ?_⟩
    walk_at "ev"
    exact q _
theorem oke_need_time (T : TXT K mg L) (C_is_integer : Cal P w K mg base L 1 "is_integer" [] 3 sp_is_integer) : CalE P w K mg base L 2 "need_time" 3 spe_need_time := by
  have nd : (N_need_time).Nodup := by decide +kernel
  refine cale_ok (N := N_need_time) T.f_need_time sc_need_time fun f cdv A outer s H vs E ds en c hn hr h hc hE => ?_
  obtain ⟨d, lo, hi, rfl, lay, hb, rfl⟩ := h
  refine ⟨_, (xss_cons (xs_if (dt_not (dt_val (de_r (dr_c C_is_integer hr (dd_cons (de_var (pv 0)) (dd_cons (de_var (pv 1)) (dd_cons (de_var (pv 2)) dd_nil))))))) (xss_one (xs_raise (T.x_InvalidTime) rfl (L2N.takes_of rfl rfl rfl rfl) (hEe hc hE))) xss_nil) xss_never), ?_⟩
  walk_at "st"
  walk_at "sl"
  refine ⟨_, _, _, rfl, lay, fun af => ?_⟩
  rw [hb]
  walk_at "ev"
theorem oke_count_rows (T : TXT K mg L) (C_need_rule : Cal P w K mg base L 3 "need_rule" [] 1 sp_need_rule) (C_need_time : Cal P w K mg base L 2 "need_time" [] 3 sp_need_time) (C_all_rows : Cal P w K mg base L 2 "all_rows" [] 2 sp_all_rows) (E_need_time : CalE P w K mg base L 2 "need_time" 3 spe_need_time) : CalE P w K mg base L 4 "count_rows" 2 spe_count_rows := by
  have nd : (N_count_rows).Nodup := by decide +kernel
  refine cale_ok (N := N_count_rows) T.f_count_rows sc_count_rows fun f cdv A outer s H vs E ds en c hn hr h hc hE => ?_
  obtain ⟨r, d, rfl, ok, lay, hb, rfl⟩ := h
  refine ⟨_, (xss_cons (xs_ds (ds_expr (dr_c C_need_rule hr (dd_cons (de_var (pv 0)) dd_nil))))
    (xss_cons (xs_callE E_need_time hr (L2N.takes_of rfl rfl rfl rfl) (dd_cons (de_var (pv 1)) (dd_cons de_int (dd_cons de_int dd_nil))) _ ⟨_, hc⟩ (hEe hc hE)) xss_never)), ?_⟩
  walk_at "st"
  walk_at "sl"
  refine ⟨r, rfl, ok, fun af => ?_⟩
  refine hold_go ?_
  walk_at "sl"
  exact ⟨d, 0, 14, rfl, lay, hb, rfl⟩
theorem oke_row_at (T : TXT K mg L) (C_need_rule : Cal P w K mg base L 3 "need_rule" [] 1 sp_need_rule) (C_need_time : Cal P w K mg base L 2 "need_time" [] 3 sp_need_time) (C_all_rows : Cal P w K mg base L 2 "all_rows" [] 2 sp_all_rows) (E_need_time : CalE P w K mg base L 2 "need_time" 3 spe_need_time) : CalE P w K mg base L 4 "row_at" 3 spe_row_at := by
  have nd : (N_row_at).Nodup := by decide +kernel
  refine cale_ok (N := N_row_at) T.f_row_at sc_row_at fun f cdv A outer s H vs E ds en c hn hr h hc hE => ?_
  rcases h with ⟨r, tk, d, rfl, ok, t0, t1, lay, hb, rfl⟩ | ⟨r, d, rfl, ok, lay, hb, rfl⟩
  · refine ⟨_, (xss_cons (xs_ds (ds_expr (dr_c C_need_rule hr (dd_cons (de_var (pv 0)) dd_nil))))
    (xss_cons (xs_ds (ds_expr (dr_c C_need_time hr (dd_cons (de_var (pv 1)) (dd_cons de_int (dd_cons de_int dd_nil))))))
    (xss_cons (xs_ds (ds_set (i := 3) (List.not_mem_nil) nd rfl (Or.inl rfl) (dr_c C_all_rows hr (dd_cons (de_var (pv 0)) (dd_cons (de_var (pv 1)) dd_nil)))))
    (xss_cons (xs_if (dt_w (dw_or (dt_not (dt_val (de_callB call_isi (cIsi T.L.t_int kit_int) rfl T.b_isinstance bt_isinstance (dd_cons (de_var (pv 2)) (dd_cons (de_ty (pe_bltn rfl T.b_int bt_int rfl) T.L.t_int) dd_nil))))) (dw_or (dt_val (de_callB call_isi (cIsi T.L.t_bool kit_bool) rfl T.b_isinstance bt_isinstance (dd_cons (de_var (pv 2)) (dd_cons (de_ty (pe_bltn rfl T.b_bool bt_bool rfl) T.L.t_bool) dd_nil)))) (dw_or1 (dt_not (dt_chain op_le dCmp op_lt dCmp de_int (de_var (pv 2)) (de_callB call_len_seq cLen rfl T.b_len bt_len (dd_cons (de_var (pv 3)) dd_nil)))))))) (xss_one (xs_raise (T.x_InvalidNumber) rfl (L2N.takes_of rfl rfl rfl rfl) (hEe hc hE))) xss_nil) xss_never)))), ?_⟩
    walk_at "st"
    walk_at "sl"
    refine ⟨r, rfl, ok, fun af => ?_⟩
    refine hold_go ?_
    walk_at "sl"
    refine ⟨tk, 0, 14, rfl, t0, t1, fun af => ?_⟩
    refine hold_go ?_
    walk_at "sl"
    refine ⟨r, tk, rfl, ok, t0, t1, fun af => ?_⟩
    refine hold_go ?_
    walk_at "sl"
    cases d with
    | dict _ => rw [PyData.canLay0] at lay; cases lay
    | int i =>
      walk_at "ev"
      have hb' : (decide (0 ≤ i) && decide (i ≤ ((allL r tk).length : Int) - 1)) = false := hb
      rw [List.length_map]
      refine ifB_cases (fun h1 => ?_) (fun _ => trivial)
      rw [h1, Bool.true_and] at hb'
      have hb' := of_decide_eq_false hb'
      rw [decide_eq_false (by omega)]
      walk_at "ev"
    | bool i => walk_at "ev"
    | none => walk_at "ev"
    | list i => walk_at "ev"
    | tuple i => walk_at "ev"
    | str k => walk_at "ev"
  · refine ⟨_, (xss_cons (xs_ds (ds_expr (dr_c C_need_rule hr (dd_cons (de_var (pv 0)) dd_nil))))
    (xss_cons (xs_callE E_need_time hr (L2N.takes_of rfl rfl rfl rfl) (dd_cons (de_var (pv 1)) (dd_cons de_int (dd_cons de_int dd_nil))) _ ⟨_, hc⟩ (hEe hc hE)) xss_never)), ?_⟩
    walk_at "st"
    walk_at "sl"
    refine ⟨r, rfl, ok, fun af => ?_⟩
    refine hold_go ?_
    walk_at "sl"
    exact ⟨d, 0, 14, rfl, lay, hb, rfl⟩
end
theorem all_mk {l : PySem.W.OpenLaw} {w : World} {K : PySem.W.Frag} {h : Heap} {mg : Str → Option Value} {fa : Addr} (X : K.In h) (G : h.Ns mainGlobals mg) (hfa : mg "law" = some (.ref fa))
    {f0 f1 f2 f3 f4 f5 f6 f7 f8 f9 f10 f11 f12 f13 f14 f15 f16 f17 f18 f19 f20 : Addr} {od0 an0 od1 an1 od2 an2 od3 an3 od4 an4 od5 an5 od6 an6 od7 an7 od8 an8 od9 an9 od10 an10 od11 an11 od12 an12 od13 an13 od14 an14 od15 an15 od16 an16 od17 an17 od18 an18 od19 an19 od20 an20 : Option Addr} {sl0 sl1 sl2 sl3 sl4 sl5 sl6 sl7 sl8 sl9 sl10 sl11 sl12 sl13 sl14 sl15 sl16 sl17 sl18 sl19 sl20 : Array (Option Value)} {oc0 kV0 dc0 pm0 cd0 ct0 oc1 kV1 dc1 pm1 cd1 ct1 oc2 kV2 dc2 pm2 cd2 ct2 oc3 kV3 dc3 pm3 cd3 ct3 oc4 kV4 dc4 pm4 cd4 ct4 oc5 kV5 dc5 pm5 cd5 ct5 oc6 kV6 dc6 pm6 cd6 ct6 oc7 kV7 dc7 pm7 cd7 ct7 oc8 kV8 dc8 pm8 cd8 ct8 oc9 kV9 dc9 pm9 cd9 ct9 oc10 kV10 dc10 pm10 cd10 ct10 oc11 kV11 dc11 pm11 cd11 ct11 oc12 kV12 dc12 pm12 cd12 ct12 oc13 kV13 dc13 pm13 cd13 ct13 oc14 kV14 dc14 pm14 cd14 ct14 oc15 kV15 dc15 pm15 cd15 ct15 oc16 kV16 dc16 pm16 cd16 ct16 oc17 kV17 dc17 pm17 cd17 ct17 oc18 kV18 dc18 pm18 cd18 ct18 oc19 kV19 dc19 pm19 cd19 ct19 oc20 kV20 dc20 pm20 cd20 ct20 : Value}
    (a0 : PySem.W.nsIn K mainGlobals "is_integer" = some (some (.ref f0))) (l0 : K.lookup f0 = some ⟨oc0, od0, .func (PySem.W.fnOf "is_integer" "is_integer" (defArgs s_is_integer) (defBody s_is_integer) (defScope s_is_integer) .none kV0 dc0 pm0 an0 cd0 ct0), sl0⟩) (c0 : PySem.W.codeIn K cd0 "is_integer" = true) (k0 : PySem.W.keepIn K (.ref f0) = true)
    (a1 : PySem.W.nsIn K mainGlobals "is_rule" = some (some (.ref f1))) (l1 : K.lookup f1 = some ⟨oc1, od1, .func (PySem.W.fnOf "is_rule" "is_rule" (defArgs s_is_rule) (defBody s_is_rule) (defScope s_is_rule) .none kV1 dc1 pm1 an1 cd1 ct1), sl1⟩) (c1 : PySem.W.codeIn K cd1 "is_rule" = true) (k1 : PySem.W.keepIn K (.ref f1) = true)
    (a2 : PySem.W.nsIn K mainGlobals "need_rule" = some (some (.ref f2))) (l2 : K.lookup f2 = some ⟨oc2, od2, .func (PySem.W.fnOf "need_rule" "need_rule" (defArgs s_need_rule) (defBody s_need_rule) (defScope s_need_rule) .none kV2 dc2 pm2 an2 cd2 ct2), sl2⟩) (c2 : PySem.W.codeIn K cd2 "need_rule" = true) (k2 : PySem.W.keepIn K (.ref f2) = true)
    (a3 : PySem.W.nsIn K mainGlobals "need_time" = some (some (.ref f3))) (l3 : K.lookup f3 = some ⟨oc3, od3, .func (PySem.W.fnOf "need_time" "need_time" (defArgs s_need_time) (defBody s_need_time) (defScope s_need_time) .none kV3 dc3 pm3 an3 cd3 ct3), sl3⟩) (c3 : PySem.W.codeIn K cd3 "need_time" = true) (k3 : PySem.W.keepIn K (.ref f3) = true)
    (a4 : PySem.W.nsIn K mainGlobals "taken" = some (some (.ref f4))) (l4 : K.lookup f4 = some ⟨oc4, od4, .func (PySem.W.fnOf "taken" "taken" (defArgs s_taken) (defBody s_taken) (defScope s_taken) .none kV4 dc4 pm4 an4 cd4 ct4), sl4⟩) (c4 : PySem.W.codeIn K cd4 "taken" = true) (k4 : PySem.W.keepIn K (.ref f4) = true)
    (a5 : PySem.W.nsIn K mainGlobals "left_at" = some (some (.ref f5))) (l5 : K.lookup f5 = some ⟨oc5, od5, .func (PySem.W.fnOf "left_at" "left_at" (defArgs s_left_at) (defBody s_left_at) (defScope s_left_at) .none kV5 dc5 pm5 an5 cd5 ct5), sl5⟩) (c5 : PySem.W.codeIn K cd5 "left_at" = true) (k5 : PySem.W.keepIn K (.ref f5) = true)
    (a6 : PySem.W.nsIn K mainGlobals "all_rows" = some (some (.ref f6))) (l6 : K.lookup f6 = some ⟨oc6, od6, .func (PySem.W.fnOf "all_rows" "all_rows" (defArgs s_all_rows) (defBody s_all_rows) (defScope s_all_rows) .none kV6 dc6 pm6 an6 cd6 ct6), sl6⟩) (c6 : PySem.W.codeIn K cd6 "all_rows" = true) (k6 : PySem.W.keepIn K (.ref f6) = true)
    (a7 : PySem.W.nsIn K mainGlobals "count_rows" = some (some (.ref f7))) (l7 : K.lookup f7 = some ⟨oc7, od7, .func (PySem.W.fnOf "count_rows" "count_rows" (defArgs s_count_rows) (defBody s_count_rows) (defScope s_count_rows) .none kV7 dc7 pm7 an7 cd7 ct7), sl7⟩) (c7 : PySem.W.codeIn K cd7 "count_rows" = true) (k7 : PySem.W.keepIn K (.ref f7) = true)
    (a8 : PySem.W.nsIn K mainGlobals "row_at" = some (some (.ref f8))) (l8 : K.lookup f8 = some ⟨oc8, od8, .func (PySem.W.fnOf "row_at" "row_at" (defArgs s_row_at) (defBody s_row_at) (defScope s_row_at) .none kV8 dc8 pm8 an8 cd8 ct8), sl8⟩) (c8 : PySem.W.codeIn K cd8 "row_at" = true) (k8 : PySem.W.keepIn K (.ref f8) = true)
    (a9 : PySem.W.nsIn K mainGlobals "_law_cell_at" = some (some (.ref f9))) (l9 : K.lookup f9 = some ⟨oc9, od9, .func (PySem.W.fnOf "_law_cell_at" "_law_cell_at" (defArgs s__law_cell_at) (defBody s__law_cell_at) (defScope s__law_cell_at) .none kV9 dc9 pm9 an9 cd9 ct9), sl9⟩) (c9 : PySem.W.codeIn K cd9 "_law_cell_at" = true) (k9 : PySem.W.keepIn K (.ref f9) = true)
    (a10 : PySem.W.nsIn K mainGlobals "_law_draws" = some (some (.ref f10))) (l10 : K.lookup f10 = some ⟨oc10, od10, .func (PySem.W.fnOf "_law_draws" "_law_draws" (defArgs s__law_draws) (defBody s__law_draws) (defScope s__law_draws) .none kV10 dc10 pm10 an10 cd10 ct10), sl10⟩) (c10 : PySem.W.codeIn K cd10 "_law_draws" = true) (k10 : PySem.W.keepIn K (.ref f10) = true)
    (a11 : PySem.W.nsIn K mainGlobals "_law_bag" = some (some (.ref f11))) (l11 : K.lookup f11 = some ⟨oc11, od11, .func (PySem.W.fnOf "_law_bag" "_law_bag" (defArgs s__law_bag) (defBody s__law_bag) (defScope s__law_bag) .none kV11 dc11 pm11 an11 cd11 ct11), sl11⟩) (c11 : PySem.W.codeIn K cd11 "_law_bag" = true) (k11 : PySem.W.keepIn K (.ref f11) = true)
    (a12 : PySem.W.nsIn K mainGlobals "_law_bags" = some (some (.ref f12))) (l12 : K.lookup f12 = some ⟨oc12, od12, .func (PySem.W.fnOf "_law_bags" "_law_bags" (defArgs s__law_bags) (defBody s__law_bags) (defScope s__law_bags) .none kV12 dc12 pm12 an12 cd12 ct12), sl12⟩) (c12 : PySem.W.codeIn K cd12 "_law_bags" = true) (k12 : PySem.W.keepIn K (.ref f12) = true)
    (a13 : PySem.W.nsIn K mainGlobals "_law_take" = some (some (.ref f13))) (l13 : K.lookup f13 = some ⟨oc13, od13, .func (PySem.W.fnOf "_law_take" "_law_take" (defArgs s__law_take) (defBody s__law_take) (defScope s__law_take) .none kV13 dc13 pm13 an13 cd13 ct13), sl13⟩) (c13 : PySem.W.codeIn K cd13 "_law_take" = true) (k13 : PySem.W.keepIn K (.ref f13) = true)
    (a14 : PySem.W.nsIn K mainGlobals "_law_rule" = some (some (.ref f14))) (l14 : K.lookup f14 = some ⟨oc14, od14, .func (PySem.W.fnOf "_law_rule" "_law_rule" (defArgs s__law_rule) (defBody s__law_rule) (defScope s__law_rule) .none kV14 dc14 pm14 an14 cd14 ct14), sl14⟩) (c14 : PySem.W.codeIn K cd14 "_law_rule" = true) (k14 : PySem.W.keepIn K (.ref f14) = true)
    (a15 : PySem.W.nsIn K mainGlobals "_law_press" = some (some (.ref f15))) (l15 : K.lookup f15 = some ⟨oc15, od15, .func (PySem.W.fnOf "_law_press" "_law_press" (defArgs s__law_press) (defBody s__law_press) (defScope s__law_press) .none kV15 dc15 pm15 an15 cd15 ct15), sl15⟩) (c15 : PySem.W.codeIn K cd15 "_law_press" = true) (k15 : PySem.W.keepIn K (.ref f15) = true)
    (a16 : PySem.W.nsIn K mainGlobals "_law_steps" = some (some (.ref f16))) (l16 : K.lookup f16 = some ⟨oc16, od16, .func (PySem.W.fnOf "_law_steps" "_law_steps" (defArgs s__law_steps) (defBody s__law_steps) (defScope s__law_steps) .none kV16 dc16 pm16 an16 cd16 ct16), sl16⟩) (c16 : PySem.W.codeIn K cd16 "_law_steps" = true) (k16 : PySem.W.keepIn K (.ref f16) = true)
    (a17 : PySem.W.nsIn K mainGlobals "_law_used" = some (some (.ref f17))) (l17 : K.lookup f17 = some ⟨oc17, od17, .func (PySem.W.fnOf "_law_used" "_law_used" (defArgs s__law_used) (defBody s__law_used) (defScope s__law_used) .none kV17 dc17 pm17 an17 cd17 ct17), sl17⟩) (c17 : PySem.W.codeIn K cd17 "_law_used" = true) (k17 : PySem.W.keepIn K (.ref f17) = true)
    (a18 : PySem.W.nsIn K mainGlobals "_law_error" = some (some (.ref f18))) (l18 : K.lookup f18 = some ⟨oc18, od18, .func (PySem.W.fnOf "_law_error" "_law_error" (defArgs s__law_error) (defBody s__law_error) (defScope s__law_error) .none kV18 dc18 pm18 an18 cd18 ct18), sl18⟩) (c18 : PySem.W.codeIn K cd18 "_law_error" = true) (k18 : PySem.W.keepIn K (.ref f18) = true)
    (a19 : PySem.W.nsIn K mainGlobals "_law_times" = some (some (.ref f19))) (l19 : K.lookup f19 = some ⟨oc19, od19, .func (PySem.W.fnOf "_law_times" "_law_times" (defArgs s__law_times) (defBody s__law_times) (defScope s__law_times) .none kV19 dc19 pm19 an19 cd19 ct19), sl19⟩) (c19 : PySem.W.codeIn K cd19 "_law_times" = true) (k19 : PySem.W.keepIn K (.ref f19) = true)
    (a20 : PySem.W.nsIn K mainGlobals "law" = some (some (.ref f20))) (l20 : K.lookup f20 = some ⟨oc20, od20, .func (PySem.W.fnOf "law" "law" (defArgs s_law) (defBody s_law) (defScope s_law) .none kV20 dc20 pm20 an20 cd20 ct20), sl20⟩) (c20 : PySem.W.codeIn K cd20 "law" = true) (k20 : PySem.W.keepIn K (.ref f20) = true)
    (z_ValueError : PySem.W.nsIn K mainGlobals "ValueError" = some none)
    (z_bool : PySem.W.nsIn K mainGlobals "bool" = some none)
    (z_enumerate : PySem.W.nsIn K mainGlobals "enumerate" = some none)
    (z_int : PySem.W.nsIn K mainGlobals "int" = some none)
    (z_isinstance : PySem.W.nsIn K mainGlobals "isinstance" = some none)
    (z_len : PySem.W.nsIn K mainGlobals "len" = some none)
    (z_max : PySem.W.nsIn K mainGlobals "max" = some none)
    (z_min : PySem.W.nsIn K mainGlobals "min" = some none)
    (z_range : PySem.W.nsIn K mainGlobals "range" = some none)
    (z_set : PySem.W.nsIn K mainGlobals "set" = some none)
    (z_sorted : PySem.W.nsIn K mainGlobals "sorted" = some none)
    (z_str : PySem.W.nsIn K mainGlobals "str" = some none)
    (z_tuple : PySem.W.nsIn K mainGlobals "tuple" = some none)
    {t0_KINDS t1_KINDS : Tok} {a_KINDS : Addr} {od_KINDS : Option Addr} {sl_KINDS : Array (Option Value)} {n_KINDS : Nat} (x_KINDS : PySem.W.nsIn K mainGlobals "KINDS" = some (some (.ref a_KINDS))) (y_KINDS : K.lookup a_KINDS = some ⟨.type "tuple", od_KINDS, .seq #[.str "line" t0_KINDS, .str "side" t1_KINDS] n_KINDS, sl_KINDS⟩)
    {D_ChargeError : Addr} (n_ChargeError : PySem.W.nsIn K mainGlobals "ChargeError" = some (some (.ref D_ChargeError)))
    (hd_ChargeError : PySem.W.hasDictIn K D_ChargeError = true) (ty_ChargeError : PySem.W.typeIn K (.ref D_ChargeError) = some (.type "type"))
    {D_InvalidRule : Addr} (n_InvalidRule : PySem.W.nsIn K mainGlobals "InvalidRule" = some (some (.ref D_InvalidRule)))
    (hd_InvalidRule : PySem.W.hasDictIn K D_InvalidRule = true) (ty_InvalidRule : PySem.W.typeIn K (.ref D_InvalidRule) = some (.type "type"))
    {D_InvalidRow : Addr} (n_InvalidRow : PySem.W.nsIn K mainGlobals "InvalidRow" = some (some (.ref D_InvalidRow)))
    (hd_InvalidRow : PySem.W.hasDictIn K D_InvalidRow = true) (ty_InvalidRow : PySem.W.typeIn K (.ref D_InvalidRow) = some (.type "type"))
    {D_InvalidTime : Addr} (n_InvalidTime : PySem.W.nsIn K mainGlobals "InvalidTime" = some (some (.ref D_InvalidTime)))
    (hd_InvalidTime : PySem.W.hasDictIn K D_InvalidTime = true) (ty_InvalidTime : PySem.W.typeIn K (.ref D_InvalidTime) = some (.type "type"))
    {D_InvalidNumber : Addr} (n_InvalidNumber : PySem.W.nsIn K mainGlobals "InvalidNumber" = some (some (.ref D_InvalidNumber)))
    (hd_InvalidNumber : PySem.W.hasDictIn K D_InvalidNumber = true) (ty_InvalidNumber : PySem.W.typeIn K (.ref D_InvalidNumber) = some (.type "type"))
    {D_InvalidKind : Addr} (n_InvalidKind : PySem.W.nsIn K mainGlobals "InvalidKind" = some (some (.ref D_InvalidKind)))
    (hd_InvalidKind : PySem.W.hasDictIn K D_InvalidKind = true) (ty_InvalidKind : PySem.W.typeIn K (.ref D_InvalidKind) = some (.type "type"))
    {D_InvalidOutcomes : Addr} (n_InvalidOutcomes : PySem.W.nsIn K mainGlobals "InvalidOutcomes" = some (some (.ref D_InvalidOutcomes)))
    (hd_InvalidOutcomes : PySem.W.hasDictIn K D_InvalidOutcomes = true) (ty_InvalidOutcomes : PySem.W.typeIn K (.ref D_InvalidOutcomes) = some (.type "type"))
    {D_TooMany : Addr} (n_TooMany : PySem.W.nsIn K mainGlobals "TooMany" = some (some (.ref D_TooMany)))
    (hd_TooMany : PySem.W.hasDictIn K D_TooMany = true) (ty_TooMany : PySem.W.typeIn K (.ref D_TooMany) = some (.type "type"))
    {D_NothingToUndo : Addr} (n_NothingToUndo : PySem.W.nsIn K mainGlobals "NothingToUndo" = some (some (.ref D_NothingToUndo)))
    (hd_NothingToUndo : PySem.W.hasDictIn K D_NothingToUndo = true) (ty_NothingToUndo : PySem.W.typeIn K (.ref D_NothingToUndo) = some (.type "type"))
    (sb_ChargeError : PySem.W.subIn K (.ref D_ChargeError) (.type "BaseException") = some true)
    (kp_InvalidNumber : PySem.W.keepIn K (.ref D_InvalidNumber) = true)
    (xi_InvalidNumber : PySem.W.excIn K D_InvalidNumber [.type "ValueError", .type "Exception", .type "BaseException", .type "object"] "ValueError.__new__" = true)
    (sb_InvalidNumber : PySem.W.subIn K (.ref D_InvalidNumber) (.type "BaseException") = some true)
    (hg_InvalidNumber : PySem.W.findIn K (.ref D_InvalidNumber) "__getattribute__" = some (some (.builtin "BaseException.__getattribute__")))
    (hk_InvalidNumber : PySem.W.findIn K (.ref D_InvalidNumber) "__getattr__" = some none)
    (ha_InvalidNumber : PySem.W.findIn K (.ref D_InvalidNumber) "__class__" = some (some (.builtin "object.__class__")))
    (hm_InvalidNumber : PySem.W.mroIn K D_InvalidNumber (.type "object") = some true)
    (sv_InvalidNumber : PySem.W.subIn K (.ref D_InvalidNumber) (.type "ValueError") = some true)
    (sC_InvalidNumber : PySem.W.subIn K (.ref D_InvalidNumber) (.ref D_ChargeError) = some true)
    (k_InvalidRule_InvalidNumber : PySem.W.subIn K (.ref D_InvalidNumber) (.ref D_InvalidRule) = some false)
    (k_InvalidRow_InvalidNumber : PySem.W.subIn K (.ref D_InvalidNumber) (.ref D_InvalidRow) = some false)
    (k_InvalidTime_InvalidNumber : PySem.W.subIn K (.ref D_InvalidNumber) (.ref D_InvalidTime) = some false)
    (k_InvalidNumber_InvalidNumber : PySem.W.subIn K (.ref D_InvalidNumber) (.ref D_InvalidNumber) = some true)
    (k_InvalidKind_InvalidNumber : PySem.W.subIn K (.ref D_InvalidNumber) (.ref D_InvalidKind) = some false)
    (k_InvalidOutcomes_InvalidNumber : PySem.W.subIn K (.ref D_InvalidNumber) (.ref D_InvalidOutcomes) = some false)
    (k_TooMany_InvalidNumber : PySem.W.subIn K (.ref D_InvalidNumber) (.ref D_TooMany) = some false)
    (k_NothingToUndo_InvalidNumber : PySem.W.subIn K (.ref D_InvalidNumber) (.ref D_NothingToUndo) = some false)
    (kp_InvalidTime : PySem.W.keepIn K (.ref D_InvalidTime) = true)
    (xi_InvalidTime : PySem.W.excIn K D_InvalidTime [.type "ValueError", .type "Exception", .type "BaseException", .type "object"] "ValueError.__new__" = true)
    (sb_InvalidTime : PySem.W.subIn K (.ref D_InvalidTime) (.type "BaseException") = some true)
    (hg_InvalidTime : PySem.W.findIn K (.ref D_InvalidTime) "__getattribute__" = some (some (.builtin "BaseException.__getattribute__")))
    (hk_InvalidTime : PySem.W.findIn K (.ref D_InvalidTime) "__getattr__" = some none)
    (ha_InvalidTime : PySem.W.findIn K (.ref D_InvalidTime) "__class__" = some (some (.builtin "object.__class__")))
    (hm_InvalidTime : PySem.W.mroIn K D_InvalidTime (.type "object") = some true)
    (sv_InvalidTime : PySem.W.subIn K (.ref D_InvalidTime) (.type "ValueError") = some true)
    (sC_InvalidTime : PySem.W.subIn K (.ref D_InvalidTime) (.ref D_ChargeError) = some true)
    (k_InvalidRule_InvalidTime : PySem.W.subIn K (.ref D_InvalidTime) (.ref D_InvalidRule) = some false)
    (k_InvalidRow_InvalidTime : PySem.W.subIn K (.ref D_InvalidTime) (.ref D_InvalidRow) = some false)
    (k_InvalidTime_InvalidTime : PySem.W.subIn K (.ref D_InvalidTime) (.ref D_InvalidTime) = some true)
    (k_InvalidNumber_InvalidTime : PySem.W.subIn K (.ref D_InvalidTime) (.ref D_InvalidNumber) = some false)
    (k_InvalidKind_InvalidTime : PySem.W.subIn K (.ref D_InvalidTime) (.ref D_InvalidKind) = some false)
    (k_InvalidOutcomes_InvalidTime : PySem.W.subIn K (.ref D_InvalidTime) (.ref D_InvalidOutcomes) = some false)
    (k_TooMany_InvalidTime : PySem.W.subIn K (.ref D_InvalidTime) (.ref D_TooMany) = some false)
    (k_NothingToUndo_InvalidTime : PySem.W.subIn K (.ref D_InvalidTime) (.ref D_NothingToUndo) = some false)
    (hn_o : PySem.W.specialIn K (.builtin "object.__class__") "__get__" = some (some (.builtin "getset_descriptor.__get__")))
    (ht_o : PySem.W.takesIn K (.builtin "object.__class__") = some true)
    (cc : cd20 = .ref (codA cd20)) (hTab : h.get? (tabAt K (codA cd20)) = some { cls := .none, data := .fields #[] }) (nTab : K.lookup (tabAt K (codA cd20)) = none) (hCd : PySem.W.codeHdIn K (codA cd20) (tabAt K (codA cd20)) = true) :
    LamX.LawAtS l w K CX0 7 63 "script" mg fa h := by
  have e := hfa.symm.trans (PySem.W.mg_of X G a20)
  cases e
  have T : TXT K mg (Lmg K mg ["row_at"]) := {
    g_KINDS := tup_mk (ss := [("line", t0_KINDS), ("side", t1_KINDS)]) X G x_KINDS y_KINDS (Nat.le_of_ble_eq_true rfl)
    c_ChargeError := ⟨_, PySem.W.mg_of X G n_ChargeError⟩
    x_InvalidNumber := ⟨D_InvalidNumber, PySem.W.mg_of X G n_InvalidNumber, kp_InvalidNumber, xi_InvalidNumber, sb_InvalidNumber, ty_InvalidNumber, ⟨hg_InvalidNumber, hk_InvalidNumber, sb_InvalidNumber, hd_InvalidNumber, ha_InvalidNumber, hn_o, ht_o, hm_InvalidNumber⟩, kit_val sv_InvalidNumber, (fun C0 e => by cases e.symm.trans (PySem.W.mg_of X G n_ChargeError); exact PySem.W.exm_ref sb_ChargeError hd_ChargeError ty_ChargeError sC_InvalidNumber), errN_all (⟨D_InvalidRule, PySem.W.mg_of X G n_InvalidRule, (kit_own hd_InvalidRule ty_InvalidRule k_InvalidNumber_InvalidNumber k_InvalidRule_InvalidNumber).trans (by decide +kernel)⟩)
      (⟨D_InvalidRow, PySem.W.mg_of X G n_InvalidRow, (kit_own hd_InvalidRow ty_InvalidRow k_InvalidNumber_InvalidNumber k_InvalidRow_InvalidNumber).trans (by decide +kernel)⟩)
      (⟨D_InvalidTime, PySem.W.mg_of X G n_InvalidTime, (kit_own hd_InvalidTime ty_InvalidTime k_InvalidNumber_InvalidNumber k_InvalidTime_InvalidNumber).trans (by decide +kernel)⟩)
      (⟨D_InvalidNumber, PySem.W.mg_of X G n_InvalidNumber, (kit_own hd_InvalidNumber ty_InvalidNumber k_InvalidNumber_InvalidNumber k_InvalidNumber_InvalidNumber).trans (by decide +kernel)⟩)
      (⟨D_InvalidKind, PySem.W.mg_of X G n_InvalidKind, (kit_own hd_InvalidKind ty_InvalidKind k_InvalidNumber_InvalidNumber k_InvalidKind_InvalidNumber).trans (by decide +kernel)⟩)
      (⟨D_InvalidOutcomes, PySem.W.mg_of X G n_InvalidOutcomes, (kit_own hd_InvalidOutcomes ty_InvalidOutcomes k_InvalidNumber_InvalidNumber k_InvalidOutcomes_InvalidNumber).trans (by decide +kernel)⟩)
      (⟨D_TooMany, PySem.W.mg_of X G n_TooMany, (kit_own hd_TooMany ty_TooMany k_InvalidNumber_InvalidNumber k_TooMany_InvalidNumber).trans (by decide +kernel)⟩)
      (⟨D_NothingToUndo, PySem.W.mg_of X G n_NothingToUndo, (kit_own hd_NothingToUndo ty_NothingToUndo k_InvalidNumber_InvalidNumber k_NothingToUndo_InvalidNumber).trans (by decide +kernel)⟩)⟩
    x_InvalidTime := ⟨D_InvalidTime, PySem.W.mg_of X G n_InvalidTime, kp_InvalidTime, xi_InvalidTime, sb_InvalidTime, ty_InvalidTime, ⟨hg_InvalidTime, hk_InvalidTime, sb_InvalidTime, hd_InvalidTime, ha_InvalidTime, hn_o, ht_o, hm_InvalidTime⟩, kit_val sv_InvalidTime, (fun C0 e => by cases e.symm.trans (PySem.W.mg_of X G n_ChargeError); exact PySem.W.exm_ref sb_ChargeError hd_ChargeError ty_ChargeError sC_InvalidTime), errN_all (⟨D_InvalidRule, PySem.W.mg_of X G n_InvalidRule, (kit_own hd_InvalidRule ty_InvalidRule k_InvalidTime_InvalidTime k_InvalidRule_InvalidTime).trans (by decide +kernel)⟩)
      (⟨D_InvalidRow, PySem.W.mg_of X G n_InvalidRow, (kit_own hd_InvalidRow ty_InvalidRow k_InvalidTime_InvalidTime k_InvalidRow_InvalidTime).trans (by decide +kernel)⟩)
      (⟨D_InvalidTime, PySem.W.mg_of X G n_InvalidTime, (kit_own hd_InvalidTime ty_InvalidTime k_InvalidTime_InvalidTime k_InvalidTime_InvalidTime).trans (by decide +kernel)⟩)
      (⟨D_InvalidNumber, PySem.W.mg_of X G n_InvalidNumber, (kit_own hd_InvalidNumber ty_InvalidNumber k_InvalidTime_InvalidTime k_InvalidNumber_InvalidTime).trans (by decide +kernel)⟩)
      (⟨D_InvalidKind, PySem.W.mg_of X G n_InvalidKind, (kit_own hd_InvalidKind ty_InvalidKind k_InvalidTime_InvalidTime k_InvalidKind_InvalidTime).trans (by decide +kernel)⟩)
      (⟨D_InvalidOutcomes, PySem.W.mg_of X G n_InvalidOutcomes, (kit_own hd_InvalidOutcomes ty_InvalidOutcomes k_InvalidTime_InvalidTime k_InvalidOutcomes_InvalidTime).trans (by decide +kernel)⟩)
      (⟨D_TooMany, PySem.W.mg_of X G n_TooMany, (kit_own hd_TooMany ty_TooMany k_InvalidTime_InvalidTime k_TooMany_InvalidTime).trans (by decide +kernel)⟩)
      (⟨D_NothingToUndo, PySem.W.mg_of X G n_NothingToUndo, (kit_own hd_NothingToUndo ty_NothingToUndo k_InvalidTime_InvalidTime k_NothingToUndo_InvalidTime).trans (by decide +kernel)⟩)⟩
    fn_row_at := fn_at (PySem.W.mg_of X G a8) (by decide +kernel) (by decide +kernel)
    f_is_integer := fnT_mk (st := s_is_integer) X G a0 l0 c0 k0 fun _ _ _ _ _ _ us hl => match us, hl with | [_, _, _], _ => rfl
    f_is_rule := fnT_mk (st := s_is_rule) X G a1 l1 c1 k1 fun _ _ _ _ _ _ us hl => match us, hl with | [_], _ => rfl
    f_need_rule := fnT_mk (st := s_need_rule) X G a2 l2 c2 k2 fun _ _ _ _ _ _ us hl => match us, hl with | [_], _ => rfl
    f_need_time := fnT_mk (st := s_need_time) X G a3 l3 c3 k3 fun _ _ _ _ _ _ us hl => match us, hl with | [_, _, _], _ => rfl
    f_taken := fnT_mk (st := s_taken) X G a4 l4 c4 k4 fun _ _ _ _ _ _ us hl => match us, hl with | [_, _, _], _ => rfl
    f_left_at := fnT_mk (st := s_left_at) X G a5 l5 c5 k5 fun _ _ _ _ _ _ us hl => match us, hl with | [_, _, _], _ => rfl
    f_all_rows := fnT_mk (st := s_all_rows) X G a6 l6 c6 k6 fun _ _ _ _ _ _ us hl => match us, hl with | [_, _], _ => rfl
    f_count_rows := fnT_mk (st := s_count_rows) X G a7 l7 c7 k7 fun _ _ _ _ _ _ us hl => match us, hl with | [_, _], _ => rfl
    f_row_at := fnT_mk (st := s_row_at) X G a8 l8 c8 k8 fun _ _ _ _ _ _ us hl => match us, hl with | [_, _, _], _ => rfl
    f__law_cell_at := fnT_mk (st := s__law_cell_at) X G a9 l9 c9 k9 fun _ _ _ _ _ _ us hl => match us, hl with | [_, _], _ => rfl
    f__law_draws := fnT_mk (st := s__law_draws) X G a10 l10 c10 k10 fun _ _ _ _ _ _ us hl => match us, hl with | [_, _, _], _ => rfl
    f__law_bag := fnT_mk (st := s__law_bag) X G a11 l11 c11 k11 fun _ _ _ _ _ _ us hl => match us, hl with | [_, _], _ => rfl
    f__law_bags := fnT_mk (st := s__law_bags) X G a12 l12 c12 k12 fun _ _ _ _ _ _ us hl => match us, hl with | [_, _], _ => rfl
    f__law_take := fnT_mk (st := s__law_take) X G a13 l13 c13 k13 fun _ _ _ _ _ _ us hl => match us, hl with | [_, _], _ => rfl
    f__law_rule := fnT_mk (st := s__law_rule) X G a14 l14 c14 k14 fun _ _ _ _ _ _ us hl => match us, hl with | [_], _ => rfl
    f__law_press := fnT_mk (st := s__law_press) X G a15 l15 c15 k15 fun _ _ _ _ _ _ us hl => match us, hl with | [_, _, _], _ => rfl
    f__law_steps := fnT_mk (st := s__law_steps) X G a16 l16 c16 k16 fun _ _ _ _ _ _ us hl => match us, hl with | [_, _], _ => rfl
    f__law_used := fnT_mk (st := s__law_used) X G a17 l17 c17 k17 fun _ _ _ _ _ _ us hl => match us, hl with | [_, _], _ => rfl
    f__law_error := fnT_mk (st := s__law_error) X G a18 l18 c18 k18 fun _ _ _ _ _ _ us hl => match us, hl with | [_, _, _, _], _ => rfl
    f__law_times := fnT_mk (st := s__law_times) X G a19 l19 c19 k19 fun _ _ _ _ _ _ us hl => match us, hl with | [_], _ => rfl
    b_ValueError := PySem.W.mg_none_of X G z_ValueError
    b_bool := PySem.W.mg_none_of X G z_bool
    b_enumerate := PySem.W.mg_none_of X G z_enumerate
    b_int := PySem.W.mg_none_of X G z_int
    b_isinstance := PySem.W.mg_none_of X G z_isinstance
    b_len := PySem.W.mg_none_of X G z_len
    b_max := PySem.W.mg_none_of X G z_max
    b_min := PySem.W.mg_none_of X G z_min
    b_range := PySem.W.mg_none_of X G z_range
    b_set := PySem.W.mg_none_of X G z_set
    b_sorted := PySem.W.mg_none_of X G z_sorted
    b_str := PySem.W.mg_none_of X G z_str
    b_tuple := PySem.W.mg_none_of X G z_tuple
    L := lokM K mg _
    own := fun _ _ H q => q H }
  refine ⟨PySem.W.fnOf "law" "law" (defArgs s_law) (defBody s_law) (defScope s_law) .none kV20 dc20 pm20 an20 (.ref (codA cd20)) ct20, [(codA cd20, tabAt K (codA cd20))], spLawT K (tabAt K (codA cd20)), fun p hp => ?_, fun p hp => ?_, fun p hp => ?_, fun s v => .of_eq rfl, fun H a ns hl _ hT hS => ⟨a, ns, rfl, hl, hS, hT _ (List.mem_singleton.mpr rfl), fun _ _ h => h⟩, fun base _ _ hTB => ?_⟩
  · rw [List.mem_singleton.mp hp]; exact hTab
  · rw [List.mem_singleton.mp hp]; exact nTab
  · rw [List.mem_singleton.mp hp]; exact PySem.W.codeHd_of_K X hCd
  have TB := hTB _ (List.mem_singleton.mpr rfl)
  have C_is_integer := ok_is_integer (P := l.prog) (w := w) (base := base) T
  have C_taken := ok_taken (P := l.prog) (w := w) (base := base) T
  have C_left_at := ok_left_at (P := l.prog) (w := w) (base := base) T
  have C__law_cell_at := ok__law_cell_at (P := l.prog) (w := w) (base := base) T
  have C__law_draws := ok__law_draws (P := l.prog) (w := w) (base := base) T
  have C__law_take := ok__law_take (P := l.prog) (w := w) (base := base) T
  have C__law_press := ok__law_press (P := l.prog) (w := w) (base := base) T
  have C__law_times := ok__law_times (P := l.prog) (w := w) (base := base) T
  have C_is_rule := ok_is_rule (P := l.prog) (w := w) (base := base) T C_is_integer
  have C_need_time := ok_need_time (P := l.prog) (w := w) (base := base) T C_is_integer
  have C_all_rows := ok_all_rows (P := l.prog) (w := w) (base := base) T C_left_at C_taken
  have C__law_bag := ok__law_bag (P := l.prog) (w := w) (base := base) T C__law_draws C__law_cell_at
  have C__law_rule := ok__law_rule (P := l.prog) (w := w) (base := base) T C__law_take
  have C__law_steps := ok__law_steps (P := l.prog) (w := w) (base := base) T C__law_press
  have C_need_rule := ok_need_rule (P := l.prog) (w := w) (base := base) T C_is_rule
  have C__law_bags := ok__law_bags (P := l.prog) (w := w) (base := base) T C__law_bag
  have C__law_used := ok__law_used (P := l.prog) (w := w) (base := base) T C__law_steps
  have C_count_rows := ok_count_rows (P := l.prog) (w := w) (base := base) T C_need_rule C_need_time C_all_rows
  have C_row_at := ok_row_at (P := l.prog) (w := w) (base := base) T C_need_rule C_need_time C_all_rows
  have E_need_time := oke_need_time (P := l.prog) (w := w) (base := base) T C_is_integer
  have E_count_rows := oke_count_rows (P := l.prog) (w := w) (base := base) T C_need_rule C_need_time C_all_rows E_need_time
  have E_row_at := oke_row_at (P := l.prog) (w := w) (base := base) T C_need_rule C_need_time C_all_rows E_need_time
  have C__law_errorL_count_rows := fun (q : Str) (p1 p2 p3 q0 q1 q2 q3 : Pos) => ok__law_errorL (P := l.prog) (w := w) (base := base) T (q := q) (S := fun ds en => spe_count_rows (ds.take 2) en) (lamok_up (lamok2 E_count_rows (by decide +kernel) (by decide +kernel) p1 p2 p3 q0 q1 q2 q3) (by decide)) (fun ds en h => by
    have e := spe_count_rows_n h
    subst e; exact T.x_InvalidTime) (fun ds en h => by have e := spe_count_rows_n h; subst e; decide +kernel)
  have C__law_error := ok__law_error (P := l.prog) (w := w) (base := base) T (S := sErr_k11) (held_mk (by
    rintro nm ⟨ds0, en0, hS⟩
    rcases hS with ⟨rfl, _⟩
    · exact ⟨_, _, (by decide : 4 ≤ 5), E_row_at, fun ds en h => by
        rcases h with ⟨_, h⟩
        · exact h, T.fn_row_at⟩)) (fun nm ds en h => by
    have e := sErr_k11_n nm ds en h
    rcases e with rfl | rfl
    · exact T.x_InvalidNumber
    · exact T.x_InvalidTime) (fun nm ds en h => by
    have e := sErr_k11_n nm ds en h
    rcases e with rfl | rfl
    · decide +kernel
    · decide +kernel)
  refine (ok_law (F := ⟨_, _, _, _, _, _, _, _, rfl, by rw [← cc]; exact l20, by rw [← cc]; exact c20⟩) TB T C__law_bags C__law_rule C__law_take C__law_times C__law_used C_count_rows C_row_at C__law_error C__law_errorL_count_rows).imp (spLawT_of fun _ _ q => q)
end LW
open PySem PySem.W PyProof.Rows
set_option maxHeartbeats 0 in
theorem PySem.Challenge.cw_chargerules_k11_rows_counted_holds : PySem.Challenge.rw_chargerules_k11_rows_counted.Holds := by
  w_on; o_law; k_head; (case hw => w_witness2)
  k_fill
  refine LamX.walk_ofTs (l := PySem.Challenge.rw_chargerules_k11_rows_counted) (n := 63) (k := 7) (x := "script") (CX := fun _ => L2.CX0) rfl (by decide) rfl ⟨rfl, by decide, by decide⟩ (fun w h Y => PySem.W.km_in_of Y) ?F (fun _ _ _ _ _ h => h)
  case F =>
    intro w mg fa h Y KX G hmg
    have hT8 := PySem.W.km_tabs_of Y
    refine' LW.all_mk KX G hmg ?a0 ?l0 ?c0 ?k0 ?a1 ?l1 ?c1 ?k1 ?a2 ?l2 ?c2 ?k2 ?a3 ?l3 ?c3 ?k3 ?a4 ?l4 ?c4 ?k4 ?a5 ?l5 ?c5 ?k5 ?a6 ?l6 ?c6 ?k6 ?a7 ?l7 ?c7 ?k7 ?a8 ?l8 ?c8 ?k8 ?a9 ?l9 ?c9 ?k9 ?a10 ?l10 ?c10 ?k10 ?a11 ?l11 ?c11 ?k11 ?a12 ?l12 ?c12 ?k12 ?a13 ?l13 ?c13 ?k13 ?a14 ?l14 ?c14 ?k14 ?a15 ?l15 ?c15 ?k15 ?a16 ?l16 ?c16 ?k16 ?a17 ?l17 ?c17 ?k17 ?a18 ?l18 ?c18 ?k18 ?a19 ?l19 ?c19 ?k19 ?a20 ?l20 ?c20 ?k20 ?z_ValueError ?z_bool ?z_enumerate ?z_int ?z_isinstance ?z_len ?z_max ?z_min ?z_range ?z_set ?z_sorted ?z_str ?z_tuple ?x_KINDS ?y_KINDS ?n_ChargeError ?hd_ChargeError ?ty_ChargeError ?n_InvalidRule ?hd_InvalidRule ?ty_InvalidRule ?n_InvalidRow ?hd_InvalidRow ?ty_InvalidRow ?n_InvalidTime ?hd_InvalidTime ?ty_InvalidTime ?n_InvalidNumber ?hd_InvalidNumber ?ty_InvalidNumber ?n_InvalidKind ?hd_InvalidKind ?ty_InvalidKind ?n_InvalidOutcomes ?hd_InvalidOutcomes ?ty_InvalidOutcomes ?n_TooMany ?hd_TooMany ?ty_TooMany ?n_NothingToUndo ?hd_NothingToUndo ?ty_NothingToUndo ?sb_ChargeError ?kp_InvalidNumber ?xi_InvalidNumber ?sb_InvalidNumber ?hg_InvalidNumber ?hk_InvalidNumber ?ha_InvalidNumber ?hm_InvalidNumber ?sv_InvalidNumber ?sC_InvalidNumber ?k_InvalidRule_InvalidNumber ?k_InvalidRow_InvalidNumber ?k_InvalidTime_InvalidNumber ?k_InvalidNumber_InvalidNumber ?k_InvalidKind_InvalidNumber ?k_InvalidOutcomes_InvalidNumber ?k_TooMany_InvalidNumber ?k_NothingToUndo_InvalidNumber ?kp_InvalidTime ?xi_InvalidTime ?sb_InvalidTime ?hg_InvalidTime ?hk_InvalidTime ?ha_InvalidTime ?hm_InvalidTime ?sv_InvalidTime ?sC_InvalidTime ?k_InvalidRule_InvalidTime ?k_InvalidRow_InvalidTime ?k_InvalidTime_InvalidTime ?k_InvalidNumber_InvalidTime ?k_InvalidKind_InvalidTime ?k_InvalidOutcomes_InvalidTime ?k_TooMany_InvalidTime ?k_NothingToUndo_InvalidTime ?hn_o ?ht_o ?cc ?hTab ?nTab ?hCd
    (case a0 => k_is); (case l0 => k_is); (case c0 => k_is); (case k0 => k_is); (case a1 => k_is); (case l1 => k_is); (case c1 => k_is); (case k1 => k_is); (case a2 => k_is); (case l2 => k_is); (case c2 => k_is); (case k2 => k_is); (case a3 => k_is); (case l3 => k_is); (case c3 => k_is); (case k3 => k_is); (case a4 => k_is); (case l4 => k_is); (case c4 => k_is); (case k4 => k_is); (case a5 => k_is); (case l5 => k_is); (case c5 => k_is); (case k5 => k_is); (case a6 => k_is); (case l6 => k_is); (case c6 => k_is); (case k6 => k_is); (case a7 => k_is); (case l7 => k_is); (case c7 => k_is); (case k7 => k_is); (case a8 => k_is); (case l8 => k_is); (case c8 => k_is); (case k8 => k_is); (case a9 => k_is); (case l9 => k_is); (case c9 => k_is); (case k9 => k_is); (case a10 => k_is); (case l10 => k_is); (case c10 => k_is); (case k10 => k_is); (case a11 => k_is); (case l11 => k_is); (case c11 => k_is); (case k11 => k_is); (case a12 => k_is); (case l12 => k_is); (case c12 => k_is); (case k12 => k_is); (case a13 => k_is); (case l13 => k_is); (case c13 => k_is); (case k13 => k_is); (case a14 => k_is); (case l14 => k_is); (case c14 => k_is); (case k14 => k_is); (case a15 => k_is); (case l15 => k_is); (case c15 => k_is); (case k15 => k_is); (case a16 => k_is); (case l16 => k_is); (case c16 => k_is); (case k16 => k_is); (case a17 => k_is); (case l17 => k_is); (case c17 => k_is); (case k17 => k_is); (case a18 => k_is); (case l18 => k_is); (case c18 => k_is); (case k18 => k_is); (case a19 => k_is); (case l19 => k_is); (case c19 => k_is); (case k19 => k_is); (case a20 => k_is); (case l20 => k_is); (case c20 => k_is); (case k20 => k_is); (case z_ValueError => k_is); (case z_bool => k_is); (case z_enumerate => k_is); (case z_int => k_is); (case z_isinstance => k_is); (case z_len => k_is); (case z_max => k_is); (case z_min => k_is); (case z_range => k_is); (case z_set => k_is); (case z_sorted => k_is); (case z_str => k_is); (case z_tuple => k_is); (case x_KINDS => k_is); (case y_KINDS => k_is); (case n_ChargeError => k_is); (case hd_ChargeError => k_is); (case ty_ChargeError => k_is); (case n_InvalidRule => k_is); (case hd_InvalidRule => k_is); (case ty_InvalidRule => k_is); (case n_InvalidRow => k_is); (case hd_InvalidRow => k_is); (case ty_InvalidRow => k_is); (case n_InvalidTime => k_is); (case hd_InvalidTime => k_is); (case ty_InvalidTime => k_is); (case n_InvalidNumber => k_is); (case hd_InvalidNumber => k_is); (case ty_InvalidNumber => k_is); (case n_InvalidKind => k_is); (case hd_InvalidKind => k_is); (case ty_InvalidKind => k_is); (case n_InvalidOutcomes => k_is); (case hd_InvalidOutcomes => k_is); (case ty_InvalidOutcomes => k_is); (case n_TooMany => k_is); (case hd_TooMany => k_is); (case ty_TooMany => k_is); (case n_NothingToUndo => k_is); (case hd_NothingToUndo => k_is); (case ty_NothingToUndo => k_is); (case sb_ChargeError => k_is); (case kp_InvalidNumber => k_is); (case xi_InvalidNumber => k_exc); (case sb_InvalidNumber => k_is); (case hg_InvalidNumber => k_is); (case hk_InvalidNumber => k_is); (case ha_InvalidNumber => k_is); (case hm_InvalidNumber => k_is); (case sv_InvalidNumber => k_is); (case sC_InvalidNumber => k_is); (case k_InvalidRule_InvalidNumber => k_is); (case k_InvalidRow_InvalidNumber => k_is); (case k_InvalidTime_InvalidNumber => k_is); (case k_InvalidNumber_InvalidNumber => k_is); (case k_InvalidKind_InvalidNumber => k_is); (case k_InvalidOutcomes_InvalidNumber => k_is); (case k_TooMany_InvalidNumber => k_is); (case k_NothingToUndo_InvalidNumber => k_is); (case kp_InvalidTime => k_is); (case xi_InvalidTime => k_exc); (case sb_InvalidTime => k_is); (case hg_InvalidTime => k_is); (case hk_InvalidTime => k_is); (case ha_InvalidTime => k_is); (case hm_InvalidTime => k_is); (case sv_InvalidTime => k_is); (case sC_InvalidTime => k_is); (case k_InvalidRule_InvalidTime => k_is); (case k_InvalidRow_InvalidTime => k_is); (case k_InvalidTime_InvalidTime => k_is); (case k_InvalidNumber_InvalidTime => k_is); (case k_InvalidKind_InvalidTime => k_is); (case k_InvalidOutcomes_InvalidTime => k_is); (case k_TooMany_InvalidTime => k_is); (case k_NothingToUndo_InvalidTime => k_is); (case hn_o => k_is); (case ht_o => k_is)
    (case cc => rfl); (case hTab => exact hT8 _ (List.mem_singleton.mpr (by kernel_rfl))); (case nTab => kernel_rfl); (case hCd => kernel_rfl)
