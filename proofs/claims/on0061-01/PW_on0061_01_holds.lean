import PyProof.Rows.All
import Wide.All
import OpenK.AllK
import Wide.FinOn
import PySem.Challenge.RW_on0061_01
open PySem PySem.W PyProof.Rows PySem.Calls
set_option Elab.async false
namespace Mine
section PartHeadA
set_option maxRecDepth 100000 in
set_option maxHeartbeats 8000000 in
open_top hd for PySem.Challenge.rw_on0061_01
end PartHeadA
noncomputable section PartBase
noncomputable abbrev PP : Program := Challenge.rw_on0061_01.row.prog
noncomputable abbrev lso : List Str := looseW hd.view_39 [Str.ofString "NIL", Str.ofString "list_of"]
/-- the deck: a list of the cells' list and the count -/
abbrev deckO (aC : Addr) (n : Int) (t : Tok) (k : Nat) : Obj := { cls := .type "list", data := .seq [Value.ref aC, Value.int n t].toArray k }
/-- a list object, its counter left open -/
abbrev lstK (vs : List Value) (k : Nat) : Obj := { cls := .type "list", data := .seq vs.toArray k }
/-- a callee's ledger is the caller's -/
theorem news_back {h₀ g h' : Heap} {L L' : Addr} {m₀ : Str → Option Value} {new' : List (Addr × Obj)} (FG : Fr h₀ L g m₀) (N' : News g L' h' new') : News h₀ L h' new' := fun p hp => by
  obtain ⟨e, _, hn⟩ := N' p hp
  refine ⟨e, fun q => ?_, ?_⟩
  · obtain ⟨o, _, _, hL, _⟩ := FG.ns
    rw [q, hL] at hn; cases hn
  · cases q : h₀.get? p.1 with
    | none => rfl
    | some o => rw [FG.keep _ _ q] at hn; cases hn
/-- what lay above a call's own ledger lies there still -/
theorem news_frame {h₀ h g h' : Heap} {L L' : Addr} {m₀ m' : Str → Option Value} {news sub new' all : List (Addr × Obj)} (FG : Fr h₀ L g m₀) (N : News h₀ L h news) (G : GSub h g (sub.map (·.1))) (F' : Fr g L' h' m') (N' : News g L' h' new')
    (hs : ∀ p ∈ all, p ∈ new' ∨ (p ∈ news ∧ p.1 ∉ sub.map (·.1))) : News h₀ L h' all := fun p hp => by
  rcases hs p hp with h1 | ⟨h1, h2⟩
  · exact news_back FG N' p h1
  · exact ⟨F'.keep _ _ (G _ _ (N p h1).1 h2), (N p h1).2⟩
theorem updF_all {d : Addr} {o : Obj} {l : List (Addr × Obj)} {g : Obj → List (Addr × Obj)} (U : UpdF d o l g) (o' : Obj) : ∀ p ∈ g o', p = (d, o') ∨ (p ∈ l ∧ p.1 ≠ d) := by
  obtain ⟨pre, post, rfl, e, a, b⟩ := U.split
  intro p hp
  rw [e] at hp
  rcases List.mem_append.mp hp with h | h
  · exact .inr ⟨List.mem_append.mpr (.inl h), a p h⟩
  · rcases List.mem_cons.mp h with h | h
    · exact .inl h
    · exact .inr ⟨List.mem_append.mpr (.inr (.tail _ h)), b p h⟩
theorem updF_mem {d : Addr} {o : Obj} {l : List (Addr × Obj)} {g : Obj → List (Addr × Obj)} (U : UpdF d o l g) : (d, o) ∈ l := by
  obtain ⟨pre, post, rfl, e, a, b⟩ := U.split
  exact List.mem_append.mpr (.inr (.head _))
theorem new_off {h₀ h g h' : Heap} {L L' : Addr} {news sub tl : List (Addr × Obj)} (N : News h₀ L h news) (G : GSub h g (sub.map (·.1))) (N' : News g L' h' tl) (hs : ∀ p ∈ tl, p.1 ∉ sub.map (·.1)) : ∀ p ∈ tl, ∀ q ∈ news, p.1 ≠ q.1 := fun p hp q hq e => by
  have h1 := (N' p hp).2.2
  rw [G _ _ (e ▸ (N q hq).1) (hs p hp)] at h1
  cases h1
abbrev S (x : String) : Str := Str.ofString x
abbrev tupO (vs : List Value) (k : Nat) : Obj := { cls := .type "tuple", data := .seq vs.toArray k }
/-- a plan: what the law draws up; a list of plans is one of nil and cons; no tail is nil -/
inductive Pl where
  | sym (x : Str)
  | text (x : Str)
  | whole (i : Int)
  | list (items tail : Pl)
  | nil
  | cons (h t : Pl)
mutual
/-- the ledger bears the plan at v -/
inductive PlR (N : List (Addr × Obj)) : Value → Pl → Prop
  | sym {a : Addr} {t₁ t₂ : Tok} {k : Nat} {x : Str} : (a, tupO [.str (S "symbol") t₁, .str x t₂] k) ∈ N → PlR N (.ref a) (.sym x)
  | text {a : Addr} {t₁ t₂ : Tok} {k : Nat} {x : Str} : (a, tupO [.str (S "text") t₁, .str x t₂] k) ∈ N → PlR N (.ref a) (.text x)
  | whole {a : Addr} {t₁ t₂ : Tok} {k : Nat} {i : Int} : (a, tupO [.str (S "whole") t₁, .int i t₂] k) ∈ N → PlR N (.ref a) (.whole i)
  | list {a l : Addr} {t₁ : Tok} {tv : Value} {k kl : Nat} {vs : List Value} {items tail : Pl} : (a, tupO [.str (S "list") t₁, .ref l, tv] k) ∈ N → (l, lstK vs kl) ∈ N → PlsR N vs items → TlR N tv tail → PlR N (.ref a) (.list items tail)
/-- the values of a list of plans -/
inductive PlsR (N : List (Addr × Obj)) : List Value → Pl → Prop
  | nil : PlsR N [] .nil
  | cons {v : Value} {vs : List Value} {p ps : Pl} : PlR N v p → PlsR N vs ps → PlsR N (v :: vs) (.cons p ps)
/-- a tail: None, or a plan -/
inductive TlR (N : List (Addr × Obj)) : Value → Pl → Prop
  | none : TlR N .none .nil
  | some {v : Value} {p : Pl} : PlR N v p → TlR N v p
end
mutual
theorem PlR.mono {N N' : List (Addr × Obj)} (hs : ∀ p ∈ N, p ∈ N') : ∀ {v : Value} {P : Pl}, PlR N v P → PlR N' v P
  | _, _, .sym h => .sym (hs _ h)
  | _, _, .text h => .text (hs _ h)
  | _, _, .whole h => .whole (hs _ h)
  | _, _, .list h1 h2 h3 h4 => .list (hs _ h1) (hs _ h2) (h3.mono hs) (h4.mono hs)
theorem PlsR.mono {N N' : List (Addr × Obj)} (hs : ∀ p ∈ N, p ∈ N') : ∀ {v : List Value} {P : Pl}, PlsR N v P → PlsR N' v P
  | _, _, .nil => .nil
  | _, _, .cons h1 h2 => .cons (h1.mono hs) (h2.mono hs)
theorem TlR.mono {N N' : List (Addr × Obj)} (hs : ∀ p ∈ N, p ∈ N') : ∀ {v : Value} {P : Pl}, TlR N v P → TlR N' v P
  | _, _, .none => .none
  | _, _, .some h => .some (h.mono hs)
end
theorem PlR.at {N : List (Addr × Obj)} {a : Addr} {o : Obj} {P : Pl} (hm : (a, o) ∈ N) (k : (a, o) ∈ N → PlR N (.ref a) P) : PlR N (.ref a) P := k hm
abbrev Pl.one (p : Pl) : Pl := .cons p .nil
abbrev Pl.two (p q : Pl) : Pl := .cons p (.cons q .nil)
abbrev Pl.int : Pl := .sym (S "interactive")
/-- what _law_spec draws -/
inductive SpecOk : Pl → Prop
  | t1 : SpecOk (.list (.two .int (.text (S "p"))) .nil)
  | t2 : SpecOk (.list (.two .int (.text (S "r\nP"))) .nil)
  | t3 : SpecOk (.list (.two .int (.text (S ""))) .nil)
  | t4 : SpecOk (.list (.two .int (.text (S "*sName: "))) .nil)
  | w : SpecOk (.list (.two .int (.whole 5)) .nil)
  | n : SpecOk (.list (.one .int) .nil)
  | d : SpecOk (.list (.one .int) (.text (S "p")))
  | s1 : SpecOk (.list (.cons .int (.two (.sym (S "p")) (.text (S "p")))) .nil)
  | s2 : SpecOk (.list (.cons .int (.two (.sym (S "p")) (.text (S "p")))) (.whole 1))
/-- what _law_form draws -/
inductive FormOk : Pl → Prop
  | spec {P : Pl} : SpecOk P → FormOk P
  | told : FormOk (.text (S "told"))
  | sym : FormOk .int
  | progn {P : Pl} : SpecOk P → FormOk (.list (.two (.sym (S "progn")) P) .nil)
  | inn {P : Pl} : SpecOk P → FormOk (.list (.two P (.text (S "p"))) .nil)
  | whole {i : Int} : FormOk (.whole i)
theorem app_app {α : Type} {t l r m : List α} (h : l ++ r = m) : (t ++ l) ++ r = t ++ m := by rw [← h, List.append_assoc]
theorem allLt_app {d : Addr} {l r : List (Addr × Obj)} : AllLt d (l ++ r) ↔ AllLt d l ∧ AllLt d r := by
  induction l with
  | nil => simp [AllLt]
  | cons p l ih => simp only [List.cons_append, AllLt, ih, and_assoc]
theorem off_use {tl news : List (Addr × Obj)} {p : Addr × Obj} {a : Addr} {o : Obj} (h : ∀ p ∈ tl, ∀ q ∈ news, p.1 ≠ q.1) (hp : p ∈ tl) (hm : (a, o) ∈ news) : p.1 ≠ a := h p hp _ hm
/-- a Lisp datum -/
inductive Lsp where
  | nil
  | sym (x : Str)
  | text (x : Str)
  | int (i : Int)
  | cons (a b : Lsp)
/-- the ledger bears the datum at v -/
inductive LspR (N : List (Addr × Obj)) : Value → Lsp → Prop
  | nil : LspR N (.ref 37) .nil
  | sym {x dx : Addr} {h₁ h₂ : Int} {t₁ t₂ t₃ : Tok} {n : Nat} {v : Value} {y : Str} : (x, instObj 31 dx) ∈ N → (dx, dictOf [⟨h₁, .str (S "number") t₁, v⟩, ⟨h₂, .str (S "name") t₂, .str y t₃⟩] n) ∈ N → LspR N (.ref x) (.sym y)
  | text {x dx c : Addr} {h₁ h₂ : Int} {t₁ t₂ : Tok} {n k : Nat} {vs : List Value} {y : Str} : (x, instObj 77 dx) ∈ N → (dx, dictOf [⟨h₁, .str (S "codes") t₁, .ref c⟩, ⟨h₂, .str (S "spans") t₂, .none⟩] n) ∈ N → (c, lstK vs k) ∈ N →
      IntsAre vs (y.cps.toList.map Int.ofNat) → LspR N (.ref x) (.text y)
  | int {i : Int} {t : Tok} : LspR N (.int i t) (.int i)
  | cons {x dx : Addr} {h₁ h₂ : Int} {t₁ t₂ : Tok} {n : Nat} {v u : Value} {a b : Lsp} : (x, instObj 55 dx) ∈ N → (dx, dictOf [⟨h₁, .str (S "car") t₁, v⟩, ⟨h₂, .str (S "cdr") t₂, u⟩] n) ∈ N → LspR N v a → LspR N u b → LspR N (.ref x) (.cons a b)
theorem LspR.mono {N N' : List (Addr × Obj)} (hs : ∀ p ∈ N, p ∈ N') {v : Value} {D : Lsp} (h : LspR N v D) : LspR N' v D := by
  induction h with
  | nil => exact .nil
  | sym h1 h2 => exact .sym (hs _ h1) (hs _ h2)
  | text h1 h2 h3 h4 => exact .text (hs _ h1) (hs _ h2) (hs _ h3) h4
  | int => exact .int
  | cons h1 h2 _ _ i1 i2 => exact .cons (hs _ h1) (hs _ h2) i1 i2
/-- the values of a list of data -/
inductive LspsR (N : List (Addr × Obj)) : List Value → List Lsp → Prop
  | nil : LspsR N [] []
  | cons {v : Value} {vs : List Value} {D : Lsp} {Ds : List Lsp} : LspR N v D → LspsR N vs Ds → LspsR N (v :: vs) (D :: Ds)
theorem LspsR.length {N : List (Addr × Obj)} {vs : List Value} {Ds : List Lsp} (h : LspsR N vs Ds) : vs.length = Ds.length := by
  induction h with
  | nil => rfl
  | cons _ _ ih => simp [ih]
theorem LspsR.get {N : List (Addr × Obj)} {vs : List Value} {Ds : List Lsp} (h : LspsR N vs Ds) : ∀ (i : Nat), i < vs.length → ∃ v D, vs[i]? = some v ∧ Ds[i]? = some D ∧ LspR N v D := by
  induction h with
  | nil => intro i hi; exact absurd hi (Nat.not_lt_zero _)
  | cons h1 _ ih =>
    intro i hi
    cases i with
    | zero => exact ⟨_, _, rfl, rfl, h1⟩
    | succ i => simpa using ih i (by simpa using hi)
theorem LspsR.mono {N N' : List (Addr × Obj)} (hs : ∀ p ∈ N, p ∈ N') {vs : List Value} {Ds : List Lsp} (h : LspsR N vs Ds) : LspsR N' vs Ds := by
  induction h with
  | nil => exact .nil
  | cons h1 _ ih => exact .cons (h1.mono hs) ih
def lspList : List Lsp → Lsp → Lsp
  | [], t => t
  | d :: r, t => .cons d (lspList r t)
def Stopped (p : Prop) : Prop := p
theorem stopped {p : Prop} (h : Stopped p) : p := h
/-- what stood at the call -/
def Old (g : Heap) (news : List (Addr × Obj)) : Prop := ∀ p ∈ news, g.get? p.1 = some p.2
theorem old_of {h₀ h g : Heap} {L : Addr} {news : List (Addr × Obj)} (N : News h₀ L h news) (G : GSub h g (([] : List (Addr × Obj)).map (·.1))) : Old g news := fun p hp => G _ _ (N p hp).1 (by simp)
theorem Old.inst {g h : Heap} {L x C dx : Addr} {m : Str → Option Value} {news : List (Addr × Obj)} {od : Obj} {sl : Array (Option Value)} (F : Fr g L h m) (O : Old g news) (h1 : (x, (⟨.ref C, some dx, .plain, sl⟩ : Obj)) ∈ news) (h2 : (dx, od) ∈ news) :
    InstAt h x ⟨.ref C, some dx, .plain, sl⟩ C (some od) := ⟨F.keep _ _ (O _ h1), rfl, rfl, F.keep _ _ (O _ h2)⟩
theorem Old.tup {g h : Heap} {L x : Addr} {m : Str → Option Value} {news : List (Addr × Obj)} {vs : List Value} {k : Nat} (F : Fr g L h m) (O : Old g news) (h1 : (x, tupO vs k) ∈ news) : IsTup h x vs.toArray := ⟨_, F.keep _ _ (O _ h1), rfl, _, rfl⟩
theorem Old.lst {g : Heap} {x : Addr} {news : List (Addr × Obj)} {vs : List Value} {k : Nat} (O : Old g news) (h1 : (x, lstK vs k) ∈ news) : g.IsList x vs.toArray := ⟨_, O _ h1, rfl, _, rfl⟩
theorem item_list {prog : Program} {w : World} {A : Around} {E : Value → Shared → Prop} {s : Shared} {value slice : PySem.Expr} {l : Addr} {vs : List Value} {k : Int} {u : Tok} {v : Value} {Q : Value → Shared → Prop}
    (hl : s.heap.IsList l vs.toArray) (h0 : 0 ≤ k) (hhi : k < 2 ^ 63) (hx : vs[k.toNat]? = some v) (h : Q v s)
    (hs : subscripted slice false (.ref l) (.int k u) = operate [.ref l, .int k u] (getItem (.ref l) (.int k u)) := by with_unfolding_all rfl) :
    wpAny (model prog w) A (subscriptTail value slice (.ref l) (.int k u)) Q E s :=
  tail_any hl.typeIs slot_list_getitem.lookup (wpAny_getItem_list hl h0 hhi (by simpa using hx) h) hs
theorem len_base {prog : Program} {w : World} {A : Around} {E : Value → Shared → Prop} {s : Shared} {l : Addr} {vs : List Value} {Q : Value → Shared → Prop} (hl : s.heap.IsList l vs.toArray) (hz : vs.length ≤ 16384) (h : Q (.int vs.length (s.toks + 1)) { s with toks := s.toks + 1 + 1 }) :
    wpAny (model prog w) A (call (.builtin "len") [.ref l]) Q E s := by
  have e : (vs.toArray.size : Int) = vs.length := by simp
  refine len_list hl (by rw [e]; omega) ?_
  rw [e]; exact h
open PyProof.V PySem.Spec in
/-- a for over a range by ones, down: what holds between the turns, over frame and ledger -/
theorem range_down {prog : Program} {w : World} {A : Around} {E : Value → Shared → Prop} {s : Shared} {env : Env} {h₀ : Heap} {x : Str} {body : List Stmt} {Q : Flow → Shared → Prop} {r : Addr} {a₀ b₀ : Int} {t₀ u₀ v₀ : Tok} {n : Nat} {m₀ : Str → Option Value} {news : List (Addr × Obj)} (J : Nat → (Str → Option Value) → List (Addr × Obj) → Prop)
    (hh : A.handled = none) (hr : IsRange s.heap r a₀ b₀ (-1) t₀ u₀ v₀) (hsmall : Builtin.Range.small a₀ b₀ (-1) = true) (hn : Builtin.Range.rangeSize a₀ b₀ (-1) = (n : Int)) (F : Fr h₀ env.locals s.heap m₀) (N : News h₀ env.locals s.heap news) (hj : J 0 m₀ news)
    (turn : ∀ i t m₁ nx h tk own, i < n → TbOff own nx → J i m₁ nx → Fr h₀ env.locals h (fun y => if y = x then some (.int (a₀ - (i : Int)) t) else m₁ y) → News h₀ env.locals h (nx ++ own) →
      wpAny (model prog w) A (execs body env) (TbPost h₀ env.locals (J (i + 1)) own { s with heap := h, toks := tk } Q) E { s with heap := h, toks := tk })
    (done : ∀ m₁ nx h tk, J n m₁ nx → Fr h₀ env.locals h m₁ → News h₀ env.locals h nx → Q .next { s with heap := h, toks := tk }) :
    wpAny (model prog w) A (pyIter (.ref r)) (fun it s₂ => LoopAtV prog w A h₀ env x body Q E it s₂) E s := by
  refine wpAny_pyIter_range hr hsmall ?_
  have W : Walks prog w A s.heap.objs.size [s.heap.objs.size] [s.heap.objs.size] n (fun i v => i < n ∧ ∃ t, v = .int (a₀ + i * (-1)) t)
      (fun i h => IsRangeIter h s.heap.objs.size (a₀ + (i : Nat) * (-1)) ((n : Int) - (i : Nat)) (-1)) := (Walks.range hh _ a₀ (-1) n).bound
  refine tbr_loop J W (fun _ h => h) (fun _ h => h) ?_ ?_ ?_ ?_ (by show IsRangeIter _ _ _ _ _; rw [hn]; simpa using Heap.get?_push_size _ rfl) (F.push _) (fun p hp => ⟨Heap.get?_push_of_some _ (N p hp).1, (N p hp).2⟩) hj ?_ ?_
  · intro i h hi b hb
    rw [List.mem_singleton.mp hb]
    exact ⟨_, hi⟩
  · intro hm
    exact absurd F.ns.lt ((List.mem_singleton.mp hm) ▸ Nat.lt_irrefl _)
  · intro b hb
    rw [List.mem_singleton.mp hb]
    exact next_is_new F
  · intro p hp hI
    exact absurd (Heap.lt_size (N p hp).1) ((List.mem_singleton.mp hI) ▸ Nat.lt_irrefl _)
  · rintro i v m₁ nx h tk own hi ⟨_, t, rfl⟩ hoff hJ F₁ N₁
    have e1 : a₀ + (i : Int) * (-1) = a₀ - (i : Int) := by omega
    rw [e1] at F₁
    exact turn i t m₁ nx h tk own hi hoff hJ F₁ N₁
  · exact done
/-- the same where a turn stores one name -/
theorem range_down1 {prog : Program} {w : World} {A : Around} {E : Value → Shared → Prop} {s : Shared} {env : Env} {h₀ : Heap} {x : Str} {body : List Stmt} {Q : Flow → Shared → Prop} {r : Addr} {a₀ b₀ : Int} {t₀ u₀ v₀ : Tok} {n : Nat} {m₀ : Str → Option Value} {news : List (Addr × Obj)} (y : Str) (J : Nat → Value → List (Addr × Obj) → Prop) {vy : Value}
    (hh : A.handled = none) (hr : IsRange s.heap r a₀ b₀ (-1) t₀ u₀ v₀) (hsmall : Builtin.Range.small a₀ b₀ (-1) = true) (hn : Builtin.Range.rangeSize a₀ b₀ (-1) = (n : Int)) (F : Fr h₀ env.locals s.heap m₀) (N : News h₀ env.locals s.heap news) (hy : m₀ y = some vy) (hj : J 0 vy news)
    (turn : ∀ i t v nx h tk own, i < n → TbOff own nx → J i v nx → Fr h₀ env.locals h (fun z => if z = x then some (.int (a₀ - (i : Int)) t) else if z = y then some v else m₀ z) → News h₀ env.locals h (nx ++ own) →
      wpAny (model prog w) A (execs body env) (TbPost h₀ env.locals (fun m' nx' => ∃ u' v', m' = (fun z => if z = x then u' else if z = y then some v' else m₀ z) ∧ J (i + 1) v' nx') own { s with heap := h, toks := tk } Q) E { s with heap := h, toks := tk })
    (done : ∀ u v nx h tk, J n v nx → Fr h₀ env.locals h (fun z => if z = x then u else if z = y then some v else m₀ z) → News h₀ env.locals h nx → Q .next { s with heap := h, toks := tk }) :
    wpAny (model prog w) A (pyIter (.ref r)) (fun it s₂ => LoopAtV prog w A h₀ env x body Q E it s₂) E s := by
  refine range_down (fun i m' nx => ∃ u' v', m' = (fun z => if z = x then u' else if z = y then some v' else m₀ z) ∧ J i v' nx) hh hr hsmall hn F N ⟨m₀ x, vy, ?_, hj⟩ ?_ ?_
  · funext z
    by_cases h1 : z = x
    · simp [h1]
    · by_cases h2 : z = y
      · simp only [h2, hy]; split <;> simp_all
      · simp [h1, h2]
  · rintro i t m₁ nx h tk own hi hoff ⟨u', v', rfl, hJ⟩ F₁ N₁
    have e : (fun z => if z = x then some (Value.int (a₀ - (i : Int)) t) else (if z = x then u' else if z = y then some v' else m₀ z)) = fun z => if z = x then some (Value.int (a₀ - (i : Int)) t) else if z = y then some v' else m₀ z := by
      funext z
      by_cases h1 : z = x <;> simp [h1]
    rw [e] at F₁
    exact turn i t v' nx h tk own hi hoff hJ F₁ N₁
  · rintro m₁ nx h tk ⟨u', v', rfl, hJ⟩ F₁ N₁
    exact done u' v' nx h tk hJ F₁ N₁
theorem lspList_step {vs : List Value} {Ds : List Lsp} {D d : Lsp} {i : Nat} (e : vs.length = Ds.length) (hi : i < vs.length) (hd : Ds[vs.length - 1 - i]? = some d) : lspList (Ds.drop (vs.length - (i + 1))) D = .cons d (lspList (Ds.drop (vs.length - i)) D) := by
  have h1 : vs.length - (i + 1) < Ds.length := by omega
  have h2 : vs.length - 1 - i = vs.length - (i + 1) := by omega
  rw [List.drop_eq_getElem_cons h1]
  rw [h2, List.getElem?_eq_getElem h1] at hd
  rw [Option.some.inj hd, show vs.length - (i + 1) + 1 = vs.length - i by omega]
  rfl
theorem allLt_ne {d : Addr} {l : List (Addr × Obj)} (h : AllLt d l) : ∀ p ∈ l, p.1 ≠ d := by
  induction l with
  | nil => exact fun _ hp => nomatch hp
  | cons q l ih => exact List.forall_mem_cons.mpr ⟨Nat.ne_of_lt h.1, ih h.2⟩
theorem old_off {g h' : Heap} {L' : Addr} {news tl : List (Addr × Obj)} (O : Old g news) (N' : News g L' h' tl) : ∀ p ∈ tl, ∀ q ∈ news, p.1 ≠ q.1 := fun p hp q hq e => by
  have h1 := (N' p hp).2.2
  rw [e, O q hq] at h1
  cases h1
/-- what a call made, on top of what stood there -/
theorem old_back {h₀ h g h' : Heap} {L L' : Addr} {m₀ m' : Str → Option Value} {news tl : List (Addr × Obj)} (FG : Fr h₀ L g m₀) (N : News h₀ L h news) (O : Old g news) (F' : Fr g L' h' m') (N' : News g L' h' tl) : News h₀ L h' (tl ++ news) := fun p hp => by
  rcases List.mem_append.mp hp with h1 | h1
  · exact news_back FG N' p h1
  · exact ⟨F'.keep _ _ (O p h1), (N p h1).2⟩
theorem tb_two {h₀ h' : Heap} {L : Addr} {m' : Str → Option Value} {J : (Str → Option Value) → List (Addr × Obj) → Prop} {s₁ : Shared} {tk : Nat} {p q : Addr × Obj} {rest nx own : List (Addr × Obj)} (F : Fr h₀ L h' m') (N : News h₀ L h' (p :: q :: rest)) (hr : rest = nx ++ own)
    (l1 : ∀ y ∈ rest, y.1 < q.1) (l2 : q.1 < p.1) (hoff : TbOff own nx) (hJ : J m' (p :: q :: nx)) : TbEnd h₀ L J own s₁ { s₁ with heap := h', toks := tk } := by
  subst hr
  refine ⟨h', tk, m', _, p :: q :: nx, rfl, F, N, ?_, fun y hy => .tail _ (.tail _ (List.mem_append.mpr (.inr hy))), ?_, hJ⟩
  · exact fun y hy => by
      rcases List.mem_cons.mp hy with rfl | hy
      · exact .head _
      · rcases List.mem_cons.mp hy with rfl | hy
        · exact .tail _ (.head _)
        · exact .tail _ (.tail _ (List.mem_append.mpr (.inl hy)))
  · intro y hy z hz
    have h1 := l1 y (List.mem_append.mpr (.inr hy))
    rcases List.mem_cons.mp hz with rfl | hz
    · exact Nat.ne_of_lt (Nat.lt_trans h1 l2)
    · rcases List.mem_cons.mp hz with rfl | hz
      · exact Nat.ne_of_lt h1
      · exact hoff y hy z hz
theorem map_swap {m₀ : Str → Option Value} {x y : Str} {a b c : Option Value} (h : y ≠ x) : (fun z => if z = y then b else if z = x then a else if z = y then c else m₀ z) = fun z => if z = x then a else if z = y then b else m₀ z := by
  funext z
  by_cases h1 : z = y
  · subst h1; simp [h]
  · simp [h1]
theorem old_in {h g : Heap} {N : List (Addr × Obj)} (O : Old h N) (G : GSub h g (([] : List (Addr × Obj)).map (·.1))) : Old g N := fun p hp => G _ _ (O p hp) (by simp)
theorem old_keep {g h : Heap} {L : Addr} {m : Str → Option Value} {N : List (Addr × Obj)} (F : Fr g L h m) (O : Old g N) : Old h N := fun p hp => F.keep _ _ (O p hp)
theorem old_news {h₀ h : Heap} {L : Addr} {N : List (Addr × Obj)} (NN : News h₀ L h N) : Old h N := fun p hp => (NN p hp).1
theorem old_cat {h : Heap} {N N' : List (Addr × Obj)} (O : Old h N) (O' : Old h N') : Old h (N ++ N') := fun p hp => (List.mem_append.mp hp).elim (O p) (O' p)
theorem old_nil {h : Heap} : Old h [] := fun _ hp => nomatch hp
theorem old_cons {h : Heap} {a : Addr} {o : Obj} {N : List (Addr × Obj)} (e : h.get? a = some o) (O : Old h N) : Old h ((a, o) :: N) := fun p hp => by
  rcases List.mem_cons.mp hp with rfl | hp
  · exact e
  · exact O p hp
/-- what a call made was not there before -/
def Fresh (h : Heap) (tl : List (Addr × Obj)) : Prop := ∀ p ∈ tl, h.get? p.1 = none
theorem fresh_of {h g h' : Heap} {L' : Addr} {tl : List (Addr × Obj)} (G : GSub h g (([] : List (Addr × Obj)).map (·.1))) (N' : News g L' h' tl) : Fresh h tl := fun p hp => by
  cases e : h.get? p.1 with
  | none => rfl
  | some o =>
    have h1 := (N' p hp).2.2
    rw [G _ _ e (by simp)] at h1
    cases h1
theorem Fresh.ne {h : Heap} {tl N : List (Addr × Obj)} (f : Fresh h tl) (O : Old h N) : ∀ p ∈ tl, ∀ q ∈ N, p.1 ≠ q.1 := fun p hp q hq e => by
  have h1 := f p hp
  rw [e, O q hq] at h1
  cases h1
/-- what a plan stands for: a datum; a list of plans: data -/
def Pl.sem : Pl → Lsp × List Lsp
  | .sym x => (if x = S "nil" then .nil else .sym x, [])
  | .text x => (.text x, [])
  | .whole i => (.int i, [])
  | .list items tail => (lspList items.sem.2 tail.sem.1, [])
  | .nil => (.nil, [])
  | .cons h t => (.nil, h.sem.1 :: t.sem.2)
def Pl.ht : Pl → Nat
  | .sym _ => 1
  | .text _ => 1
  | .whole _ => 1
  | .list items tail => max items.ht tail.ht + 1
  | .nil => 0
  | .cons h t => max h.ht t.ht
def TextOk (x : Str) : Prop := x = S "p" ∨ x = S "r\nP" ∨ x = S "" ∨ x = S "*sName: " ∨ x = S "told"
def Pl.len : Pl → Nat
  | .cons _ t => t.len + 1
  | _ => 0
def Pl.txt : Pl → Prop
  | .sym _ => True
  | .text x => TextOk x
  | .whole _ => True
  | .list items tail => items.txt ∧ tail.txt ∧ items.len ≤ 1000
  | .nil => True
  | .cons h t => h.txt ∧ t.txt
/-- the contract of _law_datum at a plan -/
def Dat (w : World) (P : Pl) : Prop := ∀ {dp un : Nat} {gd : Option (List Code)} {cn : Str} {cs : Scope} {a : Addr} {ccd : Value} {cl : List (Str × Addr)} {outer : List Env} {A₀ : Around} {base h₀ : Heap} {L : Addr} {m : Str → Option Value} {s : Shared} {mean : ExcName → Option Value} {mg mb : Str → Option Value} {Q E : Value → Shared → Prop} {news K : List (Addr × Obj)} {v : Value},
  Below A₀ base outer h₀ → Fr h₀ L s.heap m → (hd.heap_39 w.params).In h₀ → News h₀ L s.heap news → Top hd.view_39 lso mean mg mb h₀ → cs.kind = .function → Old s.heap K → PlR K v P → P.txt → dp + 2 * P.ht + 15 < recursionLimit →
  (∀ r tl h' tk', LspR (tl ++ K) r P.sem.1 → Fresh s.heap tl → Fr h₀ L h' m → News h₀ L h' (tl ++ news) → Q r { s with heap := h', toks := tk' }) →
  wpAny (model PP w) (ktrTop dp un gd cn cs L a ccd cl outer) (call (.ref 148) [v]) Q E s
def DatAll (w : World) : Pl → Prop
  | .cons h t => Dat w h ∧ DatAll w t
  | _ => True
theorem item_tup_base {prog : Program} {w : World} {A : Around} {E : Value → Shared → Prop} {s : Shared} {value slice : PySem.Expr} {g : Heap} {L t : Addr} {m : Str → Option Value} {l : List Value} {k : Int} {u : Tok} {j : Nat} {x : Value} {Q : Value → Shared → Prop} (F : Fr g L s.heap m) (ht : IsTup g t l.toArray)
    (hlo : -(2 ^ 63) ≤ k) (hhi : k < 2 ^ 63) (hj : seqIndex? k l.length = some j) (hx : l[j]? = some x) (h : Q x s)
    (hs : subscripted slice false (.ref t) (.int k u) = operate [.ref t, .int k u] (getItem (.ref t) (.int k u)) := by with_unfolding_all rfl) :
    wpAny (model prog w) A (subscriptTail value slice (.ref t) (.int k u)) Q E s := item_tupleT (IsTup.keeps ht F.keep) hlo hhi hj hx h hs
theorem Old.tupB {g : Heap} {x : Addr} {N : List (Addr × Obj)} {vs : List Value} {k : Nat} (O : Old g N) (h1 : (x, tupO vs k) ∈ N) : IsTup g x vs.toArray := ⟨_, O _ h1, rfl, _, rfl⟩
open LCg in
/-- the turns of a comprehension by an invariant over what has been made and the ledger -/
theorem compRest_ind {prog : Program} {w : World} {A : Around} {h₀ : Heap} {L : Addr} {m : Str → Option Value} {env : Env} {elt : Expr} {x : Str} {scope : Scope} {cl : List (Str × Addr)} {s : Shared} {Sx : List (Addr × Obj) → Prop} {P : Nat → Value → Prop} {Fin : List Value → List (Addr × Obj) → Prop} {n : Nat}
    (Inv : Nat → List Value → List (Addr × Obj) → Prop)
    (turn : ∀ i ys news, i < n → Inv i ys news → ∀ v I oI C oC D m₂ h tk (E' : Value → Shared → Prop), P i v → NsObj oC m₂ → m₂ x = some v → Fr h₀ L h m → News h₀ L h ((I, oI) :: (C, oC) :: (D, lst ys) :: news) → Off3 I C D news → ((@Ne Nat I C) ∧ (@Ne Nat I D) ∧ (@Ne Nat C D)) →
      wpAny (model prog w) A (eval elt (compEnvC scope cl C env)) (CompEnd h₀ L m { s with heap := h, toks := tk } I oI C oC D (lst ys) Sx (fun y news' => Inv (i + 1) (ys ++ [y]) news')) E' { s with heap := h, toks := tk })
    (fin : ∀ ys news, Inv n ys news → Fin ys news) : ∀ k i ys news, i + k = n → Inv i ys news → CompRest prog w A h₀ L m env elt x scope cl s Sx P Fin k i ys news := by
  intro k
  induction k with
  | zero => intro i ys news e hI; exact CompRest.zero (fin ys news (by rw [← e]; exact hI))
  | succ k ih =>
    intro i ys news e hI
    refine CompRest.succ fun v I oI C oC D m₂ h tk E' hP hC hx F N off ne => wpAny_mono (turn i ys news (by omega) hI v I oI C oC D m₂ h tk E' hP hC hx F N off ne) (fun y s₂ hy => ?_) fun _ _ e => e
    obtain ⟨h', tk', news', e', F', N', off', hS, r⟩ := hy
    exact ⟨h', tk', news', e', F', N', off', hS, ih (i + 1) _ _ (by omega) r⟩
open LCg in
theorem ListComp_Ustr {prog : Program} {w : World} {A : Around} {E : Value → Shared → Prop} {s : Shared} {h₀ : Heap} {L : Addr} {m : Str → Option Value} {env : Env} {elt iter : Expr} {x : Str} {px : Pos} {scope : Scope} {cl : List (Str × Addr)} {pos : Pos} {Q : Value → Shared → Prop}
    (_F₀ : Fr h₀ L s.heap m) (hclos : closureFor scope env = pure cl) (hcell : ∀ y ∈ scope.names, y.2 ≠ .cell) (hkind : scope.kind = .function)
    (hnames : ∀ y ∈ scope.names, y.2 = .local → scope.names.lookup y.1 = some .local) (hx : scope.names.lookup x = some .local)
    (h : wpAny (model prog w) A (eval iter env) (fun xv s₁ => ∃ y t news, xv = .str y t ∧ A.handled = none ∧ Fr h₀ L s₁.heap m ∧ News h₀ L s₁.heap news ∧ y.cps.size ≤ sizeLine ∧
      ∀ s₂ : Shared, (∃ h, s₂ = { s₁ with heap := h }) → CompRest prog w A h₀ L m env elt x scope cl s₂ (fun _ => True) (SignAt y) (FinE h₀ L m s₂ Q) y.cps.size 0 [] news) E s)
    (hs : ∀ x, foldedSetIterable iter env x = pure x := by intro _; rfl) :
    wpAny (model prog w) A (eval (.ListComp elt [⟨.Name x px, iter, [], 0⟩] scope pos) env) Q E s := by
  rw [eval_ListComp]
  refine wpAny_comprehension_free (use := none) rfl hs hclos hkind hnames (wpAny_mono h (fun xv s₁ h₁ => ?_) fun _ _ e => e)
  obtain ⟨y, t, news, rfl, hh, F, N, hsz, R⟩ := h₁
  have key : ∀ (nm : String) (o : Obj), (∀ A' : Around, A'.handled = none → Walks prog w A' s₁.heap.objs.size [s₁.heap.objs.size] [s₁.heap.objs.size] y.cps.size (SignAt y) (fun i h => h.IsStrIter s₁.heap.objs.size nm y t i)) → (s₁.heap.push o).IsStrIter s₁.heap.objs.size nm y t 0 →
      wpAny (model prog w) A (newList []) (fun acc s₃ => wpAny (model prog w) A (newFunctionEnv scope env.globals cl [] env.qual none .none (some env)) (fun cenv s₄ =>
      codeAny (model prog w) A (.compStart (.ListComp elt [⟨.Name x px, iter, [], 0⟩] scope pos) 0 (.ref s₁.heap.objs.size) acc { cenv with scope := relabel scope env }) (compPost (model prog w) A E none Q acc cenv.locals) s₄) E s₃) E { s₁ with heap := s₁.heap.push o } := by
    intro nm o W st
    have up : ∀ b o', s₁.heap.get? b = some o' → (s₁.heap.push o).get? b = some o' := fun b o' e => Heap.get?_push_of_some _ e
    refine block_U (W A hh) hsz (fun i h st => by obtain ⟨o, e, _⟩ := st; exact ⟨o, e⟩) (fun i h h' o' nw st e e' _ _ _ => by obtain ⟨o, q, r⟩ := st; rw [e] at q; cases q; exact ⟨_, e', r⟩) hcell hkind hx st (fun b hb => ?_)
      (F.keeps up) (N.grown up) (Nat.ne_of_lt F.ns.lt) (next_is_new F) (fun p hp => Nat.ne_of_lt (Heap.lt_size (N p hp).1)) trivial (R _ ⟨_, rfl⟩) ?_
    · rw [List.mem_singleton.mp hb]
      show s₁.heap.objs.size < (s₁.heap.push _).objs.size
      rw [Heap.size_push]; exact Nat.lt_succ_self _
    · intro D C h tk m' ys news' F' N' o1 hn hC₀ hD₀ hCL hDL hCD offC fin
      refine ⟨m', hn, fun h'' hs'' => fin D h'' tk (F'.change hs'' hCL hC₀) (fun p hp => ?_) o1⟩
      refine ⟨hs''.extBut _ _ ?_ (N' p hp).1, (N' p hp).2⟩
      rcases List.mem_cons.mp hp with rfl | hp
      · exact Ne.symm hCD
      · exact offC p hp
  cases ha : y.cps.all (· < 128)
  · exact wpAny_pyIter_wide ha (key "str_iterator" _ (fun A' hA => Walks.strWide hA _ y t) ⟨_, Heap.get?_push_size _ rfl, rfl, rfl⟩)
  · exact wpAny_pyIter_ascii ha (key "str_ascii_iterator" _ (fun A' hA => Walks.strAscii hA _ y t) ⟨_, Heap.get?_push_size _ rfl, rfl, rfl⟩)
theorem textOk_size {x : Str} (h : TextOk x) : x.cps.size ≤ sizeLine := by
  have e : x.cps.size ≤ 100 := by
    rcases h with e | e | e | e | e <;> subst e <;> decide +kernel
  exact Nat.le_trans e (by decide +kernel)
theorem ints_snoc {ys : List Value} {l : List Nat} {i c : Nat} {t : Tok} (h : IntsAre ys ((l.take i).map Int.ofNat)) (hc : l[i]? = some c) : IntsAre (ys ++ [.int c t]) ((l.take (i + 1)).map Int.ofNat) := by
  rw [List.take_add_one, hc, List.map_append]
  exact IntsAre.append h (.cons _ _ .nil)
theorem LspsR.snoc {N : List (Addr × Obj)} {vs : List Value} {Ds : List Lsp} {v : Value} {D : Lsp} (h : LspsR N vs Ds) (hv : LspR N v D) : LspsR N (vs ++ [v]) (Ds ++ [D]) := by
  induction h with
  | nil => exact .cons hv .nil
  | cons h1 _ ih => exact .cons h1 ih
theorem plsR_len {K : List (Addr × Obj)} : ∀ {vs : List Value} {P : Pl}, PlsR K vs P → vs.length = P.len ∧ P.sem.2.length = P.len
  | _, _, .nil => ⟨rfl, rfl⟩
  | _, _, .cons _ h => by
    have := plsR_len h
    exact ⟨by simp [Pl.len, this.1], by simp [Pl.sem, Pl.len, this.2]⟩
theorem plsR_get {w : World} {K : List (Addr × Obj)} : ∀ {vs : List Value} {P : Pl}, PlsR K vs P → DatAll w P → P.txt → ∀ (i : Nat) (v : Value), vs[i]? = some v → ∃ h, PlR K v h ∧ Dat w h ∧ h.txt ∧ h.ht ≤ P.ht ∧ P.sem.2[i]? = some h.sem.1
  | _, _, .nil, _, _, i, v, hv => by simp at hv
  | _, _, .cons (p := p) (ps := ps) h1 h2, hd, ht, i, v, hv => by
    cases i with
    | zero =>
      simp only [List.getElem?_cons_zero, Option.some.injEq] at hv
      subst hv
      exact ⟨p, h1, hd.1, ht.1, by simp only [Pl.ht]; omega, by simp [Pl.sem]⟩
    | succ i =>
      simp only [List.getElem?_cons_succ] at hv
      obtain ⟨h, a, b, c, d, e⟩ := plsR_get h2 hd.2 ht.2 i v hv
      exact ⟨h, a, b, c, by simp only [Pl.ht]; omega, by simpa [Pl.sem] using e⟩
theorem take_snoc {α : Type} {l : List α} {i : Nat} {d : α} (h : l[i]? = some d) : l.take i ++ [d] = l.take (i + 1) := by rw [List.take_add_one, h]; rfl
theorem PlR.ref {K : List (Addr × Obj)} {v : Value} {P : Pl} (h : PlR K v P) : ∃ a, v = .ref a := by cases h <;> exact ⟨_, rfl⟩
theorem StrsAre.app : ∀ {vs ws : List Value} {xs ys : List Str}, StrsAre vs xs → StrsAre ws ys → StrsAre (vs ++ ws) (xs ++ ys)
  | _, _, _, _, .nil, h => h
  | _, _, _, _, .cons y t h1, h => .cons y t (StrsAre.app h1 h)
theorem strs_snoc {ys : List Value} {l : List Nat} {i c : Nat} {t : Tok} (h : StrsAre ys ((l.take i).map fun n => (⟨#[n]⟩ : Str))) (hc : l[i]? = some c) : StrsAre (ys ++ [.str ⟨#[c]⟩ t]) ((l.take (i + 1)).map fun n => (⟨#[n]⟩ : Str)) := by
  rw [List.take_add_one, hc, List.map_append]
  exact StrsAre.app h (.cons _ _ .nil)
theorem join_signs (x : Str) : Txt.join (S "") (signs x) = x := by
  have e : S "" = (⟨#[]⟩ : Str) := by decide +kernel
  rw [e]; exact (StrLaws.glued_eq_join _ _).trans (join_nil_signs x)
def Lsp.isInt : Lsp → Bool
  | .cons (.sym x) _ => x == S "interactive"
  | _ => false
/-- a chain of pairs: its nodes, what they hold -/
def Chain (K : List (Addr × Obj)) (node car : Nat → Value) (M : Nat) : Prop := ∀ i, i < M → ∃ (x dx : Addr) (h₁ h₂ : Int) (t₁ t₂ : Tok) (n : Nat), node i = .ref x ∧ (x, instObj 55 dx) ∈ K ∧ (dx, dictOf [⟨h₁, .str (S "car") t₁, car i⟩, ⟨h₂, .str (S "cdr") t₂, node (i + 1)⟩] n) ∈ K ∧ handedIn (car i) = true ∧ handedIn (node (i + 1)) = true
def Alive (h : Heap) : Value → Prop
  | .ref x => ∃ o, h.get? x = some o ∧ o.cls ≠ .type "tuple"
  | .int _ _ => True
  | _ => False
theorem is_alive {M : Model} {A : Around} {E : Value → Shared → Prop} {s : Shared} {Q : Value → Shared → Prop} {v : Value} {y : Addr} {oy : Obj} (hv : Alive s.heap v) (hy : s.heap.get? y = some oy) (hne : v ≠ .ref y) (h : Q (.bool false) s) : wpAny M A (compareOp .Is v (.ref y)) Q E s := by
  cases v with
  | ref x =>
    obtain ⟨o, ho, hc⟩ := hv
    exact wpAny_is_ref_other (fun e => hne (by rw [e])) ho hy hc h
  | int i t => exact wpAny_is_other rfl hne h
  | _ => exact hv.elim
theorem par_zero {i : Nat} (h : ((i : Int) + 1).fmod 2 = 0) : (i + 1) % 2 = 0 := by
  rw [Int.fmod_eq_emod_of_nonneg _ (by decide)] at h; omega
theorem par_one {i : Nat} (h : ((i : Int) + 1).fmod 2 ≠ 0) : (i + 1) % 2 = 1 := by
  rw [Int.fmod_eq_emod_of_nonneg _ (by decide)] at h; omega
theorem len_push {prog : Program} {w : World} {A : Around} {E : Value → Shared → Prop} {s : Shared} {l : Addr} {vs : List Value} {v : Value} {i : Nat} {Q : Value → Shared → Prop} (hl : s.heap.IsList l (vs.toArray.push v)) (e : vs.length = i) (hz : i ≤ 16000) (h : Q (.int ((i : Int) + 1) (s.toks + 1)) { s with toks := s.toks + 1 + 1 }) :
    wpAny (model prog w) A (call (.builtin "len") [.ref l]) Q E s := by
  have e : ((vs.toArray.push v).size : Int) = (i : Int) + 1 := by simp [e]
  refine len_list hl (by rw [e]; omega) ?_
  rw [e]; exact h
def WI (h₀ : Heap) (L : Addr) (s : Shared) (m : Str → Option Value) (y z : Str) (av bv : Nat → Value) (I : Nat → List (Addr × Obj) → Prop) (M : Nat) (Q : Flow → Shared → Prop) (i : Nat) (f : Flow) (s₃ : Shared) : Prop :=
  match f with
  | .next | .cont => ∃ h' tk m₂ news₂, s₃ = { s with heap := h', toks := tk } ∧ Fr h₀ L h' m₂ ∧ News h₀ L h' news₂ ∧ i + 1 ≤ M ∧ m₂ = (fun x => if x = y then some (av (i + 1)) else if x = z then some (bv (i + 1)) else m x) ∧ I (i + 1) news₂
  | .brk => Q .next s₃
  | .ret v => Q (.ret v) s₃
/-- a while that goes up: two names by the turn's number, the ledger by an invariant -/
theorem while_idx {prog : Program} {w : World} {A : Around} {E : Value → Shared → Prop} {Q : Flow → Shared → Prop} {s : Shared} {env : Env} {h₀ : Heap} {L : Addr} {test : Expr} {body : List Stmt} {pos : Pos} {m : Str → Option Value} {news : List (Addr × Obj)} (y z : Str) (av bv : Nat → Value) (I : Nat → List (Addr × Obj) → Prop) (M : Nat)
    (F : Fr h₀ L s.heap m) (N : News h₀ L s.heap news) (hy : m y = some (av 0)) (hz : m z = some (bv 0)) (h0 : I 0 news)
    (turn : ∀ i nx h tk, i ≤ M → I i nx → Fr h₀ L h (fun x => if x = y then some (av i) else if x = z then some (bv i) else m x) → News h₀ L h nx →
      wpAny (model prog w) A (isTrue test env (eval test env)) (fun b s₂ => if b = true then wpAny (model prog w) A (execs body env) (WI h₀ L s m y z av bv I M Q i) E s₂ else Q .next s₂) E { s with heap := h, toks := tk })
    (hE : PassesOwn (model prog w) A env E := by passes_own) :
    wpAny (model prog w) A (exec (.While test body [] pos) env) Q E s := by
  refine While_inv2 (fun n m₁ nx => ∃ i, i ≤ M ∧ n = M - i ∧ m₁ = (fun x => if x = y then some (av i) else if x = z then some (bv i) else m x) ∧ I i nx) (n₀ := M) F N ⟨0, Nat.zero_le _, rfl, ?_, h0⟩ ?_ hE
  · funext x
    by_cases h1 : x = y
    · simp [h1, hy]
    · by_cases h2 : x = z
      · subst h2; simp only [hz]; split <;> simp_all
      · simp [h1, h2]
  · rintro n m₁ nx h tk F₁ N₁ ⟨i, hi, rfl, rfl, hI⟩
    refine wpAny_mono (turn i nx h tk hi hI F₁ N₁) (fun b s₂ p => ?_) fun _ _ e => e
    cases b with
    | false => exact p
    | true =>
      simp only [if_true] at p ⊢
      refine wpAny_mono p (fun f s₃ q => ?_) fun _ _ e => e
      cases f with
      | ret v => exact q
      | brk => exact q
      | next =>
        obtain ⟨h', tk', m₂, news₂, e, F', N', hi', hm, hI'⟩ := q
        exact ⟨h', tk', m₂, news₂, M - (i + 1), e, F', N', by omega, i + 1, hi', rfl, hm, hI'⟩
      | cont =>
        obtain ⟨h', tk', m₂, news₂, e, F', N', hi', hm, hI'⟩ := q
        exact ⟨h', tk', m₂, news₂, M - (i + 1), e, F', N', by omega, i + 1, hi', rfl, hm, hI'⟩
theorem map_one {m : Str → Option Value} {y z : Str} {a a' b : Option Value} : (fun x => if x = y then a' else if x = y then a else if x = z then b else m x) = fun x => if x = y then a' else if x = z then b else m x := by
  funext x
  by_cases h1 : x = y <;> simp [h1]
theorem map_both {m : Str → Option Value} {y z : Str} {a a' b b' : Option Value} (h : z ≠ y) : (fun x => if x = z then b' else if x = y then a' else if x = y then a else if x = z then b else m x) = fun x => if x = y then a' else if x = z then b' else m x := by
  funext x
  by_cases h1 : x = z
  · have h2 : x ≠ y := fun e => h (h1.symm.trans e)
    simp [h1, h, show ¬ z = y from h]
  · by_cases h2 : x = y
    · simp [h2, show ¬ y = z from fun e => h e.symm]
    · simp [h1, h2]
theorem range_snoc (car : Nat → Value) (i : Nat) : ((List.range i).map car).toArray.push (car i) = ((List.range (i + 1)).map car).toArray := by
  rw [List.range_succ, List.map_append, List.push_toArray]; rfl
theorem lsp_alive {h : Heap} {K : List (Addr × Obj)} {v : Value} {D : Lsp} (O : Old h K) (hn : ∃ o, h.get? 37 = some o ∧ o.cls ≠ .type "tuple") (hR : LspR K v D) : Alive h v := by
  cases hR with
  | nil => exact hn
  | sym h1 _ => exact ⟨_, O _ h1, fun e => nomatch e⟩
  | text h1 _ _ _ => exact ⟨_, O _ h1, fun e => nomatch e⟩
  | int => exact trivial
  | cons h1 _ _ _ => exact ⟨_, O _ h1, fun e => nomatch e⟩
theorem Alive.keep {g h : Heap} {L : Addr} {m : Str → Option Value} {v : Value} (F : Fr g L h m) (a : Alive g v) : Alive h v := by
  cases v with
  | ref x => exact let ⟨o, e, c⟩ := a; ⟨o, F.keep _ _ e, c⟩
  | int i t => trivial
  | _ => exact a
def halfN (node : Nat → Value) (i : Nat) : Value := node (i / 2)
theorem app_cons {α : Type} {p : α} {l r m : List α} (h : l ++ r = m) : (p :: l) ++ r = p :: m := by rw [← h]; rfl
theorem lsp_ne37 {K : List (Addr × Obj)} {v : Value} {D : Lsp} (h : ∀ p ∈ K, p.1 ≠ 37) (hR : LspR K v D) (hD : D ≠ .nil) : v ≠ .ref 37 := by
  cases hR with
  | nil => exact absurd rfl hD
  | sym h1 _ => exact fun e => h _ h1 (Value.ref.inj e)
  | text h1 _ _ _ => exact fun e => h _ h1 (Value.ref.inj e)
  | int => exact fun e => nomatch e
  | cons h1 _ _ _ => exact fun e => h _ h1 (Value.ref.inj e)
end PartBase
noncomputable section PartBase2
/-- the end of a turn that stores nothing but the loop's own name -/
def FE (h₀ : Heap) (L : Addr) (x : Str) (m₀ : Str → Option Value) (keep : List (Addr × Obj)) (I : Prop) (s : Shared) (Q : Flow → Shared → Prop) (f : Flow) (s₂ : Shared) : Prop :=
  match f with
  | .ret v => Q (.ret v) s₂
  | .brk => Q .next s₂
  | _ => ∃ h' tk u news', s₂ = { s with heap := h', toks := tk } ∧ Fr h₀ L h' (fun y => if y = x then u else m₀ y) ∧ News h₀ L h' news' ∧ (∀ p ∈ keep, p ∈ news') ∧ I
/-- a for over a made list, whatever it holds -/
theorem for_list {prog : Program} {w : World} {A : Around} {E : Value → Shared → Prop} {s : Shared} {env : Env} {h₀ : Heap} {x : Str} {body : List Stmt} {Q : Flow → Shared → Prop} {l : Addr} {vs : List Value} {k : Nat} {m₀ : Str → Option Value} {news : List (Addr × Obj)} (I : Nat → Prop)
    (hh : A.handled = none) (hl : (l, lstK vs k) ∈ news) (F : Fr h₀ env.locals s.heap m₀) (N : News h₀ env.locals s.heap news) (h0 : I 0)
    (turn : ∀ i v h tk own, vs[i]? = some v → I i → Fr h₀ env.locals h (fun y => if y = x then some v else m₀ y) → News h₀ env.locals h (news ++ own) →
      wpAny (model prog w) A (execs body env) (FE h₀ env.locals x m₀ (news ++ own) (I (i + 1)) { s with heap := h, toks := tk } Q) E { s with heap := h, toks := tk })
    (done : ∀ u h tk, I vs.length → Fr h₀ env.locals h (fun y => if y = x then u else m₀ y) → News h₀ env.locals h news → Q .next { s with heap := h, toks := tk }) :
    wpAny (model prog w) A (pyIter (.ref l)) (fun it s₂ => LoopAtV prog w A h₀ env x body Q E it s₂) E s := by
  have hol : s.heap.get? l = some (lstK vs k) := (N _ hl).1
  have hls : s.heap.IsList l vs.toArray := ⟨_, hol, rfl, k, rfl⟩
  have hne : l ≠ s.heap.objs.size := Nat.ne_of_lt (Heap.lt_size hol)
  refine wpAny_pyIter_list hls ?_
  have W := Walks.list (prog := prog) (w := w) hh s.heap.objs.size l hne vs.toArray
  have hlen : vs.toArray.size = vs.length := by simp
  rw [hlen] at W
  refine ⟨_, _, _, vs.length, _, _, m₀, news, (fun i m nx => nx = news ∧ (∃ u, m = fun y => if y = x then u else m₀ y) ∧ I i), rfl, W, ?_, ?_, ?_, ⟨⟨_, Heap.get?_push_size _ rfl, rfl, rfl⟩, hls.at fun o e => Heap.get?_push_of_some _ e⟩, F.push _, (fun p hp => ⟨Heap.get?_push_of_some _ (N p hp).1, (N p hp).2⟩), ⟨rfl, ⟨m₀ x, ?_⟩, h0⟩, ?_, ?_⟩
  · intro hm
    rcases List.mem_cons.mp hm with e | hm
    · exact absurd F.ns.lt (e ▸ Nat.lt_irrefl _)
    · exact (N _ hl).2.1 ((List.mem_singleton.mp hm).symm)
  · intro b hb
    rw [List.mem_singleton.mp hb]
    exact next_is_new F
  · intro p hp hI
    exact absurd (Heap.lt_size (N p hp).1) ((List.mem_singleton.mp hI) ▸ Nat.lt_irrefl _)
  · funext y
    by_cases h : y = x <;> simp [h]
  · rintro i v m₁ news₁ s₁ own ⟨hh', tk', rfl⟩ hin hP ⟨rfl, ⟨u, rfl⟩, hI⟩ hoff hown hget hfp _ F₁ N₁
    have e1 : (fun y => if y = x then some v else (if y = x then u else m₀ y)) = fun y => if y = x then some v else m₀ y := by
      funext y
      by_cases h : y = x <;> simp [h]
    rw [e1] at F₁
    have N₂ : News h₀ env.locals hh' (news₁ ++ own) := fun p hp => N₁ p ((List.mem_append.mp hp).elim (fun h => List.mem_append.mpr (.inr h)) fun h => List.mem_append.mpr (.inl h))
    refine wpAny_mono (turn i v hh' tk' own (by simpa using hP) hI F₁ N₂) (fun f s₂ p => ?_) fun _ _ e => e
    have fin : (∃ h' tk u news', s₂ = { s with heap := h', toks := tk } ∧ Fr h₀ env.locals h' (fun y => if y = x then u else m₀ y) ∧ News h₀ env.locals h' news' ∧ (∀ p ∈ news₁ ++ own, p ∈ news') ∧ I (i + 1)) →
        LoopStepU h₀ env.locals [s.heap.objs.size] own (fun m nx => nx = news₁ ∧ (∃ u, m = fun y => if y = x then u else m₀ y) ∧ I (i + 1)) { s with heap := hh', toks := tk' } .next s₂ := by
      rintro ⟨h', tk, u', news', rfl, F', N', hn, hI'⟩
      refine ⟨rfl, h', tk, _, news₁, rfl, F', fun p hp => N' p (hn p ((List.mem_append.mp hp).elim (fun h => List.mem_append.mpr (.inr h)) fun h => List.mem_append.mpr (.inl h))), hoff, rfl, ⟨u', rfl⟩, hI'⟩
    cases f with
    | ret v => exact .ret p
    | brk => exact .brk p
    | next => exact .next (fin p)
    | cont => exact .cont (fin p)
  · rintro h' tk m' news' F' N' _ ⟨rfl, ⟨u, rfl⟩, hI⟩
    exact done u h' tk hI F' N'
def Lsp.first : Lsp → Str
  | .cons (.text z) _ => z
  | _ => S ""
def Lsp.cdr : Lsp → Lsp
  | .cons _ b => b
  | _ => .nil
def specR : List Lsp → Option Str
  | [] => none
  | d :: r => if d.isInt = true then some d.cdr.first else specR r
def specOf : List Lsp → Option Str
  | .sym y :: _ :: r => if y = S "lambda" then specR r else none
  | _ => none
theorem specR_next {l : List Lsp} {i : Nat} {d : Lsp} (h : l[i]? = some d) (hd : d.isInt = false) : specR (l.drop i) = specR (l.drop (i + 1)) := by
  have hi : i < l.length := by
    rcases Nat.lt_or_ge i l.length with h1 | h1
    · exact h1
    · rw [List.getElem?_eq_none h1] at h; cases h
  rw [List.drop_eq_getElem_cons hi, specR]
  rw [List.getElem?_eq_getElem hi] at h
  rw [Option.some.inj h, hd]; simp
theorem specR_here {l : List Lsp} {i : Nat} {d : Lsp} (h : l[i]? = some d) (hd : d.isInt = true) : specR (l.drop i) = some d.cdr.first := by
  have hi : i < l.length := by
    rcases Nat.lt_or_ge i l.length with h1 | h1
    · exact h1
    · rw [List.getElem?_eq_none h1] at h; cases h
  rw [List.drop_eq_getElem_cons hi, specR]
  rw [List.getElem?_eq_getElem hi] at h
  rw [Option.some.inj h, hd]; simp
/-- None, or a text -/
inductive OV : Option Str → Value → Prop
  | none : OV none .none
  | some {x : Str} {t : Tok} : OV (some x) (.str x t)
/-- the texts in a datum are short -/
def Lsp.txt : Lsp → Prop
  | .text x => TextOk x
  | .cons a b => a.txt ∧ b.txt
  | _ => True
theorem textOk_cps {x : Str} (h : TextOk x) : (∀ n ∈ x.cps.toList, n < 55296) ∧ x.cps.size ≤ 1000 := by
  rcases h with e | e | e | e | e <;> subst e <;> decide +kernel
theorem lspsR_at {K : List (Addr × Obj)} {vs : List Value} {Ds : List Lsp} (h : LspsR K vs Ds) {i : Nat} {v : Value} (hv : vs[i]? = some v) : ∃ d, Ds[i]? = some d ∧ LspR K v d := by
  have hi : i < vs.length := by
    rcases Nat.lt_or_ge i vs.length with h1 | h1
    · exact h1
    · rw [List.getElem?_eq_none h1] at hv; cases hv
  obtain ⟨v', d, e1, e2, h3⟩ := h.get i hi
  rw [e1] at hv
  exact ⟨d, e2, Option.some.inj hv ▸ h3⟩
theorem pick_from (vs : List Value) : (slicePick vs.toArray (some 2) none none) = (vs.drop 2).toArray := by
  have e : sliceBounds (some 2) none none vs.toArray.size = (((min 2 vs.length : Nat) : Int), ((vs.length : Nat) : Int), 1) := by
    have hs : vs.toArray.size = vs.length := by simp
    rw [hs]
    simp only [sliceBounds, Option.getD_none, show (1 : Int) > 0 by decide, if_true, show ¬ ((2 : Int) < 0) by decide, if_false]
    first | rfl | (congr 1; omega) | skip
  rw [kmk_pick_nat _ e]
  simp only [List.toList_toArray]
  congr 1
  by_cases h : 2 ≤ vs.length
  · rw [Nat.min_eq_left h, List.take_of_length_le (by simp)]
  · rw [Nat.min_eq_right (by omega), List.drop_of_length_le (l := vs) (i := vs.length) (Nat.le_refl _), List.drop_of_length_le (by omega)]; simp
theorem specOf_short {Ds : List Lsp} (h : Ds.length < 2) : specOf Ds = none := by
  match Ds, h with
  | [], _ => rfl
  | [.sym _], _ => rfl
  | [.nil], _ => rfl
  | [.text _], _ => rfl
  | [.int _], _ => rfl
  | [.cons _ _], _ => rfl
theorem specOf_other {Ds : List Lsp} {d : Lsp} (e : Ds[0]? = some d) (h : ∀ y, d ≠ .sym y) : specOf Ds = none := by
  match Ds, e with
  | d' :: r, e =>
    simp only [List.getElem?_cons_zero, Option.some.injEq] at e
    subst e
    cases d' with
    | sym y => exact absurd rfl (h y)
    | _ => rfl
theorem slice_two {prog : Program} {w : World} {A : Around} {E : Value → Shared → Prop} {s : Shared} {h₀ : Heap} {L l : Addr} {m : Str → Option Value} {news : List (Addr × Obj)} {value slice : PySem.Expr} {vs : List Value} {t : Tok} {Q : Value → Shared → Prop}
    (F : Fr h₀ L s.heap m) (N : News h₀ L s.heap news) (hl : s.heap.IsList l vs.toArray) (hz : vs.length ≤ 16384)
    (h : ∀ D h', Fr h₀ L h' m → News h₀ L h' ((D, lstK (vs.drop 2) 0) :: news) → (∀ p ∈ news, p.1 < D) → Q (.ref D) { s with heap := h' })
    (hs : subscripted slice false (.ref l) (.ref s.heap.objs.size) = operate [.ref s.heap.objs.size, .ref l] (getItem (.ref l) (.ref s.heap.objs.size))) (ht : ∀ r, letTemporaryGo value (.ref l) r = pure ()) :
    wpAny (model prog w) A (subscriptTail value slice (.ref l) (.ref s.heap.objs.size)) Q E { s with heap := s.heap.push { cls := .type "slice", data := .fields #[.int 2 t, .none, .none] } } := by
  refine kmk_slice F N hl (.int _ _) .none (fun D h' F' N' l1 => h D h' F' ?_ l1) hs ht ?_
  · rw [pick_from] at N'
    exact N'
  · have : vs.toArray.size ≤ 16384 := by simpa using hz
    exact Nat.le_trans this (by decide +kernel)
theorem LspsR.drop {K : List (Addr × Obj)} : ∀ {vs : List Value} {Ds : List Lsp} (n : Nat), LspsR K vs Ds → LspsR K (vs.drop n) (Ds.drop n)
  | _, _, 0, h => h
  | _, _, _ + 1, .nil => .nil
  | _, _, n + 1, .cons _ h => LspsR.drop n h
theorem isInt_shape {d : Lsp} (h : d.isInt = true) : ∃ y b, d = .cons (.sym y) b ∧ y = S "interactive" := by
  cases d with
  | cons a b =>
    cases a with
    | sym y => exact ⟨y, b, rfl, by simpa [Lsp.isInt] using h⟩
    | _ => simp [Lsp.isInt] at h
  | _ => simp [Lsp.isInt] at h
theorem specOf_else {Ds : List Lsp} {y : Str} (e : Ds[0]? = some (.sym y)) (h : (y != S "lambda") = true) : specOf Ds = none := by
  match Ds, e with
  | [d], e =>
    simp only [List.getElem?_cons_zero, Option.some.injEq] at e
    subst e; rfl
  | d :: d2 :: r, e =>
    simp only [List.getElem?_cons_zero, Option.some.injEq] at e
    subst e
    exact if_neg (by simpa using h)
theorem specOf_lambda {Ds : List Lsp} {y : Str} (e : Ds[0]? = some (.sym y)) (h : (y != S "lambda") = false) (hl : 2 ≤ Ds.length) : specOf Ds = specR (Ds.drop 2) := by
  match Ds, e, hl with
  | [d], e, hl => simp at hl
  | d :: d2 :: r, e, hl =>
    simp only [List.getElem?_cons_zero, Option.some.injEq] at e
    subst e
    exact if_pos (by simpa using h)
end PartBase2
noncomputable section PartBase3
def Pl.lst : Pl → List Pl
  | .cons h t => h :: t.lst
  | _ => []
/-- a plan as plain data -/
def Pl.data : Pl → PyData × List PyData
  | .sym x => (.tuple [.str (S "symbol"), .str x], [])
  | .text x => (.tuple [.str (S "text"), .str x], [])
  | .whole i => (.tuple [.str (S "whole"), .int i], [])
  | .list items tail => (.tuple [.str (S "list"), .list items.data.2, tail.data.1], [])
  | .nil => (.none, [])
  | .cons h t => (.none, h.data.1 :: t.data.2)
mutual
theorem PlR.reads {h : Heap} {K : List (Addr × Obj)} (O : Old h K) : ∀ {v : Value} {P : Pl}, PlR K v P → ∃ as, Reads h v P.data.1 as
  | _, _, .sym m => ⟨_, .tuple (O _ m) rfl rfl (.cons (.str _ _) (.cons (.str _ _) .nil))⟩
  | _, _, .text m => ⟨_, .tuple (O _ m) rfl rfl (.cons (.str _ _) (.cons (.str _ _) .nil))⟩
  | _, _, .whole m => ⟨_, .tuple (O _ m) rfl rfl (.cons (.str _ _) (.cons (.int _ _) .nil))⟩
  | _, _, .list m1 m2 h3 h4 =>
    let ⟨_, r3⟩ := h3.reads O
    let ⟨_, r4⟩ := h4.reads O
    ⟨_, .tuple (O _ m1) rfl rfl (.cons (.str _ _) (.cons (.list (O _ m2) rfl rfl r3) (.cons r4 .nil)))⟩
theorem PlsR.reads {h : Heap} {K : List (Addr × Obj)} (O : Old h K) : ∀ {v : List Value} {P : Pl}, PlsR K v P → ∃ as, ReadsAll h v P.data.2 as
  | _, _, .nil => ⟨_, .nil⟩
  | _, _, .cons h1 h2 =>
    let ⟨_, r1⟩ := h1.reads O
    let ⟨_, r2⟩ := h2.reads O
    ⟨_, .cons r1 r2⟩
theorem TlR.reads {h : Heap} {K : List (Addr × Obj)} (O : Old h K) : ∀ {v : Value} {P : Pl}, TlR K v P → ∃ as, Reads h v P.data.1 as
  | _, _, .none => ⟨_, .none⟩
  | _, _, .some h1 => h1.reads O
end
def Pl.isSym (c : Str) : Pl → Bool
  | .sym y => y == c
  | _ => false
theorem isSym_eqv {c : Str} {q : Pl} {K : List (Addr × Obj)} {v : Value} (h : PlR K v q) : PyData.eqv q.data.1 (.tuple [.str (S "symbol"), .str c]) = q.isSym c := by
  cases h
  case sym => simp [Pl.data, PyData.eqv, PyData.eqvAll, Pl.isSym]
  case text => simp [Pl.data, PyData.eqv, PyData.eqvAll, Pl.isSym, show (S "text" == S "symbol") = false by decide +kernel]
  case whole => simp [Pl.data, PyData.eqv, PyData.eqvAll, Pl.isSym, show (S "whole" == S "symbol") = false by decide +kernel]
  case list => simp [Pl.data, PyData.eqv, PyData.eqvAll, Pl.isSym, show (S "list" == S "symbol") = false by decide +kernel]
abbrev shd (q : Pl) : Prop := SeqAt.shaped q.data.1 = true
theorem read_two {h : Heap} {D : Addr} {t₁ t₂ : Tok} {c : Str} {k : Nat} (e : h.get? D = some (tupO [.str (S "symbol") t₁, .str c t₂] k)) : Reads h (.ref D) (.tuple [.str (S "symbol"), .str c]) [] :=
  .tuple e rfl rfl (.cons (.str _ _) (.cons (.str _ _) .nil))
theorem plan_eq {prog : Program} {w : World} {A : Around} {E : Value → Shared → Prop} {s : Shared} {g : Heap} {L aq D : Addr} {m : Str → Option Value} {news K : List (Addr × Obj)} {q : Pl} {t₁ t₂ : Tok} {c : Str} {k : Nat} {Q : Value → Shared → Prop}
    (F : Fr g L s.heap m) (O : Old g K) (N : News g L s.heap news) (hD : (D, tupO [.str (S "symbol") t₁, .str c t₂] k) ∈ news) (hq : PlR K (.ref aq) q) (hs : shd q) (hc : SeqAt.shaped (.tuple [.str (S "symbol"), .str c]) = true) (hu : A.units + 64 < cLine)
    (h : Q (.bool (q.isSym c)) s) : wpAny (model prog w) A (compareOp .Eq (.ref aq) (.ref D)) Q E s := by
  obtain ⟨as, hr⟩ := hq.reads (old_keep F O)
  refine eq_dataH hr (read_two (N _ hD).1) hs hc hu ?_
  rw [isSym_eqv hq]; exact h
theorem plan_ne {prog : Program} {w : World} {A : Around} {E : Value → Shared → Prop} {s : Shared} {g : Heap} {L aq D : Addr} {m : Str → Option Value} {news K : List (Addr × Obj)} {q : Pl} {t₁ t₂ : Tok} {c : Str} {k : Nat} {Q : Value → Shared → Prop}
    (F : Fr g L s.heap m) (O : Old g K) (N : News g L s.heap news) (hD : (D, tupO [.str (S "symbol") t₁, .str c t₂] k) ∈ news) (hq : PlR K (.ref aq) q) (hs : shd q) (hc : SeqAt.shaped (.tuple [.str (S "symbol"), .str c]) = true) (hu : A.units + 64 < cLine)
    (h : Q (.bool (!q.isSym c)) s) : wpAny (model prog w) A (compareOp .NotEq (.ref aq) (.ref D)) Q E s := by
  obtain ⟨as, hr⟩ := hq.reads (old_keep F O)
  refine ne_dataH hr (read_two (N _ hD).1) hs hc hu ?_
  rw [isSym_eqv hq]; exact h
def Pl.isF : Pl → Bool
  | .list (.cons q _) _ => q.isSym (S "interactive")
  | _ => false
def Pl.beh : Pl → Str
  | .list (.cons _ (.cons (.text z) _)) _ => z
  | _ => S ""
def dueR : List Pl → Option Str
  | [] => none
  | p :: r => if p.isF = true then some p.beh else dueR r
def dueOf : List Pl → Option Str
  | q :: _ :: r => if q.isSym (S "lambda") = true then dueR r else none
  | _ => none
/-- what can be compared, and has a first item where it is a list -/
def Pl.shp : Pl → Prop
  | .list items _ => ∃ q r, items = .cons q r ∧ shd q ∧ r.lst.length ≤ 100
  | P => shd P
theorem dueR_next {l : List Pl} {i : Nat} {d : Pl} (h : l[i]? = some d) (hd : d.isF = false) : dueR (l.drop i) = dueR (l.drop (i + 1)) := by
  have hi : i < l.length := by
    rcases Nat.lt_or_ge i l.length with h1 | h1
    · exact h1
    · rw [List.getElem?_eq_none h1] at h; cases h
  rw [List.drop_eq_getElem_cons hi, dueR]
  rw [List.getElem?_eq_getElem hi] at h
  rw [Option.some.inj h, hd]; simp
theorem dueR_here {l : List Pl} {i : Nat} {d : Pl} (h : l[i]? = some d) (hd : d.isF = true) : dueR (l.drop i) = some d.beh := by
  have hi : i < l.length := by
    rcases Nat.lt_or_ge i l.length with h1 | h1
    · exact h1
    · rw [List.getElem?_eq_none h1] at h; cases h
  rw [List.drop_eq_getElem_cons hi, dueR]
  rw [List.getElem?_eq_getElem hi] at h
  rw [Option.some.inj h, hd]; simp
theorem plsR_lst {K : List (Addr × Obj)} : ∀ {vs : List Value} {P : Pl}, PlsR K vs P → vs.length = P.lst.length
  | _, _, .nil => rfl
  | _, _, .cons _ h => by simp [Pl.lst, plsR_lst h]
theorem plsR_at {K : List (Addr × Obj)} : ∀ {vs : List Value} {P : Pl}, PlsR K vs P → ∀ {i : Nat} {v : Value}, vs[i]? = some v → ∃ p, P.lst[i]? = some p ∧ PlR K v p
  | _, _, .nil, i, v, h => by simp at h
  | _, _, .cons h1 h2, 0, v, h => by
    simp only [List.getElem?_cons_zero, Option.some.injEq] at h
    subst h
    exact ⟨_, rfl, h1⟩
  | _, _, .cons h1 h2, i + 1, v, h => by
    simp only [List.getElem?_cons_succ] at h
    obtain ⟨p, e, r⟩ := plsR_at h2 h
    exact ⟨p, by simpa [Pl.lst] using e, r⟩
theorem dueOf_short {l : List Pl} (h : l.length < 2) : dueOf l = none := by
  match l, h with
  | [], _ => rfl
  | [_], _ => rfl
theorem dueOf_else {l : List Pl} {q : Pl} (e : l[0]? = some q) (h : q.isSym (S "lambda") = false) : dueOf l = none := by
  match l, e with
  | [d], e => rfl
  | d :: d2 :: r, e =>
    simp only [List.getElem?_cons_zero, Option.some.injEq] at e
    subst e
    exact if_neg (by simp [h])
theorem dueOf_lambda {l : List Pl} {q : Pl} (e : l[0]? = some q) (h : q.isSym (S "lambda") = true) (hl : 2 ≤ l.length) : dueOf l = dueR (l.drop 2) := by
  match l, e, hl with
  | [d], e, hl => simp at hl
  | d :: d2 :: r, e, hl =>
    simp only [List.getElem?_cons_zero, Option.some.injEq] at e
    subst e
    exact if_pos h
end PartBase3
noncomputable section PartBase4
theorem old_fun {h : Heap} {K : List (Addr × Obj)} {x : Addr} {o o' : Obj} (O : Old h K) (h1 : (x, o) ∈ K) (h2 : (x, o') ∈ K) : o = o' := by
  have e1 := O _ h1
  have e2 := O _ h2
  rw [e1] at e2
  exact Option.some.inj e2
theorem ints_fun {vs : List Value} {a b : List Int} (h1 : IntsAre vs a) (h2 : IntsAre vs b) : a = b := by
  induction h1 generalizing b with
  | nil => cases h2; rfl
  | cons n t _ ih => cases h2 with
    | cons _ _ h => rw [ih h]
theorem str_of_codes {x y : Str} (h : x.cps.toList.map Int.ofNat = y.cps.toList.map Int.ofNat) : x = y := by
  have h2 : x.cps.toList = y.cps.toList := by
    have := congrArg (List.map Int.toNat) h
    simpa [List.map_map, Function.comp_def] using this
  cases x with
  | mk a => cases y with
    | mk b =>
      have h3 : a.toList = b.toList := h2
      have : a = b := Array.toList_inj.mp h3
      rw [this]
theorem lsp_fun {h : Heap} {K : List (Addr × Obj)} (O : Old h K) (h37 : ∀ p ∈ K, p.1 ≠ 37) {v : Value} {D : Lsp} (h1 : LspR K v D) : ∀ {D' : Lsp}, LspR K v D' → D = D' := by
  induction h1 with
  | nil =>
    intro D' h2
    cases h2 with
    | nil => rfl
    | sym m _ => exact absurd rfl (h37 _ m)
    | text m _ _ _ => exact absurd rfl (h37 _ m)
    | cons m _ _ _ => exact absurd rfl (h37 _ m)
  | int =>
    intro D' h2
    cases h2
    rfl
  | sym m1 m2 =>
    intro D' h2
    cases h2 with
    | nil => exact absurd rfl (h37 _ m1)
    | sym n1 n2 =>
      cases old_fun O m1 n1
      cases old_fun O m2 n2
      rfl
    | text n1 _ _ _ => cases old_fun O m1 n1
    | cons n1 _ _ _ => cases old_fun O m1 n1
  | text m1 m2 m3 m4 =>
    intro D' h2
    cases h2 with
    | nil => exact absurd rfl (h37 _ m1)
    | sym n1 n2 => cases old_fun O m1 n1
    | text n1 n2 n3 n4 =>
      cases old_fun O m1 n1
      cases old_fun O m2 n2
      cases old_fun O m3 n3
      rw [str_of_codes (ints_fun m4 n4)]
    | cons n1 _ _ _ => cases old_fun O m1 n1
  | cons m1 m2 _ _ i1 i2 =>
    intro D' h2
    cases h2 with
    | nil => exact absurd rfl (h37 _ m1)
    | sym n1 n2 => cases old_fun O m1 n1
    | text n1 _ _ _ => cases old_fun O m1 n1
    | cons n1 n2 n3 n4 =>
      cases old_fun O m1 n1
      cases old_fun O m2 n2
      rw [i1 n3, i2 n4]
def Lsp.spine : Lsp → Nat
  | .cons _ b => b.spine + 1
  | _ => 0
theorem spine_list (Ds : List Lsp) (T : Lsp) : (lspList Ds T).spine = Ds.length + T.spine := by
  induction Ds with
  | nil => simp [lspList]
  | cons d r ih => simp only [lspList, Lsp.spine, ih, List.length_cons]; omega
theorem lsp_handed {K : List (Addr × Obj)} {v : Value} {D : Lsp} (h : LspR K v D) : handedIn v = true := by
  cases h <;> rfl
/-- a list of data as a chain -/
theorem lsp_chain {K : List (Addr × Obj)} {T : Lsp} : ∀ {Ds : List Lsp} {v : Value}, LspR K v (lspList Ds T) → ∃ node car : Nat → Value, node 0 = v ∧ Chain K node car Ds.length ∧ (∀ i, i ≤ Ds.length → LspR K (node i) (lspList (Ds.drop i) T)) ∧ LspsR K ((List.range Ds.length).map car) Ds := by
  intro Ds
  induction Ds with
  | nil => exact fun {v} h => ⟨fun _ => v, fun _ => v, rfl, fun i hi => absurd hi (Nat.not_lt_zero _), fun i hi => by
      have : i = 0 := by simpa using hi
      subst this; exact h, .nil⟩
  | cons d r ih =>
    intro v h
    cases h with
    | @cons x dx h₁ h₂ t₁ t₂ n a b _ _ m1 m2 hA hB =>
      obtain ⟨node, car, e0, hc, hn, hs⟩ := ih hB
      refine ⟨fun i => match i with | 0 => .ref x | i + 1 => node i, fun i => match i with | 0 => a | i + 1 => car i, rfl, ?_, ?_, ?_⟩
      · intro i hi
        cases i with
        | zero =>
          refine ⟨x, dx, h₁, h₂, t₁, t₂, n, rfl, m1, ?_, lsp_handed hA, ?_⟩
          · show (dx, dictOf [⟨h₁, .str (S "car") t₁, a⟩, ⟨h₂, .str (S "cdr") t₂, node 0⟩] n) ∈ K
            rw [e0]; exact m2
          · show handedIn (node 0) = true
            rw [e0]; exact lsp_handed hB
        | succ i => exact hc i (by simpa using hi)
      · intro i hi
        cases i with
        | zero => exact .cons m1 m2 hA hB
        | succ i => exact hn i (by simpa using hi)
      · rw [List.length_cons, List.range_succ_eq_map, List.map_cons, List.map_map]
        exact .cons hA hs
theorem chain_ne {h : Heap} {K : List (Addr × Obj)} {T : Lsp} {Ds : List Lsp} {node : Nat → Value} (O : Old h K) (h37 : ∀ p ∈ K, p.1 ≠ 37) (hn : ∀ i, i ≤ Ds.length → LspR K (node i) (lspList (Ds.drop i) T)) {i j : Nat} (hi : i ≤ Ds.length) (hj : j ≤ Ds.length) (hij : i ≠ j) : node i ≠ node j := by
  intro e
  have h1 := hn i hi
  rw [e] at h1
  have h2 := congrArg Lsp.spine (lsp_fun O h37 h1 (hn j hj))
  rw [spine_list, spine_list, List.length_drop, List.length_drop] at h2
  omega
/-- the ring -/
theorem ring_chain {h : Heap} {K K' : List (Addr × Obj)} {T : Lsp} {Ds : List Lsp} {node car : Nat → Value} {x dx : Addr} {h₁ h₂ : Int} {t₁ t₂ : Tok} {n0 n1 : Nat} {k : Nat} (O : Old h K) (h37 : ∀ p ∈ K, p.1 ≠ 37)
    (hc : Chain K node car Ds.length) (hn : ∀ i, i ≤ Ds.length → LspR K (node i) (lspList (Ds.drop i) T)) (hl : Ds.length = k + 1)
    (hx : node k = .ref x) (m1 : (x, instObj 55 dx) ∈ K) (m2 : (dx, dictOf [⟨h₁, .str (S "car") t₁, car k⟩, ⟨h₂, .str (S "cdr") t₂, node (k + 1)⟩] n0) ∈ K)
    (hK : ∀ p ∈ K, p.1 ≠ dx → p ∈ K') (hd : (dx, dictOf [⟨h₁, .str (S "car") t₁, car k⟩, ⟨h₂, .str (S "cdr") t₂, node 0⟩] n1) ∈ K') :
    Chain K' (fun i => node (i % (k + 1))) (fun i => car (i % (k + 1))) (2 * (k + 1)) ∧
    (∀ j, 1 ≤ j → 2 * j ≤ 2 * (k + 1) → (2 * j < 2 * (k + 1) ∨ true = false) → node (2 * j % (k + 1)) ≠ node (j % (k + 1))) ∧
    (true = true → ∃ n, 2 * (k + 1) = 2 * n ∧ 0 < n ∧ node (2 * (k + 1) % (k + 1)) = node (n % (k + 1))) := by
  refine ⟨?_, ?_, fun _ => ⟨k + 1, rfl, Nat.succ_pos _, by rw [Nat.mul_mod_left, Nat.mod_self]⟩⟩
  · intro i _
    have hr : i % (k + 1) < k + 1 := Nat.mod_lt _ (Nat.succ_pos _)
    by_cases hk : i % (k + 1) = k
    · have e1 : (i + 1) % (k + 1) = 0 := by rw [Nat.add_mod, hk]; by_cases hk0 : k = 0 <;> simp [hk0, Nat.mod_eq_of_lt]
      refine ⟨x, dx, h₁, h₂, t₁, t₂, n1, ?_, hK _ m1 ?_, ?_, ?_, ?_⟩
      · show node (i % (k + 1)) = _
        rw [hk, hx]
      · intro e
        have e : x = dx := e
        subst e
        cases old_fun O m1 m2
      · show (dx, dictOf [⟨h₁, .str (S "car") t₁, car (i % (k + 1))⟩, ⟨h₂, .str (S "cdr") t₂, node ((i + 1) % (k + 1))⟩] n1) ∈ K'
        rw [hk, e1]; exact hd
      · show handedIn (car (i % (k + 1))) = true
        rw [hk]
        obtain ⟨_, _, _, _, _, _, _, _, _, _, q, _⟩ := hc k (by omega)
        exact q
      · show handedIn (node ((i + 1) % (k + 1))) = true
        rw [e1]; exact lsp_handed (hn 0 (Nat.zero_le _))
    · have e1 : (i + 1) % (k + 1) = i % (k + 1) + 1 := by
        rw [Nat.add_mod]
        by_cases hk0 : k = 0
        · subst hk0; omega
        · rw [Nat.mod_eq_of_lt (show 1 < k + 1 by omega), Nat.mod_eq_of_lt (by omega)]
      obtain ⟨y, dy, g₁, g₂, u₁, u₂, n2, e2, q1, q2, q3, q4⟩ := hc (i % (k + 1)) (by omega)
      have hdy : dy ≠ dx := by
        intro e
        subst e
        have e3 := old_fun O q2 m2
        have e4 : node (i % (k + 1) + 1) = node (k + 1) := by
          have e5 : ([car (i % (k + 1)), node (i % (k + 1) + 1)] : List Value) = [car k, node (k + 1)] := congrArg (fun (o : Obj) => match o.data with | .dict es _ => es.toList.map (fun (d : DictEntry) => d.val) | _ => ([] : List Value)) e3
          injection e5 with _ e6
          injection e6
        exact chain_ne O h37 hn (by omega) (by omega) (by omega) e4
      refine ⟨y, dy, g₁, g₂, u₁, u₂, n2, e2, hK _ q1 ?_, ?_, q3, ?_⟩
      · intro e
        have e : y = dx := e
        subst e
        cases old_fun O q1 m2
      · show (dy, dictOf [⟨g₁, .str (S "car") u₁, car (i % (k + 1))⟩, ⟨g₂, .str (S "cdr") u₂, node ((i + 1) % (k + 1))⟩] n2) ∈ K'
        rw [e1]; exact hK _ q2 hdy
      · show handedIn (node ((i + 1) % (k + 1))) = true
        rw [e1]; exact q4
  · intro j h1 h2 h3
    have h4 : 2 * j < 2 * (k + 1) := h3.resolve_right (by decide)
    have e1 : j % (k + 1) = j := Nat.mod_eq_of_lt (by omega)
    have hr : 2 * j % (k + 1) < k + 1 := Nat.mod_lt _ (Nat.succ_pos _)
    rw [e1]
    refine chain_ne O h37 hn (by omega) (by omega) ?_
    by_cases h5 : 2 * j < k + 1
    · rw [Nat.mod_eq_of_lt h5]; omega
    · have : 2 * j % (k + 1) = 2 * j - (k + 1) := by rw [Nat.mod_eq_sub_mod (by omega), Nat.mod_eq_of_lt (by omega)]
      omega
end PartBase4
noncomputable section PartBase5
/-- what the parameters may be -/
inductive ParOk : Pl → Prop
  | nil : ParOk (.sym (S "nil"))
  | one : ParOk (.list (.one (.sym (S "x"))) .nil)
  | two : ParOk (.list (.two (.sym (S "x")) (.sym (S "x"))) .nil)
  | spec {P : Pl} : SpecOk P → ParOk P
theorem table4 {t₁ t₂ t₃ t₄ : Tok} {v : Int} (h0 : 0 ≤ v) (h4 : v < 4) : ∃ x t, [Value.str (S "lambda") t₁, .str (S "lambda") t₂, .str (S "lambda") t₃, .str (S "macro") t₄][v.toNat]? = some (.str x t) ∧ (x = S "lambda" ∨ x = S "macro") := by
  have : v = 0 ∨ v = 1 ∨ v = 2 ∨ v = 3 := by omega
  rcases this with rfl | rfl | rfl | rfl
  · exact ⟨_, _, rfl, .inl rfl⟩
  · exact ⟨_, _, rfl, .inl rfl⟩
  · exact ⟨_, _, rfl, .inl rfl⟩
  · exact ⟨_, _, rfl, .inr rfl⟩
/-- behind the parameters -/
def ParPost (h₀ : Heap) (L : Addr) (m : Str → Option Value) (s : Shared) (aD aC : Addr) (rest : List (Addr × Obj)) (v : Value) (s' : Shared) : Prop :=
  ∃ P tl n t k h' tk', s' = { s with heap := h', toks := tk' } ∧ PlR tl v P ∧ ParOk P ∧ 0 ≤ n ∧ n ≤ 50 ∧ (∀ p ∈ tl, p.1 ≠ aD) ∧ Fr h₀ L h' m ∧ News h₀ L h' ((aD, deckO aC n t k) :: (rest ++ tl))
theorem ParPost.intro {h₀ : Heap} {L : Addr} {m : Str → Option Value} {s : Shared} {aD aC : Addr} {rest : List (Addr × Obj)} {v : Value} {h' : Heap} {tk' : Nat} {tl all : List (Addr × Obj)} {P : Pl} {n : Int} {t : Tok} {k : Nat}
    (F : Fr h₀ L h' m) (N : News h₀ L h' all) (hD : (aD, deckO aC n t k) ∈ all) (hr : ∀ p ∈ rest, p ∈ all) (ht : ∀ p ∈ tl, p ∈ all) (hP : PlR tl v P) (hok : ParOk P) (h0 : 0 ≤ n) (h1 : n ≤ 50) (off : ∀ p ∈ tl, p.1 ≠ aD) :
    ParPost h₀ L m s aD aC rest v { s with heap := h', toks := tk' } :=
  ⟨P, tl, n, t, k, h', tk', rfl, hP, hok, h0, h1, off, F, fun p hp => by
    rcases List.mem_cons.mp hp with rfl | hp
    · exact N _ hD
    · exact N _ ((List.mem_append.mp hp).elim (hr p) (ht p))⟩
theorem par_cut {M : Model} {A : Around} {E : Value → Shared → Prop} {s : Shared} {h₀ : Heap} {L : Addr} {m : Str → Option Value} {aD aC : Addr} {rest : List (Addr × Obj)} {tree : Sem Value} {Q : Value → Shared → Prop} {n0 : Int} {t0 : Tok} {k0 : Nat} (_F : Fr h₀ L s.heap m) (_N : News h₀ L s.heap ((aD, deckO aC n0 t0 k0) :: rest))
    (walk : wpAny M A tree (ParPost h₀ L m s aD aC rest) E s)
    (cont : ∀ P tl n t k v h' tk', PlR tl v P → ParOk P → 0 ≤ n → n ≤ 50 → (∀ p ∈ tl, p.1 ≠ aD) → Fr h₀ L h' m → News h₀ L h' ((aD, deckO aC n t k) :: (rest ++ tl)) → Q v { s with heap := h', toks := tk' }) :
    wpAny M A tree Q E s :=
  wpAny_mono walk (fun v s' ⟨P, tl, n, t, k, h', tk', e, hP, hok, h0, h1, off, F, N⟩ => e ▸ cont P tl n t k v h' tk' hP hok h0 h1 off F N) fun _ _ e => e
theorem pick6 {h₀ h : Heap} {L : Addr} {e0 e1 e2 e3 e4 e5 : Addr × Obj} (N : News h₀ L h [e0, e1, e2, e3, e4, e5]) : News h₀ L h [e2, e3, e5, e0] := fun p hp => N p (by
  simp only [List.mem_cons, List.not_mem_nil, or_false] at hp ⊢
  rcases hp with h | h | h | h <;> simp only [h, true_or, or_true])
theorem three_in {a b c d : Addr × Obj} {l : List (Addr × Obj)} : ∀ p ∈ [a, b, d], p ∈ a :: b :: c :: d :: l := fun p hp => by
  simp only [List.mem_cons, List.not_mem_nil, or_false] at hp ⊢
  rcases hp with h | h | h <;> simp only [h, true_or, or_true]
theorem four_ways {v : Int} (h0 : 0 ≤ v) (h4 : v < 4) : v = 0 ∨ v = 1 ∨ v = 2 ∨ v = 3 := by omega
def Pl.ofList : List Pl → Pl
  | [] => .nil
  | p :: r => .cons p (Pl.ofList r)
theorem ofList_lst (ps : List Pl) : (Pl.ofList ps).lst = ps := by
  induction ps with
  | nil => rfl
  | cons p r ih => simp [Pl.ofList, Pl.lst, ih]
theorem plsR_snoc {K : List (Addr × Obj)} : ∀ {vs : List Value} {ps : List Pl} {v : Value} {p : Pl}, PlsR K vs (Pl.ofList ps) → PlR K v p → PlsR K (vs ++ [v]) (Pl.ofList (ps ++ [p]))
  | [], [], _, _, _, h => .cons h .nil
  | _ :: _, [], _, _, h, _ => nomatch h
  | [], _ :: _, _, _, h, _ => nomatch h
  | _ :: _, _ :: _, _, _, .cons h1 h2, h => .cons h1 (plsR_snoc h2 h)
/-- between the turns that draw the forms -/
def FormInv (aD aC : Addr) (rest : List (Addr × Obj)) (i : Nat) (ys : List Value) (nx : List (Addr × Obj)) : Prop :=
  ∃ n t k ps tl, nx = (aD, deckO aC n t k) :: (rest ++ tl) ∧ PlsR tl ys (Pl.ofList ps) ∧ (∀ p ∈ ps, FormOk p) ∧ ps.length = i ∧ 0 ≤ n ∧ n ≤ 50 + 10 * (i : Int) + 10 ∧ (∀ p ∈ rest ++ tl, p.1 ≠ aD)
theorem off1_mem {D : Addr} : ∀ {l : List (Addr × Obj)}, LCg.Off1 D l → ∀ p ∈ l, p.1 ≠ D
  | [], _, _, h => nomatch h
  | _ :: _, x, p, h => by
    rcases List.mem_cons.mp h with rfl | h
    · exact x.1
    · exact off1_mem x.2 p h
open LCg in
theorem comp_forms {prog : Program} {w : World} {A : Around} {h₀ : Heap} {L : Addr} {m : Str → Option Value} {env : Env} {elt : Expr} {x : Str} {scope : Scope} {cl : List (Str × Addr)} {s : Shared} {Q : Value → Shared → Prop} {aD aC r : Addr} {n0 : Int} {t0 : Tok} {k0 : Nat} {e0 e2 e3 e4 : Addr × Obj} {tl : List (Addr × Obj)} {b : Int} {ta tb tc : Tok}
    (hh : A.handled = none) (F : Fr h₀ L s.heap m) (N : News h₀ L s.heap (e0 :: (aD, deckO aC n0 t0 k0) :: e2 :: e3 :: e4 :: tl)) (hr : IsRange s.heap r 0 b 1 ta tb tc) (hb0 : 0 ≤ b) (hb : b < 5) (off : ∀ p ∈ e0 :: e2 :: e3 :: e4 :: tl, p.1 ≠ aD) (hn0 : 0 ≤ n0) (hn : n0 ≤ 60)
    (turn : ∀ (s : Shared) (i : Nat) (ys : List Value) (nx : List (Addr × Obj)), i < b.toNat → FormInv aD aC (e0 :: e2 :: e3 :: e4 :: tl) i ys nx → ∀ v I oI C oC D m₂ h tk (E' : Value → Shared → Prop), NsObj oC m₂ → m₂ x = some v → Fr h₀ L h m → News h₀ L h ((I, oI) :: (C, oC) :: (D, lst ys) :: nx) → Off3 I C D nx → ((@Ne Nat I C) ∧ (@Ne Nat I D) ∧ (@Ne Nat C D)) →
      wpAny (model prog w) A (eval elt (compEnvC scope cl C env)) (CompEnd h₀ L m { s with heap := h, toks := tk } I oI C oC D (lst ys) (fun _ => True) (fun y news' => FormInv aD aC (e0 :: e2 :: e3 :: e4 :: tl) (i + 1) (ys ++ [y]) news')) E' { s with heap := h, toks := tk })
    (fin : ∀ ys n t k ps tl2 D h tk, PlsR tl2 ys (Pl.ofList ps) → (∀ p ∈ ps, FormOk p) → ps.length ≤ 4 → 0 ≤ n → n ≤ 110 → Fr h₀ L h m → News h₀ L h ((D, lst ys) :: (aD, deckO aC n t k) :: e0 :: e2 :: e3 :: e4 :: (tl ++ tl2)) → (∀ p ∈ tl ++ tl2, p.1 ≠ aD) → D ≠ aD → (∀ p ∈ e0 :: e2 :: e3 :: e4 :: (tl ++ tl2), p.1 ≠ D) → Q (.ref D) { s with heap := h, toks := tk }) :
    CompSrc prog w A h₀ L m env elt x scope cl (fun s₂ => FinE h₀ L m s₂ Q) (.ref r) s := by
  have e : Builtin.Range.rangeSize 0 b 1 = (b.toNat : Int) := by rw [rangeSize_nat]; simp
  have hb' : b.toNat ≤ 4 := by omega
  have N2 : News h₀ L s.heap ((aD, deckO aC n0 t0 k0) :: ((e0 :: e2 :: e3 :: e4 :: tl) ++ [])) := fun p hp => N p (by
    rw [List.append_nil] at hp
    rcases List.mem_cons.mp hp with rfl | hp
    · exact .tail _ (.head _)
    · rcases List.mem_cons.mp hp with rfl | hp
      · exact .head _
      · exact .tail _ (.tail _ hp))
  refine CompSrc.range (n := b.toNat) hh F N2 hr (small_one (by decide) (by decide) (by omega) (by omega)) e (Nat.le_trans hb' (by decide +kernel)) fun g => ?_
  refine compRest_ind (FormInv aD aC (e0 :: e2 :: e3 :: e4 :: tl)) ?_ ?_ _ 0 [] _ (Nat.zero_add _) ⟨n0, t0, k0, [], [], rfl, .nil, fun _ h => (nomatch h), rfl, hn0, by omega, fun p hp => off p (by rwa [List.append_nil] at hp)⟩
  · intro i ys nx hi hI v I oI C oC D m₂ h tk E' _ hC hx F' N' off' ne
    exact turn _ i ys nx hi hI v I oI C oC D m₂ h tk E' hC hx F' N' off' ne
  · rintro ys nx ⟨n, t, k, ps, tl2, rfl, hP, hF, hl, h0, h1, hoff⟩
    intro D h tk F' N' o1
    refine fin ys n t k ps tl2 D h tk hP hF (by omega) h0 (by omega) F' N' (fun p hp => hoff p (by simp only [List.cons_append, List.mem_cons]; exact .inr (.inr (.inr (.inr hp))))) (fun e => off1_mem o1 _ (.head _) e.symm) fun p hp => off1_mem o1 p (.tail _ hp)
theorem off_three {aD : Addr} {I C D : Addr} {oI oC oD o o' : Obj} {rest tl2 tl3 X : List (Addr × Obj)} (h2 : ∀ p ∈ (aD, o) :: (rest ++ tl2), p.1 ≠ I ∧ p.1 ≠ C ∧ p.1 ≠ D) (h3 : ∀ p ∈ tl3, ∀ q ∈ (I, oI) :: (C, oC) :: (D, oD) :: X, p.1 ≠ q.1) :
    ∀ p ∈ (aD, o') :: (rest ++ (tl3 ++ tl2)), p.1 ≠ I ∧ p.1 ≠ C ∧ p.1 ≠ D := fun p hp => by
  rcases List.mem_cons.mp hp with rfl | hp
  · exact h2 (aD, o) (.head _)
  · rcases List.mem_append.mp hp with hp | hp
    · exact h2 p (.tail _ (List.mem_append.mpr (.inl hp)))
    · rcases List.mem_append.mp hp with hp | hp
      · exact ⟨h3 p hp _ (.head _), h3 p hp _ (.tail _ (.head _)), h3 p hp _ (.tail _ (.tail _ (.head _)))⟩
      · exact h2 p (.tail _ (List.mem_append.mpr (.inr hp)))
theorem off_deck {aD : Addr} {rest tl2 tl3 X : List (Addr × Obj)} {o : Obj} (h : ∀ p ∈ rest ++ tl2, p.1 ≠ aD) (h3 : ∀ p ∈ tl3, ∀ q ∈ X, p.1 ≠ q.1) (hm : (aD, o) ∈ X) : ∀ p ∈ rest ++ (tl3 ++ tl2), p.1 ≠ aD := fun p hp => by
  rcases List.mem_append.mp hp with hp | hp
  · exact h p (List.mem_append.mpr (.inl hp))
  · rcases List.mem_append.mp hp with hp | hp
    · exact h3 p hp _ hm
    · exact h p (List.mem_append.mpr (.inr hp))
/-- a mark: stop at the next if -/
inductive MarkIf : Prop
  | intro
theorem way_cases {v : Int} (_h0 : 0 ≤ v) (_h : v < 6) : v = 2 ∨ v = 3 ∨ v = 4 ∨ v = 5 ∨ v = 0 ∨ v = 1 := by omega
theorem news_ne37 {h₀ h : Heap} {L : Addr} {news : List (Addr × Obj)} (N : News h₀ L h news) (hx : ∃ o, h₀.get? 37 = some o) : ∀ p ∈ news, p.1 ≠ 37 := fun p hp e => by
  obtain ⟨o, ho⟩ := hx
  have := (N p hp).2.2
  rw [e, ho] at this
  cases this
end PartBase5
noncomputable section PartBase6
theorem inst_news {h₀ h : Heap} {L x C dx : Addr} {news : List (Addr × Obj)} {od : Obj} {sl : Array (Option Value)} (N : News h₀ L h news) (h1 : (x, (⟨.ref C, some dx, .plain, sl⟩ : Obj)) ∈ news) (h2 : (dx, od) ∈ news) :
    InstAt h x ⟨.ref C, some dx, .plain, sl⟩ C (some od) := ⟨(N _ h1).1, rfl, rfl, (N _ h2).1⟩
def WO (h₀ : Heap) (L : Addr) (s : Shared) (m : Str → Option Value) (y : Str) (av : Nat → Value) (news : List (Addr × Obj)) (M : Nat) (Q : Flow → Shared → Prop) (i : Nat) (f : Flow) (s₃ : Shared) : Prop :=
  match f with
  | .next | .cont => ∃ h' tk, s₃ = { s with heap := h', toks := tk } ∧ Fr h₀ L h' (fun x => if x = y then some (av (i + 1)) else m x) ∧ News h₀ L h' news ∧ i + 1 ≤ M
  | .brk => Q .next s₃
  | .ret v => Q (.ret v) s₃
/-- a while that goes along a chain: one name by the turn's number, the ledger as it stands -/
theorem while_one {prog : Program} {w : World} {A : Around} {E : Value → Shared → Prop} {Q : Flow → Shared → Prop} {s : Shared} {env : Env} {h₀ : Heap} {L : Addr} {test : Expr} {body : List Stmt} {pos : Pos} {m : Str → Option Value} {news : List (Addr × Obj)} (y : Str) (av : Nat → Value) (M : Nat)
    (F : Fr h₀ L s.heap m) (N : News h₀ L s.heap news) (hy : m y = some (av 0))
    (turn : ∀ i h tk, i ≤ M → Fr h₀ L h (fun x => if x = y then some (av i) else m x) → News h₀ L h news →
      wpAny (model prog w) A (isTrue test env (eval test env)) (fun b s₂ => if b = true then wpAny (model prog w) A (execs body env) (WO h₀ L s m y av news M Q i) E s₂ else Q .next s₂) E { s with heap := h, toks := tk })
    (hE : PassesOwn (model prog w) A env E := by passes_own) :
    wpAny (model prog w) A (exec (.While test body [] pos) env) Q E s := by
  refine While_inv2 (fun n m₁ nx => ∃ i, i ≤ M ∧ n = M - i ∧ m₁ = (fun x => if x = y then some (av i) else m x) ∧ nx = news) (n₀ := M) F N ⟨0, Nat.zero_le _, rfl, ?_, rfl⟩ ?_ hE
  · funext x
    by_cases h1 : x = y
    · simp [h1, hy]
    · simp [h1]
  · rintro n m₁ nx h tk F₁ N₁ ⟨i, hi, rfl, rfl, rfl⟩
    refine wpAny_mono (turn i h tk hi F₁ N₁) (fun b s₂ p => ?_) fun _ _ e => e
    cases b with
    | false => exact p
    | true =>
      simp only [if_true] at p ⊢
      refine wpAny_mono p (fun f s₃ q => ?_) fun _ _ e => e
      cases f with
      | ret v => exact q
      | brk => exact q
      | next =>
        obtain ⟨h', tk', e, F', N', hi'⟩ := q
        exact ⟨h', tk', _, nx, M - (i + 1), e, F', N', by omega, i + 1, hi', rfl, rfl, rfl⟩
      | cont =>
        obtain ⟨h', tk', e, F', N', hi'⟩ := q
        exact ⟨h', tk', _, nx, M - (i + 1), e, F', N', by omega, i + 1, hi', rfl, rfl, rfl⟩
/-- one thing ahead of the rest -/
theorem news_split {h₀ h : Heap} {L : Addr} {K : List (Addr × Obj)} {dx : Addr} {o : Obj} (N : News h₀ L h K) (hm : (dx, o) ∈ K) : ∃ rest, News h₀ L h ((dx, o) :: rest) ∧ (∀ p ∈ rest, p.1 ≠ dx) ∧ (∀ p ∈ K, p.1 ≠ dx → p ∈ rest) := by
  refine ⟨K.filter fun p => p.1 ≠ dx, fun p hp => ?_, fun p hp => by simpa using (List.mem_filter.mp hp).2, fun p hp hne => List.mem_filter.mpr ⟨hp, by simpa using hne⟩⟩
  rcases List.mem_cons.mp hp with rfl | hp
  · exact N _ hm
  · exact N _ (List.mem_filter.mp hp).1
theorem fr_last {h₀ h : Heap} {L : Addr} {y : Str} {u v : Value} {b : Option Value} {m : Str → Option Value} (F : Fr h₀ L h (fun x => if x = y then some v else if x = y then b else m x)) (e : u = v) : Fr h₀ L h (fun x => if x = y then some u else m x) := by
  have : (fun x => if x = y then some v else if x = y then b else m x) = fun x => if x = y then some u else m x := by
    funext x
    by_cases h : x = y <;> simp [h, e]
  rw [this] at F
  exact F
theorem lsp_nil_end {K : List (Addr × Obj)} {v : Value} (h : LspR K v .nil) : v = .ref 37 := by
  cases h; rfl
theorem inst_not_dict {g : Heap} {K : List (Addr × Obj)} {y dy : Addr} {C : Addr} {es : List DictEntry} {n : Nat} (O : Old g K) (h1 : (y, instObj C dy) ∈ K) (h2 : (dy, dictOf es n) ∈ K) : y ≠ dy := fun e => by
  subst e
  cases old_fun O h1 h2
theorem put_cdr (g1 g2 g3 : Int) (u1 u2 : Tok) (a b v key : Value) (n : Nat) :
    (putL (S "cdr") g3 key v [⟨g1, .str (S "car") u1, a⟩, ⟨g2, .str (S "cdr") u2, b⟩], putN (S "cdr") [⟨g1, .str (S "car") u1, a⟩, ⟨g2, .str (S "cdr") u2, b⟩] n) =
      ([⟨g1, .str (S "car") u1, a⟩, ⟨g2, .str (S "cdr") u2, v⟩], n) := rfl
end PartBase6
noncomputable section PartBase7
/-- what interactive_spec is asked of, and what is due -/
inductive DShape : Lsp → Option Str → Prop
  | atom {D : Lsp} : (∀ a b, D ≠ .cons a b) → DShape D none
  | proper {Ds : List Lsp} : Ds ≠ [] → Ds.length ≤ 1000 → (∀ d ∈ Ds, d.txt) → DShape (lspList Ds .nil) (specOf Ds)
  | dotted {Ds : List Lsp} {T : Lsp} : Ds ≠ [] → Ds.length ≤ 1000 → T ≠ .nil → (∀ a b, T ≠ .cons a b) → DShape (lspList Ds T) none
theorem form_same {p : Pl} (h : FormOk p) : p.sem.1.isInt = p.isF ∧ (p.isF = true → p.sem.1.cdr.first = p.beh) := by
  cases h with
  | spec h => cases h <;> decide +kernel
  | told => decide +kernel
  | sym => decide +kernel
  | progn h => cases h <;> decide +kernel
  | inn h => cases h <;> decide +kernel
  | whole => exact ⟨rfl, fun h => nomatch h⟩
theorem specR_dueR : ∀ {ps : List Pl}, (∀ p ∈ ps, FormOk p) → specR (ps.map fun p => p.sem.1) = dueR ps
  | [], _ => rfl
  | p :: r, h => by
    obtain ⟨e1, e2⟩ := form_same (h p (.head _))
    simp only [List.map_cons, specR, dueR, e1, specR_dueR fun q hq => h q (.tail _ hq)]
    cases e : p.isF with
    | true => simp [e2 e]
    | false => simp
theorem ofList_sem (ps : List Pl) : (Pl.ofList ps).sem.2 = ps.map fun p => p.sem.1 := by
  induction ps with
  | nil => rfl
  | cons p r ih => simp [Pl.ofList, Pl.sem, ih]
theorem sym_sem {x : Str} (h : ¬ (x = S "nil")) : (Pl.sym x).sem.1 = .sym x := by
  show (if x = S "nil" then Lsp.nil else Lsp.sym x) = _
  rw [if_neg h]
/-- the law's plain half: what is told is what is due -/
theorem spec_due {x : Str} (hx : x = S "lambda" ∨ x = S "macro") : ∀ {r : List Pl}, (∀ p ∈ r.drop 1, FormOk p) → specOf ((Pl.sym x :: r).map fun p => p.sem.1) = dueOf (Pl.sym x :: r)
  | [], _ => by rcases hx with rfl | rfl <;> rfl
  | P :: ps, h => by
    have hs := specR_dueR (ps := ps) h
    rcases hx with rfl | rfl
    · have e : (Pl.sym (S "lambda")).sem.1 = .sym (S "lambda") := sym_sem (by decide +kernel)
      have e2 : (Pl.sym (S "lambda")).isSym (S "lambda") = true := by decide +kernel
      simp only [List.map_cons, e, specOf, dueOf, e2, if_true, hs]
    · have e : (Pl.sym (S "macro")).sem.1 = .sym (S "macro") := sym_sem (by decide +kernel)
      have e2 : (Pl.sym (S "macro")).isSym (S "lambda") = false := by decide +kernel
      have e3 : ¬ (S "macro" = S "lambda") := by decide +kernel
      simp only [List.map_cons, e, specOf, dueOf, e2, if_neg e3, Bool.false_eq_true, if_false]
theorem sym_txt (x : Str) : (Pl.sym x).sem.1.txt := by
  show Lsp.txt (if x = S "nil" then Lsp.nil else Lsp.sym x)
  split <;> trivial
theorem ok_p : TextOk (S "p") := .inl rfl
theorem ok_rP : TextOk (S "r\nP") := .inr (.inl rfl)
theorem ok_e : TextOk (S "") := .inr (.inr (.inl rfl))
theorem ok_s : TextOk (S "*sName: ") := .inr (.inr (.inr (.inl rfl)))
theorem ok_t : TextOk (S "told") := .inr (.inr (.inr (.inr rfl)))
theorem spec_txt {P : Pl} (h : SpecOk P) : P.txt ∧ P.ht ≤ 2 ∧ P.sem.1.txt ∧ P.shp ∧ shd P := by
  cases h
  all_goals refine ⟨?_, by decide +kernel, ?_, ⟨_, _, rfl, by decide +kernel, by decide +kernel⟩, by decide +kernel⟩
  · exact ⟨⟨trivial, ok_p, trivial⟩, trivial, by decide⟩
  · exact ⟨sym_txt _, ok_p, trivial⟩
  · exact ⟨⟨trivial, ok_rP, trivial⟩, trivial, by decide⟩
  · exact ⟨sym_txt _, ok_rP, trivial⟩
  · exact ⟨⟨trivial, ok_e, trivial⟩, trivial, by decide⟩
  · exact ⟨sym_txt _, ok_e, trivial⟩
  · exact ⟨⟨trivial, ok_s, trivial⟩, trivial, by decide⟩
  · exact ⟨sym_txt _, ok_s, trivial⟩
  · exact ⟨⟨trivial, trivial, trivial⟩, trivial, by decide⟩
  · exact ⟨sym_txt _, trivial, trivial⟩
  · exact ⟨⟨trivial, trivial⟩, trivial, by decide⟩
  · exact ⟨sym_txt _, trivial⟩
  · exact ⟨⟨trivial, trivial⟩, ok_p, by decide⟩
  · exact ⟨sym_txt _, ok_p⟩
  · exact ⟨⟨trivial, trivial, ok_p, trivial⟩, trivial, by decide⟩
  · exact ⟨sym_txt _, sym_txt _, ok_p, trivial⟩
  · exact ⟨⟨trivial, trivial, ok_p, trivial⟩, trivial, by decide⟩
  · exact ⟨sym_txt _, sym_txt _, ok_p, trivial⟩
theorem shaped_whole (i : Int) : shd (.whole i) := by
  show SeqAt.shaped (.tuple [.str (S "whole"), .int i]) = true
  have h1 : SeqAt.shaped (.tuple [.str (S "whole"), .int 0]) = true := by decide +kernel
  exact h1
theorem spec_depth {P : Pl} (h : SpecOk P) : P.data.1.canLay0 = true ∧ P.data.1.depth ≤ 20 := by
  cases h <;> exact ⟨by decide +kernel, by decide +kernel⟩
theorem form_txt {P : Pl} (h : FormOk P) : P.txt ∧ P.ht ≤ 3 ∧ P.sem.1.txt ∧ P.shp := by
  cases h with
  | spec h => obtain ⟨a, b, c, d, e⟩ := spec_txt h; exact ⟨a, by omega, c, d⟩
  | told => exact ⟨ok_t, by decide +kernel, ok_t, show shd _ by decide +kernel⟩
  | sym => exact ⟨trivial, by decide +kernel, sym_txt _, show shd _ by decide +kernel⟩
  | whole => exact ⟨trivial, by simp [Pl.ht], trivial, shaped_whole _⟩
  | progn h =>
    obtain ⟨a, b, c, d, e⟩ := spec_txt h
    exact ⟨⟨⟨trivial, a, trivial⟩, trivial, by simp [Pl.len]⟩, by simp only [Pl.ht]; omega, ⟨sym_txt _, c, trivial⟩, ⟨_, _, rfl, by decide +kernel, by simp [Pl.lst]⟩⟩
  | inn h =>
    obtain ⟨a, b, c, d, e⟩ := spec_txt h
    exact ⟨⟨⟨a, ok_p, trivial⟩, trivial, by simp [Pl.len]⟩, by simp only [Pl.ht]; omega, ⟨c, ok_p, trivial⟩, ⟨_, _, rfl, e, by simp [Pl.lst]⟩⟩
theorem par_txt {P : Pl} (h : ParOk P) : P.txt ∧ P.ht ≤ 3 ∧ P.sem.1.txt ∧ P.shp := by
  cases h with
  | spec h => obtain ⟨a, b, c, d, e⟩ := spec_txt h; exact ⟨a, by omega, c, d⟩
  | nil => exact ⟨trivial, by decide +kernel, sym_txt _, show shd _ by decide +kernel⟩
  | one => exact ⟨⟨⟨trivial, trivial⟩, trivial, by simp [Pl.len]⟩, by decide +kernel, ⟨sym_txt _, trivial⟩, ⟨_, _, rfl, by decide +kernel, by simp [Pl.lst]⟩⟩
  | two => exact ⟨⟨⟨trivial, trivial, trivial⟩, trivial, by simp [Pl.len]⟩, by decide +kernel, ⟨sym_txt _, sym_txt _, trivial⟩, ⟨_, _, rfl, by decide +kernel, by simp [Pl.lst]⟩⟩
theorem head_txt {x : Str} (hx : x = S "lambda" ∨ x = S "macro") : (Pl.sym x).txt ∧ (Pl.sym x).ht ≤ 3 ∧ (Pl.sym x).sem.1.txt ∧ (Pl.sym x).shp ∧ shd (Pl.sym x) := by
  rcases hx with rfl | rfl
  · exact ⟨trivial, by decide +kernel, sym_txt _, show shd _ by decide +kernel, by decide +kernel⟩
  · exact ⟨trivial, by decide +kernel, sym_txt _, show shd _ by decide +kernel, by decide +kernel⟩
/-- what holds of each piece -/
def PcOk (P : Pl) : Prop := P.txt ∧ P.ht ≤ 3 ∧ P.sem.1.txt ∧ P.shp
theorem ofList_txt : ∀ {ps : List Pl}, (∀ p ∈ ps, PcOk p) → (Pl.ofList ps).txt ∧ (Pl.ofList ps).ht ≤ 3
  | [], _ => ⟨trivial, by simp [Pl.ofList, Pl.ht]⟩
  | p :: r, h => by
    obtain ⟨a, b, _, _⟩ := h p (.head _)
    obtain ⟨c, d⟩ := ofList_txt (ps := r) fun q hq => h q (.tail _ hq)
    exact ⟨⟨a, c⟩, by simp only [Pl.ofList, Pl.ht]; omega⟩
theorem ofList_len (ps : List Pl) : (Pl.ofList ps).len = ps.length := by
  induction ps with
  | nil => rfl
  | cons p r ih => simp [Pl.ofList, Pl.len, ih]
theorem spec_none {Ds : List Lsp} {d : Lsp} (e : Ds[0]? = some d) (h : d ≠ .sym (S "lambda")) : specOf Ds = none := by
  cases d with
  | sym y => exact specOf_else e (by simpa using fun e => h (by rw [e]))
  | _ => exact specOf_other e (fun y e => nomatch e)
theorem int_ne : Pl.int.sem.1 ≠ .sym (S "lambda") := by
  rw [sym_sem (by decide +kernel)]
  exact fun e => absurd (Lsp.sym.inj e) (by decide +kernel)
theorem progn_ne : (Pl.sym (S "progn")).sem.1 ≠ .sym (S "lambda") := by
  rw [sym_sem (by decide +kernel)]
  exact fun e => absurd (Lsp.sym.inj e) (by decide +kernel)
theorem spec_ne {P : Pl} (h : SpecOk P) : P.sem.1 ≠ .sym (S "lambda") := by
  cases h <;> exact fun e => nomatch e
theorem shape_list {d : Lsp} {Ds : List Lsp} (h : d ≠ .sym (S "lambda")) (hl : (d :: Ds).length ≤ 1000) (ht : ∀ x ∈ d :: Ds, x.txt) : DShape (lspList (d :: Ds) .nil) none := by
  have := DShape.proper (Ds := d :: Ds) (fun e => nomatch e) hl ht
  rw [spec_none (Ds := d :: Ds) rfl h] at this
  exact this
theorem all1 {α : Type} {P : α → Prop} {a : α} (h : P a) : ∀ x ∈ [a], P x := fun x hx => List.mem_singleton.mp hx ▸ h
theorem all2 {α : Type} {P : α → Prop} {a b : α} (h : P a) (h2 : P b) : ∀ x ∈ [a, b], P x := List.forall_mem_cons.mpr ⟨h, all1 h2⟩
theorem all3 {α : Type} {P : α → Prop} {a b c : α} (h : P a) (h2 : P b) (h3 : P c) : ∀ x ∈ [a, b, c], P x := List.forall_mem_cons.mpr ⟨h, all2 h2 h3⟩
/-- a form as a function: nothing is told of it -/
theorem form_shape {P : Pl} (h : FormOk P) : DShape P.sem.1 none := by
  cases h with
  | told => exact .atom fun _ _ e => nomatch e
  | sym => refine .atom fun _ _ e => ?_; rw [sym_sem (by decide +kernel)] at e; cases e
  | whole => exact .atom fun _ _ e => nomatch e
  | progn h => exact shape_list (d := (Pl.sym (S "progn")).sem.1) (Ds := [_]) progn_ne (by simp) (all2 (sym_txt _) (spec_txt h).2.2.1)
  | inn h => exact shape_list (Ds := [_]) (spec_ne h) (by simp) (all2 (spec_txt h).2.2.1 ok_p)
  | spec h =>
    cases h with
    | t1 => exact shape_list (d := Pl.int.sem.1) (Ds := [_]) int_ne (by simp) (all2 (sym_txt _) ok_p)
    | t2 => exact shape_list (d := Pl.int.sem.1) (Ds := [_]) int_ne (by simp) (all2 (sym_txt _) ok_rP)
    | t3 => exact shape_list (d := Pl.int.sem.1) (Ds := [_]) int_ne (by simp) (all2 (sym_txt _) ok_e)
    | t4 => exact shape_list (d := Pl.int.sem.1) (Ds := [_]) int_ne (by simp) (all2 (sym_txt _) ok_s)
    | w => exact shape_list (d := Pl.int.sem.1) (Ds := [_]) int_ne (by simp) (all2 (sym_txt _) trivial)
    | n => exact shape_list (d := Pl.int.sem.1) (Ds := []) int_ne (by simp) (all1 (sym_txt _))
    | d => exact .dotted (Ds := [Pl.int.sem.1]) (fun e => nomatch e) (by simp) (fun e => nomatch e) (fun _ _ e => nomatch e)
    | s1 => exact shape_list (d := Pl.int.sem.1) (Ds := [(Pl.sym (S "p")).sem.1, _]) int_ne (by simp) (all3 (sym_txt _) (sym_txt _) ok_p)
    | s2 => exact .dotted (Ds := [Pl.int.sem.1, (Pl.sym (S "p")).sem.1, .text (S "p")]) (fun e => nomatch e) (by simp) (fun e => nomatch e) (fun _ _ e => nomatch e)
theorem head_pc {x : Str} (hx : x = S "lambda" ∨ x = S "macro") : PcOk (.sym x) := let ⟨a, b, c, d, _⟩ := head_txt hx; ⟨a, b, c, d⟩
theorem pcs_ok {x : Str} {P : Pl} {ps : List Pl} (hx : x = S "lambda" ∨ x = S "macro") (hP : ParOk P) (hF : ∀ p ∈ ps, FormOk p) : ∀ p ∈ Pl.sym x :: P :: ps, PcOk p :=
  List.forall_mem_cons.mpr ⟨head_pc hx, List.forall_mem_cons.mpr ⟨par_txt hP, fun p hp => form_txt (hF p hp)⟩⟩
theorem pick_pcs {h₀ h : Heap} {L : Addr} {e0 e1 e2 e3 e4 e5 e6 : Addr × Obj} {X : List (Addr × Obj)} (N : News h₀ L h (e0 :: e1 :: e2 :: e3 :: e4 :: e5 :: e6 :: X)) : News h₀ L h (e2 :: e0 :: e4 :: e5 :: e6 :: X) := fun p hp => N p (by
  simp only [List.mem_cons] at hp ⊢
  rcases hp with h | h | h | h | h | h <;> simp only [h, true_or, or_true])
theorem pcs_in {h₀ h : Heap} {L : Addr} {e0 e1 e2 e3 : Addr × Obj} {aH : Addr} {t₁ t₂ : Tok} {k : Nat} {x : Str} {tl tl2 : List (Addr × Obj)} {v : Value} {P : Pl} {ys : List Value} {ps : List Pl}
    (_N : News h₀ L h (e0 :: e1 :: e2 :: e3 :: (aH, tupO [.str (S "symbol") t₁, .str x t₂] k) :: (tl ++ tl2))) (hP : PlR tl v P) (hPs : PlsR tl2 ys (Pl.ofList ps)) :
    PlsR (e1 :: e2 :: e3 :: (aH, tupO [.str (S "symbol") t₁, .str x t₂] k) :: (tl ++ tl2)) (.ref aH :: v :: ys) (Pl.ofList (.sym x :: P :: ps)) := by
  refine .cons (.sym (t₁ := t₁) (t₂ := t₂) (k := k) ?_) (.cons (hP.mono fun p hp => ?_) (hPs.mono fun p hp => ?_))
  · simp only [List.mem_cons, true_or, or_true]
  · simp only [List.mem_cons, List.mem_append, hp, true_or, or_true]
  · simp only [List.mem_cons, List.mem_append, hp, true_or, or_true]
/-- the plan of the whole: a list of the pieces, an end -/
theorem whole_txt {ips : List Pl} {T : Pl} (h : ∀ p ∈ ips, PcOk p) (hl : ips.length ≤ 100) (hT : T.txt) : (Pl.list (Pl.ofList ips) T).txt := ⟨(ofList_txt h).1, hT, by rw [ofList_len]; omega⟩
theorem whole_ht {ips : List Pl} {T : Pl} (h : ∀ p ∈ ips, PcOk p) (hT : T.ht ≤ 1) : (Pl.list (Pl.ofList ips) T).ht ≤ 4 := by
  have := (ofList_txt h).2
  simp only [Pl.ht]; omega
theorem whole_sem (ips : List Pl) (T : Pl) : (Pl.list (Pl.ofList ips) T).sem.1 = lspList (ips.map fun p => p.sem.1) T.sem.1 := by
  show lspList (Pl.ofList ips).sem.2 T.sem.1 = _
  rw [ofList_sem]
theorem map_txt {ips : List Pl} (h : ∀ p ∈ ips, PcOk p) : ∀ d ∈ ips.map (fun p => p.sem.1), d.txt := fun d hd => by
  obtain ⟨p, hp, rfl⟩ := List.mem_map.mp hd
  exact (h p hp).2.2.1
theorem whole_shape {x : Str} {r : List Pl} (hx : x = S "lambda" ∨ x = S "macro") (h : ∀ p ∈ Pl.sym x :: r, PcOk p) (hl : r.length ≤ 90) (hF : ∀ p ∈ r.drop 1, FormOk p) : DShape (Pl.list (Pl.ofList (.sym x :: r)) .nil).sem.1 (dueOf (.sym x :: r)) := by
  rw [whole_sem, ← spec_due hx hF]
  exact .proper (fun e => nomatch e) (by simp; omega) (map_txt h)
theorem whole_dotted {x : Str} {r : List Pl} {i : Int} (hl : r.length ≤ 90) : DShape (Pl.list (Pl.ofList (.sym x :: r)) (.whole i)).sem.1 none := by
  rw [whole_sem]
  exact .dotted (fun e => nomatch e) (by simp; omega) (fun e => nomatch e) (fun _ _ e => nomatch e)
theorem plsR_one {K : List (Addr × Obj)} {a : Value} {vs : List Value} {p : Pl} {ps : List Pl} (h : PlsR K (a :: vs) (Pl.ofList (p :: ps))) : PlsR K [a] (Pl.ofList [p]) := by
  cases h with
  | cons h1 _ => exact .cons h1 .nil
theorem plsR_two {K : List (Addr × Obj)} {a b : Value} {vs : List Value} {p q : Pl} {ps : List Pl} (h : PlsR K (a :: b :: vs) (Pl.ofList (p :: q :: ps))) : PlsR K [a, b] (Pl.ofList [p, q]) := by
  cases h with
  | cons h1 h2 => cases h2 with
    | cons h3 _ => exact .cons h1 (.cons h3 .nil)
theorem two_ways {v : Int} (h0 : 0 ≤ v) (h : v < 2) : v = 0 ∨ v = 1 := by omega
theorem pick_upto {y : Int} (vs : List Value) (hy : 0 ≤ y) : (slicePick vs.toArray none (some y) none) = (vs.take y.toNat).toArray := by
  have e : sliceBounds none (some y) none vs.toArray.size = (((0 : Nat) : Int), ((min y.toNat vs.length : Nat) : Int), 1) := by
    have hs : vs.toArray.size = vs.length := by simp
    rw [hs]
    simp only [sliceBounds, Option.getD_none, show (1 : Int) > 0 by decide, if_true, if_neg (show ¬ (y < 0) by omega)]
    congr 2
    omega
  rw [kmk_pick_nat _ e]
  simp only [List.drop_zero, Nat.sub_zero]
  congr 1
  rw [List.take_eq_take_iff]
  omega
theorem slice_upto {prog : Program} {w : World} {A : Around} {E : Value → Shared → Prop} {s : Shared} {h₀ : Heap} {L l : Addr} {m : Str → Option Value} {news : List (Addr × Obj)} {value slice : PySem.Expr} {vs : List Value} {y : Int} {t : Tok} {Q : Value → Shared → Prop}
    (F : Fr h₀ L s.heap m) (N : News h₀ L s.heap news) (hl : s.heap.IsList l vs.toArray) (hz : vs.length ≤ 16384) (hy : 0 ≤ y)
    (h : ∀ D h', Fr h₀ L h' m → News h₀ L h' ((D, lstK (vs.take y.toNat) 0) :: news) → (∀ p ∈ news, p.1 < D) → Q (.ref D) { s with heap := h' })
    (hs : subscripted slice false (.ref l) (.ref s.heap.objs.size) = operate [.ref s.heap.objs.size, .ref l] (getItem (.ref l) (.ref s.heap.objs.size))) (ht : ∀ r, letTemporaryGo value (.ref l) r = pure ()) :
    wpAny (model prog w) A (subscriptTail value slice (.ref l) (.ref s.heap.objs.size)) Q E { s with heap := s.heap.push { cls := .type "slice", data := .fields #[.none, .int y t, .none] } } := by
  refine kmk_slice F N hl .none (.int _ _) (fun D h' F' N' l1 => h D h' F' ?_ l1) hs ht ?_
  · rw [pick_upto vs hy] at N'
    exact N'
  · have : vs.toArray.size ≤ 16384 := by simpa using hz
    exact Nat.le_trans this (by decide +kernel)
theorem pls_small {K : List (Addr × Obj)} {vs : List Value} {p q : Pl} {ps : List Pl} (h : PlsR K vs (Pl.ofList (p :: q :: ps))) (hl : ps.length ≤ 4) : vs.length ≤ 16384 := by
  rw [plsR_lst h, ofList_lst]; simp; omega
theorem ys_room {K : List (Addr × Obj)} {ys : List Value} {ps : List Pl} {u v : Value} (h : PlsR K ys (Pl.ofList ps)) (hl : ps.length ≤ 4) : #[u, v].toList.length + ys.toArray.toList.length ≤ sizeLine := by
  have e : ys.length = ps.length := (plsR_len h).1.trans (ofList_len ps)
  have e2 : #[u, v].toList.length = 2 := rfl
  rw [List.toList_toArray, e, e2]
  exact Nat.le_trans (Nat.add_le_add_left hl 2) (by decide)
end PartBase7
section Walks
theorem fill_all : ∀ (w : World) (h : Heap), (hd.heap_39 w.params).In h → Challenge.rw_on0061_01 = Challenge.rw_on0061_01 := by
  w_top off
  k_fill
  intros
  rfl
local macro_rules | `(tactic| k_room) => `(tactic| ktr_room)
local macro_rules | `(tactic| k_lt $h:ident) => `(tactic| (replace $h := allLt_of $h; simp only [allLt_app, AllLt, and_true] at $h:ident))
local macro_rules | `(tactic| k_mem) => `(tactic| first | exact List.mem_cons_self | (refine' List.mem_cons_of_mem _ ?_; k_mem) | (refine' List.mem_append_left _ ?_; k_mem) | (refine' List.mem_append_right _ ?_; k_mem))
local macro_rules | `(tactic| walk_at $s:str) => `(tactic| k_extra $s)
section PartCDraw
theorem walk_plain_CDraw : True := by
  w_top off
  k_with_none
  trivial
set_option maxRecDepth 100000 in
set_option maxHeartbeats 8000000 in
theorem draw_ok {w : World} {dp un : Nat} {gd : Option (List Code)} {cn : Str} {cs : Scope} {a : Addr} {ccd : Value} {cl : List (Str × Addr)} {outer : List Env} {A₀ : Around} {base h₀ : Heap} {L : Addr} {m : Str → Option Value} {s : Shared} {mean : ExcName → Option Value} {mg mb : Str → Option Value} {Q E : Value → Shared → Prop} {news : List (Addr × Obj)}
   {many : Int} {tm : Tok} {aD aC : Addr} {n : Int} {t : Tok} {k kc : Nat} {vs : List Value} {ns : List Int} {gN : Obj → List (Addr × Obj)}
   (B : Below A₀ base outer h₀) (F : Fr h₀ L s.heap m) (X : (hd.heap_39 w.params).In h₀) (N : News h₀ L s.heap news) (T : Top hd.view_39 lso mean mg mb h₀) (hk : cs.kind = .function)
   (hU : UpdF aD (deckO aC n t k) news gN) (hC : (aC, lstK vs kc) ∈ news) (hne : aC ≠ aD) (hv : IntsAre vs ns) (hlen : ns.length ≤ 63)
   (hm : 0 < many) (hm2 : many < 100) (hn : 0 ≤ n) (hn2 : n < 1000) 
   (hdp : dp + 20 < recursionLimit)
   (ret : ∀ v tv t' k' h' tk', 0 ≤ v → v < many → Fr h₀ L h' m → News h₀ L h' (gN (deckO aC (n+1) t' k')) → Q (.int v tv) { s with heap := h', toks := tk' }) :
   wpAny (model PP w) (ktrTop dp un gd cn cs L a ccd cl outer) (call (.ref 129) [.ref aD, .int many tm]) Q E s := by
  refine wpAny_call ?_
  have hD := updF_mem hU
  have N2 : News h₀ L s.heap [(aD, deckO aC n t k), (aC, lstK vs kc)] := fun p hp => by
    rcases List.mem_cons.mp hp with rfl | hp
    · exact N _ hD
    · rw [List.mem_singleton.mp hp]; exact N _ hC
  k_dflt (refine' code_defG B F X N2 T rfl rfl hk ?k6 ?k7 ?k8 ?k9 ?kB ?_ ?c2 ?c3 ?c4 ?c5; (case k6 => k_is); (case k7 => k_is); (case k8 => ktr_room); (case k9 => exact BindsTo.of_eq rfl); (case c5 => decide); (case kB => exact locs rfl); (case c2 => exact rfl); (case c3 => exact rfl); (case c4 => exact rfl))
  intro g' L' h' FG' F' N' B' X' T' G'
  (try dsimp only); (try k_fold)
  have fin : ∀ (h1 : Heap) (m1 : Str → Option Value) (t' : Tok) (k' : Nat), Fr g' L' h1 m1 → News g' L' h1 [(aD, deckO aC (n + 1) t' k'), (aC, lstK vs kc)] → News h₀ L h1 (gN (deckO aC (n + 1) t' k')) := by
    intro h1 m1 t' k' F1 N1
    refine news_frame FG' N G' F1 N1 fun p hp => ?_
    rcases updF_all hU _ p hp with e | ⟨e1, e2⟩
    · exact .inl (e ▸ .head _)
    · by_cases hq : p.1 = aC
      · have h1 := (N p e1).1
        rw [hq, (N _ hC).1] at h1
        exact .inl (.tail _ (List.mem_singleton.mpr (Prod.ext hq (Option.some.inj h1).symm)))
      · exact .inr ⟨e1, by simpa using ⟨e2, hq⟩⟩
  clear N N2 hC hD
  k_steps
  all_goals exact ret _ _ _ _ _ _ (Int.fmod_nonneg_of_pos _ hm) (Int.fmod_lt_of_pos _ hm) (by assumption) (fin _ _ _ _ (by assumption) (by assumption))
end PartCDraw
section PartCSpec
theorem walk_plain_CSpec : True := by
  w_top off
  k_with_none
  trivial
theorem lines_CSpec_0 : True := by
  k_with_none
  k_with "call ref" => (k_here; (with_reducible show wpAny _ _ (call (Value.ref 129) _) _ _ _); k_dflt (refine draw_ok (by k_asm) (by k_asm) (by k_asm) (by k_asm) (by k_asm) (by first | exact rfl | assumption) (by k_updF) (by k_mem) (by first | assumption | k_ne) (by assumption) (by assumption) (by decide) (by decide) (by omega) (by omega) (by first | omega | ktr_room) ?_); intro v' tv' t' k' h' tk' h0' h1' F' N'; (try dsimp only at N'); (try dsimp only); (try k_sweep); (first | (revert v' tv' t' k' h' tk' h0' h1' F' N'; intro _ _ _ _ _ _ _ _ _ _) | (revert v' tv' t' k' h' tk' h0' h1' F'; intro _ _ _ _ _ _ _ _ _) | skip))
  trivial
local macro_rules | `(tactic| walk_at "plan") => `(tactic| first | assumption | exact PlsR.nil | exact TlR.none | (refine' PlsR.cons ?pa ?pb; (case pa => walk_at "plan"); (case pb => walk_at "plan")) | (refine' PlR.mono ?pa ?pb; (case pb => assumption); (case pa => (intro p9 h9; simp only [List.mem_append, List.mem_cons, h9, true_or, or_true]))) | (refine' PlR.at ?pa ?pb; (case pa => k_mem); (case pb => first | exact PlR.sym | exact PlR.text | exact PlR.whole | (intro hm9; refine' PlR.list hm9 ?pb ?pc ?pd; (case pb => k_mem); (case pc => walk_at "plan"); (case pd => walk_at "plan")))) | (refine' TlR.some ?pa; (case pa => walk_at "plan")))
theorem lines_CSpec_1 : True := by
  k_with "split" => first | exact List.nil_append _ | exact app_cons (List.nil_append _) | exact app_cons (app_cons (List.nil_append _)) | exact app_cons (app_cons (app_cons (List.nil_append _))) | exact app_cons (app_cons (app_cons (app_cons (List.nil_append _)))) | exact app_cons (app_cons (app_cons (app_cons (app_cons (List.nil_append _))))) | exact app_cons (app_cons (app_cons (app_cons (app_cons (app_cons (List.nil_append _)))))) | exact app_cons (app_cons (app_cons (app_cons (app_cons (app_cons (app_cons (List.nil_append _))))))) | exact app_cons (app_cons (app_cons (app_cons (app_cons (app_cons (app_cons (app_cons (List.nil_append _)))))))) | exact app_app (List.nil_append _) | exact app_app (app_cons (List.nil_append _)) | exact app_app (app_cons (app_cons (List.nil_append _))) | exact app_cons (app_app (List.nil_append _)) | exact app_cons (app_app (app_cons (List.nil_append _))) | exact app_cons (app_app (app_cons (app_cons (List.nil_append _)))) | exact app_cons (app_cons (app_app (List.nil_append _))) | exact app_cons (app_cons (app_app (app_cons (List.nil_append _)))) | exact app_cons (app_cons (app_app (app_cons (app_cons (List.nil_append _))))) | exact app_cons (app_cons (app_cons (app_app (List.nil_append _)))) | exact app_cons (app_cons (app_cons (app_app (app_cons (List.nil_append _))))) | exact app_cons (app_cons (app_cons (app_app (app_cons (app_cons (List.nil_append _)))))) | exact app_cons (app_cons (app_cons (app_cons (app_app (List.nil_append _))))) | exact app_cons (app_cons (app_cons (app_cons (app_app (app_cons (List.nil_append _)))))) | exact app_cons (app_cons (app_cons (app_cons (app_app (app_cons (app_cons (List.nil_append _))))))) | exact app_cons (app_cons (app_cons (app_cons (app_cons (app_app (List.nil_append _)))))) | exact app_cons (app_cons (app_cons (app_cons (app_cons (app_app (app_cons (List.nil_append _))))))) | exact app_cons (app_cons (app_cons (app_cons (app_cons (app_app (app_cons (app_cons (List.nil_append _)))))))) | exact rfl | exact app_cons (rfl) | exact app_cons (app_cons (rfl)) | exact app_cons (app_cons (app_cons (rfl)))
  k_with "off" => (repeat (first | exact List.forall_mem_nil _ | refine List.forall_mem_cons.mpr ⟨⟨by k_ne, by k_ne⟩, ?_⟩ | refine List.forall_mem_append.mpr ⟨?_, ?_⟩ | (intro p9 hp9; exact ⟨off_use (by assumption) hp9 (by k_mem), off_use (by assumption) hp9 (by k_mem)⟩)))
  trivial
set_option maxRecDepth 100000 in
set_option maxHeartbeats 8000000 in
theorem spec_ok {w : World} {dp un : Nat} {gd : Option (List Code)} {cn : Str} {cs : Scope} {a : Addr} {ccd : Value} {cl : List (Str × Addr)} {outer : List Env} {A₀ : Around} {base h₀ : Heap} {L : Addr} {m : Str → Option Value} {s : Shared} {mean : ExcName → Option Value} {mg mb : Str → Option Value} {Q E : Value → Shared → Prop} {news : List (Addr × Obj)}
   {aD aC : Addr} {n : Int} {t : Tok} {k kc : Nat} {vs : List Value} {ns : List Int} {gN : Obj → List (Addr × Obj)}
   (B : Below A₀ base outer h₀) (F : Fr h₀ L s.heap m) (X : (hd.heap_39 w.params).In h₀) (N : News h₀ L s.heap news) (T : Top hd.view_39 lso mean mg mb h₀) (hk : cs.kind = .function)
   (hU : UpdF aD (deckO aC n t k) news gN) (hC : (aC, lstK vs kc) ∈ news) (hne : aC ≠ aD) (hv : IntsAre vs ns) (hlen : ns.length ≤ 63)
   (hn : 0 ≤ n) (hn2 : n < 990) (hdp : dp + 30 < recursionLimit)
   (ret : ∀ r P tl n' t' k' h' tk', PlR tl r P → SpecOk P → (∀ p ∈ tl, ∀ q ∈ news, p.1 ≠ q.1) → n ≤ n' → n' ≤ n + 3 → Fr h₀ L h' m → News h₀ L h' (tl ++ gN (deckO aC n' t' k')) → Q r { s with heap := h', toks := tk' }) :
   wpAny (model PP w) (ktrTop dp un gd cn cs L a ccd cl outer) (call (.ref 136) [.ref aD]) Q E s := by
  refine wpAny_call ?_
  have hD := updF_mem hU
  have N2 : News h₀ L s.heap [(aD, deckO aC n t k), (aC, lstK vs kc)] := fun p hp => by
    rcases List.mem_cons.mp hp with rfl | hp
    · exact N _ hD
    · rw [List.mem_singleton.mp hp]; exact N _ hC
  k_dflt (refine' code_defG B F X N2 T rfl rfl hk ?k6 ?k7 ?k8 ?k9 ?kB ?_ ?c2 ?c3 ?c4 ?c5; (case k6 => k_is); (case k7 => k_is); (case k8 => ktr_room); (case k9 => exact BindsTo.of_eq rfl); (case c5 => decide); (case kB => exact locs rfl); (case c2 => exact rfl); (case c3 => exact rfl); (case c4 => exact rfl))
  intro g' L' h' FG' F' N' B' X' T' G'
  (try dsimp only); (try k_fold)
  have fin : ∀ (tl nf : List (Addr × Obj)) (r : Value) (P : Pl) (h1 : Heap) (m1 : Str → Option Value) (n' : Int) (t' : Tok) (k' tk1 : Nat), Fr g' L' h1 m1 → News g' L' h1 nf → tl ++ [(aD, deckO aC n' t' k'), (aC, lstK vs kc)] = nf → (∀ p ∈ tl, p.1 ≠ aD ∧ p.1 ≠ aC) →
      PlR tl r P → SpecOk P → n ≤ n' → n' ≤ n + 3 → Fr h₀ L h1 m → Q r { s with heap := h1, toks := tk1 } := by
    intro tl nf r P h1 m1 n' t' k' tk1 F1 N1 e hoff hP hS h1n h2n F0
    subst e
    refine ret r P tl n' t' k' h1 tk1 hP hS (new_off N G' (fun p hp => N1 p (List.mem_append.mpr (.inl hp))) fun p hp => by simpa using hoff p hp) h1n h2n F0 ?_
    refine news_frame FG' N G' F1 N1 fun p hp => ?_
    rcases List.mem_append.mp hp with hp | hp
    · exact .inl (List.mem_append.mpr (.inl hp))
    · rcases updF_all hU _ p hp with e | ⟨e1, e2⟩
      · exact .inl (List.mem_append.mpr (.inr (e ▸ .head _)))
      · by_cases hq : p.1 = aC
        · have h1 := (N p e1).1
          rw [hq, (N _ hC).1] at h1
          exact .inl (List.mem_append.mpr (.inr (.tail _ (List.mem_singleton.mpr (Prod.ext hq (Option.some.inj h1).symm)))))
        · exact .inr ⟨e1, by simpa using ⟨e2, hq⟩⟩
  clear N N2 hC hD ret
  k_steps
  all_goals (
    (try dsimp only at F' N')
    refine' fin _ _ _ _ _ _ _ _ _ _ ?hF ?hN ?hs ?ho ?hP ?hS ?hn1 ?hn2 ?hF0
    case hF0 => k_asm
    case hF => k_asm
    case hN => k_asm
    case hs => walk_at "split"
    case ho => walk_at "off"
    case hP => walk_at "plan"
    case hS => first | exact .t1 | exact .t2 | exact .t3 | exact .t4 | exact .w | exact .n | exact .d | exact .s1 | exact .s2
    case hn1 => omega
    case hn2 => omega)
end PartCSpec
section PartCForm
theorem walk_plain_CForm : True := by
  w_top off
  k_with_none
  trivial
theorem lines_CForm_0 : True := by
  k_with_none
  k_with "call ref" => (k_here; (with_reducible show wpAny _ _ (call (Value.ref 129) _) _ _ _); k_dflt (refine draw_ok (by k_asm) (by k_asm) (by k_asm) (by k_asm) (by k_asm) (by first | exact rfl | assumption) (by k_updF) (by k_mem) (by first | assumption | k_ne) (by assumption) (by assumption) (by decide) (by decide) (by omega) (by omega) (by first | omega | ktr_room) ?_); intro v' tv' t' k' h' tk' h0' h1' F' N'; (try dsimp only at N'); (try dsimp only); (try k_sweep); (first | (revert v' tv' t' k' h' tk' h0' h1' F' N'; intro _ _ _ _ _ _ _ _ _ _) | (revert v' tv' t' k' h' tk' h0' h1' F'; intro _ _ _ _ _ _ _ _ _) | skip))
  trivial
theorem lines_CForm_1 : True := by
  k_with "call ref" => (k_here; (with_reducible show wpAny _ _ (call (Value.ref 136) _) _ _ _); k_dflt (refine spec_ok (by k_asm) (by k_asm) (by k_asm) (by k_asm) (by k_asm) (by first | exact rfl | assumption) (by k_updF) (by k_mem) (by first | assumption | k_ne) (by assumption) (by assumption) (by omega) (by omega) (by first | omega | ktr_room) ?_); intro r' P' tl' n' t' k' h' tk' hP' hS' hoff' h0' h1' F' N'; (try dsimp only at N'); (try dsimp only at hoff'); (try dsimp only); (try k_sweep); (first | (revert r' P' tl' n' t' k' h' tk' hP' hS' hoff' h0' h1' F' N'; intro _ _ _ _ _ _ _ _ _ _ _ _ _ _ _) | (revert r' P' tl' n' t' k' h' tk' hP' hS' hoff' h0' h1' F'; intro _ _ _ _ _ _ _ _ _ _ _ _ _ _) | skip))
  trivial
local macro_rules | `(tactic| walk_at "plan") => `(tactic| first | assumption | exact PlsR.nil | exact TlR.none | (refine' PlsR.cons ?pa ?pb; (case pa => walk_at "plan"); (case pb => walk_at "plan")) | (refine' PlR.mono ?pa ?pb; (case pb => assumption); (case pa => (intro p9 h9; simp only [List.mem_append, List.mem_cons, h9, true_or, or_true]))) | (refine' PlR.at ?pa ?pb; (case pa => k_mem); (case pb => first | exact PlR.sym | exact PlR.text | exact PlR.whole | (intro hm9; refine' PlR.list hm9 ?pb ?pc ?pd; (case pb => k_mem); (case pc => walk_at "plan"); (case pd => walk_at "plan")))) | (refine' TlR.some ?pa; (case pa => walk_at "plan")))
theorem lines_CForm_2 : True := by
  k_with "split" => first | exact List.nil_append _ | exact app_cons (List.nil_append _) | exact app_cons (app_cons (List.nil_append _)) | exact app_cons (app_cons (app_cons (List.nil_append _))) | exact app_cons (app_cons (app_cons (app_cons (List.nil_append _)))) | exact app_cons (app_cons (app_cons (app_cons (app_cons (List.nil_append _))))) | exact app_cons (app_cons (app_cons (app_cons (app_cons (app_cons (List.nil_append _)))))) | exact app_cons (app_cons (app_cons (app_cons (app_cons (app_cons (app_cons (List.nil_append _))))))) | exact app_cons (app_cons (app_cons (app_cons (app_cons (app_cons (app_cons (app_cons (List.nil_append _)))))))) | exact app_app (List.nil_append _) | exact app_app (app_cons (List.nil_append _)) | exact app_app (app_cons (app_cons (List.nil_append _))) | exact app_cons (app_app (List.nil_append _)) | exact app_cons (app_app (app_cons (List.nil_append _))) | exact app_cons (app_app (app_cons (app_cons (List.nil_append _)))) | exact app_cons (app_cons (app_app (List.nil_append _))) | exact app_cons (app_cons (app_app (app_cons (List.nil_append _)))) | exact app_cons (app_cons (app_app (app_cons (app_cons (List.nil_append _))))) | exact app_cons (app_cons (app_cons (app_app (List.nil_append _)))) | exact app_cons (app_cons (app_cons (app_app (app_cons (List.nil_append _))))) | exact app_cons (app_cons (app_cons (app_app (app_cons (app_cons (List.nil_append _)))))) | exact app_cons (app_cons (app_cons (app_cons (app_app (List.nil_append _))))) | exact app_cons (app_cons (app_cons (app_cons (app_app (app_cons (List.nil_append _)))))) | exact app_cons (app_cons (app_cons (app_cons (app_app (app_cons (app_cons (List.nil_append _))))))) | exact app_cons (app_cons (app_cons (app_cons (app_cons (app_app (List.nil_append _)))))) | exact app_cons (app_cons (app_cons (app_cons (app_cons (app_app (app_cons (List.nil_append _))))))) | exact app_cons (app_cons (app_cons (app_cons (app_cons (app_app (app_cons (app_cons (List.nil_append _)))))))) | exact rfl | exact app_cons (rfl) | exact app_cons (app_cons (rfl)) | exact app_cons (app_cons (app_cons (rfl)))
  k_with "off" => (repeat (first | exact List.forall_mem_nil _ | refine List.forall_mem_cons.mpr ⟨⟨by k_ne, by k_ne⟩, ?_⟩ | refine List.forall_mem_append.mpr ⟨?_, ?_⟩ | (intro p9 hp9; exact ⟨off_use (by assumption) hp9 (by k_mem), off_use (by assumption) hp9 (by k_mem)⟩)))
  trivial
set_option maxRecDepth 100000 in
set_option maxHeartbeats 8000000 in
theorem form_ok {w : World} {dp un : Nat} {gd : Option (List Code)} {cn : Str} {cs : Scope} {a : Addr} {ccd : Value} {cl : List (Str × Addr)} {outer : List Env} {A₀ : Around} {base h₀ : Heap} {L : Addr} {m : Str → Option Value} {s : Shared} {mean : ExcName → Option Value} {mg mb : Str → Option Value} {Q E : Value → Shared → Prop} {news : List (Addr × Obj)}
   {aD aC : Addr} {n : Int} {t : Tok} {k kc : Nat} {vs : List Value} {ns : List Int} {gN : Obj → List (Addr × Obj)}
   (B : Below A₀ base outer h₀) (F : Fr h₀ L s.heap m) (X : (hd.heap_39 w.params).In h₀) (N : News h₀ L s.heap news) (T : Top hd.view_39 lso mean mg mb h₀) (hk : cs.kind = .function)
   (hU : UpdF aD (deckO aC n t k) news gN) (hC : (aC, lstK vs kc) ∈ news) (hne : aC ≠ aD) (hv : IntsAre vs ns) (hlen : ns.length ≤ 63)
   (hn : 0 ≤ n) (hn2 : n < 980) (hdp : dp + 40 < recursionLimit)
   (ret : ∀ r P tl n' t' k' h' tk', PlR tl r P → FormOk P → (∀ p ∈ tl, ∀ q ∈ news, p.1 ≠ q.1) → n ≤ n' → n' ≤ n + 6 → Fr h₀ L h' m → News h₀ L h' (tl ++ gN (deckO aC n' t' k')) → Q r { s with heap := h', toks := tk' }) :
   wpAny (model PP w) (ktrTop dp un gd cn cs L a ccd cl outer) (call (.ref 143) [.ref aD]) Q E s := by
  refine wpAny_call ?_
  have hD := updF_mem hU
  have N2 : News h₀ L s.heap [(aD, deckO aC n t k), (aC, lstK vs kc)] := fun p hp => by
    rcases List.mem_cons.mp hp with rfl | hp
    · exact N _ hD
    · rw [List.mem_singleton.mp hp]; exact N _ hC
  k_dflt (refine' code_defG B F X N2 T rfl rfl hk ?k6 ?k7 ?k8 ?k9 ?kB ?_ ?c2 ?c3 ?c4 ?c5; (case k6 => k_is); (case k7 => k_is); (case k8 => ktr_room); (case k9 => exact BindsTo.of_eq rfl); (case c5 => decide); (case kB => exact locs rfl); (case c2 => exact rfl); (case c3 => exact rfl); (case c4 => exact rfl))
  intro g' L' h' FG' F' N' B' X' T' G'
  (try dsimp only); (try k_fold)
  have fin : ∀ (tl nf : List (Addr × Obj)) (r : Value) (P : Pl) (h1 : Heap) (m1 : Str → Option Value) (n' : Int) (t' : Tok) (k' tk1 : Nat), Fr g' L' h1 m1 → News g' L' h1 nf → tl ++ [(aD, deckO aC n' t' k'), (aC, lstK vs kc)] = nf → (∀ p ∈ tl, p.1 ≠ aD ∧ p.1 ≠ aC) →
      PlR tl r P → FormOk P → n ≤ n' → n' ≤ n + 6 → Fr h₀ L h1 m → Q r { s with heap := h1, toks := tk1 } := by
    intro tl nf r P h1 m1 n' t' k' tk1 F1 N1 e hoff hP hS h1n h2n F0
    subst e
    refine ret r P tl n' t' k' h1 tk1 hP hS (new_off N G' (fun p hp => N1 p (List.mem_append.mpr (.inl hp))) fun p hp => by simpa using hoff p hp) h1n h2n F0 ?_
    refine news_frame FG' N G' F1 N1 fun p hp => ?_
    rcases List.mem_append.mp hp with hp | hp
    · exact .inl (List.mem_append.mpr (.inl hp))
    · rcases updF_all hU _ p hp with e | ⟨e1, e2⟩
      · exact .inl (List.mem_append.mpr (.inr (e ▸ .head _)))
      · by_cases hq : p.1 = aC
        · have h1 := (N p e1).1
          rw [hq, (N _ hC).1] at h1
          exact .inl (List.mem_append.mpr (.inr (.tail _ (List.mem_singleton.mpr (Prod.ext hq (Option.some.inj h1).symm)))))
        · exact .inr ⟨e1, by simpa using ⟨e2, hq⟩⟩
  clear N N2 hC hD ret
  k_steps
  all_goals (
    (try dsimp only at F' N')
    refine' fin _ _ _ _ _ _ _ _ _ _ ?hF ?hN ?hs ?ho ?hP ?hS ?hn1 ?hn2 ?hF0
    case hF0 => k_asm
    case hF => k_asm
    case hN => k_asm
    case hs => walk_at "split"
    case ho => walk_at "off"
    case hP => walk_at "plan"
    case hS => first | exact .spec (by assumption) | exact .progn (by assumption) | exact .inn (by assumption) | exact .told | exact .sym | exact .whole
    case hn1 => omega
    case hn2 => omega)
end PartCForm
section PartCIsInt
theorem walk_plain_CIsInt : True := by
  w_top off
  k_with_none
  trivial
section IsInt
local macro_rules | `(tactic| k_inst) => `(tactic| first | (refine' Old.inst ?F ?O ?h1 ?h2; (case h1 => assumption); (case h2 => assumption); (case O => assumption); (case F => k_asm)) | fail "not of old")
set_option maxRecDepth 100000 in
set_option maxHeartbeats 8000000 in
theorem isint_ok {w : World} {dp un : Nat} {gd : Option (List Code)} {cn : Str} {cs : Scope} {a : Addr} {ccd : Value} {cl : List (Str × Addr)} {outer : List Env} {A₀ : Around} {base h₀ : Heap} {L : Addr} {m : Str → Option Value} {s : Shared} {mean : ExcName → Option Value} {mg mb : Str → Option Value} {Q E : Value → Shared → Prop} {news K : List (Addr × Obj)}
   {v : Value} {D : Lsp}
   (B : Below A₀ base outer h₀) (F : Fr h₀ L s.heap m) (X : (hd.heap_39 w.params).In h₀) (N : News h₀ L s.heap news) (T : Top hd.view_39 lso mean mg mb h₀) (hk : cs.kind = .function)
   (hK : Old s.heap K) (hD : LspR K v D) (hdp : dp + 10 < recursionLimit)
   (ret : ∀ tl h' tk', Fresh s.heap tl → Fr h₀ L h' m → News h₀ L h' (tl ++ news) → Q (.bool D.isInt) { s with heap := h', toks := tk' }) :
   wpAny (model PP w) (ktrTop dp un gd cn cs L a ccd cl outer) (call (.ref 115) [v]) Q E s := by
  refine wpAny_call ?_
  have N2 : News h₀ L s.heap [] := News.nil
  k_dflt (refine' code_defG B F X N2 T rfl rfl hk ?k6 ?k7 ?k8 ?k9 ?kB ?_ ?c2 ?c3 ?c4 ?c5; (case k6 => k_is); (case k7 => k_is); (case k8 => ktr_room); (case k9 => first | exact BindsTo.of_eq rfl | exact binds_K (by k_in) rfl (by k_is) rfl rfl rfl); (case c5 => decide); (case kB => exact locs rfl); (case c2 => exact rfl); (case c3 => exact rfl); (case c4 => exact rfl))
  intro g' L' h' FG' F' N' B' X' T' G'
  (try dsimp only); (try k_fold)
  have O := old_in hK G'
  have O2 := old_of N G'
  have fin : ∀ (b : Bool) (tl : List (Addr × Obj)) (h1 : Heap) (m1 : Str → Option Value) (tk1 : Nat), Fr g' L' h1 m1 → News g' L' h1 tl → b = D.isInt → Fr h₀ L h1 m → Q (.bool b) { s with heap := h1, toks := tk1 } :=
    fun b tl h1 m1 tk1 F1 N1 hb F0 => hb ▸ ret tl h1 tk1 (fresh_of G' N1) F0 (old_back FG' N O2 F1 N1)
  clear ret
  cases hD
  case cons x dx h1 h2 t1 t2 n v u a b m1 m2 hA hB =>
    cases hA
    all_goals (
      k_steps
      refine' fin _ _ _ _ _ ?hF ?hN ?hb ?hF0
      case hF0 => k_asm
      case hF => k_asm
      case hN => k_asm
      case hb => rfl)
  all_goals (
    k_steps
    refine' fin _ _ _ _ _ ?hF ?hN ?hb ?hF0
    case hF0 => k_asm
    case hF => k_asm
    case hN => k_asm
    case hb => rfl)
end IsInt
end PartCIsInt
section PartCTold
theorem walk_plain_CTold : True := by
  w_top off
  k_with_none
  trivial
section Told
theorem lines_CTold_0 : True := by
  k_with_none
  k_with "eval ListComp" => refine stopped ?_
  trivial
set_option maxRecDepth 100000 in
set_option maxHeartbeats 8000000 in
theorem told_ok {w : World} {dp un : Nat} {gd : Option (List Code)} {cn : Str} {cs : Scope} {a : Addr} {ccd : Value} {cl : List (Str × Addr)} {outer : List Env} {A₀ : Around} {base h₀ : Heap} {L : Addr} {m : Str → Option Value} {s : Shared} {mean : ExcName → Option Value} {mg mb : Str → Option Value} {Q E : Value → Shared → Prop} {news K : List (Addr × Obj)}
   {c : Addr} {vs : List Value} {k : Nat} {x : Str}
   (B : Below A₀ base outer h₀) (F : Fr h₀ L s.heap m) (X : (hd.heap_39 w.params).In h₀) (N : News h₀ L s.heap news) (T : Top hd.view_39 lso mean mg mb h₀) (hk : cs.kind = .function)
   (hK : Old s.heap K) (hc : (c, lstK vs k) ∈ K) (hI : IntsAre vs (x.cps.toList.map Int.ofNat)) (hx : ∀ n ∈ x.cps.toList, n < 55296) (hz : x.cps.size ≤ 1000) (hdp : dp + 10 < recursionLimit)
   (ret : ∀ t tl h' tk', Fresh s.heap tl → Fr h₀ L h' m → News h₀ L h' (tl ++ news) → Q (.str x t) { s with heap := h', toks := tk' }) :
   wpAny (model PP w) (ktrTop dp un gd cn cs L a ccd cl outer) (call (.ref 108) [.ref c]) Q E s := by
  refine wpAny_call ?_
  have N2 : News h₀ L s.heap [] := News.nil
  k_dflt (refine' code_defG B F X N2 T rfl rfl hk ?k6 ?k7 ?k8 ?k9 ?kB ?_ ?c2 ?c3 ?c4 ?c5; (case k6 => k_is); (case k7 => k_is); (case k8 => ktr_room); (case k9 => first | exact BindsTo.of_eq rfl | exact binds_K (by k_in) rfl (by k_is) rfl rfl rfl); (case c5 => decide); (case kB => exact locs rfl); (case c2 => exact rfl); (case c3 => exact rfl); (case c4 => exact rfl))
  intro g' L' h' FG' F' N' B' X' T' G'
  (try dsimp only); (try k_fold)
  have O := old_in hK G'
  have O2 := old_of N G'
  have hL := O.lst hc
  have fin : ∀ (t : Tok) (tl : List (Addr × Obj)) (h1 : Heap) (m1 : Str → Option Value) (tk1 : Nat), Fr g' L' h1 m1 → News g' L' h1 tl → Fr h₀ L h1 m → Q (.str x t) { s with heap := h1, toks := tk1 } :=
    fun t tl h1 m1 tk1 F1 N1 F0 => ret t tl h1 tk1 (fresh_of G' N1) F0 (old_back FG' N O2 F1 N1)
  clear ret
  k_steps
  unfold Stopped
  rename Fr _ _ _ _ => F3
  rename News _ _ _ _ => N3
  have hlv := hI.length
  simp only [List.length_map, Array.length_toList] at hlv
  k_dflt (refine LCg.ListComp_U F3 (by rfl) (by decide) (by rfl) (by decide) (by rfl) ?_)
  refine nameX_L F3 rfl ?_
  refine LCg.CompSrc.base rfl F3 N3 hL ?_ fun gg => ?_
  · have : vs.toArray.size ≤ 1000 := by simp; omega
    exact Nat.le_trans this (by decide +kernel)
  refine compRest_ind (fun i ys nx => StrsAre ys ((x.cps.toList.take i).map fun n => ⟨#[n]⟩) ∧ nx = _) ?_ ?_ _ 0 [] _ (Nat.zero_add _) ⟨.nil, rfl⟩
  · rintro i ys nx hi ⟨hS, rfl⟩ v I oI C oC D m₂ h tk E' hv hC hx2 F4 N4 off ne
    obtain ⟨n, t, rfl, hn⟩ := hI.at i v (by simpa using hv)
    obtain ⟨n0, hn0, rfl⟩ : ∃ n0, x.cps.toList[i]? = some n0 ∧ Int.ofNat n0 = n := by simpa using hn
    have hc0 := hx n0 (List.mem_of_getElem? hn0)
    dsimp only
    k_steps
    all_goals simp only [Int.ofNat_eq_natCast] at *
    all_goals first | exact strs_snoc hS hn0 | (exfalso; omega)
  · rintro ys nx ⟨hS, rfl⟩ D h tk F5 N5 o1
    have e1 : x.cps.toList.take vs.toArray.size = x.cps.toList := by rw [List.size_toArray, hlv, ← Array.length_toList, List.take_length]
    rw [e1] at hS
    dsimp only
    k_steps
    refine join_listC (items := ys.toArray) (ys := signs x) (News.isList N5 (.head _)) (show StrsAre ys (signs x) from hS) (by decide) ?_ fun t' k' => ?_
    · rw [signs_sumLen, signs_length]
      have : x.length ≤ 1000 := hz
      omega
    rw [show Txt.join (Str.ofString "") (signs x) = x from join_signs x]
    k_steps
    refine' fin _ _ _ _ _ ?hF ?hN ?hF0
    case hF0 => k_asm
    case hF => exact F5
    case hN => exact N5
end Told
end PartCTold
section PartCList
theorem walk_plain_CList : True := by
  w_top off
  k_with_none
  trivial
section ListOf
local macro_rules | `(tactic| k_all) => `(tactic| first | exact List.forall_mem_nil _ | exact allLt_ne (by assumption) | (refine' List.forall_mem_cons.mpr ⟨?a, ?b⟩; (case a => k_ne); (case b => k_all)))
theorem lines_CList_0 : True := by
  k_with_none
  k_with "subscriptTail" => (k_here; (with_reducible show wpAny _ _ (subscriptTail _ _ (Value.ref _) (Value.int _ _)) _ _ _); k_dflt (refine item_list (by is_list) (by assumption) (by assumption) (by assumption) ?_))
  k_with "call builtin:len" => (k_here; (with_reducible show wpAny _ _ (call (Value.builtin "len") [Value.ref _]) _ _ _); k_dflt (refine len_base (by is_list) (by omega) ?_))
  k_with "pyIter ref" => refine stopped ?_
  trivial
set_option maxRecDepth 100000 in
set_option maxHeartbeats 8000000 in
theorem list_of_ok {w : World} {dp un : Nat} {gd : Option (List Code)} {cn : Str} {cs : Scope} {a : Addr} {ccd : Value} {cl : List (Str × Addr)} {outer : List Env} {A₀ : Around} {base h₀ : Heap} {L : Addr} {m : Str → Option Value} {s : Shared} {mean : ExcName → Option Value} {mg mb : Str → Option Value} {Q E : Value → Shared → Prop} {news : List (Addr × Obj)}
   {K : List (Addr × Obj)} {l : Addr} {vs : List Value} {k : Nat} {Ds : List Lsp} {tv : Value} {D : Lsp}
   (B : Below A₀ base outer h₀) (F : Fr h₀ L s.heap m) (X : (hd.heap_39 w.params).In h₀) (N : News h₀ L s.heap news) (T : Top hd.view_39 lso mean mg mb h₀) (hk : cs.kind = .function)
   (hK : Old s.heap K) (hl : (l, lstK vs k) ∈ K) (hvs : LspsR K vs Ds) (ht : LspR K tv D) (hlen : vs.length ≤ 1000) (hdp : dp + 10 < recursionLimit)
   (ret : ∀ r tl h' tk', LspR (tl ++ K) r (lspList Ds D) → Fresh s.heap tl → Fr h₀ L h' m → News h₀ L h' (tl ++ news) → Q r { s with heap := h', toks := tk' }) :
   wpAny (model PP w) (ktrTop dp un gd cn cs L a ccd cl outer) (call (.ref 89) [.ref l, tv]) Q E s := by
  refine wpAny_call ?_
  have N2 : News h₀ L s.heap [] := News.nil
  k_dflt (refine' code_defG B F X N2 T rfl rfl hk ?k6 ?k7 ?k8 ?k9 ?kB ?_ ?c2 ?c3 ?c4 ?c5; (case k6 => k_is); (case k7 => k_is); (case k8 => ktr_room); (case k9 => first | exact BindsTo.of_eq rfl | exact binds_K (by k_in) rfl (by k_is) rfl rfl rfl); (case c5 => decide); (case kB => exact locs rfl); (case c2 => exact rfl); (case c3 => exact rfl); (case c4 => exact rfl))
  intro g' L' h' FG' F' N' B' X' T' G'
  (try dsimp only); (try k_fold)
  have O := old_in hK G'
  have O2 := old_of N G'
  have hL := O.lst hl
  k_steps
  unfold Stopped
  rename_i F1 N1 t1 u1 v1 hr F2 N2' hkeep
  have hlv := hvs.length
  refine range_down1 (n := vs.length) (S "found") (fun i v nx => LspR (nx ++ K) v (lspList (Ds.drop (vs.length - i)) D)) rfl hr (small_down (by omega) (by omega) (by decide) (by decide)) (by rw [rangeSize_downNat]; omega) F2 N2' rfl ?_ ?_ ?_
  · rw [Nat.sub_zero, hlv, List.drop_length]
    exact ht
  · intro i t v nx h1 tk own hi hoff hJ F3 N3
    obtain ⟨vi, di, e1, e2, hR⟩ := hvs.get (vs.length - 1 - i) (by omega)
    have hx : vs[(((vs.length : Int) - 1 - (i : Int))).toNat]? = some vi := by rw [← e1]; congr 1; omega
    have h0 : 0 ≤ (vs.length : Int) - 1 - (i : Int) := by omega
    have h00 : (vs.length : Int) - 1 - (i : Int) < 2 ^ 63 := by omega
    obtain ⟨rest, hrest⟩ : ∃ r, r = nx ++ own := ⟨_, rfl⟩
    rw [← hrest] at N3
    try clear hr F2 N2' hkeep
    k_steps
    rename_i F9 N9
    refine tb_two F9 N9 hrest (by assumption) (by assumption) hoff ⟨_, _, map_swap (by decide), ?_⟩
    rw [lspList_step hlv hi e2]
    exact .cons (.head _) (.tail _ (.head _)) (hR.mono fun p hp => .tail _ (.tail _ (List.mem_append.mpr (.inr hp)))) (hJ.mono fun p hp => .tail _ (.tail _ hp))
  · intro u v nx h1 tk hJ F3 N3
    have hN := old_back FG' N O2 F3 N3
    try clear hr F2 N2' hkeep
    k_steps
    rw [Nat.sub_self, List.drop_zero] at hJ
    exact ret _ _ _ _ hJ (fresh_of G' N3) (by assumption) hN
set_option maxRecDepth 100000 in
set_option maxHeartbeats 8000000 in
theorem list_of_ok1 {w : World} {dp un : Nat} {gd : Option (List Code)} {cn : Str} {cs : Scope} {a : Addr} {ccd : Value} {cl : List (Str × Addr)} {outer : List Env} {A₀ : Around} {base h₀ : Heap} {L : Addr} {m : Str → Option Value} {s : Shared} {mean : ExcName → Option Value} {mg mb : Str → Option Value} {Q E : Value → Shared → Prop} {news : List (Addr × Obj)}
   {K : List (Addr × Obj)} {l : Addr} {vs : List Value} {k : Nat} {Ds : List Lsp}
   (B : Below A₀ base outer h₀) (F : Fr h₀ L s.heap m) (X : (hd.heap_39 w.params).In h₀) (N : News h₀ L s.heap news) (T : Top hd.view_39 lso mean mg mb h₀) (hk : cs.kind = .function)
   (hK : Old s.heap K) (hl : (l, lstK vs k) ∈ K) (hvs : LspsR K vs Ds) (hlen : vs.length ≤ 1000) (hdp : dp + 10 < recursionLimit)
   (ret : ∀ r tl h' tk', LspR (tl ++ K) r (lspList Ds .nil) → Fresh s.heap tl → Fr h₀ L h' m → News h₀ L h' (tl ++ news) → Q r { s with heap := h', toks := tk' }) :
   wpAny (model PP w) (ktrTop dp un gd cn cs L a ccd cl outer) (call (.ref 89) [.ref l]) Q E s := by
  refine wpAny_call ?_
  have N2 : News h₀ L s.heap [] := News.nil
  k_dflt (refine' code_defG B F X N2 T rfl rfl hk ?k6 ?k7 ?k8 ?k9 ?kB ?_ ?c2 ?c3 ?c4 ?c5; (case k6 => k_is); (case k7 => k_is); (case k8 => ktr_room); (case k9 => first | exact BindsTo.of_eq rfl | exact binds_K (by k_in) rfl (by k_is) rfl rfl rfl); (case c5 => decide); (case kB => exact locs rfl); (case c2 => exact rfl); (case c3 => exact rfl); (case c4 => exact rfl))
  intro g' L' h' FG' F' N' B' X' T' G'
  (try dsimp only); (try k_fold)
  have O := old_in hK G'
  have O2 := old_of N G'
  have hL := O.lst hl
  k_steps
  unfold Stopped
  rename_i F1 N1 t1 u1 v1 hr F2 N2' hkeep
  have hlv := hvs.length
  refine range_down1 (n := vs.length) (S "found") (fun i v nx => LspR (nx ++ K) v (lspList (Ds.drop (vs.length - i)) .nil)) rfl hr (small_down (by omega) (by omega) (by decide) (by decide)) (by rw [rangeSize_downNat]; omega) F2 N2' rfl ?_ ?_ ?_
  · rw [Nat.sub_zero, hlv, List.drop_length]
    exact .nil
  · intro i t v nx h1 tk own hi hoff hJ F3 N3
    obtain ⟨vi, di, e1, e2, hR⟩ := hvs.get (vs.length - 1 - i) (by omega)
    have hx : vs[(((vs.length : Int) - 1 - (i : Int))).toNat]? = some vi := by rw [← e1]; congr 1; omega
    have h0 : 0 ≤ (vs.length : Int) - 1 - (i : Int) := by omega
    have h00 : (vs.length : Int) - 1 - (i : Int) < 2 ^ 63 := by omega
    obtain ⟨rest, hrest⟩ : ∃ r, r = nx ++ own := ⟨_, rfl⟩
    rw [← hrest] at N3
    try clear hr F2 N2' hkeep
    k_steps
    rename_i F9 N9
    refine tb_two F9 N9 hrest (by assumption) (by assumption) hoff ⟨_, _, map_swap (by decide), ?_⟩
    rw [lspList_step hlv hi e2]
    exact .cons (.head _) (.tail _ (.head _)) (hR.mono fun p hp => .tail _ (.tail _ (List.mem_append.mpr (.inr hp)))) (hJ.mono fun p hp => .tail _ (.tail _ hp))
  · intro u v nx h1 tk hJ F3 N3
    have hN := old_back FG' N O2 F3 N3
    try clear hr F2 N2' hkeep
    k_steps
    rw [Nat.sub_self, List.drop_zero] at hJ
    exact ret _ _ _ _ hJ (fresh_of G' N3) (by assumption) hN
end ListOf
end PartCList
section PartCDatA
theorem walk_plain_CDatA : True := by
  w_top off
  k_with_none
  trivial
section DatA
theorem lines_CDatA_0 : True := by
  k_with_none
  k_with "eval ListComp" => refine stopped ?_
  k_with "subscriptTail" => (k_here; (with_reducible show wpAny _ _ (subscriptTail _ _ (Value.ref _) (Value.int _ _)) _ _ _); k_dflt (refine item_tup_base (by k_asm) (by assumption) (by decide) (by decide) (by rfl) (by rfl) ?_))
  trivial
set_option maxRecDepth 100000 in
set_option maxHeartbeats 8000000 in
theorem dat_sym {w : World} {x : Str} : Dat w (.sym x) := by
  intro dp un gd cn cs a ccd cl outer A₀ base h₀ L m s mean mg mb Q E news K v B F X N T hk hK hP htx hdp ret
  simp only [Pl.ht] at hdp
  cases hP
  rename_i t1 t2 kk hm
  refine wpAny_call ?_
  have N2 : News h₀ L s.heap [] := News.nil
  k_dflt (refine' code_defG B F X N2 T rfl rfl hk ?k6 ?k7 ?k8 ?k9 ?kB ?_ ?c2 ?c3 ?c4 ?c5; (case k6 => k_is); (case k7 => k_is); (case k8 => ktr_room); (case k9 => first | exact BindsTo.of_eq rfl | exact binds_K (by k_in) rfl (by k_is) rfl rfl rfl); (case c5 => decide); (case kB => exact locs rfl); (case c2 => exact rfl); (case c3 => exact rfl); (case c4 => exact rfl))
  intro g' L' h' FG' F' N' B' X' T' G'
  (try dsimp only); (try k_fold)
  have O := old_in hK G'
  have O2 := old_of N G'
  have hT := O.tupB hm
  have fin : ∀ (r : Value) (tl : List (Addr × Obj)) (h1 : Heap) (m1 : Str → Option Value) (tk1 : Nat), Fr g' L' h1 m1 → News g' L' h1 tl → LspR (tl ++ K) r ((Pl.sym x).sem.1) → Fr h₀ L h1 m → Q r { s with heap := h1, toks := tk1 } :=
    fun r tl h1 m1 tk1 F1 N1 hR F0 => ret r tl h1 tk1 hR (fresh_of G' N1) F0 (old_back FG' N O2 F1 N1)
  clear ret
  k_steps
  all_goals (
    refine' fin _ _ _ _ _ ?hF ?hN ?_ ?hF0
    case hF0 => k_asm
    case hF => k_asm
    case hN => k_asm)
  all_goals simp only [Pl.sem]
  · rw [if_pos (beq_iff_eq.mp (by assumption))]; exact .nil
  · rw [if_neg (beq_eq_false_iff_ne.mp (by assumption))]; exact .sym (by k_mem) (by k_mem)
set_option maxRecDepth 100000 in
set_option maxHeartbeats 8000000 in
theorem dat_whole {w : World} {i : Int} : Dat w (.whole i) := by
  intro dp un gd cn cs a ccd cl outer A₀ base h₀ L m s mean mg mb Q E news K v B F X N T hk hK hP htx hdp ret
  simp only [Pl.ht] at hdp
  cases hP
  rename_i t1 t2 kk hm
  refine wpAny_call ?_
  have N2 : News h₀ L s.heap [] := News.nil
  k_dflt (refine' code_defG B F X N2 T rfl rfl hk ?k6 ?k7 ?k8 ?k9 ?kB ?_ ?c2 ?c3 ?c4 ?c5; (case k6 => k_is); (case k7 => k_is); (case k8 => ktr_room); (case k9 => first | exact BindsTo.of_eq rfl | exact binds_K (by k_in) rfl (by k_is) rfl rfl rfl); (case c5 => decide); (case kB => exact locs rfl); (case c2 => exact rfl); (case c3 => exact rfl); (case c4 => exact rfl))
  intro g' L' h' FG' F' N' B' X' T' G'
  (try dsimp only); (try k_fold)
  have O := old_in hK G'
  have O2 := old_of N G'
  have hT := O.tupB hm
  have fin : ∀ (r : Value) (tl : List (Addr × Obj)) (h1 : Heap) (m1 : Str → Option Value) (tk1 : Nat), Fr g' L' h1 m1 → News g' L' h1 tl → LspR (tl ++ K) r ((Pl.whole i).sem.1) → Fr h₀ L h1 m → Q r { s with heap := h1, toks := tk1 } :=
    fun r tl h1 m1 tk1 F1 N1 hR F0 => ret r tl h1 tk1 hR (fresh_of G' N1) F0 (old_back FG' N O2 F1 N1)
  clear ret
  k_steps
  all_goals (
    refine' fin _ _ _ _ _ ?hF ?hN ?_ ?hF0
    case hF0 => k_asm
    case hF => k_asm
    case hN => k_asm)
  exact .int
theorem dat_nil {w : World} : Dat w .nil := by
  intro dp un gd cn cs a ccd cl outer A₀ base h₀ L m s mean mg mb Q E news K v B F X N T hk hK hP
  cases hP
theorem dat_cons {w : World} {h t : Pl} : Dat w (.cons h t) := by
  intro dp un gd cn cs a ccd cl outer A₀ base h₀ L m s mean mg mb Q E news K v B F X N T hk hK hP
  cases hP
set_option maxRecDepth 100000 in
set_option maxHeartbeats 8000000 in
theorem dat_text {w : World} {x : Str} : Dat w (.text x) := by
  intro dp un gd cn cs a ccd cl outer A₀ base h₀ L m s mean mg mb Q E news K v B F X N T hk hK hP htx hdp ret
  simp only [Pl.ht] at hdp
  cases hP
  rename_i t1 t2 kk hm
  simp only [Pl.txt] at htx
  refine wpAny_call ?_
  have N2 : News h₀ L s.heap [] := News.nil
  k_dflt (refine' code_defG B F X N2 T rfl rfl hk ?k6 ?k7 ?k8 ?k9 ?kB ?_ ?c2 ?c3 ?c4 ?c5; (case k6 => k_is); (case k7 => k_is); (case k8 => ktr_room); (case k9 => first | exact BindsTo.of_eq rfl | exact binds_K (by k_in) rfl (by k_is) rfl rfl rfl); (case c5 => decide); (case kB => exact locs rfl); (case c2 => exact rfl); (case c3 => exact rfl); (case c4 => exact rfl))
  intro g' L' h' FG' F' N' B' X' T' G'
  (try dsimp only); (try k_fold)
  have O := old_in hK G'
  have O2 := old_of N G'
  have hT := O.tupB hm
  have fin : ∀ (r : Value) (tl : List (Addr × Obj)) (h1 : Heap) (m1 : Str → Option Value) (tk1 : Nat), Fr g' L' h1 m1 → News g' L' h1 tl → LspR (tl ++ K) r ((Pl.text x).sem.1) → Fr h₀ L h1 m → Q r { s with heap := h1, toks := tk1 } :=
    fun r tl h1 m1 tk1 F1 N1 hR F0 => ret r tl h1 tk1 hR (fresh_of G' N1) F0 (old_back FG' N O2 F1 N1)
  clear ret
  k_steps
  unfold Stopped
  rename_i F3 N3 n3 tk3
  refine ListComp_Ustr F3 (by rfl) (by decide) (by rfl) (by decide) (by rfl) ?_
  refine nameX_L F3 rfl ?_
  refine ⟨x, t2, _, rfl, rfl, F3, N3, ?_, ?_⟩
  · exact textOk_size htx
  · rintro s₂ ⟨hh, rfl⟩
    refine compRest_ind (fun i ys nx => IntsAre ys ((x.cps.toList.take i).map Int.ofNat) ∧ nx = _) ?_ ?_ _ 0 [] _ (Nat.zero_add _) ⟨.nil, rfl⟩
    · rintro i ys nx hi ⟨hI, rfl⟩ v I oI C oC D m₂ h tk E' ⟨c, u, hc, rfl⟩ hC hx F4 N4 off ne
      k_steps
      exact LCg.CompEnd.intro F4 N4 _ (fun p hp => hp) off trivial ⟨ints_snoc hI (by simpa using hc), rfl⟩
    · rintro ys nx ⟨hI, rfl⟩
      intro D h tk F5 N5 o1
      k_steps
      refine' fin _ _ _ _ _ ?hF ?hN ?_ ?hF0
      case hF0 => k_asm
      case hF => k_asm
      case hN => k_asm
      refine .text (by k_mem) (by k_mem) (by k_mem) ?_
      have e : x.cps.toList.take x.cps.size = x.cps.toList := by rw [← Array.length_toList, List.take_length]
      rw [e] at hI
      exact hI
end DatA
end PartCDatA
section PartCDatL
theorem walk_plain_CDatL : True := by
  w_top off
  k_with_none
  trivial
section DatL
theorem lines_CDatL_0 : True := by
  k_with_none
  k_with "subscriptTail" => (k_here; (with_reducible show wpAny _ _ (subscriptTail _ _ (Value.ref _) (Value.int _ _)) _ _ _); k_dflt (refine item_tup_base (by k_asm) (by assumption) (by decide) (by decide) (by rfl) (by rfl) ?_))
  k_with "exec Assign cons ListComp" => refine stopped ?_
  k_with "call ref" => ((with_reducible show wpAny _ _ (call (Value.ref 148) _) _ _ _); refine stopped ?_)
  k_with "call ref" => ((with_reducible show wpAny _ _ (call (Value.ref 89) _) _ _ _); refine stopped ?_)
  trivial
set_option maxRecDepth 100000 in
set_option maxHeartbeats 8000000 in
theorem dat_list {w : World} {items tail : Pl} (ihI : DatAll w items) (ihT : Dat w tail) : Dat w (.list items tail) := by
  intro dp un gd cn cs a ccd cl outer A₀ base h₀ L m s mean mg mb Q E news K v B F X N T hk hK hP htx hdp ret
  simp only [Pl.ht] at hdp
  cases hP
  rename_i a l t1 tv k1 kl vs hm hl hIt hTl
  obtain ⟨hx1, hx2, hx3⟩ := htx
  have hlen := plsR_len hIt
  refine wpAny_call ?_
  have N2 : News h₀ L s.heap [] := News.nil
  k_dflt (refine' code_defG B F X N2 T rfl rfl hk ?k6 ?k7 ?k8 ?k9 ?kB ?_ ?c2 ?c3 ?c4 ?c5; (case k6 => k_is); (case k7 => k_is); (case k8 => ktr_room); (case k9 => first | exact BindsTo.of_eq rfl | exact binds_K (by k_in) rfl (by k_is) rfl rfl rfl); (case c5 => decide); (case kB => exact locs rfl); (case c2 => exact rfl); (case c3 => exact rfl); (case c4 => exact rfl))
  intro g' L' h' FG' F' N' B' X' T' G'
  (try dsimp only); (try k_fold)
  have O := old_in hK G'
  have O2 := old_of N G'
  have hT := O.tupB hm
  have hL := O.lst hl
  have fin : ∀ (r : Value) (tl : List (Addr × Obj)) (h1 : Heap) (m1 : Str → Option Value) (tk1 : Nat), Fr g' L' h1 m1 → News g' L' h1 tl → LspR (tl ++ K) r ((Pl.list items tail).sem.1) → Fr h₀ L h1 m → Q r { s with heap := h1, toks := tk1 } :=
    fun r tl h1 m1 tk1 F1 N1 hR F0 => ret r tl h1 tk1 hR (fresh_of G' N1) F0 (old_back FG' N O2 F1 N1)
  clear ret
  k_steps
  unfold Stopped
  rename Fr _ _ _ _ => F3
  rename News _ _ _ _ => N3
  k_dflt (refine LCg.Assign_ListComp_U F3 (by rfl) (by with_unfolding_all rfl) (by rfl) (by decide) (by rfl) (by decide) (by rfl) (by rfl) (by rfl) ?_)
  refine nameX_L F3 rfl ?_
  refine LCg.CompSrc.base rfl F3 N3 hL ?_ fun gg => ?_
  · have : vs.toArray.size ≤ 1000 := by simp; omega
    exact Nat.le_trans this (by decide +kernel)
  refine compRest_ind (fun i ys nx => LspsR (nx ++ K) ys (items.sem.2.take i)) ?_ ?_ _ 0 [] _ (Nat.zero_add _) .nil
  · intro i ys nx hi hI v I oI C oC D m₂ h tk E' hv hC hx F4 N4 off ne
    obtain ⟨p, hR, hD, hpt, hph, hps⟩ := plsR_get hIt ihI hx1 i v (by simpa using hv)
    dsimp only
    k_steps
    unfold Stopped
    k_dflt (refine hD (K := K) (by k_asm) F4 (by k_asm) N4 (by k_asm) rfl (old_keep F4 O) hR hpt ?_ ?_)
    · first | omega | ktr_room
    intro r tl h2 tk2 hR2 hfr F6 N6
    have hoff := hfr.ne (old_news N4)
    k_steps
    refine LCg.CompEnd.intro F6 N6 (tl ++ nx) ?_ (LCg.Off3.of fun p hp => ?_) (Or.inl hL) ?_
    · intro p hp
      simp only [List.mem_append, List.mem_cons] at hp ⊢
      rcases hp with h | h | h | h | h <;> simp only [h, true_or, or_true]
    · rcases List.mem_append.mp hp with h | h
      · exact ⟨hoff p h _ (.head _), hoff p h _ (.tail _ (.head _)), hoff p h _ (.tail _ (.tail _ (.head _)))⟩
      · exact off.mem p h
    · rw [← take_snoc hps]
      refine LspsR.snoc (hI.mono fun p hp => ?_) (hR2.mono fun p hp => ?_)
      · simp only [List.mem_append] at hp ⊢
        rcases hp with h | h <;> simp only [h, true_or, or_true]
      · simp only [List.mem_append] at hp ⊢
        rcases hp with h | h <;> simp only [h, true_or, or_true]
  · intro ys nx hI D h tk F5 N5 o1
    have e1 : items.sem.2.take vs.toArray.size = items.sem.2 := by rw [List.size_toArray, hlen.1, ← hlen.2, List.take_length]
    rw [e1] at hI
    have hly : ys.length ≤ 1000 := by rw [hI.length, hlen.2]; exact hx3
    dsimp only
    cases hTl with
    | none =>
      k_steps
      unfold Stopped
      k_dflt (refine list_of_ok1 (K := (D, LCg.lst ys) :: (nx ++ K)) (by k_asm) F5 (by k_asm) N5 (by k_asm) rfl ?_ (.head _) (hI.mono fun p hp => .tail _ hp) hly ?_ ?_)
      · exact old_cons (N5 _ (.head _)).1 (old_cat (old_news fun p hp => N5 p (.tail _ hp)) (old_keep F5 O))
      · first | omega | ktr_room
      intro r tl h2 tk2 hR2 hfr F6 N6
      k_steps
      refine' fin _ _ _ _ _ ?hF ?hN ?_ ?hF0
      case hF0 => k_asm
      case hF => exact F6
      case hN => exact N6
      refine hR2.mono fun p hp => ?_
      simp only [List.mem_append, List.mem_cons] at hp ⊢
      rcases hp with h | h | h | h <;> simp only [h, true_or, or_true]
    | some hPt =>
      obtain ⟨at_, rfl⟩ := hPt.ref
      k_steps
      unfold Stopped
      k_dflt (refine ihT (K := K) (by k_asm) F5 (by k_asm) N5 (by k_asm) rfl (old_keep F5 O) hPt hx2 ?_ ?_)
      · first | omega | ktr_room
      intro r tl h2 tk2 hR2 hfr F6 N6
      k_steps
      unfold Stopped
      k_dflt (refine list_of_ok (K := (tl ++ ((D, LCg.lst ys) :: nx)) ++ K) (by k_asm) F6 (by k_asm) N6 (by k_asm) rfl ?_ (k := ys.length) (l := D) ?_ (hI.mono fun p hp => ?_) (hR2.mono fun p hp => ?_) hly ?_ ?_)
      · exact old_cat (old_news N6) (old_keep F6 O)
      · simp only [List.mem_append, List.mem_cons, true_or, or_true]
      · simp only [List.mem_append, List.mem_cons] at hp ⊢
        rcases hp with h | h <;> simp only [h, true_or, or_true]
      · simp only [List.mem_append, List.mem_cons] at hp ⊢
        rcases hp with h | h <;> simp only [h, true_or, or_true]
      · first | omega | ktr_room
      intro r3 tl3 h3 tk3 hR3 hfr3 F7 N7
      k_steps
      refine' fin _ _ _ _ _ ?hF ?hN ?_ ?hF0
      case hF0 => k_asm
      case hF => exact F7
      case hN => exact N7
      refine hR3.mono fun p hp => ?_
      simp only [List.mem_append, List.mem_cons] at hp ⊢
      rcases hp with h | (h | h | h) | h <;> simp only [h, true_or, or_true]
end DatL
theorem dat_both {w : World} (P : Pl) : Dat w P ∧ DatAll w P := by
  induction P with
  | sym x => exact ⟨dat_sym, trivial⟩
  | text x => exact ⟨dat_text, trivial⟩
  | whole i => exact ⟨dat_whole, trivial⟩
  | list items tail h1 h2 => exact ⟨dat_list h1.2 h2.1, trivial⟩
  | nil => exact ⟨dat_nil, trivial⟩
  | cons h t h1 h2 => exact ⟨dat_cons, h1.1, h2.2⟩
theorem dat_ok {w : World} (P : Pl) : Dat w P := (dat_both P).1
end PartCDatL
section PartCDue
theorem walk_plain_CDue : True := by
  w_top off
  k_with_none
  trivial
section Due
theorem lines_CDue_0 : True := by
  k_with_none
  k_with "call builtin:len" => (k_here; (with_reducible show wpAny _ _ (call (Value.builtin "len") [Value.ref _]) _ _ _); k_dflt (refine len_base (by is_list) (by assumption) ?_))
  k_with "subscriptTail" => (k_here; (with_reducible show wpAny _ _ (subscriptTail _ _ (Value.ref _) (Value.int _ _)) _ _ _); k_dflt (refine item_list (by is_list) (by decide) (by decide) (by assumption) ?_))
  k_with "subscriptTail" => (k_here; (with_reducible show wpAny _ _ (subscriptTail _ _ (Value.ref _) (Value.int _ _)) _ _ _); k_dflt (refine item_tup_base (by k_asm) (by assumption) (by decide) (by decide) (by rfl) (by rfl) ?_))
  trivial
local macro_rules | `(tactic| walk_at "compareOp NotEq ref ref") => `(tactic| (k_here; (with_reducible show wpAny _ _ (compareOp CmpOp.NotEq (Value.ref _) (Value.ref _)) _ _ _); k_dflt (refine' plan_ne ?F ?O ?N ?m ?q ?s ?c ?u ?_; (case F => k_asm); (case N => k_asm); (case m => k_mem); (case q => assumption); (case O => assumption); (case s => assumption); (case c => decide +kernel); (case u => first | ke_room | (simp only [units_deeper, units_in1, cLine_is]; (try dsimp only [ktrTop]); omega)))))
local macro_rules | `(tactic| walk_at "compareOp Eq ref ref") => `(tactic| (k_here; (with_reducible show wpAny _ _ (compareOp CmpOp.Eq (Value.ref _) (Value.ref _)) _ _ _); k_dflt (refine' plan_eq ?F ?O ?N ?m ?q ?s ?c ?u ?_; (case F => k_asm); (case N => k_asm); (case m => k_mem); (case q => assumption); (case O => assumption); (case s => assumption); (case c => decide +kernel); (case u => first | ke_room | (simp only [units_deeper, units_in1, cLine_is]; (try dsimp only [ktrTop]); omega)))))
theorem lines_CDue_1 : True := by
  k_with "pyIter ref" => refine stopped ?_
  trivial
local macro_rules | `(tactic| walk_at "exec For Name Subscript cons nil") => `(tactic| (k_here; (rename Fr _ _ _ _ => lF'); (with_unfolding_all refine' For_invVF lF' ?k1 ?k2 ?_; (case k1 => exact rfl); (case k2 => exact rfl); k_whole)))
theorem lines_CDue_2 : True := by
  k_with "subscriptTail Name Slice ref ref" => (k_here; (with_reducible show wpAny _ _ (subscriptTail _ (PySem.Expr.Slice (some _) none none _) (Value.ref _) (Value.ref _)) _ _ _); k_dflt (refine slice_two (by k_asm) (by k_asm) (by first | exact News.isList (by k_asm) (by k_mem) | is_list) (by assumption) ?_ (by with_unfolding_all rfl) (by kmk_pure)); intro D' h' F' N' l1; (try k_lt l1); (try k_sweep); (first | (revert D' h' F' N' l1; intro _ _ _ _ _) | (revert D' h' F' N'; intro _ _ _ _) | skip))
  trivial
set_option maxRecDepth 100000 in
set_option maxHeartbeats 8000000 in
theorem due_ok {w : World} {dp un : Nat} {gd : Option (List Code)} {cn : Str} {cs : Scope} {a : Addr} {ccd : Value} {cl : List (Str × Addr)} {outer : List Env} {A₀ : Around} {base h₀ : Heap} {L : Addr} {m : Str → Option Value} {s : Shared} {mean : ExcName → Option Value} {mg mb : Str → Option Value} {Q E : Value → Shared → Prop} {news K : List (Addr × Obj)}
   {l : Addr} {vs : List Value} {k : Nat} {items : Pl} {ip : Bool} {q0 : Pl}
   (B : Below A₀ base outer h₀) (F : Fr h₀ L s.heap m) (X : (hd.heap_39 w.params).In h₀) (N : News h₀ L s.heap news) (TT : Top hd.view_39 lso mean mg mb h₀) (hk : cs.kind = .function)
   (hK : Old s.heap K) (hl : (l, lstK vs k) ∈ K) (hR : PlsR K vs items) (hvz : vs.length ≤ 16384) (hsh : ∀ p ∈ items.lst, p.shp) (hq0 : items.lst[0]? = some q0) (hs0 : shd q0) (hun : un + 200 < cLine) (hdp : dp + 10 < recursionLimit)
   (ret : ∀ r tl h' tk', OV (if ip = true then dueOf items.lst else none) r → Fresh s.heap tl → Fr h₀ L h' m → News h₀ L h' (tl ++ news) → Q r { s with heap := h', toks := tk' }) :
   wpAny (model PP w) (ktrTop dp un gd cn cs L a ccd cl outer) (call (.ref 155) [.ref l, .bool ip]) Q E s := by
  have T := TT
  refine wpAny_call ?_
  have N2 : News h₀ L s.heap [] := News.nil
  k_dflt (refine' code_defG B F X N2 T rfl rfl hk ?k6 ?k7 ?k8 ?k9 ?kB ?_ ?c2 ?c3 ?c4 ?c5; (case k6 => k_is); (case k7 => k_is); (case k8 => ktr_room); (case k9 => first | exact BindsTo.of_eq rfl | exact binds_K (by k_in) rfl (by k_is) rfl rfl rfl); (case c5 => decide); (case kB => exact locs rfl); (case c2 => exact rfl); (case c3 => exact rfl); (case c4 => exact rfl))
  intro g' L' h' FG' F' N' B' X' T' G'
  (try dsimp only); (try k_fold)
  have O := old_in hK G'
  have O2 := old_of N G'
  have fin : ∀ (r : Value) (tl : List (Addr × Obj)) (h1 : Heap) (m1 : Str → Option Value) (tk1 : Nat), Fr g' L' h1 m1 → News g' L' h1 tl → OV (if ip = true then dueOf items.lst else none) r → Fr h₀ L h1 m → Q r { s with heap := h1, toks := tk1 } :=
    fun r tl h1 m1 tk1 F1 N1 e F0 => ret r tl h1 tk1 e (fresh_of G' N1) F0 (old_back FG' N O2 F1 N1)
  clear ret
  have hL := O.lst hl
  have hvl := plsR_lst hR
  cases ip with
  | false =>
    k_steps
    refine' fin _ _ _ _ _ ?hF ?hN ?hb ?hF0
    case hF0 => k_asm
    case hF => k_asm
    case hN => k_asm
    case hb => exact .none
  | true =>
    by_cases hlen : vs.length < 2
    · k_steps
      refine' fin _ _ _ _ _ ?hF ?hN ?hb ?hF0
      case hF0 => k_asm
      case hF => k_asm
      case hN => k_asm
      case hb => rw [if_pos rfl, dueOf_short (by omega)]; exact .none
    obtain ⟨v0, hv0⟩ : ∃ v0, vs[0]? = some v0 := ⟨_, List.getElem?_eq_getElem (by omega)⟩
    have hx0 : vs[(0 : Int).toNat]? = some v0 := hv0
    obtain ⟨q, hq, hR0⟩ := plsR_at hR hv0
    rw [hq0] at hq
    obtain rfl := Option.some.inj hq
    obtain ⟨a0, rfl⟩ := hR0.ref
    cases hsy : q0.isSym (S "lambda") with
    | false =>
      k_steps
      refine' fin _ _ _ _ _ ?hF ?hN ?hb ?hF0
      case hF0 => k_asm
      case hF => k_asm
      case hN => k_asm
      case hb => rw [if_pos rfl, dueOf_else hq0 hsy]; exact .none
    | true =>
      have hres : (if true = true then dueOf items.lst else none) = dueR (items.lst.drop 2) := by rw [if_pos rfl, dueOf_lambda hq0 hsy (by omega)]
      rw [hres] at fin
      k_steps
      unfold Stopped
      rename Fr _ _ _ _ => F6
      rename News _ _ _ _ => N6
      refine for_list (k := 0) (vs := vs.drop 2) (fun i => dueR (items.lst.drop 2) = dueR ((items.lst.drop 2).drop i)) rfl (.head _) F6 N6 rfl ?_ ?_
      · intro i v h3 tk3 own hv hi F7 N7
        have hv' : vs[2 + i]? = some v := by simpa using hv
        obtain ⟨p, hp, hRp⟩ := plsR_at hR hv'
        have hpd : (items.lst.drop 2)[i]? = some p := by simpa using hp
        have hps : p.shp := hsh _ (List.mem_of_getElem? hp)
        clear hx0 hR0 hs0
        cases hRp
        case list a1 l1 t1 tv k1 kl vs1 its tl1 m1 m2 hI hT =>
          have hT1 := O.tupB m1
          have hL1 := O.lst m2
          obtain ⟨q, r, rfl, hsq, hrz⟩ := hps
          cases hI
          case cons v1 vs2 hq1 hr1 =>
          obtain ⟨a2, rfl⟩ := hq1.ref
          have hx0 : (Value.ref a2 :: vs2)[(0 : Int).toNat]? = some (.ref a2) := rfl
          cases hF : q.isSym (S "interactive") with
          | false =>
            k_steps
            refine ⟨_, _, some _, _, rfl, by assumption, by assumption, fun p hp => by first | exact hp | exact .tail _ hp, hi.trans (dueR_next hpd hF)⟩
          | true =>
            have hsp : dueR (items.lst.drop 2) = some (Pl.beh (.list (.cons q r) tl1)) := by rw [hi, dueR_here hpd hF]
            rw [hsp] at fin
            have hr1l := plsR_lst hr1
            have hvz2 : (Value.ref a2 :: vs2).length ≤ 16384 := by simp; omega
            cases hr1
            case nil =>
              have hle : (([Value.ref a2] : List Value).length : Int) ≤ 1 := by simp
              k_steps
              dsimp only [FE]
              k_steps
              refine' fin _ _ _ _ _ ?hF ?hN ?hb ?hF0
              case hF0 => k_asm
              case hF => k_asm
              case hN => k_asm
              case hb => exact .some
            case cons v2 vs3 q2 r2 hq2 hr2 =>
              have hx1 : (Value.ref a2 :: v2 :: vs3)[(1 : Int).toNat]? = some v2 := rfl
              have hgt : ((Value.ref a2 :: v2 :: vs3).length : Int) > 1 := by simp; omega
              cases hq2
              all_goals (
                have hT2 := O.tupB (by first | assumption)
                k_steps
                dsimp only [FE]
                k_steps
                refine' fin _ _ _ _ _ ?hF ?hN ?hb ?hF0
                case hF0 => k_asm
                case hF => k_asm
                case hN => k_asm
                case hb => exact .some)
        all_goals (
          have hT1 := O.tupB (by assumption)
          k_steps
          refine ⟨_, _, some _, _, rfl, by assumption, by assumption, fun p hp => by first | exact hp | exact .tail _ hp, hi.trans (dueR_next hpd rfl)⟩)
      · intro u h3 tk3 hi F7 N7
        k_steps
        refine' fin _ _ _ _ _ ?hF ?hN ?hb ?hF0
        case hF0 => k_asm
        case hF => k_asm
        case hN => k_asm
        case hb => rw [hi, List.length_drop, hvl, ← List.length_drop, List.drop_length]; exact .none
set_option maxRecDepth 100000 in
set_option maxHeartbeats 8000000 in
theorem due_false {w : World} {dp un : Nat} {gd : Option (List Code)} {cn : Str} {cs : Scope} {a : Addr} {ccd : Value} {cl : List (Str × Addr)} {outer : List Env} {A₀ : Around} {base h₀ : Heap} {L : Addr} {m : Str → Option Value} {s : Shared} {mean : ExcName → Option Value} {mg mb : Str → Option Value} {Q E : Value → Shared → Prop} {news : List (Addr × Obj)}
   {l : Addr}
   (B : Below A₀ base outer h₀) (F : Fr h₀ L s.heap m) (X : (hd.heap_39 w.params).In h₀) (N : News h₀ L s.heap news) (TT : Top hd.view_39 lso mean mg mb h₀) (hk : cs.kind = .function) (hdp : dp + 10 < recursionLimit)
   (ret : ∀ tl h' tk', Fresh s.heap tl → Fr h₀ L h' m → News h₀ L h' (tl ++ news) → Q .none { s with heap := h', toks := tk' }) :
   wpAny (model PP w) (ktrTop dp un gd cn cs L a ccd cl outer) (call (.ref 155) [.ref l, .bool false]) Q E s := by
  have T := TT
  refine wpAny_call ?_
  have N2 : News h₀ L s.heap [] := News.nil
  k_dflt (refine' code_defG B F X N2 T rfl rfl hk ?k6 ?k7 ?k8 ?k9 ?kB ?_ ?c2 ?c3 ?c4 ?c5; (case k6 => k_is); (case k7 => k_is); (case k8 => ktr_room); (case k9 => first | exact BindsTo.of_eq rfl | exact binds_K (by k_in) rfl (by k_is) rfl rfl rfl); (case c5 => decide); (case kB => exact locs rfl); (case c2 => exact rfl); (case c3 => exact rfl); (case c4 => exact rfl))
  intro g' L' h' FG' F' N' B' X' T' G'
  (try dsimp only); (try k_fold)
  have O2 := old_of N G'
  have fin : ∀ (tl : List (Addr × Obj)) (h1 : Heap) (m1 : Str → Option Value) (tk1 : Nat), Fr g' L' h1 m1 → News g' L' h1 tl → Fr h₀ L h1 m → Q .none { s with heap := h1, toks := tk1 } :=
    fun tl h1 m1 tk1 F1 N1 F0 => ret tl h1 tk1 (fresh_of G' N1) F0 (old_back FG' N O2 F1 N1)
  clear ret
  k_steps
  refine' fin _ _ _ _ ?hF ?hN ?hF0
  case hF0 => k_asm
  case hF => k_asm
  case hN => k_asm
end Due
end PartCDue
section PartCSplit
theorem walk_plain_CSplit : True := by
  w_top off
  k_with_none
  trivial
section Split
local macro_rules | `(tactic| k_handed) => `(tactic| first | assumption | fail "none at hand")
local macro_rules | `(tactic| k_inst) => `(tactic| first | (refine' Old.inst ?F ?O ?h1 ?h2; (case h1 => assumption); (case h2 => assumption); (case O => assumption); (case F => k_asm)) | fail "not of old")
theorem lines_CSplit_0 : True := by
  k_with_none
  k_with "exec While" => refine stopped ?_
  k_with "exec While Call cons nil" => refine stopped ?_
  k_with "compareOp Is" => refine stopped ?_
  k_with "call builtin:len" => (k_here; (with_reducible show wpAny _ _ (call (Value.builtin "len") [Value.ref _]) _ _ _); k_dflt (refine len_push (by exact News.isList (by k_asm) (by k_mem)) (by assumption) (by omega) ?_))
  trivial
set_option maxRecDepth 100000 in
set_option maxHeartbeats 8000000 in
theorem split_ok {w : World} {dp un : Nat} {gd : Option (List Code)} {cn : Str} {cs : Scope} {a : Addr} {ccd : Value} {cl : List (Str × Addr)} {outer : List Env} {A₀ : Around} {base h₀ : Heap} {L : Addr} {m : Str → Option Value} {s : Shared} {mean : ExcName → Option Value} {mg mb : Str → Option Value} {Q E : Value → Shared → Prop} {news K : List (Addr × Obj)}
   {node car : Nat → Value} {M : Nat} {rg : Bool} {T : Lsp}
   (B : Below A₀ base outer h₀) (F : Fr h₀ L s.heap m) (X : (hd.heap_39 w.params).In h₀) (N : News h₀ L s.heap news) (T0 : Top hd.view_39 lso mean mg mb h₀) (hk : cs.kind = .function)
   (hK : Old s.heap K) (hch : Chain K node car M) (hM : M ≤ 10000) (hsep : ∀ j, 1 ≤ j → 2 * j ≤ M → (2 * j < M ∨ rg = false) → node (2 * j) ≠ node j)
   (hring : rg = true → ∃ n, M = 2 * n ∧ 0 < n ∧ node M = node n) (hend : rg = false → LspR K (node M) T ∧ ∀ a b, T ≠ .cons a b) (hdp : dp + 10 < recursionLimit)
   (ret : ∀ r l k kl tl h' tk', (r, tupO [.ref l, if rg = true then .none else node M] k) ∈ tl → (l, lstK ((List.range M).map car) kl) ∈ tl → Fresh s.heap tl → Fr h₀ L h' m → News h₀ L h' (tl ++ news) → Q (.ref r) { s with heap := h', toks := tk' }) :
   wpAny (model PP w) (ktrTop dp un gd cn cs L a ccd cl outer) (call (.ref 96) [node 0]) Q E s := by
  have T := T0
  refine wpAny_call ?_
  have N2 : News h₀ L s.heap [] := News.nil
  k_dflt (refine' code_defG B F X N2 T rfl rfl hk ?k6 ?k7 ?k8 ?k9 ?kB ?_ ?c2 ?c3 ?c4 ?c5; (case k6 => k_is); (case k7 => k_is); (case k8 => ktr_room); (case k9 => first | exact BindsTo.of_eq rfl | exact binds_K (by k_in) rfl (by k_is) rfl rfl rfl); (case c5 => decide); (case kB => exact locs rfl); (case c2 => exact rfl); (case c3 => exact rfl); (case c4 => exact rfl))
  intro g' L' h' FG' F' N' B' X' T' G'
  (try dsimp only); (try k_fold)
  have O := old_in hK G'
  have O2 := old_of N G'
  have fin : ∀ (r l : Addr) (k kl : Nat) (tl : List (Addr × Obj)) (h1 : Heap) (m1 : Str → Option Value) (tk1 : Nat), Fr g' L' h1 m1 → News g' L' h1 tl → (r, tupO [.ref l, if rg = true then .none else node M] k) ∈ tl → (l, lstK ((List.range M).map car) kl) ∈ tl → Fr h₀ L h1 m → Q (.ref r) { s with heap := h1, toks := tk1 } :=
    fun r l k kl tl h1 m1 tk1 F1 N1 e1 e2 F0 => ret r l k kl tl h1 tk1 e1 e2 (fresh_of G' N1) F0 (old_back FG' N O2 F1 N1)
  clear ret
  have hnil : ∃ o, g'.get? 37 = some o ∧ o.cls ≠ .type "tuple" := ⟨_, X' 37 _ (by k_is), by intro e; cases e⟩
  k_steps
  unfold Stopped
  rename Fr _ _ _ _ => F3
  rename News _ _ _ _ => N3
  rename_i l y1 y2 y3 y4 y5
  refine while_idx (S "at") (S "slow") node (halfN node) (fun i nx => (i < M ∨ rg = false) ∧ ∃ kl, nx = [(l, lstK ((List.range i).map car) kl)]) M F3 N3 rfl rfl ?_ ?_
  · refine ⟨?_, _, rfl⟩
    cases rg with
    | false => exact .inr rfl
    | true => obtain ⟨n, e, hn, _⟩ := hring rfl; exact .inl (by omega)
  rintro i nx h1 tk1 hi ⟨hiM, kl, rfl⟩ F4 N4
  have hlr : ((List.range i).map car).length = i := by simp
  by_cases hlt : i < M
  · obtain ⟨x, dx, c1, c2, t1, t2, n1, ex, m1, m2, m3, m4⟩ := hch i hlt
    obtain ⟨y, dy, e1, e2, u1, u2, n2, ey, p1, p2, p3, p4⟩ := hch (i / 2) (by omega)
    have ey' : halfN node i = .ref y := ey
    rw [ex, ey'] at F4
    generalize hvs : (List.range i).map car = vs at N4 hlr
    k_steps
    · unfold Stopped
      rename Fr _ _ _ _ => F5
      rename News _ _ _ _ => N5
      have hpar := par_zero (by assumption)
      have hj : (i + 1) / 2 = i / 2 + 1 := by omega
      have hj2 : 2 * (i / 2 + 1) = i + 1 := by omega
      obtain ⟨z, dz, e1', e2', u1', u2', n2', ez, q1, q2, q3, q4⟩ := hch (i / 2 + 1) (by omega)
      by_cases hr : rg = true ∧ i + 1 = M
      · obtain ⟨n, en, hn, hnn⟩ := hring hr.1
        have en' : n = i / 2 + 1 := by omega
        rw [hr.2, hnn, en', ez]
        refine wpAny_is_ref_self ?_
        k_steps
        dsimp only [WI]
        k_steps
        refine' fin _ _ _ _ _ _ _ _ ?hF ?hN ?hR ?hL ?hF0
        case hF0 => k_asm
        case hF => k_asm
        case hN => k_asm
        case hR => rw [if_pos hr.1]; k_mem
        case hL => rw [← hvs, range_snoc, hr.2]; k_mem
      · rw [ez]
        have hne : node (i + 1) ≠ .ref z := by
          rw [← ez, ← hj2]
          refine hsep _ (by omega) (by omega) ?_
          cases hb : rg with
          | false => exact .inr rfl
          | true => exact .inl (by have : ¬ (i + 1 = M) := fun e => hr ⟨hb, e⟩; omega)
        have hal : Alive g' (node (i + 1)) := by
          by_cases h2 : i + 1 < M
          · obtain ⟨x3, dx3, _, _, _, _, _, e3, q3', _⟩ := hch (i + 1) h2
            rw [e3]; exact ⟨_, O _ q3', fun e => nomatch e⟩
          · have h3 : i + 1 = M := by omega
            have h4 : rg = false := by cases hb : rg with
              | false => rfl
              | true => exact absurd ⟨hb, h3⟩ hr
            rw [h3]; exact lsp_alive O hnil (hend h4).1
        refine is_alive (hal.keep F5) (F5.keep _ _ (O _ q1)) hne ?_
        k_steps
        refine ⟨_, _, _, _, rfl, F5, N5, by omega, ?_, ?_, kl + 1, ?_⟩
        · rw [show halfN node (i + 1) = node (i / 2 + 1) from by unfold halfN; rw [hj]]; exact map_both (by decide)
        · cases hb : rg with
          | false => exact .inr rfl
          | true => exact .inl (by have : ¬ (i + 1 = M) := fun e => hr ⟨hb, e⟩; omega)
        · rw [← hvs, range_snoc]
    · rename Fr _ _ _ _ => F5
      rename News _ _ _ _ => N5
      have hpar := par_one (by assumption)
      have hj : (i + 1) / 2 = i / 2 := by omega
      refine ⟨_, _, _, _, rfl, F5, N5, by omega, ?_, ?_, kl + 1, ?_⟩
      · rw [show halfN node (i + 1) = .ref y from by unfold halfN; rw [hj, ey]]; exact map_one
      · cases hb : rg with
        | false => exact .inr rfl
        | true => obtain ⟨n, en, hn, hnn⟩ := hring hb; exact .inl (by omega)
      · rw [← hvs, range_snoc]
  · have hiM' : i = M := by omega
    have hrg : rg = false := hiM.resolve_left hlt
    obtain ⟨hT, hTc⟩ := hend hrg
    have hif : (if rg = true then Value.none else node M) = node M := by rw [hrg]; rfl
    rw [hif] at fin
    subst hiM'
    generalize node i = vM at F4 hT fin
    cases hT
    case cons => exact absurd rfl (hTc _ _)
    all_goals (
      k_steps
      refine' fin _ _ _ _ _ _ _ _ ?hF ?hN ?hR ?hL ?hF0
      case hF0 => k_asm
      case hF => k_asm
      case hN => k_asm
      case hR => k_mem
      case hL => k_mem)
end Split
end PartCSplit
section PartCItems
theorem walk_plain_CItems : True := by
  w_top off
  k_with_none
  trivial
section Items
local macro_rules | `(tactic| k_handed) => `(tactic| first | assumption | fail "none at hand")
theorem lines_CItems_0 : True := by
  k_with_none
  k_with "call ref" => ((with_reducible show wpAny _ _ (call (Value.ref 96) _) _ _ _); refine stopped ?_)
  k_with "compareOp Is" => refine stopped ?_
  trivial
set_option maxRecDepth 100000 in
set_option maxHeartbeats 8000000 in
theorem items_ok {w : World} {dp un : Nat} {gd : Option (List Code)} {cn : Str} {cs : Scope} {a : Addr} {ccd : Value} {cl : List (Str × Addr)} {outer : List Env} {A₀ : Around} {base h₀ : Heap} {L : Addr} {m : Str → Option Value} {s : Shared} {mean : ExcName → Option Value} {mg mb : Str → Option Value} {Q E : Value → Shared → Prop} {news K : List (Addr × Obj)}
   {node car : Nat → Value} {M : Nat} {rg : Bool} {D : Lsp}
   (B : Below A₀ base outer h₀) (F : Fr h₀ L s.heap m) (X : (hd.heap_39 w.params).In h₀) (N : News h₀ L s.heap news) (TT : Top hd.view_39 lso mean mg mb h₀) (hk : cs.kind = .function)
   (hK : Old s.heap K) (h37 : ∀ p ∈ K, p.1 ≠ 37) (hch : Chain K node car M) (hM : M ≤ 10000) (hsep : ∀ j, 1 ≤ j → 2 * j ≤ M → (2 * j < M ∨ rg = false) → node (2 * j) ≠ node j)
   (hring : rg = true → ∃ n, M = 2 * n ∧ 0 < n ∧ node M = node n) (hend : rg = false → LspR K (node M) D ∧ ∀ a b, D ≠ .cons a b) (hdp : dp + 20 < recursionLimit)
   (ret : ∀ r tl h' tk', ((rg = false ∧ D = .nil ∧ ∃ l kl, r = .ref l ∧ (l, lstK ((List.range M).map car) kl) ∈ tl) ∨ ((rg = true ∨ D ≠ .nil) ∧ r = .none)) → Fresh s.heap tl → Fr h₀ L h' m → News h₀ L h' (tl ++ news) → Q r { s with heap := h', toks := tk' }) :
   wpAny (model PP w) (ktrTop dp un gd cn cs L a ccd cl outer) (call (.ref 103) [node 0]) Q E s := by
  have T := TT
  refine wpAny_call ?_
  have N2 : News h₀ L s.heap [] := News.nil
  k_dflt (refine' code_defG B F X N2 T rfl rfl hk ?k6 ?k7 ?k8 ?k9 ?kB ?_ ?c2 ?c3 ?c4 ?c5; (case k6 => k_is); (case k7 => k_is); (case k8 => ktr_room); (case k9 => first | exact BindsTo.of_eq rfl | exact binds_K (by k_in) rfl (by k_is) rfl rfl rfl); (case c5 => decide); (case kB => exact locs rfl); (case c2 => exact rfl); (case c3 => exact rfl); (case c4 => exact rfl))
  intro g' L' h' FG' F' N' B' X' T' G'
  (try dsimp only); (try k_fold)
  have O := old_in hK G'
  have O2 := old_of N G'
  have fin : ∀ (r : Value) (tl : List (Addr × Obj)) (h1 : Heap) (m1 : Str → Option Value) (tk1 : Nat), Fr g' L' h1 m1 → News g' L' h1 tl → ((rg = false ∧ D = .nil ∧ ∃ l kl, r = .ref l ∧ (l, lstK ((List.range M).map car) kl) ∈ tl) ∨ ((rg = true ∨ D ≠ .nil) ∧ r = .none)) → Fr h₀ L h1 m → Q r { s with heap := h1, toks := tk1 } :=
    fun r tl h1 m1 tk1 F1 N1 e F0 => ret r tl h1 tk1 e (fresh_of G' N1) F0 (old_back FG' N O2 F1 N1)
  clear ret
  k_steps
  unfold Stopped
  k_dflt (refine split_ok (K := K) (by k_asm) (by k_asm) (by k_asm) (by k_asm) (by k_asm) rfl (old_keep (by assumption) O) hch hM hsep hring hend ?_ ?_)
  · first | omega | ktr_room
  intro r l k kl tl h2 tk2 hr hl hf F5 N5
  k_steps
  unfold Stopped
  rename Fr _ _ _ _ => F6
  rename News _ _ _ _ => N6
  have hnil : ∃ o, g'.get? 37 = some o ∧ o.cls ≠ .type "tuple" := ⟨_, X' 37 _ (by k_is), by intro e; cases e⟩
  obtain ⟨o37, ho37, hc37⟩ := hnil
  cases rg with
  | true =>
    simp only [if_true] at F6 N6 ⊢
    refine wpAny_is_other rfl (fun e => nomatch e) ?_
    k_steps
    refine' fin _ _ _ _ _ ?hF ?hN ?hb ?hF0
    case hF0 => k_asm
    case hF => k_asm
    case hN => k_asm
    case hb => exact .inr ⟨.inl rfl, rfl⟩
  | false =>
    obtain ⟨hR, hc⟩ := hend rfl
    simp only [Bool.false_eq_true, if_false] at F6 N6 ⊢
    by_cases hD : D = .nil
    · subst hD
      generalize node M = vM at F6 hR
      cases hR
      refine wpAny_is_ref_self ?_
      k_steps
      refine' fin _ _ _ _ _ ?hF ?hN ?hb ?hF0
      case hF0 => k_asm
      case hF => k_asm
      case hN => k_asm
      case hb => exact .inl ⟨rfl, rfl, _, _, rfl, by k_mem⟩
    · have hne : node M ≠ .ref 37 := lsp_ne37 h37 hR hD
      refine is_alive ((lsp_alive O ⟨_, ho37, hc37⟩ hR).keep F6) (F6.keep _ _ ho37) hne ?_
      k_steps
      refine' fin _ _ _ _ _ ?hF ?hN ?hb ?hF0
      case hF0 => k_asm
      case hF => k_asm
      case hN => k_asm
      case hb => exact .inr ⟨.inr hD, rfl⟩
end Items
end PartCItems
section PartCISpec
theorem walk_plain_CISpec : True := by
  w_top off
  k_with_none
  trivial
section ISpec
local macro_rules | `(tactic| k_inst) => `(tactic| first | (refine' Old.inst ?F ?O ?h1 ?h2; (case h1 => assumption); (case h2 => assumption); (case O => assumption); (case F => k_asm)) | fail "not of old")
theorem lines_CISpec_0 : True := by
  k_with_none
  k_with "call builtin:len" => (k_here; (with_reducible show wpAny _ _ (call (Value.builtin "len") [Value.ref _]) _ _ _); k_dflt (refine len_base (by exact News.isList (by k_asm) (by k_mem)) (by assumption) ?_))
  k_with "subscriptTail" => (k_here; (with_reducible show wpAny _ _ (subscriptTail _ _ (Value.ref _) (Value.int _ _)) _ _ _); k_dflt (refine item_list (by exact News.isList (by k_asm) (by k_mem)) (by decide) (by decide) (by assumption) ?_))
  k_with "pyIter ref" => refine stopped ?_
  trivial
local macro_rules | `(tactic| walk_at "exec For Name Subscript cons nil") => `(tactic| (k_here; (rename Fr _ _ _ _ => lF'); (with_unfolding_all refine' For_invVF lF' ?k1 ?k2 ?_; (case k1 => exact rfl); (case k2 => exact rfl); k_whole)))
theorem lines_CISpec_1 : True := by
  k_with "subscriptTail Name Slice ref ref" => (k_here; (with_reducible show wpAny _ _ (subscriptTail _ (PySem.Expr.Slice (some _) none none _) (Value.ref _) (Value.ref _)) _ _ _); k_dflt (refine slice_two (by k_asm) (by k_asm) (by first | exact News.isList (by k_asm) (by k_mem) | is_list) (by assumption) ?_ (by with_unfolding_all rfl) (by kmk_pure)); intro D' h' F' N' l1; (try k_lt l1); (try k_sweep); (first | (revert D' h' F' N' l1; intro _ _ _ _ _) | (revert D' h' F' N'; intro _ _ _ _) | skip))
  k_with "call ref" => ((with_reducible show wpAny _ _ (call (Value.ref 103) _) _ _ _); refine stopped ?_)
  k_with "call ref" => ((with_reducible show wpAny _ _ (call (Value.ref 115) _) _ _ _); refine stopped ?_)
  k_with "call ref" => ((with_reducible show wpAny _ _ (call (Value.ref 108) _) _ _ _); refine stopped ?_)
  trivial
set_option maxRecDepth 100000 in
set_option maxHeartbeats 8000000 in
theorem ispec_atom {w : World} {dp un : Nat} {gd : Option (List Code)} {cn : Str} {cs : Scope} {a : Addr} {ccd : Value} {cl : List (Str × Addr)} {outer : List Env} {A₀ : Around} {base h₀ : Heap} {L : Addr} {m : Str → Option Value} {s : Shared} {mean : ExcName → Option Value} {mg mb : Str → Option Value} {Q E : Value → Shared → Prop} {news K : List (Addr × Obj)}
   {v : Value} {D : Lsp}
   (B : Below A₀ base outer h₀) (F : Fr h₀ L s.heap m) (X : (hd.heap_39 w.params).In h₀) (N : News h₀ L s.heap news) (TT : Top hd.view_39 lso mean mg mb h₀) (hk : cs.kind = .function)
   (hK : Old s.heap K) (hD : LspR K v D) (hc : ∀ a b, D ≠ .cons a b) (hdp : dp + 10 < recursionLimit)
   (ret : ∀ tl h' tk', Fresh s.heap tl → Fr h₀ L h' m → News h₀ L h' (tl ++ news) → Q .none { s with heap := h', toks := tk' }) :
   wpAny (model PP w) (ktrTop dp un gd cn cs L a ccd cl outer) (call (.ref 122) [v]) Q E s := by
  have T := TT
  refine wpAny_call ?_
  have N2 : News h₀ L s.heap [] := News.nil
  k_dflt (refine' code_defG B F X N2 T rfl rfl hk ?k6 ?k7 ?k8 ?k9 ?kB ?_ ?c2 ?c3 ?c4 ?c5; (case k6 => k_is); (case k7 => k_is); (case k8 => ktr_room); (case k9 => first | exact BindsTo.of_eq rfl | exact binds_K (by k_in) rfl (by k_is) rfl rfl rfl); (case c5 => decide); (case kB => exact locs rfl); (case c2 => exact rfl); (case c3 => exact rfl); (case c4 => exact rfl))
  intro g' L' h' FG' F' N' B' X' T' G'
  (try dsimp only); (try k_fold)
  have O := old_in hK G'
  have O2 := old_of N G'
  have fin : ∀ (tl : List (Addr × Obj)) (h1 : Heap) (m1 : Str → Option Value) (tk1 : Nat), Fr g' L' h1 m1 → News g' L' h1 tl → Fr h₀ L h1 m → Q .none { s with heap := h1, toks := tk1 } :=
    fun tl h1 m1 tk1 F1 N1 F0 => ret tl h1 tk1 (fresh_of G' N1) F0 (old_back FG' N O2 F1 N1)
  clear ret
  cases hD
  case cons => exact absurd rfl (hc _ _)
  all_goals (
    k_steps
    refine' fin _ _ _ _ ?hF ?hN ?hF0
    case hF0 => k_asm
    case hF => k_asm
    case hN => k_asm)
set_option maxRecDepth 100000 in
set_option maxHeartbeats 8000000 in
theorem ispec_chain {w : World} {dp un : Nat} {gd : Option (List Code)} {cn : Str} {cs : Scope} {a : Addr} {ccd : Value} {cl : List (Str × Addr)} {outer : List Env} {A₀ : Around} {base h₀ : Heap} {L : Addr} {m : Str → Option Value} {s : Shared} {mean : ExcName → Option Value} {mg mb : Str → Option Value} {Q E : Value → Shared → Prop} {news K : List (Addr × Obj)}
   {node car : Nat → Value} {M : Nat} {rg : Bool} {D : Lsp} {res : Option Str} {Ds : List Lsp}
   (B : Below A₀ base outer h₀) (F : Fr h₀ L s.heap m) (X : (hd.heap_39 w.params).In h₀) (N : News h₀ L s.heap news) (TT : Top hd.view_39 lso mean mg mb h₀) (hk : cs.kind = .function)
   (hK : Old s.heap K) (h37 : ∀ p ∈ K, p.1 ≠ 37) (hch : Chain K node car M) (hM0 : 0 < M) (hM : M ≤ 10000) (hsep : ∀ j, 1 ≤ j → 2 * j ≤ M → (2 * j < M ∨ rg = false) → node (2 * j) ≠ node j)
   (hring : rg = true → ∃ n, M = 2 * n ∧ 0 < n ∧ node M = node n) (hend : rg = false → LspR K (node M) D ∧ ∀ a b, D ≠ .cons a b)
   (hres1 : rg = true ∨ D ≠ .nil → res = none) (hres2 : rg = false → D = .nil → LspsR K ((List.range M).map car) Ds ∧ (∀ d ∈ Ds, d.txt) ∧ res = specOf Ds) (hdp : dp + 40 < recursionLimit)
   (ret : ∀ r tl h' tk', OV res r → Fresh s.heap tl → Fr h₀ L h' m → News h₀ L h' (tl ++ news) → Q r { s with heap := h', toks := tk' }) :
   wpAny (model PP w) (ktrTop dp un gd cn cs L a ccd cl outer) (call (.ref 122) [node 0]) Q E s := by
  have T := TT
  refine wpAny_call ?_
  have N2 : News h₀ L s.heap [] := News.nil
  k_dflt (refine' code_defG B F X N2 T rfl rfl hk ?k6 ?k7 ?k8 ?k9 ?kB ?_ ?c2 ?c3 ?c4 ?c5; (case k6 => k_is); (case k7 => k_is); (case k8 => ktr_room); (case k9 => first | exact BindsTo.of_eq rfl | exact binds_K (by k_in) rfl (by k_is) rfl rfl rfl); (case c5 => decide); (case kB => exact locs rfl); (case c2 => exact rfl); (case c3 => exact rfl); (case c4 => exact rfl))
  intro g' L' h' FG' F' N' B' X' T' G'
  (try dsimp only); (try k_fold)
  have O := old_in hK G'
  have O2 := old_of N G'
  have fin : ∀ (r : Value) (tl : List (Addr × Obj)) (h1 : Heap) (m1 : Str → Option Value) (tk1 : Nat), Fr g' L' h1 m1 → News g' L' h1 tl → OV res r → Fr h₀ L h1 m → Q r { s with heap := h1, toks := tk1 } :=
    fun r tl h1 m1 tk1 F1 N1 e F0 => ret r tl h1 tk1 e (fresh_of G' N1) F0 (old_back FG' N O2 F1 N1)
  clear ret
  obtain ⟨x, dx, c1, c2, t1, t2, n1, ex, m1, m2, m3, m4⟩ := hch 0 hM0
  rw [ex] at F'
  k_steps
  unfold Stopped
  rw [← ex]
  k_dflt (refine items_ok (K := K) (by k_asm) (by k_asm) (by k_asm) (by k_asm) (by k_asm) rfl (old_keep (by assumption) O) h37 hch hM hsep hring hend ?_ ?_)
  · first | omega | ktr_room
  intro r tl h2 tk2 hr hf F5 N5
  rcases hr with ⟨hrg, hDn, l, kl, rfl, hl⟩ | ⟨hrg, rfl⟩
  · obtain ⟨hR, htx, hres⟩ := hres2 hrg hDn
    generalize hvs : (List.range M).map car = vs at hl hR
    have hvl := hR.length
    have hvM : vs.length = M := by rw [← hvs]; simp
    have hvz : vs.length ≤ 16384 := by omega
    clear hvs hch hsep hring hend hres1 hres2 m1 m2 m3 m4 ex
    by_cases hlen : vs.length < 2
    · k_steps
      refine' fin _ _ _ _ _ ?hF ?hN ?hb ?hF0
      case hF0 => k_asm
      case hF => k_asm
      case hN => k_asm
      case hb => rw [hres, specOf_short (by omega)]; exact .none
    obtain ⟨v0, d0, e1, e2, hR0⟩ := hR.get 0 (by omega)
    have hx0 : vs[(0 : Int).toNat]? = some v0 := e1
    cases hR0
    case sym =>
      k_steps
      · refine' fin _ _ _ _ _ ?hF ?hN ?hb ?hF0
        case hF0 => k_asm
        case hF => k_asm
        case hN => k_asm
        case hb => rw [hres, specOf_else e2 (by assumption)]; exact .none
      unfold Stopped
      rename Fr _ _ _ _ => F6
      rename News _ _ _ _ => N6
      have hres' : res = specR (Ds.drop 2) := by rw [hres]; exact specOf_lambda e2 (by assumption) (by omega)
      refine for_list (k := 0) (vs := vs.drop 2) (fun i => specR (Ds.drop 2) = specR ((Ds.drop 2).drop i)) rfl (.head _) F6 N6 rfl ?_ ?_
      · intro i v h3 tk3 own hv hi F7 N7
        obtain ⟨d, hd, hR1⟩ := lspsR_at (hR.drop 2) hv
        have hdt : d.txt := htx _ (List.mem_of_mem_drop (List.mem_of_getElem? hd))
        k_steps
        unfold Stopped
        k_dflt (refine isint_ok (K := K) (by k_asm) (by k_asm) (by k_asm) (by k_asm) (by k_asm) rfl (old_keep (by assumption) O) hR1 ?_ ?_)
        · first | omega | ktr_room
        intro tl3 h4 tk4 hf4 F8 N8
        cases hI : d.isInt with
        | false =>
          k_steps
          refine ⟨_, _, some v, _, rfl, F8, N8, fun p hp => List.mem_append.mpr (.inr hp), hi.trans (specR_next hd hI)⟩
        | true =>
          have hsp : res = some d.cdr.first := by rw [hres', hi, specR_here hd hI]
          have fin2 : ∀ (t : Tok) (tl : List (Addr × Obj)) (h1 : Heap) (m1 : Str → Option Value) (tk1 : Nat), Fr g' L' h1 m1 → News g' L' h1 tl → d.cdr.first = S "" → Fr h₀ L h1 m → Q (.str (S "") t) { s with heap := h1, toks := tk1 } := by
            intro t tl h1 m1 tk1 F1 N1 e F0
            refine fin _ _ _ _ _ F1 N1 ?_ F0
            rw [hsp, e]; exact .some
          obtain ⟨y, b, rfl, hy⟩ := isInt_shape hI
          cases hR1
          case cons x1 dx1 a1 a2 u1 u2 n1 v1 w1 m1 m2 hA hB =>
          cases hB
          case cons x2 dx2 b1 b2 u3 u4 n2 v2 w2 d1 d2 m3 m4 hC hE =>
            cases hC
            case text x5 dx5 c5 b5 b6 u5 u6 n5 k5 vs5 y5 q1 q2 q3 q4 =>
              k_steps
              unfold Stopped
              obtain ⟨z1, z2⟩ := textOk_cps hdt.2.1
              k_dflt (refine told_ok (K := K) (by k_asm) (by k_asm) (by k_asm) (by k_asm) (by k_asm) rfl (old_keep (by assumption) O) q3 q4 z1 z2 ?_ ?_)
              · first | omega | ktr_room
              intro t9 tl9 h9 tk9 hf9 F9 N9
              dsimp only [FE]
              k_steps
              refine' fin _ _ _ _ _ ?hF ?hN ?hb ?hF0
              case hF0 => k_asm
              case hF => k_asm
              case hN => k_asm
              case hb => rw [hsp]; exact .some
            all_goals (
              k_steps
              dsimp only [FE]
              k_steps
              refine' fin2 _ _ _ _ _ ?hF ?hN rfl ?hF0
              case hF0 => k_asm
              case hF => k_asm
              case hN => k_asm)
          all_goals (
            k_steps
            dsimp only [FE]
            k_steps
            refine' fin2 _ _ _ _ _ ?hF ?hN rfl ?hF0
            case hF0 => k_asm
            case hF => k_asm
            case hN => k_asm)
      · intro u h3 tk3 hi F7 N7
        k_steps
        refine' fin _ _ _ _ _ ?hF ?hN ?hb ?hF0
        case hF0 => k_asm
        case hF => k_asm
        case hN => k_asm
        case hb => rw [hres', hi, List.length_drop, hvl, ← List.length_drop, List.drop_length]; exact .none
    all_goals (
      k_steps
      refine' fin _ _ _ _ _ ?hF ?hN ?hb ?hF0
      case hF0 => k_asm
      case hF => k_asm
      case hN => k_asm
      case hb => rw [hres, specOf_other e2 (by intro y e; cases e)]; exact .none)
  · k_steps
    refine' fin _ _ _ _ _ ?hF ?hN ?hb ?hF0
    case hF0 => k_asm
    case hF => k_asm
    case hN => k_asm
    case hb => rw [hres1 hrg]; exact .none
end ISpec
end PartCISpec
section PartCISpec2
theorem ispec_data {w : World} {dp un : Nat} {gd : Option (List Code)} {cn : Str} {cs : Scope} {a : Addr} {ccd : Value} {cl : List (Str × Addr)} {outer : List Env} {A₀ : Around} {base h₀ : Heap} {L : Addr} {m : Str → Option Value} {s : Shared} {mean : ExcName → Option Value} {mg mb : Str → Option Value} {Q E : Value → Shared → Prop} {news K : List (Addr × Obj)}
   {v : Value} {D : Lsp} {res : Option Str}
   (B : Below A₀ base outer h₀) (F : Fr h₀ L s.heap m) (X : (hd.heap_39 w.params).In h₀) (N : News h₀ L s.heap news) (TT : Top hd.view_39 lso mean mg mb h₀) (hk : cs.kind = .function)
   (hK : Old s.heap K) (h37 : ∀ p ∈ K, p.1 ≠ 37) (hR : LspR K v D) (hD : DShape D res) (hdp : dp + 50 < recursionLimit)
   (ret : ∀ r tl h' tk', OV res r → Fresh s.heap tl → Fr h₀ L h' m → News h₀ L h' (tl ++ news) → Q r { s with heap := h', toks := tk' }) :
   wpAny (model PP w) (ktrTop dp un gd cn cs L a ccd cl outer) (call (.ref 122) [v]) Q E s := by
  cases hD with
  | atom hc => exact ispec_atom B F X N TT hk hK hR hc (by omega) fun tl h' tk' hf F' N' => ret _ tl h' tk' .none hf F' N'
  | @proper Ds h0 hl ht =>
    obtain ⟨node, car, e0, hch, hn, hs⟩ := lsp_chain hR
    have hl0 : 0 < Ds.length := List.length_pos_iff.mpr h0
    have := @ispec_chain w dp un gd cn cs a ccd cl outer A₀ base h₀ L m s mean mg mb Q E news K node car Ds.length false .nil (specOf Ds) Ds B F X N TT hk hK h37 hch hl0 (by omega)
      (fun j h1 h2 _ => chain_ne hK h37 hn h2 (by omega) (by omega)) (fun e => nomatch e) (fun _ => ⟨by have := hn Ds.length (Nat.le_refl _); rwa [List.drop_length] at this, fun _ _ e => nomatch e⟩)
      (fun h => h.elim (fun h => nomatch h) fun h => absurd rfl h) (fun _ _ => ⟨hs, ht, rfl⟩) (by omega) ret
    rw [e0] at this
    exact this
  | @dotted Ds T h0 hl hT hTc =>
    obtain ⟨node, car, e0, hch, hn, hs⟩ := lsp_chain hR
    have hl0 : 0 < Ds.length := List.length_pos_iff.mpr h0
    have := @ispec_chain w dp un gd cn cs a ccd cl outer A₀ base h₀ L m s mean mg mb Q E news K node car Ds.length false T none Ds B F X N TT hk hK h37 hch hl0 (by omega)
      (fun j h1 h2 _ => chain_ne hK h37 hn h2 (by omega) (by omega)) (fun e => nomatch e) (fun _ => ⟨by have := hn Ds.length (Nat.le_refl _); rwa [List.drop_length] at this, hTc⟩)
      (fun _ => rfl) (fun _ e => absurd e hT) (by omega) ret
    rw [e0] at this
    exact this
end PartCISpec2
section PartLaw
theorem walk_plain_Law : True := by
  w_top off
  k_with_none
  trivial
section Law
theorem lines_Law_0 : True := by
  k_with_none
  k_with "eval IfExp" => ((with_reducible show wpAny _ _ _ (fun v s₁ => wpAny _ _ (storeName _ _ _) _ _ _) _ _); refine stopped ?_)
  trivial
local macro_rules | `(tactic| k_all) => `(tactic| first | exact List.forall_mem_nil _ | assumption | (refine' List.forall_mem_cons.mpr ⟨?a, ?b⟩; (case a => k_ne); (case b => k_all)))
theorem lines_Law_1 : True := by
  k_with "eval ListComp" => ((with_reducible show wpAny _ _ (eval (PySem.Expr.ListComp (PySem.Expr.Call (PySem.Expr.Name (Str.ofString "_law_form") _) _ _ _) _ _ _) _) _ _ _); refine stopped ?_)
  k_with "CompSrc" => ((with_reducible show LCg.CompSrc _ _ _ _ _ _ _ (PySem.Expr.Call (PySem.Expr.Name (Str.ofString "_law_form") _) _ _ _) _ _ _ _ _ _); refine stopped ?_)
  k_with "call ref" => ((with_reducible show wpAny _ _ (call (Value.ref 143) _) _ _ _); refine stopped ?_)
  k_with "exec If" => ((rename MarkIf => hMark); clear hMark; refine stopped ?_)
  k_with "call ref" => ((with_reducible show wpAny _ _ (call (Value.ref 148) _) _ _ _); refine stopped ?_)
  k_with "call ref" => ((with_reducible show wpAny _ _ (call (Value.ref 122) _) _ _ _); refine stopped ?_)
  k_with "call ref" => ((with_reducible show wpAny _ _ (call (Value.ref 155) _) _ _ _); refine stopped ?_)
  k_with "subscriptTail Name Slice ref ref" => (k_here; (with_reducible show wpAny _ _ (subscriptTail (PySem.Expr.Name (Str.ofString "pieces_own") _) (PySem.Expr.Slice none (some _) none _) (Value.ref _) (Value.ref _)) _ _ _); k_dflt (refine slice_upto (by k_asm) (by k_asm) (by exact News.isList (by k_asm) (by k_mem)) (by assumption) (by omega) ?_ (by with_unfolding_all rfl) (by kmk_pure)); intro D' h' F' N' l1; (try k_lt l1); (try k_sweep); (first | (revert D' h' F' N' l1; intro _ _ _ _ _) | (revert D' h' F' N'; intro _ _ _ _) | skip))
  k_with "exec While" => refine stopped ?_
  k_with "exec While Call cons nil" => refine stopped ?_
  trivial
local macro_rules | `(tactic| k_inst) => `(tactic| first | (refine' inst_news ?N ?h1 ?h2; (case N => k_asm); (case h1 => k_mem); (case h2 => k_mem)) | fail "not of the ledger")
theorem lines_Law_2 : True := by
  k_with "call ref" => (k_here; (with_reducible show wpAny _ _ (call (Value.ref 136) _) _ _ _); k_dflt (refine spec_ok (by k_asm) (by k_asm) (by k_asm) (by k_asm) (by k_asm) (by first | exact rfl | assumption) (by k_updF) (by k_mem) (by first | assumption | k_ne) (by assumption) (by assumption) (by omega) (by omega) (by first | omega | ktr_room) ?_); intro r' P' tl' n' t' k' h' tk' hP' hS' hoff' h0' h1' F' N'; (try dsimp only at N'); (try dsimp only at hoff'); (try dsimp only); (try k_sweep); (first | (revert r' P' tl' n' t' k' h' tk' hP' hS' hoff' h0' h1' F' N'; intro _ _ _ _ _ _ _ _ _ _ _ _ _ _ _) | (revert r' P' tl' n' t' k' h' tk' hP' hS' hoff' h0' h1' F'; intro _ _ _ _ _ _ _ _ _ _ _ _ _ _) | skip))
  trivial
theorem lines_Law_3 : True := by
  k_with "call ref" => ((with_reducible show wpAny _ _ (call (Value.ref 129) _) _ _ _); refine stopped ?_)
  k_with "call ref" => (k_here; (with_reducible show wpAny _ _ (call (Value.ref 129) _) _ _ _); k_dflt (refine draw_ok (by k_asm) (by k_asm) (by k_asm) (by k_asm) (by k_asm) (by first | exact rfl | assumption) (by k_updF) (by k_mem) (by first | assumption | k_ne) (by assumption) (by assumption) (by decide) (by decide) (by omega) (by omega) (by first | omega | ktr_room) ?_); intro v' tv' t' k' h' tk' h0' h1' F' N'; (try dsimp only at N'); (try dsimp only); (try k_sweep); (first | (revert v' tv' t' k' h' tk' h0' h1' F' N'; intro _ _ _ _ _ _ _ _ _ _) | (revert v' tv' t' k' h' tk' h0' h1' F'; intro _ _ _ _ _ _ _ _ _) | skip))
  trivial
set_option maxRecDepth 100000 in
set_option maxHeartbeats 2000000 in
theorem law_ok : Challenge.rw_on0061_01.Holds := by
  apply hd
  k_go0
  all_goals try k_fold
  k_steps
  unfold Stopped
  rename Shared => s₁
  rename (_ : Frag).In _ => KX
  rename Fr _ _ _ _ => F6
  rename IntsAre _ (List.map _ _) => hI8
  rename News _ _ _ _ => N6
  obtain ⟨ns, hns, hvl⟩ : ∃ ns, IntsAre _ ns ∧ ns.length ≤ 63 := ⟨_, hI8, by rw [List.length_map, List.length_take]; exact Nat.min_le_left _ _⟩
  k_dflt (refine' draw_ok ?B ?F ?X ?N ?T rfl ?hU ?hC ?hne hns hvl (by decide) (by decide) (Int.le_refl 0) (by decide) ?hdp ?_; (case B => k_asm); (case F => k_asm); (case X => k_asm); (case N => k_asm); (case T => k_asm); (case hU => k_updF); (case hC => k_mem); (case hne => k_ne))
  · ktr_room
  intro v1 tv1 t1 k1 h1 tk1 h0' h1' F7 N7
  try dsimp only at N7
  obtain ⟨x, tx, hx, hxx⟩ := table4 h0' h1'
  refine item_list (News.isList N7 (.head _)) h0' (by omega) hx ?_
  clear F6 N6
  k_steps
  unfold Stopped
  rename Fr _ _ _ _ => F8
  rename News _ _ _ _ => N8
  have N9 := pick6 N8
  clear N8
  rename _ < (4 : Int) => hr1
  rename _ < (6 : Int) => hw1
  refine par_cut F8 N9 ?_ ?_
  · have h3 := four_ways (by assumption) hr1
    rcases h3 with rfl | rfl | rfl | rfl
    · k_steps
      rename News _ _ _ _ => NX
      refine ParPost.intro (tl := [_]) (by assumption) NX (.tail _ (.head _)) (fun p hp => .tail _ (.tail _ hp)) (fun p hp => by rw [List.mem_singleton.mp hp]; exact .head _) (.sym (.head _)) .nil (by omega) (by omega) fun p hp => by rw [List.mem_singleton.mp hp]; k_ne
    · k_steps
      rename News _ _ _ _ => NX
      refine ParPost.intro (tl := [_, _, _]) (by assumption) NX (.tail _ (.tail _ (.tail _ (.tail _ (.head _))))) (fun p hp => .tail _ (.tail _ (.tail _ (.tail _ (.tail _ hp))))) (three_in) (.list (.head _) (.tail _ (.head _)) (.cons (.sym (.tail _ (.tail _ (.head _)))) .nil) .none) .one (by omega) (by omega) (List.forall_mem_cons.mpr ⟨by k_ne, List.forall_mem_cons.mpr ⟨by k_ne, List.forall_mem_cons.mpr ⟨by k_ne, List.forall_mem_nil _⟩⟩⟩)
    · k_steps
      rename News _ _ _ _ => NX
      refine ParPost.intro (tl := [_, _, _]) (by assumption) NX (.tail _ (.tail _ (.tail _ (.tail _ (.head _))))) (fun p hp => .tail _ (.tail _ (.tail _ (.tail _ (.tail _ hp))))) (three_in) (.list (.head _) (.tail _ (.head _)) (.cons (.sym (.tail _ (.tail _ (.head _)))) (.cons (.sym (.tail _ (.tail _ (.head _)))) .nil)) .none) .two (by omega) (by omega) (List.forall_mem_cons.mpr ⟨by k_ne, List.forall_mem_cons.mpr ⟨by k_ne, List.forall_mem_cons.mpr ⟨by k_ne, List.forall_mem_nil _⟩⟩⟩)
    · k_steps
      refine ParPost.intro (by assumption) (by assumption) (List.mem_append.mpr (.inr (.head _))) (fun p hp => List.mem_append.mpr (.inr (.tail _ hp))) (fun p hp => List.mem_append.mpr (.inl hp)) (by assumption) (.spec (by assumption)) (by omega) (by omega) fun p hp => off_use (by assumption) hp (.head _)
  intro P tl n t k v h9 tk9 hP hok hn0 hn1 hoff F10 N10
  clear F8 N9
  simp only [List.cons_append, List.nil_append] at N10
  k_steps
  unfold Stopped
  rename Fr _ _ _ _ => F11
  rename News _ _ _ _ => N11
  k_dflt (refine LCg.ListComp_U (F₀ := by k_asm) (by with_unfolding_all rfl) (by decide) (by rfl) (by decide) (by rfl) ?_)
  k_steps
  unfold Stopped
  rename Fr _ _ _ _ => F12
  rename News _ _ _ _ => N12
  rename IsRange _ _ _ _ _ _ _ _ => hrg
  refine comp_forms rfl F12 N12 hrg (by assumption) (by assumption) ?_ (by omega) (by omega) ?_ ?_
  · k_all
  · rintro sx i ys nx hi ⟨n, t, k, ps, tl2, rfl, hPs, hFm, hlen, hn0, hn1, hoffs⟩ v I oI C oC D m₂ h tk E' hC hx F N off ne
    simp only [List.cons_append] at N
    have off2 := off.mem
    k_steps
    unfold Stopped
    k_dflt (refine form_ok (by k_asm) (by k_asm) (by k_asm) (by k_asm) (by k_asm) rfl (UpdF.tail (off2 _ (.head _)).1.symm (UpdF.tail (off2 _ (.head _)).2.1.symm (UpdF.tail (off2 _ (.head _)).2.2.symm (UpdF.head (by simpa only [List.cons_append] using hoffs))))) (by k_mem) (by k_ne) hns hvl hn0 (by omega) ?_ ?_)
    · ktr_room
    intro r3 P3 tl3 n3 t3 k3 h3 tk3 hP3 hF3 hoff3 hn3 hn3' F3 N3
    refine LCg.CompEnd.intro F3 N3 _ ?_ (LCg.Off3.of fun p hp => ?_) trivial ⟨n3, t3, k3, ps ++ [P3], tl3 ++ tl2, rfl, plsR_snoc (hPs.mono fun p hp => List.mem_append.mpr (.inr hp)) (hP3.mono fun p hp => List.mem_append.mpr (.inl hp)), ?_, ?_, ?_, ?_, ?_⟩
    · intro p hp
      simp only [List.cons_append, List.mem_append, List.mem_cons] at hp ⊢
      rcases hp with h | h | h | h | h | h | h | h | h | h | h <;> simp only [h, true_or, or_true]
    · exact off_three off2 hoff3 p hp
    · intro p hp
      rcases List.mem_append.mp hp with h | h
      · exact hFm p h
      · rw [List.mem_singleton.mp h]; exact hF3
    · rw [List.length_append, hlen]; rfl
    · omega
    · omega
    · exact off_deck hoffs hoff3 (.tail _ (.tail _ (.tail _ (.head _))))
  · intro ys n t k ps tl2 D h tk hPs hFm hps hn0 hn1 F N hof hDne hDof
    clear F12 N12
    k_steps
    refine kmk_add_lit F N (News.isList N (.tail _ (.tail _ (.head _)))) (News.isList N (.head _)) (zs := _ :: _ :: ys) rfl ?_ ?_
    rotate_left
    · exact ys_room hPs hps
    intro lp h4 F4 N4 l4
    k_lt l4
    have hMark : MarkIf := .intro
    k_steps
    unfold Stopped
    rename Fr _ _ _ _ => F5
    rename News _ _ _ _ => N5a
    have N5 := pick_pcs N5a
    clear N5a
    have hPI := pcs_in N5 hP hPs
    have hips := pcs_ok hxx hok hFm
    have hpz := pls_small hPI hps
    have h37o : ∃ o, s₁.heap.get? 37 = some o := ⟨_, KX 37 _ (by k_is)⟩
    rcases way_cases (by assumption) hw1 with rfl | rfl | rfl | rfl | rfl | rfl
    · k_steps
      unfold Stopped
      rename Fr _ _ _ _ => F6
      rename News _ _ _ _ => N6
      k_dflt (refine dat_ok (.list (Pl.ofList (.sym x :: P :: ps)) .nil) (by k_asm) F6 (by k_asm) N6 (by k_asm) rfl (old_news N6) (.list (.head _) (.tail _ (.tail _ (.head _))) (hPI.mono fun p hp => .tail _ (.tail _ hp)) .none) (whole_txt hips (by simp; try omega) trivial) ?_ ?_)
      · have hht := whole_ht (T := .nil) hips (by simp [Pl.ht])
        ktr_room
      intro r tl5 h5 tk5 hR5 hf5 F7 N7
      rw [whole_sem] at hR5
      obtain ⟨K5, hRK, NK⟩ : ∃ K5, LspR K5 r _ ∧ News _ _ _ K5 := ⟨_, hR5, N7⟩
      clear hR5 N7 N6
      obtain ⟨node, car, e0, hch, hn, hs⟩ := lsp_chain hRK
      have hlD : ((Pl.sym x :: P :: ps).map fun p => p.sem.1).length = (ps.length + 1) + 1 := by simp
      rw [hlD] at hch hn
      subst e0
      k_steps
      unfold Stopped
      rename Fr _ _ _ _ => F8
      rename News _ _ _ _ => N8
      refine while_one (S "last") node (ps.length + 1) F8 N8 rfl ?_
      intro i h9 tk9 hi F9 N9
      obtain ⟨y, dy, g1, g2, u1, u2, ny, ey, q1, q2, q3, q4⟩ := hch i (by omega)
      rw [ey] at F9
      by_cases hik : i < ps.length + 1
      · obtain ⟨z, dz, g3, g4, u3, u4, nz, ez, r1, r2, r3, r4⟩ := hch (i + 1) (by omega)
        rw [ez] at q2
        k_steps
        refine ⟨_, _, rfl, fr_last (by assumption) ez, by assumption, by omega⟩
      · have hie : i = ps.length + 1 := by omega
        subst hie
        have eN : node (ps.length + 1 + 1) = .ref 37 := by
          have := hn _ (Nat.le_refl _)
          rw [List.drop_of_length_le (Nat.le_of_eq hlD)] at this
          exact lsp_nil_end this
        have O9 := old_news N9
        have hyd := inst_not_dict O9 q1 q2
        have h37K := news_ne37 N9 h37o
        obtain ⟨rest, NR, hne, hin⟩ := news_split N9 q2
        have q1r := hin _ q1 hyd
        have q2' := q2
        rw [eN] at q2 NR
        clear N9 N8
        k_steps
        rename Fr _ _ _ _ => FF
        k_dflt (refine' set_dict (es := [⟨g1, .str (S "car") u1, car (ps.length + 1)⟩, ⟨g2, .str (S "cdr") u2, .ref 37⟩]) (es' := [⟨g1, .str (S "car") u1, car (ps.length + 1)⟩, ⟨g2, .str (S "cdr") u2, node 0⟩]) (n' := ny) (C := 55) (dx := dy) ?k1 ?k2 ?k3 ?k4 ?k5 ?k6 ?k7 ?k8 ?k9 ?k10 ?k11 ?k12 ?k13 ?_)
        case k1 => exact FF
        case k2 => k_asm
        case k3 => exact NR
        case k4 => exact inst_news NR (.tail _ q1r) (.head _)
        case k5 => exact rfl
        case k6 => k_is
        case k7 => k_is
        case k8 => k_is
        case k9 => k_is
        case k10 => k_get
        case k11 => exact put_cdr _ _ _ _ _ _ _ _ _ _
        case k12 => exact Upd.head hne
        case k13 => exact Nat.le_of_ble_eq_true rfl
        intro h11 F11 N11
        clear NR FF
        k_steps
        unfold Stopped
        rename Fr _ _ _ _ => F12
        rename News _ _ _ _ => N12
        obtain ⟨hC2, hS2, hR2⟩ := ring_chain (K := K5) (K' := (dy, dictOf [⟨g1, .str (S "car") u1, car (ps.length + 1)⟩, ⟨g2, .str (S "cdr") u2, node 0⟩] ny) :: rest) (T := .nil) (Ds := (Pl.sym x :: P :: ps).map fun p => p.sem.1) (k := ps.length + 1) O9 h37K (by rw [hlD]; exact hch) (by rw [hlD]; exact hn) hlD ey q1 q2' (fun p hp hne => .tail _ (hin p hp hne)) (.head _)
        k_dflt (refine ispec_chain (node := fun i => node (i % (ps.length + 1 + 1))) (rg := true) (res := none) (D := .nil) (Ds := []) (by k_asm) F12 (by k_asm) N12 (by k_asm) rfl (old_news N12) (news_ne37 N12 h37o) hC2 (by omega) (by omega) hS2 hR2 (fun h => nomatch h) (fun _ => rfl) (fun h => nomatch h) ?_ ?_)
        · ktr_room
        intro r2 tl6 h6 tk6 hov2 hf6 FB NB
        cases hov2
        k_steps
        unfold Stopped
        rename Fr _ _ _ _ => FC
        rename News _ _ _ _ => NC
        k_dflt (refine due_false (by k_asm) FC (by k_asm) NC (by k_asm) rfl ?_ ?_)
        · ktr_room
        intro tl7 h7 tk7 hf7 FD ND
        k_steps
    · k_steps
      unfold Stopped
      rename Fr _ _ _ _ => F6
      rename News _ _ _ _ => N6
      k_dflt (refine dat_ok (.list (Pl.ofList (.sym x :: P :: ps)) (.whole 3)) (by k_asm) F6 (by k_asm) N6 (by k_asm) rfl (old_news N6) (.list (.head _) (.tail _ (.tail _ (.tail _ (.head _)))) (hPI.mono fun p hp => .tail _ (.tail _ (.tail _ hp))) (.some (.whole (.tail _ (.head _))))) (whole_txt hips (by simp; omega) trivial) ?_ ?_)
      · have hht := whole_ht (T := .whole 3) hips (by simp [Pl.ht])
        ktr_room
      intro r tl5 h5 tk5 hR5 hf5 F7 N7
      k_steps
      unfold Stopped
      rename Fr _ _ _ _ => F8
      rename News _ _ _ _ => N8
      k_dflt (refine ispec_data (by k_asm) F8 (by k_asm) N8 (by k_asm) rfl (old_news N8) (news_ne37 N8 h37o) hR5 (whole_dotted (by simp; omega)) ?_ ?_)
      · ktr_room
      intro r2 tl6 h6 tk6 hov2 hf6 F9 N9
      cases hov2
      k_steps
      unfold Stopped
      rename Fr _ _ _ _ => FA
      rename News _ _ _ _ => NA
      k_dflt (refine due_false (by k_asm) FA (by k_asm) NA (by k_asm) rfl ?_ ?_)
      · ktr_room
      intro tl7 h7 tk7 hf7 FB NB
      k_steps
    · k_steps
      unfold Stopped
      rename Fr _ _ _ _ => F6
      rename News _ _ _ _ => N6
      rename _ < (2 : Int) => hv2
      rcases two_ways (by assumption) hv2 with rfl | rfl
      · have hips1 : ∀ p ∈ [Pl.sym x], PcOk p := all1 (head_pc hxx)
        k_dflt (refine dat_ok (.list (Pl.ofList [.sym x]) .nil) (by k_asm) F6 (by k_asm) N6 (by k_asm) rfl (old_news N6) (.list (.head _) (.tail _ (.head _)) ((plsR_one hPI).mono fun p hp => .tail _ (.tail _ (.tail _ hp))) .none) (whole_txt hips1 (by simp; try omega) trivial) ?_ ?_)
        · have hht := whole_ht (T := .nil) hips1 (by simp [Pl.ht])
          ktr_room
        intro r tl5 h5 tk5 hR5 hf5 F7 N7
        k_steps
        unfold Stopped
        rename Fr _ _ _ _ => F8
        rename News _ _ _ _ => N8
        k_dflt (refine ispec_data (by k_asm) F8 (by k_asm) N8 (by k_asm) rfl (old_news N8) (news_ne37 N8 h37o) hR5 (whole_shape hxx hips1 (by simp; try omega) (fun _ h => nomatch h)) ?_ ?_)
        · ktr_room
        intro r2 tl6 h6 tk6 hov2 hf6 F9 N9
        k_steps
        unfold Stopped
        rename Fr _ _ _ _ => FA
        rename News _ _ _ _ => NA
        k_dflt (refine due_ok (ip := true) (by k_asm) FA (by k_asm) NA (by k_asm) rfl (old_news NA) (List.mem_append.mpr (.inr (List.mem_append.mpr (.inr (.tail _ (.head _)))))) ((plsR_one hPI).mono fun p hp => List.mem_append.mpr (.inr (List.mem_append.mpr (.inr (.tail _ (.tail _ (.tail _ hp))))))) ?_ ?_ ?_ (head_txt hxx).2.2.2.2 ?_ ?_ ?_)
        · exact Nat.le_trans (Nat.le_of_eq (plsR_lst (plsR_one hPI))) (by rw [ofList_lst]; simp; try omega)
        · intro p hp
          rw [ofList_lst] at hp
          exact (hips1 p hp).2.2.2
        · rw [ofList_lst]; rfl
        · first | (simp only [units_deeper, units_caller, cLine_is]; done) | decide | (simp only [cLine_is]; decide)
        · ktr_room
        intro r3 tl7 h7 tk7 hov3 hf7 FB NB
        rw [if_pos rfl, ofList_lst] at hov3
        generalize dueOf [.sym x] = res at hov2 hov3
        cases hov2 <;> cases hov3
        · k_steps
        · k_steps
      · have hips1 : ∀ p ∈ [Pl.sym x, P], PcOk p := all2 (head_pc hxx) (par_txt hok)
        k_dflt (refine dat_ok (.list (Pl.ofList [.sym x, P]) .nil) (by k_asm) F6 (by k_asm) N6 (by k_asm) rfl (old_news N6) (.list (.head _) (.tail _ (.head _)) ((plsR_two hPI).mono fun p hp => .tail _ (.tail _ (.tail _ hp))) .none) (whole_txt hips1 (by simp; try omega) trivial) ?_ ?_)
        · have hht := whole_ht (T := .nil) hips1 (by simp [Pl.ht])
          ktr_room
        intro r tl5 h5 tk5 hR5 hf5 F7 N7
        k_steps
        unfold Stopped
        rename Fr _ _ _ _ => F8
        rename News _ _ _ _ => N8
        k_dflt (refine ispec_data (by k_asm) F8 (by k_asm) N8 (by k_asm) rfl (old_news N8) (news_ne37 N8 h37o) hR5 (whole_shape hxx hips1 (by simp; try omega) (fun _ h => nomatch h)) ?_ ?_)
        · ktr_room
        intro r2 tl6 h6 tk6 hov2 hf6 F9 N9
        k_steps
        unfold Stopped
        rename Fr _ _ _ _ => FA
        rename News _ _ _ _ => NA
        k_dflt (refine due_ok (ip := true) (by k_asm) FA (by k_asm) NA (by k_asm) rfl (old_news NA) (List.mem_append.mpr (.inr (List.mem_append.mpr (.inr (.tail _ (.head _)))))) ((plsR_two hPI).mono fun p hp => List.mem_append.mpr (.inr (List.mem_append.mpr (.inr (.tail _ (.tail _ (.tail _ hp))))))) ?_ ?_ ?_ (head_txt hxx).2.2.2.2 ?_ ?_ ?_)
        · exact Nat.le_trans (Nat.le_of_eq (plsR_lst (plsR_two hPI))) (by rw [ofList_lst]; simp; try omega)
        · intro p hp
          rw [ofList_lst] at hp
          exact (hips1 p hp).2.2.2
        · rw [ofList_lst]; rfl
        · first | (simp only [units_deeper, units_caller, cLine_is]; done) | decide | (simp only [cLine_is]; decide)
        · ktr_room
        intro r3 tl7 h7 tk7 hov3 hf7 FB NB
        rw [if_pos rfl, ofList_lst] at hov3
        generalize dueOf [.sym x, P] = res at hov2 hov3
        cases hov2 <;> cases hov3
        · k_steps
        · k_steps
    · k_steps
      unfold Stopped
      rename Fr _ _ _ _ => F6
      rename News _ _ _ _ => N6
      k_dflt (refine form_ok (by k_asm) F6 (by k_asm) N6 (by k_asm) rfl (UpdF.head (by k_all)) (.tail _ (.tail _ (.head _))) (by k_ne) hns hvl (by omega) (by omega) ?_ ?_)
      · ktr_room
      intro r3 P3 tl3 n3 t3 k3 h3 tk3 hP3 hF3 hoff3 hn3 hn3' F7 N7
      k_steps
      unfold Stopped
      rename Fr _ _ _ _ => F8
      rename News _ _ _ _ => N8
      obtain ⟨f1, f2, f3, f4⟩ := form_txt hF3
      k_dflt (refine dat_ok P3 (by k_asm) F8 (by k_asm) N8 (by k_asm) rfl (old_news N8) (hP3.mono fun p hp => List.mem_append.mpr (.inl hp)) f1 ?_ ?_)
      · ktr_room
      intro r tl5 h5 tk5 hR5 hf5 F9 N9
      k_steps
      unfold Stopped
      rename Fr _ _ _ _ => FA
      rename News _ _ _ _ => NA
      k_dflt (refine ispec_data (by k_asm) FA (by k_asm) NA (by k_asm) rfl (old_news NA) (news_ne37 NA h37o) hR5 (form_shape hF3) ?_ ?_)
      · ktr_room
      intro r2 tl6 h6 tk6 hov2 hf6 FB NB
      cases hov2
      k_steps
    · k_steps
      unfold Stopped
      rename Fr _ _ _ _ => F6
      rename News _ _ _ _ => N6
      k_dflt (refine dat_ok (.list (Pl.ofList (.sym x :: P :: ps)) .nil) (by k_asm) F6 (by k_asm) N6 (by k_asm) rfl (old_news N6) (.list (.head _) (.tail _ (.tail _ (.head _))) (hPI.mono fun p hp => .tail _ (.tail _ hp)) .none) (whole_txt hips (by simp; try omega) trivial) ?_ ?_)
      · have hht := whole_ht (T := .nil) hips (by simp [Pl.ht])
        ktr_room
      intro r tl5 h5 tk5 hR5 hf5 F7 N7
      k_steps
      unfold Stopped
      rename Fr _ _ _ _ => F8
      rename News _ _ _ _ => N8
      k_dflt (refine ispec_data (by k_asm) F8 (by k_asm) N8 (by k_asm) rfl (old_news N8) (news_ne37 N8 h37o) hR5 (whole_shape hxx hips (by simp; try omega) hFm) ?_ ?_)
      · ktr_room
      intro r2 tl6 h6 tk6 hov2 hf6 F9 N9
      k_steps
      unfold Stopped
      rename Fr _ _ _ _ => FA
      rename News _ _ _ _ => NA
      k_dflt (refine due_ok (ip := true) (by k_asm) FA (by k_asm) NA (by k_asm) rfl (old_news NA) (List.mem_append.mpr (.inr (List.mem_append.mpr (.inr (.tail _ (.tail _ (.head _))))))) (hPI.mono fun p hp => List.mem_append.mpr (.inr (List.mem_append.mpr (.inr (.tail _ (.tail _ hp)))))) ?_ ?_ ?_ (head_txt hxx).2.2.2.2 ?_ ?_ ?_)
      · exact Nat.le_trans (Nat.le_of_eq (plsR_lst hPI)) (by rw [ofList_lst]; simp; try omega)
      · intro p hp
        rw [ofList_lst] at hp
        exact (hips p hp).2.2.2
      · rw [ofList_lst]; rfl
      · first | (simp only [units_deeper, units_caller, cLine_is]; done) | decide | (simp only [cLine_is]; decide)
      · ktr_room
      intro r3 tl7 h7 tk7 hov3 hf7 FB NB
      rw [if_pos rfl, ofList_lst] at hov3
      generalize dueOf (.sym x :: P :: ps) = res at hov2 hov3
      cases hov2 <;> cases hov3
      · k_steps
      · k_steps
    · k_steps
      unfold Stopped
      rename Fr _ _ _ _ => F6
      rename News _ _ _ _ => N6
      k_dflt (refine dat_ok (.list (Pl.ofList (.sym x :: P :: ps)) .nil) (by k_asm) F6 (by k_asm) N6 (by k_asm) rfl (old_news N6) (.list (.head _) (.tail _ (.tail _ (.head _))) (hPI.mono fun p hp => .tail _ (.tail _ hp)) .none) (whole_txt hips (by simp; try omega) trivial) ?_ ?_)
      · have hht := whole_ht (T := .nil) hips (by simp [Pl.ht])
        ktr_room
      intro r tl5 h5 tk5 hR5 hf5 F7 N7
      k_steps
      unfold Stopped
      rename Fr _ _ _ _ => F8
      rename News _ _ _ _ => N8
      k_dflt (refine ispec_data (by k_asm) F8 (by k_asm) N8 (by k_asm) rfl (old_news N8) (news_ne37 N8 h37o) hR5 (whole_shape hxx hips (by simp; try omega) hFm) ?_ ?_)
      · ktr_room
      intro r2 tl6 h6 tk6 hov2 hf6 F9 N9
      k_steps
      unfold Stopped
      rename Fr _ _ _ _ => FA
      rename News _ _ _ _ => NA
      k_dflt (refine due_ok (ip := true) (by k_asm) FA (by k_asm) NA (by k_asm) rfl (old_news NA) (List.mem_append.mpr (.inr (List.mem_append.mpr (.inr (.tail _ (.tail _ (.head _))))))) (hPI.mono fun p hp => List.mem_append.mpr (.inr (List.mem_append.mpr (.inr (.tail _ (.tail _ hp)))))) ?_ ?_ ?_ (head_txt hxx).2.2.2.2 ?_ ?_ ?_)
      · exact Nat.le_trans (Nat.le_of_eq (plsR_lst hPI)) (by rw [ofList_lst]; simp; try omega)
      · intro p hp
        rw [ofList_lst] at hp
        exact (hips p hp).2.2.2
      · rw [ofList_lst]; rfl
      · first | (simp only [units_deeper, units_caller, cLine_is]; done) | decide | (simp only [cLine_is]; decide)
      · ktr_room
      intro r3 tl7 h7 tk7 hov3 hf7 FB NB
      rw [if_pos rfl, ofList_lst] at hov3
      generalize dueOf (.sym x :: P :: ps) = res at hov2 hov3
      cases hov2 <;> cases hov3
      · k_steps
      · k_steps
end Law
end PartLaw
end Walks
end Mine
set_option maxRecDepth 100000 in
set_option maxHeartbeats 8000000 in
theorem PySem.Challenge.cw_on0061_01_holds : PySem.Challenge.rw_on0061_01.Holds :=
  Mine.law_ok
