import PyProof.Rows.All
import Wide.All
import OpenK.AllK
import Wide.FinOn
import HandS.ForMost
import HandS.Exc
import HandS.ExcOwn
import HandS.HeadHook1
import HandS.TupAny
import HandS.TupMul
import HandS.Wide
import HandS.More
import HandS.SetFor
import HandS.Deep
import HandS.Property
import HandS.TupLe
import HandS.IsInst
import HandS.Iter
import HandS.DictComp
import HandS.SortInts
import HandS.WordsDict
import HandS.RaiseMore
import HandS.Text
import HandS.Conv
import PyProof.ReprRoads
import PyProof.Rows.SortShellAny
import HandS.Small
import HandS.ClsMeth
import KE.DataFind
import KE.DataMinMax
import KE.SortCalls
import PyProof.ExcBaseAll.ValueError
import HandS.Style
import HandS.HeadHook2
import KE.KStateDown
import HandS.Head0
import HandS.Head1
import HandS.Head2
import HandS.HeadEnd
import HandS.EndBits
import PySem.Challenge.RW_halfblocks_k03_halves_and_parents
set_option Elab.async false
set_option linter.all false
set_option maxRecDepth 100000
/-! MP, part 1: values without tuples' addresses, cells, how they stand in the abstract heap. -/
namespace MP
open PySem PySem.Spec PyProof.Rows L2
/-- the program's classes, its instances' fields -/
inductive Cn where
  | Store | Layout | Plan | State | History | Board | Shell
  | BlockError | ParseError | NoRoom | Barrier | Conflict | Overlap
  | InvalidStore | InvalidPlace | InvalidSize | InvalidLayout | InvalidCell | UnknownBlock | InvalidMove | InvalidMoves | Mismatch | PlanFinished | NothingToUndo
  | InvalidName | DuplicateName | UnknownName | UnknownMark | InvalidCommand | InvalidLine | InvalidValue | InvalidNumber
  deriving DecidableEq
inductive Fd where
  | count | ground | places_by_name | owners | row | states | place | content | held | earlier | state | entries | marks | events | board | line | left | block | pair
  deriving DecidableEq
def Cn.nm : Cn → Str
  | .Store => "Store" | .Layout => "Layout" | .Plan => "Plan" | .State => "State" | .History => "History" | .Board => "Board" | .Shell => "Shell"
  | .BlockError => "BlockError" | .ParseError => "ParseError" | .NoRoom => "NoRoom" | .Barrier => "Barrier" | .Conflict => "Conflict" | .Overlap => "Overlap"
  | .InvalidStore => "InvalidStore" | .InvalidPlace => "InvalidPlace" | .InvalidSize => "InvalidSize" | .InvalidLayout => "InvalidLayout" | .InvalidCell => "InvalidCell"
  | .UnknownBlock => "UnknownBlock" | .InvalidMove => "InvalidMove" | .InvalidMoves => "InvalidMoves" | .Mismatch => "Mismatch" | .PlanFinished => "PlanFinished"
  | .NothingToUndo => "NothingToUndo" | .InvalidName => "InvalidName" | .DuplicateName => "DuplicateName" | .UnknownName => "UnknownName" | .UnknownMark => "UnknownMark"
  | .InvalidCommand => "InvalidCommand" | .InvalidLine => "InvalidLine" | .InvalidValue => "InvalidValue" | .InvalidNumber => "InvalidNumber"
def Fd.nm : Fd → Str
  | .count => "count" | .ground => "ground" | .places_by_name => "places_by_name" | .owners => "owners" | .row => "row" | .states => "states" | .place => "place"
  | .content => "content" | .held => "held" | .earlier => "earlier" | .state => "state" | .entries => "entries" | .marks => "marks" | .events => "events" | .board => "board"
  | .line => "line" | .left => "left" | .block => "block" | .pair => "pair"
def Fd.all : List Fd := [.count, .ground, .places_by_name, .owners, .row, .states, .place, .content, .held, .earlier, .state, .entries, .marks, .events, .board, .line, .left, .block, .pair]
theorem Fd.mem_all (f : Fd) : f ∈ Fd.all := by cases f <;> decide
theorem Fd.inj {f g : Fd} (h : f.nm = g.nm) : f = g := by
  have key : (Fd.all.all fun f => Fd.all.all fun g => !decide (f.nm = g.nm) || decide (f = g)) = true := by decide +kernel
  have k1 := List.all_eq_true.mp (List.all_eq_true.mp key f f.mem_all) g g.mem_all
  rw [decide_eq_true h] at k1
  exact of_decide_eq_true (by simpa using k1)
/-- a value; a tuple is a value, whatever its address -/
inductive Vl where
  | non | bl (b : Bool) | int (i : Int) | str (x : Str) | tup (xs : List Vl) | ref (a : Addr) | kl (a : Addr) (xs : List Vl)
/-- what stands at an address: a list, a dict, a dict that is walked, an instance, an exception -/
abbrev LTok := Obj × List (Key × V)
inductive Cl where
  | lst (xs : List Vl) | dct (kvs : List (Key × Vl)) | lk (t : LTok) (kvs : List (Key × Vl)) | ins (c : Cn) (fs : List (Fd × Vl)) | exc (c : Cn) (fs : List (Fd × Vl))
abbrev Gp := Addr → Option Cl
def gup (g : Gp) (a : Addr) (c : Cl) : Gp := fun b => if b = a then some c else g b
theorem gup_same {g : Gp} {a : Addr} {c : Cl} : gup g a c a = some c := by unfold gup; rw [if_pos rfl]
theorem gup_ne {g : Gp} {a b : Addr} {c : Cl} (h : b ≠ a) : gup g a c b = g b := by unfold gup; rw [if_neg h]
section
variable (K : PySem.W.Frag)
/-- a list that is only read: locked, or of the written part -/
def RL (H : Hp) (a : Addr) (vs : List V) : Prop := (∃ o, H a = some (.frz o (.lst vs))) ∨
  ∃ (o : Obj) (its : Array Value) (n : Nat), K.lookup a = some o ∧ o.cls = .type "list" ∧ o.dict = none ∧ o.data = .seq its n ∧ its.size ≤ sizeLine ∧ Vals vs its.toList
mutual
def RV (H : Hp) : Vl → V → Prop
  | .non, v => v = .non
  | .bl b, v => v = .bl b
  | .int i, v => v = .int i
  | .str x, v => v = .str x
  | .ref a, v => v = .ref a
  | .tup xs, v => ∃ a vs, v = .ref a ∧ SqT K H a vs ∧ RVs H xs vs
  | .kl a xs, v => ∃ vs, v = .ref a ∧ RL K H a vs ∧ RVs H xs vs
def RVs (H : Hp) : List Vl → List V → Prop
  | [], vs => vs = []
  | x :: xs, vs => ∃ y ys, vs = y :: ys ∧ RV H x y ∧ RVs H xs ys
end
/-- pairs with keys -/
def RKs {κ : Type} (H : Hp) : List (κ × Vl) → List (κ × V) → Prop
  | [], es => es = []
  | p :: r, es => ∃ y ys, es = (p.1, y) :: ys ∧ RV K H p.2 y ∧ RKs H r ys
/-- fields -/
def RFs (H : Hp) : List (Fd × Vl) → List (Str × V) → Prop
  | [], es => es = []
  | p :: r, es => ∃ y ys, es = (p.1.nm, y) :: ys ∧ RV K H p.2 y ∧ RFs H r ys
/-- tuples stay, and lists that are only read -/
def Tx (H H' : Hp) : Prop := (∀ a vs, SqT K H a vs → SqT K H' a vs) ∧ ∀ a vs, RL K H a vs → RL K H' a vs
end
section
variable {K : PySem.W.Frag} {H H' H'' : Hp}
theorem Tx.refl : Tx K H H := ⟨fun _ _ h => h, fun _ _ h => h⟩
theorem Tx.trans (a : Tx K H H') (b : Tx K H' H'') : Tx K H H'' := ⟨fun x vs h => b.1 x vs (a.1 x vs h), fun x vs h => b.2 x vs (a.2 x vs h)⟩
mutual
theorem RV.mono (t : Tx K H H') : ∀ {x : Vl} {v : V}, RV K H x v → RV K H' x v
  | .non, _, h => h
  | .bl _, _, h => h
  | .int _, _, h => h
  | .str _, _, h => h
  | .ref _, _, h => h
  | .tup xs, v, h => by
    obtain ⟨a, vs, e, s, r⟩ := h
    exact ⟨a, vs, e, t.1 a vs s, RVs.mono t r⟩
  | .kl a xs, v, h => by
    obtain ⟨vs, e, s, r⟩ := h
    exact ⟨vs, e, t.2 a vs s, RVs.mono t r⟩
theorem RVs.mono (t : Tx K H H') : ∀ {xs : List Vl} {vs : List V}, RVs K H xs vs → RVs K H' xs vs
  | [], _, h => h
  | x :: xs, vs, h => by
    obtain ⟨y, ys, e, r, rs⟩ := h
    exact ⟨y, ys, e, RV.mono t r, RVs.mono t rs⟩
end
theorem RKs.mono {κ : Type} (t : Tx K H H') : ∀ {xs : List (κ × Vl)} {vs : List (κ × V)}, RKs K H xs vs → RKs K H' xs vs
  | [], _, h => h
  | p :: r, es, h => by
    obtain ⟨y, ys, e, q, rs⟩ := h
    exact ⟨y, ys, e, q.mono t, RKs.mono t rs⟩
theorem RFs.mono (t : Tx K H H') : ∀ {xs : List (Fd × Vl)} {vs : List (Str × V)}, RFs K H xs vs → RFs K H' xs vs
  | [], _, h => h
  | p :: r, es, h => by
    obtain ⟨y, ys, e, q, rs⟩ := h
    exact ⟨y, ys, e, q.mono t, RFs.mono t rs⟩
theorem RVs.length : ∀ {xs : List Vl} {vs : List V}, RVs K H xs vs → vs.length = xs.length
  | [], _, h => by
    have e : _ = [] := h
    rw [e] <;> rfl
  | x :: xs, vs, h => by
    obtain ⟨y, ys, e, r, rs⟩ := h
    rw [e, List.length_cons, List.length_cons, RVs.length rs]
theorem RVs.nil : RVs K H [] [] := rfl
theorem RVs.cons {x : Vl} {v : V} {xs : List Vl} {vs : List V} (r : RV K H x v) (rs : RVs K H xs vs) : RVs K H (x :: xs) (v :: vs) := ⟨v, vs, rfl, r, rs⟩
theorem RVs.append : ∀ {xs ys : List Vl} {vs us : List V}, RVs K H xs vs → RVs K H ys us → RVs K H (xs ++ ys) (vs ++ us)
  | [], ys, vs, us, h, h' => by
    have e : vs = [] := h
    subst e
    exact h'
  | x :: xs, ys, vs, us, h, h' => by
    obtain ⟨y, zs, e, r, rs⟩ := h
    subst e
    exact ⟨y, zs ++ us, rfl, r, RVs.append rs h'⟩
theorem RVs.get : ∀ {xs : List Vl} {vs : List V} {i : Nat} {x : Vl}, RVs K H xs vs → xs[i]? = some x → ∃ v, vs[i]? = some v ∧ RV K H x v
  | [], _, _, _, _, e => by simp at e
  | y :: ys, vs, 0, x, h, e => by
    obtain ⟨v, us, e1, r, rs⟩ := h
    subst e1
    simp at e
    subst e
    exact ⟨v, rfl, r⟩
  | y :: ys, vs, i + 1, x, h, e => by
    obtain ⟨v, us, e1, r, rs⟩ := h
    subst e1
    obtain ⟨w, e2, r2⟩ := RVs.get (i := i) rs (by simpa using e)
    exact ⟨w, by simpa using e2, r2⟩
theorem RVs.get' : ∀ {xs : List Vl} {vs : List V} {i : Nat} {v : V}, RVs K H xs vs → vs[i]? = some v → ∃ x, xs[i]? = some x ∧ RV K H x v
  | [], vs, _, _, h, e => by
    have e1 : vs = [] := h
    subst e1
    simp at e
  | y :: ys, vs, 0, v, h, e => by
    obtain ⟨w, us, e1, r, rs⟩ := h
    subst e1
    simp at e
    subst e
    exact ⟨y, rfl, r⟩
  | y :: ys, vs, i + 1, v, h, e => by
    obtain ⟨w, us, e1, r, rs⟩ := h
    subst e1
    obtain ⟨x, e2, r2⟩ := RVs.get' (i := i) rs (by simpa using e)
    exact ⟨x, by simpa using e2, r2⟩
theorem RVs.set : ∀ {xs : List Vl} {vs : List V} {i : Nat} {x : Vl} {v : V}, RVs K H xs vs → RV K H x v → RVs K H (xs.set i x) (vs.set i v)
  | [], vs, _, _, _, h, _ => by
    have e1 : vs = [] := h
    subst e1
    exact rfl
  | y :: ys, vs, 0, x, v, h, r => by
    obtain ⟨w, us, e1, r1, rs⟩ := h
    subst e1
    exact ⟨v, us, rfl, r, rs⟩
  | y :: ys, vs, i + 1, x, v, h, r => by
    obtain ⟨w, us, e1, r1, rs⟩ := h
    subst e1
    exact ⟨w, us.set i v, rfl, r1, RVs.set rs r⟩
theorem RVs.eraseIdx : ∀ {xs : List Vl} {vs : List V} {i : Nat}, RVs K H xs vs → RVs K H (xs.eraseIdx i) (vs.eraseIdx i)
  | [], vs, _, h => by
    have e1 : vs = [] := h
    subst e1
    exact rfl
  | y :: ys, vs, 0, h => by
    obtain ⟨w, us, e1, r1, rs⟩ := h
    subst e1
    exact rs
  | y :: ys, vs, i + 1, h => by
    obtain ⟨w, us, e1, r1, rs⟩ := h
    subst e1
    exact ⟨w, us.eraseIdx i, rfl, r1, RVs.eraseIdx rs⟩
theorem RVs.take : ∀ {xs : List Vl} {vs : List V} (n : Nat), RVs K H xs vs → RVs K H (xs.take n) (vs.take n)
  | xs, vs, 0, _ => by simp [RVs]
  | [], vs, n + 1, h => by
    have e1 : vs = [] := h
    subst e1
    exact rfl
  | y :: ys, vs, n + 1, h => by
    obtain ⟨w, us, e1, r1, rs⟩ := h
    subst e1
    exact ⟨w, us.take n, rfl, r1, RVs.take n rs⟩
theorem RVs.drop : ∀ {xs : List Vl} {vs : List V} (n : Nat), RVs K H xs vs → RVs K H (xs.drop n) (vs.drop n)
  | xs, vs, 0, h => h
  | [], vs, n + 1, h => by
    have e1 : vs = [] := h
    subst e1
    exact rfl
  | y :: ys, vs, n + 1, h => by
    obtain ⟨w, us, e1, r1, rs⟩ := h
    subst e1
    exact RVs.drop n rs
theorem RVs.reverse : ∀ {xs : List Vl} {vs : List V}, RVs K H xs vs → RVs K H xs.reverse vs.reverse
  | [], vs, h => by
    have e1 : vs = [] := h
    subst e1
    exact rfl
  | y :: ys, vs, h => by
    obtain ⟨w, us, e1, r1, rs⟩ := h
    subst e1
    rw [List.reverse_cons, List.reverse_cons]
    exact (RVs.reverse rs).append (.cons r1 .nil)
end
/-- the exception's object, tracked -/
def EO (a C : Addr) (d : Option Addr) : HO := .ext fun h => ∃ o vs, h.get? a = some o ∧ o.cls = .ref C ∧ o.dict = d ∧ o.data = .fields vs
/-- an exception's own fields -/
def XD (K : PySem.W.Frag) (H : Hp) (d : Option Addr) (fs : List (Fd × Vl)) : Prop := (d = none ∧ fs = []) ∨ ∃ dd es, d = some dd ∧ H dd = some (.xd es) ∧ RFs K H fs es
def ClOk (K : PySem.W.Frag) (H : Hp) (a : Addr) : Cl → Prop
  | .lst xs => ∃ vs, H a = some (.lst vs) ∧ RVs K H xs vs
  | .dct kvs => ∃ es, H a = some (.dK es) ∧ RKs K H kvs es
  | .lk t kvs => H a = some (.frz t.1 (.dK t.2)) ∧ RKs K H kvs t.2
  | .ins c fs => ∃ dx es, H a = some (.ins (He.ga K c.nm) dx es) ∧ RFs K H fs es
  | .exc c fs => ∃ d, H a = some (EO a (He.ga K c.nm) d) ∧ XD K H d fs
def HR (K : PySem.W.Frag) (g : Gp) (H : Hp) : Prop := ∀ a c, g a = some c → ClOk K H a c
/-- what may be changed or made at an address without touching a tuple or an exception's dict -/
def NoT : Option HO → Prop
  | some (.tup _) => False
  | some (.xd _) => False
  | some (.frz _ (.tup _)) => False
  | some (.frz _ (.lst _)) => False
  | _ => True
section
variable {K : PySem.W.Frag} {H : Hp} {g : Gp} {p a : Addr} {o : HO} {c : Cl}
theorem NoT.none {x : Option HO} (h : x = Option.none) : NoT x := by rw [h]; trivial
theorem tx_upd (n : NoT (H p)) : Tx K H (upd H p o) := by
  refine ⟨fun a vs h => ?_, fun a vs h => ?_⟩
  · rcases h with h | h
    · have ne : a ≠ p := by
        rintro rfl
        rcases h with h | ⟨_, h⟩ <;> (rw [h] at n; exact n)
      rcases h with h | ⟨ob, h⟩
      · exact .inl (.inl (by rw [upd_ne ne]; exact h))
      · exact .inl (.inr ⟨ob, by rw [upd_ne ne]; exact h⟩)
    · exact .inr h
  · rcases h with ⟨ob, h⟩ | h
    · have ne : a ≠ p := by
        rintro rfl
        rw [h] at n
        exact n
      exact .inl ⟨ob, by rw [upd_ne ne]; exact h⟩
    · exact .inr h
theorem xd_upd {d : Option Addr} {fs : List (Fd × Vl)} (x : XD K H d fs) (n : NoT (H p)) : XD K (upd H p o) d fs := by
  rcases x with h | ⟨dd, es, h1, h2, h3⟩
  · exact .inl h
  · have ne : dd ≠ p := by
      rintro rfl
      rw [h2] at n
      exact n
    exact .inr ⟨dd, es, h1, by rw [upd_ne ne]; exact h2, h3.mono (tx_upd n)⟩
theorem ClOk.upd (h : ClOk K H a c) (n : NoT (H p)) (ne : a ≠ p) : ClOk K (upd H p o) a c := by
  have t : Tx K H (L2.upd H p o) := tx_upd n
  cases c with
  | lst xs =>
    obtain ⟨vs, e, r⟩ := h
    exact ⟨vs, by rw [upd_ne ne]; exact e, r.mono t⟩
  | dct kvs =>
    obtain ⟨vs, e, r⟩ := h
    exact ⟨vs, by rw [upd_ne ne]; exact e, r.mono t⟩
  | lk tk kvs =>
    obtain ⟨e, r⟩ := h
    exact ⟨by rw [upd_ne ne]; exact e, r.mono t⟩
  | ins c fs =>
    obtain ⟨dx, es, e, r⟩ := h
    exact ⟨dx, es, by rw [upd_ne ne]; exact e, r.mono t⟩
  | exc c fs =>
    obtain ⟨d, e, x⟩ := h
    exact ⟨d, by rw [upd_ne ne]; exact e, xd_upd x n⟩
/-- something new comes beside -/
theorem ClOk.new (h : ClOk K H a c) (hp : H p = none) : ClOk K (L2.upd H p o) a c := by
  cases c with
  | _ =>
    refine ClOk.upd h (NoT.none hp) ?_
    rintro rfl
    first
      | (obtain ⟨vs, e, r⟩ := h; rw [hp] at e; cases e; done)
      | (obtain ⟨dx, vs, e, r⟩ := h; rw [hp] at e; cases e; done)
      | (obtain ⟨e, r⟩ := h; rw [hp] at e; cases e; done)
theorem HR.new (h : HR K g H) (hp : H p = none) : HR K g (upd H p o) := fun a c e => (h a c e).new hp
theorem HR.free (h : HR K g H) (hp : H p = none) : g p = none := by
  cases e : g p with
  | none => rfl
  | some c =>
    have q := h p c e
    cases c <;> first
      | (obtain ⟨vs, e, r⟩ := q; rw [hp] at e; cases e; done)
      | (obtain ⟨dx, vs, e, r⟩ := q; rw [hp] at e; cases e; done)
      | (obtain ⟨e, r⟩ := q; rw [hp] at e; cases e; done)
/-- a cell is made or changed -/
theorem HR.put (h : HR K g H) (n : NoT (H p)) (ok : ClOk K (upd H p o) p c) : HR K (gup g p c) (upd H p o) := fun a c' e => by
  by_cases ha : a = p
  · subst ha
    rw [gup_same] at e
    cases e
    exact ok
  · rw [gup_ne ha] at e
    exact (h a c' e).upd n ha
theorem HR.sub {g' : Gp} (h : HR K g H) (s : ∀ a c, g' a = some c → g a = some c) : HR K g' H := fun a c e => h a c (s a c e)
end
/-! ### fields -/
def putD (f : Fd) (v : Vl) : List (Fd × Vl) → List (Fd × Vl)
  | [] => [(f, v)]
  | p :: r => if p.1 = f then (f, v) :: r else p :: putD f v r
def getD : List (Fd × Vl) → Fd → Option Vl
  | [], _ => none
  | p :: r, f => if p.1 = f then some p.2 else getD r f
section
variable {K : PySem.W.Frag} {H : Hp}
theorem RFs.get {f : Fd} {x : Vl} : ∀ {fs : List (Fd × Vl)} {es : List (Str × V)}, RFs K H fs es → getD fs f = some x → ∃ v, es.lookup f.nm = some v ∧ RV K H x v
  | [], _, _, e => by cases e
  | p :: r, es, h, e => by
    obtain ⟨y, ys, e1, r1, r2⟩ := h
    subst e1
    unfold getD at e
    by_cases hp : p.1 = f
    · rw [if_pos hp] at e
      cases e
      subst hp
      exact ⟨y, by simp [List.lookup], r1⟩
    · rw [if_neg hp] at e
      obtain ⟨v, e2, r3⟩ := RFs.get r2 e
      refine ⟨v, ?_, r3⟩
      have hn : (f.nm == p.1.nm) = false := by
        rw [beq_eq_false_iff_ne]
        exact fun z => hp (Fd.inj z).symm
      rw [List.lookup_cons, hn]
      exact e2
theorem RFs.none {m : Str} (hm : ∀ f : Fd, f.nm ≠ m) : ∀ {fs : List (Fd × Vl)} {es : List (Str × V)}, RFs K H fs es → es.lookup m = Option.none
  | [], es, h => by
    have e : es = [] := h
    subst e
    rfl
  | p :: r, es, h => by
    obtain ⟨y, ys, e1, r1, r2⟩ := h
    subst e1
    have hn : (m == p.1.nm) = false := by
      rw [beq_eq_false_iff_ne]
      exact fun z => hm p.1 z.symm
    rw [List.lookup_cons, hn]
    exact RFs.none hm r2
theorem RFs.put {f : Fd} {x : Vl} {v : V} (q : RV K H x v) : ∀ {fs : List (Fd × Vl)} {es : List (Str × V)}, RFs K H fs es → RFs K H (putD f x fs) (putF f.nm v es)
  | [], es, h => by
    have e : es = [] := h
    subst e
    exact ⟨v, [], rfl, q, rfl⟩
  | p :: r, es, h => by
    obtain ⟨y, ys, e1, r1, r2⟩ := h
    subst e1
    unfold putD putF
    by_cases hp : p.1 = f
    · subst hp
      rw [if_pos rfl, if_pos rfl]
      exact ⟨v, ys, rfl, q, r2⟩
    · have hn : ¬ p.1.nm = f.nm := fun z => hp (Fd.inj z)
      rw [if_neg hp, if_neg hn]
      exact ⟨y, _, rfl, r1, RFs.put q r2⟩
theorem RFs.length : ∀ {fs : List (Fd × Vl)} {es : List (Str × V)}, RFs K H fs es → es.length = fs.length
  | [], es, h => by
    have e : es = [] := h
    subst e
    rfl
  | p :: r, es, h => by
    obtain ⟨y, ys, e1, r1, r2⟩ := h
    subst e1
    rw [List.length_cons, List.length_cons, RFs.length r2]
end
/-! ### slots -/
abbrev Env := List (Option Vl)
structure Rs (K : PySem.W.Frag) (H : Hp) (env : Env) (σ : L2.St) : Prop where
  len : σ.length = env.length
  val : ∀ (i : Nat) (x : Vl), env[i]? = some (some x) → ∃ v, σ[i]? = some (some v) ∧ RV K H x v
section
variable {K : PySem.W.Frag} {H H' : Hp} {env : Env} {σ : L2.St}
theorem Rs.mono (r : Rs K H env σ) (t : Tx K H H') : Rs K H' env σ := ⟨r.len, fun i x e => let ⟨v, e1, r1⟩ := r.val i x e; ⟨v, e1, r1.mono t⟩⟩
theorem Rs.set {x : Vl} {v : V} (r : Rs K H env σ) (i : Nat) (q : RV K H x v) : Rs K H (env.set i (some x)) (σ.set i (some v)) := by
  refine ⟨by simpa using r.len, fun j y e => ?_⟩
  by_cases h : i = j
  · subst h
    by_cases hl : i < env.length
    · rw [List.getElem?_set_self hl] at e
      cases e
      exact ⟨v, List.getElem?_set_self (by rw [r.len]; exact hl), q⟩
    · rw [List.getElem?_eq_none (by simpa using hl)] at e
      cases e
  · rw [List.getElem?_set_ne h] at e
    obtain ⟨w, e1, r1⟩ := r.val j y e
    exact ⟨w, by rw [List.getElem?_set_ne h]; exact e1, r1⟩
theorem Rs.unset (r : Rs K H env σ) (i : Nat) : Rs K H (env.set i none) (σ.set i none) := by
  refine ⟨by simpa using r.len, fun j y e => ?_⟩
  by_cases h : i = j
  · subst h
    by_cases hl : i < env.length
    · rw [List.getElem?_set_self hl] at e
      cases e
    · rw [List.getElem?_eq_none (by simpa using hl)] at e
      cases e
  · rw [List.getElem?_set_ne h] at e
    obtain ⟨w, e1, r1⟩ := r.val j y e
    exact ⟨w, by rw [List.getElem?_set_ne h]; exact e1, r1⟩
end
/-! ### the readings -/
/-- what is wanted of a value and the cells behind; of an exception: its class, its fields -/
abbrev Po := Vl → Gp → Prop
abbrev Xo := Cn → List (Fd × Vl) → Gp → Prop
abbrev WE := Env → Gp → Po → Xo → Prop
abbrev WT := Env → Gp → (Bool → Gp → Prop) → Xo → Prop
abbrev WA := Env → Gp → (List Vl → Gp → Prop) → Xo → Prop
structure Ed where
  nx : Env → Gp → Prop
  rt : Po
abbrev XS := Cn → List (Fd × Vl) → Env → Gp → Prop
abbrev WS := Env → Gp → Ed → XS → Prop
/-- the exception's class and dict, behind the raise -/
def XR (K : PySem.W.Frag) (H : Hp) (c : Cn) (fs : List (Fd × Vl)) (cls : Value) (d : Option Addr) : Prop := cls = .ref (He.ga K c.nm) ∧ XD K H d fs
section
variable (K : PySem.W.Frag) (W : WX)
/-- the posts of an expression as they are met -/
def QX (H : Hp) (σ : L2.St) (Xp : Xo) : Prop := ∀ c fs g' cls d H', Xp c fs g' → Tx K H H' → HR K g' H' → XR K H' c fs cls d → W cls d σ H'
def tE (w : WE) : TE := fun σ H Q => ∃ env g P Xp, Rs K H env σ ∧ HR K g H ∧ w env g P Xp ∧ (∀ r g' v H', P r g' → Tx K H H' → HR K g' H' → RV K H' r v → Q v H') ∧ QX K W H σ Xp
def tT (w : WT) : TT := fun σ H Q => ∃ env g P Xp, Rs K H env σ ∧ HR K g H ∧ w env g P Xp ∧ (∀ r g' H', P r g' → Tx K H H' → HR K g' H' → Q r H') ∧ QX K W H σ Xp
def tA (w : WA) : TA := fun σ H Q => ∃ env g P Xp, Rs K H env σ ∧ HR K g H ∧ w env g P Xp ∧ (∀ r g' v H', P r g' → Tx K H H' → HR K g' H' → RVs K H' r v → Q v H') ∧ QX K W H σ Xp
def tS (w : WS) : TS := fun D σ H => ∃ env g De Xp, Rs K H env σ ∧ HR K g H ∧ w env g De Xp ∧
  (∀ env' g' σ' H', De.nx env' g' → Tx K H H' → HR K g' H' → Rs K H' env' σ' → D.nx σ' H') ∧ (∀ r g' v H', De.rt r g' → Tx K H H' → HR K g' H' → RV K H' r v → D.rt v H') ∧
  ∀ c fs env' g' cls d σ' H', Xp c fs env' g' → Tx K H H' → HR K g' H' → Rs K H' env' σ' → XR K H' c fs cls d → W cls d σ' H'
end
theorem QX.step {K : PySem.W.Frag} {W : WX} {H H1 : Hp} {σ : L2.St} {Xp : Xo} (q : QX K W H σ Xp) (t : Tx K H H1) : QX K W H1 σ Xp := fun c fs g' cls d H' p t' h x => q c fs g' cls d H' p (t.trans t') h x
theorem PE.imp {X : Cx} {e : Expr} {t t' : TE} (h : PE X e t) (i : ∀ σ H Q, t' σ H Q → t σ H Q) : PE X e t' := ⟨fun pins s σ H Q I q => h.run pins s σ H Q I (i σ H Q q)⟩
theorem PT.imp {X : Cx} {e : Expr} {t t' : TT} (h : PT X e t) (i : ∀ σ H Q, t' σ H Q → t σ H Q) : PT X e t' := ⟨fun pins s σ H Q I q => h.run pins s σ H Q I (i σ H Q q)⟩
theorem PW.imp {X : Cx} {e : Expr} {t t' : TT} (h : PW X e t) (i : ∀ σ H Q, t' σ H Q → t σ H Q) : PW X e t' := ⟨fun wh pins s σ H Q I q => h.run wh pins s σ H Q I (i σ H Q q)⟩
theorem PA.imp {X : Cx} {es : List Expr} {t t' : TA} (h : PA X es t) (i : ∀ σ H Q, t' σ H Q → t σ H Q) : PA X es t' := ⟨fun pos pins s σ H Q I q => h.run pos pins s σ H Q I (i σ H Q q)⟩
theorem PS.imp {X : Cx} {st : Stmt} {t t' : TS} (h : PS X st t) (i : ∀ D σ H, t' D σ H → t D σ H) : PS X st t' := ⟨fun pins s σ H D I q => h.run pins s σ H D I (i D σ H q)⟩
theorem PSs.imp {X : Cx} {st : List Stmt} {t t' : TS} (h : PSs X st t) (i : ∀ D σ H, t' D σ H → t D σ H) : PSs X st t' := ⟨fun pins s σ H D I q => h.run pins s σ H D I (i D σ H q)⟩
/-- an expression, a test, arguments, a statement, a block: their judgements over the cells -/
def SE (X : Cx) (e : Expr) (w : WE) : Prop := ∀ W : WX, Takes X W → PE X e (tE X.K W w)
def ST (X : Cx) (e : Expr) (w : WT) : Prop := ∀ W : WX, Takes X W → PT X e (tT X.K W w)
def SA (X : Cx) (es : List Expr) (w : WA) : Prop := ∀ W : WX, Takes X W → PA X es (tA X.K W w)
end MP
set_option Elab.async false
set_option linter.all false
set_option maxRecDepth 100000
/-! MP, part 2: rules by values: operators, comparisons, subscripts. -/
namespace MP
open PySem PySem.Spec PyProof.Rows L2
/-- an operator by values: two values, the cells, what is wanted -/
abbrev B2 := Vl → Vl → Gp → Po → Prop
/-- the rule r serves b -/
def Rel2 (K : PySem.W.Frag) (b : B2) (r : R2) : Prop := ∀ (x y : Vl) (g : Gp) (P : Po) (v u : V) (H : Hp) (Q : VK), b x y g P → HR K g H → RV K H x v → RV K H y u →
  (∀ z g' w H', P z g' → Tx K H H' → HR K g' H' → RV K H' z w → Q w H') → r v u H Q
def B2.or (b c : B2) : B2 := fun x y g P => b x y g P ∨ c x y g P
theorem Rel2.or {K : PySem.W.Frag} {b c : B2} {r s : R2} (h : Rel2 K b r) (h' : Rel2 K c s) : Rel2 K (b.or c) (fun x y H Q => r x y H Q ∨ s x y H Q) := fun x y g P v u H Q q hr r1 r2 k =>
  q.elim (fun q => .inl (h x y g P v u H Q q hr r1 r2 k)) fun q => .inr (h' x y g P v u H Q q hr r1 r2 k)
/-- a list that is read -/
def IsL (g : Gp) (x : Vl) (xs : List Vl) : Prop := (∃ a, x = .ref a ∧ g a = some (.lst xs)) ∨ ∃ a, x = .kl a xs
theorem IsL.sq {K : PySem.W.Frag} {g : Gp} {H : Hp} {x : Vl} {xs : List Vl} {v : V} (h : IsL g x xs) (hr : HR K g H) (r : RV K H x v) : ∃ a vs, v = .ref a ∧ SqL K H a vs ∧ RVs K H xs vs := by
  rcases h with ⟨a, rfl, e⟩ | ⟨a, rfl⟩
  · obtain ⟨vs, e1, r1⟩ := hr a _ e
    exact ⟨a, vs, r, .of e1, r1⟩
  · obtain ⟨vs, e1, r1, r2⟩ := r
    refine ⟨a, vs, e1, ?_, r2⟩
    rcases r1 with ⟨o, h⟩ | h
    · exact .inl (.inr ⟨o, h⟩)
    · exact .inr h
section
variable {K : PySem.W.Frag} {H : Hp} {g : Gp}
/-- a new tuple -/
theorem made_tup {xs : List Vl} {vs : List V} {p : Addr} {P : Po} {Q : VK} (hr : HR K g H) (r : RVs K H xs vs) (hp : H p = none) (q : P (.tup xs) g) (k : ∀ z g' w H', P z g' → Tx K H H' → HR K g' H' → RV K H' z w → Q w H') :
    Q (.ref p) (upd H p (.tup vs)) := by
  have t : Tx K H (upd H p (.tup vs)) := tx_upd (.none hp)
  exact k _ g _ _ q t (hr.new hp) ⟨p, vs, rfl, .of upd_same, r.mono t⟩
/-- a new list -/
theorem made_lst {xs : List Vl} {vs : List V} {p : Addr} {P : Po} {Q : VK} (hr : HR K g H) (r : RVs K H xs vs) (hp : H p = none) (q : ∀ a, g a = none → P (.ref a) (gup g a (.lst xs))) (k : ∀ z g' w H', P z g' → Tx K H H' → HR K g' H' → RV K H' z w → Q w H') :
    Q (.ref p) (upd H p (.lst vs)) := by
  have t : Tx K H (upd H p (.lst vs)) := tx_upd (.none hp)
  exact k _ _ _ _ (q p (hr.free hp)) t (hr.put (.none hp) ⟨vs, upd_same, r.mono t⟩) rfl
/-- a list is changed -/
theorem put_lst {xs ys : List Vl} {vs : List V} {p : Addr} (hr : HR K g H) (e : g p = some (.lst xs)) (r : RVs K H ys vs) : Tx K H (upd H p (.lst vs)) ∧ HR K (gup g p (.lst ys)) (upd H p (.lst vs)) := by
  obtain ⟨us, e1, r1⟩ := hr p _ e
  have n : NoT (H p) := by rw [e1]; trivial
  have t : Tx K H (upd H p (.lst vs)) := tx_upd n
  exact ⟨t, hr.put n ⟨vs, upd_same, r.mono t⟩⟩
end
/-! ### arithmetic -/
def bI (f : Int → Int → Int) (C : Int → Int → Prop) : B2 := fun x y g P => ∃ i j, x = .int i ∧ y = .int j ∧ C i j ∧ P (.int (f i j)) g
def bIB (f : Int → Int → Bool) : B2 := fun x y g P => ∃ i j, x = .int i ∧ y = .int j ∧ P (.bl (f i j)) g
section
variable {K : PySem.W.Frag}
theorem rel_I {f : Int → Int → Int} {C : Int → Int → Prop} : Rel2 K (bI f C) (rI C fun i j => .int (f i j)) := by
  rintro x y g P v u H Q ⟨i, j, rfl, rfl, c, q⟩ hr r1 r2 k
  exact ⟨i, j, r1, r2, c, k _ g _ _ q .refl hr rfl⟩
theorem rel_I0 {f : Int → Int → Int} : Rel2 K (bI f fun _ _ => True) (rI0 fun i j => .int (f i j)) := by
  rintro x y g P v u H Q ⟨i, j, rfl, rfl, _, q⟩ hr r1 r2 k
  exact ⟨i, j, r1, r2, k _ g _ _ q .refl hr rfl⟩
theorem rel_IB {f : Int → Int → Bool} : Rel2 K (bIB f) (rI0 fun i j => .bl (f i j)) := by
  rintro x y g P v u H Q ⟨i, j, rfl, rfl, q⟩ hr r1 r2 k
  exact ⟨i, j, r1, r2, k _ g _ _ q .refl hr rfl⟩
end
def bStr : B2 := fun x y g P => ∃ a b, x = .str a ∧ y = .str b ∧ a.length + b.length ≤ sizeLine ∧ P (.str (a ++ b)) g
def bCatL : B2 := fun x y g P => ∃ xs ys, IsL g x xs ∧ IsL g y ys ∧ (∃ a b, x = .ref a ∧ y = .ref b) ∧ xs.length + ys.length ≤ sizeLine ∧ ∀ p, g p = none → P (.ref p) (gup g p (.lst (xs ++ ys)))
def bCatT : B2 := fun x y g P => ∃ xs ys, x = .tup xs ∧ y = .tup ys ∧ xs ≠ [] ∧ xs.length + ys.length ≤ sizeLine ∧ P (.tup (xs ++ ys)) g
section
variable {K : PySem.W.Frag}
theorem rel_str : Rel2 K bStr (fun x y H Q => ∃ i j, x = .str i ∧ y = .str j ∧ i.length + j.length ≤ sizeLine ∧ Q (.str (i ++ j)) H) := by
  rintro x y g P v u H Q ⟨i, j, rfl, rfl, c, q⟩ hr r1 r2 k
  exact ⟨i, j, r1, r2, c, k _ g _ _ q .refl hr rfl⟩
theorem rel_catL : Rel2 K bCatL rCat := by
  rintro x y g P v u H Q ⟨xs, ys, h1, h2, ⟨a, b, rfl, rfl⟩, hl, q⟩ hr r1 r2 k
  obtain ⟨⟨a', ea, h1⟩ | ⟨_, ea⟩, ⟨b', eb, h2⟩ | ⟨_, eb⟩⟩ := And.intro h1 h2 <;> first | cases ea; cases eb | cases ea | cases eb
  obtain ⟨vs, e1, s1⟩ := hr a _ h1
  obtain ⟨us, e2, s2⟩ := hr b _ h2
  refine ⟨a, b, vs, us, r1, r2, e1, e2, by rw [s1.length, s2.length]; exact hl, fun p hp => made_lst hr (s1.append s2) hp q k⟩
theorem rel_catT : Rel2 K bCatT (rCatT K) := by
  rintro x y g P v u H Q ⟨xs, ys, rfl, rfl, hne, hl, q⟩ hr r1 r2 k
  obtain ⟨a, vs, rfl, e1, s1⟩ := r1
  obtain ⟨b, us, rfl, e2, s2⟩ := r2
  refine ⟨a, b, vs, us, rfl, rfl, e1, e2, fun z => ?_, by rw [s1.length, s2.length]; exact hl, fun z => ?_, fun z p hp => made_tup hr (s1.append s2) hp q k⟩
  · have e := s1.length
    rw [z] at e
    exact hne (List.eq_nil_of_length_eq_zero e.symm)
  · have e := s2.length
    rw [z] at e
    have e' : ys = [] := List.eq_nil_of_length_eq_zero e.symm
    subst e'
    rw [List.append_nil] at q
    exact k _ g _ _ q .refl hr ⟨a, vs, rfl, e1, s1⟩
end
/-- a + b -/
def bAdd : B2 := (bI (fun i j => i + j) fun _ _ => True).or (bStr.or (bCatL.or bCatT))
theorem op_bAdd {X : Cx} : ∃ r, OpR X (binaryOp .Add) r ∧ Rel2 X.K bAdd r := ⟨_, op_add.or (op_add_str.or (op_cat.or op_catT)), rel_I0.or (rel_str.or (rel_catL.or rel_catT))⟩
def bSub : B2 := bI (fun i j => i - j) fun _ _ => True
theorem op_bSub {X : Cx} : ∃ r, OpR X (binaryOp .Sub) r ∧ Rel2 X.K bSub r := ⟨_, op_sub, rel_I0⟩
/-! ### xs * k -/
def bRepL : B2 := fun x y g P => ∃ a k xs, x = .ref a ∧ y = .int k ∧ g a = some (.lst xs) ∧ -(2 ^ 63) ≤ k ∧ k < 2 ^ 63 ∧ xs.length * k.toNat ≤ sizeLine ∧ ∀ p, g p = none → P (.ref p) (gup g p (.lst (List.replicate k.toNat xs).flatten))
theorem RVs.rep {K : PySem.W.Frag} {H : Hp} {xs : List Vl} {vs : List V} (r : RVs K H xs vs) : ∀ n : Nat, RVs K H (List.replicate n xs).flatten (List.replicate n vs).flatten
  | 0 => rfl
  | n + 1 => by
    rw [List.replicate_succ, List.replicate_succ, List.flatten_cons, List.flatten_cons]
    exact r.append (r.rep n)
theorem rel_repL {K : PySem.W.Frag} : Rel2 K bRepL rRep := by
  rintro x y g P v u H Q ⟨a, n, xs, rfl, rfl, e, h1, h2, hl, q⟩ hr r1 r2 k
  obtain ⟨vs, e1, s1⟩ := hr a _ e
  exact ⟨a, n, vs, r1, r2, e1, h1, h2, by rw [s1.length]; exact hl, fun p hp => made_lst hr (s1.rep _) hp q k⟩
def bMul : B2 := (bI (fun i j => i * j) CMulW).or bRepL
theorem op_bMul {X : Cx} : ∃ r, OpR X (binaryOp .Mult) r ∧ Rel2 X.K bMul r := ⟨_, op_mulW.or op_rep, rel_I.or rel_repL⟩
def bFDiv : B2 := bI (fun i j => i.fdiv j) CDivN
theorem op_bFDiv {X : Cx} : ∃ r, OpR X (binaryOp .FloorDiv) r ∧ Rel2 X.K bFDiv r := ⟨_, op_fdivN, rel_I⟩
def bMod : B2 := bI (fun i j => i.fmod j) fun _ j => j ≠ 0
theorem op_bMod {X : Cx} : ∃ r, OpR X (binaryOp .Mod) r ∧ Rel2 X.K bMod r := ⟨_, op_modN, rel_I⟩
def bPow : B2 := bI (fun i j => i ^ j.toNat) CPow
theorem op_bPow {X : Cx} : ∃ r, OpR X (binaryOp .Pow) r ∧ Rel2 X.K bPow r := ⟨_, op_pow, rel_I⟩
def bAnd : B2 := bI (fun i j => Builtin.bitAnd i j) fun _ _ => True
theorem op_bAnd {X : Cx} : ∃ r, OpR X (binaryOp .BitAnd) r ∧ Rel2 X.K bAnd r := ⟨_, op_and, rel_I0⟩
/-! ### data: what == and repr see -/
mutual
def Dt (g : Gp) : PyData → Vl → Prop
  | .none, x => x = .non
  | .bool b, x => x = .bl b
  | .int i, x => x = .int i
  | .str s, x => x = .str s
  | .tuple ds, x => ∃ xs, x = .tup xs ∧ Dts g ds xs
  | .list ds, x => ∃ xs, IsL g x xs ∧ Dts g ds xs
  | .dict _, _ => False
def Dts (g : Gp) : List PyData → List Vl → Prop
  | [], xs => xs = []
  | d :: ds, xs => ∃ y ys, xs = y :: ys ∧ Dt g d y ∧ Dts g ds ys
end
section
variable {K : PySem.W.Frag} {H : Hp} {g : Gp}
mutual
theorem Dt.dp (hr : HR K g H) : ∀ {d : PyData} {x : Vl} {v : V}, Dt g d x → RV K H x v → Dp K H v d
  | .none, x, v, h, r => by
    have e : x = .non := h
    subst e
    have e : v = .non := r
    subst e
    exact .non
  | .bool b, x, v, h, r => by
    have e : x = .bl b := h
    subst e
    have e : v = .bl b := r
    subst e
    exact .bl b
  | .int b, x, v, h, r => by
    have e : x = .int b := h
    subst e
    have e : v = .int b := r
    subst e
    exact .int b
  | .str b, x, v, h, r => by
    have e : x = .str b := h
    subst e
    have e : v = .str b := r
    subst e
    exact .str b
  | .tuple ds, x, v, h, r => by
    obtain ⟨xs, e, hs⟩ := h
    subst e
    obtain ⟨a, vs, e, s, rs⟩ := r
    subst e
    exact .tup s (Dts.dp hr hs rs)
  | .list ds, x, v, h, r => by
    obtain ⟨xs, hl, hs⟩ := h
    obtain ⟨a, vs, e, s, rs⟩ := hl.sq hr r
    subst e
    exact .lst s (Dts.dp hr hs rs)
  | .dict _, x, v, h, r => False.elim h
theorem Dts.dp (hr : HR K g H) : ∀ {ds : List PyData} {xs : List Vl} {vs : List V}, Dts g ds xs → RVs K H xs vs → DpAll K H vs ds
  | [], xs, vs, h, r => by
    have e : xs = [] := h
    subst e
    have e : vs = [] := r
    subst e
    exact .nil
  | d :: ds, xs, vs, h, r => by
    obtain ⟨y, ys, e, h1, h2⟩ := h
    subst e
    obtain ⟨w, ws, e, r1, r2⟩ := r
    subst e
    exact .cons (Dt.dp hr h1 r1) (Dts.dp hr h2 r2)
end
end
/-- == of data -/
def bEqD (neg : Bool) : B2 := fun x y g P => ∃ d e, Dt g d x ∧ Dt g e y ∧ SeqAt.shaped d = true ∧ SeqAt.shaped e = true ∧ P (.bl (if neg then !PyData.eqv d e else PyData.eqv d e)) g
theorem rel_eqD {K : PySem.W.Frag} : Rel2 K (bEqD false) (rEqD K) := by
  rintro x y g P v u H Q ⟨d, e, h1, h2, s1, s2, q⟩ hr r1 r2 k
  exact ⟨d, e, h1.dp hr r1, h2.dp hr r2, s1, s2, k _ g _ _ q .refl hr rfl⟩
theorem rel_neD {K : PySem.W.Frag} : Rel2 K (bEqD true) (rNeD K) := by
  rintro x y g P v u H Q ⟨d, e, h1, h2, s1, s2, q⟩ hr r1 r2 k
  exact ⟨d, e, h1.dp hr r1, h2.dp hr r2, s1, s2, k _ g _ _ q .refl hr rfl⟩
/-! ### comparisons -/
def bLtS : B2 := fun x y g P => ∃ a b, x = .str a ∧ y = .str b ∧ P (.bl (decide (a.cps.toList < b.cps.toList))) g
theorem rel_ltS {K : PySem.W.Frag} : Rel2 K bLtS (fun x y H Q => ∃ i j, x = .str i ∧ y = .str j ∧ Q (.bl (decide (i.cps.toList < j.cps.toList))) H) := by
  rintro x y g P v u H Q ⟨i, j, rfl, rfl, q⟩ hr r1 r2 k
  exact ⟨i, j, r1, r2, k _ g _ _ q .refl hr rfl⟩
def bLt : B2 := (bIB fun i j => decide (i < j)).or bLtS
theorem op_bLt {X : Cx} : ∃ r, OpR X (compareOp .Lt) r ∧ Rel2 X.K bLt r := ⟨_, op_lt.or op_lt_str, rel_IB.or rel_ltS⟩
def bLeS : B2 := fun x y g P => ∃ a b, x = .str a ∧ y = .str b ∧ P (.bl (decide (a.cps.toList ≤ b.cps.toList))) g
def bLe : B2 := bIB fun i j => decide (i ≤ j)
theorem op_bLe {X : Cx} : ∃ r, OpR X (compareOp .LtE) r ∧ Rel2 X.K bLe r := ⟨_, op_le, rel_IB⟩
def bGt : B2 := bIB fun i j => decide (j < i)
theorem op_bGt {X : Cx} : ∃ r, OpR X (compareOp .Gt) r ∧ Rel2 X.K bGt r := ⟨_, op_gt, rel_IB⟩
def bGe : B2 := bIB fun i j => decide (j ≤ i)
theorem op_bGe {X : Cx} : ∃ r, OpR X (compareOp .GtE) r ∧ Rel2 X.K bGe r := ⟨_, op_ge, rel_IB⟩
/-- flat values -/
def flatL : Vl → Bool
  | .non => true
  | .bl _ => true
  | .int _ => true
  | .str _ => true
  | _ => false
def eqL : Vl → Vl → Bool
  | .non, .non => true
  | .bl a, .bl b => a == b
  | .bl a, .int b => (if a then 1 else 0) == b
  | .int a, .bl b => a == (if b then 1 else 0)
  | .int a, .int b => a == b
  | .str a, .str b => a == b
  | _, _ => false
theorem flat_rel {K : PySem.W.Frag} {H : Hp} {x : Vl} {v : V} (r : RV K H x v) (f : flatL x = true) : flatV v = true := by
  cases x <;> first
    | (have e : v = _ := r; subst e; rfl)
    | (exact absurd f (by decide))
    | (cases f)
theorem eq_rel {K : PySem.W.Frag} {H : Hp} {x y : Vl} {v u : V} (r : RV K H x v) (r' : RV K H y u) (f : flatL x = true) (f' : flatL y = true) : eqV v u = eqL x y := by
  cases x <;> first
    | (cases f; done)
    | (have e : v = _ := r
       subst e
       cases y <;> first
         | (cases f'; done)
         | (have e : u = _ := r'; subst e; rfl))
theorem any_rel {K : PySem.W.Frag} {H : Hp} {x : Vl} {v : V} (r : RV K H x v) (f : flatL x = true) : ∀ {xs : List Vl} {vs : List V}, RVs K H xs vs → xs.all flatL = true → vs.all flatV = true ∧ (vs.any fun y => eqV y v) = xs.any fun y => eqL y x
  | [], vs, h, _ => by
    have e : vs = [] := h
    subst e
    exact ⟨rfl, rfl⟩
  | y :: ys, vs, h, fs => by
    obtain ⟨w, ws, e, r1, r2⟩ := h
    subst e
    rw [List.all_cons, Bool.and_eq_true] at fs
    obtain ⟨a, b⟩ := any_rel r f r2 fs.2
    refine ⟨?_, ?_⟩
    · rw [List.all_cons, flat_rel r1 fs.1, a] <;> rfl
    · rw [List.any_cons, List.any_cons, b, eq_rel r1 r fs.1 f]
/-- x in a list or a tuple of flat items -/
def bInF (neg : Bool) : B2 := fun x y g P => ∃ xs, (IsL g y xs ∨ y = .tup xs) ∧ flatL x = true ∧ xs.all flatL = true ∧ P (.bl (if neg then !(xs.any fun z => eqL z x) else xs.any fun z => eqL z x)) g
theorem rel_inF {K : PySem.W.Frag} {neg : Bool} : Rel2 K (bInF neg) (rIn K neg) := by
  rintro x y g P v u H Q ⟨xs, h, fx, fs, q⟩ hr r1 r2 k
  have sq : ∃ p vs, u = .ref p ∧ (SqL K H p vs ∨ SqT K H p vs) ∧ RVs K H xs vs := by
    rcases h with h | h
    · obtain ⟨a, vs, e, s, rs⟩ := h.sq hr r2
      exact ⟨a, vs, e, .inl s, rs⟩
    · subst h
      obtain ⟨a, vs, e, s, rs⟩ := r2
      exact ⟨a, vs, e, .inr s, rs⟩
  obtain ⟨p, vs, e, s, rs⟩ := sq
  obtain ⟨fv, ea⟩ := any_rel r1 fx rs fs
  refine ⟨p, vs, e, s, flat_rel r1 fx, fv, ?_⟩
  refine k _ g _ _ q .refl hr ?_
  show _ = _
  unfold inV
  rw [ea]
/-- a text in a text -/
def bInS (neg : Bool) : B2 := fun x y g P => ∃ a b, x = .str a ∧ y = .str b ∧ P (.bl (if neg then !(!(Builtin.Str.occurrences b a 0 b.length 1).isEmpty) else !(Builtin.Str.occurrences b a 0 b.length 1).isEmpty)) g
theorem rel_inS {K : PySem.W.Frag} : Rel2 K (bInS false) (fun x y H Q => ∃ i j, x = .str i ∧ y = .str j ∧ Q (.bl (!(Builtin.Str.occurrences j i 0 j.length 1).isEmpty)) H) := by
  rintro x y g P v u H Q ⟨i, j, rfl, rfl, q⟩ hr r1 r2 k
  exact ⟨i, j, r1, r2, k _ g _ _ q .refl hr rfl⟩
theorem rel_niS {K : PySem.W.Frag} : Rel2 K (bInS true) (fun x y H Q => ∃ i j, x = .str i ∧ y = .str j ∧ Q (.bl (!(!(Builtin.Str.occurrences j i 0 j.length 1).isEmpty))) H) := by
  rintro x y g P v u H Q ⟨i, j, rfl, rfl, q⟩ hr r1 r2 k
  exact ⟨i, j, r1, r2, k _ g _ _ q .refl hr rfl⟩
end MP
set_option Elab.async false
set_option linter.all false
set_option maxRecDepth 100000
/-! MP, part 3: dicts, subscripts, slices, stores by values. -/
namespace MP
open PySem PySem.Spec PyProof.Rows L2
/-! ### dicts -/
def valL {κ : Type} [DecidableEq κ] (kvs : List (κ × Vl)) (k : κ) : Option Vl := (kvs.find? fun kv => decide (kv.1 = k)).map (·.2)
def putL {κ : Type} [DecidableEq κ] (kvs : List (κ × Vl)) (k : κ) (v : Vl) : List (κ × Vl) :=
  if (kvs.any fun kv => decide (kv.1 = k)) = true then kvs.map (fun kv => if kv.1 = k then (kv.1, v) else kv) else kvs ++ [(k, v)]
def dropL {κ : Type} [DecidableEq κ] (kvs : List (κ × Vl)) (k : κ) : List (κ × Vl) := kvs.filter fun kv => decide (kv.1 ≠ k)
def kL : Key → Vl
  | .inl i => .int i
  | .inr x => .str x
theorem kL_rel {K : PySem.W.Frag} {H : Hp} {k : Key} {v : V} (r : RV K H (kL k) v) : v = kV k := by
  cases k <;> exact r
theorem rel_kL {K : PySem.W.Frag} {H : Hp} (k : Key) : RV K H (kL k) (kV k) := by
  cases k <;> exact rfl
section
variable {K : PySem.W.Frag} {H : Hp} {κ : Type} [DecidableEq κ]
theorem RKs.any {k : κ} : ∀ {kvs : List (κ × Vl)} {es : List (κ × V)}, RKs K H kvs es → (es.any fun kv => decide (kv.1 = k)) = kvs.any fun kv => decide (kv.1 = k)
  | [], es, h => by
    have e : es = [] := h
    subst e
    rfl
  | p :: r, es, h => by
    obtain ⟨y, ys, e, r1, r2⟩ := h
    subst e
    rw [List.any_cons, List.any_cons, RKs.any r2]
theorem RKs.val {k : κ} : ∀ {kvs : List (κ × Vl)} {es : List (κ × V)}, RKs K H kvs es → (valL kvs k = none ∧ valV es k = none) ∨ ∃ x v, valL kvs k = some x ∧ valV es k = some v ∧ RV K H x v
  | [], es, h => by
    have e : es = [] := h
    subst e
    exact .inl ⟨rfl, rfl⟩
  | p :: r, es, h => by
    obtain ⟨y, ys, e, r1, r2⟩ := h
    subst e
    by_cases hk : p.1 = k
    · refine .inr ⟨p.2, y, ?_, ?_, r1⟩
      · unfold valL
        rw [List.find?_cons_of_pos (by simpa using hk)] <;> rfl
      · unfold valV
        rw [List.find?_cons_of_pos (by simpa using hk)] <;> rfl
    · have e1 : valL (p :: r) k = valL r k := by
        unfold valL
        rw [List.find?_cons_of_neg (by simpa using hk)]
      have e2 : valV ((p.1, y) :: ys) k = valV ys k := by
        unfold valV
        rw [List.find?_cons_of_neg (by simpa using hk)]
      rw [e1, e2]
      exact RKs.val r2
theorem RKs.app : ∀ {kvs ls : List (κ × Vl)} {es fs : List (κ × V)}, RKs K H kvs es → RKs K H ls fs → RKs K H (kvs ++ ls) (es ++ fs)
  | [], _, es, _, h, h' => by
    have e : es = [] := h
    subst e
    exact h'
  | p :: r, ls, es, fs, h, h' => by
    obtain ⟨y, ys, e, r1, r2⟩ := h
    subst e
    exact ⟨y, ys ++ fs, rfl, r1, RKs.app r2 h'⟩
theorem RKs.mp {k : κ} {x : Vl} {v : V} (q : RV K H x v) : ∀ {kvs : List (κ × Vl)} {es : List (κ × V)}, RKs K H kvs es → RKs K H (kvs.map fun kv => if kv.1 = k then (kv.1, x) else kv) (es.map fun kv => if kv.1 = k then (kv.1, v) else kv)
  | [], es, h => by
    have e : es = [] := h
    subst e
    exact rfl
  | p :: r, es, h => by
    obtain ⟨y, ys, e, r1, r2⟩ := h
    subst e
    rw [List.map_cons, List.map_cons]
    by_cases hk : p.1 = k
    · rw [if_pos hk, if_pos hk]
      exact ⟨v, _, rfl, q, RKs.mp q r2⟩
    · rw [if_neg hk, if_neg hk]
      exact ⟨y, _, rfl, r1, RKs.mp q r2⟩
theorem RKs.put {k : κ} {x : Vl} {v : V} {kvs : List (κ × Vl)} {es : List (κ × V)} (r : RKs K H kvs es) (q : RV K H x v) : RKs K H (putL kvs k x) (putK es k v) := by
  unfold putL putK
  rw [r.any]
  split
  · exact r.mp q
  · exact r.app ⟨v, [], rfl, q, rfl⟩
theorem RKs.drop {k : κ} : ∀ {kvs : List (κ × Vl)} {es : List (κ × V)}, RKs K H kvs es → RKs K H (dropL kvs k) (dropK es k)
  | [], es, h => by
    have e : es = [] := h
    subst e
    exact rfl
  | p :: r, es, h => by
    obtain ⟨y, ys, e, r1, r2⟩ := h
    subst e
    unfold dropL dropK
    by_cases hk : p.1 = k
    · rw [List.filter_cons_of_neg (by simpa using hk), List.filter_cons_of_neg (by simpa using hk)]
      exact RKs.drop r2
    · rw [List.filter_cons_of_pos (by simpa using hk), List.filter_cons_of_pos (by simpa using hk)]
      exact ⟨y, _, rfl, r1, RKs.drop r2⟩
theorem RKs.length : ∀ {kvs : List (κ × Vl)} {es : List (κ × V)}, RKs K H kvs es → es.length = kvs.length
  | [], es, h => by
    have e : es = [] := h
    subst e
    rfl
  | p :: r, es, h => by
    obtain ⟨y, ys, e, r1, r2⟩ := h
    subst e
    rw [List.length_cons, List.length_cons, RKs.length r2]
theorem RKs.get : ∀ {kvs : List (κ × Vl)} {es : List (κ × V)} {i : Nat} {p : κ × Vl}, RKs K H kvs es → kvs[i]? = some p → ∃ v, es[i]? = some (p.1, v) ∧ RV K H p.2 v
  | [], _, _, _, _, e => by simp at e
  | q :: r, es, 0, p, h, e => by
    obtain ⟨y, ys, e1, r1, r2⟩ := h
    subst e1
    simp at e
    subst e
    exact ⟨y, rfl, r1⟩
  | q :: r, es, i + 1, p, h, e => by
    obtain ⟨y, ys, e1, r1, r2⟩ := h
    subst e1
    obtain ⟨w, e2, r3⟩ := RKs.get (i := i) r2 (by simpa using e)
    exact ⟨w, by simpa using e2, r3⟩
theorem RKs.keys : ∀ {kvs : List (κ × Vl)} {es : List (κ × V)}, RKs K H kvs es → es.map (·.1) = kvs.map (·.1)
  | [], es, h => by
    have e : es = [] := h
    subst e
    rfl
  | p :: r, es, h => by
    obtain ⟨y, ys, e, r1, r2⟩ := h
    subst e
    rw [List.map_cons, List.map_cons, RKs.keys r2]
theorem RKs.vals : ∀ {kvs : List (κ × Vl)} {es : List (κ × V)}, RKs K H kvs es → RVs K H (kvs.map (·.2)) (es.map (·.2))
  | [], es, h => by
    have e : es = [] := h
    subst e
    exact rfl
  | p :: r, es, h => by
    obtain ⟨y, ys, e, r1, r2⟩ := h
    subst e
    exact ⟨y, _, rfl, r1, RKs.vals r2⟩
end
/-- a dict that is read -/
def IsDct (g : Gp) (x : Vl) (kvs : List (Key × Vl)) : Prop := ∃ a, x = .ref a ∧ (g a = some (.dct kvs) ∨ ∃ t, g a = some (.lk t kvs))
theorem IsDct.rd {K : PySem.W.Frag} {g : Gp} {H : Hp} {x : Vl} {kvs : List (Key × Vl)} {v : V} (h : IsDct g x kvs) (hr : HR K g H) (r : RV K H x v) : ∃ a es, v = .ref a ∧ Rd H a (.dK es) ∧ RKs K H kvs es := by
  obtain ⟨a, rfl, e | ⟨t, e⟩⟩ := h
  · obtain ⟨es, e1, r1⟩ := hr a _ e
    exact ⟨a, es, r, .inl e1, r1⟩
  · obtain ⟨e1, r1⟩ := hr a _ e
    exact ⟨a, _, r, .inr ⟨_, e1⟩, r1⟩
/-- k in d -/
def bInD (neg : Bool) : B2 := fun x y g P => ∃ k kvs, x = kL k ∧ IsDct g y kvs ∧ P (.bl (if neg then !(valL kvs k).isSome else (valL kvs k).isSome)) g
section
variable {X : Cx} {K : PySem.W.Frag}
def rDIn (neg : Bool) : R2 := fun y x H Q => ∃ a o, x = .ref a ∧ DGet H a y o ∧ Q (.bl (if neg then !o.isSome else o.isSome)) H
theorem op_din (hu : X.A.units + 1 < cLine) : OpR X (compareOp .In) (rDIn false) := by
  rintro pins s σ H x y v u Q I rx ry ⟨a, o, rfl, dg, q⟩
  obtain rfl : u = Value.ref a := ry
  exact d_in hu I dg rx fun s' I' => ⟨.bl o.isSome, H, I', rfl, q⟩
theorem op_dni (hu : X.A.units + 1 < cLine) : OpR X (compareOp .NotIn) (rDIn true) := by
  rintro pins s σ H x y v u Q I rx ry ⟨a, o, rfl, dg, q⟩
  obtain rfl : u = Value.ref a := ry
  exact d_notIn hu I dg rx fun s' I' => ⟨.bl (!o.isSome), H, I', rfl, q⟩
theorem rel_inD {neg : Bool} : Rel2 K (bInD neg) (rDIn neg) := by
  rintro x y g P v u H Q ⟨k, kvs, rfl, hd, q⟩ hr r1 r2 kk
  obtain ⟨a, es, rfl, rd, rk⟩ := hd.rd hr r2
  refine ⟨a, valV es k, rfl, .inl ⟨es, k, rd, kL_rel r1, rfl⟩, kk _ g _ _ q .refl hr ?_⟩
  show _ = _
  rcases rk.val (k := k) with ⟨h1, h2⟩ | ⟨z, w, h1, h2, _⟩ <;> rw [h1, h2] <;> rfl
end
def bIn (neg : Bool) : B2 := (bInF neg).or ((bInS neg).or (bInD neg))
theorem op_bIn {X : Cx} (hu : X.A.units + 1 < cLine) : ∃ r, OpR X (compareOp .In) r ∧ Rel2 X.K (bIn false) r := ⟨_, op_in_seq.or (op_in_str.or (op_din hu)), rel_inF.or (rel_inS.or rel_inD)⟩
theorem op_bNotIn {X : Cx} (hu : X.A.units + 1 < cLine) : ∃ r, OpR X (compareOp .NotIn) r ∧ Rel2 X.K (bIn true) r := ⟨_, op_notIn_seq.or (op_notIn_str.or (op_dni hu)), rel_inF.or (rel_niS.or rel_inD)⟩
/-! ### is -/
def bIs (neg : Bool) : B2 := fun x y g P => (∃ a b, y = .bl b ∧ x = .bl a ∧ P (.bl (if neg then !(a == b) else a == b)) g)
/-! ### subscripts -/
theorem atI_rel {K : PySem.W.Frag} {H : Hp} {xs : List Vl} {vs : List V} {i : Int} {x : Vl} (r : RVs K H xs vs) (h : atI xs i = some x) : ∃ v, atI vs i = some v ∧ RV K H x v := by
  unfold atI at h ⊢
  rw [r.length]
  cases e : ixN xs.length i with
  | none => rw [e] at h; cases h
  | some j =>
    rw [e] at h
    exact r.get h
def bIxL : B2 := fun x y g P => ∃ xs i z, (IsL g x xs ∨ x = .tup xs) ∧ y = .int i ∧ atI xs i = some z ∧ P z g
def bIxS : B2 := fun x y g P => ∃ z i c, x = .str z ∧ y = .int i ∧ z.length ≤ sizeLine ∧ atI z.cps.toList i = some c ∧ P (.str ⟨#[c]⟩) g
def bIxD : B2 := fun x y g P => ∃ k kvs z, IsDct g x kvs ∧ y = kL k ∧ valL kvs k = some z ∧ P z g
section
variable {X : Cx} {K : PySem.W.Frag}
theorem rel_ixL : Rel2 K bIxL (fun x y H Q => rIxL K x y H Q ∨ rIxT K x y H Q) := by
  rintro x y g P v u H Q ⟨xs, i, z, h, rfl, e, q⟩ hr r1 r2 k
  rcases h with h | rfl
  · obtain ⟨a, vs, rfl, s, rs⟩ := h.sq hr r1
    obtain ⟨w, e1, r3⟩ := atI_rel rs e
    exact .inl ⟨a, vs, i, w, rfl, r2, s, e1, k _ g _ _ q .refl hr r3⟩
  · obtain ⟨a, vs, rfl, s, rs⟩ := r1
    obtain ⟨w, e1, r3⟩ := atI_rel rs e
    exact .inr ⟨a, vs, i, w, rfl, r2, s, e1, k _ g _ _ q .refl hr r3⟩
theorem rel_ixS : Rel2 K bIxS rIxS := by
  rintro x y g P v u H Q ⟨z, i, c, rfl, rfl, hl, e, q⟩ hr r1 r2 k
  exact ⟨z, i, c, r1, r2, hl, e, k _ g _ _ q .refl hr rfl⟩
def rIxDk : R2 := fun x y H Q => ∃ a v, x = .ref a ∧ DGet H a y (some v) ∧ Q v H
theorem ix_dct (hu : X.A.units + 1 < cLine) : IxR X rIxDk := by
  rintro value slice pins s σ H x y v u Q I rx ry ⟨a, z, rfl, dg, q⟩ hs
  obtain rfl : v = Value.ref a := rx
  exact tail_any (dict_typeIs I dg) PySem.F.slot_dict_getitem.lookup (d_getItem hu I dg ry fun w s' I' rw' => ⟨z, H, I', rw', q⟩) hs
theorem rel_ixD : Rel2 K bIxD rIxDk := by
  rintro x y g P v u H Q ⟨k, kvs, z, hd, rfl, e, q⟩ hr r1 r2 kk
  obtain ⟨a, es, rfl, rd, rk⟩ := hd.rd hr r1
  rcases rk.val (k := k) with ⟨h1, h2⟩ | ⟨z', w, h1, h2, r3⟩
  · rw [h1] at e; cases e
  · rw [h1] at e; cases e
    exact ⟨a, w, rfl, .inl ⟨es, k, rd, kL_rel r2, h2.symm⟩, kk _ g _ _ q .refl hr r3⟩
end
def bIx : B2 := bIxL.or (bIxS.or bIxD)
theorem op_bIx {X : Cx} (hu : X.A.units + 1 < cLine) : ∃ r, IxR X r ∧ Rel2 X.K bIx r := ⟨_, (ix_list.or ix_tup).or (ix_str.or (ix_dct hu)), rel_ixL.or (rel_ixS.or rel_ixD)⟩
/-! ### slices -/
abbrev B3 := Vl → Option Int → Option Int → Gp → Po → Prop
def RelSl (K : PySem.W.Frag) (b : B3) (r : V → Option Int → Option Int → Hp → VK → Prop) : Prop := ∀ (x : Vl) (lo hi : Option Int) (g : Gp) (P : Po) (v : V) (H : Hp) (Q : VK), b x lo hi g P → HR K g H → RV K H x v →
  (∀ z g' w H', P z g' → Tx K H H' → HR K g' H' → RV K H' z w → Q w H') → r v lo hi H Q
def cutL {α : Type} (xs : List α) (lo hi : Option Int) : List α := (xs.drop (HT.sIx xs.length 0 lo)).take (HT.sIx xs.length xs.length hi - HT.sIx xs.length 0 lo)
theorem cut_rel {K : PySem.W.Frag} {H : Hp} {xs : List Vl} {vs : List V} (r : RVs K H xs vs) (lo hi : Option Int) : RVs K H (cutL xs lo hi) (cutV vs lo hi) := by
  unfold cutL cutV
  rw [r.length]
  exact (r.drop _).take _
def bSl : B3 := fun x lo hi g P => (∃ xs, IsL g x xs ∧ ∀ p, g p = none → P (.ref p) (gup g p (.lst (cutL xs lo hi)))) ∨
  (∃ xs, x = .tup xs ∧ P (.tup (cutL xs lo hi)) g) ∨ ∃ z, x = .str z ∧ z.length ≤ sizeLine ∧ P (.str (cutS z lo hi)) g
theorem op_bSl {X : Cx} : ∃ r, SlR X r ∧ RelSl X.K bSl r := by
  refine ⟨_, sl_list.or (sl_tupA.or sl_str), ?_⟩
  rintro x lo hi g P v H Q q hr r1 k
  rcases q with ⟨xs, h, q⟩ | ⟨xs, rfl, q⟩ | ⟨z, rfl, hl, q⟩
  · obtain ⟨a, vs, rfl, s, rs⟩ := h.sq hr r1
    exact .inl ⟨a, vs, rfl, s, fun p hp => made_lst hr (cut_rel rs lo hi) hp q k⟩
  · obtain ⟨a, vs, rfl, s, rs⟩ := r1
    refine .inr (.inl ⟨a, vs, rfl, s, fun z => ?_, fun _ p hp => made_tup hr (cut_rel rs lo hi) hp q k⟩)
    have e : cutL xs lo hi = xs := by
      unfold cutL
      rw [rs.length] at z
      rw [z.1, z.2]
      simp
    rw [e] at q
    exact k _ g _ _ q .refl hr ⟨a, vs, rfl, s, rs⟩
  · exact .inr (.inr ⟨z, r1, hl, k _ g _ _ q .refl hr rfl⟩)
/-! ### stores o[i] = v -/
def bSet (o i v : Vl) (g : Gp) (P : Gp → Prop) : Prop :=
  (∃ a xs k j, o = .ref a ∧ i = .int k ∧ g a = some (.lst xs) ∧ ixN xs.length k = some j ∧ P (gup g a (.lst (xs.set j v)))) ∨
  ∃ a kvs k, o = .ref a ∧ i = kL k ∧ g a = some (.dct kvs) ∧ kvs.length < sizeLine ∧ P (gup g a (.dct (putL kvs k v)))
def RelSet (K : PySem.W.Frag) (r : TSet) : Prop := ∀ (o i v : Vl) (g : Gp) (P : Gp → Prop) (o' i' v' : V) (H : Hp) (Q : Hp → Prop), bSet o i v g P → HR K g H → RV K H o o' → RV K H i i' → RV K H v v' →
  (∀ g' H', P g' → Tx K H H' → HR K g' H' → Q H') → r o' i' v' H Q
theorem PSet.or {X : Cx} {r s : TSet} (h : PSet X r) (h' : PSet X s) : PSet X (fun o i v H Q => r o i v H Q ∨ s o i v H Q) := by
  rintro pins s0 σ H o i v ov iv u Q I ro ri rv (q | q)
  · exact h pins s0 σ H o i v ov iv u Q I ro ri rv q
  · exact h' pins s0 σ H o i v ov iv u Q I ro ri rv q
def rSetD : TSet := fun o i v H Q => ∃ a H', o = .ref a ∧ DPut H a i v H' ∧ Q H'
theorem set_dct {X : Cx} (hu : X.A.units + 1 < cLine) : PSet X rSetD := by
  rintro pins s σ H o i v ov iv u Q I ro ri rv ⟨a, H', rfl, dp, q⟩
  obtain rfl : ov = Value.ref a := ro
  exact d_setItem hu I dp ri rv fun s' I' => ⟨H', I', q⟩
theorem op_bSet {X : Cx} (hu : X.A.units + 1 < cLine) : ∃ r, PSet X r ∧ RelSet X.K r := by
  refine ⟨_, PSet.or set_list (set_dct hu), ?_⟩
  rintro o i v g P o' i' v' H Q q hr r1 r2 r3 k
  rcases q with ⟨a, xs, n, j, rfl, rfl, e, hj, q⟩ | ⟨a, kvs, kk, rfl, rfl, e, hl, q⟩
  · obtain ⟨vs, e1, s1⟩ := hr a _ e
    obtain ⟨t, h⟩ := put_lst hr e (s1.set (i := j) r3)
    exact .inl ⟨a, vs, n, j, r1, r2, e1, by rw [s1.length]; exact hj, k _ _ q t h⟩
  · obtain ⟨es, e1, s1⟩ := hr a _ e
    have n : NoT (H a) := by rw [e1]; trivial
    have t : Tx X.K H (upd H a (.dK (putK es kk v'))) := tx_upd n
    refine .inr ⟨a, _, r1, .inl ⟨es, kk, e1, kL_rel r2, by rw [s1.length]; exact hl, rfl⟩, k _ _ q t (hr.put n ⟨_, upd_same, (s1.put r3).mono t⟩)⟩
/-! ### unary -/
def bNeg : Vl → Gp → Po → Prop := fun x g P => ∃ i, x = .int i ∧ P (.int (-i)) g
end MP
set_option Elab.async false
set_option linter.all false
set_option maxRecDepth 100000
/-! MP, part 4: expressions: names, displays, operators, tests, fields, calls. -/
namespace MP
open PySem PySem.Spec PyProof.Rows L2
/-! ### forms of the text -/
def notStar : Expr → Bool
  | .Starred _ _ => false
  | _ => true
theorem starEach_cons {e : Expr} {es : List Expr} {env : PySem.Env} (h : notStar e = true) : starEach (e :: es) env = (false, eval e env) :: starEach es env := by
  cases e <;> first | rfl | cases h
theorem starEach_plain {env : PySem.Env} {pos : Pos} : ∀ {es : List Expr}, es.all notStar = true → (backTo pos (starEach es env)).any (·.1) = false
  | [], _ => rfl
  | e :: es, h => by
    rw [List.all_cons, Bool.and_eq_true] at h
    rw [starEach_cons h.1]
    show (false || (backTo pos (starEach es env)).any (·.1)) = false
    rw [starEach_plain h.2] <;> rfl
theorem starEach_all {env : PySem.Env} {pos : Pos} : ∀ {es : List Expr}, es.all notStar = true → (backTo pos (starEach es env)).all (fun x => !x.1) = true
  | [], _ => rfl
  | e :: es, h => by
    rw [List.all_cons, Bool.and_eq_true] at h
    rw [starEach_cons h.1]
    show (!false && (backTo pos (starEach es env)).all (fun x => !x.1)) = true
    rw [starEach_all h.2] <;> rfl
/-- not super() -/
def attrOk : Expr → Bool
  | .Call (.Name id _) [] [] _ => id != ("super" : Str)
  | _ => true
theorem attr_base {o : Expr} {f : Str} {env : PySem.Env} {w : Sem Value} (h : attrOk o = true) : attributeBase o f env w = w := by
  unfold attributeBase
  split
  · rename_i id p pos
    have h' : (id != ("super" : Str)) = true := h
    simp only [h', Bool.true_or, if_true]
    try exact bind_pure w
  · rfl
/-- the test of e is its value's truth -/
def plainTest : Expr → Bool
  | .UnaryOp .Not _ _ => false
  | .BoolOp _ _ _ => false
  | .IfExp _ _ _ _ => false
  | .Compare _ _ _ _ => false
  | _ => true
theorem plain_test {e : Expr} {env : PySem.Env} (h : plainTest e = true) (whole : Sem Value) : isTrue e env whole = (do let v ← whole; standAt e.pos; holding [v] (truthy v)) := by
  cases e with
  | UnaryOp op x p => cases op <;> first | rfl | cases h
  | BoolOp _ _ _ => cases h
  | IfExp _ _ _ _ => cases h
  | Compare _ _ _ _ => cases h
  | _ => rfl
/-- a method call on one line, with few arguments -/
def methOk (es : List Expr) (apos pos : Pos) : Bool := es.all notStar && (decide (es.length < 30) && apos.endLine == pos.line)
theorem meth_form {o : Expr} {m : Str} {apos pos : Pos} {es : List Expr} {env : PySem.Env} (h : methOk es apos pos = true) (ha : attrOk o = true) :
    eval (.Call (.Attribute o m apos) es [] pos) env = (do
      let ov ← eval o env
      standAt apos.atName
      let (f, first) ← holding [ov] (getMethod ov m (do return (← importBound o env).getD true))
      callWith pos f first (backTo pos (starEach es env)) (backToKw pos (keywordEach [] env))) := by
  unfold methOk at h
  rw [Bool.and_eq_true, Bool.and_eq_true] at h
  obtain ⟨h1, h2, h3⟩ := h
  have h2 : es.length < 30 := of_decide_eq_true h2
  have few : methodCallForm (es.length + ([] : List Keyword).length) (backTo pos (starEach es env)) (backToKw pos (keywordEach [] env)) = true := by
    unfold methodCallForm
    rw [starEach_all h1]
    show (true && ([] : List (Option Str × Sem Value)).all (·.1.isSome) && decide (es.length + 0 + 0 < 30)) = true
    rw [decide_eq_true (by omega)] <;> rfl
  show (do
    let ov ← attributeBase o m env (eval o env)
    standAt apos.atName
    methodCall o m apos pos env ov (es.length + ([] : List Keyword).length) (backTo pos (starEach es env)) (backToKw pos (keywordEach [] env))) = _
  rw [attr_base ha]
  unfold methodCall calleeOf methodCallPos
  rw [few]
  simp only [if_true, h3, Bool.not_true, Bool.false_or, pure_bind]
/-! ### what a def is worth -/
/-- a contract: arguments, cells, what is wanted of the value, of an exception -/
abbrev Ct := List Vl → Gp → Po → Xo → Prop
def spOf (K : PySem.W.Frag) (ct : Ct) : Sp := fun vs H Q E => ∃ xs g P Xp, HR K g H ∧ RVs K H xs vs ∧ ct xs g P Xp ∧ (∀ r g' v H', P r g' → Tx K H H' → HR K g' H' → RV K H' r v → Q v H') ∧
  ∀ c fs g' cls d H', Xp c fs g' → Tx K H H' → HR K g' H' → XR K H' c fs cls d → E cls d H'
/-- the def at f, called by positions, keeps the contract -/
structure FnP (P : Program) (w : World) (K : PySem.W.Frag) (mg : Str → Option Value) (base : Heap) (k : Nat) (f : Addr) (ct : Ct) : Prop where
  run : ∀ (A : Around) (outer : List PySem.Env) (s : Shared) (H : Hp) (us : List Value) (vs : List V) (Q : VK) (E : XK), Room k A → A.guards = some [] → Env0 P w K mg base A outer s H → Vals vs us → spOf K ct vs H Q E →
    codeAny (model P w) A (.call (.ref f) ⟨us, []⟩) (CR (L2.CX P w) outer P w H s Q E) s
theorem FnP.mono {P : Program} {w : World} {K : PySem.W.Frag} {mg : Str → Option Value} {base : Heap} {j k : Nat} {f : Addr} {ct : Ct} (F : FnP P w K mg base j f ct) (h : j ≤ k) : FnP P w K mg base k f ct :=
  ⟨fun A outer s H us vs Q E hr => F.run A outer s H us vs Q E (hr.mono h)⟩
section
variable {X : Cx} {pins : List (Addr × Obj)} {σ : L2.St} {H : Hp} {s : Shared} {k : Nat} {f : Addr} {ct : Ct} {W : WX}
theorem run_P {Q : VK} {us : List Value} {vs : List V} (F : FnP X.prog X.w X.K X.mg X.base k f ct) (hr : Room k X.A) (hg : X.A.guards = some []) (tk : Takes X W) (I : Inv X pins σ H s) (r : Vals vs us)
    (h : spOf X.K ct vs H Q fun cls d H' => W cls d σ H') : wpAny (model X.prog X.w) X.A (call (.ref f) us) (EP X pins σ Q) X.xe s := by
  refine wpAny_call (codeAny_mono (F.run X.A X.stack s H us vs Q _ hr hg I.env0 r h) fun r s' hq => ?_)
  cases r with
  | error e => exact tk e s' (XE.of_call I (fun _ _ _ h => h) hq)
  | ok fl =>
    cases fl with
    | ret u => exact I.after hq
    | next => exact False.elim hq
    | brk => exact False.elim hq
    | cont => exact False.elim hq
end
/-! ### expressions -/
def wVar (i : Nat) : WE := fun env g P _ => ∃ x, env[i]? = some (some x) ∧ P x g
def wC (x : Vl) : WE := fun _ g P _ => P x g
def wBin (b : B2) (wa wb : WE) : WE := fun env g P Xp => wa env g (fun x g1 => wb env g1 (fun y g2 => b x y g2 P) Xp) Xp
def wUn (b : Vl → Gp → Po → Prop) (wa : WE) : WE := fun env g P Xp => wa env g (fun x g1 => b x g1 P) Xp
def aNil : WA := fun _ g P _ => P [] g
def aCons (w : WE) (r : WA) : WA := fun env g P Xp => w env g (fun x g1 => r env g1 (fun xs g2 => P (x :: xs) g2) Xp) Xp
def wTup (r : WA) : WE := fun env g P Xp => r env g (fun xs g1 => xs.length ≤ sizeLine ∧ P (.tup xs) g1) Xp
def wLst (r : WA) : WE := fun env g P Xp => r env g (fun xs g1 => xs.length ≤ sizeLine ∧ ∀ p, g1 p = none → P (.ref p) (gup g1 p (.lst xs))) Xp
section
variable {X : Cx} {e a b c : Expr} {es : List Expr} {wa wb wc : WE} {ra : WA} {pos : Pos}
theorem se_var {i : Nat} {x : Str} (hN : X.N[i]? = some x) (hv : Vis X.env.scope x) (hd : (x == ("__debug__" : Str)) = false) (hcd : (x == ("__classdict__" : Str)) = false) : SE X (.Name x pos) (wVar i) := fun W tk =>
  PE.imp (pe_var hN hv hd hcd) fun σ H Q ⟨env, g, P, Xp, rs, hr, ⟨x, e, p⟩, hp, hx⟩ => by
    obtain ⟨v, e1, r1⟩ := rs.val i x e
    exact ⟨v, e1, hp _ g _ _ p .refl hr r1⟩
/-- a constant -/
theorem se_const {x : Vl} {v : V} (h : PE X e (tC v)) (r : ∀ H, RV X.K H x v) : SE X e (wC x) := fun W tk =>
  PE.imp h fun σ H Q ⟨env, g, P, Xp, rs, hr, p, hp, hx⟩ => hp _ g _ _ p .refl hr (r H)
theorem se_int {i : Int} {j : Nat} : SE X (.Constant (.int i) j pos) (wC (.int i)) := se_const pe_int fun _ => rfl
theorem se_str {x : Str} {j : Nat} : SE X (.Constant (.str x) j pos) (wC (.str x)) := se_const pe_str fun _ => rfl
theorem se_bl {x : Bool} {j : Nat} : SE X (.Constant (.bool x) j pos) (wC (.bl x)) := se_const pe_bl fun _ => rfl
theorem se_non {j : Nat} : SE X (.Constant .none j pos) (wC .non) := se_const pe_non fun _ => rfl
theorem se_bin {op : Operator} {bb : B2} (ho : ∃ r, OpR X (binaryOp op) r ∧ Rel2 X.K bb r) (ha : SE X a wa) (hb : SE X b wb) : SE X (.BinOp a op b pos) (wBin bb wa wb) := fun W tk => by
  obtain ⟨r, ho, rel⟩ := ho
  refine PE.imp (pe_op ho (ha W tk) (hb W tk)) fun σ H Q ⟨env, g, P, Xp, rs, hr, q, hp, hx⟩ => ?_
  refine ⟨env, g, _, Xp, rs, hr, q, fun x g1 v H1 q1 t1 hr1 r1 => ?_, hx⟩
  refine ⟨env, g1, _, Xp, rs.mono t1, hr1, q1, fun y g2 u H2 q2 t2 hr2 r2 => ?_, hx.step t1⟩
  exact rel x y g2 P v u H2 Q q2 hr2 (r1.mono t2) r2 fun z g' w H' p t h r => hp z g' w H' p (t1.trans (t2.trans t)) h r
theorem se_cmp {op : CmpOp} {bb : B2} (hm : behindInMarks op b = false) (ho : ∃ r, OpR X (compareOp op) r ∧ Rel2 X.K bb r) (ha : SE X a wa) (hb : SE X b wb) : SE X (.Compare a [op] [b] pos) (wBin bb wa wb) := fun W tk => by
  obtain ⟨r, ho, rel⟩ := ho
  refine PE.imp (pe_cmpR ho (ha W tk) (hb W tk) hm) fun σ H Q ⟨env, g, P, Xp, rs, hr, q, hp, hx⟩ => ?_
  refine ⟨env, g, _, Xp, rs, hr, q, fun x g1 v H1 q1 t1 hr1 r1 => ?_, hx⟩
  refine ⟨env, g1, _, Xp, rs.mono t1, hr1, q1, fun y g2 u H2 q2 t2 hr2 r2 => ?_, hx.step t1⟩
  exact rel x y g2 P v u H2 Q q2 hr2 (r1.mono t2) r2 fun z g' w H' p t h r => hp z g' w H' p (t1.trans (t2.trans t)) h r
theorem se_un {op : UnaryOp} {bb : Vl → Gp → Po → Prop} {r : V → Hp → VK → Prop} (ho : UnR X (unaryOp op) r)
    (rel : ∀ (x : Vl) (g : Gp) (P : Po) (v : V) (H : Hp) (Q : VK), bb x g P → HR X.K g H → RV X.K H x v → (∀ z g' w H', P z g' → Tx X.K H H' → HR X.K g' H' → RV X.K H' z w → Q w H') → r v H Q)
    (ha : SE X a wa) : SE X (.UnaryOp op a pos) (wUn bb wa) := fun W tk => by
  refine PE.imp (pe_un ho (ha W tk)) fun σ H Q ⟨env, g, P, Xp, rs, hr, q, hp, hx⟩ => ?_
  refine ⟨env, g, _, Xp, rs, hr, q, fun x g1 v H1 q1 t1 hr1 r1 => ?_, hx⟩
  exact rel x g1 P v H1 Q q1 hr1 r1 fun z g' w H' p t h r => hp z g' w H' p (t1.trans t) h r
theorem se_neg (ha : SE X a wa) : SE X (.UnaryOp .USub a pos) (wUn bNeg wa) := se_un un_neg (fun x g P v H Q ⟨i, e, q⟩ hr r1 k => ⟨i, by subst e; exact r1, k _ g _ _ q .refl hr rfl⟩) ha
theorem sa_nil : SA X [] aNil := fun W tk => PA.imp pa_nil fun σ H Q ⟨env, g, P, Xp, rs, hr, p, hp, hx⟩ => hp _ g _ _ p .refl hr .nil
theorem sa_cons (hs : notStar e = true) (he : SE X e wa) (hr : SA X es ra) : SA X (e :: es) (aCons wa ra) := fun W tk => by
  refine PA.imp (pa_cons (he W tk) (hr W tk) (starEach_cons hs)) fun σ H Q ⟨env, g, P, Xp, rs, hr, q, hp, hx⟩ => ?_
  refine ⟨env, g, _, Xp, rs, hr, q, fun x g1 v H1 q1 t1 hr1 r1 => ?_, hx⟩
  exact ⟨env, g1, _, Xp, rs.mono t1, hr1, q1, fun y g2 u H2 q2 t2 hr2 r2 => hp _ g2 _ H2 q2 (t1.trans t2) hr2 (.cons (r1.mono t2) r2), hx.step t1⟩
theorem se_tup {n : Nat} (ha : SA X es ra) : SE X (.Tuple es n pos) (wTup ra) := fun W tk => by
  refine PE.imp (pe_tup (ha W tk)) fun σ H Q ⟨env, g, P, Xp, rs, hr, q, hp, hx⟩ => ?_
  exact ⟨env, g, _, Xp, rs, hr, q, fun xs g1 vs H1 q1 t1 hr1 r1 => ⟨by rw [r1.length]; exact q1.1, fun p hpn => made_tup hr1 r1 hpn q1.2 fun z g' w H' pz t h r => hp z g' w H' pz (t1.trans t) h r⟩, hx⟩
theorem se_lst (ha : SA X es ra) : SE X (.List es pos) (wLst ra) := fun W tk => by
  refine PE.imp (pe_lst (ha W tk)) fun σ H Q ⟨env, g, P, Xp, rs, hr, q, hp, hx⟩ => ?_
  exact ⟨env, g, _, Xp, rs, hr, q, fun xs g1 vs H1 q1 t1 hr1 r1 => ⟨by rw [r1.length]; exact q1.1, fun p hpn => made_lst hr1 r1 hpn q1.2 fun z g' w H' pz t h r => hp z g' w H' pz (t1.trans t) h r⟩, hx⟩
/-! ### subscripts, slices -/
theorem se_ix (hu : X.A.units + 1 < cLine) (hs : PlainIx b) (ha : SE X a wa) (hb : SE X b wb) : SE X (.Subscript a b pos) (wBin bIx wa wb) := fun W tk => by
  obtain ⟨r, ho, rel⟩ := op_bIx hu
  refine PE.imp (pe_ix ho (ha W tk) (hb W tk) hs) fun σ H Q ⟨env, g, P, Xp, rs, hr, q, hp, hx⟩ => ?_
  refine ⟨env, g, _, Xp, rs, hr, q, fun x g1 v H1 q1 t1 hr1 r1 => ?_, hx⟩
  refine ⟨env, g1, _, Xp, rs.mono t1, hr1, q1, fun y g2 u H2 q2 t2 hr2 r2 => ?_, hx.step t1⟩
  exact rel x y g2 P v u H2 Q q2 hr2 (r1.mono t2) r2 fun z g' w H' p t h r => hp z g' w H' p (t1.trans (t2.trans t)) h r
end
end MP
set_option Elab.async false
set_option linter.all false
set_option maxRecDepth 100000
/-! MP, part 5: tests, and/or/not, fields, calls of one's own defs, methods, classes. -/
namespace MP
open PySem PySem.Spec PyProof.Rows L2
/-! ### is -/
def isNon : Vl → Bool
  | .non => true
  | _ => false
theorem isNon_rel {K : PySem.W.Frag} {H : Hp} {x : Vl} {v : V} (r : RV K H x v) : decide (v = .non) = isNon x := by
  cases x with
  | non => rw [show v = .non from r] <;> rfl
  | bl b => rw [show v = .bl b from r] <;> rfl
  | int b => rw [show v = .int b from r] <;> rfl
  | str b => rw [show v = .str b from r]; exact decide_eq_false fun z => nomatch z
  | ref b => rw [show v = .ref b from r] <;> rfl
  | tup xs =>
    obtain ⟨a, vs, e, _⟩ := r
    rw [e] <;> rfl
  | kl a xs =>
    obtain ⟨vs, e, _⟩ := r
    rw [e] <;> rfl
def bIsN (neg : Bool) : B2 := fun x y g P => y = .non ∧ P (.bl (if neg then !isNon x else isNon x)) g
def bIsB (neg : Bool) : B2 := fun x y g P => ∃ a b, x = .bl a ∧ y = .bl b ∧ P (.bl (if neg then !decide (a = b) else decide (a = b))) g
theorem op_bIs {X : Cx} : ∃ r, OpR X (compareOp .Is) r ∧ Rel2 X.K ((bIsN false).or (bIsB false)) r := by
  refine ⟨_, op_isN.or op_is_bl, Rel2.or ?_ ?_⟩
  · rintro x y g P v u H Q ⟨rfl, q⟩ hr r1 r2 k
    exact ⟨r2, k _ g _ _ q .refl hr (by rw [isNon_rel r1] <;> rfl)⟩
  · rintro x y g P v u H Q ⟨a, b, rfl, rfl, q⟩ hr r1 r2 k
    exact ⟨a, b, r1, r2, k _ g _ _ q .refl hr rfl⟩
theorem op_bIsNot {X : Cx} : ∃ r, OpR X (compareOp .IsNot) r ∧ Rel2 X.K ((bIsN true).or (bIsB true)) r := by
  refine ⟨_, op_notN.or op_isnot_bl, Rel2.or ?_ ?_⟩
  · rintro x y g P v u H Q ⟨rfl, q⟩ hr r1 r2 k
    exact ⟨r2, k _ g _ _ q .refl hr (by rw [isNon_rel r1] <;> rfl)⟩
  · rintro x y g P v u H Q ⟨a, b, rfl, rfl, q⟩ hr r1 r2 k
    exact ⟨a, b, r1, r2, k _ g _ _ q .refl hr rfl⟩
/-! ### truth -/
def Tru (g : Gp) (x : Vl) (k : Bool) : Prop :=
  match x with
  | .non => k = false
  | .bl b => k = b
  | .int i => k = (i != 0)
  | .str y => y.length ≤ sizeLine ∧ k = ((y.length : Int) != 0)
  | .tup xs => k = !xs.isEmpty
  | .ref a => (∃ xs, g a = some (.lst xs) ∧ k = !xs.isEmpty) ∨ ∃ kvs, g a = some (.dct kvs) ∧ k = !kvs.isEmpty
  | .kl _ xs => k = !xs.isEmpty
theorem RVs.isEmpty {K : PySem.W.Frag} {H : Hp} {xs : List Vl} {vs : List V} (r : RVs K H xs vs) : vs.isEmpty = xs.isEmpty := by
  have e := r.length
  cases xs <;> cases vs <;> simp at e ⊢
theorem RKs.isEmpty {κ : Type} [DecidableEq κ] {K : PySem.W.Frag} {H : Hp} {xs : List (κ × Vl)} {vs : List (κ × V)} (r : RKs K H xs vs) : vs.isEmpty = xs.isEmpty := by
  have e := r.length
  cases xs <;> cases vs <;> simp at e ⊢
theorem Tru.rel {K : PySem.W.Frag} {g : Gp} {H : Hp} {x : Vl} {v : V} {k : Bool} (h : Tru g x k) (hr : HR K g H) (r : RV K H x v) : TruV K v H k := by
  cases x with
  | non => rw [show v = .non from r]; exact h
  | bl b => rw [show v = .bl b from r]; exact h
  | int b => rw [show v = .int b from r]; exact h
  | str b => rw [show v = .str b from r]; exact h
  | ref a =>
    rw [show v = .ref a from r]
    rcases h with ⟨xs, e, hk⟩ | ⟨kvs, e, hk⟩
    · obtain ⟨vs, e1, s⟩ := hr a _ e
      exact .inl ⟨vs, .of e1, by rw [s.isEmpty]; exact hk⟩
    · obtain ⟨es, e1, s⟩ := hr a _ e
      exact .inr (.inr ⟨es, e1, by rw [s.isEmpty]; exact hk⟩)
  | tup xs =>
    obtain ⟨a, vs, e, s, rs⟩ := r
    rw [e]
    have hk : k = !xs.isEmpty := h
    exact .inr (.inl ⟨vs, s, by rw [rs.isEmpty]; exact hk⟩)
  | kl a xs =>
    obtain ⟨vs, e, s, rs⟩ := r
    rw [e]
    have hk : k = !xs.isEmpty := h
    refine .inl ⟨vs, ?_, by rw [rs.isEmpty]; exact hk⟩
    rcases s with ⟨o, h⟩ | h
    · exact .inl (.inr ⟨o, h⟩)
    · exact .inr h
/-! ### tests -/
def wtV (wa : WE) : WT := fun env g P Xp => wa env g (fun x g1 => ∃ k, Tru g1 x k ∧ P k g1) Xp
def wtBin (b : B2) (wa wb : WE) : WT := fun env g P Xp => wBin b wa wb env g (fun z g1 => ∃ k, z = .bl k ∧ P k g1) Xp
def wChain (b b' : B2) (wa wb wc : WE) : WE := fun env g P Xp => wa env g (fun x g1 => wb env g1 (fun y g2 => b x y g2 fun z g3 => ∃ k, z = .bl k ∧ if k = true then wc env g3 (fun w g4 => b' y w g4 P) Xp else P (.bl false) g3) Xp) Xp
def wtOfE (w : WE) : WT := fun env g P Xp => w env g (fun z g1 => ∃ k, z = .bl k ∧ P k g1) Xp
def wtNot (w : WT) : WT := fun env g P Xp => w env g (fun k g1 => P (!k) g1) Xp
def wtAnd : List WT → WT
  | [] => fun _ g P _ => P true g
  | [w] => w
  | w :: r => fun env g P Xp => w env g (fun k g1 => if k = true then wtAnd r env g1 P Xp else P false g1) Xp
def wtOr : List WT → WT
  | [] => fun _ g P _ => P false g
  | [w] => w
  | w :: r => fun env g P Xp => w env g (fun k g1 => if k = true then P true g1 else wtOr r env g1 P Xp) Xp
section
variable {X : Cx} {e a b c : Expr} {es : List Expr} {wa wb wc : WE} {pos : Pos}
theorem st_val (he : plainTest e = true) (ha : SE X e wa) : ST X e (wtV wa) := fun W tk => by
  refine PT.imp (pt_truth (ha W tk) (plain_test he)) fun σ H Q ⟨env, g, P, Xp, rs, hr, q, hp, hx⟩ => ?_
  refine ⟨env, g, _, Xp, rs, hr, q, fun x g1 v H1 ⟨k, h, p⟩ t1 hr1 r1 => ⟨k, h.rel hr1 r1, hp k g1 H1 p t1 hr1⟩, hx⟩
theorem st_cmp {op : CmpOp} {bb : B2} (hm : behindInMarks op b = false) (ho : ∃ r, OpR X (compareOp op) r ∧ Rel2 X.K bb r) (ha : SE X a wa) (hb : SE X b wb) : ST X (.Compare a [op] [b] pos) (wtBin bb wa wb) := fun W tk => by
  obtain ⟨r, ho, rel⟩ := ho
  refine PT.imp (pt_cmpR ho (ha W tk) (hb W tk) hm) fun σ H Q ⟨env, g, P, Xp, rs, hr, q, hp, hx⟩ => ?_
  refine ⟨env, g, _, Xp, rs, hr, q, fun x g1 v H1 q1 t1 hr1 r1 => ?_, hx⟩
  refine ⟨env, g1, _, Xp, rs.mono t1, hr1, q1, fun y g2 u H2 q2 t2 hr2 r2 => ?_, hx.step t1⟩
  refine rel x y g2 _ v u H2 _ q2 hr2 (r1.mono t2) r2 fun z g' w H' ⟨k, e, p⟩ t h r => ?_
  subst e
  exact ⟨k, r, hp k g' H' p (t1.trans (t2.trans t)) h⟩
theorem chain_ok {bb bb' : B2} {r r' : R2} {W : WX} (rel : Rel2 X.K bb r) (rel' : Rel2 X.K bb' r') {σ : L2.St} {H : Hp} {Q : VK} (h : tE X.K W (wChain bb bb' wa wb wc) σ H Q) : tChain r r' (tE X.K W wa) (tE X.K W wb) (tE X.K W wc) σ H Q := by
  obtain ⟨env, g, P, Xp, rs, hr, q, hp, hx⟩ := h
  refine ⟨env, g, _, Xp, rs, hr, q, fun x g1 v H1 q1 t1 hr1 r1 => ?_, hx⟩
  refine ⟨env, g1, _, Xp, rs.mono t1, hr1, q1, fun y g2 u H2 q2 t2 hr2 r2 => ?_, hx.step t1⟩
  refine rel x y g2 _ v u H2 _ q2 hr2 (r1.mono t2) r2 fun z g' w H' ⟨k, e, p⟩ t h r => ?_
  subst e
  refine ⟨k, r, ?_⟩
  have t13 := t1.trans (t2.trans t)
  cases k with
  | true =>
    rw [if_pos rfl] at p ⊢
    refine ⟨env, g', _, Xp, rs.mono t13, h, p, fun w2 g4 u2 H4 q4 t4 hr4 r4 => ?_, hx.step t13⟩
    exact rel' y w2 g4 P u u2 H4 Q q4 hr4 (r2.mono (t.trans t4)) r4 fun z5 g5 w5 H5 p5 t5 h5 r5 => hp z5 g5 w5 H5 p5 (t13.trans (t4.trans t5)) h5 r5
  | false =>
    rw [if_neg Bool.false_ne_true] at p ⊢
    exact hp _ g' _ H' p t13 h rfl
theorem se_chain {op op' : CmpOp} {bb bb' : B2} (hm : lastMarks [op, op'] [b, c] = false) (ho : ∃ r, OpR X (compareOp op) r ∧ Rel2 X.K bb r) (ho' : ∃ r, OpR X (compareOp op') r ∧ Rel2 X.K bb' r) (ha : SE X a wa) (hb : SE X b wb) (hc : SE X c wc)
    (h1 : ∀ (W : WX) (r r' : R2), OpR X (compareOp op) r → OpR X (compareOp op') r' → PE X (.Compare a [op, op'] [b, c] pos) (tChain r r' (tE X.K W wa) (tE X.K W wb) (tE X.K W wc))) : SE X (.Compare a [op, op'] [b, c] pos) (wChain bb bb' wa wb wc) := fun W tk => by
  obtain ⟨r, ho, rel⟩ := ho
  obtain ⟨r', ho', rel'⟩ := ho'
  exact PE.imp (h1 W r r' ho ho') fun σ H Q h => chain_ok rel rel' h
theorem st_not {w : WT} (ha : ST X a w) : ST X (.UnaryOp .Not a pos) (wtNot w) := fun W tk => by
  refine PT.imp (pt_not (ha W tk)) fun σ H Q ⟨env, g, P, Xp, rs, hr, q, hp, hx⟩ => ?_
  exact ⟨env, g, _, Xp, rs, hr, q, fun k g1 H1 p t h => hp (!k) g1 H1 p t h, hx⟩
/-- several tests -/
inductive STs (X : Cx) : List Expr → List WT → Prop where
  | one {a : Expr} {w : WT} (h : ST X a w) : STs X [a] [w]
  | cons {a b : Expr} {es : List Expr} {w v : WT} {ws : List WT} (h : ST X a w) (r : STs X (b :: es) (v :: ws)) : STs X (a :: b :: es) (w :: v :: ws)
theorem sw_and {ws : List WT} (h : STs X es ws) (W : WX) (tk : Takes X W) : PW X (.BoolOp .And es pos) (tT X.K W (wtAnd ws)) := by
  induction h with
  | one h => exact pw_and1 (h W tk)
  | cons h r ih =>
    refine PW.imp (pw_and (h W tk) ih) fun σ H Q ⟨env, g, P, Xp, rs, hr, q, hp, hx⟩ => ?_
    refine ⟨env, g, _, Xp, rs, hr, q, fun k g1 H1 p t hr1 => ?_, hx⟩
    cases k with
    | true =>
      rw [if_pos rfl] at p ⊢
      exact ⟨env, g1, P, Xp, rs.mono t, hr1, p, fun k2 g2 H2 p2 t2 h2 => hp k2 g2 H2 p2 (t.trans t2) h2, hx.step t⟩
    | false =>
      rw [if_neg Bool.false_ne_true] at p ⊢
      exact hp _ g1 H1 p t hr1
theorem sw_or {ws : List WT} (h : STs X es ws) (W : WX) (tk : Takes X W) : PW X (.BoolOp .Or es pos) (tT X.K W (wtOr ws)) := by
  induction h with
  | one h => exact pw_or1 (h W tk)
  | cons h r ih =>
    refine PW.imp (pw_or (h W tk) ih) fun σ H Q ⟨env, g, P, Xp, rs, hr, q, hp, hx⟩ => ?_
    refine ⟨env, g, _, Xp, rs, hr, q, fun k g1 H1 p t hr1 => ?_, hx⟩
    cases k with
    | true =>
      rw [if_pos rfl] at p ⊢
      exact hp _ g1 H1 p t hr1
    | false =>
      rw [if_neg Bool.false_ne_true] at p ⊢
      exact ⟨env, g1, P, Xp, rs.mono t, hr1, p, fun k2 g2 H2 p2 t2 h2 => hp k2 g2 H2 p2 (t.trans t2) h2, hx.step t⟩
theorem st_and {ws : List WT} (h : STs X es ws) : ST X (.BoolOp .And es pos) (wtAnd ws) := fun W tk => (sw_and h W tk).pt
theorem st_or {ws : List WT} (h : STs X es ws) : ST X (.BoolOp .Or es pos) (wtOr ws) := fun W tk => (sw_or h W tk).pt
/-! ### .. as values -/
def wNot (wa : WE) : WE := fun env g P Xp => wa env g (fun x g1 => ∃ k, x = .bl k ∧ P (.bl (!k)) g1) Xp
def wAnd : List WE → WE
  | [] => fun _ g P _ => P (.bl true) g
  | [w] => w
  | w :: r => fun env g P Xp => w env g (fun x g1 => ∃ k, x = .bl k ∧ if k = true then wAnd r env g1 P Xp else P (.bl false) g1) Xp
def wOr : List WE → WE
  | [] => fun _ g P _ => P (.bl false) g
  | [w] => w
  | w :: r => fun env g P Xp => w env g (fun x g1 => ∃ k, x = .bl k ∧ if k = true then P (.bl true) g1 else wOr r env g1 P Xp) Xp
def wIf (c : WT) (wa wb : WE) : WE := fun env g P Xp => c env g (fun k g1 => if k = true then wa env g1 P Xp else wb env g1 P Xp) Xp
inductive SEs (X : Cx) : List Expr → List WE → Prop where
  | one {a : Expr} {w : WE} (h : SE X a w) : SEs X [a] [w]
  | cons {a b : Expr} {es : List Expr} {w v : WE} {ws : List WE} (h : SE X a w) (r : SEs X (b :: es) (v :: ws)) : SEs X (a :: b :: es) (w :: v :: ws)
theorem se_not (ha : SE X a wa) : SE X (.UnaryOp .Not a pos) (wNot wa) := fun W tk => by
  refine PE.imp (pe_not (ha W tk)) fun σ H Q ⟨env, g, P, Xp, rs, hr, q, hp, hx⟩ => ?_
  refine ⟨env, g, _, Xp, rs, hr, q, fun x g1 v H1 ⟨k, e, p⟩ t h r => ?_, hx⟩
  subst e
  exact ⟨k, r, hp _ g1 _ H1 p t h rfl⟩
theorem se_and {ws : List WE} (h : SEs X es ws) : SE X (.BoolOp .And es pos) (wAnd ws) := by
  induction h with
  | one h => exact fun W tk => pe_one (h W tk)
  | cons h r ih =>
    intro W tk
    refine PE.imp (pe_and (h W tk) (ih W tk)) fun σ H Q ⟨env, g, P, Xp, rs, hr, q, hp, hx⟩ => ?_
    refine ⟨env, g, _, Xp, rs, hr, q, fun x g1 v H1 ⟨k, e, p⟩ t hr1 r1 => ?_, hx⟩
    subst e
    refine ⟨k, r1, ?_⟩
    cases k with
    | true =>
      rw [if_pos rfl] at p ⊢
      exact ⟨env, g1, P, Xp, rs.mono t, hr1, p, fun k2 g2 u H2 p2 t2 h2 => hp k2 g2 u H2 p2 (t.trans t2) h2, hx.step t⟩
    | false =>
      rw [if_neg Bool.false_ne_true] at p ⊢
      exact hp _ g1 _ H1 p t hr1 rfl
theorem se_or {ws : List WE} (h : SEs X es ws) : SE X (.BoolOp .Or es pos) (wOr ws) := by
  induction h with
  | one h => exact fun W tk => pe_one (h W tk)
  | cons h r ih =>
    intro W tk
    refine PE.imp (pe_or (h W tk) (ih W tk)) fun σ H Q ⟨env, g, P, Xp, rs, hr, q, hp, hx⟩ => ?_
    refine ⟨env, g, _, Xp, rs, hr, q, fun x g1 v H1 ⟨k, e, p⟩ t hr1 r1 => ?_, hx⟩
    subst e
    refine ⟨k, r1, ?_⟩
    cases k with
    | true =>
      rw [if_pos rfl] at p ⊢
      exact hp _ g1 _ H1 p t hr1 rfl
    | false =>
      rw [if_neg Bool.false_ne_true] at p ⊢
      exact ⟨env, g1, P, Xp, rs.mono t, hr1, p, fun k2 g2 u H2 p2 t2 h2 => hp k2 g2 u H2 p2 (t.trans t2) h2, hx.step t⟩
theorem se_if {w : WT} (hc : ST X c w) (ha : SE X a wa) (hb : SE X b wb) : SE X (.IfExp c a b pos) (wIf w wa wb) := fun W tk => by
  refine PE.imp (pe_ifExp (hc W tk) (ha W tk) (hb W tk)) fun σ H Q ⟨env, g, P, Xp, rs, hr, q, hp, hx⟩ => ?_
  refine ⟨env, g, _, Xp, rs, hr, q, fun k g1 H1 p t hr1 => ?_, hx⟩
  cases k with
  | true =>
    rw [if_pos rfl] at p ⊢
    exact ⟨env, g1, P, Xp, rs.mono t, hr1, p, fun k2 g2 u H2 p2 t2 h2 => hp k2 g2 u H2 p2 (t.trans t2) h2, hx.step t⟩
  | false =>
    rw [if_neg Bool.false_ne_true] at p ⊢
    exact ⟨env, g1, P, Xp, rs.mono t, hr1, p, fun k2 g2 u H2 p2 t2 h2 => hp k2 g2 u H2 p2 (t.trans t2) h2, hx.step t⟩
/-! ### fields -/
def wFld (ok : Cn → Fd → Bool) (f : Fd) (wa : WE) : WE := fun env g P Xp => wa env g (fun x g1 => ∃ a c fs v, x = .ref a ∧ g1 a = some (.ins c fs) ∧ ok c f = true ∧ getD fs f = some v ∧ P v g1) Xp
theorem se_fld {ok : Cn → Fd → Bool} {f : Fd} (hok : ∀ c f, ok c f = true → Cls X.K (He.ga X.K c.nm) ∧ NoAttr X.K (He.ga X.K c.nm) f.nm) (hb : attrOk a = true) (ha : SE X a wa) : SE X (.Attribute a f.nm pos) (wFld ok f wa) := fun W tk => by
  refine PE.imp (pe_fld (ha W tk) (attr_base hb)) fun σ H Q ⟨env, g, P, Xp, rs, hr, q, hp, hx⟩ => ?_
  refine ⟨env, g, _, Xp, rs, hr, q, fun x g1 v H1 ⟨ad, c, fs, y, e, ea, h1, h2, p⟩ t hr1 r1 => ?_, hx⟩
  subst e
  obtain ⟨dx, es, e1, rf⟩ := hr1 ad _ ea
  obtain ⟨w, e2, r2⟩ := rf.get h2
  obtain ⟨c1, c2⟩ := hok c f h1
  exact ⟨ad, _, dx, es, w, r1, e1, c1, c2, e2, hp y g1 w H1 p t hr1 r2⟩
/-! ### calls -/
def wCall (ct : Ct) (ra : WA) : WE := fun env g P Xp => ra env g (fun vs g1 => ct vs g1 P Xp) Xp
theorem spOf_of {K : PySem.W.Frag} {W : WX} {σ : L2.St} {H H1 : Hp} {Q : VK} {ct : Ct} {g1 : Gp} {xs : List Vl} {vs : List V} {P : Po} {Xp : Xo} (t1 : Tx K H H1) (hr1 : HR K g1 H1) (r1 : RVs K H1 xs vs) (q : ct xs g1 P Xp)
    (hp : ∀ r g' v H', P r g' → Tx K H H' → HR K g' H' → RV K H' r v → Q v H') (hx : QX K W H σ Xp) : spOf K ct vs H1 Q fun cls d H' => W cls d σ H' :=
  ⟨xs, g1, P, Xp, hr1, r1, q, fun r g' v H' p t h r2 => hp r g' v H' p (t1.trans t) h r2, fun c fs g' cls d H' p t h x => hx c fs g' cls d H' p (t1.trans t) h x⟩
theorem se_call {k : Nat} {f : Addr} {ct : Ct} {x : Str} {p : Pos} {ra : WA} (F : FnP X.prog X.w X.K X.mg X.base k f ct) (hr : Room k X.A) (hgd : X.A.guards = some []) (hg : Gl X x) (hm : X.mg x = some (.ref f)) (hk : PySem.W.keepIn X.K (.ref f) = true) (hdb : (x == ("__debug__" : Str)) = false)
    (hs : (e :: es).all notStar = true) (ha : SA X (e :: es) ra) : SE X (.Call (.Name x p) (e :: es) [] pos) (wCall ct ra) := fun W tk => by
  refine ⟨fun pins s σ H Q I ⟨env, g, P, Xp, rs, hr0, q, hp, hx⟩ => ?_⟩
  rw [List.all_cons, Bool.and_eq_true] at hs
  refine wpAny_Call_Name_kw (ld_glob I hg hm ?_ hdb)
  have hargs := (ha W tk).run pos pins s σ H (fun vs H1 => spOf X.K ct vs H1 Q fun cls d H' => W cls d σ H') I ⟨env, g, _, Xp, rs, hr0, q, fun xs g1 vs H1 q1 t1 hr1 r1 => spOf_of t1 hr1 r1 q1 hp hx, hx⟩
  exact PySem.W.callWith_K (h₀ := X.base) I.ok.mod.kin hk (thn hargs fun us s1 ⟨vs, H1, I1, r, q1⟩ => ⟨I1.kIn, run_P F hr hgd tk I1 r q1⟩) (starEach_cons hs.1) (starEach_plain hs.2)
theorem se_call0 {k : Nat} {f : Addr} {ct : Ct} {x : Str} {p : Pos} (F : FnP X.prog X.w X.K X.mg X.base k f ct) (hr : Room k X.A) (hgd : X.A.guards = some []) (hg : Gl X x) (hm : X.mg x = some (.ref f)) (hk : PySem.W.keepIn X.K (.ref f) = true) (hdb : (x == ("__debug__" : Str)) = false) :
    SE X (.Call (.Name x p) [] [] pos) (wCall ct aNil) := fun W tk => by
  refine ⟨fun pins s σ H Q I ⟨env, g, P, Xp, rs, hr0, q, hp, hx⟩ => ?_⟩
  refine wpAny_Call_Name_kw (ld_glob I hg hm ?_ hdb)
  exact PySem.W.callWith_K0 I.kIn hk (run_P F hr hgd tk I .nil (spOf_of .refl hr0 .nil q hp hx))
/-! ### methods of one's own classes: which def is called hangs on the instance's class -/
def wMeth (mt : Cn → Option Ct) (wo : WE) (ra : WA) : WE := fun env g P Xp => wo env g (fun x g1 => ∃ a c fs ct, x = .ref a ∧ g1 a = some (.ins c fs) ∧ mt c = some ct ∧ ra env g1 (fun vs g2 => ct (x :: vs) g2 P Xp) Xp) Xp
/-- a class's method -/
structure MetP (X : Cx) (k : Nat) (c : Cn) (m : Str) (ct : Ct) : Prop where
  ex : ∃ f, Cls X.K (He.ga X.K c.nm) ∧ Meth X.K (He.ga X.K c.nm) m f ∧ FnP X.prog X.w X.K X.mg X.base k f ct
theorem se_meth {k : Nat} {m : Str} {apos : Pos} {mt : Cn → Option Ct} {ra : WA} (F : ∀ c ct, mt c = some ct → MetP X k c m ct) (hr : Room k X.A) (hgd : X.A.guards = some []) (hm : ∀ f : Fd, f.nm ≠ m)
    (hf : methOk (e :: es) apos pos = true) (hb : attrOk a = true) (ho : SE X a wa) (ha : SA X (e :: es) ra) : SE X (.Call (.Attribute a m apos) (e :: es) [] pos) (wMeth mt wa ra) := fun W tk => by
  refine ⟨fun pins s σ H Q I ⟨env, g, P, Xp, rs, hr0, q, hp, hx⟩ => ?_⟩
  have hs : (e :: es).all notStar = true := (Bool.and_eq_true_iff.mp hf).1
  rw [List.all_cons, Bool.and_eq_true] at hs
  have hobj := (ho W tk).run pins s σ H (fun v H1 => ∃ ad c fs ct g1, v = .ref ad ∧ Tx X.K H H1 ∧ HR X.K g1 H1 ∧ g1 ad = some (.ins c fs) ∧ mt c = some ct ∧ ra env g1 (fun vs g2 => ct (.ref ad :: vs) g2 P Xp) Xp) I
    ⟨env, g, _, Xp, rs, hr0, q, fun x g1 v H1 ⟨ad, c, fs, ct, ex, ea, hmt, q1⟩ t1 hr1 r1 => by subst ex; exact ⟨ad, c, fs, ct, g1, r1, t1, hr1, ea, hmt, q1⟩, hx⟩
  refine PySem.W.methodCall_KW (thn hobj fun u s1 ⟨v, H1, I1, rv, ad, c, fs, ct, g1, ev, t1, hr1, ea, hmt, q1⟩ => ?_) (meth_form hf hb)
  subst ev
  obtain rfl : u = Value.ref ad := rv
  obtain ⟨f, cl, me, fp⟩ := (F c ct hmt).ex
  obtain ⟨dx, es', e1, rf⟩ := hr1 ad _ ea
  refine getmeth_ok I1 e1 cl me (rf.none hm) ?_
  have hargs := (ha W tk).run pos pins s1 σ H1 (fun vs H2 => spOf X.K ct (.ref ad :: vs) H2 Q fun cls d H' => W cls d σ H') I1
    ⟨env, g1, _, Xp, rs.mono t1, hr1, q1, fun xs g2 vs H2 q2 t2 hr2 r2 => spOf_of (xs := .ref ad :: xs) (t1.trans t2) hr2 (.cons rfl r2) q2 hp hx, hx.step t1⟩
  exact PySem.W.callWith_K (first := [.ref ad]) (h₀ := X.base) I.ok.mod.kin me.kp (thn hargs fun us s2 ⟨vs, H2, I2, r, q2⟩ => ⟨I2.kIn, run_P (us := .ref ad :: us) (vs := .ref ad :: vs) fp hr hgd tk I2 (.cons rfl r) q2⟩) (starEach_cons hs.1) (starEach_plain hs.2)
theorem se_meth0 {k : Nat} {m : Str} {apos : Pos} {mt : Cn → Option Ct} (F : ∀ c ct, mt c = some ct → MetP X k c m ct) (hr : Room k X.A) (hgd : X.A.guards = some []) (hm : ∀ f : Fd, f.nm ≠ m)
    (hf : methOk [] apos pos = true) (hb : attrOk a = true) (ho : SE X a wa) : SE X (.Call (.Attribute a m apos) [] [] pos) (wMeth mt wa aNil) := fun W tk => by
  refine ⟨fun pins s σ H Q I ⟨env, g, P, Xp, rs, hr0, q, hp, hx⟩ => ?_⟩
  have hobj := (ho W tk).run pins s σ H (fun v H1 => ∃ ad c fs ct g1, v = .ref ad ∧ Tx X.K H H1 ∧ HR X.K g1 H1 ∧ g1 ad = some (.ins c fs) ∧ mt c = some ct ∧ ct [.ref ad] g1 P Xp) I
    ⟨env, g, _, Xp, rs, hr0, q, fun x g1 v H1 ⟨ad, c, fs, ct, ex, ea, hmt, q1⟩ t1 hr1 r1 => by subst ex; exact ⟨ad, c, fs, ct, g1, r1, t1, hr1, ea, hmt, q1⟩, hx⟩
  refine PySem.W.methodCall_KW (thn hobj fun u s1 ⟨v, H1, I1, rv, ad, c, fs, ct, g1, ev, t1, hr1, ea, hmt, q1⟩ => ?_) (meth_form hf hb)
  subst ev
  obtain rfl : u = Value.ref ad := rv
  obtain ⟨f, cl, me, fp⟩ := (F c ct hmt).ex
  obtain ⟨dx, es', e1, rf⟩ := hr1 ad _ ea
  refine getmeth_ok I1 e1 cl me (rf.none hm) ?_
  exact PySem.W.callWith_K0 (first := [.ref ad]) I1.kIn me.kp (run_P (us := [.ref ad]) (vs := [.ref ad]) fp hr hgd tk I1 (.cons rfl .nil) (spOf_of (xs := [.ref ad]) t1 hr1 ⟨.ref ad, [], rfl, rfl, rfl⟩ q1 hp hx))
/-! ### a new instance -/
def wMake (c : Cn) (ct : Ct) (ra : WA) : WE := fun env g P Xp => ra env g (fun vs g1 => ∀ x, g1 x = none → ct (.ref x :: vs) (gup g1 x (.ins c [])) (fun v g2 => v = .non ∧ P (.ref x) g2) Xp) Xp
theorem run_makeP {k : Nat} {c : Cn} {f : Addr} {ct : Ct} {W : WX} {pins : List (Addr × Obj)} {σ : L2.St} {H H0 : Hp} {s : Shared} {Q : VK} {us : List Value} {vs : List V} {xs : List Vl} {g1 : Gp} {P : Po} {Xp : Xo} (M : Mk X.K (He.ga X.K c.nm) f) (F : FnP X.prog X.w X.K X.mg X.base k f ct) (hr : Room (k + 1) X.A)
    (hgd : X.A.guards = some []) (tk : Takes X W) (I : Inv X pins σ H s) (r : Vals vs us) (t1 : Tx X.K H0 H) (hr1 : HR X.K g1 H) (rx : RVs X.K H xs vs)
    (q : ∀ x, g1 x = none → ct (.ref x :: xs) (gup g1 x (.ins c [])) (fun v g2 => v = .non ∧ P (.ref x) g2) Xp) (hp : ∀ r g' v H', P r g' → Tx X.K H0 H' → HR X.K g' H' → RV X.K H' r v → Q v H') (hx : QX X.K W H0 σ Xp) :
    wpAny (model X.prog X.w) X.A (call (.ref (He.ga X.K c.nm)) us) (EP X pins σ Q) X.xe s := by
  have fx := I.hok.fresh (Nat.le_succ s.heap.objs.size)
  have fd := I.hok.fresh (Nat.le_refl s.heap.objs.size)
  have ne : s.heap.objs.size ≠ s.heap.objs.size + 1 := Nat.ne_of_lt (Nat.lt_succ_self _)
  have I2 := Inv.made (C := He.ga X.K c.nm) I
  have tA : Tx X.K H (upd H s.heap.objs.size (.own (s.heap.objs.size + 1))) := tx_upd (.none fd)
  have fx' : upd H s.heap.objs.size (.own (s.heap.objs.size + 1)) (s.heap.objs.size + 1) = none := by rw [upd_ne (Ne.symm ne)]; exact fx
  have hrA := hr1.new (o := .own (s.heap.objs.size + 1)) fd
  have tB := tx_upd (K := X.K) (o := .ins (He.ga X.K c.nm) s.heap.objs.size []) (NoT.none fx')
  have hrB := hrA.put (c := .ins c []) (.none fx') ⟨s.heap.objs.size, [], upd_same, rfl⟩
  have q' := q _ (hrA.free fx')
  refine wpAny_call (make_map (f := f) I.kIn M.makes M.init (beq_iff_eq.mp M.fn) (codeAny_mono (F.run _ X.stack _ _ (Value.ref (s.heap.objs.size + 1) :: us) (V.ref (s.heap.objs.size + 1) :: vs) (fun v H2 => v = .non ∧ Q (.ref (s.heap.objs.size + 1)) H2) (fun cls d H' => W cls d σ H') (hr.make _ us []) ?_
    (I2.env0.make _ us []) (.cons rfl r) ?_) fun r s' hq' => ?_))
  · show Around.guards (X.A.under _) = _
    rw [show (X.A.under (.builtin "type.__call__" ⟨.ref (He.ga X.K c.nm) :: us, []⟩)).guards = X.A.guards from by first | rfl | simp [Around.under, Code.guards, Code.isGuard, guardIds, pushGuards]]
    exact hgd
  · refine ⟨.ref (s.heap.objs.size + 1) :: xs, _, _, Xp, hrB, .cons rfl (rx.mono (tA.trans tB)), q', ?_, ?_⟩
    · rintro z g' v H' ⟨rfl, p⟩ t h rz
      exact ⟨rz, hp _ g' _ H' p (t1.trans (tA.trans (tB.trans t))) h rfl⟩
    · exact fun c fs g' cls d H' p t h x => hx c fs g' cls d H' p (t1.trans (tA.trans (tB.trans t))) h x
  · cases r with
    | error e => exact tk e s' (XE.of_call I2 (fun _ _ _ h => h) hq')
    | ok fl =>
      cases fl with
      | ret u =>
        obtain ⟨v, H', I3, rv, ev, q3⟩ := I2.after hq'
        subst ev
        exact ⟨rv, ⟨V.ref (s.heap.objs.size + 1), H', I3, rfl, q3⟩⟩
      | next => exact False.elim hq'
      | brk => exact False.elim hq'
      | cont => exact False.elim hq'
end
section
variable {X : Cx} {e a b c : Expr} {es : List Expr} {wa wb wc : WE} {pos : Pos}
theorem se_make {k : Nat} {c : Cn} {f : Addr} {ct : Ct} {p : Pos} {ra : WA} (M : Mk X.K (He.ga X.K c.nm) f) (F : FnP X.prog X.w X.K X.mg X.base k f ct) (hr : Room (k + 1) X.A) (hgd : X.A.guards = some []) (hg : Gl X c.nm) (hm : X.mg c.nm = some (.ref (He.ga X.K c.nm))) (hdb : (c.nm == ("__debug__" : Str)) = false)
    (hs : (e :: es).all notStar = true) (ha : SA X (e :: es) ra) : SE X (.Call (.Name c.nm p) (e :: es) [] pos) (wMake c ct ra) := fun W tk => by
  refine ⟨fun pins s σ H Q I ⟨env, g, P, Xp, rs, hr0, q, hp, hx⟩ => ?_⟩
  rw [List.all_cons, Bool.and_eq_true] at hs
  refine wpAny_Call_Name_kw (ld_glob I hg hm ?_ hdb)
  have hargs := (ha W tk).run pos pins s σ H (fun vs H1 => ∃ xs g1, Tx X.K H H1 ∧ HR X.K g1 H1 ∧ RVs X.K H1 xs vs ∧ ∀ x, g1 x = none → ct (.ref x :: xs) (gup g1 x (.ins c [])) (fun v g2 => v = .non ∧ P (.ref x) g2) Xp) I
    ⟨env, g, _, Xp, rs, hr0, q, fun xs g1 vs H1 q1 t1 hr1 r1 => ⟨xs, g1, t1, hr1, r1, q1⟩, hx⟩
  exact PySem.W.callWith_K (h₀ := X.base) I.ok.mod.kin M.kp (thn hargs fun us s1 ⟨vs, H1, I1, r, xs, g1, t1, hr1, r1, q1⟩ => ⟨I1.kIn, run_makeP M F hr hgd tk I1 r t1 hr1 r1 q1 hp hx⟩) (starEach_cons hs.1) (starEach_plain hs.2)
theorem se_make0 {k : Nat} {c : Cn} {f : Addr} {ct : Ct} {p : Pos} (M : Mk X.K (He.ga X.K c.nm) f) (F : FnP X.prog X.w X.K X.mg X.base k f ct) (hr : Room (k + 1) X.A) (hgd : X.A.guards = some []) (hg : Gl X c.nm) (hm : X.mg c.nm = some (.ref (He.ga X.K c.nm))) (hdb : (c.nm == ("__debug__" : Str)) = false) :
    SE X (.Call (.Name c.nm p) [] [] pos) (wMake c ct aNil) := fun W tk => by
  refine ⟨fun pins s σ H Q I ⟨env, g, P, Xp, rs, hr0, q, hp, hx⟩ => ?_⟩
  refine wpAny_Call_Name_kw (ld_glob I hg hm ?_ hdb)
  exact PySem.W.callWith_K0 I.kIn M.kp (run_makeP (us := []) (vs := []) (xs := []) M F hr hgd tk I .nil .refl hr0 rfl q hp hx)
/-! ### a property: its getter raises nothing -/
def wProp (mt : Cn → Option Ct) (wo : WE) : WE := fun env g P Xp => wo env g (fun x g1 => ∃ a c fs ct, x = .ref a ∧ g1 a = some (.ins c fs) ∧ mt c = some ct ∧ ct [x] g1 P fun _ _ _ => False) Xp
structure ProP (X : Cx) (k : Nat) (c : Cn) (m : Str) (ct : Ct) : Prop where
  ex : ∃ p f, Cls X.K (He.ga X.K c.nm) ∧ PropOf X.K (He.ga X.K c.nm) m p f ∧ FnP X.prog X.w X.K X.mg X.base k f ct
theorem Takes.no (X : Cx) : Takes X.nox (fun _ _ _ _ => False) := fun _ _ x => by
  obtain ⟨_, _, _, _, _, _, _, _, _, _, _, _, _, _, _, _, z⟩ := x
  exact z.elim
theorem se_prop {k : Nat} {m : Str} {mt : Cn → Option Ct} (F : ∀ c ct, mt c = some ct → ProP X k c m ct) (hr : Room (k + 1) X.A) (hgd : X.A.guards = some []) (hb : attrOk a = true) (ho : SE X a wa) : SE X (.Attribute a m pos) (wProp mt wa) := fun W tk => by
  refine ⟨fun pins s σ H Q I ⟨env, g, P, Xp, rs, hr0, q, hp, hx⟩ => ?_⟩
  have hobj := (ho W tk).run pins s σ H (fun v H1 => ∃ ad c fs ct g1, v = .ref ad ∧ Tx X.K H H1 ∧ HR X.K g1 H1 ∧ g1 ad = some (.ins c fs) ∧ mt c = some ct ∧ ct [.ref ad] g1 P fun _ _ _ => False) I
    ⟨env, g, _, Xp, rs, hr0, q, fun x g1 v H1 ⟨ad, c, fs, ct, ex, ea, hmt, q1⟩ t1 hr1 r1 => by subst ex; exact ⟨ad, c, fs, ct, g1, r1, t1, hr1, ea, hmt, q1⟩, hx⟩
  refine attr_of (attr_base hb) (thn hobj fun u s1 ⟨v, H1, I1, rv, ad, c, fs, ct, g1, ev, t1, hr1, ea, hmt, q1⟩ => ?_)
  subst ev
  obtain rfl : u = Value.ref ad := rv
  obtain ⟨p, f, cl, pr, fp⟩ := (F c ct hmt).ex
  obtain ⟨dx, es', e1, rf⟩ := hr1 ad _ ea
  obtain ⟨mA, O, _, _, _, _⟩ := ins_get I1.hok e1
  obtain ⟨od, J, _⟩ := O.look
  obtain ⟨rest, hrec⟩ := pr.rec_
  have I2 := I1.tok (s1.toks + 1)
  have hc : (PySem.W.clsIn X.K (He.ga X.K c.nm)).isSome = true := by
    obtain ⟨cd, hc, _⟩ := PySem.W.any_some cl.hd
    rw [hc] <;> rfl
  refine PySem.W.get_bind I1.kIn J (PySem.W.plainGet_of (cl.get m)).1 (PySem.W.findObj_data hc pr.at_ pr.get pr.tak) (PySem.W.plainGet_of (cl.get m)).2 (wpAny_call (PySem.W.prop_get (s := { s1 with toks := s1.toks + 1 }) I1.kIn hrec ?_))
  have hsp : spOf X.K ct [.ref ad] H1 Q fun _ _ _ => False := ⟨[.ref ad], g1, P, _, hr1, ⟨.ref ad, [], rfl, rfl, rfl⟩, q1, fun r g' v H' p t h r2 => hp r g' v H' p (t1.trans t) h r2, fun _ _ _ _ _ _ z _ _ _ => z.elim⟩
  refine codeAny_mono (fp.run X.A.in1 X.stack { s1 with toks := s1.toks + 1 } H1 [.ref ad] [.ref ad] Q _ hr.in1 hgd I2.env0.in1 (.cons rfl .nil) hsp) fun r s' hq => ?_
  cases r with
  | error er => exact False.elim (Takes.no X er s' (XE.of_call (I2.wish _) (fun _ _ _ h => h) hq))
  | ok fl =>
    cases fl with
    | ret u =>
      obtain ⟨v, H', I3, rv, q3⟩ := I2.after hq
      show wpAny _ _ (handedOut u) _ _ _
      rw [PySem.W.handedOut_of (handed_of rv)]
      exact wpAny_pure ⟨v, H', I3, rv, q3⟩
    | next => exact False.elim hq
    | brk => exact False.elim hq
    | cont => exact False.elim hq
end
end MP
set_option Elab.async false
set_option linter.all false
set_option maxRecDepth 100000
/-! MP, part 6: statements, targets, loops. -/
namespace MP
open PySem PySem.Spec PyProof.Rows L2
/-! ### targets -/
abbrev WG := Vl → Env → Gp → (Env → Gp → Prop) → XS → Prop
abbrev WGs := List Vl → Env → Gp → (Env → Gp → Prop) → XS → Prop
section
variable (K : PySem.W.Frag) (W : WX)
def QXS (H : Hp) (Xp : XS) : Prop := ∀ c fs env' g' cls d σ' H', Xp c fs env' g' → Tx K H H' → HR K g' H' → Rs K H' env' σ' → XR K H' c fs cls d → W cls d σ' H'
def tG (w : WG) : TG := fun v σ H Q => ∃ x env g P Xp, RV K H x v ∧ Rs K H env σ ∧ HR K g H ∧ w x env g P Xp ∧ (∀ env' g' σ' H', P env' g' → Tx K H H' → HR K g' H' → Rs K H' env' σ' → Q σ' H') ∧ QXS K W H Xp
def tGs (w : WGs) : TGs := fun vs σ H Q => ∃ xs env g P Xp, RVs K H xs vs ∧ Rs K H env σ ∧ HR K g H ∧ w xs env g P Xp ∧ (∀ env' g' σ' H', P env' g' → Tx K H H' → HR K g' H' → Rs K H' env' σ' → Q σ' H') ∧ QXS K W H Xp
end
theorem QXS.step {K : PySem.W.Frag} {W : WX} {H H1 : Hp} {Xp : XS} (q : QXS K W H Xp) (t : Tx K H H1) : QXS K W H1 Xp := fun c fs env' g' cls d σ' H' p t' h r x => q c fs env' g' cls d σ' H' p (t.trans t') h r x
/-- an expression's exceptions within a statement -/
theorem QXS.ex {K : PySem.W.Frag} {W : WX} {H : Hp} {σ : L2.St} {env : Env} {Xp : XS} (q : QXS K W H Xp) (rs : Rs K H env σ) : QX K W H σ (fun c fs g => Xp c fs env g) := fun c fs g' cls d H' p t h x => q c fs env g' cls d σ H' p t h (rs.mono t) x
def SG (X : Cx) (target : Expr) (w : WG) : Prop := ∀ W : WX, Takes X W → PG X target (tG X.K W w)
def SGs (X : Cx) (ts : List Expr) (w : WGs) : Prop := ∀ W : WX, Takes X W → PGs X ts (tGs X.K W w)
theorem PG.imp {X : Cx} {e : Expr} {t t' : TG} (h : PG X e t) (i : ∀ v σ H Q, t' v σ H Q → t v σ H Q) : PG X e t' := ⟨fun pins s σ H v u Q I r q => h.run pins s σ H v u Q I r (i v σ H Q q)⟩
theorem PGs.imp {X : Cx} {e : List Expr} {t t' : TGs} (h : PGs X e t) (i : ∀ v σ H Q, t' v σ H Q → t v σ H Q) : PGs X e t' := ⟨fun pins s σ H v u Q I r q => h.run pins s σ H v u Q I r (i v σ H Q q)⟩
def wgName (i : Nat) : WG := fun x env g P _ => P (env.set i (some x)) g
def wgNil : WGs := fun xs env g P _ => xs = [] ∧ P env g
def wgCons (w : WG) (r : WGs) : WGs := fun xs env g P Xp => ∃ x ys, xs = x :: ys ∧ w x env g (fun env1 g1 => r ys env1 g1 P Xp) Xp
def wgTup (n : Nat) (r : WGs) : WG := fun x env g P Xp => ∃ xs, x = .tup xs ∧ xs.length = n ∧ r xs env g P Xp
/-- a target that is no star -/
theorem assignEach_cons {e : Expr} {es : List Expr} {env : PySem.Env} (h : notStar e = true) : assignEach (e :: es) env = (false, assign e env) :: assignEach es env := by
  cases e <;> first | rfl | cases h
theorem assignEach_len {env : PySem.Env} : ∀ {es : List Expr}, es.all notStar = true → (assignEach es env).length = es.length ∧ (assignEach es env).findIdx? (·.1) = none
  | [], _ => ⟨rfl, rfl⟩
  | e :: es, h => by
    rw [List.all_cons, Bool.and_eq_true] at h
    obtain ⟨h1, h2⟩ := assignEach_len (env := env) h.2
    rw [assignEach_cons h.1]
    refine ⟨by rw [List.length_cons, List.length_cons, h1], ?_⟩
    rw [List.findIdx?_cons]
    simp only [Bool.false_eq_true, if_false, h2, Option.map_none]
section
variable {X : Cx} {e tg : Expr} {es : List Expr} {pos : Pos}
theorem sg_name {i : Nat} {x : Str} (hN : X.N.Nodup) (hi : X.N[i]? = some x) (hx : Loc X.env.scope x) (hf : X.fn x = true ∨ X.env.scope.names.lookup x = some .local) : SG X (.Name x pos) (wgName i) := fun W tk =>
  PG.imp (pg_name hN hi hx hf) fun v σ H Q ⟨x, env, g, P, Xp, r, rs, hr, p, hp, _⟩ => hp _ g _ H p .refl hr (rs.set i r)
theorem sgs_nil : SGs X [] wgNil := fun W tk =>
  PGs.imp pgs_nil fun vs σ H Q ⟨xs, env, g, P, Xp, r, rs, hr, ⟨e, p⟩, hp, _⟩ => by
    subst e
    exact ⟨r, hp env g σ H p .refl hr rs⟩
theorem sgs_cons {w : WG} {r : WGs} (hs : notStar e = true) (h1 : SG X e w) (h2 : SGs X es r) : SGs X (e :: es) (wgCons w r) := fun W tk => by
  refine PGs.imp (pgs_cons (h1 W tk) (h2 W tk) (by rw [assignEach_cons hs] <;> rfl)) fun vs σ H Q ⟨xs, env, g, P, Xp, rx, rs, hr, ⟨x, ys, e, q⟩, hp, hx⟩ => ?_
  subst e
  obtain ⟨v, us, e, r1, r2⟩ := rx
  subst e
  refine ⟨v, us, rfl, x, env, g, _, Xp, r1, rs, hr, q, fun env1 g1 σ1 H1 q1 t1 hr1 rs1 => ?_, hx⟩
  exact ⟨ys, env1, g1, P, Xp, r2.mono t1, rs1, hr1, q1, fun env' g' σ' H' p t h rs' => hp env' g' σ' H' p (t1.trans t) h rs', hx.step t1⟩
theorem sg_tup {r : WGs} {k : Nat} (hc : X.calm = true) (hs : es.all notStar = true) (h : SGs X es r) : SG X (.Tuple es k pos) (wgTup es.length r) := fun W tk => by
  obtain ⟨l1, l2⟩ := assignEach_len (env := X.env) hs
  refine PG.imp (pg_tup hc (h W tk) l1 l2) fun v σ H Q ⟨x, env, g, P, Xp, rx, rs, hr, ⟨xs, e, hl, q⟩, hp, hx⟩ => ?_
  subst e
  obtain ⟨a, vs, e, s, rv⟩ := rx
  exact ⟨a, vs, e, s, by rw [rv.length]; exact hl, xs, env, g, P, Xp, rv, rs, hr, q, hp, hx⟩
/-- an index that is no slice -/
def notSlice : Expr → Bool
  | .Slice _ _ _ _ => false
  | _ => true
theorem assign_sub {o i : Expr} {pos : Pos} {env : PySem.Env} (h : notSlice i = true) (v : Value) : assign (.Subscript o i pos) env v = (do
    let ov ← holding [v] (eval o env)
    let iv ← holding [v, ov] (eval i env)
    standAt pos
    holding [v, ov, iv] (setItem ov iv v)
    release [v, ov, iv] []) := by
  cases i <;> first | rfl | cases h
/-- o[i] = .. -/
def wgSub (wo wi : WE) : WG := fun x env g P Xp => wo env g (fun o g1 => wi env g1 (fun i g2 => bSet o i x g2 (P env)) fun c fs g => Xp c fs env g) fun c fs g => Xp c fs env g
theorem sg_sub {o i : Expr} {wo wi : WE} (hsl : notSlice i = true) (hu : X.A.units + 1 < cLine) (ho : SE X o wo) (hi : SE X i wi) : SG X (.Subscript o i pos) (wgSub wo wi) := fun W tk => by
  obtain ⟨r, hr, rel⟩ := op_bSet hu
  refine PG.imp (pg_sub (ho W tk) (hi W tk) hr (assign_sub hsl)) fun v σ H Q ⟨x, env, g, P, Xp, rx, rs, hr, q, hp, hx⟩ => ?_
  refine ⟨env, g, _, _, rs, hr, q, fun o g1 ov H1 q1 t1 hr1 r1 => ?_, hx.ex rs⟩
  refine ⟨env, g1, _, _, rs.mono t1, hr1, q1, fun i g2 iv H2 q2 t2 hr2 r2 => ?_, (hx.ex rs).step t1⟩
  exact rel o i x g2 _ ov iv v H2 _ q2 hr2 (r1.mono t2) r2 (rx.mono (t1.trans t2)) fun g' H' p t h => hp env g' σ H' p (t1.trans (t2.trans t)) h (rs.mono (t1.trans (t2.trans t)))
end
/-! ### statements -/
def SS (X : Cx) (st : Stmt) (w : WS) : Prop := ∀ W : WX, Takes X W → PassesOwn (model X.prog X.w) X.A X.env X.xe → PS X st (tS X.K W w)
def SSs (X : Cx) (st : List Stmt) (w : WS) : Prop := ∀ W : WX, Takes X W → PassesOwn (model X.prog X.w) X.A X.env X.xe → PSs X st (tS X.K W w)
def bNil : WS := fun env g D _ => D.nx env g
def bCons (w r : WS) : WS := fun env g D Xp => w env g { D with nx := fun env' g' => r env' g' D Xp } Xp
def sExpr (w : WE) : WS := fun env g D Xp => w env g (fun _ g1 => D.nx env g1) fun c fs g => Xp c fs env g
def sRet (w : WE) : WS := fun env g D Xp => w env g D.rt fun c fs g => Xp c fs env g
def sRetN : WS := fun _ g D _ => D.rt .non g
def sIf (c : WT) (t u : WS) : WS := fun env g D Xp => c env g (fun k g1 => if k = true then t env g1 D Xp else u env g1 D Xp) fun c fs g => Xp c fs env g
def sAsg (w : WE) (t : WG) : WS := fun env g D Xp => w env g (fun x g1 => t x env g1 D.nx Xp) fun c fs g => Xp c fs env g
/-- no comprehension -/
def notComp : Expr → Bool
  | .ListComp _ _ _ _ => false
  | .SetComp _ _ _ _ => false
  | .DictComp _ _ _ _ _ => false
  | _ => true
theorem swapsWith_no {e : Expr} {t : Option Expr} {l : Nat} {env : PySem.Env} (h : notComp e = true) : swapsWith e t l env = pure false := by
  cases e <;> first | rfl | cases h
/-- the stores are not swapped: not a tuple's display into a tuple -/
def notSwap : Expr → Expr → Bool
  | .Tuple _ _ _, .Tuple _ _ _ => false
  | .List _ _, .Tuple _ _ _ => false
  | _, _ => true
theorem swapped_no {t e : Expr} {env : PySem.Env} (h : notSwap t e = true) : swappedStores [t] e env = pure none := by
  cases t <;> first
    | rfl
    | (cases e <;> first | rfl | cases h)
theorem bind_pure_eq {α β : Type} (a : α) (f : α → Sem β) : (pure a >>= f) = f a := by simp
section
variable {X : Cx} {e tg c : Expr} {es : List Expr} {st : Stmt} {rest a b : List Stmt} {pos : Pos} {w : WE} {t u r : WS}
theorem ss_nil : SSs X [] bNil := fun W tk po => PSs.imp pss_nil fun D σ H ⟨env, g, De, Xp, rs, hr, p, hn, _⟩ => hn env g σ H p .refl hr rs
theorem ss_cons (h1 : SS X st t) (h2 : SSs X rest r) : SSs X (st :: rest) (bCons t r) := fun W tk po => by
  refine PSs.imp (pss_cons (h1 W tk po) (h2 W tk po)) fun D σ H ⟨env, g, De, Xp, rs, hr, p, hn, hre, hx⟩ => ?_
  refine ⟨env, g, _, Xp, rs, hr, p, fun env1 g1 σ1 H1 q1 t1 hr1 rs1 => ?_, hre, hx⟩
  exact ⟨env1, g1, De, Xp, rs1, hr1, q1, fun env' g' σ' H' p t h rs' => hn env' g' σ' H' p (t1.trans t) h rs', fun x g' v H' p t h r => hre x g' v H' p (t1.trans t) h r,
    fun c fs env' g' cls d σ' H' p t h rs' x => hx c fs env' g' cls d σ' H' p (t1.trans t) h rs' x⟩
theorem ss_expr (hs : notComp e = true) (he : SE X e w) : SS X (.Expr e pos) (sExpr w) := fun W tk po => by
  refine PS.imp (ps_expr (he W tk) (swapsWith_no hs)) fun D σ H ⟨env, g, De, Xp, rs, hr, p, hn, hre, hx⟩ => ?_
  exact ⟨env, g, _, _, rs, hr, p, fun x g1 v H1 q t1 hr1 _ => hn env g1 σ H1 q t1 hr1 (rs.mono t1), QXS.ex (Xp := Xp) hx rs⟩
theorem ss_ret (he : SE X e w) : SS X (.Return (some e) pos) (sRet w) := fun W tk po => by
  refine PS.imp (ps_ret (he W tk)) fun D σ H ⟨env, g, De, Xp, rs, hr, p, hn, hre, hx⟩ => ?_
  exact ⟨env, g, _, _, rs, hr, p, hre, QXS.ex (Xp := Xp) hx rs⟩
theorem ss_retN : SS X (.Return none pos) sRetN := fun W tk po => PS.imp ps_retN fun D σ H ⟨env, g, De, Xp, rs, hr, p, hn, hre, hx⟩ => hre .non g .non H p .refl hr rfl
theorem ss_if {wc : WT} (hc : ST X c wc) (ha : SSs X a t) (hb : SSs X b u) : SS X (.If c a b pos) (sIf wc t u) := fun W tk po => by
  refine PS.imp (ps_if (hc W tk) (ha W tk po) (hb W tk po)) fun D σ H ⟨env, g, De, Xp, rs, hr, p, hn, hre, hx⟩ => ?_
  refine ⟨env, g, _, _, rs, hr, p, fun k g1 H1 q t1 hr1 => ?_, QXS.ex (Xp := Xp) hx rs⟩
  have go : ∀ {w : WS}, w env g1 De Xp → tS X.K W w D σ H1 := fun {w} q => ⟨env, g1, De, Xp, rs.mono t1, hr1, q, fun env' g' σ' H' p t h rs' => hn env' g' σ' H' p (t1.trans t) h rs', fun x g' v H' p t h r => hre x g' v H' p (t1.trans t) h r,
    fun c fs env' g' cls d σ' H' p t h rs' x => hx c fs env' g' cls d σ' H' p (t1.trans t) h rs' x⟩
  cases k with
  | true => exact go q
  | false => exact go q
theorem ss_asg {wt : WG} (hc : notComp e = true) (hs : notStar tg = true) (hw : swappedStores [tg] e X.env = pure none) (he : SE X e w) (ht : SG X tg wt) : SS X (.Assign [tg] e pos) (sAsg w wt) := fun W tk po => by
  refine PS.imp (ps_asg (he W tk) (ht W tk) (swapsWith_no hc) hw (by rw [assignEach_cons hs] <;> rfl)) fun D σ H ⟨env, g, De, Xp, rs, hr, p, hn, hre, hx⟩ => ?_
  refine ⟨env, g, _, _, rs, hr, p, fun x g1 v H1 q t1 hr1 r1 => ?_, QXS.ex (Xp := Xp) hx rs⟩
  exact ⟨x, env, g1, De.nx, Xp, r1, rs.mono t1, hr1, q, fun env' g' σ' H' p t h rs' => hn env' g' σ' H' p (t1.trans t) h rs', fun c fs env' g' cls d σ' H' p t h rs' x => hx c fs env' g' cls d σ' H' p (t1.trans t) h rs' x⟩
/-- o.f = e -/
def sFldA (ok : Cn → Fd → Bool) (f : Fd) (wo we : WE) : WS := fun env g D Xp => we env g (fun y g1 => wo env g1 (fun x g2 => ∃ a c fs, x = .ref a ∧ g2 a = some (.ins c fs) ∧ ok c f = true ∧ fs.length < 1000 ∧ D.nx env (gup g2 a (.ins c (putD f y fs)))) fun c fs g => Xp c fs env g) fun c fs g => Xp c fs env g
theorem ss_fld {ok : Cn → Fd → Bool} {f : Fd} {o : Expr} {wo : WE} {pos' : Pos} (hok : ∀ c f, ok c f = true → Cls X.K (He.ga X.K c.nm) ∧ NoAttr X.K (He.ga X.K c.nm) f.nm) (hs : swapsWith e (some (.Attribute o f.nm pos')) pos.line X.env = pure false) (ho : SE X o wo) (he : SE X e w) :
    SS X (.Assign [.Attribute o f.nm pos'] e pos) (sFldA ok f wo w) := fun W tk po => by
  refine PS.imp (ps_fld (ho W tk) (he W tk) hs) fun D σ H ⟨env, g, De, Xp, rs, hr, p, hn, hre, hx⟩ => ?_
  have hx' : QXS X.K W H Xp := hx
  refine ⟨env, g, _, _, rs, hr, p, fun y g1 v H1 q1 t1 hr1 r1 => ?_, hx'.ex rs⟩
  refine ⟨env, g1, _, _, rs.mono t1, hr1, q1, fun x g2 u H2 ⟨a, c, fs, e, ea, h1, hl, q⟩ t2 hr2 r2 => ?_, (hx'.ex rs).step t1⟩
  subst e
  obtain ⟨dx, es, e1, rf⟩ := hr2 a _ ea
  obtain ⟨c1, c2⟩ := hok c f h1
  have n : NoT (H2 a) := by rw [e1]; trivial
  have t : Tx X.K H2 (upd H2 a (.ins (He.ga X.K c.nm) dx (putF f.nm v es))) := tx_upd n
  refine ⟨a, _, dx, es, r2, e1, c1, c2, by rw [rf.length]; exact hl, ?_⟩
  have t12 := t1.trans (t2.trans t)
  exact hn env _ σ _ q t12 (hr2.put n ⟨dx, _, upd_same, (rf.put (r1.mono t2)).mono t⟩) (rs.mono t12)
end
/-! ### what a loop walks: the items, and what must stay true of the cells meanwhile -/
/-- a dict that is locked meanwhile -/
abbrev Lk := Option (Addr × LTok × List (Key × Vl))
abbrev WI := Env → Gp → (List Vl → (Gp → Prop) → Lk → Gp → Prop) → Xo → Prop
/-- what is wanted behind the walk: the dict is open again -/
def exG (l : Lk) (g : Gp) (P : Gp → Prop) : Prop := match l with
  | none => P g
  | some (d, t, kvs) => g d = some (.lk t kvs) ∧ P (gup g d (.dct kvs))
/-- the iterator J, made at H0, yields the items as long as chk holds of the cells -/
def Feeds (K : PySem.W.Frag) (H0 : Hp) (J : It) (xs : List Vl) (chk : Gp → Prop) : Prop := ∀ (i : Nat) (H : Hp) (g : Gp), Tx K H0 H → HR K g H → chk g →
  (i < xs.length → J.go i H ∧ ∀ v H', J.yld i H v H' → Tx K H H' ∧ HR K g H' ∧ ∃ x, xs[i]? = some x ∧ RV K H' x v) ∧ (xs.length ≤ i → J.stop i H)
/-- the locked dict was open when the frame began -/
def ExOk (H0 : Hp) (l : Lk) : Prop := match l with
  | none => True
  | some (d, _) => ∀ o' u', H0 d ≠ some (.frz o' u')
def tI (K : PySem.W.Frag) (H_0 : Hp) (W : WX) (w : WI) : TI := fun σ H R => ∃ env g P Xp, Rs K H env σ ∧ HR K g H ∧ w env g P Xp ∧ (∀ xs chk l g' H' J, P xs chk l g' → Tx K H H' → HR K g' H' → Feeds K H' J xs chk → ExOk H_0 l → R J H') ∧ QX K W H σ Xp
def SI (X : Cx) (tg iter : Expr) (w : WI) : Prop := ∀ W : WX, Takes X W → PI X tg iter (tI X.K X.H_0 W w)
theorem PI.imp {X : Cx} {tg e : Expr} {t t' : TI} (h : PI X tg e t) (i : ∀ σ H Q, t' σ H Q → t σ H Q) : PI X tg e t' := ⟨fun pins s σ H Q I q => h.run pins s σ H Q I (i σ H Q q)⟩
/-- what is unlocked at the end -/
def UL (H0 H : Hp) (P : Hp → Prop) : Prop := P H ∨ ∃ d od u, H d = some (.frz od u) ∧ (∀ o' u', H0 d ≠ some (.frz o' u')) ∧ P (upd H d u)
theorem UL.of {K : PySem.W.Frag} {H0 H1 H : Hp} {g : Gp} {l : Lk} {Pg : Gp → Prop} {P : Hp → Prop} (e : ExOk H0 l) (q : exG l g Pg) (t : Tx K H1 H) (hr : HR K g H) (k : ∀ g' H', Pg g' → Tx K H H' → HR K g' H' → P H') : UL H0 H P := by
  cases l with
  | none => exact .inl (k g H q .refl hr)
  | some z =>
    obtain ⟨d, tk, kvs⟩ := z
    obtain ⟨ed, q⟩ := q
    obtain ⟨e1, rk⟩ := hr d _ ed
    have n : NoT (H d) := by rw [e1]; trivial
    have t2 : Tx K H (upd H d (.dK tk.2)) := tx_upd n
    exact .inr ⟨d, tk.1, _, e1, e, k _ _ q t2 (hr.put n ⟨tk.2, upd_same, rk.mono t2⟩)⟩
theorem ps_ul {X : Cx} {st : Stmt} {t : TS} (h : PS X st t) : PS X st (fun D σ H => t ⟨fun σ' H' => UL X.H_0 H' (D.nx σ'), fun v H' => UL X.H_0 H' (D.rt v), fun σ' H' => UL X.H_0 H' (D.bk σ'), fun σ' H' => UL X.H_0 H' (D.ct σ')⟩ σ H) := by
  refine ⟨fun pins s σ H D I hw => thn (h.run pins s σ H _ I hw) fun f s1 q => ?_⟩
  cases f with
  | next =>
    obtain ⟨σ', H', I2, q | ⟨d, od, u, e, n, q⟩⟩ := q
    · exact ⟨σ', H', I2, q⟩
    · exact ⟨σ', _, I2.unlock e n, q⟩
  | brk =>
    obtain ⟨σ', H', I2, q | ⟨d, od, u, e, n, q⟩⟩ := q
    · exact ⟨σ', H', I2, q⟩
    · exact ⟨σ', _, I2.unlock e n, q⟩
  | cont =>
    obtain ⟨σ', H', I2, q | ⟨d, od, u, e, n, q⟩⟩ := q
    · exact ⟨σ', H', I2, q⟩
    · exact ⟨σ', _, I2.unlock e n, q⟩
  | ret v =>
    obtain ⟨x, σ', H', I2, r, q | ⟨d, od, u, e, n, q⟩⟩ := q
    · exact ⟨x, σ', H', I2, r, q⟩
    · exact ⟨x, σ', _, I2.unlock e n, r, q⟩
theorem pe_ul {X : Cx} {e : Expr} {t : TE} (h : PE X e t) : PE X e (fun σ H Q => t σ H fun v H' => UL X.H_0 H' (Q v)) := by
  refine ⟨fun pins s σ H Q I hw => thn (h.run pins s σ H _ I hw) fun v s1 ⟨x, H1, I1, r, q⟩ => ?_⟩
  rcases q with q | ⟨d, od, u, e, n, q⟩
  · exact ⟨x, H1, I1, r, q⟩
  · exact ⟨x, _, I1.unlock e n, r, q⟩
/-- a list, a tuple -/
def iSeq (w : WE) : WI := fun env g P Xp => w env g (fun x g1 => (∃ xs, IsL g1 x xs ∧ P xs (fun g => IsL g x xs) none g1) ∨ ∃ xs, x = .tup xs ∧ P xs (fun _ => True) none g1) Xp
theorem feeds_list {K : PySem.W.Frag} {H0 : Hp} {x : Vl} {xs : List Vl} {a : Addr} (r : RV K H0 x (.ref a)) : Feeds K H0 (Itl K a) xs (fun g => IsL g x xs) := fun i H g t hr c => by
  obtain ⟨b, vs, e, s, rs⟩ := c.sq hr (r.mono t)
  cases e
  refine ⟨fun hi => ?_, fun hi => ⟨vs, s, by rw [rs.length]; exact hi⟩⟩
  obtain ⟨y, ey⟩ : ∃ y, xs[i]? = some y := ⟨xs[i], by simp [hi]⟩
  obtain ⟨v, e1, r1⟩ := rs.get ey
  refine ⟨⟨vs, v, s, e1⟩, fun w H' ⟨eh, q⟩ => ?_⟩
  subst eh
  have e2 := q vs s
  rw [e1] at e2
  cases e2
  exact ⟨.refl, hr, y, ey, r1⟩
theorem feeds_tup {K : PySem.W.Frag} {H0 : Hp} {xs : List Vl} {vs : List V} {a : Addr} (s : SqT K H0 a vs) (rs : RVs K H0 xs vs) : Feeds K H0 (Itt K a) xs (fun _ => True) := fun i H g t hr c => by
  have s := t.1 a vs s
  have rs := rs.mono t
  refine ⟨fun hi => ?_, fun hi => ⟨vs, s, by rw [rs.length]; exact hi⟩⟩
  obtain ⟨y, ey⟩ : ∃ y, xs[i]? = some y := ⟨xs[i], by simp [hi]⟩
  obtain ⟨v, e1, r1⟩ := rs.get ey
  refine ⟨⟨vs, v, s, e1⟩, fun w H' ⟨eh, q⟩ => ?_⟩
  subst eh
  have e2 := q vs s
  rw [e1] at e2
  cases e2
  exact ⟨.refl, hr, y, ey, r1⟩
end MP
set_option Elab.async false
set_option linter.all false
set_option maxRecDepth 100000
/-! MP, part 7: for, while, what is walked. -/
namespace MP
open PySem PySem.Spec PyProof.Rows L2
/-- the turns over the items that are left -/
def wLoop (chk : Gp → Prop) (l : Lk) (tg : WG) (body : WS) (De : Ed) (Xp : XS) : List Vl → Env → Gp → Prop
  | [], env, g => chk g ∧ exG l g (De.nx env)
  | x :: xs, env, g => chk g ∧ tg x env g (fun env1 g1 => body env1 g1 ⟨wLoop chk l tg body De Xp xs, fun r g => exG l g (De.rt r)⟩ Xp) Xp
def sFor (wi : WI) (tg : WG) (body : WS) : WS := fun env g D Xp => wi env g (fun xs chk l g1 => wLoop chk l tg body D Xp xs env g1) fun c fs g => Xp c fs env g
def sWhile (c : WT) (body : WS) : WS := fun env g D Xp => ∃ n : Nat, Nat.rec (motive := fun _ => Env → Gp → Prop) (fun _ _ => False) (fun _ again env g => c env g (fun k g1 => if k = true then body env g1 { D with nx := again } Xp else D.nx env g1) fun c fs g => Xp c fs env g) n env g
section
variable {X : Cx} {tg iter c : Expr} {body : List Stmt} {pos : Pos}
/-- the rest of a loop, as ps_for wants it -/
theorem loop_ok {W : WX} {J : It} {xs : List Vl} {chk : Gp → Prop} {l : Lk} {wt : WG} {wb : WS} {De : Ed} {Xp : XS} {D : Ends} {H0 : Hp} (f : Feeds X.K H0 J xs chk)
    (hn : ∀ env' g' σ' H', exG l g' (De.nx env') → Tx X.K H0 H' → HR X.K g' H' → Rs X.K H' env' σ' → D.nx σ' H') (hre : ∀ r g' v H', exG l g' (De.rt r) → Tx X.K H0 H' → HR X.K g' H' → RV X.K H' r v → D.rt v H') (hx : QXS X.K W H0 Xp)
    {env : Env} {g : Gp} {σ : L2.St} (rs : Rs X.K H0 env σ) (hr : HR X.K g H0) (h : wLoop chk l wt wb De Xp xs env g) :
    ∃ Wv : Nat → Nat → L2.St → Hp → Prop, (∃ m, Wv 0 m σ H0) ∧ ∀ i m σ H, Wv i m σ H → (J.stop i H ∧ D.nx σ H) ∨ (J.go i H ∧ ∃ N : L2.St → Hp → Prop, (∀ σ' H', N σ' H' → ∃ m', m' < m ∧ Wv (i + 1) m' σ' H') ∧
      ∀ x H', J.yld i H x H' → tG X.K W wt x σ H' fun σ2 H2 => tS X.K W wb { D with nx := N, ct := N, bk := D.nx } σ2 H2) := by
  refine ⟨fun i m σ H => m = xs.length - i ∧ i ≤ xs.length ∧ ∃ env g, Tx X.K H0 H ∧ Rs X.K H env σ ∧ HR X.K g H ∧ wLoop chk l wt wb De Xp (xs.drop i) env g, ⟨xs.length, by simp, Nat.zero_le _, env, g, .refl, rs, hr, h⟩, ?_⟩
  rintro i m σ H ⟨rfl, hi, env, g, t, rs, hr, h⟩
  by_cases hlt : i < xs.length
  · have e : xs.drop i = xs[i] :: xs.drop (i + 1) := List.drop_eq_getElem_cons hlt
    rw [e] at h
    obtain ⟨hc, h⟩ := h
    obtain ⟨hgo, hy⟩ := (f i H g t hr hc).1 hlt
    refine .inr ⟨hgo, fun σ' H' => ∃ env g, Tx X.K H0 H' ∧ Rs X.K H' env σ' ∧ HR X.K g H' ∧ wLoop chk l wt wb De Xp (xs.drop (i + 1)) env g, fun σ' H' q => ⟨xs.length - (i + 1), by omega, rfl, hlt, q⟩, fun v H' y => ?_⟩
    obtain ⟨t1, hr1, x, ex, rx⟩ := hy v H' y
    have e2 : x = xs[i] := by
      rw [List.getElem?_eq_getElem hlt] at ex
      exact (Option.some.inj ex).symm
    subst e2
    have t01 := t.trans t1
    refine ⟨_, env, g, _, Xp, rx, rs.mono t1, hr1, h, fun env1 g1 σ1 H1 q1 t2 hr2 rs2 => ?_, hx.step t01⟩
    have t02 := t01.trans t2
    refine ⟨env1, g1, _, Xp, rs2, hr2, q1, fun env' g' σ' H' p t h rs' => ⟨env', g', t02.trans t, rs', h, p⟩, fun r g' v H' p t h r2 => hre r g' v H' p (t02.trans t) h r2, fun c fs env' g' cls d σ' H' p t h r x => hx c fs env' g' cls d σ' H' p (t02.trans t) h r x⟩
  · have e : i = xs.length := by omega
    subst e
    rw [List.drop_length] at h
    exact .inl ⟨(f _ H g t hr h.1).2 (Nat.le_refl _), hn env g σ H h.2 t hr rs⟩
/-- no set's display -/
def notSet : Expr → Bool
  | .Set _ _ _ => false
  | _ => true
theorem folded_no {e : Expr} {env : PySem.Env} (h : notSet e = true) (x : Value) : foldedSetIterable e env x = pure x := by
  cases e <;> first | rfl | cases h
theorem ss_for {wi : WI} {wt : WG} {wb : WS} (hc : X.calm = true) (hs : notSet iter = true) (hi : SI X tg iter wi) (hg : SG X tg wt) (hb : SSs X body wb) : SS X (.For tg iter body [] pos) (sFor wi wt wb) := fun W tk po => by
  refine PS.imp (ps_ul (ps_for po hc (hi W tk) (hg W tk) (hb W tk po) (folded_no hs))) fun D σ H ⟨env, g, De, Xp, rs, hr, p, hn, hre, hx⟩ => ?_
  have hx' : QXS X.K W H Xp := hx
  refine ⟨env, g, _, _, rs, hr, p, fun xs chk l g1 H1 J q t1 hr1 f eo => ?_, hx'.ex rs⟩
  refine loop_ok f (fun env' g' σ' H' p t h rs' => ?_) (fun r g' v H' p t h r2 => ?_) (hx'.step t1) (rs.mono t1) hr1 q
  · exact UL.of eo p t h fun g'' H'' p t' h' => hn env' g'' σ' H'' p (t1.trans (t.trans t')) h' (rs'.mono t')
  · exact UL.of eo p t h fun g'' H'' p t' h' => hre r g'' v H'' p (t1.trans (t.trans t')) h' (r2.mono t')
theorem ss_while {wc : WT} {wb : WS} (hc : ST X c wc) (hb : SSs X body wb) : SS X (.While c body [] pos) (sWhile wc wb) := fun W tk po => by
  refine PS.imp (ps_while po (hc W tk) (hb W tk po)) fun D σ H ⟨env, g, De, Xp, rs, hr, ⟨n, p⟩, hn, hre, hx⟩ => ?_
  have hx' : QXS X.K W H Xp := hx
  refine ⟨fun m σ' H' => ∃ env g, Tx X.K H H' ∧ Rs X.K H' env σ' ∧ HR X.K g H' ∧ Nat.rec (motive := fun _ => Env → Gp → Prop) (fun _ _ => False) (fun _ again env g => wc env g (fun k g1 => if k = true then wb env g1 { De with nx := again } Xp else De.nx env g1) fun c fs g => Xp c fs env g) m env g,
    ⟨n, env, g, .refl, rs, hr, p⟩, ?_⟩
  rintro m σ1 H1 ⟨env1, g1, t1, rs1, hr1, p1⟩
  cases m with
  | zero => exact p1.elim
  | succ m =>
    refine ⟨env1, g1, _, _, rs1, hr1, p1, fun k g2 H2 q2 t2 hr2 => ?_, (hx'.ex (rs.mono .refl)).step t1 |> fun _ => (hx'.step t1).ex rs1⟩
    have t12 := t1.trans t2
    cases k with
    | true =>
      refine ⟨fun σ' H' => ∃ env g, Tx X.K H H' ∧ Rs X.K H' env σ' ∧ HR X.K g H' ∧ Nat.rec (motive := fun _ => Env → Gp → Prop) (fun _ _ => False) (fun _ again env g => wc env g (fun k g1 => if k = true then wb env g1 { De with nx := again } Xp else De.nx env g1) fun c fs g => Xp c fs env g) m env g,
        fun σ' H' z => ⟨m, Nat.lt_succ_self m, z⟩, ?_⟩
      exact ⟨env1, g2, _, Xp, rs1.mono t2, hr2, q2, fun env' g' σ' H' p t h rs' => ⟨env', g', t12.trans t, rs', h, p⟩, fun r g' v H' p t h r2 => hre r g' v H' p (t12.trans t) h r2, fun c fs env' g' cls d σ' H' p t h r x => hx c fs env' g' cls d σ' H' p (t12.trans t) h r x⟩
    | false => exact hn env1 g2 σ1 H2 q2 t12 hr2 (rs1.mono t2)
/-! ### what is walked -/
theorem si_seq {e : Expr} {w : WE} (he : SE X e w) : SI X tg e (iSeq w) := fun W tk => by
  refine ⟨fun pins s σ H R I ⟨env, g, P, Xp, rs, hr, q, hp, hx⟩ => ?_⟩
  have hv := (he W tk).run pins s σ H (fun v H1 => ∃ x g1, Tx X.K H H1 ∧ HR X.K g1 H1 ∧ RV X.K H1 x v ∧ ((∃ xs, IsL g1 x xs ∧ P xs (fun g => IsL g x xs) none g1) ∨ ∃ xs, x = .tup xs ∧ P xs (fun _ => True) none g1)) I
    ⟨env, g, _, Xp, rs, hr, q, fun x g1 v H1 q1 t1 hr1 r1 => ⟨x, g1, t1, hr1, r1, q1⟩, hx⟩
  -- which of the two it is hangs on the value: both rules end in an iterator
  refine thn hv fun v s1 ⟨y, H1, I1, ry, x, g1, t1, hr1, r1, q1⟩ => ?_
  rcases q1 with ⟨xs, hl, q1⟩ | ⟨xs, e, q1⟩
  · obtain ⟨a, vs, e, sq, rv⟩ := hl.sq hr1 r1
    subst e
    obtain rfl : v = Value.ref a := ry
    obtain ⟨its, rv', p, hz⟩ := I1.list sq
    refine wpAny_pyIter_list p.isList ?_
    exact ⟨s1.heap.objs.size, [s1.heap.objs.size], _, _, H1, rfl, I1.kept (t' := s1.toks) fun b o e => Heap.get?_push_of_some _ e, turn_list a _, ⟨_, Heap.get?_push_size _ rfl, rfl, rfl⟩, fun b hb => by
      have e : b = s1.heap.objs.size := by simpa using hb
      subst e
      exact I1.fpOk (Nat.le_refl _) (I1.hok.fresh (Nat.le_refl _)), hp xs _ _ g1 H1 _ q1 t1 hr1 (feeds_list r1) trivial⟩
  · subst e
    obtain ⟨a, vs, e, sq, rv⟩ := r1
    subst e
    obtain rfl : v = Value.ref a := ry
    obtain ⟨its, rv', p, hz⟩ := I1.tuple sq
    refine wpAny_pyIter_tuple (show s1.heap.IsTuple a its.toArray from p) ?_
    exact ⟨s1.heap.objs.size, [s1.heap.objs.size], _, _, H1, rfl, I1.kept (t' := s1.toks) fun b o e => Heap.get?_push_of_some _ e, turn_tuple a _, ⟨_, Heap.get?_push_size _ rfl, rfl, rfl⟩, fun b hb => by
      have e : b = s1.heap.objs.size := by simpa using hb
      subst e
      exact I1.fpOk (Nat.le_refl _) (I1.hok.fresh (Nat.le_refl _)), hp xs _ _ g1 H1 _ q1 t1 hr1 (feeds_tup sq rv) trivial⟩
/-- range: lo, lo + c, .. -/
def rngL (lo c : Int) (n : Nat) : List Vl := (List.range n).map fun (k : Nat) => .int (lo + (k : Int) * c)
theorem rngL_length {lo c : Int} {n : Nat} : (rngL lo c n).length = n := by simp [rngL]
theorem rngL_get {lo c : Int} {n i : Nat} (h : i < n) : (rngL lo c n)[i]? = some (.int (lo + (i : Int) * c)) := by simp [rngL, h]
theorem feeds_rng {K : PySem.W.Frag} {H0 : Hp} {lo c : Int} {n : Nat} : Feeds K H0 (Itc lo c n) (rngL lo c n) (fun _ => True) := fun i H g t hr _ => by
  rw [rngL_length]
  refine ⟨fun hi => ⟨hi, fun v H' ⟨eh, ev⟩ => ?_⟩, fun hi => hi⟩
  subst eh ev
  exact ⟨.refl, hr, _, rngL_get hi, rfl⟩
theorem feeds_rng1 {K : PySem.W.Frag} {H0 : Hp} {lo : Int} {n : Nat} : Feeds K H0 (Itr lo n) (rngL lo 1 n) (fun _ => True) := fun i H g t hr _ => by
  rw [rngL_length]
  refine ⟨fun hi => ⟨hi, fun v H' ⟨eh, ev⟩ => ?_⟩, fun hi => hi⟩
  subst eh ev
  exact ⟨.refl, hr, _, rngL_get hi, by rw [Int.mul_one] <;> rfl⟩
def iRange1 (ra : WA) : WI := fun env g P Xp => ra env g (fun vs g1 => ∃ j : Int, vs = [.int j] ∧ -(2 ^ 62) ≤ j ∧ j < 2 ^ 62 ∧ P (rngL 0 1 j.toNat) (fun _ => True) none g1) Xp
def iRange2 (ra : WA) : WI := fun env g P Xp => ra env g (fun vs g1 => ∃ i j : Int, vs = [.int i, .int j] ∧ (-(2 ^ 62) ≤ i ∧ i < 2 ^ 62 ∧ -(2 ^ 62) ≤ j ∧ j < 2 ^ 62) ∧ P (rngL i 1 (j - i).toNat) (fun _ => True) none g1) Xp
def iRange3 (ra : WA) : WI := fun env g P Xp => ra env g (fun vs g1 => ∃ (i j c : Int) (n : Nat), vs = [.int i, .int j, .int c] ∧ RgC i j c n ∧ P (rngL i c n) (fun _ => True) none g1) Xp
theorem rv1 {K : PySem.W.Frag} {H : Hp} {i : Int} {vs : List V} (r : RVs K H [.int i] vs) : vs = [.int i] := by
  obtain ⟨y, ys, e, r1, r2⟩ := r
  rw [e, show y = V.int i from r1, show ys = [] from r2]
theorem rv2 {K : PySem.W.Frag} {H : Hp} {i j : Int} {vs : List V} (r : RVs K H [.int i, .int j] vs) : vs = [.int i, .int j] := by
  obtain ⟨y, ys, e, r1, r2⟩ := r
  rw [e, show y = V.int i from r1, rv1 r2]
theorem rv3 {K : PySem.W.Frag} {H : Hp} {i j c : Int} {vs : List V} (r : RVs K H [.int i, .int j, .int c] vs) : vs = [.int i, .int j, .int c] := by
  obtain ⟨y, ys, e, r1, r2⟩ := r
  rw [e, show y = V.int i from r1, rv2 r2]
theorem si_range1 {a : Expr} {ra : WA} {p : Pos} (hg : Gl X "range") (hm : X.mg "range" = none) (hs : notStar a = true) (ha : SA X [a] ra) : SI X tg (.Call (.Name "range" p) [a] [] pos) (iRange1 ra) := fun W tk => by
  refine PI.imp (pi_range1 hg hm (ha W tk) (starEach_cons hs)) fun σ H R ⟨env, g, P, Xp, rs, hr, q, hp, hx⟩ => ?_
  refine ⟨env, g, _, Xp, rs, hr, q, fun xs g1 vs H1 ⟨j, e, h1, h2, q1⟩ t1 hr1 r1 => ?_, hx⟩
  subst e
  exact ⟨j, rv1 r1, h1, h2, hp _ _ _ g1 H1 _ q1 t1 hr1 feeds_rng1 trivial⟩
theorem si_range2 {a b : Expr} {ra : WA} {p : Pos} (hg : Gl X "range") (hm : X.mg "range" = none) (hs : notStar a = true) (hs2 : notStar b = true) (ha : SA X [a, b] ra) : SI X tg (.Call (.Name "range" p) [a, b] [] pos) (iRange2 ra) := fun W tk => by
  refine PI.imp (pi_range2 hg hm (ha W tk) (by rw [starEach_cons hs, starEach_cons hs2] <;> rfl) (starEach_cons hs2)) fun σ H R ⟨env, g, P, Xp, rs, hr, q, hp, hx⟩ => ?_
  refine ⟨env, g, _, Xp, rs, hr, q, fun xs g1 vs H1 ⟨i, j, e, h1, q1⟩ t1 hr1 r1 => ?_, hx⟩
  subst e
  exact ⟨i, j, rv2 r1, h1, hp _ _ _ g1 H1 _ q1 t1 hr1 feeds_rng1 trivial⟩
theorem si_range3 {a b c : Expr} {ra : WA} {p : Pos} (hg : Gl X "range") (hm : X.mg "range" = none) (hs : [a, b, c].all notStar = true) (ha : SA X [a, b, c] ra) : SI X tg (.Call (.Name "range" p) [a, b, c] [] pos) (iRange3 ra) := fun W tk => by
  rw [List.all_cons, Bool.and_eq_true] at hs
  refine PI.imp (pi_range3 hg hm (ha W tk) (starEach_cons hs.1) (starEach_plain hs.2)) fun σ H R ⟨env, g, P, Xp, rs, hr, q, hp, hx⟩ => ?_
  refine ⟨env, g, _, Xp, rs, hr, q, fun xs g1 vs H1 ⟨i, j, c, n, e, h1, q1⟩ t1 hr1 r1 => ?_, hx⟩
  subst e
  exact ⟨i, j, c, n, rv3 r1, h1, hp _ _ _ g1 H1 _ q1 t1 hr1 feeds_rng trivial⟩
/-- a text, sign by sign -/
def iStr (w : WE) : WI := fun env g P Xp => w env g (fun x g1 => ∃ z, x = .str z ∧ P (z.cps.toList.map fun c => .str ⟨#[c]⟩) (fun _ => True) none g1) Xp
theorem si_str {e : Expr} {w : WE} (he : SE X e w) : SI X tg e (iStr w) := fun W tk => by
  refine PI.imp (pi_str (he W tk)) fun σ H R ⟨env, g, P, Xp, rs, hr, q, hp, hx⟩ => ?_
  refine ⟨env, g, _, Xp, rs, hr, q, fun x g1 v H1 ⟨z, e, q1⟩ t1 hr1 r1 => ?_, hx⟩
  subst e
  refine ⟨z, r1, hp _ _ _ g1 H1 _ q1 t1 hr1 (fun i H' g' t h _ => ?_) trivial⟩
  rw [List.length_map, Array.length_toList]
  refine ⟨fun hi => ⟨hi, fun v' H2 ⟨eh, c, ec, ev⟩ => ?_⟩, fun hi => hi⟩
  subst eh ev
  refine ⟨.refl, h, .str ⟨#[c]⟩, ?_, rfl⟩
  rw [List.getElem?_map, Array.getElem?_toList, ec] <;> rfl
end
end MP
set_option Elab.async false
set_option linter.all false
set_option maxRecDepth 100000
/-! MP, part 8: dicts that are walked; comprehensions. -/
namespace MP
open PySem PySem.Spec PyProof.Rows L2
/-! ### a dict is locked while it is walked -/
def tEvl (H0 : Hp) (te : TE) : TE := fun σ H Q => te σ H fun x H1 => ∃ d kvs, x = .ref d ∧ H1 d = some (.dK kvs) ∧ ∀ od, (∀ o' u', H0 d ≠ some (.frz o' u')) → Q x (upd H1 d (.frz od (.dK kvs)))
theorem pe_evl {X : Cx} {e : Expr} {te : TE} (h : PE X e te) : PE X e (tEvl X.H_0 te) := by
  refine ⟨fun pins s σ H Q I hw => thn (h.run pins s σ H _ I hw) fun v s1 ⟨x, H1, I1, r, d, kvs, ex, hd, q⟩ => ?_⟩
  obtain ⟨od, I2⟩ := I1.lock hd trivial
  exact ⟨x, _, I2, r, q od (I1.nofrz hd trivial)⟩
/-- a dict: locked; or locked already -/
def iDict (f : Key × Vl → Vl) (w : WE) : WI := fun env g P Xp => w env g (fun x g1 => ∃ d kvs, x = .ref d ∧
  ((g1 d = some (.dct kvs) ∧ ∀ t, P (kvs.map f) (fun g => g d = some (.lk t kvs)) (some (d, t, kvs)) (gup g1 d (.lk t kvs))) ∨
    ∃ t, g1 d = some (.lk t kvs) ∧ P (kvs.map f) (fun g => g d = some (.lk t kvs)) none g1)) Xp
section
variable {X : Cx} {tg e : Expr} {w : WE} {apos cpos : Pos}
/-- evaluated, locked if it is open -/
def tEvl2 (H0 : Hp) (te : TE) : TE := fun σ H Q => te σ H fun x H1 => ∃ d, x = .ref d ∧ ((∃ kvs, H1 d = some (.dK kvs) ∧ ∀ od, (∀ o' u', H0 d ≠ some (.frz o' u')) → Q x (upd H1 d (.frz od (.dK kvs)))) ∨ ∃ od kvs, H1 d = some (.frz od (.dK kvs)) ∧ Q x H1)
theorem pe_evl2 {te : TE} (h : PE X e te) : PE X e (tEvl2 X.H_0 te) := by
  refine ⟨fun pins s σ H Q I hw => thn (h.run pins s σ H _ I hw) fun v s1 ⟨x, H1, I1, r, d, ex, q⟩ => ?_⟩
  rcases q with ⟨kvs, hd, q⟩ | ⟨od, kvs, hd, q⟩
  · obtain ⟨od, I2⟩ := I1.lock hd trivial
    exact ⟨x, _, I2, r, q od (I1.nofrz hd trivial)⟩
  · exact ⟨x, _, I1, r, q⟩
theorem dict_in {W : WX} {f : Key × Vl → Vl} {σ : L2.St} {H : Hp} {R : It → Hp → Prop} {C : Addr → Obj → List (Key × V) → It} (h : tI X.K X.H_0 W (iDict f w) σ H R)
    (F : ∀ (d : Addr) (t : LTok) (kvs : List (Key × Vl)) (H1 : Hp), Feeds X.K H1 (C d t.1 t.2) (kvs.map f) (fun g => g d = some (.lk t kvs))) :
    tEvl2 X.H_0 (tE X.K W w) σ H fun x H1 => ∃ d o kvs, x = .ref d ∧ H1 d = some (.frz o (.dK kvs)) ∧ R (C d o kvs) H1 := by
  obtain ⟨env, g, P, Xp, rs, hr, q, hp, hx⟩ := h
  refine ⟨env, g, _, Xp, rs, hr, q, fun x g1 v H1 ⟨d, kvs, e, q1⟩ t1 hr1 r1 => ?_, hx⟩
  subst e
  obtain rfl : v = V.ref d := r1
  refine ⟨d, rfl, ?_⟩
  rcases q1 with ⟨ed, q1⟩ | ⟨t, ed, q1⟩
  · obtain ⟨es, e1, rk⟩ := hr1 d _ ed
    have n : NoT (H1 d) := by rw [e1]; trivial
    refine .inl ⟨es, e1, fun od nf => ⟨d, od, es, rfl, upd_same, ?_⟩⟩
    have t2 : Tx X.K H1 (upd H1 d (.frz od (.dK es))) := tx_upd n
    exact hp _ _ _ _ _ _ (q1 (od, es)) (t1.trans t2) (hr1.put n ⟨upd_same, rk.mono t2⟩) (F d (od, es) kvs _) nf
  · obtain ⟨e1, rk⟩ := hr1 d _ ed
    exact .inr ⟨t.1, t.2, e1, d, t.1, t.2, rfl, e1, hp _ _ _ _ _ _ q1 t1 hr1 (F d t kvs _) trivial⟩
theorem RKs.get' {K : PySem.W.Frag} {H : Hp} {κ : Type} [DecidableEq κ] : ∀ {kvs : List (κ × Vl)} {es : List (κ × V)} {i : Nat} {k : κ} {v : V}, RKs K H kvs es → es[i]? = some (k, v) → ∃ x, kvs[i]? = some (k, x) ∧ RV K H x v
  | [], es, _, _, _, h, e => by
    have e1 : es = [] := h
    subst e1
    simp at e
  | q :: r, es, 0, k, v, h, e => by
    obtain ⟨y, ys, e1, r1, r2⟩ := h
    subst e1
    simp at e
    obtain ⟨e2, e3⟩ := e
    subst e2 e3
    exact ⟨q.2, rfl, r1⟩
  | q :: r, es, i + 1, k, v, h, e => by
    obtain ⟨y, ys, e1, r1, r2⟩ := h
    subst e1
    obtain ⟨x, e2, r3⟩ := RKs.get' (i := i) r2 (by simpa using e)
    exact ⟨x, by simpa using e2, r3⟩
theorem evl_imp {H0 : Hp} {te : TE} {σ : L2.St} {H : Hp} {Q : VK} {W : WX} {w : WE} {P : VK} (h : tEvl2 H0 (tE X.K W w) σ H P) (i : ∀ v H, P v H → Q v H) : tEvl2 H0 (tE X.K W w) σ H Q := by
  obtain ⟨env, g, Pq, Xp, rs, hr, q, hp, hx⟩ := h
  refine ⟨env, g, Pq, Xp, rs, hr, q, fun r g' v H' p t h r2 => ?_, hx⟩
  obtain ⟨d, ed, z⟩ := hp r g' v H' p t h r2
  refine ⟨d, ed, ?_⟩
  rcases z with ⟨kvs, h1, z⟩ | ⟨od, kvs, h1, z⟩
  · exact .inl ⟨kvs, h1, fun od nf => i _ _ (z od nf)⟩
  · exact .inr ⟨od, kvs, h1, i _ _ z⟩
theorem si_keys (he : SE X e w) : SI X tg e (iDict (fun p => kL p.1) w) := fun W tk => by
  refine PI.imp (pi_keys (pe_evl2 (he W tk))) fun σ H R h => ?_
  refine evl_imp (te := tE X.K W w) (dict_in (C := Itk) h fun d t kvs H1 i H3 g3 t3 hr3 c => ?_) fun v H ⟨d, o, kvs, e1, e2, q⟩ => ⟨d, o, e1, .inl ⟨kvs, e2, q⟩⟩
  obtain ⟨e3, rk3⟩ := hr3 d _ c
  rw [List.length_map, ← rk3.length]
  refine ⟨fun hi => ⟨⟨e3, hi⟩, fun v H' ⟨eh, k, x, ek, ev⟩ => ?_⟩, fun hi => ⟨e3, hi⟩⟩
  subst eh ev
  obtain ⟨y, ey, ry⟩ := rk3.get' ek
  exact ⟨.refl, hr3, kL k, by rw [List.getElem?_map, ey] <;> rfl, rel_kL k⟩
theorem si_values (hb : attrOk e = true) (hl : (apos.endLine == cpos.line) = true) (he : SE X e w) : SI X tg (.Call (.Attribute e "values" apos) [] [] cpos) (iDict (fun p => p.2) w) := fun W tk => by
  refine PI.imp (pi_values (pe_evl2 (he W tk)) (attr_base hb) hl) fun σ H R h => ?_
  refine evl_imp (te := tE X.K W w) (dict_in (C := Itd) h fun d t kvs H1 i H3 g3 t3 hr3 c => ?_) fun v H z => z
  obtain ⟨e3, rk3⟩ := hr3 d _ c
  rw [List.length_map, ← rk3.length]
  refine ⟨fun hi => ⟨⟨e3, hi⟩, fun v H' ⟨eh, k, ek⟩ => ?_⟩, fun hi => ⟨e3, hi⟩⟩
  subst eh
  obtain ⟨x, ex, rx⟩ := rk3.get' ek
  exact ⟨.refl, hr3, x, by rw [List.getElem?_map, ex] <;> rfl, rx⟩
theorem si_items {elts : List Expr} {kk : Nat} {tpos : Pos} (hb : attrOk e = true) (hl : (apos.endLine == cpos.line) = true) (he : SE X e w) :
    SI X (.Tuple elts kk tpos) (.Call (.Attribute e "items" apos) [] [] cpos) (iDict (fun p => .tup [kL p.1, p.2]) w) := fun W tk => by
  refine PI.imp (pi_items (pe_evl2 (he W tk)) (attr_base hb) hl) fun σ H R h => ?_
  refine evl_imp (te := tE X.K W w) (dict_in (C := Iti) h fun d t kvs H1 i H3 g3 t3 hr3 c => ?_) fun v H z => z
  obtain ⟨e3, rk3⟩ := hr3 d _ c
  rw [List.length_map, ← rk3.length]
  refine ⟨fun hi => ⟨⟨e3, hi⟩, fun v H' ⟨T, k, y, ek, ev, hT, eh⟩ => ?_⟩, fun hi => ⟨e3, hi⟩⟩
  subst eh ev
  obtain ⟨x, ex, rx⟩ := rk3.get' ek
  have t4 : Tx X.K H3 (upd H3 T (.tup [kV k, y])) := tx_upd (.none hT)
  exact ⟨t4, hr3.new hT, .tup [kL k, x], by rw [List.getElem?_map, ex] <;> rfl, T, [kV k, y], rfl, .of upd_same, .cons (rel_kL k) (.cons (rx.mono t4) .nil)⟩
end
end MP
set_option Elab.async false
set_option linter.all false
set_option maxRecDepth 100000
/-! MP, part 9: comprehensions. -/
namespace MP
open PySem PySem.Spec PyProof.Rows L2
/-- a comprehension's target: a name, or a tuple of names (by their slots) -/
inductive CT where
  | one (i : Nat) | many (is : List Nat)
def CT.slots : CT → List Nat
  | .one i => [i]
  | .many is => is
def gNames : List Nat → TGs
  | [] => gNil
  | i :: is => gCons (gName i) (gNames is)
def CT.g (K : PySem.W.Frag) : CT → TG
  | .one i => gName i
  | .many is => gTup K is.length (gNames is)
def setA (σ : L2.St) : List Nat → List V → L2.St
  | i :: is, v :: vs => setA (σ.set i (some v)) is vs
  | _, _ => σ
def setE (env : Env) : List Nat → List Vl → Env
  | i :: is, v :: vs => setE (env.set i (some v)) is vs
  | _, _ => env
def bindCT (t : CT) (x : Vl) (env : Env) (k : Env → Prop) : Prop := match t with
  | .one i => k (env.set i (some x))
  | .many is => ∃ xs, x = .tup xs ∧ xs.length = is.length ∧ k (setE env is xs)
theorem gNames_ok : ∀ {is : List Nat} {vs : List V} {σ : L2.St} {H : Hp} {Q : L2.St → Hp → Prop}, vs.length = is.length → Q (setA σ is vs) H → gNames is vs σ H Q
  | [], vs, σ, H, Q, hl, q => by
    have e : vs = [] := List.eq_nil_of_length_eq_zero hl
    subst e
    exact ⟨rfl, q⟩
  | i :: is, [], _, _, _, hl, _ => by simp at hl
  | i :: is, v :: vs, σ, H, Q, hl, q => ⟨v, vs, rfl, gNames_ok (by simpa using hl) q⟩
theorem setA_rel {K : PySem.W.Frag} {H : Hp} : ∀ {is : List Nat} {xs : List Vl} {vs : List V} {env : Env} {σ : L2.St}, Rs K H env σ → RVs K H xs vs → Rs K H (setE env is xs) (setA σ is vs)
  | [], [], vs, env, σ, r, h => by
    have e : vs = [] := h
    subst e
    exact r
  | [], x :: xs, vs, env, σ, r, h => by
    obtain ⟨w, us, e, r1, r2⟩ := h
    subst e
    exact r
  | i :: is, [], vs, env, σ, r, h => by
    have e : vs = [] := h
    subst e
    exact r
  | i :: is, x :: xs, vs, env, σ, r, h => by
    obtain ⟨w, us, e, r1, r2⟩ := h
    subst e
    show Rs K H (setE (env.set i (some x)) is xs) (setA (σ.set i (some w)) is us)
    exact setA_rel (r.set i r1) r2
/-- the own slots forgotten -/
def wipeE (env : Env) : List Nat → Env
  | [] => env
  | v :: vs => (wipeE env vs).set v none
theorem wipe_rel {K : PySem.W.Frag} {H : Hp} {env : Env} {σ : L2.St} (r : Rs K H env σ) : ∀ vs : List Nat, Rs K H (wipeE env vs) (wipe σ vs)
  | [] => r
  | v :: vs => (wipe_rel r vs).unset v
theorem wipe_get (σ : L2.St) (j : Nat) : ∀ vs : List Nat, (wipe σ vs)[j]? = if j ∈ vs then (if j < σ.length then some none else none) else σ[j]?
  | [] => by simp [wipe]
  | v :: vs => by
    have ih := wipe_get σ j vs
    unfold wipe
    by_cases h : v = j
    · subst h
      rw [if_pos List.mem_cons_self]
      by_cases hl : v < σ.length
      · rw [if_pos hl, List.getElem?_set_self (by rw [wipe_length]; exact hl)]
      · rw [if_neg hl, List.getElem?_eq_none (by rw [List.length_set, wipe_length]; omega)]
    · rw [List.getElem?_set_ne h, ih]
      have e : (j ∈ v :: vs) = (j ∈ vs) := by simp [Ne.symm h]
      simp only [e]
theorem wipe_set {σ : L2.St} {i : Nat} {x : Option V} {vs : List Nat} (h : i ∈ vs) : wipe (σ.set i x) vs = wipe σ vs := by
  refine List.ext_getElem? fun j => ?_
  rw [wipe_get, wipe_get, List.length_set]
  by_cases hj : j ∈ vs
  · rw [if_pos hj, if_pos hj]
  · rw [if_neg hj, if_neg hj, List.getElem?_set_ne]
    rintro rfl
    exact hj h
theorem wipe_wipe {σ : L2.St} {vs : List Nat} : wipe (wipe σ vs) vs = wipe σ vs := by
  refine List.ext_getElem? fun j => ?_
  rw [wipe_get, wipe_length, wipe_get]
  by_cases hj : j ∈ vs
  · rw [if_pos hj, if_pos hj]
  · rw [if_neg hj, if_neg hj]
theorem wipe_setA {own : List Nat} : ∀ {is : List Nat} {vs : List V} {σ : L2.St}, (∀ i ∈ is, i ∈ own) → wipe (setA σ is vs) own = wipe σ own
  | [], vs, σ, _ => by cases vs <;> rfl
  | i :: is, [], σ, _ => rfl
  | i :: is, v :: vs, σ, h => by
    show wipe (setA (σ.set i (some v)) is vs) own = _
    rw [wipe_setA fun j hj => h j (List.mem_cons_of_mem _ hj), wipe_set (h i List.mem_cons_self)]
/-- the target's reading, from what is bound -/
theorem ct_ok {K : PySem.W.Frag} {H : Hp} {t : CT} {own : List Nat} {x : Vl} {v : V} {env : Env} {σ : L2.St} {k : Env → Prop} {Q : L2.St → Hp → Prop} (ho : ∀ i ∈ t.slots, i ∈ own) (rs : Rs K H (wipeE env own) (wipe σ own)) (r : RV K H x v) (q : bindCT t x (wipeE env own) k)
    (h : ∀ env2 σ2, k env2 → Rs K H env2 σ2 → wipe σ2 own = wipe σ own → Q σ2 H) : t.g K v (wipe σ own) H Q := by
  cases t with
  | one i =>
    refine h _ _ q (rs.set i r) ?_
    rw [wipe_set (ho i List.mem_cons_self), wipe_wipe]
  | many is =>
    obtain ⟨xs, e, hl, q⟩ := q
    subst e
    obtain ⟨a, vs, e, s, rv⟩ := r
    refine ⟨a, vs, e, s, by rw [rv.length]; exact hl, gNames_ok (by rw [rv.length]; exact hl) (h _ _ q (setA_rel rs rv) ?_)⟩
    have ho' : ∀ i ∈ is, i ∈ own := ho
    rw [wipe_setA ho', wipe_wipe]
/-! ### [e for t in iter if c] -/
def noX : Xo := fun _ _ _ => False
def noW : WX := fun _ _ _ _ => False
theorem takes_no (X : Cx) : Takes X noW := fun _ _ x => by
  obtain ⟨_, _, _, _, _, _, _, _, _, _, _, _, _, _, _, _, z⟩ := x
  exact z.elim
theorem qx_no {K : PySem.W.Frag} {H : Hp} {σ : L2.St} : QX K noW H σ noX := fun _ _ _ _ _ _ z _ _ _ => z
def cLoop (chk : Gp → Prop) (l : Lk) (t : CT) (env : Env) (wc : WT) (we : WE) (D : Addr) (P : Po) : List Vl → Gp → Prop
  | [], g => chk g ∧ exG l g (P (.ref D))
  | x :: xs, g => chk g ∧ bindCT t x env fun env2 => wc env2 g (fun k g2 => if k = true then we env2 g2 (fun y g3 => ∃ acc, g3 D = some (.lst acc) ∧ acc.length < sizeLine ∧ cLoop chk l t env wc we D P xs (gup g3 D (.lst (acc ++ [y])))) noX
      else cLoop chk l t env wc we D P xs g2) noX
def wComp (wi : WI) (t : CT) (own : List Nat) (wc : WT) (we : WE) : WE := fun env g P Xp => wi env g (fun xs chk l g1 => ∀ D, g1 D = none → cLoop chk l t (wipeE env own) wc we D P xs (gup g1 D (.lst []))) Xp
def wYes : WT := fun _ g P _ => P true g
/-- a clause's tests, over the cells -/
def STS (X : Cx) (ifs : List Expr) (w : WT) : Prop := PTs X ifs (tT X.K noW w)
theorem sts_nil {X : Cx} : STS X [] wYes := ⟨fun pins s σ H Q I ⟨env, g, P, Xp, rs, hr, q, hp, hx⟩ => pts_nil.run pins s σ H Q I (hp true g H q .refl hr)⟩
theorem sts_one {X : Cx} {c : Expr} {w : WT} (h : ST X c w) : STS X [c] w := pts_one (h noW (takes_no X))
section
variable {X : Cx} {elt tg iter : Expr} {ifs : List Expr} {scope : Scope} {own : List (Str × Nat)} {pos : Pos} {wi : WI} {t : CT} {wc : WT} {we : WE}
theorem comp_ok {W : WX} {σ : L2.St} {H : Hp} {Q : VK} (ho : ∀ i ∈ t.slots, i ∈ own.map (·.2)) (h : tE X.K W (wComp wi t (own.map (·.2)) wc we) σ H Q) :
    tLc (tI X.K X.H_0 W wi) (t.g X.K) (tT X.K noW wc) (tE X.K noW we) (own.map (·.2)) σ H fun v H' => UL X.H_0 H' (Q v) := by
  obtain ⟨env, g, P, Xp, rs, hr, q, hp, hx⟩ := h
  refine ⟨env, g, _, Xp, rs, hr, q, fun xs chk l g1 H1 J q1 t1 hr1 f eo D hD => ?_, hx⟩
  have n0 : NoT (H1 D) := .none hD
  have tD : Tx X.K H1 (upd H1 D (.lst [])) := tx_upd n0
  refine ⟨fun i m H' => m = xs.length - i ∧ i ≤ xs.length ∧ ∃ g', Tx X.K H1 H' ∧ HR X.K g' H' ∧ cLoop chk l t (wipeE env (own.map (·.2))) wc we D P (xs.drop i) g',
    ⟨xs.length, by simp, Nat.zero_le _, _, tD, hr1.put (c := .lst []) n0 ⟨[], upd_same, rfl⟩, q1 D (hr1.free hD)⟩, ?_⟩
  rintro i m H2 ⟨rfl, hi, g2, t2, hr2, h⟩
  by_cases hlt : i < xs.length
  · have e : xs.drop i = xs[i] :: xs.drop (i + 1) := List.drop_eq_getElem_cons hlt
    rw [e] at h
    obtain ⟨hc, h⟩ := h
    obtain ⟨hgo, hy⟩ := (f i H2 g2 t2 hr2 hc).1 hlt
    refine .inr ⟨hgo, fun H' => ∃ g', Tx X.K H1 H' ∧ HR X.K g' H' ∧ cLoop chk l t (wipeE env (own.map (·.2))) wc we D P (xs.drop (i + 1)) g', fun H' z => ⟨xs.length - (i + 1), by omega, rfl, hlt, z⟩, fun v H3 y => ?_⟩
    obtain ⟨t3, hr3, x, ex, rx⟩ := hy v H3 y
    have e2 : x = xs[i] := by
      rw [List.getElem?_eq_getElem hlt] at ex
      exact (Option.some.inj ex).symm
    subst e2
    have t13 := t2.trans t3
    refine ct_ok ho (wipe_rel (rs.mono (t1.trans t13)) _) rx h fun env2 σ2 q2 rs2 hw => ⟨hw, ?_⟩
    refine ⟨env2, g2, _, noX, rs2, hr3, q2, fun k g4 H4 q4 t4 hr4 => ?_, qx_no⟩
    have t14 := t13.trans t4
    cases k with
    | true =>
      refine ⟨env2, g4, _, noX, rs2.mono t4, hr4, q4, fun y5 g5 v5 H5 ⟨acc, ea, hl, q5⟩ t5 hr5 r5 => ?_, qx_no⟩
      obtain ⟨vs, e5, rv⟩ := hr5 D _ ea
      obtain ⟨t6, hr6⟩ := put_lst hr5 ea (rv.append (.cons r5 .nil))
      exact ⟨vs, e5, by rw [rv.length]; exact hl, _, t14.trans (t5.trans t6), hr6, q5⟩
    | false => exact ⟨g4, t14, hr4, q4⟩
  · have e : i = xs.length := by omega
    subst e
    rw [List.drop_length] at h
    exact .inl ⟨(f _ H2 g2 t2 hr2 h.1).2 (Nat.le_refl _), UL.of eo h.2 t2 hr2 fun g' H' p t' h' => hp _ g' _ H' p (t1.trans (t2.trans t')) h' rfl⟩
theorem se_comp (hc : X.calm = true) (hN : X.N.Nodup) (hs : notSet iter = true) (hi : SI X tg iter wi) (ok : BlkOk X.N X.env.scope scope own) (ho : ∀ i ∈ t.slots, i ∈ own.map (·.2))
    (hg : ∀ (s : Shared) (H : Hp) (C : Addr) (cl : List (Str × Addr)) (fp : List Addr), PG (X.blk s H scope (compEnvC scope cl C X.env) fp) tg (t.g X.K)) (ht : ∀ (s : Shared) (H : Hp) (C : Addr) (cl : List (Str × Addr)) (fp : List Addr), STS (X.blk s H scope (compEnvC scope cl C X.env) fp) ifs wc)
    (he : ∀ (s : Shared) (H : Hp) (C : Addr) (cl : List (Str × Addr)) (fp : List Addr), SE (X.blk s H scope (compEnvC scope cl C X.env) fp) elt we) : SE X (.ListComp elt [⟨tg, iter, ifs, 0⟩] scope pos) (wComp wi t (own.map (·.2)) wc we) := fun W tk =>
  PE.imp (pe_ul (pe_lc (tt := tT X.K noW wc) (te := tE X.K noW we) hc hN (hi W tk) ok hg (fun s H C cl fp => ht s H C cl fp) (fun s H C cl fp => he s H C cl fp noW (takes_no _)) (folded_no hs))) fun σ H Q h => comp_ok ho h
/-- y = [..], y a local -/
theorem ss_setLc {i : Nat} {y : Str} {py spos : Pos} (hc : X.calm = true) (hN : X.N.Nodup) (hy : X.N[i]? = some y) (hyl : X.env.scope.names.lookup y = some .local) (hsw : swapsWith (.ListComp elt [⟨tg, iter, ifs, 0⟩] scope pos) (some (.Name y py)) spos.line X.env = pure true)
    (hs : notSet iter = true) (hi : SI X tg iter wi) (ok : BlkOk X.N X.env.scope scope own) (ho : ∀ i ∈ t.slots, i ∈ own.map (·.2))
    (hg : ∀ (s : Shared) (H : Hp) (C : Addr) (cl : List (Str × Addr)) (fp : List Addr), PG (X.blk s H scope (compEnvC scope cl C X.env) fp) tg (t.g X.K)) (ht : ∀ (s : Shared) (H : Hp) (C : Addr) (cl : List (Str × Addr)) (fp : List Addr), STS (X.blk s H scope (compEnvC scope cl C X.env) fp) ifs wc)
    (he : ∀ (s : Shared) (H : Hp) (C : Addr) (cl : List (Str × Addr)) (fp : List Addr), SE (X.blk s H scope (compEnvC scope cl C X.env) fp) elt we) :
    SS X (.Assign [.Name y py] (.ListComp elt [⟨tg, iter, ifs, 0⟩] scope pos) spos) (sAsg (wComp wi t (own.map (·.2)) wc we) (wgName i)) := fun W tk po => by
  refine PS.imp (ps_ul (ps_setLc (tt := tT X.K noW wc) (te := tE X.K noW we) hc hN hy hyl hsw (hi W tk) ok hg (fun s H C cl fp => ht s H C cl fp) (fun s H C cl fp => he s H C cl fp noW (takes_no _)) (folded_no hs))) fun D σ H ⟨env, g, De, Xp, rs, hr, p, hn, hre, hx⟩ => ?_
  have hx' : QXS X.K W H Xp := hx
  exact comp_ok (Q := fun x H1 => D.nx (σ.set i (some x)) H1) ho ⟨env, g, _, _, rs, hr, p, fun x g1 v H1 q1 t1 hr1 r1 => hn _ g1 _ H1 q1 t1 hr1 ((rs.mono t1).set i r1), hx'.ex rs⟩
end
/-! ### {k: v for t in iter if c} -/
def dLoop (chk : Gp → Prop) (l : Lk) (t : CT) (env : Env) (wc : WT) (wk wv : WE) (D : Addr) (P : Po) : List Vl → Gp → Prop
  | [], g => chk g ∧ exG l g (P (.ref D))
  | x :: xs, g => chk g ∧ bindCT t x env fun env2 => wc env2 g (fun k g2 => if k = true then wk env2 g2 (fun y g3 => wv env2 g3 (fun z g4 => ∃ kvs key, y = kL key ∧ g4 D = some (.dct kvs) ∧ kvs.length < sizeLine ∧ dLoop chk l t env wc wk wv D P xs (gup g4 D (.dct (putL kvs key z)))) noX) noX
      else dLoop chk l t env wc wk wv D P xs g2) noX
def wDComp (wi : WI) (t : CT) (own : List Nat) (wc : WT) (wk wv : WE) : WE := fun env g P Xp => wi env g (fun xs chk l g1 => ∀ D, g1 D = none → dLoop chk l t (wipeE env own) wc wk wv D P xs (gup g1 D (.dct []))) Xp
section
variable {X : Cx} {kx vx tg iter : Expr} {ifs : List Expr} {scope : Scope} {own : List (Str × Nat)} {pos : Pos} {wi : WI} {t : CT} {wc : WT} {wk wv : WE}
theorem dcomp_ok {W : WX} {σ : L2.St} {H : Hp} {Q : VK} (ho : ∀ i ∈ t.slots, i ∈ own.map (·.2)) (h : tE X.K W (wDComp wi t (own.map (·.2)) wc wk wv) σ H Q) :
    tDc (tI X.K X.H_0 W wi) (t.g X.K) (tT X.K noW wc) (tE X.K noW wk) (tE X.K noW wv) (own.map (·.2)) σ H fun v H' => UL X.H_0 H' (Q v) := by
  obtain ⟨env, g, P, Xp, rs, hr, q, hp, hx⟩ := h
  refine ⟨env, g, _, Xp, rs, hr, q, fun xs chk l g1 H1 J q1 t1 hr1 f eo D hD => ?_, hx⟩
  have n0 : NoT (H1 D) := .none hD
  have tD : Tx X.K H1 (upd H1 D (.dK [])) := tx_upd n0
  refine ⟨fun i m H' => m = xs.length - i ∧ i ≤ xs.length ∧ ∃ g', Tx X.K H1 H' ∧ HR X.K g' H' ∧ dLoop chk l t (wipeE env (own.map (·.2))) wc wk wv D P (xs.drop i) g',
    ⟨xs.length, by simp, Nat.zero_le _, _, tD, hr1.put (c := .dct []) n0 ⟨[], upd_same, rfl⟩, q1 D (hr1.free hD)⟩, ?_⟩
  rintro i m H2 ⟨rfl, hi, g2, t2, hr2, h⟩
  by_cases hlt : i < xs.length
  · have e : xs.drop i = xs[i] :: xs.drop (i + 1) := List.drop_eq_getElem_cons hlt
    rw [e] at h
    obtain ⟨hc, h⟩ := h
    obtain ⟨hgo, hy⟩ := (f i H2 g2 t2 hr2 hc).1 hlt
    refine .inr ⟨hgo, fun H' => ∃ g', Tx X.K H1 H' ∧ HR X.K g' H' ∧ dLoop chk l t (wipeE env (own.map (·.2))) wc wk wv D P (xs.drop (i + 1)) g', fun H' z => ⟨xs.length - (i + 1), by omega, rfl, hlt, z⟩, fun v H3 y => ?_⟩
    obtain ⟨t3, hr3, x, ex, rx⟩ := hy v H3 y
    have e2 : x = xs[i] := by
      rw [List.getElem?_eq_getElem hlt] at ex
      exact (Option.some.inj ex).symm
    subst e2
    have t13 := t2.trans t3
    refine ct_ok ho (wipe_rel (rs.mono (t1.trans t13)) _) rx h fun env2 σ2 q2 rs2 hw => ⟨hw, ?_⟩
    refine ⟨env2, g2, _, noX, rs2, hr3, q2, fun k g4 H4 q4 t4 hr4 => ?_, qx_no⟩
    have t14 := t13.trans t4
    cases k with
    | true =>
      refine ⟨env2, g4, _, noX, rs2.mono t4, hr4, q4, fun y5 g5 v5 H5 q5 t5 hr5 r5 => ?_, qx_no⟩
      refine ⟨env2, g5, _, noX, rs2.mono (t4.trans t5), hr5, q5, fun z6 g6 v6 H6 ⟨kvs, key, ek, ea, hl, q6⟩ t6 hr6 r6 => ?_, qx_no⟩
      subst ek
      obtain ⟨es, e5, rk⟩ := hr6 D _ ea
      have n : NoT (H6 D) := by rw [e5]; trivial
      have t7 : Tx X.K H6 (upd H6 D (.dK (putK es key v6))) := tx_upd n
      exact ⟨es, key, kL_rel r5, e5, by rw [rk.length]; exact hl, _, t14.trans (t5.trans (t6.trans t7)), hr6.put (c := .dct (putL kvs key z6)) n ⟨_, upd_same, (rk.put r6).mono t7⟩, q6⟩
    | false => exact ⟨g4, t14, hr4, q4⟩
  · have e : i = xs.length := by omega
    subst e
    rw [List.drop_length] at h
    exact .inl ⟨(f _ H2 g2 t2 hr2 h.1).2 (Nat.le_refl _), UL.of eo h.2 t2 hr2 fun g' H' p t' h' => hp _ g' _ H' p (t1.trans (t2.trans t')) h' rfl⟩
theorem se_dcomp (hc : X.calm = true) (hN : X.N.Nodup) (hs : notSet iter = true) (hi : SI X tg iter wi) (ok : BlkOk X.N X.env.scope scope own) (ho : ∀ i ∈ t.slots, i ∈ own.map (·.2))
    (hg : ∀ (s : Shared) (H : Hp) (C : Addr) (cl : List (Str × Addr)) (fp : List Addr), PG (X.blk s H scope (compEnvC scope cl C X.env) fp) tg (t.g X.K)) (ht : ∀ (s : Shared) (H : Hp) (C : Addr) (cl : List (Str × Addr)) (fp : List Addr), STS (X.blk s H scope (compEnvC scope cl C X.env) fp) ifs wc)
    (hk : ∀ (s : Shared) (H : Hp) (C : Addr) (cl : List (Str × Addr)) (fp : List Addr), SE (X.blk s H scope (compEnvC scope cl C X.env) fp) kx wk)
    (he : ∀ (s : Shared) (H : Hp) (C : Addr) (cl : List (Str × Addr)) (fp : List Addr), SE (X.blk s H scope (compEnvC scope cl C X.env) fp) vx wv) : SE X (.DictComp kx vx [⟨tg, iter, ifs, 0⟩] scope pos) (wDComp wi t (own.map (·.2)) wc wk wv) := fun W tk =>
  PE.imp (pe_ul (pe_dc (tt := tT X.K noW wc) (tk := tE X.K noW wk) (tv := tE X.K noW wv) hc hN (hi W tk) ok hg (fun s H C cl fp => ht s H C cl fp) (fun s H C cl fp => hk s H C cl fp noW (takes_no _)) (fun s H C cl fp => he s H C cl fp noW (takes_no _)) (folded_no hs))) fun σ H Q h => dcomp_ok ho h
end
end MP
set_option Elab.async false
set_option linter.all false
set_option maxRecDepth 100000
/-! MP, part 10: a def's contract from its body. -/
namespace MP
open PySem PySem.Spec PyProof.Rows L2
theorem lookup_zip {ns : List Str} {us : List Value} : ∀ {n : Str}, us.length = ns.length → n ∈ ns → ((ns.zip us).lookup n).isSome = true := by
  induction ns generalizing us with
  | nil => intro n _ h; cases h
  | cons a r ih =>
    intro n hl h
    cases us with
    | nil => cases hl
    | cons u us =>
      rw [List.zip_cons_cons, List.lookup_cons]
      cases e : (n == a) with
      | true => rfl
      | false =>
        refine ih (by simpa using hl) ?_
        rcases List.mem_cons.mp h with h | h
        · subst h; simp at e
        · exact h
theorem binds_zip {ns : List Str} (nd : ns.Nodup) : ∀ {us : List Value}, us.length = ns.length → (ns.filterMap fun n => ((ns.zip us).lookup n).map (n, ·)) = ns.zip us := by
  induction ns with
  | nil => intro us h; rfl
  | cons a r ih =>
    intro us hl
    cases us with
    | nil => cases hl
    | cons u us =>
      obtain ⟨h1, h2⟩ := List.nodup_cons.mp nd
      rw [List.zip_cons_cons, List.filterMap_cons]
      simp only [List.lookup_cons, beq_self_eq_true, Option.map_some]
      congr 1
      have q : ∀ l : List Str, a ∉ l → (l.filterMap fun n => (match n == a with | true => some u | false => (r.zip us).lookup n).map (n, ·)) = l.filterMap fun n => ((r.zip us).lookup n).map (n, ·) := by
        intro l
        induction l with
        | nil => intro _; rfl
        | cons n l il =>
          intro hn
          have e : (n == a) = false := by
            rw [beq_eq_false_iff_ne]
            rintro rfl
            exact hn List.mem_cons_self
          rw [List.filterMap_cons, List.filterMap_cons, il fun z => hn (List.mem_cons_of_mem _ z)]
          simp only [e]
      exact (q r h1).trans (ih h2 (us := us) (by simpa using hl))
def plainA (a : Arguments) (ns : List Str) : Bool := a.posonlyargs.isEmpty && (decide (a.args.map (·.arg) = ns) && (a.vararg.isNone && (a.kwonlyargs.isEmpty && (a.kwarg.isNone && a.defaults.isEmpty))))
theorem bind_plain {name qual : Str} {params : Arguments} {body : List Stmt} {scope : Scope} {kV doc pm cdv ct : Value} {an : Option Addr} {ns : List Str} {us : List Value} (h : plainA params ns = true) (nd : ns.Nodup) (hl : us.length = ns.length) :
    bindArgs (PySem.W.fnOf name qual params body scope .none kV doc pm an cdv ct) ⟨us, []⟩ = pure (ns.zip us) := by
  unfold plainA at h
  simp only [Bool.and_eq_true, List.isEmpty_iff, decide_eq_true_eq, Option.isNone_iff_eq_none] at h
  obtain ⟨h1, h2, h3, h4, h5, h6⟩ := h
  unfold bindArgs PySem.W.fnOf
  simp only [h1, h2, h3, h4, h5, List.map_nil, List.nil_append, List.append_nil]
  have m : (ns.take (ns.length - 0)).filter (fun n => ((ns.zip us).lookup n).isNone) = [] := by
    rw [Nat.sub_zero, List.take_length, List.filter_eq_nil_iff]
    intro n hn
    obtain ⟨v, e⟩ := Option.isSome_iff_exists.mp (lookup_zip hl hn)
    rw [e]
    exact Bool.false_ne_true
  have sn : seqItems? Value.none = pure none := rfl
  have hd : decide (us.length > ns.length) = false := decide_eq_false (by omega)
  simp only [List.forIn_nil, sn, pure_bind, hd, Bool.false_and, Option.getD_none, List.drop_nil, List.length_nil, m, List.isEmpty_nil, Bool.not_true, Bool.false_eq_true, if_false, List.zip_nil_right, binds_zip nd hl]
/-- the star's def: one name, then the rest -/
def starA (a : Arguments) (pa pv : Str) : Bool := a.posonlyargs.isEmpty && (decide (a.args.map (·.arg) = [pa]) && (decide (a.vararg.map (·.arg) = some pv) && (a.kwonlyargs.isEmpty && (a.kwarg.isNone && a.defaults.isEmpty))))
theorem bind_star {name qual : Str} {params : Arguments} {body : List Stmt} {scope : Scope} {kV doc pm cdv ct : Value} {an : Option Addr} {pa pv : Str} {u : Value} {us : List Value} (h : starA params pa pv = true) :
    bindArgs (PySem.W.fnOf name qual params body scope .none kV doc pm an cdv ct) ⟨u :: us, []⟩ = (newTuple us >>= fun t => pure [(pa, u), (pv, t)]) := by
  unfold starA at h
  simp only [Bool.and_eq_true, List.isEmpty_iff, decide_eq_true_eq, Option.isNone_iff_eq_none] at h
  obtain ⟨h1, h2, h3, h4, h5, h6⟩ := h
  obtain ⟨va, e3, e4⟩ := Option.map_eq_some_iff.mp h3
  subst e4
  unfold bindArgs PySem.W.fnOf
  simp only [h1, h2, e3, h4, h5, List.map_nil, List.nil_append, List.append_nil]
  have sn : seqItems? Value.none = pure none := rfl
  have m : ([pa].take (1 - 0)).filter (fun n => (([pa].zip (u :: us)).lookup n).isNone) = [] := by simp
  have z : ([pa].filterMap fun n => (([pa].zip (u :: us)).lookup n).map (n, ·)) = [(pa, u)] := by simp
  have hl : [pa].length = 1 := rfl
  simp only [List.forIn_nil, sn, pure_bind, Option.isNone_some, Bool.and_false, Option.getD_none, List.drop_nil, List.length_nil, hl, m, List.isEmpty_nil, Bool.not_true, Bool.false_eq_true, if_false, List.zip_nil_right, z, List.drop_succ_cons, List.drop_zero]
  rfl
/-! ### a def's run, its body's reading in hand -/
def startE (N : List Str) (xs : List Vl) : Env := xs.map some ++ List.replicate (N.length - xs.length) none
theorem start_rs {K : PySem.W.Frag} {H : Hp} {N : List Str} {xs : List Vl} {vs : List V} (r : RVs K H xs vs) : Rs K H (startE N xs) (L2.start N vs) := by
  have hl := r.length
  refine ⟨by simp [startE, L2.start, hl], fun i x e => ?_⟩
  unfold startE at e
  by_cases hi : i < xs.length
  · rw [List.getElem?_append_left (by simpa using hi), List.getElem?_map] at e
    obtain ⟨y, ey, e2⟩ := Option.map_eq_some_iff.mp e
    cases e2
    obtain ⟨v, ev, rv⟩ := r.get ey
    refine ⟨v, ?_, rv⟩
    unfold L2.start
    rw [List.getElem?_append_left (by simpa [hl] using hi), List.getElem?_map, ev] <;> rfl
  · rw [List.getElem?_append_right (by simpa using hi), List.getElem?_replicate] at e
    split at e <;> cases e
abbrev cxA (P : Program) (w : World) (K : PySem.W.Frag) (mg : Str → Option Value) (base : Heap) := cxOf (L2.CX P w) P w K mg base
theorem deeper_guards {A : Around} {env : PySem.Env} (h : A.guards = some []) : (A.deeper env).guards = some [] := h
section
variable {P : Program} {w : World} {K : PySem.W.Frag} {mg : Str → Option Value} {base : Heap} {k : Nat} {f : Addr} {name qual : Str} {params : Arguments} {body : List Stmt} {scope : Scope} {kV doc pm cdv ct oc : Value} {an od : Option Addr} {osl : Array (Option Value)} {N ps : List Str}
/-- a contract's promise, from the body's reading -/
def ctBody (N : List Str) (np : Nat) (b : WS) : Ct := fun xs g Po Xp => xs.length = np ∧ b (startE N xs) g ⟨fun _ g' => Po .non g', Po⟩ fun c fs _ g' => Xp c fs g'
theorem body_end {A : Around} {outer : List PySem.Env} {s : Shared} {H : Hp} {Q : VK} {E : XK} {vs : List V} {b : WS} {np : Nat} (ht : SSs (cxA P w K mg base N qual scope f cdv A outer s H E) body b) (h : spOf K (ctBody N np b) vs H Q E) :
    ∃ t, PSs (cxA P w K mg base N qual scope f cdv A outer s H E) body t ∧ t { nx := fun _ H' => Q .non H', rt := Q } (L2.start N vs) H := by
  obtain ⟨xs, g, Po, Xp, hr, r, ⟨_, hb⟩, hp, hx⟩ := h
  refine ⟨_, ht _ (takes_of rfl rfl rfl rfl) (passes_of rfl), startE N xs, g, _, _, start_rs r, hr, hb, ?_, ?_, ?_⟩
  · exact fun env' g' σ' H' p t h _ => hp .non g' .non H' p t h rfl
  · exact fun r' g' v H' p t h q => hp r' g' v H' p t h q
  · exact fun c fs env' g' cls d σ' H' p t h _ x => hx c fs g' cls d H' p t h x
/-- how a body's end becomes the call's -/
theorem end_run {A : Around} {outer : List PySem.Env} {s s0 : Shared} {H H0 : Hp} {Q : VK} {E : XK} (un : Un (frs outer) [] H0 H s0.heap s.heap) (ho : s.os = s0.os) {fl : Flow} {s' : Shared}
    (h : SP (cxA P w K mg base N qual scope f cdv A outer s H E) [] { nx := fun _ H' => Q .non H', rt := Q } fl s') :
    CR (L2.CX P w) outer P w H0 s0 Q E (.ok (match fl with | .next => .ret .none | z => z)) s' := by
  cases fl with
  | ret u =>
    obtain ⟨v, σ', H', J, rv, q⟩ := h
    exact ⟨v, H', J.os.trans ho, J.bare, un.trans J.base, J.hok, rv, q⟩
  | next =>
    obtain ⟨σ', H', J, q⟩ := h
    exact ⟨.non, H', J.os.trans ho, J.bare, un.trans J.base, J.hok, rfl, q⟩
  | brk =>
    obtain ⟨_, _, _, q⟩ := h
    exact q.elim
  | cont =>
    obtain ⟨_, _, _, q⟩ := h
    exact q.elim
/-- the names to be bound have their places -/
theorem kinds_ok {n : Nat} {binds : List (Str × Value)} (S : FnScope N ps scope) (h : ∀ y ∈ binds, y.1 ∈ ps) : ∀ y ∈ binds, scope.names.lookup y.1 = some .local ∨ (scope.names.lookup y.1 = some .cell ∧ ((cellsFrom n scope.names []).lookup y.1).isSome = true) := fun y hy => by
  rcases S.par _ (h y hy) with q | q
  · exact .inl q
  · exact .inr ⟨q, PySem.W.cellsFrom_some _ _ _ (.inl q)⟩
theorem fnP_plain {b : WS} (lk : K.lookup f = some ⟨oc, od, .func (PySem.W.fnOf name qual params body scope .none kV doc pm an cdv ct), osl⟩) (hcd : PySem.W.codeIn K cdv qual = true) (S : FnScope N ps scope) (hp : plainA params ps = true)
    (hbody : ∀ (A : Around) (outer : List PySem.Env) (s : Shared) (H : Hp) (E : XK), Room k (A.deeper (envOfC qual scope s.heap.objs.size f cdv)) → (A.deeper (envOfC qual scope s.heap.objs.size f cdv)).guards = some [] → SSs (cxA P w K mg base N qual scope f cdv A outer s H E) body b) : FnP P w K mg base (k + 1) f (ctBody N ps.length b) := by
  refine ⟨fun A outer s H us vs Q E hr hg e0 r hsp => ?_⟩
  obtain ⟨t, ht, hq⟩ := body_end (hbody A outer s H E (hr.deeper _) hg) hsp
  have hl : vs.length = ps.length := by
    obtain ⟨xs, g, Po, Xp, _, rv, ⟨h1, _⟩, _⟩ := hsp
    exact rv.length.trans h1
  have hlu : us.length = ps.length := r.length.symm.trans hl
  have ndP : ps.Nodup := by
    rw [← S.pre]
    exact S.nd.sublist (List.take_sublist _ _)
  have KH : K.In s.heap := e0.mod.kin.keeps fun b o e => (e0.bs b o e).1
  have nolim : s.heap.NoLimit := e0.mod.nolimit.keeps fun b o e => (e0.bs b o e).1
  refine codeAny_call_function hr.depth (KH _ _ lk) rfl S.co S.gen rfl (PySem.W.codeRec_of KH hcd) ?_
  rw [bind_plain hp ndP hlu]
  refine wpAny_pure ?_
  refine wpAny_newFunctionEnv_cells S.kind (kinds_ok S fun y hy => (List.of_mem_zip hy).1) fun env he s1 x => ?_
  subst he
  refine ⟨nolim.keeps x.toInCall.keep, codeAny_func ?_⟩
  have I := inv_start (CX := L2.CX P w) (P := P) (w := w) (mg := mg) (base := base) (qual := qual) (f := f) (cd := cdv) (E := E) S hr.hd e0 hl r x
  refine wpAny_mono (ht.run [] s1 _ H _ I hq) (fun fl s' hs => ?_) fun e s' hs => hs
  have un : Un (frs outer) [] H H s.heap s.heap := Un.kept fun b o e => e
  cases fl with
  | ret u => exact end_run un rfl hs
  | next => exact end_run un rfl hs
  | brk =>
    obtain ⟨_, _, _, q⟩ := hs
    exact q.elim
  | cont =>
    obtain ⟨_, _, _, q⟩ := hs
    exact q.elim
/-- a def f(a, *r) -/
def ctStar (N : List Str) (b : WS) : Ct := fun xs g Po Xp => ∃ x r, xs = x :: r ∧ r.length ≤ sizeLine ∧ b (startE N [x, .tup r]) g ⟨fun _ g' => Po .non g', Po⟩ fun c fs _ g' => Xp c fs g'
theorem cxnew : CXNew (L2.CX P w) := by
  rintro outer s H h2 p rest E e s' kp hp hn ⟨a, B, H', cls, d, hu, fl, ok, ub, na, os, bare, q⟩
  have ne : ∀ {b : Addr} {o : Obj}, s.heap.get? b = some o → (upd H p (.tup rest)) b = H b := fun {b o} eb => upd_ne (Nat.ne_of_lt (Nat.lt_of_lt_of_le (Heap.lt_size eb) hp))
  have tr : ∀ {b : Addr} {o : HO}, H b = some o → (upd H p (.tup rest)) b = H b := fun {b o} eb => upd_ne (by
    rintro rfl
    rw [hn] at eb
    cases eb)
  refine ⟨a, B, H', cls, d, hu, fl, ok, ⟨fun b o e1 e2 e3 => ub.keep b o (kp b o e1) ((ne e1).trans e2) e3, fun b o e1 e2 => ub.slot b o (kp b o e1) e2, fun b o e1 e2 => ub.free b o (kp b o e1) ((ne e1).trans e2), fun b o e1 e2 => ub.there b o (kp b o e1) e2, fun b xs e1 => ub.tups b xs ((tr e1).trans e1), fun b o xs e1 => ub.frzs b o xs ((tr e1).trans e1), fun b ps e1 => ub.tbls b ps ((tr e1).trans e1)⟩, na, os, bare, q⟩
theorem fnP_star {b : WS} {pa pv : Str} (lk : K.lookup f = some ⟨oc, od, .func (PySem.W.fnOf name qual params body scope .none kV doc pm an cdv ct), osl⟩) (hcd : PySem.W.codeIn K cdv qual = true) (S : FnScope N [pa, pv] scope) (hp : starA params pa pv = true)
    (hbody : ∀ (A : Around) (outer : List PySem.Env) (s : Shared) (H : Hp) (E : XK), Room k (A.deeper (envOfC qual scope s.heap.objs.size f cdv)) → (A.deeper (envOfC qual scope s.heap.objs.size f cdv)).guards = some [] → SSs (cxA P w K mg base N qual scope f cdv A outer s H E) body b) :
    FnP P w K mg base (k + 1) f (ctStar N b) := by
  refine ⟨fun A outer s H us vs Q E hr hg e0 r hsp => ?_⟩
  obtain ⟨xs, g, Po, Xp, hr0, rv, ⟨x0, rest, ex, hz, hb⟩, hpo, hxo⟩ := hsp
  subst ex
  obtain ⟨v0, vrest, ev, r0, rr⟩ := rv
  subst ev
  cases r with
  | @cons _ u0 _ urest ru rur =>
  have hlr : urest.length ≤ sizeLine := by
    rw [← rur.length, rr.length]
    exact hz
  have KH : K.In s.heap := e0.mod.kin.keeps fun b o e => (e0.bs b o e).1
  have hp0 : H s.heap.objs.size = none := e0.hok.fresh (Nat.le_refl _)
  generalize ho : ({ cls := .type "tuple", data := .seq urest.toArray } : Obj) = ot
  have kp : ∀ b o, s.heap.get? b = some o → (s.heap.push ot).get? b = some o := fun b o e => Heap.get?_push_of_some _ e
  have gt : (s.heap.push ot).get? s.heap.objs.size = some ot := Heap.get?_push_size _ (by rw [← ho] <;> rfl)
  have okT : ObjOk P w (upd H s.heap.objs.size (.tup vrest)) (s.heap.push ot) s.heap.objs.size (.tup vrest) := ⟨by rw [rr.length]; exact hz, urest, rur, ot, gt, by rw [← ho], _, by rw [← ho]⟩
  have hok2 := e0.hok.laid kp (Nat.le_refl _) okT
  have un : Un (frs outer) [] H (upd H s.heap.objs.size (.tup vrest)) s.heap (s.heap.push ot) := Un.laid kp (Nat.le_refl _) hp0
  have e2 : Env0 P w K mg base A outer { s with heap := s.heap.push ot } (upd H s.heap.objs.size (.tup vrest)) := by
    refine ⟨e0.frames, e0.mod, fun b o e => ⟨kp b o (e0.bs b o e).1, ?_⟩, ?_, Heap.FunFrames.of_keeps (fun b o e _ => ⟨o, kp b o e, rfl⟩) e0.funs, fun b hb' => ?_, hok2, e0.bare⟩
    · have lt := Heap.lt_size (e0.bs b o e).1
      rw [upd_ne (Nat.ne_of_lt lt)]
      exact (e0.bs b o e).2
    · have q : base.objs.size ≤ (s.heap.push ot).objs.size := by
        rw [Heap.size_push]
        exact Nat.le_succ_of_le e0.bsz
      exact q
    · obtain ⟨_, o, eo, _⟩ := e0.funs.mem hb'
      have lt := Heap.lt_size eo
      rw [upd_ne (Nat.ne_of_lt lt)]
      exact e0.frf b hb'
  have nolim : (s.heap.push ot).NoLimit := e0.mod.nolimit.keeps fun b o e => (e2.bs b o e).1
  have tx : Tx K H (upd H s.heap.objs.size (.tup vrest)) := tx_upd (.none hp0)
  have hsp : spOf K (ctBody N 2 b) [v0, .ref s.heap.objs.size] (upd H s.heap.objs.size (.tup vrest)) Q E := by
    refine ⟨[x0, .tup rest], g, Po, Xp, hr0.new hp0, ⟨v0, [.ref s.heap.objs.size], rfl, r0.mono tx, .ref s.heap.objs.size, [], rfl, ⟨s.heap.objs.size, vrest, rfl, .inl (.inl upd_same), rr.mono tx⟩, rfl⟩, ⟨rfl, hb⟩, ?_, ?_⟩
    · exact fun r g' v H' p t h q => hpo r g' v H' p (tx.trans t) h q
    · exact fun c fs g' cls d H' p t h q => hxo c fs g' cls d H' p (tx.trans t) h q
  obtain ⟨t, ht, hq⟩ := body_end (hbody A outer { s with heap := s.heap.push ot } (upd H s.heap.objs.size (.tup vrest)) E (hr.deeper _) hg) hsp
  refine codeAny_call_function hr.depth (KH _ _ lk) rfl S.co S.gen rfl (PySem.W.codeRec_of KH hcd) ?_
  rw [bind_star hp]
  refine wpAny_bind (wpAny_newTuple (wpAny_pure ?_) hlr)
  rw [ho]
  have hin : ∀ y ∈ [(pa, u0), (pv, Value.ref s.heap.objs.size)], y.1 ∈ [pa, pv] := fun y hy => by
    rcases List.mem_cons.mp hy with e | hy
    · rw [e]
      exact List.mem_cons_self
    · rcases List.mem_cons.mp hy with e | hy
      · rw [e]
        exact List.mem_cons_of_mem _ List.mem_cons_self
      · cases hy
  refine wpAny_newFunctionEnv_cells (s := { s with heap := s.heap.push ot }) S.kind (kinds_ok S hin) fun env he s1 x => ?_
  subst he
  refine ⟨nolim.keeps x.toInCall.keep, codeAny_func ?_⟩
  have rv2 : Vals [v0, V.ref s.heap.objs.size] [u0, Value.ref s.heap.objs.size] := .cons ru (.cons rfl .nil)
  have I := inv_start (CX := L2.CX P w) (P := P) (w := w) (mg := mg) (base := base) (qual := qual) (f := f) (cd := cdv) (E := E) (s := { s with heap := s.heap.push ot }) S hr.hd e2 rfl rv2 x
  refine wpAny_mono (ht.run [] s1 _ _ _ I hq) (fun fl s' hs => ?_) fun e s' hs => ?_
  · cases fl with
    | ret u => exact end_run (s := { s with heap := s.heap.push ot }) (s0 := s) (H0 := H) un rfl hs
    | next => exact end_run (s := { s with heap := s.heap.push ot }) (s0 := s) (H0 := H) un rfl hs
    | brk =>
      obtain ⟨_, _, _, q⟩ := hs
      exact q.elim
    | cont =>
      obtain ⟨_, _, _, q⟩ := hs
      exact q.elim
  · have fin := fun (z : Value) (s'' : Shared) (c : L2.CX P w outer (upd H s.heap.objs.size (.tup vrest)) { s with heap := s.heap.push ot } E z s'') => cxnew outer s H (s.heap.push ot) s.heap.objs.size vrest E z s'' kp (Nat.le_refl _) hp0 c
    exact wpAny_mono hs (fun _ s'' c => fin e s'' c) fun e' s'' c => fin e' s'' c
end
end MP
set_option Elab.async false
set_option linter.all false
set_option maxRecDepth 100000
/-! MP, part 11: built-in functions, by values. -/
namespace MP
open PySem PySem.Spec PyProof.Rows L2
abbrev BN := List Vl → Gp → Po → Prop
def BN.or (a b : BN) : BN := fun xs g P => a xs g P ∨ b xs g P
def RelN (K : PySem.W.Frag) (b : BN) (r : List V → Hp → VK → Prop) : Prop := ∀ (xs : List Vl) (g : Gp) (P : Po) (vs : List V) (H : Hp) (Q : VK), b xs g P → HR K g H → RVs K H xs vs →
  (∀ z g' w H', P z g' → Tx K H H' → HR K g' H' → RV K H' z w → Q w H') → r vs H Q
theorem RelN.or {K : PySem.W.Frag} {a b : BN} {r s : List V → Hp → VK → Prop} (h : RelN K a r) (h' : RelN K b s) : RelN K (a.or b) (fun vs H Q => r vs H Q ∨ s vs H Q) := fun xs g P vs H Q q hr rv k => by
  rcases q with q | q
  · exact .inl (h xs g P vs H Q q hr rv k)
  · exact .inr (h' xs g P vs H Q q hr rv k)
/-- f, called by positions, keeps b -/
def BR (X : Cx) (f : Value) (b : BN) : Prop := ∃ r, CallR X f r ∧ RelN X.K b r
theorem BR.or {X : Cx} {f : Value} {a b : BN} (h : BR X f a) (h' : BR X f b) : BR X f (a.or b) := by
  obtain ⟨r, h1, h2⟩ := h
  obtain ⟨s, h3, h4⟩ := h'
  exact ⟨_, CallR.or h1 h3, h2.or h4⟩
def wBlt (b : BN) (ra : WA) : WE := fun env g P Xp => ra env g (fun vs g1 => b vs g1 P) Xp
section
variable {X : Cx} {e : Expr} {es : List Expr} {ra : WA} {b : BN} {x : Str} {p pos : Pos} {T id : String}
theorem blt_run {f : Value} {r : List V → Hp → VK → Prop} (rel : RelN X.K b r) {W : WX} {σ : L2.St} {H : Hp} {Q : VK} (h : tE X.K W (wBlt b ra) σ H Q) : tCB r (tA X.K W ra) σ H Q := by
  obtain ⟨env, g, P, Xp, rs, hr, q, hp, hx⟩ := h
  exact ⟨env, g, _, Xp, rs, hr, q, fun xs g1 vs H1 q1 t1 hr1 r1 => rel xs g1 P vs H1 Q q1 hr1 r1 fun z g' w H' p t h r => hp z g' w H' p (t1.trans t) h r, hx⟩
theorem se_bltB (hb : BR X (.builtin id) b) (hg : Gl X x) (hm : X.mg x = none) (hv : bootBuiltins x = some (.builtin id)) (hn : x ≠ "__name__") (hdb : (x == ("__debug__" : Str)) = false) (hs : (e :: es).all notStar = true) (ha : SA X (e :: es) ra) :
    SE X (.Call (.Name x p) (e :: es) [] pos) (wBlt b ra) := fun W tk => by
  obtain ⟨r, hc, rel⟩ := hb
  rw [List.all_cons, Bool.and_eq_true] at hs
  exact PE.imp (pe_callB hc hg hm hv (ha W tk) hn hdb (starEach_cons hs.1) (starEach_plain hs.2)) fun σ H Q h => blt_run (f := .builtin id) rel h
theorem se_bltT (hb : BR X (.type T) b) (hg : Gl X x) (hm : X.mg x = none) (hv : bootBuiltins x = some (.type T)) (hn : x ≠ "__name__") (hdb : (x == ("__debug__" : Str)) = false) (hs : (e :: es).all notStar = true) (ha : SA X (e :: es) ra) :
    SE X (.Call (.Name x p) (e :: es) [] pos) (wBlt b ra) := fun W tk => by
  obtain ⟨r, hc, rel⟩ := hb
  rw [List.all_cons, Bool.and_eq_true] at hs
  exact PE.imp (pe_callTy hc hg hm hv (ha W tk) hn hdb (starEach_cons hs.1) (starEach_plain hs.2)) fun σ H Q h => blt_run (f := .type T) rel h
end
/-- one argument -/
theorem rvs1 {K : PySem.W.Frag} {H : Hp} {x : Vl} {vs : List V} (r : RVs K H [x] vs) : ∃ v, vs = [v] ∧ RV K H x v := by
  obtain ⟨v, ys, e, r1, r2⟩ := r
  exact ⟨v, by rw [e, show ys = [] from r2], r1⟩
theorem rvs2 {K : PySem.W.Frag} {H : Hp} {x y : Vl} {vs : List V} (r : RVs K H [x, y] vs) : ∃ v u, vs = [v, u] ∧ RV K H x v ∧ RV K H y u := by
  obtain ⟨v, ys, e, r1, r2⟩ := r
  obtain ⟨u, e2, r3⟩ := rvs1 r2
  exact ⟨v, u, by rw [e, e2], r1, r3⟩
section
variable {X : Cx}
/-- len -/
def bLen : BN := fun xs g P => ∃ x n, xs = [x] ∧ ((∃ s, x = .str s ∧ s.length ≤ sizeLine ∧ n = s.length) ∨ (∃ ys, x = .tup ys ∧ n = ys.length) ∨ (∃ ys, IsL g x ys ∧ n = ys.length)) ∧ P (.int (n : Nat)) g
def bLenD : BN := fun xs g P => ∃ a kvs, xs = [.ref a] ∧ g a = some (.dct kvs) ∧ P (.int (kvs.length : Nat)) g
theorem br_len : BR X (.builtin "len") (bLen.or bLenD) := by
  refine ⟨_, CallR.or call_len call_lenD, RelN.or ?_ ?_⟩
  · rintro xs g P vs H Q ⟨x, n, rfl, h, q⟩ hr r k
    obtain ⟨v, rfl, rv⟩ := rvs1 r
    refine ⟨v, n, rfl, ?_, k _ g _ _ q .refl hr rfl⟩
    rcases h with ⟨s, rfl, h1, h2⟩ | ⟨ys, rfl, h1⟩ | ⟨ys, h1, h2⟩
    · rw [show v = .str s from rv]
      exact ⟨h1, h2⟩
    · obtain ⟨a, us, rfl, s, rs⟩ := rv
      exact .inr ⟨us, s, by rw [h1, rs.length]⟩
    · obtain ⟨a, us, rfl, s, rs⟩ := h1.sq hr rv
      exact .inl ⟨us, s, by rw [h2, rs.length]⟩
  · rintro xs g P vs H Q ⟨a, kvs, rfl, h, q⟩ hr r k
    obtain ⟨v, rfl, rv⟩ := rvs1 r
    obtain ⟨es, e1, rk⟩ := hr a _ h
    exact ⟨a, es, by rw [show v = .ref a from rv], e1, by rw [rk.length]; exact k _ g _ _ q .refl hr rfl⟩
/-- list(x) of a list, of a tuple, of a dict -/
def bList : BN := fun xs g P => ∃ x ys, xs = [x] ∧ (IsL g x ys ∨ x = .tup ys) ∧ ∀ p, g p = none → P (.ref p) (gup g p (.lst ys))
def bListD : BN := fun xs g P => ∃ x kvs, xs = [x] ∧ IsDct g x kvs ∧ ∀ p, g p = none → P (.ref p) (gup g p (.lst (kvs.map fun kv => kL kv.1)))
theorem lst_new {K : PySem.W.Frag} {g : Gp} {H : Hp} {ys : List Vl} {us : List V} {p : Addr} {P : Po} {Q : VK} (hr : HR K g H) (rs : RVs K H ys us) (hp : H p = none) (q : ∀ p, g p = none → P (.ref p) (gup g p (.lst ys)))
    (k : ∀ z g' w H', P z g' → Tx K H H' → HR K g' H' → RV K H' z w → Q w H') : Q (.ref p) (upd H p (.lst us)) := by
  have n : NoT (H p) := .none hp
  have t : Tx K H (upd H p (.lst us)) := tx_upd n
  exact k _ _ _ _ (q p (hr.free hp)) t (hr.put n ⟨us, upd_same, rs.mono t⟩) rfl
theorem keys_rel {K : PySem.W.Frag} {H : Hp} : ∀ {kvs : List (Key × Vl)} {es : List (Key × V)}, RKs K H kvs es → RVs K H (kvs.map fun kv => kL kv.1) (es.map fun kv => kV kv.1)
  | [], es, h => by
    have e : es = [] := h
    subst e
    exact rfl
  | p :: r, es, h => by
    obtain ⟨y, ys, e1, r1, r2⟩ := h
    subst e1
    exact .cons (rel_kL p.1) (keys_rel r2)
theorem br_list (hc : X.calm = true) : BR X (.type "list") (bList.or bListD) := by
  refine ⟨_, CallR.or call_list_of (call_listD hc), RelN.or ?_ ?_⟩
  · rintro xs g P vs H Q ⟨x, ys, rfl, h, q⟩ hr r k
    obtain ⟨v, rfl, rv⟩ := rvs1 r
    rcases h with h | h
    · obtain ⟨a, us, rfl, s, rs⟩ := h.sq hr rv
      exact ⟨a, us, rfl, .inl s, fun l hl => lst_new hr rs hl q k⟩
    · subst h
      obtain ⟨a, us, rfl, s, rs⟩ := rv
      exact ⟨a, us, rfl, .inr s, fun l hl => lst_new hr rs hl q k⟩
  · rintro xs g P vs H Q ⟨x, kvs, rfl, h, q⟩ hr r k
    obtain ⟨v, rfl, rv⟩ := rvs1 r
    obtain ⟨a, es, rfl, rd, rk⟩ := h.rd hr rv
    exact ⟨a, es, rfl, rd, fun l hl => lst_new hr (keys_rel rk) hl q k⟩
/-- dict(d): a copy -/
def bDictD : BN := fun xs g P => ∃ x kvs, xs = [x] ∧ IsDct g x kvs ∧ ∀ p, g p = none → P (.ref p) (gup g p (.dct kvs))
theorem dct_new {K : PySem.W.Frag} {g : Gp} {H : Hp} {ys : List (Key × Vl)} {us : List (Key × V)} {p : Addr} {P : Po} {Q : VK} (hr : HR K g H) (rs : RKs K H ys us) (hp : H p = none) (q : ∀ p, g p = none → P (.ref p) (gup g p (.dct ys)))
    (k : ∀ z g' w H', P z g' → Tx K H H' → HR K g' H' → RV K H' z w → Q w H') : Q (.ref p) (upd H p (.dK us)) := by
  have n : NoT (H p) := .none hp
  have t : Tx K H (upd H p (.dK us)) := tx_upd n
  exact k _ _ _ _ (q p (hr.free hp)) t (hr.put n ⟨us, upd_same, rs.mono t⟩) rfl
/-- dict(xs), pairs -/
def prs : List Vl → List (Key × Vl) → Prop
  | [], kvs => kvs = []
  | x :: xs, kvs => ∃ k v r, kvs = (k, v) :: r ∧ x = .tup [kL k, v] ∧ prs xs r
def mergeL (kvs ls : List (Key × Vl)) : List (Key × Vl) := ls.foldl (fun a p => putL a p.1 p.2) kvs
def bDictP : BN := fun xs g P => ∃ x ys kvs, xs = [x] ∧ IsL g x ys ∧ prs ys kvs ∧ ∀ p, g p = none → P (.ref p) (gup g p (.dct (mergeL [] kvs)))
theorem prs_rel {K : PySem.W.Frag} {H : Hp} : ∀ {ys : List Vl} {kvs : List (Key × Vl)} {us : List V}, prs ys kvs → RVs K H ys us → ∃ (ps : List Addr) (es : List (Key × V)), us = ps.map V.ref ∧ RKs K H kvs es ∧ Paired (fun p kv => SqT K H p [kV kv.1, kv.2]) ps es
  | [], kvs, us, h, r => by
    have e : kvs = [] := h
    subst e
    have e : us = [] := r
    subst e
    exact ⟨[], [], rfl, rfl, .nil⟩
  | x :: xs, kvs, us, h, r => by
    obtain ⟨k, v, kr, e, ex, h2⟩ := h
    subst e
    obtain ⟨u, ur, e, r1, r2⟩ := r
    subst e
    rw [ex] at r1
    obtain ⟨a, ws, e, s, rw_⟩ := r1
    subst e
    obtain ⟨k', v', e, rk, rv⟩ := rvs2 rw_
    subst e
    obtain ⟨ps, es, e, q1, q2⟩ := prs_rel h2 r2
    subst e
    refine ⟨a :: ps, (k, v') :: es, rfl, ⟨v', es, rfl, rv, q1⟩, .cons ?_ q2⟩
    have e := kL_rel rk
    subst e
    exact s
end
end MP
set_option Elab.async false
set_option linter.all false
set_option maxRecDepth 100000
/-! MP, part 12: more built-in functions. -/
namespace MP
open PySem PySem.Spec PyProof.Rows L2
/-- sorted of texts, any number of them -/
def rSortT (K : PySem.W.Frag) : List V → Hp → VK → Prop := fun vs H Q => ∃ (a : Addr) (xs : List Str), vs = [V.ref a] ∧ SqL K H a (xs.map V.str) ∧ ∀ (ys : List Str) (p : Addr), ys.Perm xs → sortedS ys = true → H p = none → Q (.ref p) (upd H p (.lst (ys.map V.str)))
/-- .. of a dict's keys -/
def rSortDT : List V → Hp → VK → Prop := fun vs H Q => ∃ (a : Addr) (es : List (Key × V)) (xs : List Str), vs = [V.ref a] ∧ Rd H a (.dK es) ∧ es.map (·.1) = xs.map Sum.inr ∧ ∀ (ys : List Str) (p : Addr), ys.Perm xs → sortedS ys = true → H p = none → Q (.ref p) (upd H p (.lst (ys.map V.str)))
section
variable {X : Cx}
theorem cr_sortT : CallR X (.builtin "sorted") (rSortT X.K) := by
  intro pins s σ H vs us Q I r h
  obtain ⟨a, xs, e0, hs, q⟩ := h
  subst e0
  obtain ⟨its, rv, hl, hz⟩ := I.list hs
  rw [Vals.ref1 r]
  refine sorted_strsAny hl.isList rv.strs (by rw [← rv.length]; exact hz) fun out ys k1 k2 k3 => ?_
  obtain ⟨n, ho⟩ := sortedAll_at s.heap its out
  have z : (ys.map V.str).length ≤ sizeLine := by
    rw [List.length_map] at hz ⊢
    rw [k2.length_eq]
    exact hz
  have fresh : H (s.heap.objs.size + 1) = none := I.hok.fresh (Nat.le_succ _)
  exact ⟨.ref _, upd H (s.heap.objs.size + 1) (.lst (ys.map V.str)), I.laid (t' := s.toks) (fun _ _ e => sortedAll_old e) (Nat.le_succ _) ⟨z, out.toList, n, vals_of_strs k1, ho⟩, rfl, q ys _ k2 k3 fresh⟩
theorem cr_sortDT (hc : X.calm = true) : CallR X (.builtin "sorted") rSortDT := by
  intro pins s σ H vs us Q I r h
  obtain ⟨a, es, xs, e0, hd, hk, q⟩ := h
  subst e0
  rw [Vals.ref1 r]
  obtain ⟨z, lo, ps, rel, dof⟩ := dk_rd I.hok hd
  obtain ⟨ep, hat⟩ := dof.dictAt
  have ek : ps.map (·.1) = xs.map Sum.inr := (KV.keys rel).symm.trans hk
  have el : ps.length = xs.length := by
    have := congrArg List.length ek
    simpa using this
  have zp : ps.length ≤ sizeLine := by rw [← rel.length]; exact z
  refine Calls.call_function_entry kind_sorted plain_sorted entry_sorted (args_sorted1 _) ?_
  unfold Builtin.«sorted»
  refine wpAny_bind (m := checkCount "sorted" 1 1 _) (wpAny_pure ?_)
  refine wpAny_bind (PySem.W.kdu_collect (A := X.A.in1) (PySem.W.kdl_dict (knd := mixKind X.prog X.w) (kvs := ps) (ep := ep) lo) (I.ok.hd hc) hat zp fun g tk got keep gotten => ?_)
  have al : got.toList.length = xs.length := by rw [Array.length_toList, gotten.1, el]
  have hS : StrsAre got.toList xs := strs_at al fun j v ev => by
    rw [Array.getElem?_toList] at ev
    obtain ⟨key, x, e1, e2⟩ := gotten.2 j v ev
    have e3 : (ps.map (·.1))[j]? = some key := by
      rw [List.getElem?_map, e1] <;> rfl
    rw [ek, List.getElem?_map] at e3
    obtain ⟨y, e4, e5⟩ := Option.map_eq_some_iff.mp e3
    subst e5
    obtain ⟨t, ev'⟩ := Value.isStrOf_shape (x := y) (v := v) e2
    exact ⟨y, t, e4, ev'⟩
  have I1 : Inv X pins σ H { s with heap := g, toks := tk } := I.kept keep
  refine wpAny_bind (wpAny_newList ?_ (by rw [al, ← el]; exact zp))
  have ho : (g.push (seqObj "list" got.toList.toArray 0)).get? g.objs.size = some (seqObj "list" got.toList.toArray 0) := Heap.get?_push_size _ rfl
  show wpAny _ _ _ _ _ { s with heap := g.push (seqObj "list" got.toList.toArray 0), toks := tk }
  refine wpAny_bind (wpAny_holding (wpAny_call_entry slot_list_sort ⟨_, ho, rfl⟩ entry_list_sort
    (list_sort_treeKAny strKind_oneLt (s := { s with heap := g.push (seqObj "list" got.toList.toArray 0), toks := tk }) ho hS.keysOf (fun _ _ _ e => keyKind_strs (by rw [← e]; exact hS)) (by rw [al, ← el]; exact zp) fun st' m1 m2 => ⟨_, rfl, ?_⟩) (args_list_sort _)))
  obtain ⟨ys, k1, k2, k3⟩ := sorted_out_str hS m1 m2
  obtain ⟨n, hn⟩ := sortedHeap_at (vs := got.toList) (out := (arrOf st').map (·.2)) ho
  have zy : (ys.map V.str).length ≤ sizeLine := by
    rw [List.length_map, k2.length_eq, ← el]
    exact zp
  refine wpAny_pure ⟨_, rfl, .ref g.objs.size, upd H g.objs.size (.lst (ys.map V.str)), I1.laid (t' := tk) (fun b u eb => ?_) (Nat.le_refl _) ⟨zy, ((arrOf st').map (·.2)).toList, n, vals_of_strs k1, by rw [Array.toArray_toList]; exact hn⟩, rfl, q ys _ k2 k3 (I1.hok.fresh (Nat.le_refl _))⟩
  have lb : b < g.objs.size := Heap.lt_size eb
  rw [sortedHeap_old (Nat.ne_of_lt lb) (by rw [Heap.size_push]; exact Nat.lt_succ_of_lt lb)]
  exact Heap.get?_push_of_some _ eb
end
end MP
set_option Elab.async false
set_option linter.all false
set_option maxRecDepth 100000
/-! MP, part 13: built-in functions joined. -/
namespace MP
open PySem PySem.Spec PyProof.Rows L2
section
variable {X : Cx}
theorem merge_rel {K : PySem.W.Frag} {H : Hp} : ∀ {ls kvs : List (Key × Vl)} {fs es : List (Key × V)}, RKs K H kvs es → RKs K H ls fs → RKs K H (mergeL kvs ls) (mergeK es fs)
  | [], kvs, fs, es, r, h => by
    have e : fs = [] := h
    subst e
    exact r
  | p :: ls, kvs, fs, es, r, h => by
    obtain ⟨y, ys, e, r1, r2⟩ := h
    subst e
    show RKs K H (mergeL (putL kvs p.1 p.2) ls) (mergeK (putK es p.1 y) ys)
    exact merge_rel (r.put r1) r2
theorem br_dict (hc : X.calm = true) : BR X (.type "dict") (bDictD.or bDictP) := by
  refine ⟨_, CallR.or call_dictD (call_dictP hc), RelN.or ?_ ?_⟩
  · rintro xs g P vs H Q ⟨x, kvs, rfl, h, q⟩ hr r k
    obtain ⟨v, rfl, rv⟩ := rvs1 r
    obtain ⟨a, es, rfl, rd, rk⟩ := h.rd hr rv
    exact ⟨a, es, rfl, rd, fun l hl => dct_new hr rk hl q k⟩
  · rintro xs g P vs H Q ⟨x, ys, kvs, rfl, h, hp, q⟩ hr r k
    obtain ⟨v, rfl, rv⟩ := rvs1 r
    obtain ⟨a, us, rfl, s, rs⟩ := h.sq hr rv
    obtain ⟨ps, es, rfl, q1, q2⟩ := prs_rel hp rs
    exact ⟨a, ps, es, rfl, s, q2, fun l hl => dct_new hr (merge_rel (kvs := []) (es := []) rfl q1) hl q k⟩
/-- lists of ints, of bools, of texts -/
def intsL (ns : List Int) : List Vl := ns.map Vl.int
def bolsL (ns : List Bool) : List Vl := ns.map Vl.bl
def strsL (ns : List Str) : List Vl := ns.map Vl.str
theorem ints_rel {K : PySem.W.Frag} {H : Hp} : ∀ {ns : List Int} {vs : List V}, RVs K H (intsL ns) vs ↔ vs = ns.map V.int
  | [], vs => Iff.rfl
  | n :: ns, vs => by
    constructor
    · rintro ⟨y, ys, e, r1, r2⟩
      rw [e, show y = V.int n from r1, ints_rel.mp r2] <;> rfl
    · intro e
      exact ⟨_, _, e, rfl, ints_rel.mpr rfl⟩
theorem bols_rel {K : PySem.W.Frag} {H : Hp} : ∀ {ns : List Bool} {vs : List V}, RVs K H (bolsL ns) vs ↔ vs = ns.map V.bl
  | [], vs => Iff.rfl
  | n :: ns, vs => by
    constructor
    · rintro ⟨y, ys, e, r1, r2⟩
      rw [e, show y = V.bl n from r1, bols_rel.mp r2] <;> rfl
    · intro e
      exact ⟨_, _, e, rfl, bols_rel.mpr rfl⟩
theorem strs_rel {K : PySem.W.Frag} {H : Hp} : ∀ {ns : List Str} {vs : List V}, RVs K H (strsL ns) vs ↔ vs = ns.map V.str
  | [], vs => Iff.rfl
  | n :: ns, vs => by
    constructor
    · rintro ⟨y, ys, e, r1, r2⟩
      rw [e, show y = V.str n from r1, strs_rel.mp r2] <;> rfl
    · intro e
      exact ⟨_, _, e, rfl, strs_rel.mpr rfl⟩
def isMaxL (ns : List Int) (m : Int) : Prop := m ∈ ns ∧ ∀ y ∈ ns, y ≤ m
def isMinL (ns : List Int) (m : Int) : Prop := m ∈ ns ∧ ∀ y ∈ ns, m ≤ y
def bSum : BN := fun xs g P => ∃ x ns, xs = [x] ∧ IsL g x (intsL ns) ∧ P (.int ns.sum) g
def bMax2 : BN := fun xs g P => ∃ i j, xs = [.int i, .int j] ∧ P (.int (if j > i then j else i)) g
def bMin2 : BN := fun xs g P => ∃ i j, xs = [.int i, .int j] ∧ P (.int (if j < i then j else i)) g
def bMax1 : BN := fun xs g P => ∃ x ns, xs = [x] ∧ IsL g x (intsL ns) ∧ ns ≠ [] ∧ ∀ m, isMaxL ns m → P (.int m) g
def bMin1 : BN := fun xs g P => ∃ x ns, xs = [x] ∧ IsL g x (intsL ns) ∧ ns ≠ [] ∧ ∀ m, isMinL ns m → P (.int m) g
def bAll : BN := fun xs g P => ∃ x bs, xs = [x] ∧ IsL g x (bolsL bs) ∧ P (.bl (bs.all id)) g
def bAny : BN := fun xs g P => ∃ x bs, xs = [x] ∧ IsL g x (bolsL bs) ∧ P (.bl (bs.any id)) g
def bIntI : BN := fun xs g P => ∃ i, xs = [.int i] ∧ P (.int i) g
def bIntB : BN := fun xs g P => ∃ k : Bool, xs = [.bl k] ∧ P (.int (if k then 1 else 0)) g
def bStrI : BN := fun xs g P => ∃ i : Int, xs = [.int i] ∧ i.natAbs.log2 < 1920 ∧ P (.str (toString i)) g
def bStrS : BN := fun xs g P => ∃ a, xs = [.str a] ∧ P (.str a) g
def bSortI : BN := fun xs g P => ∃ x ns, xs = [x] ∧ IsL g x (intsL ns) ∧ ∀ (ms : List Int) p, ms.Perm ns → ms.Pairwise (· ≤ ·) → g p = none → P (.ref p) (gup g p (.lst (intsL ms)))
def bSortT : BN := fun xs g P => ∃ x ns, xs = [x] ∧ IsL g x (strsL ns) ∧ ∀ (ms : List Str) p, ms.Perm ns → sortedS ms = true → g p = none → P (.ref p) (gup g p (.lst (strsL ms)))
def bSortD : BN := fun xs g P => ∃ x kvs ns, xs = [x] ∧ IsDct g x kvs ∧ kvs.map (·.1) = ns.map Sum.inr ∧ ∀ (ms : List Str) p, ms.Perm ns → sortedS ms = true → g p = none → P (.ref p) (gup g p (.lst (strsL ms)))
theorem br_sum (hc : X.calm = true) : BR X (.builtin "sum") bSum := by
  refine ⟨_, cr_sum hc, ?_⟩
  rintro xs g P vs H Q ⟨x, ns, rfl, h, q⟩ hr r k
  obtain ⟨v, rfl, rv⟩ := rvs1 r
  obtain ⟨a, us, rfl, s, rs⟩ := h.sq hr rv
  rw [ints_rel.mp rs] at s
  exact ⟨a, ns, rfl, s, k _ g _ _ q .refl hr rfl⟩
theorem br_max (hc : X.calm = true) : BR X (.builtin "max") (bMax2.or bMax1) := by
  refine ⟨_, CallR.or (call_max2 hc) (cr_max hc), RelN.or ?_ ?_⟩
  · rintro xs g P vs H Q ⟨i, j, rfl, q⟩ hr r k
    exact ⟨i, j, rv2 r, k _ g _ _ q .refl hr rfl⟩
  · rintro xs g P vs H Q ⟨x, ns, rfl, h, hn, q⟩ hr r k
    obtain ⟨v, rfl, rv⟩ := rvs1 r
    obtain ⟨a, us, rfl, s, rs⟩ := h.sq hr rv
    rw [ints_rel.mp rs] at s
    exact ⟨a, ns, rfl, s, List.length_pos_iff.mpr hn, fun m h1 h2 => k _ g _ _ (q m ⟨h1, h2⟩) .refl hr rfl⟩
theorem br_min (hc : X.calm = true) : BR X (.builtin "min") (bMin2.or bMin1) := by
  refine ⟨_, CallR.or (call_min2 hc) (cr_min hc), RelN.or ?_ ?_⟩
  · rintro xs g P vs H Q ⟨i, j, rfl, q⟩ hr r k
    exact ⟨i, j, rv2 r, k _ g _ _ q .refl hr rfl⟩
  · rintro xs g P vs H Q ⟨x, ns, rfl, h, hn, q⟩ hr r k
    obtain ⟨v, rfl, rv⟩ := rvs1 r
    obtain ⟨a, us, rfl, s, rs⟩ := h.sq hr rv
    rw [ints_rel.mp rs] at s
    exact ⟨a, ns, rfl, s, List.length_pos_iff.mpr hn, fun m h1 h2 => k _ g _ _ (q m ⟨h1, h2⟩) .refl hr rfl⟩
theorem br_all (hc : X.calm = true) : BR X (.builtin "all") bAll := by
  refine ⟨_, cr_all hc, ?_⟩
  rintro xs g P vs H Q ⟨x, ns, rfl, h, q⟩ hr r k
  obtain ⟨v, rfl, rv⟩ := rvs1 r
  obtain ⟨a, us, rfl, s, rs⟩ := h.sq hr rv
  rw [bols_rel.mp rs] at s
  exact ⟨a, ns, rfl, s, k _ g _ _ q .refl hr rfl⟩
theorem br_any (hc : X.calm = true) : BR X (.builtin "any") bAny := by
  refine ⟨_, cr_any hc, ?_⟩
  rintro xs g P vs H Q ⟨x, ns, rfl, h, q⟩ hr r k
  obtain ⟨v, rfl, rv⟩ := rvs1 r
  obtain ⟨a, us, rfl, s, rs⟩ := h.sq hr rv
  rw [bols_rel.mp rs] at s
  exact ⟨a, ns, rfl, s, k _ g _ _ q .refl hr rfl⟩
theorem br_int : BR X (.type "int") (bIntI.or bIntB) := by
  refine ⟨_, call_int1, RelN.or ?_ ?_⟩
  · rintro xs g P vs H Q ⟨i, rfl, q⟩ hr r k
    exact ⟨i, rv1 r, k _ g _ _ q .refl hr rfl⟩
  · rintro xs g P vs H Q ⟨i, rfl, q⟩ hr r k
    obtain ⟨v, rfl, rv⟩ := rvs1 r
    exact ⟨i, by rw [show v = V.bl i from rv], k _ g _ _ q .refl hr rfl⟩
theorem br_str : BR X (.type "str") (bStrI.or bStrS) := by
  refine ⟨_, CallR.or call_str_int SkE.call_str_str, RelN.or ?_ ?_⟩
  · rintro xs g P vs H Q ⟨i, rfl, h, q⟩ hr r k
    exact ⟨i, rv1 r, h, k _ g _ _ q .refl hr rfl⟩
  · rintro xs g P vs H Q ⟨i, rfl, q⟩ hr r k
    obtain ⟨v, rfl, rv⟩ := rvs1 r
    exact ⟨i, by rw [show v = V.str i from rv], k _ g _ _ q .refl hr rfl⟩
theorem lst_put {K : PySem.W.Frag} {g : Gp} {H : Hp} {ys : List Vl} {us : List V} {p : Addr} {P : Po} {Q : VK} (hr : HR K g H) (rs : RVs K H ys us) (hp : H p = none) (q : P (.ref p) (gup g p (.lst ys)))
    (k : ∀ z g' w H', P z g' → Tx K H H' → HR K g' H' → RV K H' z w → Q w H') : Q (.ref p) (upd H p (.lst us)) := by
  have n : NoT (H p) := .none hp
  have t : Tx K H (upd H p (.lst us)) := tx_upd n
  exact k _ _ _ _ q t (hr.put n ⟨us, upd_same, rs.mono t⟩) rfl
theorem br_sorted (hc : X.calm = true) : BR X (.builtin "sorted") (bSortI.or (bSortT.or bSortD)) := by
  refine ⟨_, CallR.or cr_sortedI (CallR.or cr_sortT (cr_sortDT hc)), RelN.or ?_ (RelN.or ?_ ?_)⟩
  · rintro xs g P vs H Q ⟨x, ns, rfl, h, q⟩ hr r k
    obtain ⟨v, rfl, rv⟩ := rvs1 r
    obtain ⟨a, us, rfl, s, rs⟩ := h.sq hr rv
    rw [ints_rel.mp rs] at s
    exact ⟨a, ns, rfl, s, fun ms p h1 h2 hp => lst_put hr (ints_rel.mpr rfl) hp (q ms p h1 h2 (hr.free hp)) k⟩
  · rintro xs g P vs H Q ⟨x, ns, rfl, h, q⟩ hr r k
    obtain ⟨v, rfl, rv⟩ := rvs1 r
    obtain ⟨a, us, rfl, s, rs⟩ := h.sq hr rv
    rw [strs_rel.mp rs] at s
    exact ⟨a, ns, rfl, s, fun ms p h1 h2 hp => lst_put hr (strs_rel.mpr rfl) hp (q ms p h1 h2 (hr.free hp)) k⟩
  · rintro xs g P vs H Q ⟨x, kvs, ns, rfl, h, hk, q⟩ hr r k
    obtain ⟨v, rfl, rv⟩ := rvs1 r
    obtain ⟨a, es, rfl, rd, rk⟩ := h.rd hr rv
    exact ⟨a, es, ns, rfl, rd, by rw [rk.keys]; exact hk, fun ms p h1 h2 hp => lst_put hr (strs_rel.mpr rfl) hp (q ms p h1 h2 (hr.free hp)) k⟩
end
end MP
set_option Elab.async false
set_option linter.all false
set_option maxRecDepth 100000
/-! MP, part 14: repr, isinstance. -/
namespace MP
open PySem PySem.Spec PyProof.Rows L2
mutual
def noDct : PyData → Bool
  | .list ds => noDcts ds
  | .tuple ds => noDcts ds
  | .dict _ => false
  | _ => true
def noDcts : List PyData → Bool
  | [] => true
  | d :: ds => noDct d && noDcts ds
end
mutual
theorem Dt.noD {g : Gp} : ∀ {d : PyData} {x : Vl}, Dt g d x → d.hasDict = false
  | .none, _, _ => by simp [PyData.hasDict]
  | .bool _, _, _ => by simp [PyData.hasDict]
  | .int _, _, _ => by simp [PyData.hasDict]
  | .str _, _, _ => by simp [PyData.hasDict]
  | .tuple ds, x, h => by
    obtain ⟨xs, _, hs⟩ := h
    simp only [PyData.hasDict]
    exact Dts.noD hs
  | .list ds, x, h => by
    obtain ⟨xs, _, hs⟩ := h
    simp only [PyData.hasDict]
    exact Dts.noD hs
  | .dict _, _, h => h.elim
theorem Dts.noD {g : Gp} : ∀ {ds : List PyData} {xs : List Vl}, Dts g ds xs → PyData.hasDictAll ds = false
  | [], _, _ => by simp [PyData.hasDictAll]
  | d :: ds, xs, h => by
    obtain ⟨y, ys, _, h1, h2⟩ := h
    simp only [PyData.hasDictAll, Dt.noD h1, Dts.noD h2, Bool.or_self]
end
/-- repr of a list, a tuple, an int -/
def bReprD : BN := fun xs g P => ∃ x d, xs = [x] ∧ Dt g d x ∧ (∃ ds, d = .list ds ∨ d = .tuple ds) ∧ d.showable = true ∧ d.depth < 60 ∧ d.shown.length ≤ sizeLine ∧ P (.str d.shown) g
def bReprI : BN := fun xs g P => ∃ i : Int, xs = [.int i] ∧ i.natAbs.log2 < 1920 ∧ P (.str (toString i)) g
section
variable {X : Cx}
theorem cr_reprD (hg : X.A.guards = some []) (hu : X.A.units + 64 < cLine) : CallR X (.builtin "repr") (fun vs H Q => ∃ v d, vs = [v] ∧ Dp X.K H v d ∧ (∃ ds, d = .list ds ∨ d = .tuple ds) ∧ d.showable = true ∧ d.hasDict = false ∧ d.depth < 60 ∧ d.shown.length ≤ sizeLine ∧ Q (.str d.shown) H) := by
  intro pins s σ H vs us Q I r h
  obtain ⟨v, d, e0, hd, hl, h1, h2, h3, h4, q⟩ := h
  subst e0
  obtain ⟨u, eu, ru⟩ := vals1 r
  subst eu
  obtain ⟨as, rd⟩ := Dp.reads I d v u hd ru
  obtain ⟨ds, hl⟩ := hl
  have ea : ∃ a, u = .ref a := by
    rcases hl with hl | hl <;> subst hl <;> cases hd <;> exact ⟨_, ru⟩
  obtain ⟨a, ea⟩ := ea
  subst ea
  exact repr_of_reads' rd h1 (fun z => by rw [h2] at z; cases z) hg (by omega) (fun _ _ e => e) (fun h' u tk k => ⟨.str d.shown, H, I.kept k, ⟨u, rfl⟩, q⟩) h4
theorem br_repr (hg : X.A.guards = some []) (hu : X.A.units + 64 < cLine) : BR X (.builtin "repr") (bReprD.or bReprI) := by
  refine ⟨_, CallR.or (cr_reprD hg hu) SkE.call_repr_int, RelN.or ?_ ?_⟩
  · rintro xs g P vs H Q ⟨x, d, rfl, h, hl, h1, h3, h4, q⟩ hr r k
    obtain ⟨v, rfl, rv⟩ := rvs1 r
    exact ⟨v, d, rfl, h.dp hr rv, hl, h1, h.noD, h3, h4, k _ g _ _ q .refl hr rfl⟩
  · rintro xs g P vs H Q ⟨i, rfl, h, q⟩ hr r k
    exact ⟨i, rv1 r, h, k _ g _ _ q .refl hr rfl⟩
end
/-! ### isinstance -/
/-- types, classes -/
inductive Ty where
  | non | bl | int | str | tup | lst | dct | own (c : Cn)
  deriving DecidableEq
def Ty.v (K : PySem.W.Frag) : Ty → Value
  | .non => .type "NoneType"
  | .bl => .type "bool"
  | .int => .type "int"
  | .str => .type "str"
  | .tup => .type "tuple"
  | .lst => .type "list"
  | .dct => .type "dict"
  | .own c => .ref (He.ga K c.nm)
def tyOf (g : Gp) : Vl → Option Ty
  | .non => some .non
  | .bl _ => some .bl
  | .int _ => some .int
  | .str _ => some .str
  | .tup _ => some .tup
  | .kl _ _ => some .lst
  | .ref a => match g a with
    | some (.lst _) => some .lst
    | some (.dct _) => some .dct
    | some (.lk _ _) => some .dct
    | some (.ins c _) => some (.own c)
    | _ => none
/-- the answers that the classes' texts give -/
structure IsiOk (K : PySem.W.Frag) (tab : Ty → Ty → Option Bool) : Prop where
  one : ∀ t u b, tab t u = some b → PySem.W.kitOne K (t.v K) (u.v K) = some b
  own : ∀ c u b, tab (.own c) u = some b → Cls K (He.ga K c.nm) ∧ PySem.W.findIn K (.ref (He.ga K c.nm)) "__class__" = some (some (.builtin "object.__class__")) ∧ PySem.W.mroIn K (He.ga K c.nm) (.type "object") = some true
  gs : PySem.W.specialIn K (.builtin "object.__class__") "__get__" = some (some (.builtin "getset_descriptor.__get__")) ∧ PySem.W.takesIn K (.builtin "object.__class__") = some true
def wIsi (tab : Ty → Ty → Option Bool) (u : Ty) (wa : WE) : WE := fun env g P Xp => wa env g (fun x g1 => ∃ t b, tyOf g1 x = some t ∧ tab t u = some b ∧ P (.bl b) g1) Xp
theorem tyX_of {K : PySem.W.Frag} {tab : Ty → Ty → Option Bool} (ok : IsiOk K tab) {g : Gp} {H : Hp} {x : Vl} {v : V} {t u : Ty} {b : Bool} (hr : HR K g H) (r : RV K H x v) (h : tyOf g x = some t) (hb : tab t u = some b) : TyX K H v (t.v K) := by
  cases x with
  | non => cases h; rw [show v = .non from r]; exact .base .non
  | bl k => cases h; rw [show v = .bl k from r]; exact .base (.bl k)
  | int k => cases h; rw [show v = .int k from r]; exact .base (.int k)
  | str k => cases h; rw [show v = .str k from r]; exact .base (.str k)
  | tup xs =>
    cases h
    obtain ⟨a, vs, e, s, _⟩ := r
    subst e
    rcases s with (s | ⟨o, s⟩) | ⟨o, its, n, e, c, _⟩
    · exact .base (.tup s)
    · exact .fTuple s
    · exact .kTuple e c
  | kl a xs =>
    cases h
    obtain ⟨vs, e, s, _⟩ := r
    subst e
    rcases s with ⟨o, s⟩ | ⟨o, its, n, e, c, _⟩
    · exact .base (.frz s)
    · exact .kList e c
  | ref a =>
    rw [show v = .ref a from r]
    unfold tyOf at h
    cases eg : g a with
    | none => simp [eg] at h
    | some c =>
      have q := hr a c eg
      simp only [eg] at h
      cases c with
      | lst xs =>
        cases h
        obtain ⟨vs, e, _⟩ := q
        exact .base (.lst e)
      | dct xs =>
        cases h
        obtain ⟨vs, e, _⟩ := q
        exact .base (.dK e)
      | lk tk xs =>
        cases h
        obtain ⟨e, _⟩ := q
        exact .fDict e
      | ins c fs =>
        cases h
        obtain ⟨dx, es, e, _⟩ := q
        obtain ⟨k1, k2, k3⟩ := ok.own c u b hb
        exact .base (.ins e k1 k2 ok.gs.1 ok.gs.2 k3)
      | exc c fs => cases h
section
variable {X : Cx} {e c : Expr} {wa : WE} {p q pos : Pos} {tab : Ty → Ty → Option Bool}
/-- a class as an expression -/
def ClsE (X : Cx) (c : Expr) (u : Ty) : Prop := ∃ v, ClsV v (u.v X.K) ∧ PE X c (tC v)
theorem se_isi {u : Ty} (ok : IsiOk X.K tab) (hg : Gl X "isinstance") (hm : X.mg "isinstance" = none) (hs : [e, c].all notStar = true) (he : SE X e wa) (hc : ClsE X c u) : SE X (.Call (.Name "isinstance" p) [e, c] [] pos) (wIsi tab u wa) := fun W tk => by
  obtain ⟨v, cv, hc⟩ := hc
  rw [List.all_cons, Bool.and_eq_true] at hs
  have hs2 := (Bool.and_eq_true_iff.mp hs.2).1
  refine PE.imp (pe_callB call_isi hg hm rfl (pa_cons (he W tk) (pa_cons hc pa_nil (starEach_cons hs2)) (starEach_cons hs.1)) (by decide) (by decide) (starEach_cons hs.1) (starEach_plain hs.2)) fun σ H Q ⟨env, g, P, Xp, rs, hr, q, hp, hx⟩ => ?_
  refine ⟨env, g, _, Xp, rs, hr, q, fun x g1 w H1 ⟨t, b, h1, h2, p1⟩ t1 hr1 r1 => ?_, hx⟩
  exact ⟨w, v, t.v X.K, u.v X.K, b, rfl, cv, tyX_of ok hr1 r1 h1 h2, ok.one t u b h2, hp _ g1 _ H1 p1 t1 hr1 rfl⟩
/-- a class of the text, a built-in type, by its name -/
theorem clsE_own {k : Cn} (hg : Gl X k.nm) (hm : X.mg k.nm = some (.ref (He.ga X.K k.nm))) (hd : (k.nm == ("__debug__" : Str)) = false) : ClsE X (.Name k.nm p) (.own k) := ⟨.ref (He.ga X.K k.nm), .own _, pe_glob hg hm rfl hd⟩
theorem clsE_ty {u : Ty} {x : Str} {T : String} (hu : u.v X.K = .type T) (hg : Gl X x) (hm : X.mg x = none) (hv : bootBuiltins x = some (.type T)) (hn : x ≠ "__name__") (hd : (x == ("__debug__" : Str)) = false) : ClsE X (.Name x p) u :=
  ⟨.ty T, by rw [hu]; exact .ty T, ⟨fun pins s σ H Q I h => ld_blt I hg hm hv ⟨.ty T, H, I, rfl, h⟩ hn hd⟩⟩
end
end MP
set_option Elab.async false
set_option linter.all false
set_option maxRecDepth 100000
/-! MP, part 15: static methods by their class, raise. -/
namespace MP
open PySem PySem.Spec PyProof.Rows L2
structure SmP (X : Cx) (k : Nat) (c : Cn) (m : Str) (ct : Ct) : Prop where
  ex : ∃ (p g : Addr) (rest : List Value), PySem.W.readsIn X.K (He.ga X.K c.nm) (.type "type") = true ∧ PySem.W.specialIn X.K (.ref (He.ga X.K c.nm)) "__getattribute__" = some (some (.builtin "type.__getattribute__")) ∧
    PySem.W.findCls X.K (.ref (He.ga X.K c.nm)) (.type "type") m = some (.get (.builtin "staticmethod.__get__") (.ref p) .none (.ref (He.ga X.K c.nm))) ∧ PySem.W.recIn X.K p "staticmethod" = some (.ref g :: rest) ∧
    PySem.W.keepIn X.K (.ref g) = true ∧ FnP X.prog X.w X.K X.mg X.base k g ct
section
variable {X : Cx} {e : Expr} {es : List Expr} {ra : WA} {pos p apos : Pos}
theorem se_sm {k : Nat} {c : Cn} {m : Str} {ct : Ct} (F : SmP X k c m ct) (hr : Room k X.A) (hgd : X.A.guards = some []) (hg : Gl X c.nm) (hm : X.mg c.nm = some (.ref (He.ga X.K c.nm))) (hdb : (c.nm == ("__debug__" : Str)) = false)
    (hf : methOk (e :: es) apos pos = true) (ha : SA X (e :: es) ra) : SE X (.Call (.Attribute (.Name c.nm p) m apos) (e :: es) [] pos) (wCall ct ra) := fun W tk => by
  refine ⟨fun pins s σ H Q I ⟨env, g, P, Xp, rs, hr0, q, hp, hx⟩ => ?_⟩
  have hs : (e :: es).all notStar = true := (Bool.and_eq_true_iff.mp hf).1
  rw [List.all_cons, Bool.and_eq_true] at hs
  obtain ⟨pp, g0, rest, k1, k2, k3, k4, k5, fp⟩ := F.ex
  refine PySem.W.methodCall_KW (ld_glob I hg hm ?_ hdb) (meth_form hf rfl)
  refine PySem.W.method_cls I.kIn k2 (PySem.W.cls_bind I.kIn k1 k3 (wpAny_call (PySem.W.sm_get (s := { s with toks := s.toks + 1 }) I.kIn k4 (PySem.W.handed_on rfl ?_))))
  have I1 := I.tok (s.toks + 1)
  have hargs := (ha W tk).run pos pins _ σ H (fun vs H2 => spOf X.K ct vs H2 Q fun cls d H' => W cls d σ H') I1
    ⟨env, g, _, Xp, rs, hr0, q, fun xs g2 vs H2 q2 t2 hr2 r2 => spOf_of t2 hr2 r2 q2 hp hx, hx⟩
  exact PySem.W.callWith_K (first := []) (h₀ := X.base) I.ok.mod.kin k5 (thn hargs fun us s2 ⟨vs, H2, I2, r, q2⟩ => ⟨I2.kIn, run_P fp hr hgd tk I2 r q2⟩) (starEach_cons hs.1) (starEach_plain hs.2)
end
end MP
set_option Elab.async false
set_option linter.all false
set_option maxRecDepth 100000
/-! MP: methods of built-in types, by values. -/
namespace MP
open PySem PySem.Spec PyProof.Rows L2
abbrev BMt := Vl → List Vl → Gp → Po → Prop
def BMt.or (a b : BMt) : BMt := fun o xs g P => a o xs g P ∨ b o xs g P
def RelM (K : PySem.W.Frag) (b : BMt) (r : V → List V → Hp → VK → Prop) : Prop := ∀ (o : Vl) (xs : List Vl) (g : Gp) (P : Po) (v : V) (vs : List V) (H : Hp) (Q : VK), b o xs g P → HR K g H → RV K H o v → RVs K H xs vs →
  (∀ z g' w H', P z g' → Tx K H H' → HR K g' H' → RV K H' z w → Q w H') → r v vs H Q
def BM (X : Cx) (id : String) (b : BMt) : Prop := ∃ r, MtR X id r ∧ RelM X.K b r
theorem BM.or {X : Cx} {id : String} {a b : BMt} (h : BM X id a) (h' : BM X id b) : BM X id (a.or b) := by
  obtain ⟨r, h1, h2⟩ := h
  obtain ⟨s, h3, h4⟩ := h'
  refine ⟨_, MtR.or h1 h3, fun o xs g P v vs H Q q hr r1 r2 k => ?_⟩
  rcases q with q | q
  · exact .inl (h2 o xs g P v vs H Q q hr r1 r2 k)
  · exact .inr (h4 o xs g P v vs H Q q hr r1 r2 k)
/-- the receiver's built-in type -/
def tyM (g : Gp) (T : String) (o : Vl) : Prop := (T = "list" ∧ ∃ xs, IsL g o xs) ∨ (T = "dict" ∧ ∃ a kvs, o = .ref a ∧ g a = some (.dct kvs)) ∨ (T = "str" ∧ ∃ s, o = .str s)
theorem tyM_ok {K : PySem.W.Frag} {g : Gp} {H : Hp} {T : String} {o : Vl} {v : V} (hr : HR K g H) (r : RV K H o v) (h : tyM g T o) : tyV K T v H := by
  rcases h with ⟨rfl, xs, h⟩ | ⟨rfl, a, kvs, rfl, h⟩ | ⟨rfl, s, rfl⟩
  · obtain ⟨a, vs, rfl, s, _⟩ := h.sq hr r
    exact .inl ⟨rfl, vs, s⟩
  · rw [show v = .ref a from r]
    obtain ⟨es, e, _⟩ := hr a _ h
    exact .inr (.inr (.inl ⟨rfl, .inl ⟨es, e⟩⟩))
  · rw [show v = .str s from r]
    exact rfl
def wBm (T : String) (b : BMt) (wo : WE) (ra : WA) : WE := fun env g P Xp => wo env g (fun o g1 => tyM g1 T o ∧ ra env g1 (fun vs g2 => b o vs g2 P) Xp) Xp
section
variable {X : Cx} {o e : Expr} {es : List Expr} {wo : WE} {ra : WA} {name : Str} {apos pos : Pos} {T id : String} {b : BMt}
theorem bm_run {r : V → List V → Hp → VK → Prop} (rel : RelM X.K b r) {W : WX} {σ : L2.St} {H : Hp} {Q : VK} (h : tE X.K W (wBm T b wo ra) σ H Q) : tBM X.K T r (tE X.K W wo) (tA X.K W ra) σ H Q := by
  obtain ⟨env, g, P, Xp, rs, hr, q, hp, hx⟩ := h
  refine ⟨env, g, _, Xp, rs, hr, q, fun x g1 v H1 ⟨ty, q1⟩ t1 hr1 r1 => ⟨tyM_ok hr1 r1 ty, ?_⟩, hx⟩
  refine ⟨env, g1, _, Xp, rs.mono t1, hr1, q1, fun vs g2 us H2 q2 t2 hr2 r2 => ?_, hx.step t1⟩
  exact rel x vs g2 P v us H2 Q q2 hr2 (r1.mono t2) r2 fun z g' w H' p t h r => hp z g' w H' p (t1.trans (t2.trans t)) h r
theorem se_bm (hb : BM X id b) (pa : PlainAttrs T) (slot : Slot T name id) (hty : typeOf (.builtin id) = pure (.type "method_descriptor")) (ha : attrOk o = true) (hf : methOk (e :: es) apos pos = true) (ho : SE X o wo) (hs : SA X (e :: es) ra) :
    SE X (.Call (.Attribute o name apos) (e :: es) [] pos) (wBm T b wo ra) := fun W tk => by
  obtain ⟨r, hc, rel⟩ := hb
  obtain ⟨f1, f2⟩ := Bool.and_eq_true_iff.mp hf
  obtain ⟨f3, f4⟩ := Bool.and_eq_true_iff.mp f2
  have f5 := f1
  rw [List.all_cons, Bool.and_eq_true] at f5
  refine PE.imp (pe_bm pa slot hty hc (ho W tk) (hs W tk) (attr_base ha) ?_ f4 (starEach_cons f5.1) (starEach_plain f5.2)) fun σ H Q h => bm_run rel h
  rw [starEach_all f1]
  show (true && true && decide ((e :: es).length + 0 + 0 < 30)) = true
  rw [decide_eq_true (by have := of_decide_eq_true f3; omega)] <;> rfl
theorem se_bm0 (hb : BM X id b) (pa : PlainAttrs T) (slot : Slot T name id) (hty : typeOf (.builtin id) = pure (.type "method_descriptor")) (ha : attrOk o = true) (hf : methOk [] apos pos = true) (ho : SE X o wo) :
    SE X (.Call (.Attribute o name apos) [] [] pos) (wBm T b wo aNil) := fun W tk => by
  obtain ⟨r, hc, rel⟩ := hb
  obtain ⟨f1, f2⟩ := Bool.and_eq_true_iff.mp hf
  obtain ⟨f3, f4⟩ := Bool.and_eq_true_iff.mp f2
  refine PE.imp (pe_bm0 pa slot hty hc (ho W tk) (attr_base ha) f4) fun σ H Q ⟨env, g, P, Xp, rs, hr, q, hp, hx⟩ => ?_
  refine ⟨env, g, _, Xp, rs, hr, q, fun x g1 v H1 ⟨ty, q1⟩ t1 hr1 r1 => ⟨tyM_ok hr1 r1 ty, ?_⟩, hx⟩
  exact rel x [] g1 P v [] H1 Q q1 hr1 r1 .nil fun z g' w H' p t h r => hp z g' w H' p (t1.trans t) h r
end
/-! ### lists -/
def bAppend : BMt := fun o xs g P => ∃ l ys y, o = .ref l ∧ xs = [y] ∧ g l = some (.lst ys) ∧ ys.length < sizeLine ∧ P .non (gup g l (.lst (ys ++ [y])))
def bPop0 : BMt := fun o xs g P => ∃ l ys y, o = .ref l ∧ xs = [] ∧ g l = some (.lst ys) ∧ ys[ys.length - 1]? = some y ∧ P y (gup g l (.lst ys.dropLast))
def bPop1 : BMt := fun o xs g P => ∃ l ys i k y, o = .ref l ∧ xs = [.int i] ∧ g l = some (.lst ys) ∧ -(2 ^ 63) ≤ i ∧ i < 2 ^ 63 ∧ seqIndex? i ys.length = some k ∧ ys[k]? = some y ∧ P y (gup g l (.lst (ys.eraseIdx k)))
def bReverse : BMt := fun o xs g P => ∃ l ys, o = .ref l ∧ xs = [] ∧ g l = some (.lst ys) ∧ P .non (gup g l (.lst ys.reverse))
def bClear : BMt := fun o xs g P => ∃ l ys, o = .ref l ∧ xs = [] ∧ g l = some (.lst ys) ∧ P .non (gup g l (.lst []))
def bExtend : BMt := fun o xs g P => ∃ l b ys zs, o = .ref l ∧ xs = [.ref b] ∧ g l = some (.lst ys) ∧ g b = some (.lst zs) ∧ ys.length + zs.length ≤ sizeLine ∧ P .non (gup g l (.lst (ys ++ zs)))
def bInsert : BMt := fun o xs g P => ∃ l ys i y, o = .ref l ∧ xs = [.int i, y] ∧ g l = some (.lst ys) ∧ ys.length < sizeLine ∧ 0 ≤ i ∧ i < 2 ^ 63 ∧ P .non (gup g l (.lst (ys.take i.toNat ++ [y] ++ ys.drop i.toNat)))
/-- the first equal one -/
def bRemove : BMt := fun o xs g P => ∃ l ys y d ds j z, o = .ref l ∧ xs = [y] ∧ g l = some (.lst ys) ∧ Dts g ds ys ∧ Dt g d y ∧ SeqAt.shaped (.list ds) = true ∧ SeqAt.shaped d = true ∧ ds[j]? = some z ∧ PyData.eqv z d = true ∧
  (∀ (m : Nat) (z' : PyData), m < j → ds[m]? = some z' → PyData.eqv z' d = false) ∧ P .non (gup g l (.lst (ys.eraseIdx j)))
def bIndex : BMt := fun o xs g P => ∃ y d ds j z, xs = [y] ∧ Dt g (.list ds) o ∧ Dt g d y ∧ SeqAt.shaped (.list ds) = true ∧ SeqAt.shaped d = true ∧ ds[j]? = some z ∧ PyData.eqv z d = true ∧
  (∀ (m : Nat) (z' : PyData), m < j → ds[m]? = some z' → PyData.eqv z' d = false) ∧ P (.int (j : Nat)) g
def bCount : BMt := fun o xs g P => ∃ y d ds, xs = [y] ∧ Dt g (.list ds) o ∧ Dt g d y ∧ SeqAt.shaped (.list ds) = true ∧ SeqAt.shaped d = true ∧ P (.int (ds.countP fun z => PyData.eqv z d : Nat)) g
theorem RVs.dropLast {K : PySem.W.Frag} {H : Hp} {xs : List Vl} {vs : List V} (r : RVs K H xs vs) : RVs K H xs.dropLast vs.dropLast := by
  rw [List.dropLast_eq_take, List.dropLast_eq_take, r.length]
  exact r.take _
theorem lst_set {K : PySem.W.Frag} {g : Gp} {H : Hp} {l : Addr} {xs ys : List Vl} {vs : List V} {P : Po} {Q : VK} {z : Vl} {w : V} (hr : HR K g H) (e : g l = some (.lst xs)) (rs : RVs K H ys vs) (rz : RV K H z w) (q : P z (gup g l (.lst ys)))
    (k : ∀ z g' w H', P z g' → Tx K H H' → HR K g' H' → RV K H' z w → Q w H') : Q w (upd H l (.lst vs)) := by
  obtain ⟨t, hr'⟩ := put_lst hr e rs
  exact k _ _ _ _ q t hr' (rz.mono t)
/-- xs.remove(x), of data -/
def rRemD (K : PySem.W.Frag) : V → List V → Hp → VK → Prop := fun x xs H Q => ∃ (a : Addr) (ys : List V) (y : V) (d : PyData) (ds : List PyData) (j : Nat) (z : PyData), x = V.ref a ∧ xs = [y] ∧ H a = some (.lst ys) ∧ DpAll K H ys ds ∧ Dp K H y d ∧
  SeqAt.shaped (.list ds) = true ∧ SeqAt.shaped d = true ∧ ds[j]? = some z ∧ PyData.eqv z d = true ∧ (∀ (m : Nat) (z' : PyData), m < j → ds[m]? = some z' → PyData.eqv z' d = false) ∧ Q .non (upd H a (.lst (ys.eraseIdx j)))
def rCntD (K : PySem.W.Frag) : V → List V → Hp → VK → Prop := fun x xs H Q => ∃ (a : Addr) (y : V) (d : PyData) (ds : List PyData), x = V.ref a ∧ xs = [y] ∧ Dp K H (V.ref a) (.list ds) ∧ Dp K H y d ∧ SeqAt.shaped (.list ds) = true ∧ SeqAt.shaped d = true ∧ Q (.int (ds.countP fun z => PyData.eqv z d : Nat)) H
section
variable {X : Cx}
theorem read_at {h : Heap} {ds : List PyData} {its : List Value} {as : List Addr} (h4 : ReadsAll h its ds as) (hl : PyData.canLayAll0 ds = true) : its.map (SeqAt.readOf h) = ds := SeqAt.readsAll_map ds its as hl h4
theorem mt_remD (hu : X.A.units + 65 < cLine) : MtR X "list.remove" (rRemD X.K) := by
  intro pins s σ H x xs v us Q I rx rxs h
  obtain ⟨a, ys, y, d, ds, j, z, e1, e2, hH, ha, hy, sl, sd, hz, hzj, hno, q⟩ := h
  subst e1 e2
  cases rx
  obtain ⟨uy, eu, ry⟩ := rxs.one
  subst eu
  obtain ⟨bs, r1⟩ := Dp.reads I d y uy hy ry
  obtain ⟨zz, its, n, rv, hl, hob⟩ := I.lstM hH
  obtain ⟨as, h4⟩ := Dp.readsAll I ds _ its ha rv
  have hxs : PyData.canLayAll0 ds = true := SeqAt.canLay_of_shaped sl
  have room : X.A.units + 1 + min (PyData.depthAll ds) d.depth < cLine := room_in_shaped sd hu
  have hmap := read_at h4 hxs
  have hlen : its.length = ds.length := by rw [← hmap, List.length_map]
  have hjd := (List.getElem?_eq_some_iff.mp hz).1
  have hjs : j < its.toArray.size := by rw [List.size_toArray, hlen]; exact hjd
  have rd : ∀ (m : Nat) (hm : m < its.toArray.size) (z' : PyData), ds[m]? = some z' → SeqAt.readOf s.heap its.toArray[m] = z' := fun m hm z' ez => by
    have hm' : m < its.length := by simpa using hm
    rw [← hmap, List.getElem?_map, List.getElem?_eq_getElem hm'] at ez
    simpa using Option.some.inj ez
  refine call_meets PySem.F.slot_list_remove ⟨_, hob, rfl⟩ PySem.F.entry_list_remove (PySem.F.args_list_remove_2 _ _)
    (SeqAt.list_removeAt a its.toArray n none #[] uy (fun u => PyData.eqv (SeqAt.readOf s.heap u) d) j hjs ?_ ?_ (by rw [List.size_toArray]; omega)) ⟨hob, SeqAt.items_eqAt (vs := its.toArray) (show ReadsAll s.heap its.toArray.toList ds as from h4) r1 hxs (SeqAt.canLay_of_shaped sd) room, ?_⟩
  · show PyData.eqv (SeqAt.readOf s.heap its.toArray[j]) d = true
    rw [rd j hjs z hz]
    exact hzj
  · intro m hm hmj
    have hmd : m < ds.length := by omega
    show PyData.eqv (SeqAt.readOf s.heap its.toArray[m]) d = false
    rw [rd m hm _ (List.getElem?_eq_getElem hmd)]
    exact hno m _ hmj (List.getElem?_eq_getElem hmd)
  · refine ⟨.non, _, I.lset (its' := its.eraseIdx j) (t' := s.toks) hH hob ?_ (rv.eraseIdx j) ?_, rfl, q⟩
    · show its.toArray.eraseIdxIfInBounds j = (its.eraseIdx j).toArray
      rw [List.eraseIdxIfInBounds_toArray]
    · have z2 : (ys.eraseIdx j).length ≤ ys.length := List.length_eraseIdx_le ys j
      omega
theorem mt_cntD (hu : X.A.units + 65 < cLine) : MtR X "list.count" (rCntD X.K) := by
  intro pins s σ H x xs v us Q I rx rxs h
  obtain ⟨a, y, d, ds, e1, e2, hl, hy, sl, sd, q⟩ := h
  subst e1 e2
  cases rx
  obtain ⟨uy, eu, ry⟩ := rxs.one
  subst eu
  obtain ⟨bs, r1⟩ := Dp.reads I d y uy hy ry
  have hxs : PyData.canLayAll0 ds = true := SeqAt.canLay_of_shaped sl
  have room : X.A.units + 1 + min (PyData.depthAll ds) d.depth < cLine := room_in_shaped sd hu
  cases hl with
  | lst hs ha =>
    obtain ⟨its, rv, ⟨⟨cls, dd, data, sls⟩, n, ho, hc, hdn, hdt⟩, hlen⟩ := I.list hs
    simp only at hc hdt
    subst hc hdt
    obtain ⟨as, h4⟩ := Dp.readsAll I ds _ its ha rv
    have hmap := read_at h4 hxs
    refine call_meets PySem.F.slot_list_count ⟨_, ho, rfl⟩ PySem.F.entry_list_count (PySem.F.args_list_count_2 _ _)
      (SeqAt.list_countAt a its.toArray n dd sls uy (fun u => PyData.eqv (SeqAt.readOf s.heap u) d)) ⟨ho, SeqAt.items_eqAt (vs := its.toArray) (show ReadsAll s.heap its.toArray.toList ds as from h4) r1 hxs (SeqAt.canLay_of_shaped sd) room, ?_⟩
    have e : its.toArray.toList.countP (fun u => PyData.eqv (SeqAt.readOf s.heap u) d) = ds.countP fun z => PyData.eqv z d := by
      rw [← hmap, List.countP_map] <;> rfl
    rw [e]
    exact ⟨.int _, H, I.tok _, ⟨_, rfl⟩, q⟩
theorem bm_append : BM X "list.append" bAppend := by
  refine ⟨_, mt_append, ?_⟩
  rintro o xs g P v vs H Q ⟨l, ys, y, rfl, rfl, e, z, q⟩ hr r1 r2 k
  obtain ⟨u, rfl, ru⟩ := rvs1 r2
  obtain ⟨us, e1, rs⟩ := hr l _ e
  exact ⟨l, us, u, r1, rfl, e1, by rw [rs.length]; exact z, lst_set (z := .non) hr e (rs.append (.cons ru .nil)) rfl q k⟩
theorem bm_pop : BM X "list.pop" (bPop0.or bPop1) := by
  refine BM.or ⟨_, mt_pop, ?_⟩ ⟨_, mt_popAt, ?_⟩
  · rintro o xs g P v vs H Q ⟨l, ys, y, rfl, rfl, e, z, q⟩ hr r1 r2 k
    obtain ⟨us, e1, rs⟩ := hr l _ e
    obtain ⟨u, eu, ru⟩ := rs.get z
    exact ⟨l, us, u, r1, r2, e1, by rw [rs.length]; exact eu, lst_set hr e rs.dropLast ru q k⟩
  · rintro o xs g P v vs H Q ⟨l, ys, i, j, y, rfl, rfl, e, h1, h2, h3, z, q⟩ hr r1 r2 k
    obtain ⟨us, e1, rs⟩ := hr l _ e
    obtain ⟨u, eu, ru⟩ := rs.get z
    exact ⟨l, us, i, j, u, r1, rv1 r2, e1, h1, h2, by rw [rs.length]; exact h3, eu, lst_set hr e rs.eraseIdx ru q k⟩
theorem bm_reverse : BM X "list.reverse" bReverse := by
  refine ⟨_, mt_reverse, ?_⟩
  rintro o xs g P v vs H Q ⟨l, ys, rfl, rfl, e, q⟩ hr r1 r2 k
  obtain ⟨us, e1, rs⟩ := hr l _ e
  exact ⟨l, us, r1, r2, e1, lst_set (z := .non) hr e rs.reverse rfl q k⟩
theorem bm_clear : BM X "list.clear" bClear := by
  refine ⟨_, mt_clear, ?_⟩
  rintro o xs g P v vs H Q ⟨l, ys, rfl, rfl, e, q⟩ hr r1 r2 k
  obtain ⟨us, e1, rs⟩ := hr l _ e
  exact ⟨l, us, r1, r2, e1, lst_set (z := .non) hr e (ys := []) .nil rfl q k⟩
theorem bm_extend : BM X "list.extend" bExtend := by
  refine ⟨_, mt_extend, ?_⟩
  rintro o xs g P v vs H Q ⟨l, b, ys, zs, rfl, rfl, e, e2, z, q⟩ hr r1 r2 k
  obtain ⟨u, rfl, ru⟩ := rvs1 r2
  obtain ⟨us, e1, rs⟩ := hr l _ e
  obtain ⟨ws, e3, rw_⟩ := hr b _ e2
  exact ⟨l, b, us, ws, r1, by rw [show u = .ref b from ru], e1, e3, by rw [rs.length, rw_.length]; exact z, lst_set (z := .non) hr e (rs.append rw_) rfl q k⟩
theorem bm_insert : BM X "list.insert" bInsert := by
  refine ⟨_, mt_insert, ?_⟩
  rintro o xs g P v vs H Q ⟨l, ys, i, y, rfl, rfl, e, z, h0, h1, q⟩ hr r1 r2 k
  obtain ⟨w, u, rfl, rw_, ru⟩ := rvs2 r2
  obtain ⟨us, e1, rs⟩ := hr l _ e
  exact ⟨l, us, i, u, r1, by rw [show w = .int i from rw_], e1, by rw [rs.length]; exact z, h0, h1, lst_set (z := .non) hr e (((rs.take _).append (.cons ru .nil)).append (rs.drop _)) rfl q k⟩
theorem bm_remove (hu : X.A.units + 65 < cLine) : BM X "list.remove" bRemove := by
  refine ⟨_, mt_remD hu, ?_⟩
  rintro o xs g P v vs H Q ⟨l, ys, y, d, ds, j, z, rfl, rfl, e, hs, hd, s1, s2, h1, h2, h3, q⟩ hr r1 r2 k
  obtain ⟨u, rfl, ru⟩ := rvs1 r2
  obtain ⟨us, e1, rs⟩ := hr l _ e
  exact ⟨l, us, u, d, ds, j, z, r1, rfl, e1, hs.dp hr rs, hd.dp hr ru, s1, s2, h1, h2, h3, lst_set (z := .non) hr e rs.eraseIdx rfl q k⟩
theorem bm_index (hu : X.A.units + 65 < cLine) : BM X "list.index" bIndex := by
  refine ⟨_, mt_indexD hu, ?_⟩
  rintro o xs g P v vs H Q ⟨y, d, ds, j, z, rfl, hs, hd, s1, s2, h1, h2, h3, q⟩ hr r1 r2 k
  obtain ⟨u, rfl, ru⟩ := rvs1 r2
  have hv := hs.dp hr r1
  have ev : ∃ a, v = .ref a := by cases hv; exact ⟨_, rfl⟩
  obtain ⟨a, rfl⟩ := ev
  exact ⟨a, u, d, ds, j, z, rfl, rfl, hv, hd.dp hr ru, s1, s2, h1, h2, h3, k _ g _ _ q .refl hr rfl⟩
theorem bm_count (hu : X.A.units + 65 < cLine) : BM X "list.count" bCount := by
  refine ⟨_, mt_cntD hu, ?_⟩
  rintro o xs g P v vs H Q ⟨y, d, ds, rfl, hs, hd, s1, s2, q⟩ hr r1 r2 k
  obtain ⟨u, rfl, ru⟩ := rvs1 r2
  have hv := hs.dp hr r1
  have ev : ∃ a, v = .ref a := by cases hv; exact ⟨_, rfl⟩
  obtain ⟨a, rfl⟩ := ev
  exact ⟨a, u, d, ds, rfl, rfl, hv, hd.dp hr ru, s1, s2, k _ g _ _ q .refl hr rfl⟩
end
end MP
set_option Elab.async false
set_option linter.all false
set_option maxRecDepth 100000
/-! MP: a dict's display; the methods by name. -/
namespace MP
open PySem PySem.Spec PyProof.Rows L2
def wPrs : List (WE × WE) → Env → Gp → (List (Vl × Vl) → Gp → Prop) → Xo → Prop
  | [], _, g, P, _ => P [] g
  | (k, v) :: r, env, g, P, Xp => k env g (fun x g1 => v env g1 (fun y g2 => wPrs r env g2 (fun ps g3 => P ((x, y) :: ps) g3) Xp) Xp) Xp
def wDisp (ws : List (WE × WE)) : WE := fun env g P Xp => ∀ p, g p = none → wPrs ws env (gup g p (.dct [])) (fun ps g2 => g2 p = some (.dct []) ∧ ∃ kvs : List (Key × Vl), ps = kvs.map (fun kv => (kL kv.1, kv.2)) ∧ kvs.length ≤ 15 ∧ P (.ref p) (gup g2 p (.dct (mergeL [] kvs)))) Xp
def RPs (K : PySem.W.Frag) (H : Hp) : List (Vl × Vl) → List (V × V) → Prop
  | [], vs => vs = []
  | p :: r, vs => ∃ x y ys, vs = (x, y) :: ys ∧ RV K H p.1 x ∧ RV K H p.2 y ∧ RPs K H r ys
theorem rps_keys {K : PySem.W.Frag} {H : Hp} : ∀ {kvs : List (Key × Vl)} {ps : List (V × V)}, RPs K H (kvs.map fun kv => (kL kv.1, kv.2)) ps → ∃ es : List (Key × V), ps = es.map (fun kv => (kV kv.1, kv.2)) ∧ RKs K H kvs es
  | [], ps, h => ⟨[], h, rfl⟩
  | p :: r, ps, h => by
    obtain ⟨x, y, ys, e, r1, r2, r3⟩ := h
    obtain ⟨es, e2, q⟩ := rps_keys r3
    subst e e2
    have e3 := kL_rel r1
    subst e3
    exact ⟨(p.1, y) :: es, rfl, y, es, rfl, r2, q⟩
/-- the pairs' judgements -/
inductive SPs (X : Cx) : List (Option Expr) → List Expr → List (WE × WE) → Prop where
  | nil : SPs X [] [] []
  | cons {k v : Expr} {ks : List (Option Expr)} {vs : List Expr} {wk wv : WE} {ws : List (WE × WE)} (hk : SE X k wk) (hv : SE X v wv) (r : SPs X ks vs ws) : SPs X (some k :: ks) (v :: vs) ((wk, wv) :: ws)
theorem SPs.pps {X : Cx} {ks : List (Option Expr)} {vs : List Expr} {ws : List (WE × WE)} {W : WX} {pos : Pos} (tk : Takes X W) (h : SPs X ks vs ws) : PPs X pos ks vs (ws.map fun w => (tE X.K W w.1, tE X.K W w.2)) := by
  induction h with
  | nil => exact pps_nil
  | cons hk hv r ih => exact pps_cons (hk W tk) (hv W tk) ih
theorem SPs.shape {X : Cx} {ks : List (Option Expr)} {vs : List Expr} {ws : List (WE × WE)} (h : SPs X ks vs ws) : ks.all (·.isSome) = true ∧ ks.length = vs.length := by
  induction h with
  | nil => exact ⟨rfl, rfl⟩
  | cons hk hv r ih => exact ⟨by rw [List.all_cons, ih.1] <;> rfl, by rw [List.length_cons, List.length_cons, ih.2]⟩
theorem prs_run {K : PySem.W.Frag} {W : WX} {σ : L2.St} : ∀ {ws : List (WE × WE)} {env : Env} {g : Gp} {H : Hp} {P : List (Vl × Vl) → Gp → Prop} {Xp : Xo} {Q : List (V × V) → Hp → Prop}, Rs K H env σ → HR K g H → wPrs ws env g P Xp →
    (∀ ps g' vs H', P ps g' → Tx K H H' → HR K g' H' → RPs K H' ps vs → Q vs H') → QX K W H σ Xp → tPairs (ws.map fun w => (tE K W w.1, tE K W w.2)) σ H Q
  | [], env, g, H, P, Xp, Q, rs, hr, h, hp, hx => hp [] g [] H h .refl hr rfl
  | (wk, wv) :: ws, env, g, H, P, Xp, Q, rs, hr, h, hp, hx => by
    refine ⟨env, g, _, Xp, rs, hr, h, fun x g1 v H1 q1 t1 hr1 r1 => ?_, hx⟩
    refine ⟨env, g1, _, Xp, rs.mono t1, hr1, q1, fun y g2 u H2 q2 t2 hr2 r2 => ?_, hx.step t1⟩
    refine prs_run ((rs.mono t1).mono t2) hr2 q2 (fun ps g3 vs H3 q3 t3 hr3 r3 => ?_) ((hx.step t1).step t2)
    exact hp _ g3 _ H3 q3 (t1.trans (t2.trans t3)) hr3 ⟨v, u, vs, rfl, (r1.mono t2).mono t3, r2.mono t3, r3⟩
theorem mergeR {K : PySem.W.Frag} {H : Hp} : ∀ {ls kvs : List (Key × Vl)} {fs es : List (Key × V)}, RKs K H kvs es → RKs K H ls fs → RKs K H (mergeL kvs ls) (mergeK es fs)
  | [], kvs, fs, es, r, h => by
    have e : fs = [] := h
    subst e
    exact r
  | p :: ls, kvs, fs, es, r, h => by
    obtain ⟨y, ys, e, r1, r2⟩ := h
    subst e
    show RKs K H (mergeL (putL kvs p.1 p.2) ls) (mergeK (putK es p.1 y) ys)
    exact mergeR (r.put r1) r2
theorem se_disp {X : Cx} {ks : List (Option Expr)} {vs : List Expr} {ws : List (WE × WE)} {pos : Pos} (h : SPs X ks vs ws) (h0 : ks ≠ []) (h15 : ks.length ≤ 15) : SE X (.Dict ks vs pos) (wDisp ws) := fun W tk => by
  obtain ⟨s1, s2⟩ := h.shape
  refine PE.imp (pe_disp (h.pps tk) s1 s2 h0 h15) fun σ H Q ⟨env, g, P, Xp, rs, hr, q, hp, hx⟩ p hn => ?_
  have n : NoT (H p) := .none hn
  have t0 : Tx X.K H (upd H p (.dK [])) := tx_upd n
  refine prs_run (rs.mono t0) (hr.put (c := .dct []) n ⟨[], upd_same, rfl⟩) (q p (hr.free hn)) (fun ps g2 vs H2 ⟨e, kvs, e2, hl, pz⟩ t hr2 r => ?_) (hx.step t0)
  obtain ⟨es0, e3, rk0⟩ := hr2 p _ e
  have e4 : es0 = [] := rk0
  subst e4 e2
  obtain ⟨es, e5, rk⟩ := rps_keys r
  have n2 : NoT (H2 p) := by rw [e3]; trivial
  have t2 : Tx X.K H2 (upd H2 p (.dK (mergeK [] es))) := tx_upd n2
  exact ⟨e3, es, e5, by rw [rk.length]; exact hl, hp _ _ _ _ pz (t0.trans (t.trans t2)) (hr2.put n2 ⟨_, upd_same, (mergeR (kvs := []) (es := []) rfl rk).mono t2⟩) rfl⟩
/-! ### methods of built-in types -/
inductive Bm where
  | append | pop | remove | insert | extend | index | count | clear | reverse
  deriving DecidableEq
def Bm.nm : Bm → Str
  | .append => "append" | .pop => "pop" | .remove => "remove" | .insert => "insert" | .extend => "extend" | .index => "index" | .count => "count" | .clear => "clear" | .reverse => "reverse"
def Bm.T : Bm → String
  | _ => "list"
def Bm.b : Bm → BMt
  | .append => bAppend | .pop => bPop0.or bPop1 | .remove => bRemove | .insert => bInsert | .extend => bExtend | .index => bIndex | .count => bCount | .clear => bClear | .reverse => bReverse
theorem Bm.se {X : Cx} (hu : X.A.units + 65 < cLine) {o : Expr} {es : List Expr} {wo : WE} {ra : WA} {apos pos : Pos} (ha : attrOk o = true) (hf : methOk es apos pos = true) (ho : SE X o wo) (hs : SA X es ra) (h0 : es = [] → ra = aNil) : ∀ m : Bm, SE X (.Call (.Attribute o m.nm apos) es [] pos) (wBm m.T m.b wo ra) := fun m => by
  have go : ∀ {name : Str} {id T : String} {b : BMt}, BM X id b → PlainAttrs T → Slot T name id → typeOf (.builtin id) = pure (.type "method_descriptor") → SE X (.Call (.Attribute o name apos) es [] pos) (wBm T b wo ra) := fun {name id T b} hb pa sl ty => by
    cases es with
    | nil =>
      rw [h0 rfl]
      exact se_bm0 hb pa sl ty ha hf ho
    | cons e er => exact se_bm hb pa sl ty ha hf ho hs
  cases m with
  | append => exact go bm_append PySem.F.plainAttrs_list PySem.F.slot_list_append PySem.F.type_list_append
  | pop => exact go bm_pop PySem.F.plainAttrs_list PySem.F.slot_list_pop PySem.F.type_list_pop
  | remove => exact go (bm_remove hu) PySem.F.plainAttrs_list PySem.F.slot_list_remove PySem.F.type_list_remove
  | insert => exact go bm_insert PySem.F.plainAttrs_list PySem.F.slot_list_insert PySem.F.type_list_insert
  | extend => exact go bm_extend PySem.F.plainAttrs_list PySem.F.slot_list_extend PySem.F.type_list_extend
  | index => exact go (bm_index hu) PySem.F.plainAttrs_list PySem.F.slot_list_index PySem.F.type_list_index
  | count => exact go (bm_count hu) PySem.F.plainAttrs_list PySem.F.slot_list_count PySem.F.type_list_count
  | clear => exact go bm_clear PySem.F.plainAttrs_list PySem.F.slot_list_clear PySem.F.type_list_clear
  | reverse => exact go bm_reverse PySem.F.plainAttrs_list PySem.F.slot_list_reverse PySem.F.type_list_reverse
end MP
set_option Elab.async false
set_option linter.all false
set_option maxRecDepth 100000
/-! MP: min over data. -/
namespace MP
open PySem PySem.Spec PyProof.Rows L2
/-- min of alike data: the item of the least datum -/
def bMinD : BN := fun xs g P => ∃ x ys d ds, xs = [x] ∧ IsL g x ys ∧ Dts g (d :: ds) ys ∧ PySem.W.AlikeAll (d :: ds) ∧ PyData.depthAll (d :: ds) < 50 ∧ ∀ (i : Nat) z, ys[i]? = some z → (d :: ds)[i]? = some (PySem.W.minD d ds) → P z g
def rMinD (K : PySem.W.Frag) : List V → Hp → VK → Prop := fun vs H Q => ∃ (a : Addr) (ys : List V) (d : PyData) (ds : List PyData), vs = [V.ref a] ∧ SqL K H a ys ∧ DpAll K H ys (d :: ds) ∧ PySem.W.AlikeAll (d :: ds) ∧ PyData.depthAll (d :: ds) < 50 ∧
  ∀ (i : Nat) y, ys[i]? = some y → (d :: ds)[i]? = some (PySem.W.minD d ds) → Q y H
section
variable {X : Cx}
theorem cr_minD (hc : X.calm = true) (hu : X.A.units + 64 < cLine) : CallR X (.builtin "min") (rMinD X.K) := by
  intro pins s σ H vs us Q I r h
  obtain ⟨a, ys, d, ds, e0, hs, hd, al, dep, q⟩ := h
  subst e0
  obtain ⟨its, rv, hl, hz⟩ := I.list hs
  rw [Vals.ref1 r]
  obtain ⟨as, rd⟩ := Dp.readsAll I (d :: ds) ys its hd rv
  refine PySem.W.min_list_data (I.ok.hd hc) hl.isList (show ReadsAll s.heap its.toArray.toList (d :: ds) as from rd) al (by omega) fun i v h' tk bs ev rm k => ?_
  have ev' : its[i]? = some v := by simpa using ev
  obtain ⟨cs, r1, r2, r3, r4⟩ := PySem.W.readsAll_at rd i v ev'
  have hi : i < ys.length := by
    rw [rv.length]
    exact (List.getElem?_eq_some_iff.mp ev').1
  obtain ⟨y, ey⟩ : ∃ y, ys[i]? = some y := ⟨ys[i], List.getElem?_eq_getElem hi⟩
  obtain ⟨v2, ev2, ry⟩ := rv.get ey
  have e2 : v2 = v := Option.some.inj (ev2.symm.trans ev')
  subst e2
  have hm : PySem.W.minD d ds ∈ d :: ds := by
    have q2 : ∀ (l : List PyData) (x : PyData), PySem.W.minD x l = x ∨ PySem.W.minD x l ∈ l := fun l => by
      induction l with
      | nil => exact fun x => .inl rfl
      | cons z l ih =>
        intro x
        rcases ih (if PySem.W.dataLt z x then z else x) with e | e
        · by_cases c : PySem.W.dataLt z x = true
          · right
            show PySem.W.minD (if PySem.W.dataLt z x then z else x) l ∈ _
            rw [e, if_pos c]
            exact List.mem_cons_self
          · left
            show PySem.W.minD (if PySem.W.dataLt z x then z else x) l = _
            rw [e, if_neg c]
        · exact .inr (List.mem_cons_of_mem _ e)
    rcases q2 ds d with e | e
    · rw [e]
      exact List.mem_cons_self
    · exact List.mem_cons_of_mem _ e
  have eq := PySem.W.alike_unique _ _ _ bs cs (al.1 _ hm _ r3) rm (Reads.keeps k r1)
  refine ⟨y, H, I.kept k, ry, q i y ey ?_⟩
  rw [eq, List.getElem?_eq_getElem r2]
  simp [List.getD, List.getElem?_eq_getElem r2]
theorem br_minD (hc : X.calm = true) (hu : X.A.units + 64 < cLine) : BR X (.builtin "min") bMinD := by
  refine ⟨_, cr_minD hc hu, ?_⟩
  rintro xs g P vs H Q ⟨x, ys, d, ds, rfl, h, hd, al, dep, q⟩ hr r k
  obtain ⟨v, rfl, rv⟩ := rvs1 r
  obtain ⟨a, us, rfl, s, rs⟩ := h.sq hr rv
  refine ⟨a, us, d, ds, rfl, s, hd.dp hr rs, al, dep, fun i y ey em => ?_⟩
  obtain ⟨z, ez, rz⟩ := rs.get' ey
  exact k z g y H (q i z ez em) .refl hr rz
end
end MP
set_option Elab.async false
set_option linter.all false
set_option maxRecDepth 100000
/-! MP: sorted over data. -/
namespace MP
open PySem PySem.Spec PyProof.Rows L2
/-- sorted of alike data: the items with their data, rearranged, none above its follower -/
def bSortDt : BN := fun xs g P => ∃ x ys ds, xs = [x] ∧ IsL g x ys ∧ Dts g ds ys ∧ PySem.W.AllAlike ds ∧ PySem.W.Sortable ds ∧ (∀ d ∈ ds, d.depth < 50) ∧
  ∀ (ps : List (Vl × PyData)) p, ps.Perm (ys.zip ds) → ps.Pairwise (fun a b => PySem.W.dataLt b.2 a.2 = false) → g p = none → P (.ref p) (gup g p (.lst (ps.map (·.1))))
theorem dts_len {g : Gp} : ∀ {ds : List PyData} {ys : List Vl}, Dts g ds ys → ds.length = ys.length
  | [], ys, h => by
    have e : ys = [] := h
    rw [e] <;> rfl
  | d :: ds, ys, h => by
    obtain ⟨y, r, e, _, h2⟩ := h
    rw [e, List.length_cons, List.length_cons, dts_len h2]
section
variable {X : Cx}
theorem bnot' {b : Bool} (h : (!b) = true) : b = false := by cases b <;> first | rfl | cases h
theorem perm_zip3 {α β γ : Type} (vs : List α) (ys : List β) (ds : List γ) (h1 : vs.length = ys.length) (h2 : ys.length = ds.length) : (vs.zip (ys.zip ds)).map (·.2) = ys.zip ds ∧ (vs.zip (ys.zip ds)).map (·.1) = vs := by
  constructor
  · exact List.map_snd_zip (by simp [h1, h2])
  · exact List.map_fst_zip (by simp [h1, h2])
theorem quad {K : PySem.W.Frag} {H : Hp} {h : Heap} : ∀ {its : List Value} {us : List V} {ys : List Vl} {ds : List PyData} {as : List Addr}, Vals us its → RVs K H ys us → ReadsAll h its ds as → ∀ t ∈ its.zip (us.zip (ys.zip ds)), RelV t.2.1 t.1 ∧ RV K H t.2.2.1 t.2.1 ∧ (∃ bs, Reads h t.1 t.2.2.2 bs) ∧ t.2.2.2 ∈ ds
  | [], us, ys, ds, as, r, rs, rd, t, ht => by simp at ht
  | v :: its, us, ys, ds, as, r, rs, rd, t, ht => by
    cases r with
    | @cons u _ us' _ r1 r2 =>
    cases ys with
    | nil => cases rs
    | cons y yr =>
    obtain ⟨u2, ur, e, q1, q2⟩ := rs
    cases e
    cases rd with
    | cons d1 d2 =>
    rcases List.mem_cons.mp ht with e | ht
    · subst e
      exact ⟨r1, q1, ⟨_, d1⟩, List.mem_cons_self⟩
    · obtain ⟨k1, k2, k3, k4⟩ := quad r2 q2 d2 t ht
      exact ⟨k1, k2, k3, List.mem_cons_of_mem _ k4⟩
theorem each_reads {h : Heap} : ∀ {its : List Value} {ds : List PyData} {as : List Addr}, ReadsAll h its ds as → PySem.W.EachIs (fun v d => ∃ bs, Reads h v d bs) its ds
  | _, _, _, .nil => .nil
  | _, _, _, .cons r t => .cons ⟨_, r⟩ (each_reads t)
theorem vals_map {α : Type} {f : α → V} {g : α → Value} : ∀ {l : List α}, (∀ t ∈ l, RelV (f t) (g t)) → Vals (l.map f) (l.map g)
  | [], _ => .nil
  | t :: l, h => .cons (h t List.mem_cons_self) (vals_map fun z hz => h z (List.mem_cons_of_mem _ hz))
theorem rvs_map {α : Type} {K : PySem.W.Frag} {H : Hp} {f : α → Vl} {g : α → V} : ∀ {l : List α}, (∀ t ∈ l, RV K H (f t) (g t)) → RVs K H (l.map f) (l.map g)
  | [], _ => rfl
  | t :: l, h => .cons (h t List.mem_cons_self) (rvs_map fun z hz => h z (List.mem_cons_of_mem _ hz))
theorem cr_sortDt {ys : List Vl} {ds : List PyData} {g : Gp} (hc : X.calm = true) (hu : X.A.units + 64 < cLine) {pins : List (Addr × Obj)} {s : Shared} {σ : L2.St} {H : Hp} {a : Addr} {us : List V} {Q : VK} (I : Inv X pins σ H s) (hs : SqL X.K H a us) (hr : HR X.K g H) (rs : RVs X.K H ys us) (hd : Dts g ds ys)
    (al : PySem.W.AllAlike ds) (so : PySem.W.Sortable ds) (dep : ∀ d ∈ ds, d.depth < 50)
    (q : ∀ (ps : List (Vl × PyData)) (ws : List V) p, ps.Perm (ys.zip ds) → ps.Pairwise (fun a b => PySem.W.dataLt b.2 a.2 = false) → RVs X.K H (ps.map (·.1)) ws → H p = none → Q (.ref p) (upd H p (.lst ws))) :
    wpAny (model X.prog X.w) X.A (call (.builtin "sorted") [.ref a]) (EP X pins σ Q) X.xe s := by
  obtain ⟨its, rv, hl, hz⟩ := I.list hs
  have hz' : its.length ≤ sizeLine := by rw [← rv.length]; exact hz
  obtain ⟨as, rd⟩ := Dp.readsAll I ds us its (hd.dp hr rs) rv
  have lu : us.length = its.length := rv.length
  have ly : us.length = ys.length := rs.length
  have ld : ds.length = ys.length := dts_len hd
  have each := each_reads rd
  have kp : ∀ b o, s.heap.get? b = some o → (PySem.W.sortingHeap (PySem.W.copyHeap s.heap its) (s.heap.objs.size + 1) its).get? b = some o := fun b o e => PySem.W.sorting_copy_old e
  have rd2 := ReadsAll.keeps kp rd
  have S := PySem.W.SortsAt.data (prog := X.prog) (w := X.w) (A := X.A.in1.in1) (s := { s with heap := PySem.W.sortingHeap (PySem.W.copyHeap s.heap its) (s.heap.objs.size + 1) its }) (each_reads rd2) al so fun d hd => by
    have := dep d hd
    show X.A.units + 1 + 1 + d.depth < cLine
    omega
  refine PySem.W.sorted_vals hl.isList S hz' ?_
  have Q0 := quad rv rs rd2
  have zf : (its.zip (us.zip (ys.zip ds))).map (fun t => (t.1, t.1)) = its.zip its := by
    refine List.ext_getElem (by simp; omega) fun i h1 h2 => ?_
    simp
  obtain ⟨T, eT⟩ : ∃ T, T = (its.zip (us.zip (ys.zip ds))).mergeSort (fun t t' => PySem.W.sortLe (PySem.W.dataKind (PySem.W.sortingHeap (PySem.W.copyHeap s.heap its) (s.heap.objs.size + 1) its) ds).toKeyOrd false (fun p : Value × Value => PySem.W.keyD (PySem.W.dataKind (PySem.W.sortingHeap (PySem.W.copyHeap s.heap its) (s.heap.objs.size + 1) its) ds) p.1) (t.1, t.1) (t'.1, t'.1)) := ⟨_, rfl⟩
  have pT : T.Perm (its.zip (us.zip (ys.zip ds))) := by
    rw [eT]
    exact List.mergeSort_perm _ _
  have eo : PySem.W.sortVals (PySem.W.dataKind (PySem.W.sortingHeap (PySem.W.copyHeap s.heap its) (s.heap.objs.size + 1) its) ds) false its its = T.map (·.1) := by
    unfold PySem.W.sortVals
    rw [← zf, eT, ← List.map_mergeSort (f := fun t : Value × V × Vl × PyData => (t.1, t.1)) (r := fun t t' => PySem.W.sortLe (PySem.W.dataKind (PySem.W.sortingHeap (PySem.W.copyHeap s.heap its) (s.heap.objs.size + 1) its) ds).toKeyOrd false (fun p : Value × Value => PySem.W.keyD (PySem.W.dataKind (PySem.W.sortingHeap (PySem.W.copyHeap s.heap its) (s.heap.objs.size + 1) its) ds) p.1) (t.1, t.1) (t'.1, t'.1)) (fun _ _ _ _ => rfl), List.map_map] <;> rfl
  have QT : ∀ t ∈ T, RelV t.2.1 t.1 ∧ RV X.K H t.2.2.1 t.2.1 ∧ (∃ bs, Reads (PySem.W.sortingHeap (PySem.W.copyHeap s.heap its) (s.heap.objs.size + 1) its) t.1 t.2.2.2 bs) ∧ t.2.2.2 ∈ ds := fun t ht => Q0 t (pT.mem_iff.mp ht)
  have sT : T.Pairwise fun a b => PySem.W.dataLt b.2.2.2 a.2.2.2 = false := by
    have tot := PySem.W.sortLe_total (PySem.W.dataKind (PySem.W.sortingHeap (PySem.W.copyHeap s.heap its) (s.heap.objs.size + 1) its) ds).toKeyOrd false (fun p : Value × Value => PySem.W.keyD (PySem.W.dataKind (PySem.W.sortingHeap (PySem.W.copyHeap s.heap its) (s.heap.objs.size + 1) its) ds) p.1)
    have so2 := List.pairwise_mergeSort (le := fun t t' : Value × V × Vl × PyData => PySem.W.sortLe (PySem.W.dataKind (PySem.W.sortingHeap (PySem.W.copyHeap s.heap its) (s.heap.objs.size + 1) its) ds).toKeyOrd false (fun p : Value × Value => PySem.W.keyD (PySem.W.dataKind (PySem.W.sortingHeap (PySem.W.copyHeap s.heap its) (s.heap.objs.size + 1) its) ds) p.1) (t.1, t.1) (t'.1, t'.1)) (fun a b c => tot.trans _ _ _) (fun a b => Bool.or_eq_true_iff.mpr (tot.total _ _)) (its.zip (us.zip (ys.zip ds)))
    rw [← eT] at so2
    refine so2.imp_of_mem fun {x y} hx hy h => ?_
    obtain ⟨_, _, ⟨b1, x1⟩, x2⟩ := QT x hx
    obtain ⟨_, _, ⟨b2, y1⟩, y2⟩ := QT y hy
    have k1 := PySem.W.keyD_some (PySem.W.dataKind_some al x2 x1)
    have k2 := PySem.W.keyD_some (PySem.W.dataKind_some al y2 y1)
    have h' : (!(PySem.W.dataKind (PySem.W.sortingHeap (PySem.W.copyHeap s.heap its) (s.heap.objs.size + 1) its) ds).blt (PySem.W.keyD (PySem.W.dataKind (PySem.W.sortingHeap (PySem.W.copyHeap s.heap its) (s.heap.objs.size + 1) its) ds) y.1) (PySem.W.keyD (PySem.W.dataKind (PySem.W.sortingHeap (PySem.W.copyHeap s.heap its) (s.heap.objs.size + 1) its) ds) x.1)) = true := h
    rw [k1, k2] at h'
    exact bnot' h'
  obtain ⟨n, hn⟩ := sortedAll_at s.heap its (PySem.W.sortVals (PySem.W.dataKind (PySem.W.sortingHeap (PySem.W.copyHeap s.heap its) (s.heap.objs.size + 1) its) ds) false its its).toArray
  have zl : (T.map (·.2.1)).length ≤ sizeLine := by
    rw [List.length_map, pT.length_eq]
    simp
    omega
  refine ⟨.ref (s.heap.objs.size + 1), upd H (s.heap.objs.size + 1) (.lst (T.map (·.2.1))), I.laid (t' := s.toks) (fun _ _ e => sortedAll_old e) (Nat.le_succ _) ⟨zl, _, n, ?_, hn⟩, rfl, q (T.map (·.2.2)) (T.map (·.2.1)) _ ?_ ?_ ?_ (I.hok.fresh (Nat.le_succ _))⟩
  · rw [eo]
    exact vals_map fun t ht => (QT t ht).1
  · have e := (perm_zip3 its (us.zip (ys.zip ds)) (us.zip (ys.zip ds)) (by simp; omega) rfl)
    have p1 := pT.map (·.2.2)
    refine p1.trans (List.Perm.of_eq ?_)
    refine List.ext_getElem (by simp; omega) fun i h1 h2 => ?_
    simp
  · exact List.pairwise_map.mpr sT
  · rw [List.map_map]
    exact rvs_map fun t ht => (QT t ht).2.1
theorem br_sortDt (hc : X.calm = true) (hu : X.A.units + 64 < cLine) : BR X (.builtin "sorted") bSortDt := by
  refine ⟨fun vs H Q => ∃ ys ds g a us, vs = [V.ref a] ∧ SqL X.K H a us ∧ HR X.K g H ∧ RVs X.K H ys us ∧ Dts g ds ys ∧ PySem.W.AllAlike ds ∧ PySem.W.Sortable ds ∧ (∀ d ∈ ds, d.depth < 50) ∧
    ∀ (ps : List (Vl × PyData)) (ws : List V) p, ps.Perm (ys.zip ds) → ps.Pairwise (fun a b => PySem.W.dataLt b.2 a.2 = false) → RVs X.K H (ps.map (·.1)) ws → H p = none → Q (.ref p) (upd H p (.lst ws)), ?_, ?_⟩
  · rintro pins s σ H vs us Q I r ⟨ys, ds, g, a, ws, e0, hs, hr, rs, hd, al, so, dep, q⟩
    subst e0
    rw [Vals.ref1 r]
    exact cr_sortDt hc hu I hs hr rs hd al so dep q
  · rintro xs g P vs H Q ⟨x, ys, ds, rfl, h, hd, al, so, dep, q⟩ hr r k
    obtain ⟨v, rfl, rv⟩ := rvs1 r
    obtain ⟨a, us, rfl, s, rs⟩ := h.sq hr rv
    exact ⟨ys, ds, g, a, us, rfl, s, hr, rs, hd, al, so, dep, fun ps ws p h1 h2 h3 hp => lst_put hr h3 hp (q ps p h1 h2 (hr.free hp)) k⟩
end
end MP
set_option Elab.async false
set_option linter.all false
set_option maxRecDepth 100000
/-! MP, part 16: a small language, its readings. -/
namespace MP
open PySem PySem.Spec PyProof.Rows L2
inductive Mn where
  | eq_ | init | len_ | abandon | advance | back | batch | blocks | cells | change | check_block | check_place | common | copy | create | current | do_back | do_batch | do_create | do_drop | do_lead | do_mark | do_narrow | do_put | do_shift | do_stamp | do_tidy | do_vacate | do_widen | done | drop | enter | execute | execute_pair | execute_single | execute_triple | find | finish | free | gaps | gaps_within | gather | grow | halves | has_only_free | is_finished | is_free | is_place | is_size | layout | layout_of | lead | leave | log | logged | mark | move | moved | moved_on | names | narrow | numbers_of | owner | parent | place_of | places | put | put_row | read | run | shift | shrink | sibling | stamp | steps | store | tidy | turned | undo | used | vacate | widen | with_blocks | with_row | within | without | write
  deriving DecidableEq
def Mn.nm : Mn → Str
  | .eq_ => "__eq__" | .init => "__init__" | .len_ => "__len__" | .abandon => "abandon" | .advance => "advance" | .back => "back" | .batch => "batch" | .blocks => "blocks" | .cells => "cells" | .change => "change" | .check_block => "check_block" | .check_place => "check_place"
  | .common => "common" | .copy => "copy" | .create => "create" | .current => "current" | .do_back => "do_back" | .do_batch => "do_batch" | .do_create => "do_create" | .do_drop => "do_drop" | .do_lead => "do_lead" | .do_mark => "do_mark" | .do_narrow => "do_narrow" | .do_put => "do_put"
  | .do_shift => "do_shift" | .do_stamp => "do_stamp" | .do_tidy => "do_tidy" | .do_vacate => "do_vacate" | .do_widen => "do_widen" | .done => "done" | .drop => "drop" | .enter => "enter" | .execute => "execute" | .execute_pair => "execute_pair" | .execute_single => "execute_single" | .execute_triple => "execute_triple"
  | .find => "find" | .finish => "finish" | .free => "free" | .gaps => "gaps" | .gaps_within => "gaps_within" | .gather => "gather" | .grow => "grow" | .halves => "halves" | .has_only_free => "has_only_free" | .is_finished => "is_finished" | .is_free => "is_free" | .is_place => "is_place"
  | .is_size => "is_size" | .layout => "layout" | .layout_of => "layout_of" | .lead => "lead" | .leave => "leave" | .log => "log" | .logged => "logged" | .mark => "mark" | .move => "move" | .moved => "moved" | .moved_on => "moved_on" | .names => "names" | .narrow => "narrow" | .numbers_of => "numbers_of"
  | .owner => "owner" | .parent => "parent" | .place_of => "place_of" | .places => "places" | .put => "put" | .put_row => "put_row" | .read => "read" | .run => "run" | .shift => "shift" | .shrink => "shrink" | .sibling => "sibling" | .stamp => "stamp" | .steps => "steps" | .store => "store" | .tidy => "tidy"
  | .turned => "turned" | .undo => "undo" | .used => "used" | .vacate => "vacate" | .widen => "widen" | .with_blocks => "with_blocks" | .with_row => "with_row" | .within => "within" | .without => "without" | .write => "write"
inductive BO where
  | add | sub | mul | fdiv | mod | pow | band
  deriving DecidableEq
inductive CO where
  | eq | ne | lt | le | gt | ge | is_ | isn | in_ | nin
  deriving DecidableEq
def BO.op : BO → Operator
  | .add => .Add | .sub => .Sub | .mul => .Mult | .fdiv => .FloorDiv | .mod => .Mod | .pow => .Pow | .band => .BitAnd
def CO.op : CO → CmpOp
  | .eq => .Eq | .ne => .NotEq | .lt => .Lt | .le => .LtE | .gt => .Gt | .ge => .GtE | .is_ => .Is | .isn => .IsNot | .in_ => .In | .nin => .NotIn
def BO.b : BO → B2
  | .add => bAdd | .sub => bSub | .mul => bMul | .fdiv => bFDiv | .mod => bMod | .pow => bPow | .band => bAnd
def CO.b : CO → B2
  | .eq => bEqD false | .ne => bEqD true | .lt => bLt | .le => bLe | .gt => bGt | .ge => bGe | .is_ => (bIsN false).or (bIsB false) | .isn => (bIsN true).or (bIsB true) | .in_ => bIn false | .nin => bIn true
theorem BO.ok {X : Cx} : ∀ o : BO, ∃ r, OpR X (binaryOp o.op) r ∧ Rel2 X.K o.b r
  | .add => op_bAdd | .sub => op_bSub | .mul => op_bMul | .fdiv => op_bFDiv | .mod => op_bMod | .pow => op_bPow | .band => op_bAnd
theorem CO.ok {X : Cx} (hu : X.A.units + 64 < cLine) : ∀ o : CO, ∃ r, OpR X (compareOp o.op) r ∧ Rel2 X.K o.b r
  | .eq => ⟨_, op_eqD (by omega), rel_eqD⟩ | .ne => ⟨_, op_neD (by omega), rel_neD⟩ | .lt => op_bLt | .le => op_bLe | .gt => op_bGt | .ge => op_bGe | .is_ => op_bIs | .isn => op_bIsNot | .in_ => op_bIn (by omega) | .nin => op_bNotIn (by omega)
inductive Blt where
  | len | list | dict | sum | max | min | all | any | int | str | sorted | repr
  deriving DecidableEq
def Blt.nm : Blt → Str
  | .len => "len" | .list => "list" | .dict => "dict" | .sum => "sum" | .max => "max" | .min => "min" | .all => "all" | .any => "any" | .int => "int" | .str => "str" | .sorted => "sorted" | .repr => "repr"
def Blt.b : Blt → BN
  | .len => bLen.or bLenD | .list => bList.or bListD | .dict => bDictD.or bDictP | .sum => bSum | .max => bMax2.or bMax1 | .min => (bMin2.or bMin1).or bMinD | .all => bAll | .any => bAny | .int => bIntI.or bIntB | .str => bStrI.or bStrS
  | .sorted => (bSortI.or (bSortT.or bSortD)).or bSortDt | .repr => bReprD.or bReprI
theorem Blt.se {X : Cx} (hc : X.calm = true) (hgd : X.A.guards = some []) (hu : X.A.units + 64 < cLine) {e : Expr} {es : List Expr} {ra : WA} {p pos : Pos} (hs : (e :: es).all notStar = true) (ha : SA X (e :: es) ra) : ∀ (b : Blt), Gl X b.nm → X.mg b.nm = none → SE X (.Call (.Name b.nm p) (e :: es) [] pos) (wBlt b.b ra)
  | .len, hg, hm => se_bltB br_len hg hm rfl (by decide) (by decide) hs ha
  | .list, hg, hm => se_bltT (br_list hc) hg hm rfl (by decide) (by decide) hs ha
  | .dict, hg, hm => se_bltT (br_dict hc) hg hm rfl (by decide) (by decide) hs ha
  | .sum, hg, hm => se_bltB (br_sum hc) hg hm rfl (by decide) (by decide) hs ha
  | .max, hg, hm => se_bltB (br_max hc) hg hm rfl (by decide) (by decide) hs ha
  | .min, hg, hm => se_bltB ((br_min hc).or (br_minD hc hu)) hg hm rfl (by decide) (by decide) hs ha
  | .all, hg, hm => se_bltB (br_all hc) hg hm rfl (by decide) (by decide) hs ha
  | .any, hg, hm => se_bltB (br_any hc) hg hm rfl (by decide) (by decide) hs ha
  | .int, hg, hm => se_bltT br_int hg hm rfl (by decide) (by decide) hs ha
  | .str, hg, hm => se_bltT br_str hg hm rfl (by decide) (by decide) hs ha
  | .sorted, hg, hm => se_bltB ((br_sorted hc).or (br_sortDt hc hu)) hg hm rfl (by decide) (by decide) hs ha
  | .repr, hg, hm => se_bltB (br_repr hgd hu) hg hm rfl (by decide) (by decide) hs ha
/-! ### slices -/
abbrev WPt := Env → Gp → (Option Int → Gp → Prop) → Xo → Prop
def wPoN : WPt := fun _ g P _ => P none g
def wPo (w : WE) : WPt := fun env g P Xp => w env g (fun x g1 => ∃ i, x = .int i ∧ P (some i) g1) Xp
def wSl (wa : WE) (wl wh : WPt) : WE := fun env g P Xp => wa env g (fun x g1 => wl env g1 (fun l g2 => wh env g2 (fun h g3 => bSl x l h g3 P) Xp) Xp) Xp
def tP (K : PySem.W.Frag) (W : WX) (w : WPt) : TO := fun σ H Q => ∃ env g P Xp, Rs K H env σ ∧ HR K g H ∧ w env g P Xp ∧ (∀ r g' H', P r g' → Tx K H H' → HR K g' H' → Q r H') ∧ QX K W H σ Xp
def SPt (X : Cx) (e : Option Expr) (w : WPt) : Prop := ∀ W : WX, Takes X W → PO X e (tP X.K W w)
theorem PO.imp {X : Cx} {e : Option Expr} {t t' : TO} (h : PO X e t) (i : ∀ σ H Q, t' σ H Q → t σ H Q) : PO X e t' := ⟨fun pins s σ H Q I q => h.run pins s σ H Q I (i σ H Q q)⟩
theorem sp_none {X : Cx} : SPt X none wPoN := fun W tk => PO.imp po_none fun σ H Q ⟨env, g, P, Xp, rs, hr, q, hp, hx⟩ => hp _ g H q .refl hr
theorem sp_some {X : Cx} {e : Expr} {w : WE} (h : SE X e w) : SPt X (some e) (wPo w) := fun W tk => PO.imp (po_some (h W tk)) fun σ H Q ⟨env, g, P, Xp, rs, hr, q, hp, hx⟩ =>
  ⟨env, g, _, Xp, rs, hr, q, fun x g1 v H1 ⟨i, e, p⟩ t1 hr1 r1 => by subst e; exact ⟨i, r1, hp _ g1 H1 p t1 hr1⟩, hx⟩
theorem se_sl {X : Cx} {e : Expr} {lo hi : Option Expr} {wa : WE} {wl wh : WPt} {p2 pos : Pos} (he : SE X e wa) (hl : SPt X lo wl) (hh : SPt X hi wh) : SE X (.Subscript e (.Slice lo hi none p2) pos) (wSl wa wl wh) := fun W tk => by
  obtain ⟨r, ho, rel⟩ := op_bSl (X := X)
  refine PE.imp (pe_slice ho (he W tk) (hl W tk) (hh W tk)) fun σ H Q ⟨env, g, P, Xp, rs, hr, q, hp, hx⟩ => ?_
  refine ⟨env, g, _, Xp, rs, hr, q, fun x g1 v H1 q1 t1 hr1 r1 => ?_, hx⟩
  refine ⟨env, g1, _, Xp, rs.mono t1, hr1, q1, fun l g2 H2 q2 t2 hr2 => ?_, hx.step t1⟩
  refine ⟨env, g2, _, Xp, (rs.mono t1).mono t2, hr2, q2, fun h g3 H3 q3 t3 hr3 => ?_, (hx.step t1).step t2⟩
  exact rel x l h g3 P v H3 Q q3 hr3 ((r1.mono t2).mono t3) fun z g' w H' p t h r => hp z g' w H' p (t1.trans (t2.trans (t3.trans t))) h r
/-! ### the language -/
mutual
inductive Ex where
  | var (i : Nat) | int (i : Int) | str (s : Str) | bl (b : Bool) | non | kon (x : Str) (v : Vl)
  | bin (o : BO) (a b : Ex) | cmp (o : CO) (a b : Ex) | cmp2 (o o2 : CO) (a b c : Ex) | neg (a : Ex) | not (a : Ex) | and (es : Exs) | or (es : Exs) | ife (c a b : Ex)
  | tup (es : Exs) | lst (es : Exs) | dnew | ix (a b : Ex) | sl (l h : Bool) (a lo hi : Ex)
  | fld (f : Fd) (a : Ex) | prop (m : Mn) (a : Ex) | call (f : Nat) (es : Exs) | meth (m : Mn) (a : Ex) (es : Exs) | make (c : Cn) (es : Exs) | sm (c : Cn) (m : Mn) (es : Exs)
  | blt (b : Blt) (es : Exs) | isi (u : Ty) (a : Ex)
  | bm (b : Bm) (o : Ex) (es : Exs) | disp (ks vs : Exs)
  | comp (t : CT) (own : List Nat) (it : Wk) (ifs : Exs) (e : Ex) | dcomp (t : CT) (own : List Nat) (it : Wk) (ifs : Exs) (k v : Ex)
inductive Exs where
  | nil | cons (e : Ex) (r : Exs)
inductive Wk where
  | seq (e : Ex) | str (e : Ex) | rng (es : Exs) | keys (e : Ex) | vals (e : Ex) | items (e : Ex)
end
inductive Tg where
  | name (i : Nat) | tup (is : List Nat) | tup2 (i : Nat) (is : List Nat) | sub (o i : Ex)
mutual
inductive St where
  | expr (e : Ex) | ret (e : Ex) | retN | ite (c : Ex) (a b : Sts) | asg (t : Tg) (e : Ex) | setc (i : Nat) (e : Ex) | par (is : List Nat) (es : Exs) | fld (f : Fd) (o e : Ex) | for_ (t : Tg) (w : Wk) (b : Sts) | while_ (c : Ex) (b : Sts) | raise (c : Cn) (e : Ex)
inductive Sts where
  | nil | cons (s : St) (r : Sts)
end
/-- what a def is: a function, a method, a static method, a property's getter -/
inductive Kd where
  | fn | me (c : Cn) | sm (c : Cn) | pr (c : Cn)
  deriving DecidableEq
structure Fn where
  nm : Str
  kd : Kd
  star : Bool
  np : Nat
  N : List Str
  body : Sts
structure Prog where
  fns : List (Nat × Fn)
  mt : Cn → Mn → Option Nat
  pt : Cn → Mn → Option Nat
  st : Cn → Mn → Option Nat
  fok : Cn → Fd → Bool
  isi : Ty → Ty → Option Bool
def Prog.fn (P : Prog) (i : Nat) : Option Fn := P.fns.lookup i
def Exs.len : Exs → Nat
  | .nil => 0
  | .cons _ r => r.len + 1
section
variable (P : Prog) (Γ : Nat → Ct)
def ctM (m : Mn) (c : Cn) : Option Ct := (P.mt c m).map Γ
def ctI (c : Cn) : Ct := match P.mt c .init with
  | some i => Γ i
  | none => fun _ _ _ _ => False
def ctP (m : Mn) (c : Cn) : Option Ct := (P.pt c m).map Γ
def ctS (c : Cn) (m : Mn) : Ct := match P.st c m with
  | some i => Γ i
  | none => fun _ _ _ _ => False
def wFail : WE := fun _ _ _ _ => False
def iRange (ra : WA) : Nat → WI
  | 1 => iRange1 ra
  | 2 => iRange2 ra
  | _ => iRange3 ra
mutual
def wE : Ex → WE
  | .var i => wVar i
  | .int i => wC (.int i)
  | .str s => wC (.str s)
  | .bl b => wC (.bl b)
  | .non => wC .non
  | .kon _ v => wC v
  | .bin o a b => wBin o.b (wE a) (wE b)
  | .cmp o a b => wBin o.b (wE a) (wE b)
  | .cmp2 o o2 a b c => wChain o.b o2.b (wE a) (wE b) (wE c)
  | .neg a => wUn bNeg (wE a)
  | .not a => wNot (wE a)
  | .and es => wAnd (wEs es)
  | .or es => wOr (wEs es)
  | .ife c a b => wIf (wT c) (wE a) (wE b)
  | .tup es => wTup (wA es)
  | .lst es => wLst (wA es)
  | .dnew => fun _ g P _ => ∀ p, g p = none → P (.ref p) (gup g p (.dct []))
  | .ix a b => wBin bIx (wE a) (wE b)
  | .sl l h a lo hi => wSl (wE a) (if l then wPo (wE lo) else wPoN) (if h then wPo (wE hi) else wPoN)
  | .fld f a => wFld P.fok f (wE a)
  | .prop m a => wProp (ctP P Γ m) (wE a)
  | .call f es => wCall (Γ f) (wA es)
  | .meth m a es => wMeth (ctM P Γ m) (wE a) (wA es)
  | .make c es => wMake c (ctI P Γ c) (wA es)
  | .sm c m es => wCall (ctS P Γ c m) (wA es)
  | .blt b es => wBlt b.b (wA es)
  | .isi u a => wIsi P.isi u (wE a)
  | .bm b o es => wBm b.T b.b (wE o) (wA es)
  | .disp ks vs => wDisp ((wEs ks).zip (wEs vs))
  | .comp t own it ifs e => wComp (wW it) t own (wIfs ifs) (wE e)
  | .dcomp t own it ifs k v => wDComp (wW it) t own (wIfs ifs) (wE k) (wE v)
def wT : Ex → WT
  | .cmp o a b => wtBin o.b (wE a) (wE b)
  | .cmp2 o o2 a b c => wtOfE (wChain o.b o2.b (wE a) (wE b) (wE c))
  | .not a => wtNot (wT a)
  | .and es => wtAnd (wTs es)
  | .or es => wtOr (wTs es)
  | .var i => wtV (wVar i)
  | .bl b => wtV (wC (.bl b))
  | .ix a b => wtV (wBin bIx (wE a) (wE b))
  | .fld f a => wtV (wFld P.fok f (wE a))
  | .prop m a => wtV (wProp (ctP P Γ m) (wE a))
  | .call f es => wtV (wCall (Γ f) (wA es))
  | .meth m a es => wtV (wMeth (ctM P Γ m) (wE a) (wA es))
  | .sm c m es => wtV (wCall (ctS P Γ c m) (wA es))
  | .blt b es => wtV (wBlt b.b (wA es))
  | .isi u a => wtV (wIsi P.isi u (wE a))
  | _ => fun _ _ _ _ => False
def wEs : Exs → List WE
  | .nil => []
  | .cons e r => wE e :: wEs r
def wTs : Exs → List WT
  | .nil => []
  | .cons e r => wT e :: wTs r
def wA : Exs → WA
  | .nil => aNil
  | .cons e r => aCons (wE e) (wA r)
def wIfs : Exs → WT
  | .nil => wYes
  | .cons e _ => wT e
def wW : Wk → WI
  | .seq e => iSeq (wE e)
  | .str e => iStr (wE e)
  | .rng es => iRange (wA es) es.len
  | .keys e => iDict (fun p => kL p.1) (wE e)
  | .vals e => iDict (fun p => p.2) (wE e)
  | .items e => iDict (fun p => .tup [kL p.1, p.2]) (wE e)
end
def wGs : List Nat → WGs
  | [] => wgNil
  | i :: r => wgCons (wgName i) (wGs r)
def wG : Tg → WG
  | .name i => wgName i
  | .tup is => wgTup is.length (wGs is)
  | .tup2 i is => wgTup 2 (wgCons (wgName i) (wgCons (wgTup is.length (wGs is)) wgNil))
  | .sub o i => wgSub (wE P Γ o) (wE P Γ i)
def sPar (is : List Nat) (ra : WA) : WS := fun env g D Xp => ra env g (fun xs g1 => xs.length = is.length ∧ D.nx (setE env is xs) g1) fun c fs g => Xp c fs env g
def sRaise (c : Cn) (w : WE) : WS := fun env g _ Xp => w env g (fun _ g1 => Xp c [] env g1) fun c fs g => Xp c fs env g
mutual
def wS : St → WS
  | .expr e => sExpr (wE P Γ e)
  | .ret e => sRet (wE P Γ e)
  | .retN => sRetN
  | .ite c a b => sIf (wT P Γ c) (wSs a) (wSs b)
  | .asg t e => sAsg (wE P Γ e) (wG P Γ t)
  | .setc i e => sAsg (wE P Γ e) (wgName i)
  | .par is es => sPar is (wA P Γ es)
  | .fld f o e => sFldA P.fok f (wE P Γ o) (wE P Γ e)
  | .for_ t w b => sFor (wW P Γ w) (wG P Γ t) (wSs b)
  | .while_ c b => sWhile (wT P Γ c) (wSs b)
  | .raise c e => sRaise c (wE P Γ e)
def wSs : Sts → WS
  | .nil => bNil
  | .cons s r => bCons (wS s) (wSs r)
end
def ctF (F : Fn) : Ct := if F.star then ctStar F.N (wSs P Γ F.body) else ctBody F.N F.np (wSs P Γ F.body)
end
def ctN (P : Prog) : Nat → Nat → Ct
  | 0, _ => fun _ _ _ _ => False
  | n + 1, i => match P.fn i with
    | some F => ctF P (ctN P n) F
    | none => fun _ _ _ _ => False
end MP
set_option Elab.async false
set_option linter.all false
set_option maxRecDepth 100000
/-! MP, part 17: stores in parallel, raise, the check's words. -/
namespace MP
open PySem PySem.Spec PyProof.Rows L2
/-! ### which stores are swapped -/
def bkOf (sc : Scope) : ScopeKind := if sc.kind.isAnnotationScope then ScopeKind.function else sc.kind
def swNames (ts : List Expr) (sc : Scope) : List Str := ts.filterMap fun
  | .Name id pos => if sc.names.lookup id == some .local && pos.line == (ts.head?.map (·.pos.line)).getD 0 then some id else none
  | _ => none
def swB (ts vs : List Expr) (sc : Scope) : Option (Option (List Str)) :=
  if (!(ts.length == 2 || ts.length == 3) || vs.length != ts.length || bkOf sc != .function) = true then some none else
  if (vs.any fun | .Starred .. => true | _ => false) = true then some none else
  if ((swNames ts sc).length != ts.length || (swNames ts sc).eraseDups.length != (swNames ts sc).length) = true then some none else
  if vs.all (foldedForSure 8) = true then some none else
  if vs.all (constantsAlone 8) = true then none else some (some (swNames ts sc))
theorem sw_tt {ts vs : List Expr} {k k2 : Nat} {p p2 : Pos} {env : PySem.Env} {r : Option (List Str)} (h : swB ts vs env.scope = some r) : swappedStores [.Tuple ts k p] (.Tuple vs k2 p2) env = pure r := by
  unfold swB at h
  unfold swappedStores
  simp only
  by_cases c : (!(ts.length == 2 || ts.length == 3) || vs.length != ts.length || bkOf env.scope != .function) = true
  · rw [if_pos c] at h
    cases h
    exact if_pos c
  rw [if_neg c] at h
  refine (if_neg c).trans ?_
  by_cases c2 : (vs.any fun | .Starred .. => true | _ => false) = true
  · rw [if_pos c2] at h
    cases h
    exact if_pos c2
  rw [if_neg c2] at h
  refine (if_neg c2).trans ?_
  by_cases c3 : ((swNames ts env.scope).length != ts.length || (swNames ts env.scope).eraseDups.length != (swNames ts env.scope).length) = true
  · rw [if_pos c3] at h
    cases h
    exact if_pos c3
  rw [if_neg c3] at h
  refine (if_neg c3).trans ?_
  by_cases c4 : vs.all (foldedForSure 8) = true
  · rw [if_pos c4] at h
    cases h
    exact if_pos c4
  rw [if_neg c4] at h
  refine (if_neg c4).trans ?_
  by_cases c5 : vs.all (constantsAlone 8) = true
  · rw [if_pos c5] at h
    cases h
  rw [if_neg c5] at h
  cases h
  exact if_neg c5
/-- what is dropped or stored whole -/
def swcB (value : Expr) (t : Str) (tp : Pos) (sc : Scope) : Bool := match value with
  | .ListComp _ _ s p | .SetComp _ _ s p | .DictComp _ _ _ s p => bkOf sc == .function && sc.names.lookup t == some .local && tp.line == p.line && !(s.names.any fun (n, k) => n == t && (k == .local || k == .cell))
  | _ => false
theorem swc_ok {value : Expr} {t : Str} {tp : Pos} {l : Nat} {env : PySem.Env} : swapsWith value (some (.Name t tp)) l env = pure (swcB value t tp env.scope) := by
  cases value <;> rfl
theorem swc_other {value tg : Expr} {l : Nat} {env : PySem.Env} (h : (match tg with | .Name _ _ => false | _ => true) = true) : swapsWith value (some tg) l env = pure false := by
  cases tg <;> first
    | (cases h; done)
    | (cases value <;> rfl)
section
variable {X : Cx} {e tg c : Expr} {es : List Expr} {pos : Pos} {w : WE}
theorem ss_asgG {wt : WG} (hc : swapsWith e (some tg) pos.line X.env = pure false) (hs : notStar tg = true) (hw : swappedStores [tg] e X.env = pure none) (he : SE X e w) (ht : SG X tg wt) : SS X (.Assign [tg] e pos) (sAsg w wt) := fun W tk po => by
  refine PS.imp (ps_asg (he W tk) (ht W tk) hc hw (by rw [assignEach_cons hs] <;> rfl)) fun D σ H ⟨env, g, De, Xp, rs, hr, p, hn, hre, hx⟩ => ?_
  refine ⟨env, g, _, _, rs, hr, p, fun x g1 v H1 q t1 hr1 r1 => ?_, QXS.ex (Xp := Xp) hx rs⟩
  exact ⟨x, env, g1, De.nx, Xp, r1, rs.mono t1, hr1, q, fun env' g' σ' H' p t h rs' => hn env' g' σ' H' p (t1.trans t) h rs', fun c fs env' g' cls d σ' H' p t h rs' x => hx c fs env' g' cls d σ' H' p (t1.trans t) h rs' x⟩
theorem ss_par2 {i j : Nat} {x y : Str} {a b : Expr} {ra : WA} {px py pt pt2 : Pos} {kt k2 : Nat} (hc : X.calm = true) (hN : X.N.Nodup) (hi : X.N[i]? = some x) (hj : X.N[j]? = some y) (hij : i ≠ j) (hx : X.env.scope.names.lookup x = some .local) (hy : X.env.scope.names.lookup y = some .local)
    (hw : swappedStores [.Tuple [.Name x px, .Name y py] kt pt] (.Tuple [a, b] k2 pt2) X.env = pure (some [x, y])) (ha : SA X [a, b] ra) : SS X (.Assign [.Tuple [.Name x px, .Name y py] kt pt] (.Tuple [a, b] k2 pt2) pos) (sPar [i, j] ra) := fun W tk po => by
  refine PS.imp (ps_par hc hN hi hj hij hx hy (ha W tk) hw rfl) fun D σ H ⟨env, g, De, Xp, rs, hr, p, hn, hre, hx⟩ => ?_
  refine ⟨env, g, _, _, rs, hr, p, fun xs g1 vs H1 ⟨hl, q⟩ t1 hr1 r1 => ?_, QXS.ex (Xp := Xp) hx rs⟩
  match xs, hl, q, r1 with
  | [a, b], _, q, r1 =>
    obtain ⟨v, u, e, q1, q2⟩ := rvs2 r1
    exact ⟨v, u, e, hn _ g1 _ H1 q t1 hr1 (((rs.mono t1).set i q1).set j q2)⟩
theorem ss_par3 {i j l : Nat} {x y z : Str} {a b c : Expr} {ra : WA} {px py pz pt pt2 : Pos} {kt k2 : Nat} (hc : X.calm = true) (hN : X.N.Nodup) (hi : X.N[i]? = some x) (hj : X.N[j]? = some y) (hl : X.N[l]? = some z) (hij : i ≠ j) (hil : i ≠ l) (hjl : j ≠ l)
    (hx : X.env.scope.names.lookup x = some .local) (hy : X.env.scope.names.lookup y = some .local) (hz : X.env.scope.names.lookup z = some .local)
    (hw : swappedStores [.Tuple [.Name x px, .Name y py, .Name z pz] kt pt] (.Tuple [a, b, c] k2 pt2) X.env = pure (some [x, y, z])) (ha : SA X [a, b, c] ra) : SS X (.Assign [.Tuple [.Name x px, .Name y py, .Name z pz] kt pt] (.Tuple [a, b, c] k2 pt2) pos) (sPar [i, j, l] ra) := fun W tk po => by
  refine PS.imp (ps_par3 hc hN hi hj hl hij hil hjl hx hy hz (ha W tk) hw rfl) fun D σ H ⟨env, g, De, Xp, rs, hr, p, hn, hre, hx⟩ => ?_
  refine ⟨env, g, _, _, rs, hr, p, fun xs g1 vs H1 ⟨hl, q⟩ t1 hr1 r1 => ?_, QXS.ex (Xp := Xp) hx rs⟩
  match xs, hl, q, r1 with
  | [a, b, c], _, q, r1 =>
    obtain ⟨v, us, e, q1, q2⟩ := r1
    obtain ⟨u, t, e2, q3, q4⟩ := rvs2 q2
    subst e2
    exact ⟨v, u, t, e, hn _ g1 _ H1 q t1 hr1 ((((rs.mono t1).set i q1).set j q3).set l q4)⟩
/-! ### raise C(..), C without __init__ -/
structure ExcP (K : PySem.W.Frag) (c : Cn) : Prop where
  ex : PySem.W.excIn K (He.ga K c.nm) He.veBase "ValueError.__new__" = true
  kp : PySem.W.keepIn K (.ref (He.ga K c.nm)) = true
  sb : PySem.W.subIn K (.ref (He.ga K c.nm)) (.type "BaseException") = some true
  ty : PySem.W.typeIn K (.ref (He.ga K c.nm)) = some (.type "type")
theorem ss_raise {k : Cn} {p cp : Pos} (F : ExcP X.K k) (hc : X.calm = true) (hg : Gl X k.nm) (hm : X.mg k.nm = some (.ref (He.ga X.K k.nm))) (hdb : (k.nm == ("__debug__" : Str)) = false) (hs : notStar e = true) (he : SE X e w) :
    SS X (.Raise (some (.Call (.Name k.nm p) [e] [] cp)) none pos) (sRaise k w) := fun W tk po => by
  refine PS.imp (ps_raise hc tk (SkE.pmk_own1 PySem.F.excBase_ValueError F.ex hm F.kp (raises_own F.sb F.ty) hg (he W tk) (starEach_cons hs) hdb)) fun D σ H ⟨env, g, De, Xp, rs, hr, p, hn, hre, hx⟩ => ?_
  exact ⟨env, g, _, _, rs, hr, p, fun x g1 v H1 q t1 hr1 r1 => hx _ _ _ g1 _ _ σ H1 q t1 hr1 (rs.mono t1) ⟨rfl, .inl ⟨rfl, rfl⟩⟩, QXS.ex (Xp := Xp) hx rs⟩
theorem se_dnew : SE X (.Dict [] [] pos) (fun _ g P _ => ∀ p, g p = none → P (.ref p) (gup g p (.dct []))) := fun W tk =>
  PE.imp pe_dnewK fun σ H Q ⟨env, g, P, Xp, rs, hr, q, hp, hx⟩ p hn => dct_new (ys := []) (us := []) hr rfl hn q fun z g' w H' pz t h r => hp z g' w H' pz t h r
end
end MP
set_option Elab.async false
set_option linter.all false
set_option maxRecDepth 100000
/-! MP, part 18: a text is a term of the language: the check. -/
namespace MP
open PySem PySem.Spec PyProof.Rows L2
structure Ctx where
  N : List Str
  sc : Scope
  fnc : Str → Bool
def visB (sc : Scope) (x : Str) : Bool := match sc.names.lookup x with
  | some .local => true
  | some .cell => true
  | some .free => true
  | _ => false
def locB (C : Ctx) (x : Str) : Bool := match C.sc.names.lookup x with
  | some .local => true
  | some .cell => C.fnc x
  | _ => false
def glB (C : Ctx) (x : Str) : Bool := match C.sc.names.lookup x with
  | some .globalImplicit => true
  | _ => false
def dbgB (x : Str) : Bool := x == ("__debug__" : Str)
def cdcB (x : Str) : Bool := x == ("__classdict__" : Str)
def plainIx : Expr → Bool
  | .Slice _ _ none _ => false
  | _ => true
theorem plainIx_ok {b : Expr} (h : plainIx b = true) : PlainIx b := fun o i => by
  cases b with
  | Slice l u s p => cases s with
    | none => cases h
    | some s => rfl
  | _ => rfl
def slotB (C : Ctx) (i : Nat) (x : Str) : Bool := decide (C.N[i]? = some x)
/-- a name that is stored -/
def tgName (C : Ctx) (i : Nat) (a : Expr) : Bool := match a with
  | .Name x _ => slotB C i x && locB C x
  | _ => false
def tgNames (C : Ctx) : List Nat → List Expr → Bool
  | [], [] => true
  | i :: is, a :: as => tgName C i a && tgNames C is as
  | _, _ => false
def ckCT (C : Ctx) (t : CT) (a : Expr) : Bool := match t with
  | .one i => tgName C i a
  | .many is => match a with
    | .Tuple es _ _ => tgNames C is es
    | _ => false
def inC (C : Ctx) (scope : Scope) : Ctx := ⟨C.N, relS scope C.sc, fun x => scope.names.lookup x == some .cell⟩
def ownP (C : Ctx) (own : List Nat) : List (Str × Nat) := own.map fun i => (C.N.getD i "", i)
theorem ownP_map {C : Ctx} {own : List Nat} : (ownP C own).map (·.2) = own := by
  unfold ownP
  rw [List.map_map]
  exact (List.map_congr_left fun _ _ => rfl).trans (List.map_id own)
/-- a module's constant -/
def intsOf : List Vl → Option (List Int)
  | [] => some []
  | .int i :: r => (intsOf r).map (i :: ·)
  | _ => none
def konB (K : PySem.W.Frag) (x : Str) : Vl → Bool
  | .int i => (He.Fa.int x i).ok K
  | .str s => (He.Fa.str x s).ok K
  | .tup xs => match intsOf xs, PySem.W.nsIn K mainGlobals x with
    | some is, some (some (.ref a)) => (match K.lookup a with
      | some ⟨.type c, _, .seq its _, _⟩ => decide (c = "tuple") && (decide (its.size ≤ 100) && He.relAll (is.map V.int) its.toList)
      | _ => false)
    | _, _ => false
  | _ => false
def isN (a : Expr) (x : Str) : Bool := match a with
  | .Name y _ => decide (y = x)
  | _ => false
/-- a class, by its name -/
def tyNm : Ty → Option Str
  | .own c => some c.nm
  | .bl => some "bool"
  | .int => some "int"
  | .str => some "str"
  | .tup => some "tuple"
  | .lst => some "list"
  | .dct => some "dict"
  | .non => none
section
variable (K : PySem.W.Frag) (P : Prog)
/-- where a class's name leads -/
def clB (u : Ty) (c : Str) : Bool := match u with
  | .own k => (He.Fa.glo k.nm).ok K
  | _ => (He.Fa.free c).ok K
def fnB (i : Nat) (x : Str) : Bool := match P.fn i with
  | some F => decide (F.kd = .fn) && decide (F.nm = x)
  | none => false
mutual
def ckE : Ex → Ctx → Expr → Bool
  | .var i, C, a => match a with
    | .Name x _ => slotB C i x && (visB C.sc x && (!dbgB x && !cdcB x))
    | _ => false
  | .int i, _, a => match a with
    | .Constant (.int j) _ _ => decide (j = i)
    | _ => false
  | .str i, _, a => match a with
    | .Constant (.str j) _ _ => decide (j = i)
    | _ => false
  | .bl i, _, a => match a with
    | .Constant (.bool j) _ _ => decide (j = i)
    | _ => false
  | .non, _, a => match a with
    | .Constant .none _ _ => true
    | _ => false
  | .kon x v, C, a => match a with
    | .Name y _ => decide (y = x) && (glB C x && (!dbgB x && konB K x v))
    | _ => false
  | .bin o l r, C, a => match a with
    | .BinOp l' o' r' _ => decide (o' = o.op) && (ckE l C l' && ckE r C r')
    | _ => false
  | .cmp o l r, C, a => match a with
    | .Compare l' [o'] [r'] _ => decide (o' = o.op) && (!behindInMarks o' r' && (ckE l C l' && ckE r C r'))
    | _ => false
  | .cmp2 o o2 l m r, C, a => match a with
    | .Compare l' [o', o2'] [m', r'] _ => decide (o' = o.op) && (decide (o2' = o2.op) && (!behindInMarks o2' r' && (ckE l C l' && (ckE m C m' && ckE r C r'))))
    | _ => false
  | .neg x, C, a => match a with
    | .UnaryOp .USub x' _ => ckE x C x'
    | _ => false
  | .not x, C, a => match a with
    | .UnaryOp .Not x' _ => ckE x C x'
    | _ => false
  | .and es, C, a => match a with
    | .BoolOp .And es' _ => !es'.isEmpty && ckEs es C es'
    | _ => false
  | .or es, C, a => match a with
    | .BoolOp .Or es' _ => !es'.isEmpty && ckEs es C es'
    | _ => false
  | .ife c x y, C, a => match a with
    | .IfExp c' x' y' _ => ckE c C c' && (ckE x C x' && ckE y C y')
    | _ => false
  | .tup es, C, a => match a with
    | .Tuple es' _ _ => es'.all notStar && ckEs es C es'
    | _ => false
  | .lst es, C, a => match a with
    | .List es' _ => es'.all notStar && ckEs es C es'
    | _ => false
  | .dnew, _, a => match a with
    | .Dict [] [] _ => true
    | _ => false
  | .ix x i, C, a => match a with
    | .Subscript x' i' _ => plainIx i' && (ckE x C x' && ckE i C i')
    | _ => false
  | .sl l h x lo hi, C, a => match a with
    | .Subscript x' (.Slice lo' hi' none _) _ => ckE x C x' && ((match l, lo' with
        | true, some e => ckE lo C e
        | false, none => true
        | _, _ => false) && (match h, hi' with
        | true, some e => ckE hi C e
        | false, none => true
        | _, _ => false))
    | _ => false
  | .fld f x, C, a => match a with
    | .Attribute x' m _ => decide (m = f.nm) && (attrOk x' && ckE x C x')
    | _ => false
  | .prop f x, C, a => match a with
    | .Attribute x' m _ => decide (m = f.nm) && (attrOk x' && ckE x C x')
    | _ => false
  | .call f es, C, a => match a with
    | .Call (.Name x _) es' [] _ => fnB P f x && (glB C x && (!dbgB x && (es'.all notStar && ckEs es C es')))
    | _ => false
  | .meth f x es, C, a => match a with
    | .Call (.Attribute x' m ap) es' [] p => decide (m = f.nm) && (methOk es' ap p && (attrOk x' && (ckE x C x' && ckEs es C es')))
    | _ => false
  | .make c es, C, a => match a with
    | .Call (.Name x _) es' [] _ => decide (x = c.nm) && (glB C x && (!dbgB x && ((P.mt c .init).isSome && (es'.all notStar && ckEs es C es'))))
    | _ => false
  | .sm c f es, C, a => match a with
    | .Call (.Attribute (.Name x _) m ap) es' [] p => decide (x = c.nm) && (decide (m = f.nm) && (glB C x && (!dbgB x && ((P.st c f).isSome && (methOk es' ap p && (!es'.isEmpty && ckEs es C es'))))))
    | _ => false
  | .blt b es, C, a => match a with
    | .Call (.Name x _) es' [] _ => decide (x = b.nm) && (glB C x && (!es'.isEmpty && (es'.all notStar && ckEs es C es')))
    | _ => false
  | .isi u x, C, a => match a with
    | .Call (.Name y _) [x', .Name c _] [] _ => decide (y = "isinstance") && (glB C y && (notStar x' && (decide (tyNm u = some c) && (glB C c && (!dbgB c && (clB K u c && ckE x C x'))))))
    | _ => false
  | .bm b x es, C, a => match a with
    | .Call (.Attribute x' m ap) es' [] p => decide (m = b.nm) && (methOk es' ap p && (attrOk x' && (ckE x C x' && ckEs es C es')))
    | _ => false
  | .disp ks vs, C, a => match a with
    | .Dict ks' vs' _ => !ks'.isEmpty && (decide (ks'.length ≤ 15) && (decide (ks'.length = vs'.length) && (ckKs ks C ks' && ckEs vs C vs')))
    | _ => false
  | .comp t own it ifs e, C, a => match a with
    | .ListComp e' [⟨tg, it', ifs', 0⟩] scope _ => notSet it' && (ckW it C tg it' && (blkC C.N C.sc scope (ownP C own) && ((t.slots.all fun i => decide (i ∈ own)) && (ckCT (inC C scope) t tg && (ckIfs ifs (inC C scope) ifs' && ckE e (inC C scope) e')))))
    | _ => false
  | .dcomp t own it ifs k v, C, a => match a with
    | .DictComp k' v' [⟨tg, it', ifs', 0⟩] scope _ => notSet it' && (ckW it C tg it' && (blkC C.N C.sc scope (ownP C own) && ((t.slots.all fun i => decide (i ∈ own)) && (ckCT (inC C scope) t tg && (ckIfs ifs (inC C scope) ifs' && (ckE k (inC C scope) k' && ckE v (inC C scope) v'))))))
    | _ => false
def ckEs : Exs → Ctx → List Expr → Bool
  | .nil, _, as => as.isEmpty
  | .cons e r, C, as => match as with
    | a :: ar => ckE e C a && ckEs r C ar
    | [] => false
def ckKs : Exs → Ctx → List (Option Expr) → Bool
  | .nil, _, as => as.isEmpty
  | .cons e r, C, as => match as with
    | some a :: ar => ckE e C a && ckKs r C ar
    | _ => false
def ckIfs : Exs → Ctx → List Expr → Bool
  | .nil, _, as => as.isEmpty
  | .cons e r, C, as => match as with
    | [a] => ckE e C a
    | _ => false
def ckW : Wk → Ctx → Expr → Expr → Bool
  | .seq e, C, _, a => ckE e C a
  | .str e, C, _, a => ckE e C a
  | .keys e, C, _, a => ckE e C a
  | .rng es, C, _, a => match a with
    | .Call (.Name x _) es' [] _ => decide (x = "range") && (glB C x && (es'.all notStar && (decide (es'.length = 1 ∨ es'.length = 2 ∨ es'.length = 3) && ckEs es C es')))
    | _ => false
  | .vals e, C, _, a => match a with
    | .Call (.Attribute x m ap) [] [] p => decide (m = "values") && (attrOk x && ((ap.endLine == p.line) && ckE e C x))
    | _ => false
  | .items e, C, tg, a => match a with
    | .Call (.Attribute x m ap) [] [] p => decide (m = "items") && (attrOk x && ((ap.endLine == p.line) && ((match tg with | .Tuple _ _ _ => true | _ => false) && ckE e C x)))
    | _ => false
end
def ckG (C : Ctx) (t : Tg) (a : Expr) : Bool := match t with
  | .name i => tgName C i a
  | .tup is => match a with
    | .Tuple es _ _ => tgNames C is es
    | _ => false
  | .tup2 i is => match a with
    | .Tuple [a0, .Tuple es _ _] _ _ => tgName C i a0 && tgNames C is es
    | _ => false
  | .sub o i => match a with
    | .Subscript o' i' _ => notSlice i' && (ckE K P o C o' && ckE K P i C i')
    | _ => false
/-- no swap: said by the text -/
def noSw (C : Ctx) (tg e : Expr) : Bool := notSwap tg e || (match tg, e with
  | .Tuple ts _ _, .Tuple vs _ _ => (match swB ts vs C.sc with
    | some none => true
    | _ => false)
  | _, _ => false)
/-- the whole value is not swapped with a name -/
def noSwc (C : Ctx) (tg e : Expr) : Bool := match tg with
  | .Name x p => !swcB e x p C.sc
  | _ => true
def parB (C : Ctx) (is : List Nat) (a b : Expr) : Bool := match a, b with
  | .Tuple ts _ _, .Tuple vs _ _ => (match swB ts vs C.sc with
    | some (some xs) => (match is, ts, vs with
      | [i, j], [.Name x _, .Name y _], [_, _] => decide (xs = [x, y]) && (slotB C i x && (slotB C j y && (decide (i ≠ j) && (decide (C.sc.names.lookup x = some .local) && decide (C.sc.names.lookup y = some .local)))))
      | [i, j, l], [.Name x _, .Name y _, .Name z _], [_, _, _] => decide (xs = [x, y, z]) && (slotB C i x && (slotB C j y && (slotB C l z && (decide (i ≠ j) && (decide (i ≠ l) && (decide (j ≠ l) && (decide (C.sc.names.lookup x = some .local) && (decide (C.sc.names.lookup y = some .local) && decide (C.sc.names.lookup z = some .local)))))))))
      | _, _, _ => false)
    | _ => false)
  | _, _ => false
mutual
def ckS : St → Ctx → Stmt → Bool
  | .expr e, C, s => match s with
    | .Expr a _ => notComp a && ckE K P e C a
    | _ => false
  | .ret e, C, s => match s with
    | .Return (some a) _ => ckE K P e C a
    | _ => false
  | .retN, _, s => match s with
    | .Return none _ => true
    | _ => false
  | .ite c x y, C, s => match s with
    | .If c' x' y' _ => ckE K P c C c' && (ckSs x C x' && ckSs y C y')
    | _ => false
  | .asg t e, C, s => match s with
    | .Assign [tg] a _ => notStar tg && (noSw C tg a && (noSwc C tg a && (ckG K P C t tg && ckE K P e C a)))
    | _ => false
  | .setc i e, C, s => match s with
    | .Assign [.Name y py] a p => (match e, a with
      | .comp t own it ifs e0, .ListComp e' [⟨tg, it', ifs', 0⟩] scope lp => slotB C i y && (decide (C.sc.names.lookup y = some .local) && (swcB (.ListComp e' [⟨tg, it', ifs', 0⟩] scope lp) y py C.sc && ckE K P (.comp t own it ifs e0) C (.ListComp e' [⟨tg, it', ifs', 0⟩] scope lp)))
      | _, _ => false)
    | _ => false
  | .par is es, C, s => match s with
    | .Assign [tg] a _ => parB C is tg a && (match a with
      | .Tuple vs _ _ => vs.all notStar && ckEs K P es C vs
      | _ => false)
    | _ => false
  | .fld f o e, C, s => match s with
    | .Assign [.Attribute o' m _] a _ => decide (m = f.nm) && (ckE K P o C o' && ckE K P e C a)
    | _ => false
  | .for_ t w b, C, s => match s with
    | .For tg it b' [] _ => notSet it && (ckW K P w C tg it && (ckG K P C t tg && ckSs b C b'))
    | _ => false
  | .while_ c b, C, s => match s with
    | .While c' b' [] _ => ckE K P c C c' && ckSs b C b'
    | _ => false
  | .raise c e, C, s => match s with
    | .Raise (some (.Call (.Name x _) [a] [] _)) none _ => decide (x = c.nm) && (glB C x && (!dbgB x && (notStar a && ((He.Fa.exc c.nm).ok K && ((He.Fa.glo c.nm).ok K && ckE K P e C a)))))
    | _ => false
def ckSs : Sts → Ctx → List Stmt → Bool
  | .nil, _, ss => ss.isEmpty
  | .cons s r, C, ss => match ss with
    | a :: ar => ckS s C a && ckSs r C ar
    | [] => false
end
end
end MP
set_option Elab.async false
set_option linter.all false
set_option maxRecDepth 100000
/-! MP, part 19: the check is right: expressions. -/
namespace MP
open PySem PySem.Spec PyProof.Rows L2
/-- where a def's function object stands -/
def adF (K : PySem.W.Frag) (F : Fn) : Addr := match F.kd with
  | .fn => He.ga K F.nm
  | .me c => He.ma K (He.ga K c.nm) F.nm
  | .sm c => match PySem.W.recIn K (He.ma K (He.ga K c.nm) F.nm) "staticmethod" with
    | some (.ref f :: _) => f
    | _ => 0
  | .pr c => match PySem.W.recIn K (He.ma K (He.ga K c.nm) F.nm) "property" with
    | some (.ref f :: _) => f
    | _ => 0
structure Facts (K : PySem.W.Frag) (mg : Str → Option Value) (P : Prog) : Prop where
  fn : ∀ i F, P.fn i = some F → F.kd = .fn → mg F.nm = some (.ref (adF K F)) ∧ PySem.W.keepIn K (.ref (adF K F)) = true
  mt : ∀ c m i, P.mt c m = some i → ∃ F, P.fn i = some F ∧ Cls K (He.ga K c.nm) ∧ Meth K (He.ga K c.nm) m.nm (adF K F)
  mak : ∀ c i, P.mt c .init = some i → ∃ F, P.fn i = some F ∧ Mk K (He.ga K c.nm) (adF K F) ∧ mg c.nm = some (.ref (He.ga K c.nm))
  pt : ∀ c m i, P.pt c m = some i → ∃ F p, P.fn i = some F ∧ Cls K (He.ga K c.nm) ∧ PropOf K (He.ga K c.nm) m.nm p (adF K F)
  st : ∀ c m i, P.st c m = some i → ∃ F p rest, P.fn i = some F ∧ PySem.W.readsIn K (He.ga K c.nm) (.type "type") = true ∧ PySem.W.specialIn K (.ref (He.ga K c.nm)) "__getattribute__" = some (some (.builtin "type.__getattribute__")) ∧
    PySem.W.findCls K (.ref (He.ga K c.nm)) (.type "type") m.nm = some (.get (.builtin "staticmethod.__get__") (.ref p) .none (.ref (He.ga K c.nm))) ∧ PySem.W.recIn K p "staticmethod" = some (.ref (adF K F) :: rest) ∧
    PySem.W.keepIn K (.ref (adF K F)) = true ∧ mg c.nm = some (.ref (He.ga K c.nm))
  fok : ∀ c f, P.fok c f = true → Cls K (He.ga K c.nm) ∧ NoAttr K (He.ga K c.nm) f.nm
  isi : IsiOk K P.isi
  blt : ∀ b : Blt, mg b.nm = none
  rng : mg "range" = none
  isn : mg "isinstance" = none
def Mn.all : List Mn := [.eq_, .init, .len_, .abandon, .advance, .back, .batch, .blocks, .cells, .change, .check_block, .check_place, .common, .copy, .create, .current, .do_back, .do_batch, .do_create, .do_drop, .do_lead, .do_mark, .do_narrow, .do_put, .do_shift, .do_stamp, .do_tidy, .do_vacate, .do_widen, .done, .drop, .enter, .execute, .execute_pair, .execute_single, .execute_triple, .find, .finish, .free, .gaps, .gaps_within, .gather, .grow, .halves, .has_only_free, .is_finished, .is_free, .is_place, .is_size, .layout, .layout_of, .lead, .leave, .log, .logged, .mark, .move, .moved, .moved_on, .names, .narrow, .numbers_of, .owner, .parent, .place_of, .places, .put, .put_row, .read, .run, .shift, .shrink, .sibling, .stamp, .steps, .store, .tidy, .turned, .undo, .used, .vacate, .widen, .with_blocks, .with_row, .within, .without, .write]
theorem Mn.mem_all' (m : Mn) : Mn.all.contains m = true := by cases m <;> rfl
theorem Mn.mem_all (m : Mn) : m ∈ Mn.all := List.contains_iff_mem.mp (Mn.mem_all' m)
theorem fd_mn (m : Mn) : ∀ f : Fd, f.nm ≠ m.nm := by
  have key : (Mn.all.all fun m => Fd.all.all fun f => !decide (f.nm = m.nm)) = true := by decide +kernel
  intro f e
  have k1 := List.all_eq_true.mp (List.all_eq_true.mp key m m.mem_all) f f.mem_all
  rw [decide_eq_true e] at k1
  cases k1
structure Fit (P : Prog) (Γ : Nat → Ct) (k : Nat) (C : Ctx) (X : Cx) : Prop where
  facts : Facts X.K X.mg P
  fns : ∀ i F, P.fn i = some F → FnP X.prog X.w X.K X.mg X.base k (adF X.K F) (Γ i)
  N : X.N = C.N
  sc : X.env.scope = C.sc
  fnc : X.fn = C.fnc
  calm : X.calm = true
  nd : C.N.Nodup
  gd : X.A.guards = some []
  room : Room (k + 1) X.A
  kin : X.K.In X.base
  ns : X.base.Ns mainGlobals X.mg
section
variable {P : Prog} {Γ : Nat → Ct} {k : Nat} {C : Ctx} {X : Cx}
theorem Fit.hu (F : Fit P Γ k C X) : X.A.units + 64 < cLine := F.room.units
theorem Fit.hu65 (F : Fit P Γ k C X) : X.A.units + 65 < cLine := by have := F.room.un; omega
theorem Fit.ndN (F : Fit P Γ k C X) : X.N.Nodup := by
  rw [F.N]
  exact F.nd
theorem Fit.slot (F : Fit P Γ k C X) {i : Nat} {x : Str} (h : slotB C i x = true) : X.N[i]? = some x := by
  rw [F.N]
  exact of_decide_eq_true h
theorem Fit.vis (F : Fit P Γ k C X) {x : Str} (h : visB C.sc x = true) : Vis X.env.scope x := by
  rw [F.sc]
  unfold visB at h
  unfold Vis
  split at h
  · exact .inl (by assumption)
  · exact .inr (.inl (by assumption))
  · exact .inr (.inr (by assumption))
  · cases h
theorem Fit.gl (F : Fit P Γ k C X) {x : Str} (h : glB C x = true) : Gl X x := by
  unfold glB at h
  show X.env.scope.names.lookup x = _
  rw [F.sc]
  split at h
  · assumption
  · cases h
theorem Fit.loc (F : Fit P Γ k C X) {x : Str} (h : locB C x = true) : Loc X.env.scope x ∧ (X.fn x = true ∨ X.env.scope.names.lookup x = some .local) := by
  unfold locB at h
  rw [F.sc, F.fnc]
  split at h
  · rename_i e
    exact ⟨.inl e, .inr e⟩
  · rename_i e
    exact ⟨.inr e, .inl h⟩
  · cases h
theorem Fit.pgName (F : Fit P Γ k C X) {i : Nat} {a : Expr} (h : tgName C i a = true) : PG X a (gName i) := by
  unfold tgName at h
  split at h
  · obtain ⟨h1, h2⟩ := He.ba h
    obtain ⟨l1, l2⟩ := F.loc h2
    exact pg_name F.ndN (F.slot h1) l1 l2
  · cases h
theorem Fit.sgName (F : Fit P Γ k C X) {i : Nat} {a : Expr} (h : tgName C i a = true) : SG X a (wgName i) := by
  unfold tgName at h
  split at h
  · obtain ⟨h1, h2⟩ := He.ba h
    obtain ⟨l1, l2⟩ := F.loc h2
    exact sg_name F.ndN (F.slot h1) l1 l2
  · cases h
theorem tgName_ns {i : Nat} {a : Expr} (h : tgName C i a = true) : notStar a = true := by
  unfold tgName at h
  split at h
  · rfl
  · cases h
theorem tgNames_ns : ∀ {is : List Nat} {as : List Expr}, tgNames C is as = true → as.all notStar = true ∧ as.length = is.length
  | [], [], _ => ⟨rfl, rfl⟩
  | i :: is, a :: as, h => by
    obtain ⟨h1, h2⟩ := He.ba (show (tgName C i a && tgNames C is as) = true from h)
    obtain ⟨k1, k2⟩ := tgNames_ns h2
    exact ⟨by rw [List.all_cons, tgName_ns h1, k1] <;> rfl, by rw [List.length_cons, List.length_cons, k2]⟩
  | [], _ :: _, h => by cases h
  | _ :: _, [], h => by cases h
theorem Fit.pgNames (F : Fit P Γ k C X) : ∀ {is : List Nat} {as : List Expr}, tgNames C is as = true → PGs X as (gNames is)
  | [], [], _ => pgs_nil
  | i :: is, a :: as, h => by
    obtain ⟨h1, h2⟩ := He.ba (show (tgName C i a && tgNames C is as) = true from h)
    exact pgs_cons (F.pgName h1) (F.pgNames h2) (by rw [assignEach_cons (tgName_ns h1)] <;> rfl)
  | [], _ :: _, h => by cases h
  | _ :: _, [], h => by cases h
theorem Fit.sgNames (F : Fit P Γ k C X) : ∀ {is : List Nat} {as : List Expr}, tgNames C is as = true → SGs X as (wGs is)
  | [], [], _ => sgs_nil
  | i :: is, a :: as, h => by
    obtain ⟨h1, h2⟩ := He.ba (show (tgName C i a && tgNames C is as) = true from h)
    exact sgs_cons (tgName_ns h1) (F.sgName h1) (F.sgNames h2)
  | [], _ :: _, h => by cases h
  | _ :: _, [], h => by cases h
theorem Fit.pgCT (F : Fit P Γ k C X) {t : CT} {a : Expr} (h : ckCT C t a = true) : PG X a (t.g X.K) := by
  cases t with
  | one i => exact F.pgName h
  | many is =>
    unfold ckCT at h
    simp only at h
    split at h
    · obtain ⟨h1, h2⟩ := tgNames_ns h
      obtain ⟨l1, l2⟩ := assignEach_len (env := X.env) h1
      exact pg_tup F.calm (F.pgNames h) (l1.trans h2) l2
    · cases h
/-- within a comprehension's block -/
theorem Fit.blk (F : Fit P Γ k C X) {s : Shared} {H : Hp} {scope : Scope} {Ca : Addr} {cl : List (Str × Addr)} {fp : List Addr} : Fit P Γ k (inC C scope) (X.blk s H scope (compEnvC scope cl Ca X.env) fp) :=
  ⟨F.facts, F.fns, F.N, by
    show relS scope X.env.scope = relS scope C.sc
    rw [F.sc], rfl, F.calm, F.nd, F.gd, F.room, F.kin, F.ns⟩
theorem dbg_no {x : Str} (h : (!dbgB x) = true) : (x == ("__debug__" : Str)) = false := by
  cases e : dbgB x with
  | true => rw [e] at h; cases h
  | false => exact e
theorem cdc_no {x : Str} (h : (!cdcB x) = true) : (x == ("__classdict__" : Str)) = false := by
  cases e : cdcB x with
  | true => rw [e] at h; cases h
  | false => exact e
theorem bnot {b : Bool} (h : (!b) = true) : b = false := by
  cases b with
  | true => cases h
  | false => rfl
theorem intsOf_rel {K : PySem.W.Frag} {H : Hp} : ∀ {xs : List Vl} {is : List Int}, intsOf xs = some is → RVs K H xs (is.map V.int)
  | [], is, h => by
    have e : [] = is := Option.some.inj h
    subst e
    exact rfl
  | .int i :: r, is, h => by
    unfold intsOf at h
    obtain ⟨js, e1, e2⟩ := Option.map_eq_some_iff.mp h
    subst e2
    exact .cons rfl (intsOf_rel e1)
  | .non :: r, is, h => by cases h
  | .bl _ :: r, is, h => by cases h
  | .str _ :: r, is, h => by cases h
  | .tup _ :: r, is, h => by cases h
  | .ref _ :: r, is, h => by cases h
  | .kl _ _ :: r, is, h => by cases h
theorem kon_ok {K : PySem.W.Frag} {h : Heap} {mg : Str → Option Value} (X : K.In h) (G : h.Ns mainGlobals mg) {x : Str} {v : Vl} (c : konB K x v = true) : ∃ u w, mg x = some u ∧ RelV w u ∧ ∀ H, RV K H v w := by
  cases v with
  | int i =>
    obtain ⟨t, e⟩ := He.int_ok X G c
    exact ⟨_, .int i, e, ⟨t, rfl⟩, fun H => rfl⟩
  | str i =>
    obtain ⟨t, e⟩ := He.str_ok X G c
    exact ⟨_, .str i, e, ⟨t, rfl⟩, fun H => rfl⟩
  | tup xs =>
    unfold konB at c
    simp only at c
    split at c
    · rename_i is a e1 e2
      split at c
      · rename_i c0 od its n sl e3
        obtain ⟨c1, c⟩ := He.ba c
        obtain ⟨c2, c3⟩ := He.ba c
        refine ⟨_, .ref a, PySem.W.mg_of X G e2, rfl, fun H => ⟨a, is.map V.int, rfl, .inr ⟨_, its, n, e3, by rw [of_decide_eq_true c1], rfl, ?_, He.relAll_ok c3⟩, intsOf_rel e1⟩⟩
        have z := of_decide_eq_true c2
        rw [sizeLine_eq]
        omega
      · cases c
    · cases c
  | _ => cases c
/-- a read without a rule -/
theorem st_no {a : Expr} : ST X a (fun _ _ _ _ => False) := fun W tk => ⟨fun pins s σ H Q I ⟨_, _, _, _, _, _, q, _⟩ => q.elim⟩
theorem se_no {a : Expr} : SE X a (fun _ _ _ _ => False) := fun W tk => ⟨fun pins s σ H Q I ⟨_, _, _, _, _, _, q, _⟩ => q.elim⟩
end
end MP
set_option Elab.async false
set_option linter.all false
set_option maxRecDepth 100000
set_option maxHeartbeats 4000000
/-! MP, part 20: .. by induction on the term. -/
namespace MP
open PySem PySem.Spec PyProof.Rows L2
theorem bool3 {a b : Bool} (h : (a && b) = true) : a = true ∧ b = true := Bool.and_eq_true_iff.mp h
theorem isEmpty_cons {es : List Expr} (h : (!es.isEmpty) = true) : ∃ a r, es = a :: r := by
  cases es with
  | nil => cases h
  | cons a r => exact ⟨a, r, rfl⟩
section
variable {P : Prog} {Γ : Nat → Ct} {k : Nat}
theorem Fit.me {C : Ctx} {X : Cx} (F : Fit P Γ k C X) {m : Mn} : ∀ c ct, ctM P Γ m c = some ct → MetP X k c m.nm ct := fun c ct h => by
  obtain ⟨i, e1, e2⟩ := Option.map_eq_some_iff.mp h
  obtain ⟨f, e3, c1, c2⟩ := F.facts.mt c m i e1
  subst e2
  exact ⟨_, c1, c2, F.fns i f e3⟩
theorem Fit.pr {C : Ctx} {X : Cx} (F : Fit P Γ k C X) {m : Mn} : ∀ c ct, ctP P Γ m c = some ct → ProP X k c m.nm ct := fun c ct h => by
  obtain ⟨i, e1, e2⟩ := Option.map_eq_some_iff.mp h
  obtain ⟨f, p, e3, c1, c2⟩ := F.facts.pt c m i e1
  subst e2
  exact ⟨p, _, c1, c2, F.fns i f e3⟩
theorem Fit.mk_ {C : Ctx} {X : Cx} (F : Fit P Γ k C X) {c : Cn} (h : (P.mt c .init).isSome = true) : ∃ f, Mk X.K (He.ga X.K c.nm) f ∧ FnP X.prog X.w X.K X.mg X.base k f (ctI P Γ c) ∧ X.mg c.nm = some (.ref (He.ga X.K c.nm)) := by
  obtain ⟨i, e⟩ := Option.isSome_iff_exists.mp h
  obtain ⟨f, e3, c1, c2⟩ := F.facts.mak c i e
  refine ⟨_, c1, ?_, c2⟩
  unfold ctI
  rw [e]
  exact F.fns i f e3
theorem Fit.smp {C : Ctx} {X : Cx} (F : Fit P Γ k C X) {c : Cn} {m : Mn} (h : (P.st c m).isSome = true) : SmP X k c m.nm (ctS P Γ c m) ∧ X.mg c.nm = some (.ref (He.ga X.K c.nm)) := by
  obtain ⟨i, e⟩ := Option.isSome_iff_exists.mp h
  obtain ⟨f, p, rest, e3, c1, c2, c3, c4, c5, c6⟩ := F.facts.st c m i e
  refine ⟨⟨p, _, rest, c1, c2, c3, c4, c5, ?_⟩, c6⟩
  unfold ctS
  rw [e]
  exact F.fns i f e3
theorem Fit.call {C : Ctx} {X : Cx} (F : Fit P Γ k C X) {i : Nat} {x : Str} (h : fnB P i x = true) : ∃ f, FnP X.prog X.w X.K X.mg X.base k f (Γ i) ∧ X.mg x = some (.ref f) ∧ PySem.W.keepIn X.K (.ref f) = true := by
  unfold fnB at h
  split at h
  · rename_i f e
    obtain ⟨h1, h2⟩ := bool3 h
    obtain ⟨g1, g2⟩ := F.facts.fn i f e (of_decide_eq_true h1)
    have e2 := of_decide_eq_true h2
    rw [e2] at g1
    exact ⟨_, F.fns i f e, g1, g2⟩
  · cases h
theorem Fit.cls {C : Ctx} {X : Cx} (F : Fit P Γ k C X) {u : Ty} {c : Str} {p : Pos} (h1 : tyNm u = some c) (h2 : clB X.K u c = true) (hg : Gl X c) (hd : (c == ("__debug__" : Str)) = false) : ClsE X (.Name c p) u := by
  have fr : ∀ z : Str, (He.Fa.free z).ok X.K = true → X.mg z = none := fun z c => He.free_ok F.kin F.ns c
  cases u with
  | own k =>
    cases h1
    exact clsE_own hg (He.glo_ok F.kin F.ns h2) hd
  | non => cases h1
  | bl => cases h1; exact clsE_ty rfl hg (fr _ h2) rfl (by decide) hd
  | int => cases h1; exact clsE_ty rfl hg (fr _ h2) rfl (by decide) hd
  | str => cases h1; exact clsE_ty rfl hg (fr _ h2) rfl (by decide) hd
  | tup => cases h1; exact clsE_ty rfl hg (fr _ h2) rfl (by decide) hd
  | lst => cases h1; exact clsE_ty rfl hg (fr _ h2) rfl (by decide) hd
  | dct => cases h1; exact clsE_ty rfl hg (fr _ h2) rfl (by decide) hd
theorem chain_mk {X : Cx} {o o2 : CO} {a b c : Expr} {pos : Pos} {ta tb tc : TE} (hm : behindInMarks o2.op c = false) {r r' : R2} (ho : OpR X (compareOp o.op) r) (ho' : OpR X (compareOp o2.op) r') (ha : PE X a ta) (hb : PE X b tb) (hc : PE X c tc) :
    PE X (.Compare a [o.op, o2.op] [b, c] pos) (tChain r r' ta tb tc) := pe_chain ho ho' ha hb hc hm
theorem chainT_mk {X : Cx} {o o2 : CO} {a b c : Expr} {pos : Pos} {ta tb tc : TE} (hm : behindInMarks o2.op c = false) {r r' : R2} (ho : OpR X (compareOp o.op) r) (ho' : OpR X (compareOp o2.op) r') (ha : PE X a ta) (hb : PE X b tb) (hc : PE X c tc) :
    PT X (.Compare a [o.op, o2.op] [b, c] pos) (tTest (tChain r r' ta tb tc)) := pt_chain ho ho' ha hb hc hm
theorem st_chain {X : Cx} {o o2 : CO} {a b c : Expr} {pos : Pos} {wa wb wc : WE} (hu : X.A.units + 64 < cLine) (hm : behindInMarks o2.op c = false) (ha : SE X a wa) (hb : SE X b wb) (hc : SE X c wc) : ST X (.Compare a [o.op, o2.op] [b, c] pos) (wtOfE (wChain o.b o2.b wa wb wc)) := fun W tk => by
  obtain ⟨r, ho, rel⟩ := o.ok hu
  obtain ⟨r', ho', rel'⟩ := o2.ok hu
  refine PT.imp (chainT_mk hm ho ho' (ha W tk) (hb W tk) (hc W tk)) fun σ H Q ⟨env, g, P, Xp, rs, hr, q, hp, hx⟩ => ?_
  refine chain_ok (Q := fun z H' => ∃ k, z = .bl k ∧ Q k H') rel rel' ⟨env, g, _, Xp, rs, hr, q, fun z g' w H' ⟨k, e, p⟩ t h r => ?_, hx⟩
  subst e
  exact ⟨k, r, hp k g' H' p t h⟩
theorem se_chain2 {X : Cx} {o o2 : CO} {a b c : Expr} {pos : Pos} {wa wb wc : WE} (hu : X.A.units + 64 < cLine) (hm : behindInMarks o2.op c = false) (ha : SE X a wa) (hb : SE X b wb) (hc : SE X c wc) : SE X (.Compare a [o.op, o2.op] [b, c] pos) (wChain o.b o2.b wa wb wc) := fun W tk => by
  obtain ⟨r, ho, rel⟩ := o.ok hu
  obtain ⟨r', ho', rel'⟩ := o2.ok hu
  exact PE.imp (chain_mk hm ho ho' (ha W tk) (hb W tk) (hc W tk)) fun σ H Q h => chain_ok rel rel' h
theorem ckEs_len {K : PySem.W.Frag} {C : Ctx} : ∀ {es : Exs} {as : List Expr}, ckEs K P es C as = true → es.len = as.length
  | .nil, as, h => by
    unfold ckEs at h
    cases as with
    | nil => rfl
    | cons _ _ => cases h
  | .cons e r, as, h => by
    unfold ckEs at h
    cases as with
    | nil => cases h
    | cons a ar =>
      obtain ⟨k1, k2⟩ := bool3 h
      show r.len + 1 = ar.length + 1
      rw [ckEs_len k2]
mutual
theorem soundE : ∀ (e : Ex) (C : Ctx) (X : Cx) (a : Expr), Fit P Γ k C X → ckE X.K P e C a = true → SE X a (wE P Γ e)
  | .var i, C, X, a, F, h => by
    unfold ckE at h
    split at h
    · obtain ⟨h1, h⟩ := bool3 h
      obtain ⟨h2, h⟩ := bool3 h
      obtain ⟨h3, h4⟩ := bool3 h
      exact se_var (F.slot h1) (F.vis h2) (dbg_no h3) (cdc_no h4)
    · cases h
  | .int i, C, X, a, F, h => by
    unfold ckE at h
    split at h
    · cases of_decide_eq_true h
      exact se_int
    · cases h
  | .str i, C, X, a, F, h => by
    unfold ckE at h
    split at h
    · cases of_decide_eq_true h
      exact se_str
    · cases h
  | .bl i, C, X, a, F, h => by
    unfold ckE at h
    split at h
    · cases of_decide_eq_true h
      exact se_bl
    · cases h
  | .non, C, X, a, F, h => by
    unfold ckE at h
    split at h
    · exact se_non
    · cases h
  | .kon x v, C, X, a, F, h => by
    unfold ckE at h
    split at h
    · obtain ⟨h1, h⟩ := bool3 h
      obtain ⟨h2, h⟩ := bool3 h
      obtain ⟨h3, h4⟩ := bool3 h
      cases of_decide_eq_true h1
      obtain ⟨u, w, e, r, q⟩ := kon_ok F.kin F.ns h4
      exact se_const (pe_glob (F.gl h2) e r (dbg_no h3)) q
    · cases h
  | .bin o l r, C, X, a, F, h => by
    unfold ckE at h
    split at h
    · obtain ⟨h1, h⟩ := bool3 h
      obtain ⟨h2, h3⟩ := bool3 h
      cases of_decide_eq_true h1
      exact se_bin o.ok (soundE l C X _ F h2) (soundE r C X _ F h3)
    · cases h
  | .cmp o l r, C, X, a, F, h => by
    unfold ckE at h
    split at h
    · obtain ⟨h1, h⟩ := bool3 h
      obtain ⟨h2, h⟩ := bool3 h
      obtain ⟨h3, h4⟩ := bool3 h
      cases of_decide_eq_true h1
      exact se_cmp (bnot h2) (o.ok F.hu) (soundE l C X _ F h3) (soundE r C X _ F h4)
    · cases h
  | .cmp2 o o2 l m r, C, X, a, F, h => by
    unfold ckE at h
    split at h
    · obtain ⟨h1, h⟩ := bool3 h
      obtain ⟨h2, h⟩ := bool3 h
      obtain ⟨h3, h⟩ := bool3 h
      obtain ⟨h4, h⟩ := bool3 h
      obtain ⟨h5, h6⟩ := bool3 h
      cases of_decide_eq_true h1
      cases of_decide_eq_true h2
      exact se_chain2 F.hu (bnot h3) (soundE l C X _ F h4) (soundE m C X _ F h5) (soundE r C X _ F h6)
    · cases h
  | .neg x, C, X, a, F, h => by
    unfold ckE at h
    split at h
    · exact se_neg (soundE x C X _ F h)
    · cases h
  | .not x, C, X, a, F, h => by
    unfold ckE at h
    split at h
    · exact se_not (soundE x C X _ F h)
    · cases h
  | .and es, C, X, a, F, h => by
    unfold ckE at h
    split at h
    · obtain ⟨h1, h2⟩ := bool3 h
      exact se_and (soundSEs es C X _ F h1 h2)
    · cases h
  | .or es, C, X, a, F, h => by
    unfold ckE at h
    split at h
    · obtain ⟨h1, h2⟩ := bool3 h
      exact se_or (soundSEs es C X _ F h1 h2)
    · cases h
  | .ife c x y, C, X, a, F, h => by
    unfold ckE at h
    split at h
    · obtain ⟨h1, h⟩ := bool3 h
      obtain ⟨h2, h3⟩ := bool3 h
      exact se_if (soundT c C X _ F h1) (soundE x C X _ F h2) (soundE y C X _ F h3)
    · cases h
  | .tup es, C, X, a, F, h => by
    unfold ckE at h
    split at h
    · obtain ⟨h1, h2⟩ := bool3 h
      exact se_tup (soundA es C X _ F h1 h2)
    · cases h
  | .lst es, C, X, a, F, h => by
    unfold ckE at h
    split at h
    · obtain ⟨h1, h2⟩ := bool3 h
      exact se_lst (soundA es C X _ F h1 h2)
    · cases h
  | .dnew, C, X, a, F, h => by
    unfold ckE at h
    split at h
    · exact se_dnew
    · cases h
  | .ix x i, C, X, a, F, h => by
    unfold ckE at h
    split at h
    · obtain ⟨h1, h⟩ := bool3 h
      obtain ⟨h2, h3⟩ := bool3 h
      exact se_ix (by have := F.hu; omega) (plainIx_ok h1) (soundE x C X _ F h2) (soundE i C X _ F h3)
    · cases h
  | .sl l hb x lo hi, C, X, a, F, h => by
    unfold ckE at h
    split at h
    · rename_i x' lo' hi' p2 p
      obtain ⟨h1, h⟩ := bool3 h
      obtain ⟨h2, h3⟩ := bool3 h
      refine se_sl (soundE x C X _ F h1) ?_ ?_
      · cases l <;> cases lo' <;> first
          | exact sp_none
          | exact sp_some (soundE lo C X _ F h2)
          | cases h2
      · cases hb <;> cases hi' <;> first
          | exact sp_none
          | exact sp_some (soundE hi C X _ F h3)
          | cases h3
    · cases h
  | .fld f x, C, X, a, F, h => by
    unfold ckE at h
    split at h
    · obtain ⟨h1, h⟩ := bool3 h
      obtain ⟨h2, h3⟩ := bool3 h
      cases of_decide_eq_true h1
      exact se_fld F.facts.fok h2 (soundE x C X _ F h3)
    · cases h
  | .prop f x, C, X, a, F, h => by
    unfold ckE at h
    split at h
    · obtain ⟨h1, h⟩ := bool3 h
      obtain ⟨h2, h3⟩ := bool3 h
      cases of_decide_eq_true h1
      exact se_prop F.pr F.room F.gd h2 (soundE x C X _ F h3)
    · cases h
  | .call f es, C, X, a, F, h => by
    unfold ckE at h
    split at h
    · rename_i x p es' pos
      obtain ⟨h1, h⟩ := bool3 h
      obtain ⟨h2, h⟩ := bool3 h
      obtain ⟨h3, h⟩ := bool3 h
      obtain ⟨h4, h5⟩ := bool3 h
      obtain ⟨ad, q1, q2, q3⟩ := F.call h1
      have hA := soundA es C X _ F h4 h5
      cases es' with
      | nil =>
        cases es with
        | nil => exact se_call0 q1 (F.room.mono (Nat.le_succ _)) F.gd (F.gl h2) q2 q3 (dbg_no h3)
        | cons _ _ => cases h5
      | cons e0 er => exact se_call q1 (F.room.mono (Nat.le_succ _)) F.gd (F.gl h2) q2 q3 (dbg_no h3) h4 hA
    · cases h
  | .meth f x es, C, X, a, F, h => by
    unfold ckE at h
    split at h
    · rename_i x' m ap es' pos
      obtain ⟨h1, h⟩ := bool3 h
      obtain ⟨h2, h⟩ := bool3 h
      obtain ⟨h3, h⟩ := bool3 h
      obtain ⟨h4, h5⟩ := bool3 h
      cases of_decide_eq_true h1
      have hA := soundA es C X _ F (bool3 h2).1 h5
      cases es' with
      | nil =>
        cases es with
        | nil => exact se_meth0 F.me (F.room.mono (Nat.le_succ _)) F.gd (fd_mn f) h2 h3 (soundE x C X _ F h4)
        | cons _ _ => cases h5
      | cons e0 er => exact se_meth F.me (F.room.mono (Nat.le_succ _)) F.gd (fd_mn f) h2 h3 (soundE x C X _ F h4) hA
    · cases h
  | .make c es, C, X, a, F, h => by
    unfold ckE at h
    split at h
    · rename_i x p es' pos
      obtain ⟨h1, h⟩ := bool3 h
      obtain ⟨h2, h⟩ := bool3 h
      obtain ⟨h3, h⟩ := bool3 h
      obtain ⟨h4, h⟩ := bool3 h
      obtain ⟨h5, h6⟩ := bool3 h
      cases of_decide_eq_true h1
      obtain ⟨ad, q1, q2, q3⟩ := F.mk_ h4
      have hA := soundA es C X _ F h5 h6
      cases es' with
      | nil =>
        cases es with
        | nil => exact se_make0 q1 q2 F.room F.gd (F.gl h2) q3 (dbg_no h3)
        | cons _ _ => cases h6
      | cons e0 er => exact se_make q1 q2 F.room F.gd (F.gl h2) q3 (dbg_no h3) h5 hA
    · cases h
  | .sm c f es, C, X, a, F, h => by
    unfold ckE at h
    split at h
    · rename_i x p m ap es' pos
      obtain ⟨h1, h⟩ := bool3 h
      obtain ⟨h2, h⟩ := bool3 h
      obtain ⟨h3, h⟩ := bool3 h
      obtain ⟨h4, h⟩ := bool3 h
      obtain ⟨h5, h⟩ := bool3 h
      obtain ⟨h6, h⟩ := bool3 h
      obtain ⟨h7, h8⟩ := bool3 h
      cases of_decide_eq_true h1
      cases of_decide_eq_true h2
      obtain ⟨q1, q2⟩ := F.smp h5
      have hA := soundA es C X _ F (bool3 h6).1 h8
      obtain ⟨e0, er, ee⟩ := isEmpty_cons h7
      subst ee
      exact se_sm q1 (F.room.mono (Nat.le_succ _)) F.gd (F.gl h3) q2 (dbg_no h4) h6 hA
    · cases h
  | .blt b es, C, X, a, F, h => by
    unfold ckE at h
    split at h
    · obtain ⟨h1, h⟩ := bool3 h
      obtain ⟨h2, h⟩ := bool3 h
      obtain ⟨h3, h⟩ := bool3 h
      obtain ⟨h4, h5⟩ := bool3 h
      cases of_decide_eq_true h1
      have hA := soundA es C X _ F h4 h5
      obtain ⟨e0, er, ee⟩ := isEmpty_cons h3
      subst ee
      exact b.se F.calm F.gd F.hu h4 hA (F.gl h2) (F.facts.blt b)
    · cases h
  | .isi u x, C, X, a, F, h => by
    unfold ckE at h
    split at h
    · rename_i y p x' c p2 pos
      obtain ⟨h1, h⟩ := bool3 h
      obtain ⟨h2, h⟩ := bool3 h
      obtain ⟨h3, h⟩ := bool3 h
      obtain ⟨h4, h⟩ := bool3 h
      obtain ⟨h5, h⟩ := bool3 h
      obtain ⟨h6, h⟩ := bool3 h
      obtain ⟨h7, h8⟩ := bool3 h
      cases of_decide_eq_true h1
      refine se_isi F.facts.isi (F.gl h2) F.facts.isn ?_ (soundE x C X _ F h8) (F.cls (of_decide_eq_true h4) h7 (F.gl h5) (dbg_no h6))
      rw [List.all_cons, h3] <;> rfl
    · cases h
  | .bm b x es, C, X, a, F, h => by
    unfold ckE at h
    split at h
    · rename_i x' m ap es' pos
      obtain ⟨h1, h⟩ := bool3 h
      obtain ⟨h2, h⟩ := bool3 h
      obtain ⟨h3, h⟩ := bool3 h
      obtain ⟨h4, h5⟩ := bool3 h
      cases of_decide_eq_true h1
      refine Bm.se F.hu65 h3 h2 (soundE x C X _ F h4) (soundA es C X _ F (bool3 h2).1 h5) (fun e => ?_) b
      subst e
      cases es with
      | nil => rfl
      | cons _ _ => cases h5
    · cases h
  | .disp ks vs, C, X, a, F, h => by
    unfold ckE at h
    split at h
    · rename_i ks' vs' pos
      obtain ⟨h1, h⟩ := bool3 h
      obtain ⟨h2, h⟩ := bool3 h
      obtain ⟨h3, h⟩ := bool3 h
      obtain ⟨h4, h5⟩ := bool3 h
      exact se_disp (soundPs ks vs C X _ _ F h4 h5 (of_decide_eq_true h3)) (fun z => by rw [z] at h1; cases h1) (of_decide_eq_true h2)
    · cases h
  | .comp t own it ifs e, C, X, a, F, h => by
    unfold ckE at h
    split at h
    · rename_i e' tg it' ifs' scope pos
      obtain ⟨h1, h⟩ := bool3 h
      obtain ⟨h2, h⟩ := bool3 h
      obtain ⟨h3, h⟩ := bool3 h
      obtain ⟨h4, h⟩ := bool3 h
      obtain ⟨h5, h⟩ := bool3 h
      obtain ⟨h6, h7⟩ := bool3 h
      have e1 := ownP_map (C := C) (own := own)
      have ho : ∀ i ∈ t.slots, i ∈ (ownP C own).map (·.2) := fun i hi => by
        rw [e1]
        exact of_decide_eq_true (List.all_eq_true.mp h4 i hi)
      have q := se_comp (own := ownP C own) (pos := pos) F.calm F.ndN h1 (soundW it C X tg _ F h2) (by rw [F.N, F.sc]; exact blkOk_by h3) ho (fun s H Ca cl fp => F.blk.pgCT h5) (fun s H Ca cl fp => soundIfs ifs _ _ _ F.blk h6) (fun s H Ca cl fp => soundE e _ _ _ F.blk h7)
      rw [e1] at q
      exact q
    · cases h
  | .dcomp t own it ifs kk v, C, X, a, F, h => by
    unfold ckE at h
    split at h
    · rename_i e' v' tg it' ifs' scope pos
      obtain ⟨h1, h⟩ := bool3 h
      obtain ⟨h2, h⟩ := bool3 h
      obtain ⟨h3, h⟩ := bool3 h
      obtain ⟨h4, h⟩ := bool3 h
      obtain ⟨h5, h⟩ := bool3 h
      obtain ⟨h6, h⟩ := bool3 h
      obtain ⟨h7, h8⟩ := bool3 h
      have e1 := ownP_map (C := C) (own := own)
      have ho : ∀ i ∈ t.slots, i ∈ (ownP C own).map (·.2) := fun i hi => by
        rw [e1]
        exact of_decide_eq_true (List.all_eq_true.mp h4 i hi)
      have q := se_dcomp (own := ownP C own) (pos := pos) F.calm F.ndN h1 (soundW it C X tg _ F h2) (by rw [F.N, F.sc]; exact blkOk_by h3) ho (fun s H Ca cl fp => F.blk.pgCT h5) (fun s H Ca cl fp => soundIfs ifs _ _ _ F.blk h6) (fun s H Ca cl fp => soundE kk _ _ _ F.blk h7) (fun s H Ca cl fp => soundE v _ _ _ F.blk h8)
      rw [e1] at q
      exact q
    · cases h
termination_by e => (sizeOf e, 0)
theorem soundT : ∀ (e : Ex) (C : Ctx) (X : Cx) (a : Expr), Fit P Γ k C X → ckE X.K P e C a = true → ST X a (wT P Γ e)
  | .cmp o l r, C, X, a, F, h => by
    unfold ckE at h
    split at h
    · obtain ⟨h1, h⟩ := bool3 h
      obtain ⟨h2, h⟩ := bool3 h
      obtain ⟨h3, h4⟩ := bool3 h
      cases of_decide_eq_true h1
      exact st_cmp (bnot h2) (o.ok F.hu) (soundE l C X _ F h3) (soundE r C X _ F h4)
    · cases h
  | .cmp2 o o2 l m r, C, X, a, F, h => by
    unfold ckE at h
    split at h
    · obtain ⟨h1, h⟩ := bool3 h
      obtain ⟨h2, h⟩ := bool3 h
      obtain ⟨h3, h⟩ := bool3 h
      obtain ⟨h4, h⟩ := bool3 h
      obtain ⟨h5, h6⟩ := bool3 h
      cases of_decide_eq_true h1
      cases of_decide_eq_true h2
      exact st_chain F.hu (bnot h3) (soundE l C X _ F h4) (soundE m C X _ F h5) (soundE r C X _ F h6)
    · cases h
  | .not x, C, X, a, F, h => by
    unfold ckE at h
    split at h
    · exact st_not (soundT x C X _ F h)
    · cases h
  | .and es, C, X, a, F, h => by
    unfold ckE at h
    split at h
    · obtain ⟨h1, h2⟩ := bool3 h
      exact st_and (soundSTs es C X _ F h1 h2)
    · cases h
  | .or es, C, X, a, F, h => by
    unfold ckE at h
    split at h
    · obtain ⟨h1, h2⟩ := bool3 h
      exact st_or (soundSTs es C X _ F h1 h2)
    · cases h
  | .var i, C, X, a, F, h => by
    have hs := soundE (.var i) C X a F h
    have hp : plainTest a = true := by
      unfold ckE at h
      split at h
      · rfl
      · cases h
    exact st_val hp hs
  | .bl i, C, X, a, F, h => by
    have hs := soundE (.bl i) C X a F h
    have hp : plainTest a = true := by
      unfold ckE at h
      split at h
      · rfl
      · cases h
    exact st_val hp hs
  | .ix x i, C, X, a, F, h => by
    have hs := soundE (.ix x i) C X a F h
    have hp : plainTest a = true := by
      unfold ckE at h
      split at h
      · rfl
      · cases h
    exact st_val hp hs
  | .fld f x, C, X, a, F, h => by
    have hs := soundE (.fld f x) C X a F h
    have hp : plainTest a = true := by
      unfold ckE at h
      split at h
      · rfl
      · cases h
    exact st_val hp hs
  | .prop f x, C, X, a, F, h => by
    have hs := soundE (.prop f x) C X a F h
    have hp : plainTest a = true := by
      unfold ckE at h
      split at h
      · rfl
      · cases h
    exact st_val hp hs
  | .call f es, C, X, a, F, h => by
    have hs := soundE (.call f es) C X a F h
    have hp : plainTest a = true := by
      unfold ckE at h
      split at h
      · rfl
      · cases h
    exact st_val hp hs
  | .meth f x es, C, X, a, F, h => by
    have hs := soundE (.meth f x es) C X a F h
    have hp : plainTest a = true := by
      unfold ckE at h
      split at h
      · rfl
      · cases h
    exact st_val hp hs
  | .sm c f es, C, X, a, F, h => by
    have hs := soundE (.sm c f es) C X a F h
    have hp : plainTest a = true := by
      unfold ckE at h
      split at h
      · rfl
      · cases h
    exact st_val hp hs
  | .blt b es, C, X, a, F, h => by
    have hs := soundE (.blt b es) C X a F h
    have hp : plainTest a = true := by
      unfold ckE at h
      split at h
      · rfl
      · cases h
    exact st_val hp hs
  | .isi u x, C, X, a, F, h => by
    have hs := soundE (.isi u x) C X a F h
    have hp : plainTest a = true := by
      unfold ckE at h
      split at h
      · rfl
      · cases h
    exact st_val hp hs
  | .int i, _, _, _, _, _ => st_no
  | .str i, _, _, _, _, _ => st_no
  | .non, _, _, _, _, _ => st_no
  | .kon x v, _, _, _, _, _ => st_no
  | .bin o l r, _, _, _, _, _ => st_no
  | .neg x, _, _, _, _, _ => st_no
  | .ife c x y, _, _, _, _, _ => st_no
  | .tup es, _, _, _, _, _ => st_no
  | .lst es, _, _, _, _, _ => st_no
  | .dnew, _, _, _, _, _ => st_no
  | .sl l hb x lo hi, _, _, _, _, _ => st_no
  | .make c es, _, _, _, _, _ => st_no
  | .bm b x es, _, _, _, _, _ => st_no
  | .disp ks vs, _, _, _, _, _ => st_no
  | .comp t own it ifs e, _, _, _, _, _ => st_no
  | .dcomp t own it ifs kk v, _, _, _, _, _ => st_no
termination_by e => (sizeOf e, 1)
theorem soundPs : ∀ (ks vs : Exs) (C : Ctx) (X : Cx) (as : List (Option Expr)) (bs : List Expr), Fit P Γ k C X → ckKs X.K P ks C as = true → ckEs X.K P vs C bs = true → as.length = bs.length → SPs X as bs ((wEs P Γ ks).zip (wEs P Γ vs))
  | .nil, vs, C, X, as, bs, F, h1, h2, hl => by
    unfold ckKs at h1
    cases as with
    | nil =>
      cases bs with
      | nil => exact .nil
      | cons _ _ => cases hl
    | cons _ _ => cases h1
  | .cons e r, vs, C, X, as, bs, F, h1, h2, hl => by
    unfold ckKs at h1
    split at h1
    · rename_i a ar
      obtain ⟨k1, k2⟩ := bool3 h1
      cases bs with
      | nil => cases hl
      | cons b br =>
        cases vs with
        | nil => unfold ckEs at h2; cases h2
        | cons v vr =>
          unfold ckEs at h2
          obtain ⟨k3, k4⟩ := bool3 h2
          exact .cons (soundE e C X a F k1) (soundE v C X b F k3) (soundPs r vr C X ar br F k2 k4 (Nat.succ.inj hl))
    · cases h1
termination_by ks vs => (sizeOf ks + sizeOf vs, 0)
theorem soundSEs : ∀ (es : Exs) (C : Ctx) (X : Cx) (as : List Expr), Fit P Γ k C X → (!as.isEmpty) = true → ckEs X.K P es C as = true → SEs X as (wEs P Γ es)
  | .nil, C, X, as, F, h1, h => by
    unfold ckEs at h
    rw [h] at h1
    cases h1
  | .cons e r, C, X, as, F, h1, h => by
    unfold ckEs at h
    cases as with
    | nil => cases h
    | cons a ar =>
      obtain ⟨k1, k2⟩ := bool3 h
      have he := soundE e C X a F k1
      cases ar with
      | nil =>
        cases r with
        | nil => exact .one he
        | cons _ _ => unfold ckEs at k2; cases k2
      | cons b br =>
        have hr := soundSEs r C X (b :: br) F rfl k2
        cases r with
        | nil => unfold ckEs at k2; cases k2
        | cons e2 r2 => exact .cons he hr
termination_by es => (sizeOf es, 0)
theorem soundSTs : ∀ (es : Exs) (C : Ctx) (X : Cx) (as : List Expr), Fit P Γ k C X → (!as.isEmpty) = true → ckEs X.K P es C as = true → STs X as (wTs P Γ es)
  | .nil, C, X, as, F, h1, h => by
    unfold ckEs at h
    rw [h] at h1
    cases h1
  | .cons e r, C, X, as, F, h1, h => by
    unfold ckEs at h
    cases as with
    | nil => cases h
    | cons a ar =>
      obtain ⟨k1, k2⟩ := bool3 h
      have he := soundT e C X a F k1
      cases ar with
      | nil =>
        cases r with
        | nil => exact .one he
        | cons _ _ => unfold ckEs at k2; cases k2
      | cons b br =>
        have hr := soundSTs r C X (b :: br) F rfl k2
        cases r with
        | nil => unfold ckEs at k2; cases k2
        | cons e2 r2 => exact .cons he hr
termination_by es => (sizeOf es, 0)
theorem soundA : ∀ (es : Exs) (C : Ctx) (X : Cx) (as : List Expr), Fit P Γ k C X → as.all notStar = true → ckEs X.K P es C as = true → SA X as (wA P Γ es)
  | .nil, C, X, as, F, h1, h => by
    unfold ckEs at h
    cases as with
    | nil => exact sa_nil
    | cons _ _ => cases h
  | .cons e r, C, X, as, F, h1, h => by
    unfold ckEs at h
    cases as with
    | nil => cases h
    | cons a ar =>
      obtain ⟨k1, k2⟩ := bool3 h
      rw [List.all_cons] at h1
      obtain ⟨n1, n2⟩ := bool3 h1
      exact sa_cons n1 (soundE e C X a F k1) (soundA r C X ar F n2 k2)
termination_by es => (sizeOf es, 0)
theorem soundIfs : ∀ (es : Exs) (C : Ctx) (X : Cx) (as : List Expr), Fit P Γ k C X → ckIfs X.K P es C as = true → STS X as (wIfs P Γ es)
  | .nil, C, X, as, F, h => by
    unfold ckIfs at h
    cases as with
    | nil => exact sts_nil
    | cons _ _ => cases h
  | .cons e r, C, X, as, F, h => by
    unfold ckIfs at h
    split at h
    · exact sts_one (soundT e C X _ F h)
    · cases h
termination_by es => (sizeOf es, 0)
theorem soundW : ∀ (w : Wk) (C : Ctx) (X : Cx) (tg a : Expr), Fit P Γ k C X → ckW X.K P w C tg a = true → SI X tg a (wW P Γ w)
  | .seq e, C, X, tg, a, F, h => by
    unfold ckW at h
    exact si_seq (soundE e C X a F h)
  | .str e, C, X, tg, a, F, h => by
    unfold ckW at h
    exact si_str (soundE e C X a F h)
  | .keys e, C, X, tg, a, F, h => by
    unfold ckW at h
    exact si_keys (soundE e C X a F h)
  | .rng es, C, X, tg, a, F, h => by
    unfold ckW at h
    split at h
    · rename_i x p es' pos
      obtain ⟨h1, h⟩ := bool3 h
      obtain ⟨h2, h⟩ := bool3 h
      obtain ⟨h3, h⟩ := bool3 h
      obtain ⟨h4, h5⟩ := bool3 h
      have hA := soundA es C X _ F h3 h5
      cases of_decide_eq_true h1
      have hl : es.len = es'.length := ckEs_len h5
      unfold wW
      rw [hl]
      match es', of_decide_eq_true h4, h3, hA with
      | [a], _, h3, hA =>
        rw [List.all_cons] at h3
        exact si_range1 (F.gl h2) F.facts.rng (bool3 h3).1 hA
      | [a, b], _, h3, hA =>
        rw [List.all_cons, List.all_cons] at h3
        obtain ⟨n1, n2⟩ := bool3 h3
        exact si_range2 (F.gl h2) F.facts.rng n1 (bool3 n2).1 hA
      | [a, b, c], _, h3, hA => exact si_range3 (F.gl h2) F.facts.rng h3 hA
      | [], z, _, _ => exact absurd z (by simp)
      | _ :: _ :: _ :: _ :: _, z, _, _ => exact absurd z (by simp)
    · cases h
  | .vals e, C, X, tg, a, F, h => by
    unfold ckW at h
    split at h
    · obtain ⟨h1, h⟩ := bool3 h
      obtain ⟨h2, h⟩ := bool3 h
      obtain ⟨h3, h4⟩ := bool3 h
      cases of_decide_eq_true h1
      exact si_values h2 h3 (soundE e C X _ F h4)
    · cases h
  | .items e, C, X, tg, a, F, h => by
    unfold ckW at h
    split at h
    · obtain ⟨h1, h⟩ := bool3 h
      obtain ⟨h2, h⟩ := bool3 h
      obtain ⟨h3, h⟩ := bool3 h
      obtain ⟨h4, h5⟩ := bool3 h
      cases of_decide_eq_true h1
      split at h4
      · exact si_items h2 h3 (soundE e C X _ F h5)
      · cases h4
    · cases h
termination_by w => (sizeOf w, 0)
end
end
end MP
set_option Elab.async false
set_option linter.all false
set_option maxRecDepth 100000
/-! MP, part 21: statements; a def's contract is its body's reading. -/
namespace MP
open PySem PySem.Spec PyProof.Rows L2
section
variable {P : Prog} {Γ : Nat → Ct} {k : Nat}
theorem soundG {C : Ctx} {X : Cx} {t : Tg} {a : Expr} (F : Fit P Γ k C X) (h : ckG X.K P C t a = true) : SG X a (wG P Γ t) := by
  cases t with
  | name i => exact F.sgName h
  | tup is =>
    unfold ckG at h
    simp only at h
    split at h
    · obtain ⟨h1, h2⟩ := tgNames_ns h
      show SG X _ (wgTup is.length (wGs is))
      rw [← h2]
      exact sg_tup F.calm h1 (F.sgNames h)
    · cases h
  | tup2 i is =>
    unfold ckG at h
    simp only at h
    split at h
    · rename_i a0 es kt pt kt2 pt2
      obtain ⟨k1, k2⟩ := bool3 h
      obtain ⟨h1, h2⟩ := tgNames_ns k2
      show SG X _ (wgTup 2 (wgCons (wgName i) (wgCons (wgTup is.length (wGs is)) wgNil)))
      rw [← h2]
      have q := sg_tup (X := X) (k := kt2) (pos := pt2) (es := [a0, .Tuple es kt pt]) F.calm (by rw [List.all_cons, tgName_ns k1] <;> rfl) (sgs_cons (tgName_ns k1) (F.sgName k1) (sgs_cons rfl (sg_tup F.calm h1 (F.sgNames k2)) sgs_nil))
      exact q
    · cases h
  | sub o i =>
    unfold ckG at h
    simp only at h
    split at h
    · obtain ⟨h1, h⟩ := bool3 h
      obtain ⟨h2, h3⟩ := bool3 h
      exact sg_sub h1 (by have := F.hu; omega) (soundE o C X _ F h2) (soundE i C X _ F h3)
    · cases h
theorem noSw_ok {C : Ctx} {X : Cx} {tg e : Expr} (F : Fit P Γ k C X) (h : noSw C tg e = true) : swappedStores [tg] e X.env = pure none := by
  unfold noSw at h
  cases e1 : notSwap tg e with
  | true => exact swapped_no e1
  | false =>
    rw [e1, Bool.false_or] at h
    split at h
    · split at h
      · rename_i q
        rw [← F.sc] at q
        exact sw_tt q
      · cases h
    · cases h
theorem noSwc_ok {C : Ctx} {X : Cx} {tg e : Expr} {l : Nat} (F : Fit P Γ k C X) (h : noSwc C tg e = true) : swapsWith e (some tg) l X.env = pure false := by
  unfold noSwc at h
  split at h
  · rw [swc_ok, F.sc, bnot h]
  · rename_i hn
    refine swc_other ?_
    split
    · rename_i x p
      exact (hn x p rfl).elim
    · rfl
mutual
theorem soundS : ∀ (s : St) (C : Ctx) (X : Cx) (a : Stmt), Fit P Γ k C X → ckS X.K P s C a = true → SS X a (wS P Γ s)
  | .expr e, C, X, a, F, h => by
    unfold ckS at h
    split at h
    · obtain ⟨h1, h2⟩ := bool3 h
      exact ss_expr h1 (soundE e C X _ F h2)
    · cases h
  | .ret e, C, X, a, F, h => by
    unfold ckS at h
    split at h
    · exact ss_ret (soundE e C X _ F h)
    · cases h
  | .retN, C, X, a, F, h => by
    unfold ckS at h
    split at h
    · exact ss_retN
    · cases h
  | .ite c x y, C, X, a, F, h => by
    unfold ckS at h
    split at h
    · obtain ⟨h1, h⟩ := bool3 h
      obtain ⟨h2, h3⟩ := bool3 h
      exact ss_if (soundT c C X _ F h1) (soundSs x C X _ F h2) (soundSs y C X _ F h3)
    · cases h
  | .asg t e, C, X, a, F, h => by
    unfold ckS at h
    split at h
    · obtain ⟨h1, h⟩ := bool3 h
      obtain ⟨h2, h⟩ := bool3 h
      obtain ⟨h3, h⟩ := bool3 h
      obtain ⟨h4, h5⟩ := bool3 h
      exact ss_asgG (noSwc_ok F h3) h1 (noSw_ok F h2) (soundE e C X _ F h5) (soundG F h4)
    · cases h
  | .setc i e, C, X, a, F, h => by
    unfold ckS at h
    split at h
    · rename_i y py a0 p
      split at h
      · rename_i t own it ifs e0 e' tg it' ifs' scope lp
        obtain ⟨h1, h⟩ := bool3 h
        obtain ⟨h2, h⟩ := bool3 h
        obtain ⟨h3, h⟩ := bool3 h
        rw [ckE] at h
        obtain ⟨k1, h⟩ := bool3 h
        obtain ⟨k2, h⟩ := bool3 h
        obtain ⟨k3, h⟩ := bool3 h
        obtain ⟨k4, h⟩ := bool3 h
        obtain ⟨k5, h⟩ := bool3 h
        obtain ⟨k6, k7⟩ := bool3 h
        have e1 := ownP_map (C := C) (own := own)
        have ho : ∀ i ∈ t.slots, i ∈ (ownP C own).map (·.2) := fun i hi => by
          rw [e1]
          exact of_decide_eq_true (List.all_eq_true.mp k4 i hi)
        have hsw : swapsWith (.ListComp e' [⟨tg, it', ifs', 0⟩] scope lp) (some (.Name y py)) p.line X.env = pure true := by
          rw [swc_ok, F.sc, h3]
        have q := ss_setLc (own := ownP C own) (pos := lp) (spos := p) (py := py) F.calm F.ndN (F.slot h1) (by rw [F.sc]; exact of_decide_eq_true h2) hsw k1 (soundW it C X tg _ F k2) (by rw [F.N, F.sc]; exact blkOk_by k3) ho (fun s H Ca cl fp => F.blk.pgCT k5) (fun s H Ca cl fp => soundIfs ifs _ _ _ F.blk k6) (fun s H Ca cl fp => soundE e0 _ _ _ F.blk k7)
        rw [e1] at q
        unfold wS wE
        exact q
      · cases h
    · cases h
  | .par is es, C, X, a, F, h => by
    unfold ckS at h
    split at h
    · obtain ⟨h1, h2⟩ := bool3 h
      unfold parB at h1
      split at h1
      · rename_i ts kt pt vs k2 pt2
        obtain ⟨n1, n2⟩ := bool3 h2
        have hA := soundA es C X vs F n1 n2
        split at h1
        · rename_i xs hsw
          rw [← F.sc] at hsw
          split at h1
          · rename_i i j x px y py a b
            obtain ⟨z1, h1⟩ := bool3 h1
            obtain ⟨z2, h1⟩ := bool3 h1
            obtain ⟨z3, h1⟩ := bool3 h1
            obtain ⟨z4, h1⟩ := bool3 h1
            obtain ⟨z5, z6⟩ := bool3 h1
            cases of_decide_eq_true z1
            exact ss_par2 F.calm F.ndN (F.slot z2) (F.slot z3) (of_decide_eq_true z4) (by rw [F.sc]; exact of_decide_eq_true z5) (by rw [F.sc]; exact of_decide_eq_true z6) (sw_tt hsw) hA
          · rename_i i j l x px y py z pz a b c
            obtain ⟨z1, h1⟩ := bool3 h1
            obtain ⟨z2, h1⟩ := bool3 h1
            obtain ⟨z3, h1⟩ := bool3 h1
            obtain ⟨z4, h1⟩ := bool3 h1
            obtain ⟨z5, h1⟩ := bool3 h1
            obtain ⟨z6, h1⟩ := bool3 h1
            obtain ⟨z7, h1⟩ := bool3 h1
            obtain ⟨z8, h1⟩ := bool3 h1
            obtain ⟨z9, z10⟩ := bool3 h1
            cases of_decide_eq_true z1
            exact ss_par3 F.calm F.ndN (F.slot z2) (F.slot z3) (F.slot z4) (of_decide_eq_true z5) (of_decide_eq_true z6) (of_decide_eq_true z7) (by rw [F.sc]; exact of_decide_eq_true z8) (by rw [F.sc]; exact of_decide_eq_true z9) (by rw [F.sc]; exact of_decide_eq_true z10) (sw_tt hsw) hA
          · cases h1
        · cases h1
      · cases h1
    · cases h
  | .fld f o e, C, X, a, F, h => by
    unfold ckS at h
    split at h
    · obtain ⟨h1, h⟩ := bool3 h
      obtain ⟨h2, h3⟩ := bool3 h
      cases of_decide_eq_true h1
      exact ss_fld F.facts.fok (swc_other rfl) (soundE o C X _ F h2) (soundE e C X _ F h3)
    · cases h
  | .for_ t w b, C, X, a, F, h => by
    unfold ckS at h
    split at h
    · obtain ⟨h1, h⟩ := bool3 h
      obtain ⟨h2, h⟩ := bool3 h
      obtain ⟨h3, h4⟩ := bool3 h
      exact ss_for F.calm h1 (soundW w C X _ _ F h2) (soundG F h3) (soundSs b C X _ F h4)
    · cases h
  | .while_ c b, C, X, a, F, h => by
    unfold ckS at h
    split at h
    · obtain ⟨h1, h2⟩ := bool3 h
      exact ss_while (soundT c C X _ F h1) (soundSs b C X _ F h2)
    · cases h
  | .raise c e, C, X, a, F, h => by
    unfold ckS at h
    split at h
    · obtain ⟨h1, h⟩ := bool3 h
      obtain ⟨h2, h⟩ := bool3 h
      obtain ⟨h3, h⟩ := bool3 h
      obtain ⟨h4, h⟩ := bool3 h
      obtain ⟨h5, h⟩ := bool3 h
      obtain ⟨h6, h7⟩ := bool3 h
      cases of_decide_eq_true h1
      obtain ⟨q1, q2, q3, q4⟩ := He.exc_ok h5
      exact ss_raise ⟨q1, q2, q3, q4⟩ F.calm (F.gl h2) (He.glo_ok F.kin F.ns h6) (dbg_no h3) h4 (soundE e C X _ F h7)
    · cases h
theorem soundSs : ∀ (s : Sts) (C : Ctx) (X : Cx) (a : List Stmt), Fit P Γ k C X → ckSs X.K P s C a = true → SSs X a (wSs P Γ s)
  | .nil, C, X, as, F, h => by
    unfold ckSs at h
    cases as with
    | nil => exact ss_nil
    | cons _ _ => cases h
  | .cons s r, C, X, as, F, h => by
    unfold ckSs at h
    cases as with
    | nil => cases h
    | cons a ar =>
      obtain ⟨k1, k2⟩ := bool3 h
      exact ss_cons (soundS s C X a F k1) (soundSs r C X ar F k2)
end
end
/-! ### a def's record passes -/
def kindF (s : Scope) : Bool := match s.kind with
  | .function => true
  | _ => false
def scopeB (N ps : List Str) (sc : Scope) : Bool := kindF sc && (!sc.isCoroutine && (!sc.isGenerator && (decide N.Nodup && (decide (N.take ps.length = ps) && ((ps.all fun x => match sc.names.lookup x with
  | some .local => true
  | some .cell => true
  | _ => false) && (sc.names.all fun y => match y.2 with
  | .free => false
  | _ => true))))))
theorem scopeB_ok {N ps : List Str} {sc : Scope} (h : scopeB N ps sc = true) : FnScope N ps sc := by
  obtain ⟨h1, h⟩ := bool3 h
  obtain ⟨h2, h⟩ := bool3 h
  obtain ⟨h3, h⟩ := bool3 h
  obtain ⟨h4, h⟩ := bool3 h
  obtain ⟨h5, h⟩ := bool3 h
  obtain ⟨h6, h7⟩ := bool3 h
  refine ⟨?_, bnot h2, bnot h3, of_decide_eq_true h4, of_decide_eq_true h5, fun x hx => ?_, fun y hy e => ?_⟩
  · unfold kindF at h1
    split at h1
    · assumption
    · cases h1
  · have q := List.all_eq_true.mp h6 x hx
    split at q
    · exact .inl (by assumption)
    · exact .inr (by assumption)
    · cases q
  · have q := List.all_eq_true.mp h7 y hy
    rw [e] at q
    cases q
def ckFn (K : PySem.W.Frag) (P : Prog) (F : Fn) : Bool := match K.lookup (adF K F) with
  | some ⟨_, _, .func fd, _⟩ => decide (fd.globals = mainGlobals) && (fd.closure.isEmpty && ((match fd.defaults with
      | .none => true
      | _ => false) && (decide (fd.builtins = builtinsNs) && (PySem.W.codeIn K fd.code fd.qualname && (scopeB F.N (F.N.take F.np) fd.scope && ((if F.star then (match F.N.take F.np with
      | [pa, pv] => starA fd.params pa pv
      | _ => false) else plainA fd.params (F.N.take F.np) && decide ((F.N.take F.np).length = F.np)) && (match fd.body with
      | .stmts b => ckSs K P F.body ⟨F.N, fd.scope, fun _ => true⟩ b
      | _ => false)))))))
  | _ => false
theorem fn_sound {p : Program} {w : World} {K : PySem.W.Frag} {mg : Str → Option Value} {base : Heap} {P : Prog} {Γ : Nat → Ct} {k : Nat} {F : Fn} (facts : Facts K mg P) (fns : ∀ i F, P.fn i = some F → FnP p w K mg base k (adF K F) (Γ i)) (kin : K.In base) (ns : base.Ns mainGlobals mg)
    (h : ckFn K P F = true) : FnP p w K mg base (k + 2) (adF K F) (ctF P Γ F) := by
  unfold ckFn at h
  split at h
  · rename_i oc od fd osl lk
    obtain ⟨name, qual, params, fb, scope, gl, clo, dV, kV, doc, pm, an, cdv, ct, bl⟩ := fd
    obtain ⟨h1, h⟩ := bool3 h
    obtain ⟨h2, h⟩ := bool3 h
    obtain ⟨h3, h⟩ := bool3 h
    obtain ⟨h4, h⟩ := bool3 h
    obtain ⟨h5, h⟩ := bool3 h
    obtain ⟨h6, h⟩ := bool3 h
    obtain ⟨h7, h8⟩ := bool3 h
    have e1 : gl = mainGlobals := of_decide_eq_true h1
    have e2 : clo = [] := List.isEmpty_iff.mp h2
    have e3 : dV = .none := by
      cases dV with
      | none => rfl
      | _ => cases h3
    have e4 : bl = builtinsNs := of_decide_eq_true h4
    subst e1 e2 e3 e4
    cases fb with
    | stmts b =>
      have S := scopeB_ok h6
      have body : ∀ (A : Around) (outer : List PySem.Env) (s : Shared) (H : Hp) (E : XK), Room (k + 1) (A.deeper (envOfC qual scope s.heap.objs.size (adF K F) cdv)) → (A.deeper (envOfC qual scope s.heap.objs.size (adF K F) cdv)).guards = some [] →
          SSs (cxA p w K mg base F.N qual scope (adF K F) cdv A outer s H E) b (wSs P Γ F.body) := fun A outer s H E hr hg =>
        soundSs F.body ⟨F.N, scope, fun _ => true⟩ _ b ⟨facts, fns, rfl, rfl, rfl, rfl, S.nd, hg, hr, kin, ns⟩ h8
      unfold ctF
      cases hs : F.star with
      | true =>
        rw [hs, if_pos rfl] at h7
        rw [if_pos rfl]
        split at h7
        · rename_i pa pv e5
          rw [e5] at S
          exact fnP_star lk h5 S h7 body
        · cases h7
      | false =>
        rw [hs, if_neg Bool.false_ne_true] at h7
        rw [if_neg Bool.false_ne_true]
        obtain ⟨n1, n2⟩ := bool3 h7
        have q := fnP_plain lk h5 S n1 body
        rw [of_decide_eq_true n2] at q
        exact q
    | _ => cases h8
  · cases h
theorem lookup_mem {i : Nat} {F : Fn} : ∀ {l : List (Nat × Fn)}, l.lookup i = some F → (i, F) ∈ l
  | [], h => by cases h
  | (j, G) :: r, h => by
    rw [List.lookup_cons] at h
    cases e : (i == j) with
    | true =>
      rw [e] at h
      cases h
      rw [beq_iff_eq.mp e]
      exact List.mem_cons_self
    | false =>
      rw [e] at h
      exact List.mem_cons_of_mem _ (lookup_mem h)
/-- all defs, called within n levels -/
theorem all_sound {p : Program} {w : World} {K : PySem.W.Frag} {mg : Str → Option Value} {base : Heap} {P : Prog} (facts : Facts K mg P) (kin : K.In base) (ns : base.Ns mainGlobals mg) (h : (P.fns.all fun z => ckFn K P z.2) = true) :
    ∀ n i F, P.fn i = some F → FnP p w K mg base (2 * n) (adF K F) (ctN P n i)
  | 0, i, F, e => ⟨fun A outer s H us vs Q E _ _ _ _ ⟨_, _, _, _, _, _, q, _⟩ => q.elim⟩
  | n + 1, i, F, e => by
    have hm : (i, F) ∈ P.fns := lookup_mem e
    have q := fn_sound (p := p) (w := w) facts (all_sound facts kin ns h n) kin ns (List.all_eq_true.mp h (i, F) hm)
    unfold ctN
    rw [e]
    exact q
end MP
set_option Elab.async false
set_option linter.all false
set_option maxRecDepth 100000
namespace MP
open PySem PySem.Spec PyProof.Rows L2
/-- the addresses looked at: what the names reach, and the statics -/
def asM (g : Addr → Option Obj) (n : Nat) : List Addr := PySem.cStatics :: He.asG g n
/-- the written part, as far as the module's names reach in n steps, passes a check of one's own -/
def hookM (n : Nat) (chk : PySem.W.Frag → Bool) : PySem.W.Hook where
  α := Bool
  obs := fun s => chk (He.frG s.heap.get? (asM s.heap.get? n))
  val := fun _ => true
  says := fun _ h => ∃ K : PySem.W.Frag, K.In h ∧ chk K = true
  of := fun _ _ e => ⟨_, He.frG_in, e⟩
  keeps := fun _ _ _ ⟨K, hK, c⟩ k => ⟨K, PySem.W.Frag.In.keeps hK k, c⟩
noncomputable def obM (n : Nat) (chk : PySem.W.Frag → Bool) (s : PySem.W.SharedT) : Bool := chk (He.frG (HandSHeadRun.getT s) (asM (HandSHeadRun.getT s) n))
theorem obM_eq {n : Nat} {chk : PySem.W.Frag → Bool} (s : PySem.W.SharedT) : obM n chk s = (hookM n chk).obs s.abs := by
  have e : HandSHeadRun.getT s = s.abs.heap.get? := funext (HandSHeadRun.getT_eq s)
  unfold obM
  rw [e] <;> rfl
end MP
set_option Elab.async false
set_option linter.all false
set_option maxRecDepth 100000
/-! MP, part 22: the check over the written part, a law's end. -/
namespace MP
open PySem PySem.Spec PyProof.Rows L2
def Cn.all : List Cn := [.Store, .Layout, .Plan, .State, .History, .Board, .Shell, .BlockError, .ParseError, .NoRoom, .Barrier, .Conflict, .Overlap, .InvalidStore, .InvalidPlace, .InvalidSize, .InvalidLayout, .InvalidCell, .UnknownBlock, .InvalidMove, .InvalidMoves, .Mismatch, .PlanFinished, .NothingToUndo,
  .InvalidName, .DuplicateName, .UnknownName, .UnknownMark, .InvalidCommand, .InvalidLine, .InvalidValue, .InvalidNumber]
theorem Cn.mem_all' (m : Cn) : Cn.all.contains m = true := by cases m <;> rfl
theorem Cn.mem_all (m : Cn) : m ∈ Cn.all := List.contains_iff_mem.mp (Cn.mem_all' m)
def Ty.all : List Ty := [.non, .bl, .int, .str, .tup, .lst, .dct] ++ Cn.all.map .own
theorem Ty.mem_all (t : Ty) : t ∈ Ty.all := by
  unfold Ty.all
  cases t with
  | own c => exact List.mem_append_right _ (List.mem_map.mpr ⟨c, c.mem_all, rfl⟩)
  | _ => exact List.mem_append_left _ (by simp)
def Blt.all' : List Blt := [.len, .list, .dict, .sum, .max, .min, .all, .any, .int, .str, .sorted, .repr]
theorem Blt.mem_all' (t : Blt) : t ∈ Blt.all' := by cases t <;> simp [Blt.all']
section
variable (K : PySem.W.Frag) (P : Prog)
def cFn : Bool := P.fns.all fun z => match z.2.kd with
  | .fn => (He.Fa.glo z.2.nm).ok K && PySem.W.keepIn K (.ref (He.ga K z.2.nm))
  | _ => true
def cMt (c : Cn) (m : Mn) : Bool := match P.mt c m with
  | none => true
  | some i => match P.fn i with
    | some F => decide (F.kd = .me c) && (decide (F.nm = m.nm) && ((He.Fa.cls c.nm).ok K && (He.Fa.meth c.nm m.nm).ok K))
    | none => false
def cMk (c : Cn) : Bool := match P.mt c .init with
  | none => true
  | some i => match P.fn i with
    | some F => decide (F.kd = .me c) && (decide (F.nm = "__init__") && ((He.Fa.mkr c.nm).ok K && (He.Fa.glo c.nm).ok K))
    | none => false
def eqV1 (a : Option Value) (b : Value) : Bool := decide (a = some b)
def cPt (c : Cn) (m : Mn) : Bool := match P.pt c m with
  | none => true
  | some i => match P.fn i with
    | some F => decide (F.kd = .pr c) && (decide (F.nm = m.nm) && ((He.Fa.cls c.nm).ok K && (He.eqO (PySem.W.findIn K (.ref (He.ga K c.nm)) m.nm) (some (some (.ref (He.ma K (He.ga K c.nm) m.nm)))) &&
      (He.eqO (PySem.W.specialIn K (.ref (He.ma K (He.ga K c.nm) m.nm)) "__get__") (some (some (.builtin "property.__get__"))) && (decide (PySem.W.takesIn K (.ref (He.ma K (He.ga K c.nm) m.nm)) = some true) && (match PySem.W.recIn K (He.ma K (He.ga K c.nm) m.nm) "property" with
        | some (.ref _ :: _) => true
        | _ => false))))))
    | none => false
def getB (K : PySem.W.Frag) (C p : Addr) (m : Str) : Bool := match PySem.W.findCls K (.ref C) (.type "type") m with
  | some (.get (.builtin g) (.ref q) .none (.ref D)) => decide (g = "staticmethod.__get__") && (decide (q = p) && decide (D = C))
  | _ => false
theorem getB_ok {K : PySem.W.Frag} {C p : Addr} {m : Str} (h : getB K C p m = true) : PySem.W.findCls K (.ref C) (.type "type") m = some (.get (.builtin "staticmethod.__get__") (.ref p) .none (.ref C)) := by
  unfold getB at h
  split at h
  · rename_i g q D e
    obtain ⟨h1, h⟩ := bool3 h
    obtain ⟨h2, h3⟩ := bool3 h
    rw [e, of_decide_eq_true h1, of_decide_eq_true h2, of_decide_eq_true h3]
  · cases h
def cSt (c : Cn) (m : Mn) : Bool := match P.st c m with
  | none => true
  | some i => match P.fn i with
    | some F => decide (F.kd = .sm c) && (decide (F.nm = m.nm) && (PySem.W.readsIn K (He.ga K c.nm) (.type "type") && (He.eqO (PySem.W.specialIn K (.ref (He.ga K c.nm)) "__getattribute__") (some (some (.builtin "type.__getattribute__"))) &&
      (getB K (He.ga K c.nm) (He.ma K (He.ga K c.nm) m.nm) m.nm && ((match PySem.W.recIn K (He.ma K (He.ga K c.nm) m.nm) "staticmethod" with
        | some (.ref _ :: _) => true
        | _ => false) && (PySem.W.keepIn K (.ref (adF K F)) && (He.Fa.glo c.nm).ok K))))))
    | none => false
def cFk (c : Cn) (f : Fd) : Bool := !P.fok c f || ((He.Fa.cls c.nm).ok K && (He.Fa.noat c.nm f.nm).ok K)
def cIs (t u : Ty) : Bool := match P.isi t u with
  | none => true
  | some b => decide (PySem.W.kitOne K (t.v K) (u.v K) = some b) && (match t with
    | .own c => (He.Fa.cls c.nm).ok K && (He.eqO (PySem.W.findIn K (.ref (He.ga K c.nm)) "__class__") (some (some (.builtin "object.__class__"))) && decide (PySem.W.mroIn K (He.ga K c.nm) (.type "object") = some true))
    | _ => true)
def chkP : Bool := cFn K P && ((Cn.all.all fun c => Mn.all.all fun m => cMt K P c m && (cPt K P c m && cSt K P c m)) && ((Cn.all.all fun c => cMk K P c && Fd.all.all fun f => cFk K P c f) && ((Ty.all.all fun t => Ty.all.all fun u => cIs K P t u) &&
  ((He.eqO (PySem.W.specialIn K (.builtin "object.__class__") "__get__") (some (some (.builtin "getset_descriptor.__get__"))) && decide (PySem.W.takesIn K (.builtin "object.__class__") = some true)) &&
  ((Blt.all'.all fun b => (He.Fa.free b.nm).ok K) && ((He.Fa.free "range").ok K && ((He.Fa.free "isinstance").ok K && P.fns.all fun z => ckFn K P z.2)))))))
end
theorem chkP_ok {K : PySem.W.Frag} {P : Prog} {h : Heap} {mg : Str → Option Value} (X : K.In h) (G : h.Ns mainGlobals mg) (c : chkP K P = true) : Facts K mg P ∧ (P.fns.all fun z => ckFn K P z.2) = true := by
  obtain ⟨c1, c⟩ := bool3 c
  obtain ⟨c2, c⟩ := bool3 c
  obtain ⟨c3, c⟩ := bool3 c
  obtain ⟨c4, c⟩ := bool3 c
  obtain ⟨c5, c⟩ := bool3 c
  obtain ⟨c6, c⟩ := bool3 c
  obtain ⟨c7, c⟩ := bool3 c
  obtain ⟨c8, c9⟩ := bool3 c
  have m3 : ∀ c m, cMt K P c m = true ∧ cPt K P c m = true ∧ cSt K P c m = true := fun c m => by
    obtain ⟨a, b⟩ := bool3 (List.all_eq_true.mp (List.all_eq_true.mp c2 c c.mem_all) m m.mem_all)
    obtain ⟨b1, b2⟩ := bool3 b
    exact ⟨a, b1, b2⟩
  refine ⟨⟨fun i F e hk => ?_, fun c m i e => ?_, fun c i e => ?_, fun c m i e => ?_, fun c m i e => ?_, fun c f e => ?_, ⟨fun t u b e => ?_, fun c u b e => ?_, ?_⟩, fun b => ?_, ?_, ?_⟩, c9⟩
  · have q := List.all_eq_true.mp c1 (i, F) (lookup_mem e)
    simp only [hk] at q
    obtain ⟨q1, q2⟩ := bool3 q
    have ea : adF K F = He.ga K F.nm := by
      unfold adF
      rw [hk]
    rw [ea]
    exact ⟨He.glo_ok X G q1, q2⟩
  · have q := (m3 c m).1
    unfold cMt at q
    rw [e] at q
    simp only at q
    split at q
    · rename_i F ef
      obtain ⟨q1, q⟩ := bool3 q
      obtain ⟨q2, q⟩ := bool3 q
      obtain ⟨q3, q4⟩ := bool3 q
      have ea : adF K F = He.ma K (He.ga K c.nm) m.nm := by
        unfold adF
        rw [of_decide_eq_true q1]
        show He.ma K (He.ga K c.nm) F.nm = _
        rw [of_decide_eq_true q2]
      exact ⟨F, ef, He.cls_ok q3, by rw [ea]; exact He.meth_ok q4⟩
    · cases q
  · have q := (bool3 (List.all_eq_true.mp c3 c c.mem_all)).1
    unfold cMk at q
    rw [e] at q
    simp only at q
    split at q
    · rename_i F ef
      obtain ⟨q1, q⟩ := bool3 q
      obtain ⟨q2, q⟩ := bool3 q
      obtain ⟨q3, q4⟩ := bool3 q
      have ea : adF K F = He.ma K (He.ga K c.nm) "__init__" := by
        unfold adF
        rw [of_decide_eq_true q1]
        show He.ma K (He.ga K c.nm) F.nm = _
        rw [of_decide_eq_true q2]
      exact ⟨F, ef, by rw [ea]; exact He.mkr_ok q3, He.glo_ok X G q4⟩
    · cases q
  · have q := (m3 c m).2.1
    unfold cPt at q
    rw [e] at q
    simp only at q
    split at q
    · rename_i F ef
      obtain ⟨q1, q⟩ := bool3 q
      obtain ⟨q2, q⟩ := bool3 q
      obtain ⟨q3, q⟩ := bool3 q
      obtain ⟨q4, q⟩ := bool3 q
      obtain ⟨q5, q⟩ := bool3 q
      obtain ⟨q6, q7⟩ := bool3 q
      refine ⟨F, _, ef, He.cls_ok q3, He.eqO_ok q4, He.eqO_ok q5, of_decide_eq_true q6, ?_⟩
      split at q7
      · rename_i f rest er
        have ea : adF K F = f := by
          unfold adF
          rw [of_decide_eq_true q1]
          simp only
          rw [of_decide_eq_true q2, er]
        exact ⟨rest, by rw [ea]; exact er⟩
      · cases q7
    · cases q
  · have q := (m3 c m).2.2
    unfold cSt at q
    rw [e] at q
    simp only at q
    split at q
    · rename_i F ef
      obtain ⟨q1, q⟩ := bool3 q
      obtain ⟨q2, q⟩ := bool3 q
      obtain ⟨q3, q⟩ := bool3 q
      obtain ⟨q4, q⟩ := bool3 q
      obtain ⟨q5, q⟩ := bool3 q
      obtain ⟨q6, q⟩ := bool3 q
      obtain ⟨q7, q8⟩ := bool3 q
      split at q6
      · rename_i f rest er
        have ea : adF K F = f := by
          unfold adF
          rw [of_decide_eq_true q1]
          simp only
          rw [of_decide_eq_true q2, er]
        exact ⟨F, _, rest, ef, q3, He.eqO_ok q4, getB_ok q5, by rw [ea]; exact er, q7, He.glo_ok X G q8⟩
      · cases q6
    · cases q
  · have q := List.all_eq_true.mp (bool3 (List.all_eq_true.mp c3 c c.mem_all)).2 f f.mem_all
    unfold cFk at q
    rw [e] at q
    obtain ⟨q1, q2⟩ := bool3 (show ((He.Fa.cls c.nm).ok K && (He.Fa.noat c.nm f.nm).ok K) = true from q)
    exact ⟨He.cls_ok q1, He.noat_ok q2⟩
  · have q := List.all_eq_true.mp (List.all_eq_true.mp c4 t t.mem_all) u u.mem_all
    unfold cIs at q
    rw [e] at q
    exact of_decide_eq_true (bool3 q).1
  · have q := List.all_eq_true.mp (List.all_eq_true.mp c4 (.own c) (Ty.mem_all _)) u u.mem_all
    unfold cIs at q
    rw [e] at q
    obtain ⟨q1, q⟩ := bool3 (bool3 q).2
    obtain ⟨q2, q3⟩ := bool3 q
    exact ⟨He.cls_ok q1, He.eqO_ok q2, of_decide_eq_true q3⟩
  · obtain ⟨q1, q2⟩ := bool3 c5
    exact ⟨He.eqO_ok q1, of_decide_eq_true q2⟩
  · exact He.free_ok X G (List.all_eq_true.mp c6 b b.mem_all')
  · exact He.free_ok X G c7
  · exact He.free_ok X G c8
/-! ### a law's end -/
/-- what is to be shown of the law's def: nothing is tracked but the script, which is only read -/
def LawOk (P : Prog) (i : Nat) (nmax : Nat) : Prop := ∃ n, 2 * n ≤ 100 ∧ ∀ (a : Addr) (ns : List Int), ns.length ≤ nmax → (∀ z ∈ ns, Builtin.Int.intBits z ≤ 1048576) → ctN P n i [.kl a (intsL ns)] (fun _ => none) (fun v _ => v = .bl true) fun _ _ _ => False
theorem caller_room : Room 100 callerA := ⟨rfl, by decide, by decide⟩
theorem caller_guards : callerA.guards = some [] := rfl
theorem law_run {p : Program} {w : World} {K : PySem.W.Frag} {mg mb : Str → Option Value} {fa a : Addr} {s : Shared} {vs : List Value} {ns : List Int} {ct : Ct} {k : Nat} (KX : K.In s.heap) (hns : s.heap.Ns mainGlobals mg) (hb : s.heap.Ns builtinsNs mb) (hbb : ∀ x : Str, x ≠ "__name__" → mb x = bootBuiltins x)
    (hlim : s.heap.NoLimit) (hg : s.gens = #[]) (ha : s.heap.get? a = some { cls := .type "list", data := .seq vs.toArray }) (hi : IntsAre vs ns) (hl : ns.length ≤ sizeLine) (hk : k ≤ 100)
    (F : ∀ base : Heap, K.In base → base.Ns mainGlobals mg → FnP p w K mg base k fa ct) (hct : ct [.kl a (intsL ns)] (fun _ => none) (fun v _ => v = .bl true) fun _ _ _ => False) :
    codeAny (model p w) callerA (.call (.ref fa) ⟨[.ref a], []⟩) (fun r s' => r = .ok (.ret (.bool true)) ∧ OldK s.heap s'.heap ∧ s'.os = s.os ∧ AllBare s'.gens) s := by
  have rv := vals_ints hi
  have lenV := hi.length
  have core : ∀ H : Hp, Only H → RL K H a (ns.map V.int) → HOk p w H s.heap → (∀ b, H b ≠ none → b = a) → (H a ≠ none → K.lookup a = none) →
      codeAny (model p w) callerA (.call (.ref fa) ⟨[.ref a], []⟩) (fun r s' => r = .ok (.ret (.bool true)) ∧ OldK s.heap s'.heap ∧ s'.os = s.os ∧ AllBare s'.gens) s := by
    intro H hO hS hok hA hKa
    have notA : ∀ {b : Addr} {o : Obj} {es : Array DictEntry} {ep : Nat}, s.heap.get? b = some o → o.data = .dict es ep → H b = none := fun {b o es ep} e d => by
      cases q : H b with
      | none => rfl
      | some u =>
        have eb : b = a := hA b (by rw [q]; simp)
        subst eb
        rw [ha] at e
        cases e
        cases (show Data.seq vs.toArray _ = Data.dict es ep from d)
    have nsB : ∀ {b : Addr} {m : Str → Option Value}, s.heap.Ns b m → (hidT s.heap H).Ns b m := fun {b m} ⟨o, es, ep, e, d, r⟩ => ⟨o, es, ep, hidT_get e (notA e d), d, r⟩
    have KB : K.In (hidT s.heap H) := fun b o e => hidT_get (KX b o e) (by
      cases q : H b with
      | none => rfl
      | some u =>
        have eb : b = a := hA b (by rw [q]; simp)
        subst eb
        rw [hKa (by rw [q]; simp)] at e
        cases e)
    have M : Mod K mg (hidT s.heap H) := ⟨KB, nsB hns, ⟨mb, nsB hb, hbb⟩, let ⟨mc, l1, l2⟩ := hlim; ⟨mc, nsB l1, l2⟩⟩
    have E0 : Env0 p w K mg (hidT s.heap H) callerA [] s H := ⟨rfl, M, fun b o e => of_hidT e, Nat.le_of_eq (hidT_size _ _), trivial, (fun b hb => by cases hb), hok, .of_eq hg⟩
    have sp : spOf K ct [.ref a] H (fun v _ => v = V.bl true) fun _ _ _ => False := by
      refine ⟨[.kl a (intsL ns)], fun _ => none, _, _, (fun b c z => by cases z), ⟨.ref a, [], rfl, ⟨_, rfl, hS, ints_rel.mpr rfl⟩, rfl⟩, hct, ?_, fun _ _ _ _ _ _ z _ _ _ => z⟩
      rintro r g' v H' e t h rr
      subst e
      exact rr
    refine codeAny_mono ((F _ KB (nsB hns)).run callerA [] s H [.ref a] [.ref a] _ _ (caller_room.mono hk) caller_guards E0 (.cons rfl .nil) sp) fun r s' h => ?_
    cases r with
    | error e =>
      obtain ⟨_, _, _, _, _, _, _, _, _, _, _, _, z⟩ := h
      exact z.elim
    | ok fl =>
      cases fl with
      | ret u =>
        obtain ⟨v, H', os, bare, un, hok', rr, q⟩ := h
        cases (show v = .bl true from q)
        obtain rfl : u = Value.bool true := rr
        refine ⟨rfl, OldK.of_keep fun b o e => ?_, os, bare⟩
        rcases hO b with z | ⟨ob, xs, z⟩
        · exact un.keep b o e z (fun y => by cases y) (fun y => by cases y)
        · obtain ⟨e1, _⟩ := hok b _ z
          obtain ⟨e2, _⟩ := hok' b _ (un.frzs b ob _ z)
          rw [e] at e1
          cases e1
          exact e2
      | next => exact h.elim
      | brk => exact h.elim
      | cont => exact h.elim
  cases hk : K.lookup a with
  | some o =>
    have e := KX a o hk
    rw [ha] at e
    cases e
    exact core (fun _ => none) (fun _ => .inl rfl) (.inr ⟨_, vs.toArray, _, hk, rfl, rfl, rfl, by rw [List.size_toArray, lenV]; exact hl, by simpa using rv⟩) (fun b u z => by cases z) (fun b z => absurd rfl z) fun z => absurd rfl z
  | none =>
    have at_ : ∀ b u, (if b = a then some (HO.frz { cls := .type "list", data := .seq vs.toArray } (.lst (ns.map V.int))) else none) = some u → b = a ∧ u = HO.frz { cls := .type "list", data := .seq vs.toArray } (.lst (ns.map V.int)) := fun b u z => by
      by_cases eb : b = a
      · rw [if_pos eb] at z
        cases z
        exact ⟨eb, rfl⟩
      · rw [if_neg eb] at z
        cases z
    refine core (fun b => if b = a then some (.frz { cls := .type "list", data := .seq vs.toArray } (.lst (ns.map V.int))) else none) (fun b => ?_) (.inl ⟨_, if_pos rfl⟩) (fun b u z => ?_) (fun b z => ?_) fun _ => hk
    · by_cases eb : b = a
      · exact .inr ⟨_, _, if_pos eb⟩
      · exact .inl (if_neg eb)
    · obtain ⟨eb, eu⟩ := at_ b u z
      subst eb eu
      exact ⟨ha, by rw [List.length_map]; exact hl, vs, _, rv, ha⟩
    · by_cases eb : b = a
      · exact eb
      · exact absurd (if_neg eb) z
/-- the walk of a law's row -/
theorem walk_M {l : PySem.W.OpenLaw} {q : Program} {loose : List Str} {XP : (Str → Option Value) → Heap → Prop} {d : DefRec} {nh : Nat} {P : Prog} {i : Nat} {F : Fn} (hn : l.most = some 63) (hdf : d.params.defaults = []) (hF : P.fn i = some F) (hk : F.kd = .fn) (hnm : F.nm = d.name) (ok : LawOk P i 63) :
    PySem.W.WalkO q loose XP (hookM nh fun K => chkP K P).says l.row.toRowW d [] (fun f vs => PySem.call f vs) := by
  refine Att.attach_callB hn hdf fun w s₀ s₁ mg mb fa o pm cd doc a vs ns G Y ho hd hcd hmg hobj hints hlen hbits hg => ?_
  obtain ⟨K, KX, c⟩ := Y
  obtain ⟨n, hn2, hct⟩ := ok
  obtain ⟨facts, all⟩ := chkP_ok KX G.T.g c
  have e1 := (facts.fn i F hF hk).1
  rw [hnm, hmg] at e1
  have e2 : fa = adF K F := Value.ref.inj (Option.some.inj e1)
  refine law_run KX G.T.g G.T.b G.T.builtins G.T.nolimit hg hobj hints (Nat.le_trans hlen (by decide)) hn2 (fun base kin ns => ?_) (hct a ns hlen hbits)
  rw [e2]
  exact all_sound facts kin ns all n i F hF
end MP
set_option Elab.async false
set_option linter.all false
set_option maxRecDepth 100000
set_option maxHeartbeats 0
namespace Tk03
open PySem PySem.Spec PyProof.Rows L2 MP
def fn_Store_init : Fn := ⟨"__init__", .me .Store, false, 2, ["self", "cells"],
  .cons (.ite (.not (.sm .Store .is_size (.cons (.var 1) .nil))) (.cons (.raise .InvalidStore (.str "the number of cells is a size")) .nil) (.nil)) (.cons (.fld .count (.var 0) (.var 1)) .nil)⟩
def fn_Store_check_place : Fn := ⟨"check_place", .me .Store, true, 2, ["self", "places", "place"],
  .cons (.ite (.not (.blt .all (.cons (.comp (.one 2) [2] (.seq (.var 1)) (.nil) (.meth .is_place (.var 0) (.cons (.var 2) .nil))) .nil))) (.cons (.raise .InvalidPlace (.str "a place is an address that its size divides, with its size")) .nil) (.nil)) .nil⟩
def fn_Store_common : Fn := ⟨"common", .me .Store, false, 3, ["self", "one", "two", "found"],
  .cons (.expr (.meth .check_place (.var 0) (.cons (.var 1) (.cons (.var 2) .nil)))) (.cons (.asg (.name 3) (.var 1)) (.cons (.while_ (.not (.call 122 (.cons (.var 3) (.cons (.var 2) .nil)))) (.cons (.asg (.name 3) (.meth .parent (.var 0) (.cons (.var 3) .nil))) .nil)) (.cons (.ret (.var 3)) .nil)))⟩
def fn_Store_halves : Fn := ⟨"halves", .me .Store, false, 2, ["self", "place", "half"],
  .cons (.expr (.meth .check_place (.var 0) (.cons (.var 1) .nil))) (.cons (.asg (.name 2) (.bin .fdiv (.ix (.var 1) (.int 1)) (.int 2))) (.cons (.ret (.ife (.cmp .eq (.var 2) (.int 0)) (.lst (.nil)) (.lst (.cons (.tup (.cons (.ix (.var 1) (.int 0)) (.cons (.var 2) .nil))) (.cons (.tup (.cons (.bin .add (.ix (.var 1) (.int 0)) (.var 2)) (.cons (.var 2) .nil))) .nil))))) .nil))⟩
def fn_Store_is_place : Fn := ⟨"is_place", .me .Store, false, 2, ["self", "thing"],
  .cons (.ite (.or (.cons (.not (.isi .tup (.var 1))) (.cons (.cmp .ne (.blt .len (.cons (.var 1) .nil)) (.int 2)) (.cons (.not (.call 143 (.cons (.ix (.var 1) (.int 0)) .nil))) (.cons (.not (.sm .Store .is_size (.cons (.ix (.var 1) (.int 1)) .nil))) .nil))))) (.cons (.ret (.bl false)) .nil) (.nil)) (.cons (.ret (.and (.cons (.cmp .ge (.ix (.var 1) (.int 0)) (.int 0)) (.cons (.cmp .eq (.bin .mod (.ix (.var 1) (.int 0)) (.ix (.var 1) (.int 1))) (.int 0)) (.cons (.cmp .le (.bin .add (.ix (.var 1) (.int 0)) (.ix (.var 1) (.int 1))) (.fld .count (.var 0))) .nil))))) .nil)⟩
def fn_Store_is_size : Fn := ⟨"is_size", .sm .Store, false, 1, ["thing"],
  .cons (.ret (.and (.cons (.call 143 (.cons (.var 0) .nil)) (.cons (.cmp .in_ (.var 0) (.kon "SIZES" (.tup [.int 1, .int 2, .int 4, .int 8, .int 16, .int 32, .int 64]))) .nil)))) .nil⟩
def fn_Store_parent : Fn := ⟨"parent", .me .Store, false, 2, ["self", "place", "size"],
  .cons (.expr (.meth .check_place (.var 0) (.cons (.var 1) .nil))) (.cons (.asg (.name 2) (.bin .mul (.int 2) (.ix (.var 1) (.int 1)))) (.cons (.ret (.ife (.cmp .eq (.ix (.var 1) (.int 1)) (.fld .count (.var 0))) (.non) (.tup (.cons (.bin .sub (.ix (.var 1) (.int 0)) (.bin .mod (.ix (.var 1) (.int 0)) (.var 2))) (.cons (.var 2) .nil))))) .nil))⟩
def fn_Store_sibling : Fn := ⟨"sibling", .me .Store, false, 2, ["self", "place", "parent"],
  .cons (.asg (.name 2) (.meth .parent (.var 0) (.cons (.var 1) .nil))) (.cons (.ret (.ife (.cmp .is_ (.var 2) (.non)) (.non) (.tup (.cons (.bin .sub (.bin .add (.bin .mul (.int 2) (.ix (.var 2) (.int 0))) (.ix (.var 1) (.int 1))) (.ix (.var 1) (.int 0))) (.cons (.ix (.var 1) (.int 1)) .nil))))) .nil)⟩
def fn_contains : Fn := ⟨"contains", .fn, false, 2, ["one", "two"],
  .cons (.ret (.and (.cons (.cmp .le (.ix (.var 0) (.int 0)) (.ix (.var 1) (.int 0))) (.cons (.cmp .le (.bin .add (.ix (.var 1) (.int 0)) (.ix (.var 1) (.int 1))) (.bin .add (.ix (.var 0) (.int 0)) (.ix (.var 0) (.int 1)))) .nil)))) .nil⟩
def fn_is_integer : Fn := ⟨"is_integer", .fn, false, 1, ["thing"],
  .cons (.ret (.and (.cons (.isi .int (.var 0)) (.cons (.not (.isi .bl (.var 0))) .nil)))) .nil⟩
def fn_law : Fn := ⟨"law", .fn, false, 1, ["_law_script", "_law_pen_here", "_law_ground", "_law_every", "_law_some_here", "_law_spot", "_law_one", "_law_two", "_law_both", "_law_due", "_law_turn", "_law_extent"],
  .cons (.asg (.name 1) (.call 1003 (.cons (.var 0) .nil))) (.cons (.for_ (.name 11) (.seq (.tup (.cons (.int 1) (.cons (.int 2) (.cons (.int 4) (.cons (.int 8) (.cons (.int 16) (.cons (.int 32) (.cons (.int 64) .nil))))))))) (.cons (.asg (.tup [2, 3]) (.tup (.cons (.make .Store (.cons (.var 11) .nil)) (.cons (.call 1089 (.cons (.var 11) .nil)) .nil)))) (.cons (.asg (.name 4) (.var 3)) (.cons (.ite (.cmp .gt (.var 11) (.int 8)) (.cons (.setc 4 (.comp (.one 10) [10] (.rng (.cons (.int 16) .nil)) (.nil) (.ix (.var 3) (.call 1001 (.cons (.var 1) (.cons (.blt .len (.cons (.var 3) .nil)) .nil)))))) .nil) (.nil)) (.cons (.for_ (.name 5) (.seq (.var 4)) (.cons (.ite (.not (.call 1027 (.cons (.var 2) (.cons (.var 3) (.cons (.var 5) .nil))))) (.cons (.ret (.bl false)) .nil) (.nil)) .nil)) (.cons (.for_ (.name 10) (.rng (.cons (.int 16) .nil)) (.cons (.asg (.tup [6, 7]) (.tup (.cons (.ix (.var 4) (.call 1001 (.cons (.var 1) (.cons (.blt .len (.cons (.var 4) .nil)) .nil)))) (.cons (.ix (.var 4) (.call 1001 (.cons (.var 1) (.cons (.blt .len (.cons (.var 4) .nil)) .nil)))) .nil)))) (.cons (.setc 8 (.comp (.one 5) [5] (.seq (.var 3)) (.cons (.call 1155 (.cons (.var 5) (.cons (.var 6) .nil))) .nil) (.var 5))) (.cons (.setc 8 (.comp (.one 5) [5] (.seq (.var 8)) (.cons (.call 1155 (.cons (.var 5) (.cons (.var 7) .nil))) .nil) (.tup (.cons (.ix (.var 5) (.int 1)) (.cons (.var 5) .nil))))) (.cons (.asg (.name 9) (.blt .repr (.cons (.ix (.blt .min (.cons (.var 8) .nil)) (.int 1)) .nil))) (.cons (.ite (.cmp .ne (.blt .repr (.cons (.lst (.cons (.meth .common (.var 2) (.cons (.var 6) (.cons (.var 7) .nil))) (.cons (.meth .common (.var 2) (.cons (.var 7) (.cons (.var 6) .nil))) .nil))) .nil)) (.bin .add (.bin .add (.bin .add (.bin .add (.str "[") (.var 9)) (.str ", ")) (.var 9)) (.str "]"))) (.cons (.ret (.bl false)) .nil) (.nil)) .nil)))))) .nil)))))) (.cons (.ret (.bl true)) .nil))⟩
def fn__law_draw : Fn := ⟨"_law_draw", .fn, false, 2, ["_law_pen_here", "_law_under", "_law_digit"],
  .cons (.ite (.cmp .lt (.ix (.var 0) (.int 2)) (.var 1)) (.cons (.asg (.sub (.var 0) (.int 2)) (.call 1002 (.cons (.var 0) .nil))) .nil) (.nil)) (.cons (.asg (.name 2) (.bin .mod (.ix (.var 0) (.int 2)) (.var 1))) (.cons (.asg (.sub (.var 0) (.int 2)) (.bin .fdiv (.ix (.var 0) (.int 2)) (.var 1))) (.cons (.ret (.var 2)) .nil)))⟩
def fn__law_next : Fn := ⟨"_law_next", .fn, false, 1, ["_law_pen_here", "_law_index", "_law_cell_here", "_law_some_here", "_law_more", "_law_top"],
  .cons (.asg (.name 1) (.ix (.var 0) (.int 1))) (.cons (.asg (.sub (.var 0) (.int 1)) (.bin .add (.var 1) (.int 1))) (.cons (.asg (.name 2) (.bin .add (.bin .mul (.var 1) (.int 1063)) (.int 41))) (.cons (.ite (.cmp .ne (.ix (.var 0) (.int 0)) (.lst (.nil))) (.cons (.asg (.name 2) (.ix (.ix (.var 0) (.int 0)) (.bin .mod (.var 1) (.blt .len (.cons (.ix (.var 0) (.int 0)) .nil))))) .nil) (.nil)) (.cons (.ite (.and (.cons (.cmp .lt (.var 1) (.blt .len (.cons (.ix (.var 0) (.int 0)) .nil))) (.cons (.cmp .ge (.var 2) (.bin .pow (.int 10) (.int 18))) .nil))) (.cons (.ret (.var 2)) .nil) (.nil)) (.cons (.asg (.name 3) (.bin .mod (.bin .add (.bin .add (.bin .mod (.var 2) (.int 2147483587)) (.bin .mul (.var 1) (.int 30089))) (.int 67)) (.int 2147483587))) (.cons (.asg (.name 4) (.bin .mod (.bin .add (.bin .add (.bin .mul (.var 3) (.var 3)) (.bin .mul (.var 1) (.int 70001))) (.int 47)) (.int 2147483563))) (.cons (.asg (.name 5) (.bin .mod (.bin .add (.bin .add (.bin .mul (.var 4) (.var 4)) (.var 3)) (.bin .mul (.bin .mul (.var 1) (.var 1)) (.int 23))) (.int 2147483549))) (.cons (.ret (.bin .add (.bin .mul (.bin .add (.bin .mul (.var 5) (.int 2147483587)) (.var 4)) (.int 2147483563)) (.var 3))) .nil))))))))⟩
def fn__law_pen : Fn := ⟨"_law_pen", .fn, false, 1, ["_law_script"],
  .cons (.ret (.lst (.cons (.blt .list (.cons (.sl false true (.var 0) (.non) (.int 60)) .nil)) (.cons (.int 0) (.cons (.int 0) .nil))))) .nil⟩
def fn__law_right : Fn := ⟨"_law_right", .fn, false, 3, ["_law_ground", "_law_every", "_law_spot", "_law_over_here", "_law_top", "_law_half", "_law_inner", "_law_mate", "_law_found", "_law_again", "_law_one"],
  .cons (.asg (.name 3) (.call 1188 (.cons (.var 1) (.cons (.var 2) .nil)))) (.cons (.asg (.name 4) (.ife (.cmp .ne (.var 3) (.lst (.nil))) (.ix (.var 3) (.int 0)) (.non))) (.cons (.asg (.name 5) (.bin .fdiv (.ix (.var 2) (.int 1)) (.int 2))) (.cons (.setc 6 (.comp (.one 10) [10] (.seq (.var 1)) (.cons (.and (.cons (.cmp .eq (.ix (.var 10) (.int 1)) (.var 5)) (.cons (.call 1155 (.cons (.var 2) (.cons (.var 10) .nil))) .nil))) .nil) (.var 10))) (.cons (.setc 7 (.comp (.one 10) [10] (.seq (.var 1)) (.cons (.and (.cons (.cmp .ne (.var 10) (.var 2)) (.cons (.cmp .eq (.ix (.var 10) (.int 1)) (.ix (.var 2) (.int 1))) .nil))) .nil) (.var 10))) (.cons (.setc 7 (.comp (.one 10) [10] (.seq (.var 7)) (.cons (.and (.cons (.cmp .isn (.var 4) (.non)) (.cons (.call 1155 (.cons (.var 4) (.cons (.var 10) .nil))) .nil))) .nil) (.var 10))) (.cons (.for_ (.name 9) (.rng (.cons (.int 2) .nil)) (.cons (.asg (.name 8) (.lst (.cons (.meth .halves (.var 0) (.cons (.var 2) .nil)) (.cons (.meth .parent (.var 0) (.cons (.var 2) .nil)) (.cons (.meth .sibling (.var 0) (.cons (.var 2) .nil)) .nil))))) (.cons (.ite (.cmp .ne (.blt .repr (.cons (.var 8) .nil)) (.blt .repr (.cons (.lst (.cons (.var 6) (.cons (.var 4) (.cons (.ife (.cmp .ne (.var 7) (.lst (.nil))) (.ix (.var 7) (.int 0)) (.non)) .nil)))) .nil))) (.cons (.ret (.bl false)) .nil) (.nil)) (.cons (.expr (.bm .append (.ix (.var 8) (.int 0)) (.cons (.non) .nil))) .nil)))) (.cons (.ret (.bl true)) .nil)))))))⟩
def fn__law_all : Fn := ⟨"_law_all", .fn, false, 1, ["_law_extent", "_law_found", "_law_size", "_law_address"],
  .cons (.asg (.name 1) (.lst (.nil))) (.cons (.for_ (.name 2) (.seq (.tup (.cons (.int 1) (.cons (.int 2) (.cons (.int 4) (.cons (.int 8) (.cons (.int 16) (.cons (.int 32) (.cons (.int 64) .nil))))))))) (.cons (.asg (.name 1) (.bin .add (.var 1) (.comp (.one 3) [3] (.rng (.cons (.int 0) (.cons (.bin .add (.bin .sub (.var 0) (.var 2)) (.int 1)) (.cons (.var 2) .nil)))) (.nil) (.tup (.cons (.var 3) (.cons (.var 2) .nil)))))) .nil)) (.cons (.ret (.var 1)) .nil))⟩
def fn__law_holds : Fn := ⟨"_law_holds", .fn, false, 2, ["_law_one", "_law_two"],
  .cons (.ret (.and (.cons (.cmp .le (.ix (.var 0) (.int 0)) (.ix (.var 1) (.int 0))) (.cons (.cmp .le (.bin .add (.ix (.var 1) (.int 0)) (.ix (.var 1) (.int 1))) (.bin .add (.ix (.var 0) (.int 0)) (.ix (.var 0) (.int 1)))) .nil)))) .nil⟩
def fn__law_over : Fn := ⟨"_law_over", .fn, false, 2, ["_law_every", "_law_spot", "_law_greater", "_law_found", "_law_one", "_law_entry"],
  .cons (.setc 2 (.comp (.one 4) [4] (.seq (.var 0)) (.cons (.cmp .gt (.ix (.var 4) (.int 1)) (.ix (.var 1) (.int 1))) .nil) (.var 4))) (.cons (.asg (.name 3) (.blt .sorted (.cons (.comp (.one 4) [4] (.seq (.var 2)) (.cons (.call 1155 (.cons (.var 4) (.cons (.var 1) .nil))) .nil) (.tup (.cons (.ix (.var 4) (.int 1)) (.cons (.var 4) .nil)))) .nil))) (.cons (.ret (.comp (.one 5) [5] (.seq (.var 3)) (.nil) (.ix (.var 5) (.int 1)))) .nil))⟩
def P : Prog := ⟨[(94, fn_Store_init), (96, fn_Store_check_place), (97, fn_Store_common), (98, fn_Store_halves), (99, fn_Store_is_place), (100, fn_Store_is_size), (101, fn_Store_parent), (103, fn_Store_sibling), (122, fn_contains), (143, fn_is_integer), (1000, fn_law), (1001, fn__law_draw), (1002, fn__law_next), (1003, fn__law_pen), (1027, fn__law_right), (1089, fn__law_all), (1155, fn__law_holds), (1188, fn__law_over)],
  fun c m => match c, m with | .Store, .init => some 94 | .Store, .check_place => some 96 | .Store, .common => some 97 | .Store, .halves => some 98 | .Store, .is_place => some 99 | .Store, .parent => some 101 | .Store, .sibling => some 103 | _, _ => none,
  fun _ _ => none,
  fun c m => match c, m with | .Store, .is_size => some 100 | _, _ => none,
  fun c f => match c, f with | .Store, .count => true | _, _ => false,
  fun t u => match t, u with | .non, .bl => some false | .bl, .bl => some true | .int, .bl => some false | .str, .bl => some false | .tup, .bl => some false | .lst, .bl => some false | .dct, .bl => some false | .own .Store, .bl => some false | .non, .int => some false | .bl, .int => some true | .int, .int => some true | .str, .int => some false | .tup, .int => some false | .lst, .int => some false | .dct, .int => some false | .own .Store, .int => some false | .non, .tup => some false | .bl, .tup => some false | .int, .tup => some false | .str, .tup => some false | .tup, .tup => some true | .lst, .tup => some false | .dct, .tup => some false | .own .Store, .tup => some false | _, _ => none⟩
end Tk03
set_option Elab.async false
set_option linter.all false
set_option maxRecDepth 100000
set_option maxHeartbeats 0
namespace Tk03
open PySem PySem.Spec PyProof.Rows L2 MP
abbrev R : PySem.W.OpenRow := PySem.W.OpenLaw.row PySem.Challenge.rw_halfblocks_k03_halves_and_parents
abbrev lo : List Str := ["BlockError", "InvalidStore", "InvalidPlace", "InvalidSize", "SIZES", "is_integer", "contains", "Store", "_law_pen", "_law_next", "_law_draw", "_law_some", "_law_all", "_law_holds", "_law_over", "_law_right"]
def chk (K : PySem.W.Frag) : Bool := chkP K P
theorem run (w : World) : HandSHeadRun.RunEq R (PySem.W.view R.prog [19]) (hookM 6 chk) (obM 6 chk) 20000 lo w := by
  intro os
  kernel_rfl
end Tk03
set_option Elab.async false
set_option linter.all false
set_option maxRecDepth 100000
/-! EV, part 1: pure values, who owns what, how they stand in the cells. -/
namespace MP
open PySem PySem.Spec PyProof.Rows L2
/-- a pure value -/
inductive W where
  | non | bl (b : Bool) | int (i : Int) | str (s : Str) | tup (xs : List W) | kl (xs : List W)
  | lst (xs : List W) | dct (ks : List Key) (vs : List W) | ins (c : Cn) (fs : List Fd) (vs : List W)
/-- who owns it: all share it; it alone (and its parts, those that are not said are shared); walked; a tuple of parts; taken out -/
inductive O where
  | sh | ow (cs : List O) | lk (i : Nat) | tp (cs : List O) | hole
/-- the locks: which cell, what it must be -/
abbrev Lt := Nat → Option (Addr × Cl)
def IsD (h : Gp) (a : Addr) (kvs : List (Key × Vl)) : Prop := h a = some (.dct kvs) ∨ ∃ t, h a = some (.lk t kvs)
mutual
def Sh (h : Gp) : W → Vl → Prop
  | .non, v => v = .non
  | .bl b, v => v = .bl b
  | .int i, v => v = .int i
  | .str s, v => v = .str s
  | .tup xs, v => ∃ vs, v = .tup vs ∧ Shs h xs vs
  | .kl xs, v => ∃ a vs, v = .kl a vs ∧ Shs h xs vs
  | .lst xs, v => ∃ a vs, v = .ref a ∧ h a = some (.lst vs) ∧ Shs h xs vs
  | .dct ks xs, v => ∃ a kvs, v = .ref a ∧ IsD h a kvs ∧ kvs.map Prod.fst = ks ∧ Shs h xs (kvs.map Prod.snd)
  | .ins c fs xs, v => ∃ a fvs, v = .ref a ∧ h a = some (.ins c fvs) ∧ fvs.map Prod.fst = fs ∧ Shs h xs (fvs.map Prod.snd)
def Shs (h : Gp) : List W → List Vl → Prop
  | [], vs => vs = []
  | x :: xs, vs => ∃ y ys, vs = y :: ys ∧ Sh h x y ∧ Shs h xs ys
end
section
variable (s g : Gp) (L : Lt)
mutual
def R : O → W → Vl → List Addr → Prop
  | .sh, w, v, A => A = [] ∧ Sh s w v
  | .hole, _, _, A => A = []
  | .lk i, w, v, A => A = [] ∧ match w with
    | .lst xs => ∃ a vs, v = .ref a ∧ L i = some (a, .lst vs) ∧ Shs s xs vs
    | .dct ks xs => ∃ a t kvs, v = .ref a ∧ L i = some (a, .lk t kvs) ∧ kvs.map Prod.fst = ks ∧ Shs s xs (kvs.map Prod.snd)
    | _ => False
  | .tp cs, w, v, A => match w with
    | .tup xs => ∃ vs, v = .tup vs ∧ Rl cs xs vs A
    | _ => False
  | .ow cs, w, v, A => match w with
    | .lst xs => ∃ a vs B, v = .ref a ∧ A = a :: B ∧ g a = some (.lst vs) ∧ Rl cs xs vs B
    | .dct ks xs => ∃ a kvs B, v = .ref a ∧ A = a :: B ∧ g a = some (.dct kvs) ∧ kvs.map Prod.fst = ks ∧ Rl cs xs (kvs.map Prod.snd) B
    | .ins c fs xs => ∃ a fvs B, v = .ref a ∧ A = a :: B ∧ g a = some (.ins c fvs) ∧ fvs.map Prod.fst = fs ∧ Rl cs xs (fvs.map Prod.snd) B
    | _ => False
def Rl : List O → List W → List Vl → List Addr → Prop
  | [], ws, vs, A => A = [] ∧ Shs s ws vs
  | o :: os, ws, vs, A => ∃ w ws' v vs' A1 A2, ws = w :: ws' ∧ vs = v :: vs' ∧ A = A1 ++ A2 ∧ R o w v A1 ∧ Rl os ws' vs' A2
end
end
/-- what is shared stays; a dict may be left walked -/
def Ext (s s' : Gp) : Prop := ∀ a c, s a = some c → s' a = some c ∨ ∃ t kvs, c = .dct kvs ∧ s' a = some (.lk t kvs)
def Sub {α β : Type} (s s' : α → Option β) : Prop := ∀ a c, s a = some c → s' a = some c
/-- what is locked stands in the cells -/
def SubL (L : Lt) (g : Gp) : Prop := ∀ i a c, L i = some (a, c) → g a = some c
theorem SubL.trans {L : Lt} {F g : Gp} (h : SubL L F) (k : Sub F g) : SubL L g := fun i a c e => k a c (h i a c e)
theorem Sub.refl {α β : Type} {s : α → Option β} : Sub s s := fun _ _ h => h
theorem Sub.trans {α β : Type} {a b c : α → Option β} (h : Sub a b) (k : Sub b c) : Sub a c := fun x y e => k x y (h x y e)
theorem Sub.ext {s s' : Gp} (h : Sub s s') : Ext s s' := fun a c e => .inl (h a c e)
theorem Ext.refl {s : Gp} : Ext s s := Sub.refl.ext
theorem Ext.trans {a b c : Gp} (h : Ext a b) (k : Ext b c) : Ext a c := fun x y e => by
  rcases h x y e with e1 | ⟨t, kvs, rfl, e1⟩
  · exact k x y e1
  · rcases k x _ e1 with e2 | ⟨_, _, e2, _⟩
    · exact .inr ⟨t, kvs, rfl, e2⟩
    · cases e2
/-- the same up to walks -/
def ExtN (s s' : Gp) : Prop := ∀ a, (∀ xs, s a = some (.lst xs) → s' a = some (.lst xs)) ∧ (∀ c fs, s a = some (.ins c fs) → s' a = some (.ins c fs)) ∧ ∀ kvs, IsD s a kvs → IsD s' a kvs
theorem Ext.n {s s' : Gp} (h : Ext s s') : ExtN s s' := fun a => by
  refine ⟨fun xs e => ?_, fun c fs e => ?_, fun kvs e => ?_⟩
  · rcases h a _ e with e1 | ⟨_, _, e1, _⟩
    · exact e1
    · cases e1
  · rcases h a _ e with e1 | ⟨_, _, e1, _⟩
    · exact e1
    · cases e1
  · rcases e with e | ⟨t, e⟩
    · rcases h a _ e with e1 | ⟨t, k2, e1, e2⟩
      · exact .inl e1
      · cases e1
        exact .inr ⟨t, e2⟩
    · rcases h a _ e with e1 | ⟨t, k2, e1, e2⟩
      · exact .inr ⟨t, e1⟩
      · cases e1
mutual
theorem Sh.mono {s s' : Gp} (h : ExtN s s') : ∀ {w : W} {v : Vl}, Sh s w v → Sh s' w v
  | .non, _, r => r
  | .bl _, _, r => r
  | .int _, _, r => r
  | .str _, _, r => r
  | .tup xs, v, r => by
    obtain ⟨vs, e, q⟩ := r
    exact ⟨vs, e, Shs.mono h q⟩
  | .kl xs, v, r => by
    obtain ⟨a, vs, e, q⟩ := r
    exact ⟨a, vs, e, Shs.mono h q⟩
  | .lst xs, v, r => by
    obtain ⟨a, vs, e, q, q2⟩ := r
    exact ⟨a, vs, e, (h a).1 vs q, Shs.mono h q2⟩
  | .dct ks xs, v, r => by
    obtain ⟨a, kvs, e, q, q1, q2⟩ := r
    exact ⟨a, kvs, e, (h a).2.2 kvs q, q1, Shs.mono h q2⟩
  | .ins c fs xs, v, r => by
    obtain ⟨a, kvs, e, q, q1, q2⟩ := r
    exact ⟨a, kvs, e, (h a).2.1 c kvs q, q1, Shs.mono h q2⟩
theorem Shs.mono {s s' : Gp} (h : ExtN s s') : ∀ {w : List W} {v : List Vl}, Shs s w v → Shs s' w v
  | [], _, r => r
  | x :: xs, v, r => by
    obtain ⟨y, ys, e, q, q2⟩ := r
    exact ⟨y, ys, e, Sh.mono h q, Shs.mono h q2⟩
end
mutual
theorem R.mono {s g s' g' : Gp} {L L' : Lt} (h : ExtN s s') (hL : Sub L L') : ∀ {o : O} {w : W} {v : Vl} {A : List Addr}, (∀ a ∈ A, g' a = g a) → R s g L o w v A → R s' g' L' o w v A
  | .sh, w, v, A, _, r => ⟨r.1, r.2.mono h⟩
  | .hole, w, v, A, _, r => r
  | .lk i, w, v, A, _, r => by
    refine ⟨r.1, ?_⟩
    have r2 := r.2
    cases w with
    | lst xs =>
      obtain ⟨a, vs, e, q, q2⟩ := r2
      exact ⟨a, vs, e, hL _ _ q, q2.mono h⟩
    | dct ks xs =>
      obtain ⟨a, t, kvs, e, q, q1, q2⟩ := r2
      exact ⟨a, t, kvs, e, hL _ _ q, q1, q2.mono h⟩
    | _ => exact r2
  | .tp cs, w, v, A, hg, r => by
    cases w with
    | tup xs =>
      obtain ⟨vs, e, q⟩ := r
      exact ⟨vs, e, Rl.mono h hL hg q⟩
    | _ => exact r
  | .ow cs, w, v, A, hg, r => by
    cases w with
    | lst xs =>
      obtain ⟨a, vs, B, e, eA, q, q2⟩ := r
      subst eA
      exact ⟨a, vs, B, e, rfl, (hg a List.mem_cons_self).trans q, Rl.mono h hL (fun b hb => hg b (List.mem_cons_of_mem _ hb)) q2⟩
    | dct ks xs =>
      obtain ⟨a, vs, B, e, eA, q, q1, q2⟩ := r
      subst eA
      exact ⟨a, vs, B, e, rfl, (hg a List.mem_cons_self).trans q, q1, Rl.mono h hL (fun b hb => hg b (List.mem_cons_of_mem _ hb)) q2⟩
    | ins c ks xs =>
      obtain ⟨a, vs, B, e, eA, q, q1, q2⟩ := r
      subst eA
      exact ⟨a, vs, B, e, rfl, (hg a List.mem_cons_self).trans q, q1, Rl.mono h hL (fun b hb => hg b (List.mem_cons_of_mem _ hb)) q2⟩
    | _ => exact r
theorem Rl.mono {s g s' g' : Gp} {L L' : Lt} (h : ExtN s s') (hL : Sub L L') : ∀ {o : List O} {w : List W} {v : List Vl} {A : List Addr}, (∀ a ∈ A, g' a = g a) → Rl s g L o w v A → Rl s' g' L' o w v A
  | [], w, v, A, _, r => ⟨r.1, r.2.mono h⟩
  | o :: os, w, v, A, hg, r => by
    obtain ⟨w1, ws, v1, vs, A1, A2, e1, e2, e3, q, q2⟩ := r
    subst e3
    exact ⟨w1, ws, v1, vs, A1, A2, e1, e2, rfl, R.mono h hL (fun a ha => hg a (List.mem_append_left _ ha)) q, Rl.mono h hL (fun a ha => hg a (List.mem_append_right _ ha)) q2⟩
end
/-! ### simple readings of Sh -/
section
variable {h : Gp}
theorem Shs.length : ∀ {ws : List W} {vs : List Vl}, Shs h ws vs → vs.length = ws.length
  | [], _, r => by
    have e : _ = [] := r
    rw [e] <;> rfl
  | _ :: _, _, r => by
    obtain ⟨y, ys, e, _, q2⟩ := r
    rw [e, List.length_cons, List.length_cons, Shs.length q2]
theorem Shs.nil : Shs h [] [] := rfl
theorem Shs.cons {x : W} {v : Vl} {xs : List W} {vs : List Vl} (r : Sh h x v) (rs : Shs h xs vs) : Shs h (x :: xs) (v :: vs) := ⟨v, vs, rfl, r, rs⟩
theorem Shs.append : ∀ {xs ys : List W} {vs us : List Vl}, Shs h xs vs → Shs h ys us → Shs h (xs ++ ys) (vs ++ us)
  | [], ys, vs, us, r, r' => by
    have e : vs = [] := r
    subst e
    exact r'
  | x :: xs, ys, vs, us, r, r' => by
    obtain ⟨y, zs, e, r, rs⟩ := r
    subst e
    exact ⟨y, zs ++ us, rfl, r, Shs.append rs r'⟩
theorem Shs.get : ∀ {xs : List W} {vs : List Vl} {i : Nat} {x : W}, Shs h xs vs → xs[i]? = some x → ∃ v, vs[i]? = some v ∧ Sh h x v
  | [], _, _, _, _, e => by simp at e
  | y :: ys, vs, 0, x, r, e => by
    obtain ⟨v, us, e1, r, rs⟩ := r
    subst e1
    simp at e
    subst e
    exact ⟨v, rfl, r⟩
  | y :: ys, vs, i + 1, x, r, e => by
    obtain ⟨v, us, e1, r, rs⟩ := r
    subst e1
    obtain ⟨w, e2, r2⟩ := Shs.get (i := i) rs (by simpa using e)
    exact ⟨w, by simpa using e2, r2⟩
theorem Shs.set : ∀ {xs : List W} {vs : List Vl} {i : Nat} {x : W} {v : Vl}, Shs h xs vs → Sh h x v → Shs h (xs.set i x) (vs.set i v)
  | [], vs, _, _, _, r, _ => by
    have e1 : vs = [] := r
    subst e1
    exact rfl
  | y :: ys, vs, 0, x, v, r, q => by
    obtain ⟨w, us, e1, r1, rs⟩ := r
    subst e1
    exact ⟨v, us, rfl, q, rs⟩
  | y :: ys, vs, i + 1, x, v, r, q => by
    obtain ⟨w, us, e1, r1, rs⟩ := r
    subst e1
    exact ⟨w, us.set i v, rfl, r1, Shs.set rs q⟩
theorem Shs.eraseIdx : ∀ {xs : List W} {vs : List Vl} {i : Nat}, Shs h xs vs → Shs h (xs.eraseIdx i) (vs.eraseIdx i)
  | [], vs, _, r => by
    have e1 : vs = [] := r
    subst e1
    exact rfl
  | y :: ys, vs, 0, r => by
    obtain ⟨w, us, e1, r1, rs⟩ := r
    subst e1
    exact rs
  | y :: ys, vs, i + 1, r => by
    obtain ⟨w, us, e1, r1, rs⟩ := r
    subst e1
    exact ⟨w, us.eraseIdx i, rfl, r1, Shs.eraseIdx rs⟩
theorem Shs.take : ∀ {xs : List W} {vs : List Vl} (n : Nat), Shs h xs vs → Shs h (xs.take n) (vs.take n)
  | xs, vs, 0, _ => by simp [Shs]
  | [], vs, n + 1, r => by
    have e1 : vs = [] := r
    subst e1
    exact rfl
  | y :: ys, vs, n + 1, r => by
    obtain ⟨w, us, e1, r1, rs⟩ := r
    subst e1
    exact ⟨w, us.take n, rfl, r1, Shs.take n rs⟩
theorem Shs.drop : ∀ {xs : List W} {vs : List Vl} (n : Nat), Shs h xs vs → Shs h (xs.drop n) (vs.drop n)
  | xs, vs, 0, r => r
  | [], vs, n + 1, r => by
    have e1 : vs = [] := r
    subst e1
    exact rfl
  | y :: ys, vs, n + 1, r => by
    obtain ⟨w, us, e1, r1, rs⟩ := r
    subst e1
    exact Shs.drop n rs
theorem Shs.reverse : ∀ {xs : List W} {vs : List Vl}, Shs h xs vs → Shs h xs.reverse vs.reverse
  | [], vs, r => by
    have e1 : vs = [] := r
    subst e1
    exact rfl
  | y :: ys, vs, r => by
    obtain ⟨w, us, e1, r1, rs⟩ := r
    subst e1
    rw [List.reverse_cons, List.reverse_cons]
    exact (Shs.reverse rs).append (.cons r1 .nil)
theorem Shs.replicate {w : W} {v : Vl} (r : Sh h w v) : ∀ n, Shs h (List.replicate n w) (List.replicate n v)
  | 0 => rfl
  | n + 1 => ⟨v, _, rfl, r, Shs.replicate r n⟩
theorem Shs.flatrep {ws : List W} {vs : List Vl} (r : Shs h ws vs) : ∀ n, Shs h (List.replicate n ws).flatten (List.replicate n vs).flatten
  | 0 => rfl
  | n + 1 => by
    rw [List.replicate_succ, List.replicate_succ, List.flatten_cons, List.flatten_cons]
    exact r.append (Shs.flatrep r n)
end
end MP
set_option Elab.async false
set_option linter.all false
set_option maxRecDepth 100000
/-! EV, part 2: the state, its moves. -/
namespace MP
open PySem PySem.Spec PyProof.Rows L2
mutual
/-- nothing taken out -/
def O.full : O → Bool
  | .sh => true
  | .lk _ => true
  | .hole => false
  | .ow cs => O.fulls cs
  | .tp cs => O.fulls cs
def O.fulls : List O → Bool
  | [] => true
  | o :: os => o.full && O.fulls os
end
mutual
/-- can be shared: nothing taken out, nothing walked -/
def O.free : O → Bool
  | .sh => true
  | .lk _ => false
  | .hole => false
  | .ow cs => O.frees cs
  | .tp cs => O.frees cs
def O.frees : List O → Bool
  | [] => true
  | o :: os => o.free && O.frees os
end
/-- the parts are shared -/
def O.flat : O → Bool
  | .sh => true
  | .lk _ => true
  | .hole => false
  | .ow cs => cs.isEmpty
  | .tp cs => cs.isEmpty
def O.isSh : O → Bool
  | .sh => true
  | _ => false
theorem band {a b : Bool} (h : (a && b) = true) : a = true ∧ b = true := Bool.and_eq_true_iff.mp h
theorem O.isSh_iff {o : O} (h : o.isSh = true) : o = .sh := by cases o <;> first | rfl | cases h
section
variable {s g : Gp} {L : Lt}
mutual
theorem R.sh {o : O} {w : W} {v : Vl} {A : List Addr} (hs : Sub s g) (hL : SubL L g) (hf : o.full = true) (r : R s g L o w v A) : Sh g w v := by
  cases o with
  | sh => exact r.2.mono hs.ext.n
  | hole => cases hf
  | lk _ =>
    have r2 := r.2
    cases w with
    | lst xs =>
      obtain ⟨a, vs, e, q, q2⟩ := r2
      exact ⟨a, vs, e, hL _ _ _ q, q2.mono hs.ext.n⟩
    | dct ks xs =>
      obtain ⟨a, t, kvs, e, q, q1, q2⟩ := r2
      exact ⟨a, kvs, e, .inr ⟨t, hL _ _ _ q⟩, q1, q2.mono hs.ext.n⟩
    | _ => exact r2.elim
  | tp cs =>
    cases w with
    | tup xs =>
      obtain ⟨vs, e, q⟩ := r
      exact ⟨vs, e, Rl.sh hs hL hf q⟩
    | _ => exact r.elim
  | ow cs =>
    cases w with
    | lst xs =>
      obtain ⟨a, vs, B, e, eA, q, q2⟩ := r
      exact ⟨a, vs, e, q, Rl.sh hs hL hf q2⟩
    | dct ks xs =>
      obtain ⟨a, vs, B, e, eA, q, q1, q2⟩ := r
      exact ⟨a, vs, e, .inl q, q1, Rl.sh hs hL hf q2⟩
    | ins c ks xs =>
      obtain ⟨a, vs, B, e, eA, q, q1, q2⟩ := r
      exact ⟨a, vs, e, q, q1, Rl.sh hs hL hf q2⟩
    | _ => exact r.elim
theorem Rl.sh {o : List O} {w : List W} {v : List Vl} {A : List Addr} (hs : Sub s g) (hL : SubL L g) (hf : O.fulls o = true) (r : Rl s g L o w v A) : Shs g w v := by
  cases o with
  | nil => exact r.2.mono hs.ext.n
  | cons o os =>
    obtain ⟨w1, ws, v1, vs, A1, A2, e1, e2, e3, q, q2⟩ := r
    subst e1 e2 e3
    obtain ⟨h1, h2⟩ := band hf
    exact ⟨v1, vs, rfl, R.sh hs hL h1 q, Rl.sh hs hL h2 q2⟩
end
/-- what is owned is shared from now on -/
def addS (s g : Gp) (A : List Addr) : Gp := fun a => if a ∈ A then g a else s a
theorem addS_in {A : List Addr} {a : Addr} (h : a ∈ A) : addS s g A a = g a := if_pos h
theorem addS_out {A : List Addr} {a : Addr} (h : a ∉ A) : addS s g A a = s a := if_neg h
theorem addS_sub {A : List Addr} (h : ∀ a ∈ A, s a = none) : Sub s (addS s g A) := fun a c e => by
  rw [addS_out]
  · exact e
  · intro ha
    rw [h a ha] at e
    cases e
theorem addS_nil : addS s g [] = s := by
  funext a
  exact addS_out (by simp)
mutual
theorem R.frz {o : O} {w : W} {v : Vl} {A : List Addr} {s' : Gp} (hs : Sub s s') (hA : ∀ a ∈ A, s' a = g a) (hf : o.free = true) (r : R s g L o w v A) : Sh s' w v := by
  cases o with
  | sh => exact r.2.mono hs.ext.n
  | hole => cases hf
  | lk _ => cases hf
  | tp cs =>
    cases w with
    | tup xs =>
      obtain ⟨vs, e, q⟩ := r
      exact ⟨vs, e, Rl.frz hs hA hf q⟩
    | _ => exact r.elim
  | ow cs =>
    cases w with
    | lst xs =>
      obtain ⟨a, vs, B, e, eA, q, q2⟩ := r
      subst eA
      exact ⟨a, vs, e, (hA a List.mem_cons_self).trans q, Rl.frz hs (fun b hb => hA b (List.mem_cons_of_mem _ hb)) hf q2⟩
    | dct ks xs =>
      obtain ⟨a, vs, B, e, eA, q, q1, q2⟩ := r
      subst eA
      exact ⟨a, vs, e, .inl ((hA a List.mem_cons_self).trans q), q1, Rl.frz hs (fun b hb => hA b (List.mem_cons_of_mem _ hb)) hf q2⟩
    | ins c ks xs =>
      obtain ⟨a, vs, B, e, eA, q, q1, q2⟩ := r
      subst eA
      exact ⟨a, vs, e, (hA a List.mem_cons_self).trans q, q1, Rl.frz hs (fun b hb => hA b (List.mem_cons_of_mem _ hb)) hf q2⟩
    | _ => exact r.elim
theorem Rl.frz {o : List O} {w : List W} {v : List Vl} {A : List Addr} {s' : Gp} (hs : Sub s s') (hA : ∀ a ∈ A, s' a = g a) (hf : O.frees o = true) (r : Rl s g L o w v A) : Shs s' w v := by
  cases o with
  | nil => exact r.2.mono hs.ext.n
  | cons o os =>
    obtain ⟨w1, ws, v1, vs, A1, A2, e1, e2, e3, q, q2⟩ := r
    subst e1 e2 e3
    obtain ⟨h1, h2⟩ := band hf
    exact ⟨v1, vs, rfl, R.frz hs (fun a ha => hA a (List.mem_append_left _ ha)) h1 q, Rl.frz hs (fun a ha => hA a (List.mem_append_right _ ha)) h2 q2⟩
end
mutual
theorem R.dom : ∀ {o : O} {w : W} {v : Vl} {B : List Addr}, R s g L o w v B → ∀ a ∈ B, ∃ c, g a = some c
  | .sh, w, v, B, r, a, ha => by rw [r.1] at ha; simp at ha
  | .hole, w, v, B, r, a, ha => by
    have e : B = [] := r
    rw [e] at ha
    simp at ha
  | .lk _, w, v, B, r, a, ha => by rw [r.1] at ha; simp at ha
  | .tp cs, w, v, B, r, a, ha => by
    cases w with
    | tup xs =>
      obtain ⟨vs, e, q⟩ := r
      exact Rl.dom q a ha
    | _ => exact r.elim
  | .ow cs, w, v, B, r, a, ha => by
    cases w with
    | lst xs =>
      obtain ⟨b, vs, C, e, eA, q, q2⟩ := r
      subst eA
      rcases List.mem_cons.mp ha with rfl | h
      · exact ⟨_, q⟩
      · exact Rl.dom q2 a h
    | dct ks xs =>
      obtain ⟨b, vs, C, e, eA, q, q1, q2⟩ := r
      subst eA
      rcases List.mem_cons.mp ha with rfl | h
      · exact ⟨_, q⟩
      · exact Rl.dom q2 a h
    | ins c ks xs =>
      obtain ⟨b, vs, C, e, eA, q, q1, q2⟩ := r
      subst eA
      rcases List.mem_cons.mp ha with rfl | h
      · exact ⟨_, q⟩
      · exact Rl.dom q2 a h
    | _ => exact r.elim
theorem Rl.dom : ∀ {o : List O} {w : List W} {v : List Vl} {B : List Addr}, Rl s g L o w v B → ∀ a ∈ B, ∃ c, g a = some c
  | [], w, v, B, r, a, ha => by rw [r.1] at ha; simp at ha
  | o :: os, w, v, B, r, a, ha => by
    obtain ⟨w1, ws, v1, vs, A1, A2, e1, e2, e3, q, q2⟩ := r
    subst e3
    rcases List.mem_append.mp ha with h | h
    · exact R.dom q a h
    · exact Rl.dom q2 a h
end
end
/-! ### the state -/
abbrev En := List (Option (W × O))
abbrev Ft := Nat → List Addr
structure Z (s g F : Gp) (L : Lt) (ω : En) (env : Env) (A : Ft) : Prop where
  len : ω.length = env.length
  val : ∀ i w o, ω[i]? = some (some (w, o)) → ∃ v, env[i]? = some (some v) ∧ R s g L o w v (A i)
  nd : ∀ i, (A i).Nodup
  dj : ∀ i j a, a ∈ A i → a ∈ A j → i = j
  hs : ∀ i, ∀ a ∈ A i, s a = none
  hF : ∀ i, ∀ a ∈ A i, F a = none
  sg : Sub s g
  Fg : Sub F g
  LF : SubL L F
  sF : ∀ a c, s a = some c → F a = none
/-- cells of a value at hand -/
structure Bz (s F : Gp) (A : Ft) (B : List Addr) : Prop where
  nd : B.Nodup
  dj : ∀ i, ∀ a ∈ B, a ∉ A i
  hs : ∀ a ∈ B, s a = none
  hF : ∀ a ∈ B, F a = none
section
variable {s g F s' g' : Gp} {L : Lt} {ω ω' : En} {env env' : Env} {A A' : Ft} {o : O} {w : W} {v : Vl} {B C : List Addr}
theorem Bz.nil : Bz s F A [] := ⟨List.nodup_nil, fun _ _ h => by simp at h, fun _ h => by simp at h, fun _ h => by simp at h⟩
/-- cells join the frame -/
theorem Z.frame (z : Z s g F L ω env A) (b : Bz s F A B) : Z s g (addS F g B) L ω env A where
  len := z.len
  val := z.val
  nd := z.nd
  dj := z.dj
  hs := z.hs
  hF i a ha := by
    rw [addS_out]
    · exact z.hF i a ha
    · exact fun hb => b.dj i a hb ha
  sg := z.sg
  Fg a c e := by
    unfold addS at e
    by_cases h : a ∈ B
    · rwa [if_pos h] at e
    · rw [if_neg h] at e
      exact z.Fg a c e
  LF := z.LF.trans (addS_sub b.hF)
  sF a c e := by
    rw [addS_out]
    · exact z.sF a c e
    · intro hb
      rw [b.hs a hb] at e
      cases e
theorem frame_eq (hB : ∀ a ∈ B, ∃ c, g a = some c) (hg : Sub (addS F g B) g') : ∀ a ∈ B, g' a = g a := fun a ha => by
  obtain ⟨c, e⟩ := hB a ha
  rw [e]
  exact hg a c (by rw [addS_in ha, e])
/-- .. and leave it -/
theorem Z.unframe (hB : ∀ a ∈ B, ∃ c, g a = some c) (b : Bz s F A B) (hLF : SubL L F) (z' : Z s' g' (addS F g B) L ω' env' A') : Z s' g' F L ω' env' A' ∧ Bz s' F A' B := by
  have sub : Sub F (addS F g B) := addS_sub b.hF
  have sF : ∀ a c, s' a = some c → F a = none := fun a c e => by
    have h := z'.sF a c e
    cases e2 : F a with
    | none => rfl
    | some d => rw [sub a d e2] at h; cases h
  refine ⟨⟨z'.len, z'.val, z'.nd, z'.dj, z'.hs, fun i a ha => ?_, z'.sg, sub.trans z'.Fg, hLF, sF⟩, ⟨b.nd, fun i a ha hA => ?_, fun a ha => ?_, b.hF⟩⟩
  · have h := z'.hF i a ha
    cases e2 : F a with
    | none => rfl
    | some d => rw [sub a d e2] at h; cases h
  · have h := z'.hF i a hA
    obtain ⟨c, e⟩ := hB a ha
    rw [addS_in ha, e] at h
    cases h
  · cases e2 : s' a with
    | none => rfl
    | some d =>
      have h := z'.sF a d e2
      obtain ⟨c, e⟩ := hB a ha
      rw [addS_in ha, e] at h
      cases h
def fup (A : Ft) (i : Nat) (B : List Addr) : Ft := fun j => if j = i then B else A j
theorem fup_same {i : Nat} : fup A i B i = B := if_pos rfl
theorem fup_ne {i j : Nat} (h : j ≠ i) : fup A i B j = A j := if_neg h
/-- a slot is taken out -/
theorem Z.take {i : Nat} (z : Z s g F L ω env A) : Z s g F L (ω.set i none) env (fup A i []) ∧ Bz s F (fup A i []) (A i) := by
  refine ⟨⟨by simpa using z.len, fun j w o e => ?_, fun j => ?_, fun j k a h1 h2 => ?_, fun j a h => ?_, fun j a h => ?_, z.sg, z.Fg, z.LF, z.sF⟩, z.nd i, fun j a h1 h2 => ?_, z.hs i, z.hF i⟩
  · by_cases h : i = j
    · subst h
      by_cases hl : i < ω.length
      · rw [List.getElem?_set_self hl] at e
        cases e
      · rw [List.getElem?_eq_none (by simpa using hl)] at e
        cases e
    · rw [List.getElem?_set_ne h] at e
      rw [fup_ne (Ne.symm h)]
      exact z.val j w o e
  · by_cases h : j = i
    · subst h; rw [fup_same]; exact List.nodup_nil
    · rw [fup_ne h]; exact z.nd j
  · by_cases hj : j = i
    · subst hj; rw [fup_same] at h1; simp at h1
    · by_cases hk : k = i
      · subst hk; rw [fup_same] at h2; simp at h2
      · rw [fup_ne hj] at h1; rw [fup_ne hk] at h2; exact z.dj j k a h1 h2
  · by_cases hj : j = i
    · subst hj; rw [fup_same] at h; simp at h
    · rw [fup_ne hj] at h; exact z.hs j a h
  · by_cases hj : j = i
    · subst hj; rw [fup_same] at h; simp at h
    · rw [fup_ne hj] at h; exact z.hF j a h
  · by_cases hj : j = i
    · subst hj; rw [fup_same] at h2; simp at h2
    · rw [fup_ne hj] at h2; exact hj (z.dj i j a h1 h2).symm
/-- a slot is filled -/
theorem Z.put {i : Nat} (z : Z s g F L ω env A) (b : Bz s F A B) (r : R s g L o w v B) : Z s g F L (ω.set i (some (w, o))) (env.set i (some v)) (fup A i B) := by
  refine ⟨by simpa using z.len, fun j w1 o1 e => ?_, fun j => ?_, fun j k a h1 h2 => ?_, fun j a h => ?_, fun j a h => ?_, z.sg, z.Fg, z.LF, z.sF⟩
  · by_cases h : i = j
    · subst h
      by_cases hl : i < ω.length
      · rw [List.getElem?_set_self hl] at e
        cases e
        exact ⟨v, List.getElem?_set_self (by rw [← z.len]; exact hl), by rw [fup_same]; exact r⟩
      · rw [List.getElem?_eq_none (by simpa using hl)] at e
        cases e
    · rw [List.getElem?_set_ne h] at e
      rw [fup_ne (Ne.symm h), List.getElem?_set_ne h]
      exact z.val j w1 o1 e
  · by_cases h : j = i
    · subst h; rw [fup_same]; exact b.nd
    · rw [fup_ne h]; exact z.nd j
  · by_cases hj : j = i
    · subst hj
      rw [fup_same] at h1
      by_cases hk : k = j
      · exact hk.symm
      · rw [fup_ne hk] at h2; exact absurd h2 (b.dj k a h1)
    · rw [fup_ne hj] at h1
      by_cases hk : k = i
      · subst hk; rw [fup_same] at h2; exact absurd h1 (b.dj j a h2)
      · rw [fup_ne hk] at h2; exact z.dj j k a h1 h2
  · by_cases hj : j = i
    · subst hj; rw [fup_same] at h; exact b.hs a h
    · rw [fup_ne hj] at h; exact z.hs j a h
  · by_cases hj : j = i
    · subst hj; rw [fup_same] at h; exact b.hF a h
    · rw [fup_ne hj] at h; exact z.hF j a h
/-- .. with the value it has -/
theorem Z.back {i : Nat} (z : Z s g F L ω env A) (e : env[i]? = some (some v)) (b : Bz s F A B) (r : R s g L o w v B) : Z s g F L (ω.set i (some (w, o))) env (fup A i B) := by
  have h := z.put (i := i) b r
  have e2 : env.set i (some v) = env := by
    refine List.ext_getElem? fun j => ?_
    by_cases hj : i = j
    · subst hj
      rw [e]
      have hl : i < env.length := by
        rcases Nat.lt_or_ge i env.length with h | h
        · exact h
        · rw [List.getElem?_eq_none h] at e; cases e
      exact List.getElem?_set_self hl
    · exact List.getElem?_set_ne hj
  rwa [e2] at h
/-- cells at hand become shared -/
theorem Z.share (z : Z s g F L ω env A) (b : Bz s F A B) : Z (addS s g B) g F L ω env A where
  len := z.len
  val i w o e := by
    obtain ⟨v, e1, r⟩ := z.val i w o e
    exact ⟨v, e1, r.mono (addS_sub b.hs).ext.n Sub.refl fun _ _ => rfl⟩
  nd := z.nd
  dj := z.dj
  hs i a ha := by
    rw [addS_out]
    · exact z.hs i a ha
    · exact fun hb => b.dj i a hb ha
  hF := z.hF
  sg a c e := by
    unfold addS at e
    by_cases h : a ∈ B
    · rwa [if_pos h] at e
    · rw [if_neg h] at e
      exact z.sg a c e
  Fg := z.Fg
  LF := z.LF
  sF a c e := by
    unfold addS at e
    by_cases h : a ∈ B
    · exact b.hF a h
    · rw [if_neg h] at e
      exact z.sF a c e
/-- a new cell -/
theorem Z.free (z : Z s g F L ω env A) {p : Addr} (hp : g p = none) : s p = none ∧ F p = none := by
  constructor
  · cases e : s p with
    | none => rfl
    | some c => rw [z.sg p c e] at hp; cases hp
  · cases e : F p with
    | none => rfl
    | some c => rw [z.Fg p c e] at hp; cases hp
theorem sub_new {p : Addr} {c : Cl} (h : Sub s g) (hp : s p = none) : Sub s (gup g p c) := fun a d e => by
  rw [gup_ne]
  · exact h a d e
  · rintro rfl
    rw [hp] at e
    cases e
/-- a cell that neither the shared ones nor the frame nor a slot has is changed or made -/
theorem Z.chg {p : Addr} {c : Cl} (z : Z s g F L ω env A) (hs : s p = none) (hF : F p = none) (hA : ∀ i, p ∉ A i) : Z s (gup g p c) F L ω env A where
  len := z.len
  val i w o e := by
    obtain ⟨v, e1, r⟩ := z.val i w o e
    refine ⟨v, e1, r.mono Ext.refl.n Sub.refl fun a ha => gup_ne ?_⟩
    rintro rfl
    exact hA i ha
  nd := z.nd
  dj := z.dj
  hs := z.hs
  hF := z.hF
  sg := sub_new z.sg hs
  Fg := sub_new z.Fg hF
  LF := z.LF
  sF := z.sF
/-- the cells of slots that hold nothing are forgotten: a new address is in no slot that matters -/
def trim (ω : En) (A : Ft) : Ft := fun i => match ω[i]? with
  | some (some _) => A i
  | _ => []
theorem Z.trim (z : Z s g F L ω env A) : Z s g F L ω env (trim ω A) ∧ ∀ i, ∀ a ∈ MP.trim ω A i, ∃ c, g a = some c := by
  have sub : ∀ i, ∀ a ∈ MP.trim ω A i, a ∈ A i := fun i a h => by
    unfold MP.trim at h
    split at h
    · exact h
    · simp at h
  refine ⟨⟨z.len, fun i w o e => ?_, fun i => ?_, fun i j a h1 h2 => z.dj i j a (sub i a h1) (sub j a h2), fun i a h => z.hs i a (sub i a h), fun i a h => z.hF i a (sub i a h), z.sg, z.Fg, z.LF, z.sF⟩, fun i a h => ?_⟩
  · obtain ⟨v, e1, r⟩ := z.val i w o e
    refine ⟨v, e1, ?_⟩
    unfold MP.trim
    rw [e]
    exact r
  · unfold MP.trim
    split
    · exact z.nd i
    · exact List.nodup_nil
  · unfold MP.trim at h
    split at h
    · rename_i wo e
      obtain ⟨v, e1, r⟩ := z.val i wo.1 wo.2 e
      exact r.dom a h
    · simp at h
end
end MP
set_option Elab.async false
set_option linter.all false
set_option maxRecDepth 100000
/-! EV, part 3: the evaluator. -/
namespace MP
open PySem PySem.Spec PyProof.Rows L2
instance {i j : Int} : Decidable (CMulW i j) := inferInstanceAs (Decidable (_ < _))
instance {i j : Int} : Decidable (CDivN i j) := inferInstanceAs (Decidable (_ ∧ _))
instance {i j : Int} : Decidable (CPow i j) := inferInstanceAs (Decidable (_ ∧ _ ∧ _))
/-! ### values -/
mutual
def wOf : Vl → Option W
  | .non => some .non
  | .bl b => some (.bl b)
  | .int i => some (.int i)
  | .str s => some (.str s)
  | .tup xs => (wOfs xs).map .tup
  | _ => none
def wOfs : List Vl → Option (List W)
  | [] => some []
  | x :: xs => match wOf x, wOfs xs with
    | some y, some ys => some (y :: ys)
    | _, _ => none
end
mutual
def W.dat : W → Option PyData
  | .non => some .none
  | .bl b => some (.bool b)
  | .int i => some (.int i)
  | .str s => some (.str s)
  | .tup xs => (W.dats xs).map .tuple
  | .lst xs => (W.dats xs).map .list
  | _ => none
def W.dats : List W → Option (List PyData)
  | [] => some []
  | x :: xs => match x.dat, W.dats xs with
    | some y, some ys => some (y :: ys)
    | _, _ => none
end
mutual
def wD : PyData → W
  | .none => .non
  | .bool b => .bl b
  | .int i => .int i
  | .str s => .str s
  | .tuple ds => .tup (wDs ds)
  | .list ds => .lst (wDs ds)
  | .dict _ => .non
def wDs : List PyData → List W
  | [] => []
  | d :: ds => wD d :: wDs ds
end
def noneB : PyData → Bool
  | .none => true
  | _ => false
def tup1B : PyData → Bool
  | .tuple (_ :: _) => true
  | _ => false
def tupB : PyData → Bool
  | .tuple _ => true
  | _ => false
def alikeB (ds : List PyData) : Bool := ds.all fun x => ds.all fun y => PySem.W.alike x y
def sortB (ds : List PyData) : Bool := alikeB ds && ((ds.all tup1B || ds.all fun d => !noneB d && !tupB d) && ds.all fun d => decide (d.depth < 50))
def kyW : W → Option Key
  | .int i => some (.inl i)
  | .str s => some (.inr s)
  | _ => none
def wK : Key → W
  | .inl i => .int i
  | .inr s => .str s
/-- the place of a key, of a field -/
def kIx {κ : Type} [DecidableEq κ] : List κ → κ → Option Nat
  | [], _ => none
  | k :: ks, x => if k = x then some 0 else (kIx ks x).map (· + 1)
def O.part : O → Nat → O
  | .ow cs, j => cs.getD j .sh
  | .tp cs, j => cs.getD j .sh
  | .hole, _ => .hole
  | _, _ => .sh
def W.kids : W → List W
  | .tup xs => xs
  | .kl xs => xs
  | .lst xs => xs
  | .dct _ xs => xs
  | .ins _ _ xs => xs
  | _ => []
/-! ### operators -/
def opBin : BO → W → W → Option W
  | .add, .int a, .int b => some (.int (a + b))
  | .add, .str a, .str b => if a.length + b.length ≤ sizeLine then some (.str (a ++ b)) else none
  | .sub, .int a, .int b => some (.int (a - b))
  | .mul, .int a, .int b => if CMulW a b then some (.int (a * b)) else none
  | .fdiv, .int a, .int b => if CDivN a b then some (.int (a.fdiv b)) else none
  | .mod, .int a, .int b => if b ≠ 0 then some (.int (a.fmod b)) else none
  | .pow, .int a, .int b => if CPow a b then some (.int (a ^ b.toNat)) else none
  | .band, .int a, .int b => some (.int (Builtin.bitAnd a b))
  | _, _, _ => none
/-- a new list, of shared items; a tuple -/
def newBin : BO → W × O → W × O → Option (W × O)
  | .add, (.lst xs, o), (.lst ys, o') => if (o.flat && o'.flat) && decide (xs.length + ys.length ≤ sizeLine) then some (.lst (xs ++ ys), .ow []) else none
  | .add, (.tup xs, o), (.tup ys, o') => if (o.isSh && o'.isSh) && (!xs.isEmpty && decide (xs.length + ys.length ≤ sizeLine)) then some (.tup (xs ++ ys), .sh) else none
  | .mul, (.lst xs, o), (.int k, _) => if o.flat && (decide (-(2 ^ 63) ≤ k) && (decide (k < 2 ^ 63) && decide (xs.length * k.toNat ≤ sizeLine))) then some (.lst (List.replicate k.toNat xs).flatten, .ow []) else none
  | _, _, _ => none
def eqW (a b : W) : Option Bool := match a.dat, b.dat with
  | some d, some e => if SeqAt.shaped d && SeqAt.shaped e then some (PyData.eqv d e) else none
  | _, _ => none
def flatW : W → Bool
  | .non => true
  | .bl _ => true
  | .int _ => true
  | .str _ => true
  | _ => false
def eqF : W → W → Bool
  | .non, .non => true
  | .bl a, .bl b => a == b
  | .bl a, .int b => (if a then 1 else 0) == b
  | .int a, .bl b => a == (if b then 1 else 0)
  | .int a, .int b => a == b
  | .str a, .str b => a == b
  | _, _ => false
def inW (x : W) : W → Option Bool
  | .lst xs => if flatW x && xs.all flatW then some (xs.any fun z => eqF z x) else none
  | .tup xs => if flatW x && xs.all flatW then some (xs.any fun z => eqF z x) else none
  | .str b => match x with
    | .str a => some (!(Builtin.Str.occurrences b a 0 b.length 1).isEmpty)
    | _ => none
  | .dct ks _ => (kyW x).map fun k => (kIx ks k).isSome
  | _ => none
def isW : W → W → Option Bool
  | x, .non => some (match x with | .non => true | _ => false)
  | .bl a, .bl b => some (decide (a = b))
  | _, _ => none
def opCmp : CO → W → W → Option Bool
  | .eq, a, b => eqW a b
  | .ne, a, b => (eqW a b).map not
  | .lt, .int a, .int b => some (decide (a < b))
  | .lt, .str a, .str b => some (decide (a.cps.toList < b.cps.toList))
  | .le, .int a, .int b => some (decide (a ≤ b))
  | .gt, .int a, .int b => some (decide (b < a))
  | .ge, .int a, .int b => some (decide (b ≤ a))
  | .is_, a, b => isW a b
  | .isn, a, b => (isW a b).map not
  | .in_, a, b => inW a b
  | .nin, a, b => (inW a b).map not
  | _, _, _ => none
def truW : W → Option Bool
  | .non => some false
  | .bl b => some b
  | .int i => some (i != 0)
  | .str y => if y.length ≤ sizeLine then some ((y.length : Int) != 0) else none
  | .tup xs => some !xs.isEmpty
  | .kl xs => some !xs.isEmpty
  | .lst xs => some !xs.isEmpty
  | _ => none
def ixW : W × O → W → Option (W × O)
  | (.lst xs, o), .int k => (ixN xs.length k).bind fun j => xs[j]?.map fun x => (x, o.part j)
  | (.kl xs, o), .int k => (ixN xs.length k).bind fun j => xs[j]?.map fun x => (x, o.part j)
  | (.tup xs, o), .int k => (ixN xs.length k).bind fun j => xs[j]?.map fun x => (x, o.part j)
  | (.str z, _), .int k => if z.length ≤ sizeLine then (atI z.cps.toList k).map fun c => (.str ⟨#[c]⟩, .sh) else none
  | (.dct ks vs, o), k => (kyW k).bind fun k => (kIx ks k).bind fun j => vs[j]?.map fun x => (x, o.part j)
  | _, _ => none
/-- the index of the part that is meant -/
def ixJ : W → W → Option Nat
  | .lst xs, .int k => ixN xs.length k
  | .tup xs, .int k => ixN xs.length k
  | .dct ks _, k => (kyW k).bind (kIx ks)
  | _, _ => none
def fldW (ok : Cn → Fd → Bool) (f : Fd) : W × O → Option (W × O)
  | (.ins c fs ws, o) => if ok c f then (kIx fs f).bind fun j => ws[j]?.map fun x => (x, o.part j) else none
  | _ => none
def slW : W × O → Option Int → Option Int → Option (W × O)
  | (.tup xs, .sh), lo, hi => some (.tup (cutL xs lo hi), .sh)
  | (.str z, _), lo, hi => if z.length ≤ sizeLine then some (.str (cutS z lo hi), .sh) else none
  | _, _, _ => none
def newSl : W × O → Option Int → Option Int → Option (W × O)
  | (.lst xs, o), lo, hi => if o.flat then some (.lst (cutL xs lo hi), .ow []) else none
  | (.kl xs, o), lo, hi => if o.flat then some (.lst (cutL xs lo hi), .ow []) else none
  | _, _, _ => none
def tyW : W → Ty
  | .non => .non | .bl _ => .bl | .int _ => .int | .str _ => .str | .tup _ => .tup | .kl _ => .lst | .lst _ => .lst | .dct _ _ => .dct | .ins c _ _ => .own c
def intsW : List W → Option (List Int)
  | [] => some []
  | .int i :: r => (intsW r).map (i :: ·)
  | _ => none
def bolsW : List W → Option (List Bool)
  | [] => some []
  | .bl i :: r => (bolsW r).map (i :: ·)
  | _ => none
def strsW : List W → Option (List Str)
  | [] => some []
  | .str i :: r => (strsW r).map (i :: ·)
  | _ => none
def itemsL : W → Option (List W)
  | .lst xs => some xs
  | .kl xs => some xs
  | _ => none
def maxI : List Int → Option Int
  | [] => none
  | i :: r => some (r.foldl max i)
def minI : List Int → Option Int
  | [] => none
  | i :: r => some (r.foldl min i)
mutual
/-- no cell is asked what it is -/
def pureW : W → Bool
  | .non => true
  | .bl _ => true
  | .int _ => true
  | .str _ => true
  | .tup xs => pureWs xs
  | _ => false
def pureWs : List W → Bool
  | [] => true
  | x :: xs => pureW x && pureWs xs
end
/-- built-in functions that make nothing -/
def bltW : Blt → List W → Option W
  | .len, [.str s] => if s.length ≤ sizeLine then some (.int s.length) else none
  | .len, [.tup xs] => some (.int xs.length)
  | .len, [.lst xs] => some (.int xs.length)
  | .len, [.kl xs] => some (.int xs.length)
  | .sum, [x] => (itemsL x).bind fun xs => (intsW xs).map fun ns => .int ns.sum
  | .max, [.int i, .int j] => some (.int (if j > i then j else i))
  | .min, [.int i, .int j] => some (.int (if j < i then j else i))
  | .max, [x] => (itemsL x).bind fun xs => (intsW xs).bind fun ns => (maxI ns).map .int
  | .min, [x] => (itemsL x).bind fun xs => match intsW xs with
    | some ns => (minI ns).map .int
    | none => (W.dats xs).bind fun ds => match ds with
      | d :: ds => if (alikeB (d :: ds) && ((d :: ds).all (fun d => !noneB d) && decide (PyData.depthAll (d :: ds) < 50))) && pureW (wD (PySem.W.minD d ds)) then some (wD (PySem.W.minD d ds)) else none
      | [] => none
  | .all, [x] => (itemsL x).bind fun xs => (bolsW xs).map fun ns => .bl (ns.all id)
  | .any, [x] => (itemsL x).bind fun xs => (bolsW xs).map fun ns => .bl (ns.any id)
  | .int, [.int i] => some (.int i)
  | .int, [.bl k] => some (.int (if k then 1 else 0))
  | .str, [.int i] => if i.natAbs.log2 < 1920 then some (.str (toString i)) else none
  | .str, [.str a] => some (.str a)
  | .repr, [.int i] => if i.natAbs.log2 < 1920 then some (.str (toString i)) else none
  | .repr, [x] => x.dat.bind fun d => match d with
    | .list _ => if d.showable && (decide (d.depth < 60) && decide (d.shown.length ≤ sizeLine)) then some (.str d.shown) else none
    | .tuple _ => if d.showable && (decide (d.depth < 60) && decide (d.shown.length ≤ sizeLine)) then some (.str d.shown) else none
    | _ => none
  | _, _ => none
/-- sorting by insertion -/
def insB {α : Type} (le : α → α → Bool) (x : α) : List α → List α
  | [] => [x]
  | y :: ys => if le x y then x :: y :: ys else y :: insB le x ys
def isort {α : Type} (le : α → α → Bool) : List α → List α
  | [] => []
  | x :: xs => insB le x (isort le xs)
theorem insB_perm {α : Type} (le : α → α → Bool) (x : α) : ∀ l : List α, (insB le x l).Perm (x :: l)
  | [] => List.Perm.refl _
  | y :: ys => by
    unfold insB
    split
    · exact List.Perm.refl _
    · exact ((insB_perm le x ys).cons y).trans (List.Perm.swap x y ys)
theorem isort_perm {α : Type} (le : α → α → Bool) : ∀ l : List α, (isort le l).Perm l
  | [] => List.Perm.refl _
  | x :: xs => (insB_perm le x _).trans ((isort_perm le xs).cons x)
theorem insB_pw {α : Type} {le : α → α → Bool} (tr : ∀ a b c, le a b = true → le b c = true → le a c = true) (tot : ∀ a b, (le a b || le b a) = true) (x : α) : ∀ l : List α, l.Pairwise (fun a b => le a b = true) → (insB le x l).Pairwise (fun a b => le a b = true)
  | [], _ => by simp [insB]
  | y :: ys, h => by
    obtain ⟨h1, h2⟩ := List.pairwise_cons.mp h
    unfold insB
    split
    · rename_i hxy
      refine List.pairwise_cons.mpr ⟨fun z hz => ?_, h⟩
      rcases List.mem_cons.mp hz with rfl | hz
      · exact hxy
      · exact tr _ _ _ hxy (h1 z hz)
    · rename_i hxy
      have hyx : le y x = true := by
        have := tot x y
        rcases Bool.or_eq_true_iff.mp this with h | h
        · exact absurd h hxy
        · exact h
      refine List.pairwise_cons.mpr ⟨fun z hz => ?_, insB_pw tr tot x ys h2⟩
      rcases List.mem_cons.mp ((insB_perm le x ys).subset hz) with rfl | hz
      · exact hyx
      · exact h1 z hz
theorem isort_pw {α : Type} {le : α → α → Bool} (tr : ∀ a b c, le a b = true → le b c = true → le a c = true) (tot : ∀ a b, (le a b || le b a) = true) : ∀ l : List α, (isort le l).Pairwise (fun a b => le a b = true)
  | [] => List.Pairwise.nil
  | x :: xs => insB_pw tr tot x _ (isort_pw tr tot xs)
def leS (a b : Str) : Bool := !decide (b.cps.toList < a.cps.toList)
def leD (a b : PyData) : Bool := !PySem.W.dataLt b a
def subW : List Key → List W → Key → W → List W
  | k' :: ks, w :: vs, k, v => (if k' = k then v else w) :: subW ks vs k v
  | _, vs, _, _ => vs
def putW (ks : List Key) (vs : List W) (k : Key) (v : W) : List Key × List W := if (kIx ks k).isSome then (ks, subW ks vs k v) else (ks ++ [k], vs ++ [v])
def mrgW : List Key → List W → List (Key × W) → List Key × List W
  | ks, vs, [] => (ks, vs)
  | ks, vs, (k, v) :: r => mrgW (putW ks vs k v).1 (putW ks vs k v).2 r
def prsW : List W → Option (List (Key × W))
  | [] => some []
  | .tup [k, v] :: r => match kyW k, prsW r with
    | some k, some r => some ((k, v) :: r)
    | _, _ => none
  | _ => none
def keyStrs : List Key → Option (List Str)
  | [] => some []
  | .inr s :: r => (keyStrs r).map (s :: ·)
  | _ => none
/-- built-in functions that make a list or a dict -/
def newBlt : Blt → W × O → Option (W × O)
  | .list, (.lst xs, o) => if o.flat then some (.lst xs, .ow []) else none
  | .list, (.kl xs, o) => if o.flat then some (.lst xs, .ow []) else none
  | .list, (.tup xs, o) => if o.isSh then some (.lst xs, .ow []) else none
  | .list, (.dct ks _, _) => some (.lst (ks.map wK), .ow [])
  | .dict, (.dct ks vs, o) => if o.flat then some (.dct ks vs, .ow []) else none
  | .dict, (.lst xs, o) => if o.flat then (prsW xs).map fun ps => (.dct (mrgW [] [] ps).1 (mrgW [] [] ps).2, .ow []) else none
  | .sorted, (.lst xs, o) => match intsW xs with
    | some ns => some (.lst ((isort (fun a b => decide (a ≤ b)) ns).map .int), .ow [])
    | none => match strsW xs with
      | some ns => some (.lst ((isort leS ns).map .str), .ow [])
      | none => (W.dats xs).bind fun ds => if o.flat && sortB ds then some (.lst (wDs (isort leD ds)), .ow []) else none
  | .sorted, (.dct ks _, _) => (keyStrs ks).map fun ns => (.lst ((isort leS ns).map .str), .ow [])
  | _, _ => none
/-! ### reading, without a trace -/
def slotQ (ω : En) (i : Nat) : Option (W × O) := match ω[i]? with
  | some (some (w, o)) => if o.full then some (w, o) else none
  | _ => none
def tpO (os : List O) : O := if os.all O.isSh then .sh else .tp os
def owO (os : List O) : O := if os.all O.isSh then .ow [] else .ow os
def intQ : Option (W × O) → Option Int
  | some (.int i, _) => some i
  | _ => none
def blQ : Option (W × O) → Option Bool
  | some (.bl i, _) => some i
  | _ => none
section
variable (P : Prog)
mutual
def evQ : Ex → En → Option (W × O)
  | .var i, ω => slotQ ω i
  | .int i, _ => some (.int i, .sh)
  | .str i, _ => some (.str i, .sh)
  | .bl i, _ => some (.bl i, .sh)
  | .non, _ => some (.non, .sh)
  | .kon _ v, _ => (wOf v).map (·, .sh)
  | .bin o a b, ω => (evQ a ω).bind fun x => (evQ b ω).bind fun y => (opBin o x.1 y.1).map (·, .sh)
  | .cmp o a b, ω => (evQ a ω).bind fun x => (evQ b ω).bind fun y => (opCmp o x.1 y.1).map fun k => (.bl k, .sh)
  | .cmp2 o o2 a b c, ω => (evQ a ω).bind fun x => (evQ b ω).bind fun y => (opCmp o x.1 y.1).bind fun k => if k then (evQ c ω).bind fun z => (opCmp o2 y.1 z.1).map fun k => (.bl k, .sh) else some (.bl false, .sh)
  | .neg a, ω => (intQ (evQ a ω)).map fun i => (.int (-i), .sh)
  | .not a, ω => (blQ (evQ a ω)).map fun i => (.bl !i, .sh)
  | .and es, ω => (evQand es ω).map fun i => (.bl i, .sh)
  | .or es, ω => (evQor es ω).map fun i => (.bl i, .sh)
  | .ife c a b, ω => (evTq c ω).bind fun k => if k then evQ a ω else evQ b ω
  | .tup es, ω => (evQs es ω).bind fun ps => if ps.length ≤ sizeLine then some (.tup (ps.map Prod.fst), tpO (ps.map Prod.snd)) else none
  | .ix a b, ω => (evQ a ω).bind fun x => (evQ b ω).bind fun y => ixW x y.1
  | .sl l h a lo hi, ω => (evQ a ω).bind fun x => if l then (if h then (intQ (evQ lo ω)).bind fun i => (intQ (evQ hi ω)).bind fun j => slW x (some i) (some j) else (intQ (evQ lo ω)).bind fun i => slW x (some i) none) else (if h then (intQ (evQ hi ω)).bind fun j => slW x none (some j) else slW x none none)
  | .fld f a, ω => (evQ a ω).bind fun x => fldW P.fok f x
  | .blt b es, ω => (evQs es ω).bind fun ps => (bltW b (ps.map Prod.fst)).map (·, .sh)
  | .isi u a, ω => (evQ a ω).bind fun x => (P.isi (tyW x.1) u).map fun k => (.bl k, .sh)
  | _, _ => none
def evTq : Ex → En → Option Bool
  | .cmp o a b, ω => (evQ a ω).bind fun x => (evQ b ω).bind fun y => opCmp o x.1 y.1
  | .cmp2 o o2 a b c, ω => (evQ a ω).bind fun x => (evQ b ω).bind fun y => (opCmp o x.1 y.1).bind fun k => if k then (evQ c ω).bind fun z => opCmp o2 y.1 z.1 else some false
  | .not a, ω => (evTq a ω).map not
  | .and es, ω => evTqand es ω
  | .or es, ω => evTqor es ω
  | .var i, ω => (slotQ ω i).bind fun x => truW x.1
  | .bl b, _ => some b
  | .ix a b, ω => (evQ a ω).bind fun x => (evQ b ω).bind fun y => (ixW x y.1).bind fun z => truW z.1
  | .fld f a, ω => (evQ a ω).bind fun x => (fldW P.fok f x).bind fun z => truW z.1
  | .blt b es, ω => (evQs es ω).bind fun ps => (bltW b (ps.map Prod.fst)).bind truW
  | .isi u a, ω => (evQ a ω).bind fun x => P.isi (tyW x.1) u
  | _, _ => none
def evQs : Exs → En → Option (List (W × O))
  | .nil, _ => some []
  | .cons e r, ω => (evQ e ω).bind fun x => (evQs r ω).map (x :: ·)
def evQand : Exs → En → Option Bool
  | .nil, _ => some true
  | .cons e r, ω => (blQ (evQ e ω)).bind fun k => if k then evQand r ω else some false
def evQor : Exs → En → Option Bool
  | .nil, _ => some false
  | .cons e r, ω => (blQ (evQ e ω)).bind fun k => if k then some true else evQor r ω
def evTqand : Exs → En → Option Bool
  | .nil, _ => some true
  | .cons e r, ω => (evTq e ω).bind fun k => if k then evTqand r ω else some false
def evTqor : Exs → En → Option Bool
  | .nil, _ => some false
  | .cons e r, ω => (evTq e ω).bind fun k => if k then some true else evTqor r ω
end
end
end MP
set_option Elab.async false
set_option linter.all false
set_option maxRecDepth 100000
/-! EV, part 4: the evaluator, with a trace. -/
namespace MP
open PySem PySem.Spec PyProof.Rows L2
inductive Rr (α : Type) where
  | ok (a : α) (ω : En) | ex (c : Cn) (fs : List Fd) (ws : List W) (ω : En) | no
def Rr.bind {α β : Type} (r : Rr α) (k : α → En → Rr β) : Rr β := match r with
  | .ok a ω => k a ω
  | .ex c fs ws ω => .ex c fs ws ω
  | .no => .no
/-- how a statement ends -/
inductive Rq where
  | nx (ω : En) | rt (a : W × O) (ω : En) | ex (c : Cn) (fs : List Fd) (ws : List W) (ω : En) | no
/-- what a def is: it runs; the parameters that it stores into -/
structure Fe where
  run : List (W × O) → Rr (W × O)
  asg : Nat → Bool
inductive Arg where
  | val (a : W × O) | slot (i : Nat)
/-! ### places -/
def setC (cs : List O) (j : Nat) (o : O) : List O := if j < cs.length then cs.set j o else if o.isSh then cs else cs ++ List.replicate (j - cs.length) .sh ++ [o]
def O.setPart : O → Nat → O → Option O
  | .ow cs, j, o => some (.ow (setC cs j o))
  | .tp cs, j, o => some (.tp (setC cs j o))
  | _, _, _ => none
def W.setK : W → Nat → W → W
  | .tup xs, j, x => .tup (xs.set j x)
  | .lst xs, j, x => .lst (xs.set j x)
  | .dct ks xs, j, x => .dct ks (xs.set j x)
  | .ins c fs xs, j, x => .ins c fs (xs.set j x)
  | w, _, _ => w
def getP : W × O → List Nat → Option (W × O)
  | wo, [] => some wo
  | (w, o), j :: p => (w.kids[j]?).bind fun x => getP (x, o.part j) p
def updP (f : W × O → Option (W × O)) : W × O → List Nat → Option (W × O)
  | wo, [] => f wo
  | (w, o), j :: p => (w.kids[j]?).bind fun x => (updP f (x, o.part j) p).bind fun y => (o.setPart j y.2).map fun o' => (w.setK j y.1, o')
def slot (ω : En) (i : Nat) : Option (W × O) := match ω[i]? with
  | some (some wo) => some wo
  | _ => none
def updS (ω : En) (i : Nat) (p : List Nat) (f : W × O → Option (W × O)) : Option En := (slot ω i).bind fun wo => (updP f wo p).map fun wo' => ω.set i (some wo')
def frzF : W × O → Option (W × O) := fun x => if x.2.free then some (x.1, .sh) else none
section
variable (P : Prog)
def evPl : Ex → En → Option (Nat × List Nat)
  | .var i, _ => some (i, [])
  | .fld f a, ω => (evPl a ω).bind fun ip => (slot ω ip.1).bind fun r => (getP r ip.2).bind fun x => match x.1 with
    | .ins c fs _ => if P.fok c f then (kIx fs f).map fun j => (ip.1, ip.2 ++ [j]) else none
    | _ => none
  | .ix a b, ω => (evPl a ω).bind fun ip => (slot ω ip.1).bind fun r => (getP r ip.2).bind fun x => (evQ P b ω).bind fun k => (ixJ x.1 k.1).map fun j => (ip.1, ip.2 ++ [j])
  | _, _ => none
/-- a place's value, shared from now on -/
def frzPl (e : Ex) (ω : En) : Rr (W × O) := match evPl P e ω with
  | some (i, p) => match (slot ω i).bind fun r => getP r p, updS ω i p frzF with
    | some x, some ω' => .ok (x.1, .sh) ω'
    | _, _ => .no
  | none => .no
def qv (e : Ex) (ω : En) (r : Rr (W × O)) : Rr (W × O) := match evQ P e ω with
  | some (w, o) => if o.isSh then .ok (w, .sh) ω else frzPl P e ω
  | none => r
end
def optR {α : Type} (o : Option α) (ω : En) : Rr α := match o with
  | some a => .ok a ω
  | none => .no
/-! ### stores -/
def setItem (k : W) (v : W × O) : W × O → Option (W × O)
  | (.lst xs, .ow cs) => match k with
    | .int i => (ixN xs.length i).map fun j => (.lst (xs.set j v.1), .ow (setC cs j v.2))
    | _ => none
  | (.dct ks vs, .ow cs) => (kyW k).bind fun k => if ks.length < sizeLine then (if cs.isEmpty && v.2.isSh then some (.dct (putW ks vs k v.1).1 (putW ks vs k v.1).2, .ow []) else if decide ks.Nodup then some (.dct (putW ks vs k v.1).1 (putW ks vs k v.1).2, .ow (setC cs ((kIx ks k).getD ks.length) v.2)) else none) else none
  | _ => none
def putF (fs : List Fd) (vs : List W) (k : Fd) (v : W) : List Fd × List W := match kIx fs k with
  | some j => (fs, vs.set j v)
  | none => (fs ++ [k], vs ++ [v])
def setFld (ok : Cn → Fd → Bool) (f : Fd) (v : W × O) : W × O → Option (W × O)
  | (.ins c fs vs, .ow cs) => if ok c f && decide (fs.length < 1000) then some (.ins c (putF fs vs f v.1).1 (putF fs vs f v.1).2, .ow (setC cs ((kIx fs f).getD fs.length) v.2)) else none
  | _ => none
/-- methods of lists: the list behind, the result -/
def bmW : Bm → W × O → List (W × O) → Option ((W × O) × (W × O))
  | .append, (.lst xs, .ow cs), [y] => if xs.length < sizeLine then some ((.lst (xs ++ [y.1]), .ow (setC cs xs.length y.2)), (.non, .sh)) else none
  | .pop, (.lst xs, .ow []), [] => (xs[xs.length - 1]?).map fun y => ((.lst xs.dropLast, .ow []), (y, .sh))
  | .pop, (.lst xs, .ow []), [(.int i, _)] => if decide (-(2 ^ 63) ≤ i) && decide (i < 2 ^ 63) then (seqIndex? i xs.length).bind fun k => (xs[k]?).map fun y => ((.lst (xs.eraseIdx k), .ow []), (y, .sh)) else none
  | .reverse, (.lst xs, .ow []), [] => some ((.lst xs.reverse, .ow []), (.non, .sh))
  | .clear, (.lst xs, .ow []), [] => some ((.lst [], .ow []), (.non, .sh))
  | .extend, (.lst xs, .ow []), [(.lst ys, o)] => if o.flat && decide (xs.length + ys.length ≤ sizeLine) then some ((.lst (xs ++ ys), .ow []), (.non, .sh)) else none
  | .insert, (.lst xs, .ow []), [(.int i, _), (y, .sh)] => if decide (xs.length < sizeLine) && (decide (0 ≤ i) && decide (i < 2 ^ 63)) then some ((.lst (xs.take i.toNat ++ [y] ++ xs.drop i.toNat), .ow []), (.non, .sh)) else none
  | .remove, (.lst xs, .ow []), [(y, .sh)] => match W.dats xs, y.dat with
    | some ds, some d => if SeqAt.shaped (.list ds) && SeqAt.shaped d then (ds.findIdx? fun z => PyData.eqv z d).map fun j => ((.lst (xs.eraseIdx j), .ow []), (.non, .sh)) else none
    | _, _ => none
  | _, _, _ => none
/-- .. that change nothing -/
def bmQ : Bm → W → List W → Option W
  | .index, .lst xs, [y] => match W.dats xs, y.dat with
    | some ds, some d => if SeqAt.shaped (.list ds) && SeqAt.shaped d then (ds.findIdx? fun z => PyData.eqv z d).map fun j => .int (j : Nat) else none
    | _, _ => none
  | .count, .lst xs, [y] => match W.dats xs, y.dat with
    | some ds, some d => if SeqAt.shaped (.list ds) && SeqAt.shaped d then some (.int (ds.countP fun z => PyData.eqv z d : Nat)) else none
    | _, _ => none
  | _, _, _ => none
/-! ### calls -/
/-- the arguments as they are handed over: the values, which slots are lent, the slots behind -/
def resA (asg : Nat → Bool) : List Arg → Nat → En → Option (List (W × O) × List (Option Nat) × En)
  | [], _, ω => some ([], [], ω)
  | .val a :: r, j, ω => (resA asg r (j + 1) ω).map fun x => (a :: x.1, none :: x.2.1, x.2.2)
  | .slot i :: r, j, ω => (slot ω i).bind fun wo =>
    if wo.2.isSh then (resA asg r (j + 1) ω).map fun x => ((wo.1, .sh) :: x.1, none :: x.2.1, x.2.2)
    else if wo.2.free then (if asg j then (resA asg r (j + 1) (ω.set i (some (wo.1, .sh)))).map fun x => ((wo.1, .sh) :: x.1, none :: x.2.1, x.2.2)
      else (resA asg r (j + 1) (ω.set i none)).map fun x => (wo :: x.1, some i :: x.2.1, x.2.2))
    else none
/-- what was lent comes back -/
def backA : List (Option Nat) → En → En → Option En
  | [], _, ω => some ω
  | none :: r, ps, ω => backA r (ps.drop 1) ω
  | some i :: r, some wo :: ps, ω => backA r ps (ω.set i (some wo))
  | _, _, _ => none
def callR (f : Fe) (ds : List Arg) (ω : En) : Rr (W × O) := match resA f.asg ds 0 ω with
  | none => .no
  | some (as, ls, ω1) => match f.run as with
    | .ok r ps => (match backA ls ps ω1 with
      | some ω2 => .ok r ω2
      | none => .no)
    | .ex c fs ws ps => (match backA ls ps ω1 with
      | some ω2 => .ex c fs ws ω2
      | none => .no)
    | .no => .no
/-! ### loops -/
def bndCT : CT → W → En → Option En
  | .one i, x, ω => some (ω.set i (some (x, .sh)))
  | .many is, x, ω => match x with
    | .tup xs => if xs.length = is.length then some (setMany ω is (xs.map (·, .sh))) else none
    | _ => none
where
  setMany : En → List Nat → List (W × O) → En
    | ω, i :: is, x :: xs => setMany (ω.set i (some x)) is xs
    | ω, _, _ => ω
def wipeN (ω : En) : List Nat → En
  | [] => ω
  | v :: vs => (wipeN ω vs).set v none
/-- the own slots as they were -/
def restN (ω0 ω : En) : List Nat → En
  | [] => ω
  | v :: vs => (restN ω0 ω vs).set v (ω0.getD v none)
def frzT : W × O → Option W := fun x => if x.2.free then some x.1 else none
def cmpL (bnd : W → En → Option En) (tst : En → Rr Bool) (elt : En → Rr (W × O)) : List W → List W → En → Rr (List W)
  | [], acc, ω => .ok acc ω
  | x :: xs, acc, ω => match bnd x ω with
    | none => .no
    | some ω1 => match tst ω1 with
      | .ok true ω2 => (match elt ω2 with
        | .ok y ω3 => (match frzT y with
          | some y => if acc.length < sizeLine then cmpL bnd tst elt xs (acc ++ [y]) ω3 else .no
          | none => .no)
        | _ => .no)
      | .ok false ω2 => cmpL bnd tst elt xs acc ω2
      | _ => .no
def dcmpL (bnd : W → En → Option En) (tst : En → Rr Bool) (ek ev : En → Rr (W × O)) : List W → List Key → List W → En → Rr (List Key × List W)
  | [], ks, vs, ω => .ok (ks, vs) ω
  | x :: xs, ks, vs, ω => match bnd x ω with
    | none => .no
    | some ω1 => match tst ω1 with
      | .ok true ω2 => (match ek ω2 with
        | .ok k ω3 => (match ev ω3 with
          | .ok y ω4 => (match kyW k.1, frzT y with
            | some k, some y => if ks.length < sizeLine then dcmpL bnd tst ek ev xs (putW ks vs k y).1 (putW ks vs k y).2 ω4 else .no
            | _, _ => .no)
          | _ => .no)
        | _ => .no)
      | .ok false ω2 => dcmpL bnd tst ek ev xs ks vs ω2
      | _ => .no
mutual
/-- lock i is nowhere -/
def O.nolk (i : Nat) : O → Bool
  | .sh => true
  | .lk j => j != i
  | .hole => true
  | .ow cs => O.nolks i cs
  | .tp cs => O.nolks i cs
def O.nolks (i : Nat) : List O → Bool
  | [] => true
  | o :: os => o.nolk i && O.nolks i os
end
def nolkE (i : Nat) (ω : En) : Bool := ω.all fun x => match x with
  | some (_, o) => o.nolk i
  | none => true
def unlkS (i : Nat) (x : O) (ω : En) : En := match slot ω i with
  | some (w, .lk j) => if j = i then ω.set i (some (w, x)) else ω
  | _ => ω
def chkN (i : Nat) (ω : En) : Option En := if nolkE i ω then some ω else none
def unlk (u : Option Nat) (ω : En) : Option En := match u with
  | none => some ω
  | some i => chkN i (unlkS i (.ow []) ω)
def Rr.unlk {α : Type} (u : Option Nat) (r : Rr α) : Rr α := match r with
  | .ok a ω => (match MP.unlk u ω with
    | some ω' => .ok a ω'
    | none => .no)
  | .ex _ _ _ _ => .no
  | .no => .no
/-- the items of what is walked -/
inductive Wt where
  | seq | keys | vals | items
def Wt.of (k : Wt) : W → Option (List W)
  | .lst xs => match k with
    | .seq => some xs
    | _ => none
  | .kl xs => match k with
    | .seq => some xs
    | _ => none
  | .tup xs => match k with
    | .seq => some xs
    | _ => none
  | .dct ks vs => match k with
    | .seq => none
    | .keys => some (ks.map wK)
    | .vals => some vs
    | .items => some ((ks.zip vs).map fun p => .tup [wK p.1, p.2])
  | _ => none
def isCon : W → Bool
  | .lst _ => true
  | .dct _ _ => true
  | _ => false
/-- a variable is walked: it is locked meanwhile, if it is owned -/
def walkV (k : Wt) (bad : List Nat) (i : Nat) (ω : En) : Rr (List W × Option Nat) := match slot ω i with
  | none => .no
  | some (w, o) => match k.of w with
    | none => .no
    | some xs => match o with
      | .sh => .ok (xs, none) ω
      | .lk _ => .ok (xs, none) ω
      | .ow [] => if isCon w then (if bad.contains i then .ok (xs, none) (ω.set i (some (w, .sh))) else if nolkE i ω then .ok (xs, some i) (ω.set i (some (w, .lk i))) else .no) else .no
      | _ => .no
def walkT (k : Wt) (x : W × O) (ω : En) : Rr (List W × Option Nat) := match k.of x.1 with
  | none => .no
  | some xs => if x.2.flat then .ok (xs, none) ω else .no
section
variable (P : Prog) (Γ : Nat → Fe)
def fM (c : Cn) (m : Mn) : Option Fe := (P.mt c m).map Γ
def fP (c : Cn) (m : Mn) : Option Fe := (P.pt c m).map Γ
def fS (c : Cn) (m : Mn) : Option Fe := (P.st c m).map Γ
def clsOf : W → Option Cn
  | .ins c _ _ => some c
  | _ => none
/-- a receiver, an argument: a slot that is not shared is handed over as it is -/
def argV (ω : En) (i : Nat) (r : Rr (W × O)) : Rr Arg := match slot ω i with
  | some (w, o) => if o.isSh then .ok (.val (w, .sh)) ω else .ok (.slot i) ω
  | none => .no
def Rr.arg (r : Rr (W × O)) : Rr Arg := r.bind fun x ω => .ok (.val x) ω
def argW (ω : En) : Arg → Option W
  | .val x => some x.1
  | .slot i => (slotQ ω i).map Prod.fst
/-- two operands: what they are when both are known -/
def op2 (a : Ex) (va : En → Rr (W × O)) (b : Ex) (vb : En → Rr (W × O)) (ω : En) : Rr ((W × O) × (W × O)) := match evQ P a ω with
  | some x => (match evQ P b ω with
    | some y => .ok (x, y) ω
    | none => if flatW x.1 then (vb ω).bind fun y ω1 => .ok ((x.1, .sh), y) ω1
      else (match a with
        | .var i => (vb ω).bind fun y ω1 => (match slotQ ω1 i with
          | some x1 => .ok (x1, y) ω1
          | none => .no)
        | _ => (va ω).bind fun x ω1 => (vb ω1).bind fun y ω2 => .ok (x, y) ω2))
  | none => (va ω).bind fun x ω1 => (match evQ P b ω1 with
    | some y => .ok (x, y) ω1
    | none => (vb ω1).bind fun y ω2 => .ok (x, y) ω2)
/-- an operand that is only read -/
def op1 (a : Ex) (va : En → Rr (W × O)) (ω : En) : Rr (W × O) := match evQ P a ω with
  | some x => .ok x ω
  | none => va ω
def argOf (a : Ex) (va : En → Rr (W × O)) (ω : En) : Rr Arg := match a with
  | .var i => argV ω i .no
  | _ => (va ω).arg
def xCmp (o : CO) (r : Rr ((W × O) × (W × O))) : Rr (W × O) := r.bind fun xy ω1 => optR ((opCmp o xy.1.1 xy.2.1).map fun k => (.bl k, .sh)) ω1
def xBin (o : BO) (r : Rr ((W × O) × (W × O))) : Rr (W × O) := r.bind fun xy ω1 => match opBin o xy.1.1 xy.2.1 with
  | some w => .ok (w, .sh) ω1
  | none => optR (newBin o xy.1 xy.2) ω1
def shR (r : Rr (W × O)) : Rr (W × O) := r.bind fun z ω => if z.2.isSh then .ok (z.1, .sh) ω else .no
def xIx (a : Ex) (va : En → Rr (W × O)) (b : Ex) (vb : En → Rr (W × O)) (ω : En) : Rr (W × O) := match evQ P a ω with
  | some _ => shR ((op2 P a va b vb ω).bind fun xy ω1 => optR (ixW xy.1 xy.2.1) ω1)
  | none => (va ω).bind fun x ω1 => match evQ P b ω1 with
    | some y => optR (ixW x y.1) ω1
    | none => shR ((vb ω1).bind fun y ω2 => optR (ixW x y.1) ω2)
def xSl (l h : Bool) (a : Ex) (va : En → Rr (W × O)) (lo hi : Ex) (ω : En) : Rr (W × O) := (op1 P a va ω).bind fun x ω1 =>
  match (if l then (intQ (evQ P lo ω1)).map some else some none), (if h then (intQ (evQ P hi ω1)).map some else some none) with
  | some i, some j => (match newSl x i j with
    | some r => .ok r ω1
    | none => optR (slW x i j) ω1)
  | _, _ => .no
def xFld (f : Fd) (r : Rr (W × O)) : Rr (W × O) := r.bind fun x ω1 => optR (fldW P.fok f x) ω1
def xProp (m : Mn) (r : Rr Arg) : Rr (W × O) := r.bind fun d ω1 => match (argW ω1 d).bind clsOf with
  | some c => (match fP P Γ c m with
    | some f => (match callR f [d] ω1 with
      | .ok r ω2 => .ok r ω2
      | _ => .no)
    | none => .no)
  | none => .no
def xCall (f : Fe) (r : Rr (List Arg)) : Rr (W × O) := r.bind fun ds ω1 => callR f ds ω1
def xMeth (m : Mn) (r : Rr Arg) (as : En → Rr (List Arg)) : Rr (W × O) := r.bind fun d ω1 => match (argW ω1 d).bind clsOf with
  | some c => (match fM P Γ c m with
    | some f => (as ω1).bind fun ds ω2 => callR f (d :: ds) ω2
    | none => .no)
  | none => .no
def xMake (c : Cn) (r : Rr (List Arg)) : Rr (W × O) := r.bind fun ds ω1 => match fM P Γ c .init with
  | some f => if f.asg 0 then .no else (match resA f.asg ds 1 ω1 with
    | none => .no
    | some (as, ls, ω2) => match f.run ((.ins c [] [], .ow []) :: as) with
      | .ok (.non, _) (some self :: ps) => (match backA ls ps ω2 with
        | some ω3 => if self.2.free then .ok self ω3 else .no
        | none => .no)
      | .ex c fs ws (_ :: ps) => (match backA ls ps ω2 with
        | some ω3 => .ex c fs ws ω3
        | none => .no)
      | _ => .no)
  | none => .no
def xSm (c : Cn) (m : Mn) (r : Rr (List Arg)) : Rr (W × O) := r.bind fun ds ω1 => match fS P Γ c m with
  | some f => callR f ds ω1
  | none => .no
def xBlt1 (b : Blt) (r : Rr (W × O)) : Rr (W × O) := r.bind fun x ω1 => (match bltW b [x.1] with
  | some w => .ok (w, .sh) ω1
  | none => optR (newBlt b x) ω1)
def xBltN (b : Blt) (r : Rr (List (W × O))) : Rr (W × O) := r.bind fun ps ω1 => optR ((bltW b (ps.map Prod.fst)).map (·, .sh)) ω1
def isOne : Exs → Option Ex
  | .cons e .nil => some e
  | _ => none
/-- the arguments of a built-in function: a single one is only read -/
def xBlt (b : Blt) (es : Exs) (vs : En → Rr (List (W × O))) (ω : En) : Rr (W × O) := match isOne es with
  | some e => (match evQ P e ω with
    | some x => xBlt1 b (.ok x ω)
    | none => (vs ω).bind fun ps ω1 => match ps with
      | [x] => xBlt1 b (.ok x ω1)
      | _ => .no)
  | none => xBltN b (vs ω)
def xIsi (u : Ty) (r : Rr (W × O)) : Rr (W × O) := r.bind fun x ω1 => optR ((P.isi (tyW x.1) u).map fun k => (.bl k, .sh)) ω1
def isLst : Option (W × O) → Bool
  | some (.lst _, _) => true
  | _ => false
def xBm (b : Bm) (o : Ex) (vo : En → Rr (W × O)) (vs : En → Rr (List (W × O))) (ω : En) : Rr (W × O) := match evPl P o ω with
  | some (i, []) => if isLst (slotQ ω i) then (vs ω).bind fun ps ω1 => (match slotQ ω1 i with
    | some x => (match bmQ b x.1 (ps.map Prod.fst) with
      | some w => .ok (w, .sh) ω1
      | none => (match bmW b x ps with
        | some (x', r) => .ok r (ω1.set i (some x'))
        | none => .no))
    | none => .no) else .no
  | some (i, p) => (match slot ω i with
    | none => .no
    | some root => (match getP root p with
      | none => .no
      | some x => if isLst (some x) && x.2.full then (vs (ω.set i none)).bind fun ps ω1 => (match bmW b x ps with
        | some (x', r) => (match updP (fun _ => some x') root p with
          | some root' => .ok r (ω1.set i (some root'))
          | none => .no)
        | none => .no) else .no))
  | none => (vo ω).bind fun x ω1 => if isLst (some x) then (vs ω1).bind fun ps ω2 => (match bmQ b x.1 (ps.map Prod.fst) with
      | some w => .ok (w, .sh) ω2
      | none => (match bmW b x ps with
        | some (_, r) => .ok r ω2
        | none => .no)) else .no
def xDisp (r : Rr (List (Key × (W × O)))) : Rr (W × O) := r.bind fun kv ω1 => if decide (kv.length ≤ 15) && decide ((kv.map Prod.fst).Nodup) then .ok (.dct (kv.map Prod.fst) (kv.map fun x => x.2.1), owO (kv.map fun x => x.2.2)) ω1 else .no
def xTup (r : Rr (List (W × O))) : Rr (W × O) := r.bind fun ps ω1 => if ps.length ≤ sizeLine then .ok (.tup (ps.map Prod.fst), tpO (ps.map Prod.snd)) ω1 else .no
def xLst (r : Rr (List (W × O))) : Rr (W × O) := r.bind fun ps ω1 => if ps.length ≤ sizeLine then .ok (.lst (ps.map Prod.fst), owO (ps.map Prod.snd)) ω1 else .no
def xComp (t : CT) (own : List Nat) (it : Rr (List W × Option Nat)) (tst : En → Rr Bool) (elt : En → Rr (W × O)) : Rr (W × O) := it.bind fun xu ω1 => if t.slots.all (fun i => own.contains i) && decide own.Nodup then
  ((cmpL (fun x ω => bndCT t x (wipeN ω own)) tst elt xu.1 [] (wipeN ω1 own)).bind fun ys ω2 => .ok (.lst ys, .ow []) (restN ω1 ω2 own)).unlk xu.2 else .no
def xDComp (t : CT) (own : List Nat) (it : Rr (List W × Option Nat)) (tst : En → Rr Bool) (ek ev : En → Rr (W × O)) : Rr (W × O) := it.bind fun xu ω1 => if t.slots.all (fun i => own.contains i) && decide own.Nodup then
  ((dcmpL (fun x ω => bndCT t x (wipeN ω own)) tst ek ev xu.1 [] [] (wipeN ω1 own)).bind fun ys ω2 => .ok (.dct ys.1 ys.2, .ow []) (restN ω1 ω2 own)).unlk xu.2 else .no
def truR (r : Rr (W × O)) : Rr Bool := r.bind fun x ω1 => optR (truW x.1) ω1
def tq (e : Ex) (ω : En) (r : Rr Bool) : Rr Bool := match evTq P e ω with
  | some k => .ok k ω
  | none => r
def xNeg (r : Rr (W × O)) : Rr (W × O) := r.bind fun x ω1 => optR ((intQ (some x)).map fun i => (.int (-i), .sh)) ω1
def xNot (r : Rr (W × O)) : Rr (W × O) := r.bind fun x ω1 => optR ((blQ (some x)).map fun i => (.bl !i, .sh)) ω1
def blR (r : Rr Bool) : Rr (W × O) := r.bind fun k ω1 => .ok (.bl k, .sh) ω1
def rngW : List W → Option (List W)
  | [.int j] => if decide (-(2 ^ 62) ≤ j) && decide (j < 2 ^ 62) then some ((List.range j.toNat).map fun (k : Nat) => .int (k : Int)) else none
  | [.int i, .int j] => if (decide (-(2 ^ 62) ≤ i) && decide (i < 2 ^ 62)) && (decide (-(2 ^ 62) ≤ j) && decide (j < 2 ^ 62)) then some ((List.range (j - i).toNat).map fun (k : Nat) => .int (i + (k : Int))) else none
  | [.int i, .int j, .int c] => if decide (c ≠ 0) && (decide (c.natAbs < 1073741824) && (Builtin.Range.small i j c && decide (0 ≤ Builtin.Range.rangeSize i j c))) then some ((List.range (Builtin.Range.rangeSize i j c).toNat).map fun (k : Nat) => .int (i + (k : Int) * c)) else none
  | _ => none
def walkE (k : Wt) (e : Ex) (ve : En → Rr (W × O)) (bad : List Nat) (ω : En) : Rr (List W × Option Nat) := match e with
  | .var i => walkV k bad i ω
  | _ => (ve ω).bind (walkT k)
def isBl : W → Option Bool
  | .bl k => some k
  | _ => none
def prsE : List (En → Rr (W × O)) → List (En → Rr (W × O)) → En → Rr (List (Key × (W × O)))
  | [], [], ω => .ok [] ω
  | fk :: r, fv :: q, ω => (fk ω).bind fun x ω1 => (fv ω1).bind fun y ω2 => (optR (kyW x.1) ω2).bind fun k _ => (prsE r q ω2).bind fun ds ω3 => .ok ((k, y) :: ds) ω3
  | _, _, _ => .no
mutual
def evV : Ex → En → Rr (W × O)
  | .bin o a b, ω => qv P (.bin o a b) ω <| xBin o (op2 P a (evV a) b (evV b) ω)
  | .cmp o a b, ω => qv P (.cmp o a b) ω <| xCmp o (op2 P a (evV a) b (evV b) ω)
  | .neg a, ω => qv P (.neg a) ω <| xNeg (evV a ω)
  | .not a, ω => qv P (.not a) ω <| xNot (evV a ω)
  | .and es, ω => qv P (.and es) ω <| blR (evAnd es ω)
  | .or es, ω => qv P (.or es) ω <| blR (evOr es ω)
  | .ife c a b, ω => (evT c ω).bind fun k ω1 => if k then evV a ω1 else evV b ω1
  | .tup es, ω => qv P (.tup es) ω <| xTup (evVs es ω)
  | .lst es, ω => xLst (evVs es ω)
  | .dnew, ω => .ok (.dct [] [], .ow []) ω
  | .ix a b, ω => qv P (.ix a b) ω <| xIx P a (evV a) b (evV b) ω
  | .sl l h a lo hi, ω => qv P (.sl l h a lo hi) ω <| xSl P l h a (evV a) lo hi ω
  | .fld f a, ω => qv P (.fld f a) ω <| xFld P f (evV a ω)
  | .prop m a, ω => xProp P Γ m (argOf a (evV a) ω)
  | .call f es, ω => xCall (Γ f) (evAs es ω)
  | .meth m a es, ω => xMeth P Γ m (argOf a (evV a) ω) (evAs es)
  | .make c es, ω => xMake P Γ c (evAs es ω)
  | .sm c m es, ω => xSm P Γ c m (evAs es ω)
  | .blt b es, ω => qv P (.blt b es) ω <| xBlt P b es (evVs es) ω
  | .isi u a, ω => qv P (.isi u a) ω <| xIsi P u (evV a ω)
  | .bm b o es, ω => xBm P b o (evV o) (evVs es) ω
  | .disp ks vs, ω => xDisp (prsE (evFs ks) (evFs vs) ω)
  | .comp t own it ifs e, ω => xComp t own (evW it own ω) (evIf ifs) (evV e)
  | .dcomp t own it ifs k v, ω => xDComp t own (evW it own ω) (evIf ifs) (evV k) (evV v)
  | .var i, ω => qv P (.var i) ω .no
  | .int i, ω => .ok (.int i, .sh) ω
  | .str i, ω => .ok (.str i, .sh) ω
  | .bl i, ω => .ok (.bl i, .sh) ω
  | .non, ω => .ok (.non, .sh) ω
  | .kon x v, ω => qv P (.kon x v) ω .no
  | .cmp2 o o2 a b c, ω => qv P (.cmp2 o o2 a b c) ω .no
def evAs : Exs → En → Rr (List Arg)
  | .nil, ω => .ok [] ω
  | .cons e r, ω => (argOf e (evV e) ω).bind fun d ω1 => (evAs r ω1).bind fun ds ω2 => .ok (d :: ds) ω2
def evVs : Exs → En → Rr (List (W × O))
  | .nil, ω => .ok [] ω
  | .cons e r, ω => (evV e ω).bind fun d ω1 => (evVs r ω1).bind fun ds ω2 => .ok (d :: ds) ω2
def evFs : Exs → List (En → Rr (W × O))
  | .nil => []
  | .cons e r => evV e :: evFs r
def evAnd : Exs → En → Rr Bool
  | .nil, ω => .ok true ω
  | .cons e r, ω => (evV e ω).bind fun x ω1 => (optR (isBl x.1) ω1).bind fun k _ => if k then evAnd r ω1 else .ok false ω1
def evOr : Exs → En → Rr Bool
  | .nil, ω => .ok false ω
  | .cons e r, ω => (evV e ω).bind fun x ω1 => (optR (isBl x.1) ω1).bind fun k _ => if k then .ok true ω1 else evOr r ω1
def evT : Ex → En → Rr Bool
  | .not a, ω => (evT a ω).bind fun k ω1 => .ok (!k) ω1
  | .and es, ω => evTa es ω
  | .or es, ω => evTo es ω
  | .cmp o a b, ω => tq P (.cmp o a b) ω <| truR (xCmp o (op2 P a (evV a) b (evV b) ω))
  | .ix a b, ω => tq P (.ix a b) ω <| truR (xIx P a (evV a) b (evV b) ω)
  | .fld f a, ω => tq P (.fld f a) ω <| truR (xFld P f (evV a ω))
  | .prop m a, ω => truR (xProp P Γ m (argOf a (evV a) ω))
  | .call f es, ω => truR (xCall (Γ f) (evAs es ω))
  | .meth m a es, ω => truR (xMeth P Γ m (argOf a (evV a) ω) (evAs es))
  | .sm c m es, ω => truR (xSm P Γ c m (evAs es ω))
  | .blt b es, ω => tq P (.blt b es) ω <| truR (xBlt P b es (evVs es) ω)
  | .isi u a, ω => tq P (.isi u a) ω <| truR (xIsi P u (evV a ω))
  | e, ω => tq P e ω .no
def evTa : Exs → En → Rr Bool
  | .nil, ω => .ok true ω
  | .cons e r, ω => (evT e ω).bind fun k ω1 => if k then evTa r ω1 else .ok false ω1
def evTo : Exs → En → Rr Bool
  | .nil, ω => .ok false ω
  | .cons e r, ω => (evT e ω).bind fun k ω1 => if k then .ok true ω1 else evTo r ω1
def evIf : Exs → En → Rr Bool
  | .nil, ω => .ok true ω
  | .cons e _, ω => evT e ω
def evW : Wk → List Nat → En → Rr (List W × Option Nat)
  | .seq e, bad, ω => walkE .seq e (evV e) bad ω
  | .keys e, bad, ω => walkE .keys e (evV e) bad ω
  | .vals e, bad, ω => walkE .vals e (evV e) bad ω
  | .items e, bad, ω => walkE .items e (evV e) bad ω
  | .str e, _, ω => (evV e ω).bind fun x ω1 => match x.1 with
    | .str z => .ok (z.cps.toList.map fun c => .str ⟨#[c]⟩, none) ω1
    | _ => .no
  | .rng es, _, ω => (evVs es ω).bind fun ps ω1 => optR ((rngW (ps.map Prod.fst)).map (·, none)) ω1
end
/-! ### statements -/
def asgT : Tg → List Nat
  | .name i => [i]
  | .tup is => is
  | .tup2 i is => i :: is
  | .sub _ _ => []
mutual
def asgS : St → List Nat
  | .ite _ a b => asgB a ++ asgB b
  | .asg t _ => asgT t
  | .setc i _ => [i]
  | .par is _ => is
  | .for_ t _ b => asgT t ++ asgB b
  | .while_ _ b => asgB b
  | _ => []
def asgB : Sts → List Nat
  | .nil => []
  | .cons s r => asgS s ++ asgB r
end
def Rq.bind (r : Rq) (k : En → Rq) : Rq := match r with
  | .nx ω => k ω
  | .rt a ω => .rt a ω
  | .ex c fs ws ω => .ex c fs ws ω
  | .no => .no
def Rr.q {α : Type} (r : Rr α) (k : α → En → Rq) : Rq := match r with
  | .ok a ω => k a ω
  | .ex c fs ws ω => .ex c fs ws ω
  | .no => .no
def optQ (o : Option En) : Rq := match o with
  | some ω => .nx ω
  | none => .no
def partsO : List O → List W → List (W × O)
  | _, [] => []
  | [], w :: ws => (w, .sh) :: partsO [] ws
  | o :: os, w :: ws => (w, o) :: partsO os ws
def parts (o : O) (xs : List W) : Option (List (W × O)) := match o with
  | .sh => some (partsO [] xs)
  | .tp cs => some (partsO cs xs)
  | _ => none
/-- a target -/
def evG (t : Tg) (x : W × O) (ω : En) : Option En := match t with
  | .name i => some (ω.set i (some x))
  | .tup is => match x.1 with
    | .tup xs => if xs.length = is.length then (parts x.2 xs).map fun ps => bndCT.setMany ω is ps else none
    | _ => none
  | .tup2 i is => match x with
    | (.tup [a, .tup xs], .sh) => if xs.length = is.length then some (bndCT.setMany (ω.set i (some (a, .sh))) is (xs.map (·, .sh))) else none
    | _ => none
  | .sub o i => match evPl P o ω, evQ P i ω with
    | some (j, p), some k => updS ω j p (setItem k.1 x)
    | _, _ => none
/-- what is returned leaves its slot -/
def retV (i : Nat) (ω : En) : Rr (W × O) := match slot ω i with
  | some (w, o) => if o.isSh then .ok (w, .sh) ω else if o.free then .ok (w, o) (ω.set i none) else .no
  | none => .no
def evRs : Exs → En → Rr (List (W × O))
  | .nil, ω => .ok [] ω
  | .cons e r, ω => (match e with
    | .var i => retV i ω
    | e => evV P Γ e ω : Rr (W × O)).bind fun d ω1 => (evRs r ω1).bind fun ds ω2 => .ok (d :: ds) ω2
def evR (e : Ex) (ω : En) : Rr (W × O) := match e with
  | .var i => retV i ω
  | .tup es => xTup (evRs P Γ es ω)
  | e => evV P Γ e ω
def forL (bnd : W → En → Option En) (body : En → Rq) : List W → En → Rq
  | [], ω => .nx ω
  | x :: xs, ω => match bnd x ω with
    | none => .no
    | some ω1 => (body ω1).bind fun ω2 => forL bnd body xs ω2
/-- a dict that was walked when an error came stays shared -/
def unlkX (u : Option Nat) (ω : En) : Option En := match u with
  | none => some ω
  | some i => chkN i (match slot ω i with
    | some (.dct _ _, _) => unlkS i .sh ω
    | _ => unlkS i (.ow []) ω)
def Rq.unlk (u : Option Nat) (r : Rq) : Rq := match r with
  | .nx ω => (match MP.unlk u ω with
    | some ω' => .nx ω'
    | none => .no)
  | .rt a ω => (match MP.unlk u ω with
    | some ω' => .rt a ω'
    | none => .no)
  | .ex c fs ws ω => (match unlkX u ω with
    | some ω' => .ex c fs ws ω'
    | none => .no)
  | .no => .no
def whileL (tst : En → Rr Bool) (body : En → Rq) : Nat → En → Rq
  | 0, _ => .no
  | n + 1, ω => (tst ω).q fun k ω1 => if k then (body ω1).bind (whileL tst body n) else .nx ω1
def fuel : Nat := 1000000
mutual
def evS : St → En → Rq
  | .expr e, ω => (evV P Γ e ω).q fun _ ω1 => .nx ω1
  | .ret e, ω => (evR P Γ e ω).q fun x ω1 => .rt x ω1
  | .retN, ω => .rt (.non, .sh) ω
  | .ite c a b, ω => (evT P Γ c ω).q fun k ω1 => if k then evB a ω1 else evB b ω1
  | .asg t e, ω => (evV P Γ e ω).q fun x ω1 => optQ (evG P t x ω1)
  | .setc i e, ω => (evV P Γ e ω).q fun x ω1 => .nx (ω1.set i (some x))
  | .par is es, ω => (evVs P Γ es ω).q fun xs ω1 => if xs.length = is.length then .nx (bndCT.setMany ω1 is xs) else .no
  | .fld f o e, ω => (evV P Γ e ω).q fun x ω1 => match evPl P o ω1 with
    | some (i, p) => optQ (updS ω1 i p (setFld P.fok f x))
    | none => .no
  | .for_ t w b, ω => (evW P Γ w (asgT t ++ asgB b) ω).q fun xu ω1 => (forL (fun x => evG P t (x, .sh)) (evB b) xu.1 ω1).unlk xu.2
  | .while_ c b, ω => whileL (evT P Γ c) (evB b) fuel ω
  | .raise c e, ω => (evV P Γ e ω).q fun _ ω1 => .ex c [] [] ω1
def evB : Sts → En → Rq
  | .nil, ω => .nx ω
  | .cons s r, ω => (evS s ω).bind fun ω1 => evB r ω1
end
def parsR (F : Fn) (n : Nat) (ω : En) : En := (List.range n).map fun j => if (F.star && decide (1 ≤ j)) || (asgB F.body).contains j then none else ω.getD j none
def endF (F : Fn) (n : Nat) (r : Rq) : Rr (W × O) := match r with
  | .nx ω => .ok (.non, .sh) (parsR F n ω)
  | .rt x ω => .ok x (parsR F n ω)
  | .ex c fs ws ω => .ex c fs ws (parsR F n ω)
  | .no => .no
def startN (N : List Str) (xs : List (W × O)) : En := xs.map some ++ List.replicate (N.length - xs.length) none
def evF (F : Fn) : Fe where
  run as := if F.star then (match as with
      | x :: r => if r.all (fun y => y.2.isSh) && decide (r.length ≤ sizeLine) then (endF F (r.length + 1) (evB P Γ F.body (startN F.N [x, (.tup (r.map Prod.fst), .sh)]))) else .no
      | [] => .no)
    else if as.length = F.np then endF F as.length (evB P Γ F.body (startN F.N as)) else .no
  asg j := (F.star && decide (1 ≤ j)) || (asgB F.body).contains j
end
def evN (P : Prog) : Nat → Nat → Fe
  | 0, _ => ⟨fun _ => .no, fun _ => true⟩
  | n + 1, i => match P.fn i with
    | some F => evF P (evN P n) F
    | none => ⟨fun _ => .no, fun _ => true⟩
end MP
set_option Elab.async false
set_option linter.all false
set_option maxRecDepth 100000
/-! EV, part 5: operators agree with their readings. -/
namespace MP
open PySem PySem.Spec PyProof.Rows L2
/-- a value as it is read -/
def Bo (s g : Gp) (L : Lt) (x : W × O) (v : Vl) : Prop := x.2.full = true ∧ ∃ A, R s g L x.2 x.1 v A
section
variable {s g : Gp} {L : Lt} {v va vb : Vl} {w a b : W} {o : O} {x : W × O} {Po : Po}
theorem Bo.sh (h : Bo s g L x v) (hs : Sub s g) (hL : SubL L g) : Sh g x.1 v := by
  obtain ⟨f, A, r⟩ := h
  exact r.sh hs hL f
theorem Bo.of_sh (h : Sh s w v) : Bo s g L (w, .sh) v := ⟨rfl, [], rfl, h⟩
theorem Bo.int {i : Int} : Bo s g L (.int i, .sh) (.int i) := Bo.of_sh rfl
theorem Bo.bl {i : Bool} : Bo s g L (.bl i, .sh) (.bl i) := Bo.of_sh rfl
theorem Bo.str {i : Str} : Bo s g L (.str i, .sh) (.str i) := Bo.of_sh rfl
theorem Bo.non : Bo s g L (.non, .sh) .non := Bo.of_sh rfl
/-- shared items of a list that is read -/
theorem Bo.lst {xs : List W} (h : Bo s g L (.lst xs, o) v) (hf : o.flat = true) (hs : Sub s g) (hL : SubL L g) : ∃ a vs, v = .ref a ∧ g a = some (.lst vs) ∧ Shs s xs vs := by
  obtain ⟨f, A, r⟩ := h
  cases o with
  | sh =>
    obtain ⟨_, a, vs, e, q, q2⟩ := r
    exact ⟨a, vs, e, hs _ _ q, q2⟩
  | lk _ =>
    obtain ⟨_, a, vs, e, q, q2⟩ := r
    exact ⟨a, vs, e, hL _ _ _ q, q2⟩
  | hole => cases f
  | ow cs =>
    cases cs with
    | nil =>
      obtain ⟨a, vs, B, e, _, q, q2⟩ := r
      exact ⟨a, vs, e, q, q2.2⟩
    | cons _ _ => cases hf
  | tp cs => exact r.elim
theorem Bo.dct {ks : List Key} {xs : List W} (h : Bo s g L (.dct ks xs, o) v) (hf : o.flat = true) (hs : Sub s g) (hL : SubL L g) : ∃ a kvs, v = .ref a ∧ IsD g a kvs ∧ kvs.map Prod.fst = ks ∧ Shs s xs (kvs.map Prod.snd) := by
  obtain ⟨f, A, r⟩ := h
  cases o with
  | sh =>
    obtain ⟨_, a, vs, e, q, q2⟩ := r
    exact ⟨a, vs, e, hs.ext.n a |>.2.2 _ q, q2⟩
  | lk _ =>
    obtain ⟨_, a, t, vs, e, q, q2⟩ := r
    exact ⟨a, vs, e, .inr ⟨t, hL _ _ _ q⟩, q2⟩
  | hole => cases f
  | ow cs =>
    cases cs with
    | nil =>
      obtain ⟨a, vs, B, e, _, q, q1, q2⟩ := r
      exact ⟨a, vs, e, .inl q, q1, q2.2⟩
    | cons _ _ => cases hf
  | tp cs => exact r.elim
theorem Bo.kl {xs : List W} (h : Bo s g L (.kl xs, o) v) : ∃ a vs, v = .kl a vs ∧ Shs s xs vs := by
  obtain ⟨f, A, r⟩ := h
  cases o with
  | sh =>
    obtain ⟨_, a, vs, e, q⟩ := r
    exact ⟨a, vs, e, q⟩
  | lk _ => exact r.2.elim
  | hole => cases f
  | ow cs => exact r.elim
  | tp cs => exact r.elim
/-! ### operators -/
theorem opBin_ok {op : BO} (h : opBin op a b = some w) (ha : Sh g a va) (hb : Sh g b vb) (k : ∀ v, Sh g w v → Po v g) : op.b va vb g Po := by
  cases op <;> cases a <;> cases b <;> first | (cases h; done) | skip
  all_goals (cases (ha : _ = _); cases (hb : _ = _))
  · cases h
    exact .inl ⟨_, _, rfl, rfl, trivial, k _ rfl⟩
  · rename_i x y
    have h : (if x.length + y.length ≤ sizeLine then some (W.str (x ++ y)) else none) = some w := h
    split at h
    · cases h
      exact .inr (.inl ⟨_, _, rfl, rfl, by assumption, k _ rfl⟩)
    · cases h
  · cases h
    exact ⟨_, _, rfl, rfl, trivial, k _ rfl⟩
  · rename_i x y
    have h : (if CMulW x y then some (W.int (x * y)) else none) = some w := h
    split at h
    · cases h
      exact .inl ⟨_, _, rfl, rfl, by assumption, k _ rfl⟩
    · cases h
  · rename_i x y
    have h : (if CDivN x y then some (W.int (x.fdiv y)) else none) = some w := h
    split at h
    · cases h
      exact ⟨_, _, rfl, rfl, by assumption, k _ rfl⟩
    · cases h
  · rename_i x y
    have h : (if y ≠ 0 then some (W.int (x.fmod y)) else none) = some w := h
    split at h
    · cases h
      exact ⟨_, _, rfl, rfl, by assumption, k _ rfl⟩
    · cases h
  · rename_i x y
    have h : (if CPow x y then some (W.int (x ^ y.toNat)) else none) = some w := h
    split at h
    · cases h
      exact ⟨_, _, rfl, rfl, by assumption, k _ rfl⟩
    · cases h
  · cases h
    exact ⟨_, _, rfl, rfl, trivial, k _ rfl⟩
mutual
theorem dat_ok : ∀ {w : W} {v : Vl} {d : PyData}, w.dat = some d → Sh g w v → Dt g d v
  | .non, v, d, h, r => by cases h; exact r
  | .bl _, v, d, h, r => by cases h; exact r
  | .int _, v, d, h, r => by cases h; exact r
  | .str _, v, d, h, r => by cases h; exact r
  | .tup xs, v, d, h, r => by
    obtain ⟨ds, h1, h2⟩ := Option.map_eq_some_iff.mp (show (W.dats xs).map PyData.tuple = some d from h)
    subst h2
    obtain ⟨vs, e, q⟩ := r
    exact ⟨vs, e, dats_ok h1 q⟩
  | .lst xs, v, d, h, r => by
    obtain ⟨ds, h1, h2⟩ := Option.map_eq_some_iff.mp (show (W.dats xs).map PyData.list = some d from h)
    subst h2
    obtain ⟨a, vs, e, q, q2⟩ := r
    exact ⟨vs, .inl ⟨a, e, q⟩, dats_ok h1 q2⟩
  | .kl xs, v, d, h, r => by cases h
  | .dct _ _, v, d, h, r => by cases h
  | .ins _ _ _, v, d, h, r => by cases h
theorem dats_ok : ∀ {ws : List W} {vs : List Vl} {ds : List PyData}, W.dats ws = some ds → Shs g ws vs → Dts g ds vs
  | [], vs, ds, h, r => by
    cases h
    exact r
  | x :: xs, vs, ds, h, r => by
    obtain ⟨y, ys, e, q, q2⟩ := r
    unfold W.dats at h
    split at h
    · rename_i d es h1 h2
      cases h
      exact ⟨y, ys, e, dat_ok h1 q, dats_ok h2 q2⟩
    · cases h
end
mutual
theorem wD_dat : ∀ {w : W} {d : PyData}, w.dat = some d → wD d = w
  | .non, d, h => by cases h; rfl
  | .bl _, d, h => by cases h; rfl
  | .int _, d, h => by cases h; rfl
  | .str _, d, h => by cases h; rfl
  | .tup xs, d, h => by
    obtain ⟨ds, h1, h2⟩ := Option.map_eq_some_iff.mp (show (W.dats xs).map PyData.tuple = some d from h)
    subst h2
    show W.tup (wDs ds) = _
    rw [wDs_dats h1]
  | .lst xs, d, h => by
    obtain ⟨ds, h1, h2⟩ := Option.map_eq_some_iff.mp (show (W.dats xs).map PyData.list = some d from h)
    subst h2
    show W.lst (wDs ds) = _
    rw [wDs_dats h1]
  | .kl xs, d, h => by cases h
  | .dct _ _, d, h => by cases h
  | .ins _ _ _, d, h => by cases h
theorem wDs_dats : ∀ {ws : List W} {ds : List PyData}, W.dats ws = some ds → wDs ds = ws
  | [], ds, h => by
    cases h
    rfl
  | x :: xs, ds, h => by
    unfold W.dats at h
    split at h
    · rename_i d es h1 h2
      cases h
      show wD d :: wDs es = _
      rw [wD_dat h1, wDs_dats h2]
    · cases h
end
theorem eqW_ok {k : Bool} (neg : Bool) (h : eqW a b = some k) (ha : Sh g a va) (hb : Sh g b vb) (q : Po (.bl (if neg then !k else k)) g) : bEqD neg va vb g Po := by
  unfold eqW at h
  split at h
  · rename_i d e h1 h2
    split at h
    · rename_i h3
      cases h
      obtain ⟨h4, h5⟩ := band h3
      exact ⟨d, e, dat_ok h1 ha, dat_ok h2 hb, h4, h5, q⟩
    · cases h
  · cases h
theorem flat_ok (h : flatW a = true) (ha : Sh g a va) : flatL va = true := by
  cases a <;> first | (cases h; done) | (cases (ha : _ = _); rfl)
theorem eqF_ok (ha : Sh g a va) (hb : Sh g b vb) (h1 : flatW a = true) (h2 : flatW b = true) : eqL va vb = eqF a b := by
  cases a <;> first | (cases h1; done) | skip
  all_goals (cases b <;> first | (cases h2; done) | skip)
  all_goals (cases (ha : _ = _); cases (hb : _ = _); rfl)
theorem allF_ok : ∀ {xs : List W} {vs : List Vl}, Shs g xs vs → xs.all flatW = true → flatW a = true → Sh g a va → vs.all flatL = true ∧ (vs.any fun z => eqL z va) = xs.any fun z => eqF z a
  | [], vs, r, _, _, _ => by
    have e : vs = [] := r
    subst e
    exact ⟨rfl, rfl⟩
  | x :: xs, vs, r, h, h2, h3 => by
    obtain ⟨y, ys, e, q, q2⟩ := r
    subst e
    rw [List.all_cons] at h
    obtain ⟨f1, f2⟩ := band h
    obtain ⟨k1, k2⟩ := allF_ok q2 f2 h2 h3
    rw [List.all_cons, List.any_cons, List.any_cons, k1, k2, flat_ok f1 q, eqF_ok q h3 f1 h2]
    exact ⟨rfl, rfl⟩
theorem kIx_find {κ : Type} [DecidableEq κ] {k : κ} : ∀ {kvs : List (κ × Vl)}, (valL kvs k).isSome = (kIx (kvs.map Prod.fst) k).isSome
  | [] => rfl
  | p :: r => by
    unfold valL
    rw [List.map_cons, List.find?_cons]
    unfold kIx
    by_cases h : p.1 = k
    · rw [if_pos h]
      simp [h]
    · rw [if_neg h]
      have e : decide (p.1 = k) = false := decide_eq_false h
      rw [e]
      have i := kIx_find (k := k) (kvs := r)
      unfold valL at i
      simp only [Option.isSome_map] at i ⊢
      exact i
theorem kIx_val {κ : Type} [DecidableEq κ] {k : κ} : ∀ {kvs : List (κ × Vl)} {j : Nat}, kIx (kvs.map Prod.fst) k = some j → valL kvs k = (kvs.map Prod.snd)[j]?
  | [], _, h => by cases h
  | p :: r, j, h => by
    rw [List.map_cons] at h
    unfold kIx at h
    unfold valL
    rw [List.find?_cons]
    by_cases hk : p.1 = k
    · rw [if_pos hk] at h
      cases h
      simp [hk]
    · rw [if_neg hk] at h
      obtain ⟨i, h1, h2⟩ := Option.map_eq_some_iff.mp h
      subst h2
      rw [decide_eq_false hk]
      have q := kIx_val h1
      unfold valL at q
      simpa using q
theorem kyW_ok {k : Key} (h : kyW a = some k) (ha : Sh g a va) : va = kL k := by
  cases a <;> first | (cases h; done) | (cases (ha : _ = _); cases h; rfl)
theorem inW_ok {k : Bool} (neg : Bool) (h : inW a b = some k) (ha : Sh g a va) (hb : Sh g b vb) (q : Po (.bl (if neg then !k else k)) g) : bIn neg va vb g Po := by
  cases b with
  | lst xs =>
    have h : (if (flatW a && xs.all flatW) = true then some (xs.any fun z => eqF z a) else none) = some k := h
    split at h
    · rename_i hf
      cases h
      obtain ⟨f1, f2⟩ := band hf
      obtain ⟨l, vs, e, q1, q2⟩ := hb
      obtain ⟨k1, k2⟩ := allF_ok q2 f2 f1 ha
      exact .inl ⟨vs, .inl (.inl ⟨l, e, q1⟩), flat_ok f1 ha, k1, by rw [k2]; exact q⟩
    · cases h
  | tup xs =>
    have h : (if (flatW a && xs.all flatW) = true then some (xs.any fun z => eqF z a) else none) = some k := h
    split at h
    · rename_i hf
      cases h
      obtain ⟨f1, f2⟩ := band hf
      obtain ⟨vs, e, q2⟩ := hb
      obtain ⟨k1, k2⟩ := allF_ok q2 f2 f1 ha
      exact .inl ⟨vs, .inr e, flat_ok f1 ha, k1, by rw [k2]; exact q⟩
    · cases h
  | str y =>
    cases a <;> first | (cases h; done) | skip
    cases (ha : _ = _)
    cases (hb : _ = _)
    cases h
    exact .inr (.inl ⟨_, _, rfl, rfl, q⟩)
  | dct ks xs =>
    obtain ⟨key, h1, h2⟩ := Option.map_eq_some_iff.mp (show (kyW a).map (fun k => (kIx ks k).isSome) = some k from h)
    obtain ⟨d, kvs, e, q1, q2, q3⟩ := hb
    refine .inr (.inr ⟨key, kvs, kyW_ok h1 ha, ⟨d, e, q1⟩, ?_⟩)
    rw [kIx_find, q2, h2]
    exact q
  | _ => cases h
theorem isW_ok {k : Bool} (neg : Bool) (h : isW a b = some k) (ha : Sh g a va) (hb : Sh g b vb) (q : Po (.bl (if neg then !k else k)) g) : ((bIsN neg).or (bIsB neg)) va vb g Po := by
  cases b with
  | non =>
    cases (hb : _ = _)
    refine .inl ⟨rfl, ?_⟩
    cases a
    · cases h; cases (ha : _ = _); exact q
    · cases h; cases (ha : _ = _); exact q
    · cases h; cases (ha : _ = _); exact q
    · cases h; cases (ha : _ = _); exact q
    · cases h; obtain ⟨vs, e, _⟩ := ha; subst e; exact q
    · cases h; obtain ⟨_, vs, e, _⟩ := ha; subst e; exact q
    · cases h; obtain ⟨_, vs, e, _⟩ := ha; subst e; exact q
    · cases h; obtain ⟨_, vs, e, _⟩ := ha; subst e; exact q
    · cases h; obtain ⟨_, vs, e, _⟩ := ha; subst e; exact q
  | bl y =>
    cases a <;> first | (cases h; done) | skip
    cases (ha : _ = _)
    cases (hb : _ = _)
    cases h
    exact .inr ⟨_, _, rfl, rfl, q⟩
  | _ => cases a <;> cases h
theorem opCmp_ok {op : CO} {k : Bool} (h : opCmp op a b = some k) (ha : Sh g a va) (hb : Sh g b vb) (q : Po (.bl k) g) : op.b va vb g Po := by
  cases op with
  | eq => exact eqW_ok false h ha hb q
  | ne =>
    obtain ⟨k', h1, h2⟩ := Option.map_eq_some_iff.mp (show (eqW a b).map not = some k from h)
    subst h2
    exact eqW_ok true h1 ha hb q
  | is_ => exact isW_ok false h ha hb q
  | isn =>
    obtain ⟨k', h1, h2⟩ := Option.map_eq_some_iff.mp (show (isW a b).map not = some k from h)
    subst h2
    exact isW_ok true h1 ha hb q
  | in_ => exact inW_ok false h ha hb q
  | nin =>
    obtain ⟨k', h1, h2⟩ := Option.map_eq_some_iff.mp (show (inW a b).map not = some k from h)
    subst h2
    exact inW_ok true h1 ha hb q
  | lt =>
    cases a <;> cases b <;> first | (cases h; done) | skip
    all_goals (cases (ha : _ = _); cases (hb : _ = _); cases h)
    · exact .inl ⟨_, _, rfl, rfl, q⟩
    · exact .inr ⟨_, _, rfl, rfl, q⟩
  | _ =>
    cases a <;> cases b <;> first | (cases h; done) | skip
    all_goals (cases (ha : _ = _); cases (hb : _ = _); cases h; exact ⟨_, _, rfl, rfl, q⟩)
theorem truW_ok {k : Bool} (h : truW w = some k) (hw : Sh g w v) : Tru g v k := by
  cases w with
  | non => cases h; cases (hw : _ = _); rfl
  | bl b => cases h; cases (hw : _ = _); rfl
  | int i => cases h; cases (hw : _ = _); rfl
  | str y =>
    cases (hw : _ = _)
    have h : (if y.length ≤ sizeLine then some ((y.length : Int) != 0) else none) = some k := h
    split at h
    · cases h; exact ⟨by assumption, rfl⟩
    · cases h
  | tup xs =>
    cases h
    obtain ⟨vs, e, q⟩ := hw
    subst e
    show _ = _
    cases xs with
    | nil => rw [show vs = [] from q] <;> rfl
    | cons _ _ => obtain ⟨_, _, e, _⟩ := q; rw [e] <;> rfl
  | kl xs =>
    cases h
    obtain ⟨a, vs, e, q⟩ := hw
    subst e
    show _ = _
    cases xs with
    | nil => rw [show vs = [] from q] <;> rfl
    | cons _ _ => obtain ⟨_, _, e, _⟩ := q; rw [e] <;> rfl
  | lst xs =>
    cases h
    obtain ⟨a, vs, e, q0, q⟩ := hw
    subst e
    refine .inl ⟨vs, q0, ?_⟩
    cases xs with
    | nil => rw [show vs = [] from q] <;> rfl
    | cons _ _ => obtain ⟨_, _, e, _⟩ := q; rw [e] <;> rfl
  | dct _ _ => cases h
  | ins _ _ _ => cases h
theorem tyW_ok (hw : Sh g w v) : tyOf g v = some (tyW w) := by
  cases w with
  | non => cases (hw : _ = _); rfl
  | bl b => cases (hw : _ = _); rfl
  | int i => cases (hw : _ = _); rfl
  | str y => cases (hw : _ = _); rfl
  | tup xs => obtain ⟨vs, e, q⟩ := hw; subst e; rfl
  | kl xs => obtain ⟨a, vs, e, q⟩ := hw; subst e; rfl
  | lst xs => obtain ⟨a, vs, e, q0, q⟩ := hw; subst e; unfold tyOf; simp only [q0]; rfl
  | dct ks xs =>
    obtain ⟨a, vs, e, q0, q⟩ := hw
    subst e
    unfold tyOf
    rcases q0 with q0 | ⟨t, q0⟩ <;> (simp only [q0]; rfl)
  | ins c fs xs => obtain ⟨a, vs, e, q0, q⟩ := hw; subst e; unfold tyOf; simp only [q0]; rfl
end
end MP
set_option Elab.async false
set_option linter.all false
set_option maxRecDepth 100000
/-! EV, part 6: sorting, subscripts, built-in functions agree with their readings. -/
namespace MP
open PySem PySem.Spec PyProof.Rows L2
/-! ### alike data that no test tells apart are the same -/
mutual
theorem eqv_same : ∀ (x y : PyData), PySem.W.alike x y = true → PyData.eqv x y = true → x = y
  | .none, .none, _, _ => rfl
  | .bool a, .bool b, _, h => by
    unfold PyData.eqv at h
    rw [beq_iff_eq.mp h]
  | .int a, .int b, _, h => by
    unfold PyData.eqv at h
    rw [beq_iff_eq.mp h]
  | .str a, .str b, _, h => by
    unfold PyData.eqv at h
    rw [beq_iff_eq.mp h]
  | .list xs, .list ys, a, h => by
    unfold PyData.eqv at h
    unfold PySem.W.alike at a
    rw [eqvAll_same xs ys a h]
  | .tuple xs, .tuple ys, a, h => by
    unfold PyData.eqv at h
    unfold PySem.W.alike at a
    rw [eqvAll_same xs ys a h]
  | .none, .bool _, a, _ => by simp [PySem.W.alike] at a
  | .none, .int _, a, _ => by simp [PySem.W.alike] at a
  | .none, .str _, a, _ => by simp [PySem.W.alike] at a
  | .none, .list _, a, _ => by simp [PySem.W.alike] at a
  | .none, .tuple _, a, _ => by simp [PySem.W.alike] at a
  | .none, .dict _, a, _ => by simp [PySem.W.alike] at a
  | .bool _, .none, a, _ => by simp [PySem.W.alike] at a
  | .bool _, .int _, a, _ => by simp [PySem.W.alike] at a
  | .bool _, .str _, a, _ => by simp [PySem.W.alike] at a
  | .bool _, .list _, a, _ => by simp [PySem.W.alike] at a
  | .bool _, .tuple _, a, _ => by simp [PySem.W.alike] at a
  | .bool _, .dict _, a, _ => by simp [PySem.W.alike] at a
  | .int _, .none, a, _ => by simp [PySem.W.alike] at a
  | .int _, .bool _, a, _ => by simp [PySem.W.alike] at a
  | .int _, .str _, a, _ => by simp [PySem.W.alike] at a
  | .int _, .list _, a, _ => by simp [PySem.W.alike] at a
  | .int _, .tuple _, a, _ => by simp [PySem.W.alike] at a
  | .int _, .dict _, a, _ => by simp [PySem.W.alike] at a
  | .str _, .none, a, _ => by simp [PySem.W.alike] at a
  | .str _, .bool _, a, _ => by simp [PySem.W.alike] at a
  | .str _, .int _, a, _ => by simp [PySem.W.alike] at a
  | .str _, .list _, a, _ => by simp [PySem.W.alike] at a
  | .str _, .tuple _, a, _ => by simp [PySem.W.alike] at a
  | .str _, .dict _, a, _ => by simp [PySem.W.alike] at a
  | .list _, .none, a, _ => by simp [PySem.W.alike] at a
  | .list _, .bool _, a, _ => by simp [PySem.W.alike] at a
  | .list _, .int _, a, _ => by simp [PySem.W.alike] at a
  | .list _, .str _, a, _ => by simp [PySem.W.alike] at a
  | .list _, .tuple _, a, _ => by simp [PySem.W.alike] at a
  | .list _, .dict _, a, _ => by simp [PySem.W.alike] at a
  | .tuple _, .none, a, _ => by simp [PySem.W.alike] at a
  | .tuple _, .bool _, a, _ => by simp [PySem.W.alike] at a
  | .tuple _, .int _, a, _ => by simp [PySem.W.alike] at a
  | .tuple _, .str _, a, _ => by simp [PySem.W.alike] at a
  | .tuple _, .list _, a, _ => by simp [PySem.W.alike] at a
  | .tuple _, .dict _, a, _ => by simp [PySem.W.alike] at a
  | .dict _, _, a, _ => by simp [PySem.W.alike] at a
theorem eqvAll_same : ∀ (xs ys : List PyData), PySem.W.alikeAll xs ys = true → PyData.eqvAll xs ys = true → xs = ys
  | [], [], _, _ => rfl
  | [], _ :: _, _, h => by simp [PyData.eqvAll] at h
  | _ :: _, [], _, h => by simp [PyData.eqvAll] at h
  | x :: xs, y :: ys, a, h => by
    rw [PyData.eqvAll, Bool.and_eq_true] at h
    rw [PySem.W.alikeAll, Bool.and_eq_true] at a
    rw [eqv_same x y a.1 h.1, eqvAll_same xs ys a.2 h.2]
end
theorem dataLt_same {x y : PyData} (a : PySem.W.alike x y = true) (h1 : PySem.W.dataLt x y = false) (h2 : PySem.W.dataLt y x = false) : x = y := by
  have e : PySem.W.keyToks x = PySem.W.keyToks y := lex_total _ _ h1 h2
  cases q : PyData.eqv x y with
  | true => exact eqv_same x y a q
  | false =>
    have k := (PySem.W.toks_eqv x y a).2 q [] [.inl 0]
    rw [e, PySem.W.lex_pre, lex_irrefl] at k
    cases k
theorem dataLt_trans {x y z : PyData} (h1 : PySem.W.dataLt x y = true) (h2 : PySem.W.dataLt y z = true) : PySem.W.dataLt x z = true := lex_trans _ _ _ h1 h2
theorem leD_trans (a b c : PyData) (h1 : leD a b = true) (h2 : leD b c = true) : leD a c = true := by
  unfold leD at *
  cases e : PySem.W.dataLt c a with
  | false => rfl
  | true =>
    rcases lex_negTrans _ (PySem.W.keyToks b) _ e with h | h
    · rw [show PySem.W.dataLt c b = true from h] at h2; cases h2
    · rw [show PySem.W.dataLt b a = true from h] at h1; cases h1
theorem dataLt_asym {x y : PyData} (h : PySem.W.dataLt x y = true) : PySem.W.dataLt y x = false := by
  cases e : PySem.W.dataLt y x with
  | false => rfl
  | true =>
    have k := dataLt_trans h e
    have : PySem.W.dataLt x x = false := lex_irrefl _
    rw [this] at k
    cases k
theorem leD_total (a b : PyData) : (leD a b || leD b a) = true := by
  unfold leD
  cases e : PySem.W.dataLt b a with
  | false => rfl
  | true => rw [dataLt_asym e] <;> rfl
theorem leS_trans (a b c : Str) (h1 : leS a b = true) (h2 : leS b c = true) : leS a c = true := by
  unfold leS at *
  simp only [Bool.not_eq_true', decide_eq_false_iff_not, List.not_lt] at *
  exact List.le_trans h1 h2
theorem leS_total (a b : Str) : (leS a b || leS b a) = true := by
  unfold leS
  simp only [Bool.or_eq_true, Bool.not_eq_true', decide_eq_false_iff_not, List.not_lt]
  exact List.le_total _ _
theorem leS_anti {a b : Str} (h1 : leS a b = true) (h2 : leS b a = true) : a = b := by
  unfold leS at *
  simp only [Bool.not_eq_true', decide_eq_false_iff_not, List.not_lt] at *
  exact PySem.W.str_of_cps (List.le_antisymm h1 h2)
theorem rising_pw : ∀ (r : List Str) (p : Str), risingS p r = true → (p :: r).Pairwise fun a b => leS a b = true
  | [], p, _ => by simp
  | x :: r, p, h => by
    unfold risingS at h
    obtain ⟨h1, h2⟩ := band h
    have i := rising_pw r x h2
    have hp : leS p x = true := by
      unfold leS
      rw [ltCps_eq] at h1
      exact h1
    refine List.Pairwise.cons (fun y hy => ?_) i
    rcases List.mem_cons.mp hy with rfl | hy
    · exact hp
    · exact leS_trans _ _ _ hp (List.rel_of_pairwise_cons i hy)
theorem sortedS_pw {l : List Str} (h : sortedS l = true) : l.Pairwise fun a b => leS a b = true := by
  cases l with
  | nil => exact List.Pairwise.nil
  | cons x r => exact rising_pw r x h
theorem sortS_eq {ms ns : List Str} (h : ms.Perm ns) (s : sortedS ms = true) : ms = isort leS ns :=
  List.Perm.eq_of_pairwise (le := fun a b => leS a b = true) (fun a b _ _ => leS_anti) (sortedS_pw s) (isort_pw leS_trans leS_total ns) (h.trans (isort_perm leS ns).symm)
theorem sortI_eq {ms ns : List Int} (h : ms.Perm ns) (s : ms.Pairwise (· ≤ ·)) : ms = isort (fun a b => decide (a ≤ b)) ns := by
  refine List.Perm.eq_of_pairwise (le := fun a b => a ≤ b) (fun a b _ _ h1 h2 => Int.le_antisymm h1 h2) s ?_ (h.trans (isort_perm _ ns).symm)
  have k := isort_pw (le := fun (a b : Int) => decide (a ≤ b)) (fun a b c h1 h2 => by simp at *; omega) (fun a b => by simp; omega) ns
  exact k.imp fun h => by simpa using h
theorem sortD_eq {ms ns : List PyData} (hal : alikeB ns = true) (h : ms.Perm ns) (s : ms.Pairwise fun a b => PySem.W.dataLt b a = false) : ms = isort leD ns := by
  have pm := h.trans (isort_perm leD ns).symm
  refine List.Perm.eq_of_pairwise (le := fun a b => PySem.W.dataLt b a = false) (fun a b ha hb h1 h2 => ?_) s ?_ pm
  · have a1 := h.subset ha
    have b1 := (isort_perm leD ns).subset hb
    unfold alikeB at hal
    exact dataLt_same (List.all_eq_true.mp (List.all_eq_true.mp hal a a1) b b1) h2 h1
  · have k := isort_pw (le := leD) leD_trans leD_total ns
    exact k.imp fun h => by
      unfold leD at h
      simpa using h
/-! ### lists of ints, texts, bools -/
section
variable {s g : Gp} {L : Lt} {v va vb : Vl} {w a b : W} {o : O} {x y : W × O} {Po : Po} {h : Gp}
theorem intsW_ok : ∀ {xs : List W} {vs : List Vl} {ns : List Int}, intsW xs = some ns → Shs h xs vs → vs = intsL ns
  | [], vs, ns, e, r => by
    cases e
    exact r
  | x :: xs, vs, ns, e, r => by
    obtain ⟨y, ys, e1, q, q2⟩ := r
    subst e1
    cases x <;> first | (cases e; done) | skip
    rename_i i
    obtain ⟨ms, h1, h2⟩ := Option.map_eq_some_iff.mp (show (intsW xs).map (i :: ·) = some ns from e)
    subst h2
    rw [intsW_ok h1 q2, show y = .int i from q] <;> rfl
theorem bolsW_ok : ∀ {xs : List W} {vs : List Vl} {ns : List Bool}, bolsW xs = some ns → Shs h xs vs → vs = bolsL ns
  | [], vs, ns, e, r => by
    cases e
    exact r
  | x :: xs, vs, ns, e, r => by
    obtain ⟨y, ys, e1, q, q2⟩ := r
    subst e1
    cases x <;> first | (cases e; done) | skip
    rename_i i
    obtain ⟨ms, h1, h2⟩ := Option.map_eq_some_iff.mp (show (bolsW xs).map (i :: ·) = some ns from e)
    subst h2
    rw [bolsW_ok h1 q2, show y = .bl i from q] <;> rfl
theorem strsW_ok : ∀ {xs : List W} {vs : List Vl} {ns : List Str}, strsW xs = some ns → Shs h xs vs → vs = strsL ns
  | [], vs, ns, e, r => by
    cases e
    exact r
  | x :: xs, vs, ns, e, r => by
    obtain ⟨y, ys, e1, q, q2⟩ := r
    subst e1
    cases x <;> first | (cases e; done) | skip
    rename_i i
    obtain ⟨ms, h1, h2⟩ := Option.map_eq_some_iff.mp (show (strsW xs).map (i :: ·) = some ns from e)
    subst h2
    rw [strsW_ok h1 q2, show y = .str i from q] <;> rfl
theorem shs_ints : ∀ (ns : List Int), Shs h (ns.map .int) (intsL ns)
  | [] => rfl
  | i :: r => ⟨_, _, rfl, rfl, shs_ints r⟩
theorem shs_strs : ∀ (ns : List Str), Shs h (ns.map .str) (strsL ns)
  | [] => rfl
  | i :: r => ⟨_, _, rfl, rfl, shs_strs r⟩
theorem shs_keys : ∀ (ks : List Key), Shs h (ks.map wK) (ks.map kL)
  | [] => rfl
  | .inl i :: r => ⟨_, _, rfl, rfl, shs_keys r⟩
  | .inr i :: r => ⟨_, _, rfl, rfl, shs_keys r⟩
theorem keyStrs_ok : ∀ {ks : List Key} {ns : List Str}, keyStrs ks = some ns → ks = ns.map Sum.inr
  | [], ns, e => by cases e; rfl
  | .inl _ :: r, ns, e => by cases e
  | .inr i :: r, ns, e => by
    obtain ⟨ms, h1, h2⟩ := Option.map_eq_some_iff.mp (show (keyStrs r).map (i :: ·) = some ns from e)
    subst h2
    rw [keyStrs_ok h1] <;> rfl
theorem maxI_ok {ns : List Int} {m : Int} (e : maxI ns = some m) : ns ≠ [] ∧ ∀ k, isMaxL ns k → k = m := by
  cases ns with
  | nil => cases e
  | cons i r =>
    cases e
    refine ⟨by simp, fun k ⟨h1, h2⟩ => ?_⟩
    have key : ∀ (r : List Int) (i : Int), r.foldl max i ∈ i :: r ∧ ∀ y ∈ i :: r, y ≤ r.foldl max i := by
      intro r
      induction r with
      | nil => intro i; simp
      | cons a r ih =>
        intro i
        obtain ⟨q1, q2⟩ := ih (max i a)
        rw [List.foldl_cons]
        refine ⟨?_, fun y hy => ?_⟩
        · rcases List.mem_cons.mp q1 with q | q
          · rw [q]
            rcases Int.le_total i a with c | c
            · rw [Int.max_eq_right c]; simp
            · rw [Int.max_eq_left c]; simp
          · exact List.mem_cons_of_mem _ (List.mem_cons_of_mem _ q)
        · have hm := q2 (max i a) List.mem_cons_self
          rcases List.mem_cons.mp hy with rfl | hy
          · omega
          · rcases List.mem_cons.mp hy with rfl | hy
            · omega
            · exact q2 y (List.mem_cons_of_mem _ hy)
    obtain ⟨q1, q2⟩ := key r i
    exact Int.le_antisymm (q2 k h1) (h2 _ q1)
theorem minI_ok {ns : List Int} {m : Int} (e : minI ns = some m) : ns ≠ [] ∧ ∀ k, isMinL ns k → k = m := by
  cases ns with
  | nil => cases e
  | cons i r =>
    cases e
    refine ⟨by simp, fun k ⟨h1, h2⟩ => ?_⟩
    have key : ∀ (r : List Int) (i : Int), r.foldl min i ∈ i :: r ∧ ∀ y ∈ i :: r, r.foldl min i ≤ y := by
      intro r
      induction r with
      | nil => intro i; simp
      | cons a r ih =>
        intro i
        obtain ⟨q1, q2⟩ := ih (min i a)
        rw [List.foldl_cons]
        refine ⟨?_, fun y hy => ?_⟩
        · rcases List.mem_cons.mp q1 with q | q
          · rw [q]
            rcases Int.le_total i a with c | c
            · rw [Int.min_eq_left c]; simp
            · rw [Int.min_eq_right c]; simp
          · exact List.mem_cons_of_mem _ (List.mem_cons_of_mem _ q)
        · have hm := q2 (min i a) List.mem_cons_self
          rcases List.mem_cons.mp hy with rfl | hy
          · omega
          · rcases List.mem_cons.mp hy with rfl | hy
            · omega
            · exact q2 y (List.mem_cons_of_mem _ hy)
    obtain ⟨q1, q2⟩ := key r i
    exact Int.le_antisymm (h2 _ q1) (q2 k h1)
/-! ### parts -/
theorem Rl.get : ∀ {os : List O} {ws : List W} {vs : List Vl} {A : List Addr} {j : Nat} {u : W}, Rl s g L os ws vs A → ws[j]? = some u → ∃ z B, vs[j]? = some z ∧ R s g L (os.getD j .sh) u z B ∧ (∀ a ∈ B, a ∈ A) ∧ (A.Nodup → B.Nodup)
  | [], ws, vs, A, j, u, r, e => by
    obtain ⟨z, e1, q⟩ := r.2.get e
    exact ⟨z, [], e1, ⟨rfl, q⟩, fun _ h => by simp at h, fun _ => List.nodup_nil⟩
  | o :: os, ws, vs, A, j, u, r, e => by
    obtain ⟨w1, ws', v1, vs', A1, A2, e1, e2, e3, q, q2⟩ := r
    subst e1 e2 e3
    cases j with
    | zero =>
      simp at e
      subst e
      exact ⟨v1, A1, rfl, q, fun a h => List.mem_append_left _ h, fun n => (List.nodup_append.mp n).1⟩
    | succ j =>
      obtain ⟨z, B, h1, h2, h3, h4⟩ := Rl.get (j := j) q2 (by simpa using e)
      exact ⟨z, B, by simpa using h1, by simpa using h2, fun a h => List.mem_append_right _ (h3 a h), fun n => h4 (List.nodup_append.mp n).2.1⟩
theorem fulls_get : ∀ (cs : List O) (j : Nat), O.fulls cs = true → (cs.getD j .sh).full = true
  | [], _, _ => rfl
  | c :: cs, 0, h => (band h).1
  | c :: cs, j + 1, h => by
    have := fulls_get cs j (band h).2
    simpa using this
theorem full_part {j : Nat} (h : o.full = true) : (o.part j).full = true := by
  cases o with
  | sh => rfl
  | lk _ => rfl
  | hole => cases h
  | ow cs => exact fulls_get cs j h
  | tp cs => exact fulls_get cs j h
/-- the part of a list, a tuple, a dict, an instance: its value stands where the index says -/
theorem R.part {us : List W} {j : Nat} {u : W} {A : List Addr} (f : x.2.full = true) (r : R s g L x.2 x.1 v A) (hs : Sub s g) (hL : SubL L g) (hk : x.1.kids = us) (e : us[j]? = some u) :
    ∃ vs z C, vs[j]? = some z ∧ vs.length = us.length ∧ R s g L (x.2.part j) u z C ∧ (∀ a ∈ C, a ∈ A) ∧ (A.Nodup → C.Nodup) ∧ (match x.1 with
      | .tup _ => v = .tup vs
      | .kl _ => ∃ a, v = .kl a vs
      | .lst _ => ∃ a, v = .ref a ∧ g a = some (.lst vs)
      | .dct ks _ => ∃ a kvs, v = .ref a ∧ IsD g a kvs ∧ kvs.map Prod.fst = ks ∧ vs = kvs.map Prod.snd
      | .ins c fs _ => ∃ a fvs, v = .ref a ∧ g a = some (.ins c fvs) ∧ fvs.map Prod.fst = fs ∧ vs = fvs.map Prod.snd
      | _ => False) := by
  obtain ⟨w, o⟩ := x
  have len : ∀ {os : List O} {ws : List W} {vs : List Vl} {B : List Addr}, O.fulls os = true → Rl s g L os ws vs B → vs.length = ws.length := fun hf q => (q.sh hs hL hf).length
  cases w with
  | tup xs =>
    cases hk
    cases o with
    | sh =>
      obtain ⟨_, vs, e1, q⟩ := r
      obtain ⟨z, e2, q2⟩ := q.get e
      exact ⟨vs, z, [], e2, q.length, ⟨rfl, q2⟩, fun _ h => by simp at h, fun _ => List.nodup_nil, e1⟩
    | tp cs =>
      obtain ⟨vs, e1, q⟩ := r
      obtain ⟨z, C, e2, q2, q4, q5⟩ := q.get e
      exact ⟨vs, z, C, e2, len f q, q2, q4, q5, e1⟩
    | lk _ => exact r.2.elim
    | hole => cases f
    | ow cs => exact r.elim
  | kl xs =>
    cases hk
    cases o with
    | sh =>
      obtain ⟨_, a, vs, e1, q⟩ := r
      obtain ⟨z, e2, q2⟩ := q.get e
      exact ⟨vs, z, [], e2, q.length, ⟨rfl, q2⟩, fun _ h => by simp at h, fun _ => List.nodup_nil, a, e1⟩
    | tp cs => exact r.elim
    | lk _ => exact r.2.elim
    | hole => cases f
    | ow cs => exact r.elim
  | lst xs =>
    cases hk
    cases o with
    | sh =>
      obtain ⟨_, a, vs, e1, q1, q⟩ := r
      obtain ⟨z, e2, q2⟩ := q.get e
      exact ⟨vs, z, [], e2, q.length, ⟨rfl, q2⟩, fun _ h => by simp at h, fun _ => List.nodup_nil, a, e1, hs _ _ q1⟩
    | lk _ =>
      obtain ⟨_, a, vs, e1, q1, q⟩ := r
      obtain ⟨z, e2, q2⟩ := q.get e
      exact ⟨vs, z, [], e2, q.length, ⟨rfl, q2⟩, fun _ h => by simp at h, fun _ => List.nodup_nil, a, e1, hL _ _ _ q1⟩
    | ow cs =>
      obtain ⟨a, vs, B, e1, eB, q1, q⟩ := r
      obtain ⟨z, C, e2, q2, q4, q5⟩ := q.get e
      subst eB
      exact ⟨vs, z, C, e2, len f q, q2, fun b h => List.mem_cons_of_mem _ (q4 b h), fun n => q5 (List.nodup_cons.mp n).2, a, e1, q1⟩
    | hole => cases f
    | tp cs => exact r.elim
  | dct ks xs =>
    cases hk
    cases o with
    | sh =>
      obtain ⟨_, a, kvs, e1, q1, q3, q⟩ := r
      obtain ⟨z, e2, q2⟩ := q.get e
      exact ⟨_, z, [], e2, q.length, ⟨rfl, q2⟩, fun _ h => by simp at h, fun _ => List.nodup_nil, a, kvs, e1, (hs.ext.n a).2.2 _ q1, q3, rfl⟩
    | lk _ =>
      obtain ⟨_, a, t, kvs, e1, q1, q3, q⟩ := r
      obtain ⟨z, e2, q2⟩ := q.get e
      exact ⟨_, z, [], e2, q.length, ⟨rfl, q2⟩, fun _ h => by simp at h, fun _ => List.nodup_nil, a, kvs, e1, .inr ⟨t, hL _ _ _ q1⟩, q3, rfl⟩
    | ow cs =>
      obtain ⟨a, kvs, B, e1, eB, q1, q3, q⟩ := r
      obtain ⟨z, C, e2, q2, q4, q5⟩ := q.get e
      subst eB
      exact ⟨_, z, C, e2, len f q, q2, fun b h => List.mem_cons_of_mem _ (q4 b h), fun n => q5 (List.nodup_cons.mp n).2, a, kvs, e1, .inl q1, q3, rfl⟩
    | hole => cases f
    | tp cs => exact r.elim
  | ins c fs xs =>
    cases hk
    cases o with
    | sh =>
      obtain ⟨_, a, kvs, e1, q1, q3, q⟩ := r
      obtain ⟨z, e2, q2⟩ := q.get e
      exact ⟨_, z, [], e2, q.length, ⟨rfl, q2⟩, fun _ h => by simp at h, fun _ => List.nodup_nil, a, kvs, e1, hs _ _ q1, q3, rfl⟩
    | lk _ => exact r.2.elim
    | ow cs =>
      obtain ⟨a, kvs, B, e1, eB, q1, q3, q⟩ := r
      obtain ⟨z, C, e2, q2, q4, q5⟩ := q.get e
      subst eB
      exact ⟨_, z, C, e2, len f q, q2, fun b h => List.mem_cons_of_mem _ (q4 b h), fun n => q5 (List.nodup_cons.mp n).2, a, kvs, e1, q1, q3, rfl⟩
    | hole => cases f
    | tp cs => exact r.elim
  | _ => subst hk; simp [W.kids] at e
theorem ixW_own {k : W} {vk : Vl} {z : W × O} {A : List Addr} (h : ixW x k = some z) (f : x.2.full = true) (r : R s g L x.2 x.1 v A) (hk : Sh g k vk) (hs : Sub s g) (hL : SubL L g) (q : ∀ u C, z.2.full = true → R s g L z.2 z.1 u C → (∀ a ∈ C, a ∈ A) → (A.Nodup → C.Nodup) → Po u g) : bIx v vk g Po := by
  obtain ⟨w, o⟩ := x
  cases w with
  | str y =>
    cases k <;> first | (cases h; done) | skip
    rename_i i
    cases (hk : _ = _)
    have e : v = .str y := r.sh hs hL f
    subst e
    have h : (if y.length ≤ sizeLine then (atI y.cps.toList i).map fun c => ((W.str ⟨#[c]⟩, O.sh) : W × O) else none) = some z := h
    split at h
    · obtain ⟨c, h1, h2⟩ := Option.map_eq_some_iff.mp h
      subst h2
      exact .inr (.inl ⟨y, i, c, rfl, rfl, by assumption, h1, q _ [] rfl ⟨rfl, rfl⟩ (fun _ h => by simp at h) fun _ => List.nodup_nil⟩)
    · cases h
  | tup xs =>
    cases k <;> first | (cases h; done) | skip
    rename_i i
    cases (hk : _ = _)
    obtain ⟨j, h1, h2⟩ := Option.bind_eq_some_iff.mp (show (ixN xs.length i).bind (fun j => xs[j]?.map fun x => (x, o.part j)) = some z from h)
    obtain ⟨u, h3, h4⟩ := Option.map_eq_some_iff.mp h2
    subst h4
    obtain ⟨vs, t, C, e1, el, e2, m1, m2, e3⟩ := R.part f r hs hL rfl h3
    refine .inl ⟨vs, i, t, .inr e3, rfl, ?_, q _ C (full_part f) e2 m1 m2⟩
    unfold atI
    rw [el]
    show (ixN xs.length i).bind _ = _
    rw [h1]
    exact e1
  | kl xs =>
    cases k <;> first | (cases h; done) | skip
    rename_i i
    cases (hk : _ = _)
    obtain ⟨j, h1, h2⟩ := Option.bind_eq_some_iff.mp (show (ixN xs.length i).bind (fun j => xs[j]?.map fun x => (x, o.part j)) = some z from h)
    obtain ⟨u, h3, h4⟩ := Option.map_eq_some_iff.mp h2
    subst h4
    obtain ⟨vs, t, C, e1, el, e2, m1, m2, a, e3⟩ := R.part f r hs hL rfl h3
    refine .inl ⟨vs, i, t, .inl (.inr ⟨a, e3⟩), rfl, ?_, q _ C (full_part f) e2 m1 m2⟩
    unfold atI
    rw [el]
    show (ixN xs.length i).bind _ = _
    rw [h1]
    exact e1
  | lst xs =>
    cases k <;> first | (cases h; done) | skip
    rename_i i
    cases (hk : _ = _)
    obtain ⟨j, h1, h2⟩ := Option.bind_eq_some_iff.mp (show (ixN xs.length i).bind (fun j => xs[j]?.map fun x => (x, o.part j)) = some z from h)
    obtain ⟨u, h3, h4⟩ := Option.map_eq_some_iff.mp h2
    subst h4
    obtain ⟨vs, t, C, e1, el, e2, m1, m2, a, e3, e4⟩ := R.part f r hs hL rfl h3
    refine .inl ⟨vs, i, t, .inl (.inl ⟨a, e3, e4⟩), rfl, ?_, q _ C (full_part f) e2 m1 m2⟩
    unfold atI
    rw [el]
    show (ixN xs.length i).bind _ = _
    rw [h1]
    exact e1
  | dct ks xs =>
    obtain ⟨key, h1, h2⟩ := Option.bind_eq_some_iff.mp (show (kyW k).bind (fun k => (kIx ks k).bind fun j => xs[j]?.map fun x => (x, o.part j)) = some z from h)
    obtain ⟨j, h3, h4⟩ := Option.bind_eq_some_iff.mp h2
    obtain ⟨u, h5, h6⟩ := Option.map_eq_some_iff.mp h4
    subst h6
    obtain ⟨vs, t, C, e1, el, e2, m1, m2, a, kvs, e3, e4, e5, e6⟩ := R.part f r hs hL rfl h5
    refine .inr (.inr ⟨key, kvs, t, ⟨a, e3, e4⟩, kyW_ok h1 hk, ?_, q _ C (full_part f) e2 m1 m2⟩)
    rw [kIx_val (by rw [e5]; exact h3), ← e6]
    exact e1
  | _ => cases h
theorem ixW_ok {k : W} {vk : Vl} {z : W × O} (h : ixW x k = some z) (r : Bo s g L x v) (hk : Sh g k vk) (hs : Sub s g) (hL : SubL L g) (q : ∀ u, Bo s g L z u → Po u g) : bIx v vk g Po := by
  obtain ⟨f, A, r⟩ := r
  exact ixW_own h f r hk hs hL fun u C fz rz _ _ => q u ⟨fz, C, rz⟩
theorem getD_ix : ∀ {fvs : List (Fd × Vl)} {f : Fd} {j : Nat}, kIx (fvs.map Prod.fst) f = some j → getD fvs f = (fvs.map Prod.snd)[j]?
  | [], _, _, h => by cases h
  | p :: r, f, j, h => by
    rw [List.map_cons] at h
    unfold kIx at h
    unfold getD
    by_cases hk : p.1 = f
    · rw [if_pos hk] at h ⊢
      cases h
      rfl
    · rw [if_neg hk] at h ⊢
      obtain ⟨i, h1, h2⟩ := Option.map_eq_some_iff.mp h
      subst h2
      rw [getD_ix h1]
      simp
theorem fldW_own {ok : Cn → Fd → Bool} {f : Fd} {z : W × O} {A : List Addr} (h : fldW ok f x = some z) (fx : x.2.full = true) (r : R s g L x.2 x.1 v A) (hs : Sub s g) (hL : SubL L g) (q : ∀ u C, z.2.full = true → R s g L z.2 z.1 u C → (∀ a ∈ C, a ∈ A) → (A.Nodup → C.Nodup) → Po u g) :
    ∃ a c fs u, v = .ref a ∧ g a = some (.ins c fs) ∧ ok c f = true ∧ getD fs f = some u ∧ Po u g := by
  obtain ⟨w, o⟩ := x
  cases w with
  | ins c fs ws =>
    have h : (if ok c f then (kIx fs f).bind fun j => ws[j]?.map fun x => ((x, o.part j) : W × O) else none) = some z := h
    split at h
    · rename_i hc
      obtain ⟨j, h3, h4⟩ := Option.bind_eq_some_iff.mp h
      obtain ⟨u, h5, h6⟩ := Option.map_eq_some_iff.mp h4
      subst h6
      obtain ⟨vs, t, C, e1, el, e2, m1, m2, a, fvs, e3, e4, e5, e6⟩ := R.part fx r hs hL rfl h5
      refine ⟨a, c, fvs, t, e3, e4, hc, ?_, q _ C (full_part fx) e2 m1 m2⟩
      rw [getD_ix (by rw [e5]; exact h3), ← e6]
      exact e1
    · cases h
  | _ => cases h
theorem fldW_ok {ok : Cn → Fd → Bool} {f : Fd} {z : W × O} (h : fldW ok f x = some z) (r : Bo s g L x v) (hs : Sub s g) (hL : SubL L g) (q : ∀ u, Bo s g L z u → Po u g) :
    ∃ a c fs u, v = .ref a ∧ g a = some (.ins c fs) ∧ ok c f = true ∧ getD fs f = some u ∧ Po u g := by
  obtain ⟨fx, A, r⟩ := r
  exact fldW_own h fx r hs hL fun u C fz rz _ _ => q u ⟨fz, C, rz⟩
theorem slW_ok {lo hi : Option Int} {z : W × O} (h : slW x lo hi = some z) (r : Bo s g L x v) (hs : Sub s g) (hL : SubL L g) (q : ∀ u, Bo s g L z u → Po u g) : bSl v lo hi g Po := by
  obtain ⟨w, o⟩ := x
  cases w with
  | str y =>
    have e : v = .str y := r.sh hs hL
    subst e
    have h : (if y.length ≤ sizeLine then some ((W.str (cutS y lo hi), O.sh) : W × O) else none) = some z := by cases o <;> exact h
    split at h
    · cases h
      exact .inr (.inr ⟨y, rfl, by assumption, q _ Bo.str⟩)
    · cases h
  | tup xs =>
    cases o <;> first | (cases h; done) | skip
    cases h
    obtain ⟨_, A, _, vs, e, r⟩ := r
    refine .inr (.inl ⟨vs, e, q _ (Bo.of_sh ⟨_, rfl, ?_⟩)⟩)
    unfold cutL
    rw [r.length]
    exact (r.drop _).take _
  | _ => cases o <;> cases h
end
end MP
set_option Elab.async false
set_option linter.all false
set_option maxRecDepth 100000
/-! EV, part 7: built-in functions, what makes new lists. -/
namespace MP
open PySem PySem.Spec PyProof.Rows L2
section
variable {s g : Gp} {L : Lt} {v va vb : Vl} {w a b : W} {o : O} {x y : W × O} {Po : Po} {h : Gp}
theorem itemsL_ok {xs : List W} (e : itemsL w = some xs) (r : Sh g w v) : ∃ vs, IsL g v vs ∧ Shs g xs vs := by
  cases w <;> first | (cases e; done) | skip
  · cases e
    obtain ⟨a, vs, e, q⟩ := r
    exact ⟨vs, .inr ⟨a, e⟩, q⟩
  · cases e
    obtain ⟨a, vs, e, q, q2⟩ := r
    exact ⟨vs, .inl ⟨a, e, q⟩, q2⟩
theorem itemsL_dats {xs : List W} {ds : List PyData} (e : itemsL w = some xs) (h : W.dats xs = some ds) (r : Sh g w v) : ∃ vs, IsL g v vs ∧ Shs g xs vs ∧ Dts g ds vs := by
  obtain ⟨vs, h1, h2⟩ := itemsL_ok e r
  exact ⟨vs, h1, h2, dats_ok h h2⟩
mutual
theorem dat_noDct : ∀ {w : W} {d : PyData}, w.dat = some d → True := fun _ => trivial
end
theorem alike_all {ds : List PyData} (h : alikeB ds = true) : ∀ x ∈ ds, ∀ y ∈ ds, PySem.W.alike x y = true := fun x hx y hy => List.all_eq_true.mp (List.all_eq_true.mp h x hx) y hy
theorem noneB_ne {d : PyData} (h : (!noneB d) = true) : d ≠ .none := by
  rintro rfl
  cases h
theorem tupB_ne {d : PyData} (h : (!tupB d) = true) : ∀ xs, d ≠ .tuple xs := by
  rintro xs rfl
  cases h
theorem sort_sortable {ds : List PyData} (h : sortB ds = true) : PySem.W.AllAlike ds ∧ PySem.W.Sortable ds ∧ ∀ d ∈ ds, d.depth < 50 := by
  obtain ⟨h1, h2⟩ := band h
  obtain ⟨h3, h4⟩ := band h2
  refine ⟨fun d hd d' hd' => alike_all h1 d hd d' hd', ?_, fun d hd => of_decide_eq_true (List.all_eq_true.mp h4 d hd)⟩
  rcases Bool.or_eq_true_iff.mp h3 with q | q
  · refine .inl fun d hd => ?_
    have k := List.all_eq_true.mp q d hd
    cases d with
    | tuple xs => cases xs with
      | nil => cases k
      | cons x r => exact ⟨x, r, rfl⟩
    | _ => cases k
  · refine .inr fun d hd => ?_
    obtain ⟨k1, k2⟩ := band (List.all_eq_true.mp q d hd)
    exact ⟨noneB_ne k1, tupB_ne k2⟩
theorem shs_one (r : Shs g [w] [v]) : Sh g w v := by
  obtain ⟨y, ys, e, q, q2⟩ := r
  cases e
  exact q
theorem bltB_max2 {i j : Int} (q : Po (.int (if j > i then j else i)) g) : Blt.max.b [.int i, .int j] g Po := .inl ⟨i, j, rfl, q⟩
theorem noDct_dat : (∀ {w : W} {d : PyData}, w.dat = some d → noDct d = true) := by
  intro w
  induction w using W.rec (motive_2 := fun ws => ∀ {ds : List PyData}, W.dats ws = some ds → noDcts ds = true) with
  | non => rintro d h; cases h; rfl
  | bl => rintro d h; cases h; rfl
  | int => rintro d h; cases h; rfl
  | str => rintro d h; cases h; rfl
  | tup xs ih =>
    rintro d h
    obtain ⟨ds, h1, h2⟩ := Option.map_eq_some_iff.mp (show (W.dats xs).map PyData.tuple = some d from h)
    subst h2
    exact ih h1
  | lst xs ih =>
    rintro d h
    obtain ⟨ds, h1, h2⟩ := Option.map_eq_some_iff.mp (show (W.dats xs).map PyData.list = some d from h)
    subst h2
    exact ih h1
  | kl xs ih => rintro d h; cases h
  | dct ks vs ih => rintro d h; cases h
  | ins c fs vs ih => rintro d h; cases h
  | nil => rename_i ds h; cases h; rfl
  | cons x xs ih1 ih2 =>
    rename_i ds h
    unfold W.dats at h
    split at h
    · rename_i d es h1 h2
      cases h
      show (noDct d && noDcts es) = true
      rw [ih1 h1, ih2 h2]
      rfl
    · cases h
theorem bltW_one {b : Blt} (e : bltW b [a] = some w) (r : Sh g a va) (q : ∀ u, Sh g w u → Po u g) : b.b [va] g Po := by
  cases b with
  | len =>
    cases a <;> first | (cases e; done) | skip
    · cases (r : _ = _)
      rename_i z
      have e : (if z.length ≤ sizeLine then some (W.int z.length) else none) = some w := e
      split at e
      · cases e
        exact .inl ⟨_, z.length, rfl, .inl ⟨z, rfl, by assumption, rfl⟩, q _ rfl⟩
      · cases e
    · cases e
      obtain ⟨vs, e, r⟩ := r
      subst e
      exact .inl ⟨_, _, rfl, .inr (.inl ⟨vs, rfl, rfl⟩), q _ (by rw [← r.length] <;> rfl)⟩
    · cases e
      obtain ⟨a, vs, e, r⟩ := r
      subst e
      exact .inl ⟨_, _, rfl, .inr (.inr ⟨vs, .inr ⟨a, rfl⟩, rfl⟩), q _ (by rw [← r.length] <;> rfl)⟩
    · cases e
      obtain ⟨a, vs, e, r1, r⟩ := r
      subst e
      exact .inl ⟨_, _, rfl, .inr (.inr ⟨vs, .inl ⟨a, rfl, r1⟩, rfl⟩), q _ (by rw [← r.length] <;> rfl)⟩
  | sum =>
    obtain ⟨xs, h1, h2⟩ := Option.bind_eq_some_iff.mp (show (itemsL a).bind (fun xs => (intsW xs).map fun ns => W.int ns.sum) = some w from e)
    obtain ⟨ns, h3, h4⟩ := Option.map_eq_some_iff.mp h2
    subst h4
    obtain ⟨vs, h5, h6⟩ := itemsL_ok h1 r
    have e := intsW_ok h3 h6
    subst e
    exact ⟨_, ns, rfl, h5, q _ rfl⟩
  | all =>
    obtain ⟨xs, h1, h2⟩ := Option.bind_eq_some_iff.mp (show (itemsL a).bind (fun xs => (bolsW xs).map fun ns => W.bl (ns.all id)) = some w from e)
    obtain ⟨ns, h3, h4⟩ := Option.map_eq_some_iff.mp h2
    subst h4
    obtain ⟨vs, h5, h6⟩ := itemsL_ok h1 r
    have e := bolsW_ok h3 h6
    subst e
    exact ⟨_, ns, rfl, h5, q _ rfl⟩
  | any =>
    obtain ⟨xs, h1, h2⟩ := Option.bind_eq_some_iff.mp (show (itemsL a).bind (fun xs => (bolsW xs).map fun ns => W.bl (ns.any id)) = some w from e)
    obtain ⟨ns, h3, h4⟩ := Option.map_eq_some_iff.mp h2
    subst h4
    obtain ⟨vs, h5, h6⟩ := itemsL_ok h1 r
    have e := bolsW_ok h3 h6
    subst e
    exact ⟨_, ns, rfl, h5, q _ rfl⟩
  | max =>
    have e : (itemsL a).bind (fun xs => (intsW xs).bind fun ns => (maxI ns).map W.int) = some w := by cases a <;> exact e
    obtain ⟨xs, h1, h2⟩ := Option.bind_eq_some_iff.mp e
    obtain ⟨ns, h3, h4⟩ := Option.bind_eq_some_iff.mp h2
    obtain ⟨m, h7, h8⟩ := Option.map_eq_some_iff.mp h4
    subst h8
    obtain ⟨vs, h5, h6⟩ := itemsL_ok h1 r
    have e := intsW_ok h3 h6
    subst e
    obtain ⟨k1, k2⟩ := maxI_ok h7
    exact .inr ⟨_, ns, rfl, h5, k1, fun m' hm => by rw [k2 m' hm]; exact q _ rfl⟩
  | min =>
    have e : (itemsL a).bind (fun xs => match intsW xs with
      | some ns => (minI ns).map W.int
      | none => (W.dats xs).bind fun ds => match ds with
        | d :: ds => if (alikeB (d :: ds) && ((d :: ds).all (fun d => !noneB d) && decide (PyData.depthAll (d :: ds) < 50))) && pureW (wD (PySem.W.minD d ds)) then some (wD (PySem.W.minD d ds)) else none
        | [] => none) = some w := by cases a <;> exact e
    obtain ⟨xs, h1, h2⟩ := Option.bind_eq_some_iff.mp e
    split at h2
    · rename_i ns h3
      obtain ⟨m, h7, h8⟩ := Option.map_eq_some_iff.mp h2
      subst h8
      obtain ⟨vs, h5, h6⟩ := itemsL_ok h1 r
      have e := intsW_ok h3 h6
      subst e
      obtain ⟨k1, k2⟩ := minI_ok h7
      exact .inl (.inr ⟨_, ns, rfl, h5, k1, fun m' hm => by rw [k2 m' hm]; exact q _ rfl⟩)
    · obtain ⟨ds, h3, h4⟩ := Option.bind_eq_some_iff.mp h2
      split at h4
      · rename_i d ds
        split at h4
        · rename_i hc
          cases h4
          obtain ⟨c1, c2⟩ := band (band hc).1
          obtain ⟨c3, c4⟩ := band c2
          obtain ⟨vs, h5, h6, h7⟩ := itemsL_dats h1 h3 r
          refine .inr ⟨_, vs, d, ds, rfl, h5, h7, ⟨alike_all c1, fun x hx => noneB_ne (List.all_eq_true.mp c3 x hx)⟩, of_decide_eq_true c4, fun i z e1 e2 => q _ ?_⟩
          have ew : wDs (d :: ds) = xs := wDs_dats h3
          have e3 : xs[i]? = some (wD (PySem.W.minD d ds)) := by
            rw [← ew]
            have gen : ∀ (l : List PyData) (i : Nat) (m : PyData), l[i]? = some m → (wDs l)[i]? = some (wD m) := by
              intro l
              induction l with
              | nil => intro i m h; simp at h
              | cons c l ih =>
                intro i m h
                cases i with
                | zero => simp at h; subst h; rfl
                | succ i =>
                  show (wD c :: wDs l)[i + 1]? = _
                  simpa using ih i m (by simpa using h)
            exact gen _ _ _ e2
          obtain ⟨z', e4, e5⟩ := h6.get e3
          rw [e1] at e4
          cases e4
          exact e5
        · cases h4
      · cases h4
  | int =>
    cases a <;> first | (cases e; done) | skip
    · cases e
      cases (r : _ = _)
      exact .inr ⟨_, rfl, q _ rfl⟩
    · cases e
      cases (r : _ = _)
      exact .inl ⟨_, rfl, q _ rfl⟩
  | str =>
    cases a <;> first | (cases e; done) | skip
    · cases (r : _ = _)
      rename_i i
      have e : (if i.natAbs.log2 < 1920 then some (W.str (toString i)) else none) = some w := e
      split at e
      · cases e
        exact .inl ⟨_, rfl, by assumption, q _ rfl⟩
      · cases e
    · cases e
      cases (r : _ = _)
      exact .inr ⟨_, rfl, q _ rfl⟩
  | repr =>
    have data : ∀ {a : W} {va : Vl}, Sh g a va → (a.dat.bind fun d => match d with
      | .list _ => if d.showable && (decide (d.depth < 60) && decide (d.shown.length ≤ sizeLine)) then some (W.str d.shown) else none
      | .tuple _ => if d.showable && (decide (d.depth < 60) && decide (d.shown.length ≤ sizeLine)) then some (W.str d.shown) else none
      | _ => none) = some w → (bReprD.or bReprI) [va] g Po := by
      intro a va r e
      obtain ⟨d, h1, h2⟩ := Option.bind_eq_some_iff.mp e
      split at h2
      · split at h2
        · rename_i hc
          cases h2
          obtain ⟨c1, c2⟩ := band hc
          obtain ⟨c3, c4⟩ := band c2
          exact .inl ⟨_, _, rfl, dat_ok h1 r, ⟨_, .inl rfl⟩, c1, of_decide_eq_true c3, of_decide_eq_true c4, q _ rfl⟩
        · cases h2
      · split at h2
        · rename_i hc
          cases h2
          obtain ⟨c1, c2⟩ := band hc
          obtain ⟨c3, c4⟩ := band c2
          exact .inl ⟨_, _, rfl, dat_ok h1 r, ⟨_, .inr rfl⟩, c1, of_decide_eq_true c3, of_decide_eq_true c4, q _ rfl⟩
        · cases h2
      · cases h2
    cases a with
    | int i =>
      cases (r : _ = _)
      have e : (if i.natAbs.log2 < 1920 then some (W.str (toString i)) else none) = some w := e
      split at e
      · cases e
        exact .inr ⟨_, rfl, by assumption, q _ rfl⟩
      · cases e
    | _ => exact data r e
  | _ => cases a <;> cases e
theorem bltW_ok {b : Blt} {as : List W} {vs : List Vl} (e : bltW b as = some w) (r : Shs g as vs) (q : ∀ u, Sh g w u → Po u g) : b.b vs g Po := by
  cases as with
  | nil => cases b <;> cases e
  | cons a r1 =>
    obtain ⟨y, ys, e1, q1, q2⟩ := r
    subst e1
    cases r1 with
    | nil =>
      have e2 : ys = [] := q2
      subst e2
      exact bltW_one e q1 q
    | cons b' r2 =>
      obtain ⟨y2, ys2, e1, q3, q4⟩ := q2
      subst e1
      cases r2 with
      | nil =>
        have e2 : ys2 = [] := q4
        subst e2
        cases b <;> cases a <;> cases b' <;> first
          | (cases e; done)
          | (cases e; cases (q1 : _ = _); cases (q3 : _ = _); exact .inl ⟨_, _, rfl, q _ rfl⟩)
          | (cases e; cases (q1 : _ = _); cases (q3 : _ = _); exact .inl (.inl ⟨_, _, rfl, q _ rfl⟩))
      | cons _ _ =>
        cases b <;> first | (cases e; done) | (cases a <;> cases b' <;> cases e)
end
end MP
set_option Elab.async false
set_option linter.all false
set_option maxRecDepth 100000
/-! EV, part 8: parts of what is owned, changed in place. -/
namespace MP
open PySem PySem.Spec PyProof.Rows L2
/-- the parts of a value as the cells have them -/
def kidsV (g : Gp) : Vl → List Vl
  | .tup vs => vs
  | .kl _ vs => vs
  | .ref a => match g a with
    | some (.lst vs) => vs
    | some (.dct kvs) => kvs.map Prod.snd
    | some (.lk _ kvs) => kvs.map Prod.snd
    | some (.ins _ fvs) => fvs.map Prod.snd
    | _ => []
  | _ => []
def atV (g : Gp) : Vl → List Nat → Option Vl
  | v, [] => some v
  | v, j :: p => ((kidsV g v)[j]?).bind fun z => atV g z p
/-- cells out of others, each once -/
structure Fr (B D : List Addr) : Prop where
  nd : B.Nodup
  sub : ∀ a ∈ B, a ∈ D
section
variable {s g g' : Gp} {L : Lt} {v z u : Vl} {w x y : W} {o o' : O} {os cs : List O} {ws xs ys : List W} {vs us : List Vl} {A B C D : List Addr}
theorem Fr.refl (h : B.Nodup) : Fr B B := ⟨h, fun _ h => h⟩
theorem Rl.len_le : ∀ {os : List O} {ws : List W} {vs : List Vl} {B : List Addr}, Rl s g L os ws vs B → os.length ≤ ws.length
  | [], _, _, _, _ => by simp
  | o :: os, ws, vs, B, r => by
    obtain ⟨w1, ws', v1, vs', A1, A2, e1, e2, e3, q, q2⟩ := r
    subst e1
    have := q2.len_le
    simp
    omega
theorem Rl.len : ∀ {os : List O} {ws : List W} {vs : List Vl} {B : List Addr}, Rl s g L os ws vs B → vs.length = ws.length
  | [], _, _, _, r => r.2.length
  | o :: os, ws, vs, B, r => by
    obtain ⟨w1, ws', v1, vs', A1, A2, e1, e2, e3, q, q2⟩ := r
    subst e1 e2
    rw [List.length_cons, List.length_cons, q2.len]
theorem Rl.pad : ∀ {cs : List O} {xs : List W} {vs : List Vl} {B : List Addr} (k : Nat), cs.length + k ≤ xs.length → Rl s g L cs xs vs B → Rl s g L (cs ++ List.replicate k .sh) xs vs B
  | [], xs, vs, B, 0, _, r => r
  | [], xs, vs, B, k + 1, h, r => by
    obtain ⟨e, r⟩ := r
    subst e
    cases xs with
    | nil => simp at h
    | cons x xs =>
      obtain ⟨y, ys, e, q, q2⟩ := r
      subst e
      refine ⟨x, xs, y, ys, [], [], rfl, rfl, rfl, ⟨rfl, q⟩, ?_⟩
      have := Rl.pad (cs := []) (B := []) k (by simp at h ⊢; omega) (⟨rfl, q2⟩ : Rl s g L [] xs ys [])
      simpa using this
  | o :: cs, xs, vs, B, k, h, r => by
    obtain ⟨w1, ws', v1, vs', A1, A2, e1, e2, e3, q, q2⟩ := r
    subst e1 e2 e3
    exact ⟨w1, ws', v1, vs', A1, A2, rfl, rfl, rfl, q, Rl.pad k (by simp at h ⊢; omega) q2⟩
theorem Rl.snoc : ∀ {cs : List O} {xs : List W} {vs : List Vl} {B : List Addr}, cs.length = xs.length → Rl s g L cs xs vs B → R s g L o y u C → Rl s g L (cs ++ [o]) (xs ++ [y]) (vs ++ [u]) (B ++ C)
  | [], xs, vs, B, h, r, q => by
    obtain ⟨e, r⟩ := r
    subst e
    cases xs with
    | nil =>
      have e : vs = [] := r
      subst e
      exact ⟨y, [], u, [], C, [], rfl, rfl, by simp, q, ⟨rfl, rfl⟩⟩
    | cons _ _ => simp at h
  | o1 :: cs, xs, vs, B, h, r, q => by
    obtain ⟨w1, ws', v1, vs', A1, A2, e1, e2, e3, q1, q2⟩ := r
    subst e1 e2 e3
    exact ⟨w1, ws' ++ [y], v1, vs' ++ [u], A1, A2 ++ C, rfl, rfl, by simp, q1, Rl.snoc (by simpa using h) q2 q⟩
theorem Rl.sh_snoc : ∀ {cs : List O} {xs : List W} {vs : List Vl} {B : List Addr}, Rl s g L cs xs vs B → Sh s y u → Rl s g L cs (xs ++ [y]) (vs ++ [u]) B
  | [], xs, vs, B, r, q => ⟨r.1, r.2.append (.cons q .nil)⟩
  | o1 :: cs, xs, vs, B, r, q => by
    obtain ⟨w1, ws', v1, vs', A1, A2, e1, e2, e3, q1, q2⟩ := r
    subst e1 e2 e3
    exact ⟨w1, ws' ++ [y], v1, vs' ++ [u], A1, A2, rfl, rfl, rfl, q1, Rl.sh_snoc q2 q⟩
theorem nodup_app {B C : List Addr} (h : (B ++ C).Nodup) : B.Nodup ∧ C.Nodup ∧ ∀ a ∈ B, a ∉ C := by
  obtain ⟨h1, h2, h3⟩ := List.nodup_append.mp h
  exact ⟨h1, h2, fun a h4 h5 => h3 a h4 a h5 rfl⟩
theorem nodup_mk {B C : List Addr} (h1 : B.Nodup) (h2 : C.Nodup) (h3 : ∀ a ∈ B, a ∉ C) : (B ++ C).Nodup := List.nodup_append.mpr ⟨h1, h2, fun a ha b hb e => h3 a ha (e ▸ hb)⟩
/-- at the end -/
theorem Rl.setC_end (r : Rl s g L cs xs vs B) (q : R s g L o y u C) (nd : (B ++ C).Nodup) : ∃ B', Fr B' (B ++ C) ∧ Rl s g L (setC cs xs.length o) (xs ++ [y]) (vs ++ [u]) B' := by
  have h := r.len_le
  unfold setC
  rw [if_neg (by omega)]
  by_cases e : o.isSh = true
  · rw [if_pos e]
    cases O.isSh_iff e
    obtain ⟨e1, q⟩ := q
    subst e1
    exact ⟨B, ⟨(nodup_app nd).1, fun a h => by simpa using h⟩, r.sh_snoc q⟩
  · rw [if_neg e]
    refine ⟨B ++ C, .refl nd, ?_⟩
    exact Rl.snoc (by simp; omega) (r.pad _ (by omega)) q
/-- one of them is set -/
theorem Rl.setIn : ∀ {cs : List O} {xs : List W} {vs : List Vl} {B : List Addr} {j : Nat}, j < cs.length → Rl s g L cs xs vs B → R s g L o y u C → (B ++ C).Nodup → ∃ B', Fr B' (B ++ C) ∧ Rl s g L (cs.set j o) (xs.set j y) (vs.set j u) B'
  | [], xs, vs, B, j, h, r, q, nd => by simp at h
  | o1 :: cs, xs, vs, B, 0, h, r, q, nd => by
    obtain ⟨w1, ws', v1, vs', A1, A2, e1, e2, e3, q1, q2⟩ := r
    subst e1 e2 e3
    obtain ⟨n1, n2, n3⟩ := nodup_app nd
    obtain ⟨n4, n5, n6⟩ := nodup_app n1
    refine ⟨C ++ A2, ⟨nodup_mk n2 n5 fun a h1 h2 => n3 a (List.mem_append_right _ h2) h1, fun a h => ?_⟩, y, ws', u, vs', C, A2, rfl, rfl, rfl, q, q2⟩
    rcases List.mem_append.mp h with h | h
    · exact List.mem_append_right _ h
    · exact List.mem_append_left _ (List.mem_append_right _ h)
  | o1 :: cs, xs, vs, B, j + 1, h, r, q, nd => by
    obtain ⟨w1, ws', v1, vs', A1, A2, e1, e2, e3, q1, q2⟩ := r
    subst e1 e2 e3
    obtain ⟨n1, n2, n3⟩ := nodup_app nd
    obtain ⟨n4, n5, n6⟩ := nodup_app n1
    obtain ⟨B', f, r'⟩ := Rl.setIn (j := j) (by simpa using h) q2 q (nodup_mk n5 n2 fun a h1 h2 => n3 a (List.mem_append_right _ h1) h2)
    refine ⟨A1 ++ B', ⟨nodup_mk n4 f.nd fun a h1 h2 => ?_, fun a h => ?_⟩, w1, ws'.set j y, v1, vs'.set j u, A1, B', rfl, rfl, rfl, q1, r'⟩
    · rcases List.mem_append.mp (f.sub a h2) with h | h
      · exact n6 a h1 h
      · exact n3 a (List.mem_append_left _ h1) h
    · rcases List.mem_append.mp h with h | h
      · exact List.mem_append_left _ (List.mem_append_left _ h)
      · rcases List.mem_append.mp (f.sub a h) with h | h
        · exact List.mem_append_left _ (List.mem_append_right _ h)
        · exact List.mem_append_right _ h
theorem Rl.set_sh : ∀ {cs : List O} {xs : List W} {vs : List Vl} {B : List Addr} {j : Nat}, cs.length ≤ j → Rl s g L cs xs vs B → Sh s y u → Rl s g L cs (xs.set j y) (vs.set j u) B
  | [], xs, vs, B, j, _, r, q => ⟨r.1, r.2.set q⟩
  | o1 :: cs, xs, vs, B, 0, h, r, q => by simp at h
  | o1 :: cs, xs, vs, B, j + 1, h, r, q => by
    obtain ⟨w1, ws', v1, vs', A1, A2, e1, e2, e3, q1, q2⟩ := r
    subst e1 e2 e3
    exact ⟨w1, ws'.set j y, v1, vs'.set j u, A1, A2, rfl, rfl, rfl, q1, Rl.set_sh (by simpa using h) q2 q⟩
theorem Rl.setC {j : Nat} (hj : j < xs.length) (r : Rl s g L cs xs vs B) (q : R s g L o y u C) (nd : (B ++ C).Nodup) : ∃ B', Fr B' (B ++ C) ∧ Rl s g L (setC cs j o) (xs.set j y) (vs.set j u) B' := by
  unfold MP.setC
  by_cases h : j < cs.length
  · rw [if_pos h]
    exact r.setIn h q nd
  · rw [if_neg h]
    by_cases e : o.isSh = true
    · rw [if_pos e]
      cases O.isSh_iff e
      obtain ⟨e1, q⟩ := q
      subst e1
      exact ⟨B, ⟨(nodup_app nd).1, fun a h => by simpa using h⟩, r.set_sh (by omega) q⟩
    · rw [if_neg e]
      have p := r.pad (j - cs.length + 1) (by omega)
      obtain ⟨B', f, r'⟩ := Rl.setIn (j := j) (by simp; omega) p q nd
      refine ⟨B', f, ?_⟩
      have e2 : (cs ++ List.replicate (j - cs.length + 1) O.sh).set j o = cs ++ List.replicate (j - cs.length) O.sh ++ [o] := by
        rw [List.replicate_succ', ← List.append_assoc]
        rw [List.set_append_right _ _ (by simp; omega)]
        have : j - (cs ++ List.replicate (j - cs.length) O.sh).length = 0 := by simp; omega
        rw [this]
        rfl
      rwa [e2] at r'
/-- the j-th part of what is owned -/
theorem R.kid {j : Nat} (r : R s g L o w v B) (hs : Sub s g) (hL : SubL L g) (ho : o ≠ .hole) (e : w.kids[j]? = some x) : ∃ z C, (kidsV g v)[j]? = some z ∧ R s g L (o.part j) x z C ∧ ∀ a ∈ C, a ∈ B := by
  have shk : ∀ {h : Gp} {w : W} {v : Vl}, Sh h w v → Sub h g → w.kids[j]? = some x → ∃ z, (kidsV g v)[j]? = some z ∧ Sh h x z := by
    intro h w v r hh e
    cases w with
    | tup xs => obtain ⟨vs, e1, q⟩ := r; subst e1; exact q.get e
    | kl xs => obtain ⟨a, vs, e1, q⟩ := r; subst e1; exact q.get e
    | lst xs =>
      obtain ⟨a, vs, e1, q0, q⟩ := r
      subst e1
      unfold kidsV
      simp only [hh _ _ q0]
      exact q.get e
    | dct ks xs =>
      obtain ⟨a, kvs, e1, q0, _, q⟩ := r
      subst e1
      unfold kidsV
      rcases q0 with q0 | ⟨t, q0⟩ <;> (simp only [hh _ _ q0]; exact q.get e)
    | ins c fs xs =>
      obtain ⟨a, kvs, e1, q0, _, q⟩ := r
      subst e1
      unfold kidsV
      simp only [hh _ _ q0]
      exact q.get e
    | _ => simp [W.kids] at e
  cases o with
  | sh =>
    obtain ⟨z, h1, h2⟩ := shk r.2 hs e
    exact ⟨z, [], h1, ⟨rfl, h2⟩, fun _ h => by simp at h⟩
  | hole => exact absurd rfl ho
  | lk _ =>
    have r2 := r.2
    cases w with
    | lst xs =>
      obtain ⟨a, vs, e1, q0, q⟩ := r2
      subst e1
      obtain ⟨z, h1, h2⟩ := q.get e
      refine ⟨z, [], ?_, ⟨rfl, h2⟩, fun _ h => by simp at h⟩
      unfold kidsV
      simp only [hL _ _ _ q0]
      exact h1
    | dct ks xs =>
      obtain ⟨a, t, kvs, e1, q0, _, q⟩ := r2
      subst e1
      obtain ⟨z, h1, h2⟩ := q.get e
      refine ⟨z, [], ?_, ⟨rfl, h2⟩, fun _ h => by simp at h⟩
      unfold kidsV
      simp only [hL _ _ _ q0]
      exact h1
    | _ => exact r2.elim
  | tp cs =>
    cases w with
    | tup xs =>
      obtain ⟨vs, e1, q⟩ := r
      subst e1
      obtain ⟨z, C, h1, h2, h3⟩ := q.get e
      exact ⟨z, C, h1, h2, h3.1⟩
    | _ => exact r.elim
  | ow cs =>
    cases w with
    | lst xs =>
      obtain ⟨a, vs, D, e1, eD, q0, q⟩ := r
      subst e1 eD
      obtain ⟨z, C, h1, h2, h3⟩ := q.get e
      refine ⟨z, C, ?_, h2, fun a h => List.mem_cons_of_mem _ (h3.1 a h)⟩
      unfold kidsV
      simp only [q0]
      exact h1
    | dct ks xs =>
      obtain ⟨a, vs, D, e1, eD, q0, _, q⟩ := r
      subst e1 eD
      obtain ⟨z, C, h1, h2, h3⟩ := q.get e
      refine ⟨z, C, ?_, h2, fun a h => List.mem_cons_of_mem _ (h3.1 a h)⟩
      unfold kidsV
      simp only [q0]
      exact h1
    | ins c fs xs =>
      obtain ⟨a, vs, D, e1, eD, q0, _, q⟩ := r
      subst e1 eD
      obtain ⟨z, C, h1, h2, h3⟩ := q.get e
      refine ⟨z, C, ?_, h2, fun a h => List.mem_cons_of_mem _ (h3.1 a h)⟩
      unfold kidsV
      simp only [q0]
      exact h1
    | _ => exact r.elim
/-- what stands behind a change: the new cells, and the old ones but those of the part -/
structure Fq (B' B C C' : List Addr) : Prop where
  nd : B'.Nodup
  sub : ∀ a ∈ B', a ∈ C' ∨ (a ∈ B ∧ a ∉ C)
theorem setC_zero {o1 o' : O} : MP.setC (o1 :: cs) 0 o' = o' :: cs := by
  unfold MP.setC
  rw [if_pos (by simp)]
  rfl
theorem setC_succ {o1 o' : O} {j : Nat} : MP.setC (o1 :: cs) (j + 1) o' = o1 :: MP.setC cs j o' := by
  unfold MP.setC
  by_cases hl : j < cs.length
  · rw [if_pos hl, if_pos (by simp; omega)]
    rfl
  · rw [if_neg hl, if_neg (by simp; omega)]
    by_cases hs : o'.isSh = true
    · rw [if_pos hs, if_pos hs]
    · rw [if_neg hs, if_neg hs]
      have : j + 1 - (o1 :: cs).length = j - cs.length := by simp
      rw [this]
      rfl
/-- the j-th part of a list of parts, and the rest, into which another one with the same value can be put -/
theorem Rl.focus : ∀ {cs : List O} {xs : List W} {vs : List Vl} {B : List Addr} {j : Nat}, B.Nodup → Rl s g L cs xs vs B → xs[j]? = some x → ∃ z C, vs[j]? = some z ∧ R s g L (cs.getD j .sh) x z C ∧ (∀ a ∈ C, a ∈ B) ∧ C.Nodup ∧
    ∀ {s' g' : Gp} {o' : O} {y : W} {C' : List Addr}, ExtN s s' → (∀ a ∈ B, a ∉ C → g' a = g a) → R s' g' L o' y z C' → C'.Nodup → (∀ a ∈ C', a ∈ B → a ∈ C) → ∃ B', Fq B' B C C' ∧ Rl s' g' L (MP.setC cs j o') (xs.set j y) vs B'
  | [], xs, vs, B, j, nd, r, e => by
    obtain ⟨eB, r⟩ := r
    subst eB
    obtain ⟨z, h1, h2⟩ := r.get e
    refine ⟨z, [], h1, ⟨rfl, h2⟩, fun _ h => by simp at h, List.nodup_nil, fun {s' g' o' y C'} hx hg q f hD => ?_⟩
    have hj : j < xs.length := by
      rcases Nat.lt_or_ge j xs.length with h | h
      · exact h
      · rw [List.getElem?_eq_none h] at e; cases e
    have r' : Rl s' g' L [] xs vs [] := ⟨rfl, r.mono hx⟩
    obtain ⟨B', f', q'⟩ := r'.setC hj q (by simpa using f)
    have ev : vs.set j z = vs := by
      refine List.ext_getElem? fun k => ?_
      by_cases hk : j = k
      · subst hk
        rw [h1]
        exact List.getElem?_set_self (by rw [r.length]; exact hj)
      · exact List.getElem?_set_ne hk
    rw [ev] at q'
    exact ⟨B', ⟨f'.nd, fun a h => .inl (by simpa using f'.sub a h)⟩, q'⟩
  | o1 :: cs, xs, vs, B, 0, nd, r, e => by
    obtain ⟨w1, ws', v1, vs', A1, A2, e1, e2, e3, q1, q2⟩ := r
    subst e1 e2 e3
    simp at e
    subst e
    obtain ⟨n1, n2, n3⟩ := nodup_app nd
    refine ⟨v1, A1, rfl, q1, fun a h => List.mem_append_left _ h, n1, fun {s' g' o' y C'} hx hg q f hD => ⟨C' ++ A2, ⟨nodup_mk f n2 fun a h1 h2 => ?_, fun a h => ?_⟩, ?_⟩⟩
    · exact n3 a (hD a h1 (List.mem_append_right _ h2)) h2
    · rcases List.mem_append.mp h with h | h
      · exact .inl h
      · exact .inr ⟨List.mem_append_right _ h, fun h' => n3 a h' h⟩
    · rw [setC_zero]
      exact ⟨y, ws', v1, vs', C', A2, rfl, rfl, rfl, q, q2.mono hx Sub.refl fun a h => hg a (List.mem_append_right _ h) fun h1 => n3 a h1 h⟩
  | o1 :: cs, xs, vs, B, j + 1, nd, r, e => by
    obtain ⟨w1, ws', v1, vs', A1, A2, e1, e2, e3, q1, q2⟩ := r
    subst e1 e2 e3
    obtain ⟨n1, n2, n3⟩ := nodup_app nd
    obtain ⟨z, C, h1, h2, h3, h4, k⟩ := Rl.focus (j := j) n2 q2 (by simpa using e)
    refine ⟨z, C, by simpa using h1, by simpa using h2, fun a h => List.mem_append_right _ (h3 a h), h4, fun {s' g' o' y C'} hx hg q f hD => ?_⟩
    obtain ⟨B', f', q'⟩ := k (s' := s') (g' := g') (o' := o') (y := y) (C' := C') hx (fun a h h' => hg a (List.mem_append_right _ h) h') q f fun a h h' => hD a h (List.mem_append_right _ h')
    refine ⟨A1 ++ B', ⟨nodup_mk n1 f'.nd fun a h5 h6 => ?_, fun a h => ?_⟩, ?_⟩
    · rcases f'.sub a h6 with h | ⟨h, _⟩
      · exact n3 a h5 (h3 a (hD a h (List.mem_append_left _ h5)))
      · exact n3 a h5 h
    · rcases List.mem_append.mp h with h | h
      · exact .inr ⟨List.mem_append_left _ h, fun h' => n3 a h (h3 a h')⟩
      · rcases f'.sub a h with h | ⟨h, h'⟩
        · exact .inl h
        · exact .inr ⟨List.mem_append_right _ h, h'⟩
    · have q1' : R s' g' L o1 w1 v1 A1 := q1.mono hx Sub.refl fun a h => hg a (List.mem_append_left _ h) fun h5 => n3 a h (h3 a h5)
      rw [setC_succ]
      exact ⟨w1, ws'.set j y, v1, vs', A1, B', rfl, rfl, rfl, q1', q'⟩
end
end MP
set_option Elab.async false
set_option linter.all false
set_option maxRecDepth 100000
/-! EV, part 9: reading without a trace agrees. -/
namespace MP
open PySem PySem.Spec PyProof.Rows L2
/-- several values as they are read -/
def Bos (s g : Gp) (L : Lt) : List (W × O) → List Vl → Prop
  | [], vs => vs = []
  | x :: xs, vs => ∃ y ys, vs = y :: ys ∧ Bo s g L x y ∧ Bos s g L xs ys
section
variable {s g F : Gp} {L : Lt}
theorem Bos.sh (hs : Sub s g) (hL : SubL L g) : ∀ {xs : List (W × O)} {vs : List Vl}, Bos s g L xs vs → Shs g (xs.map Prod.fst) vs
  | [], vs, r => r
  | x :: xs, vs, r => by
    obtain ⟨y, ys, e, q, q2⟩ := r
    exact ⟨y, ys, e, q.sh hs hL, Bos.sh hs hL q2⟩
theorem Bos.length : ∀ {xs : List (W × O)} {vs : List Vl}, Bos s g L xs vs → vs.length = xs.length
  | [], vs, r => by
    have e : vs = [] := r
    rw [e] <;> rfl
  | x :: xs, vs, r => by
    obtain ⟨y, ys, e, q, q2⟩ := r
    rw [e, List.length_cons, List.length_cons, Bos.length q2]
theorem Bos.tup : ∀ {xs : List (W × O)} {vs : List Vl}, Bos s g L xs vs → Bo s g L (.tup (xs.map Prod.fst), tpO (xs.map Prod.snd)) (.tup vs) := by
  intro xs vs r
  unfold tpO
  by_cases h : (xs.map Prod.snd).all O.isSh = true
  · rw [if_pos h]
    refine Bo.of_sh ⟨vs, rfl, ?_⟩
    induction xs generalizing vs with
    | nil => exact r
    | cons x xs ih =>
      obtain ⟨y, ys, e, q, q2⟩ := r
      rw [List.map_cons, List.all_cons] at h
      obtain ⟨h1, h2⟩ := band h
      obtain ⟨f, A, q⟩ := q
      rw [O.isSh_iff h1] at q
      exact ⟨y, ys, e, q.2, ih q2 h2⟩
  · rw [if_neg h]
    have key : ∀ {xs : List (W × O)} {vs : List Vl}, Bos s g L xs vs → O.fulls (xs.map Prod.snd) = true ∧ ∃ A, Rl s g L (xs.map Prod.snd) (xs.map Prod.fst) vs A := by
      intro xs
      induction xs with
      | nil => intro vs r; exact ⟨rfl, [], rfl, r⟩
      | cons x xs ih =>
        intro vs r
        obtain ⟨y, ys, e, ⟨f, A, q⟩, q2⟩ := r
        obtain ⟨f2, A2, q3⟩ := ih q2
        exact ⟨by show (x.2.full && O.fulls (xs.map Prod.snd)) = true; rw [f, f2]; rfl, A ++ A2, x.1, xs.map Prod.fst, y, ys, A, A2, rfl, e, rfl, q, q3⟩
    obtain ⟨f, A, q⟩ := key r
    exact ⟨f, A, vs, rfl, q⟩
theorem slotQ_ok {ω : En} {env : Env} {A : Ft} {i : Nat} {x : W × O} (z : Z s g F L ω env A) (h : slotQ ω i = some x) : ∃ v, env[i]? = some (some v) ∧ Bo s g L x v := by
  unfold slotQ at h
  split at h
  · rename_i w o e
    split at h
    · rename_i f
      cases h
      obtain ⟨v, e1, r⟩ := z.val i w o e
      exact ⟨v, e1, f, _, r⟩
    · cases h
  · cases h
mutual
theorem wOf_ok {h : Gp} : ∀ {v : Vl} {w : W}, wOf v = some w → Sh h w v
  | .non, w, e => by cases e; rfl
  | .bl b, w, e => by cases e; rfl
  | .int i, w, e => by cases e; rfl
  | .str x, w, e => by cases e; rfl
  | .tup xs, w, e => by
    obtain ⟨ws, h1, h2⟩ := Option.map_eq_some_iff.mp (show (wOfs xs).map W.tup = some w from e)
    subst h2
    exact ⟨xs, rfl, wOfs_ok h1⟩
  | .ref a, w, e => by cases e
  | .kl a xs, w, e => by cases e
theorem wOfs_ok {h : Gp} : ∀ {vs : List Vl} {ws : List W}, wOfs vs = some ws → Shs h ws vs
  | [], ws, e => by cases e; rfl
  | v :: vs, ws, e => by
    unfold wOfs at e
    split at e
    · rename_i y ys h1 h2
      cases e
      exact ⟨v, vs, rfl, wOf_ok h1, wOfs_ok h2⟩
    · cases e
end
theorem intQ_some {x : Option (W × O)} {i : Int} (h : intQ x = some i) : ∃ o, x = some (.int i, o) := by
  cases x with
  | none => cases h
  | some x =>
    obtain ⟨w, o⟩ := x
    cases w <;> first | (cases h; done) | skip
    cases h
    exact ⟨o, rfl⟩
theorem blQ_some {x : Option (W × O)} {i : Bool} (h : blQ x = some i) : ∃ o, x = some (.bl i, o) := by
  cases x with
  | none => cases h
  | some x =>
    obtain ⟨w, o⟩ := x
    cases w <;> first | (cases h; done) | skip
    cases h
    exact ⟨o, rfl⟩
mutual
theorem pure_sh {h h' : Gp} : ∀ {w : W} {v : Vl}, pureW w = true → Sh h w v → Sh h' w v
  | .non, v, _, r => r
  | .bl _, v, _, r => r
  | .int _, v, _, r => r
  | .str _, v, _, r => r
  | .tup xs, v, e, r => by
    obtain ⟨vs, e1, q⟩ := r
    exact ⟨vs, e1, pures_sh e q⟩
  | .kl _, v, e, _ => by cases e
  | .lst _, v, e, _ => by cases e
  | .dct _ _, v, e, _ => by cases e
  | .ins _ _ _, v, e, _ => by cases e
theorem pures_sh {h h' : Gp} : ∀ {w : List W} {v : List Vl}, pureWs w = true → Shs h w v → Shs h' w v
  | [], v, _, r => r
  | x :: xs, v, e, r => by
    obtain ⟨y, ys, e1, q, q2⟩ := r
    obtain ⟨h1, h2⟩ := band e
    exact ⟨y, ys, e1, pure_sh h1 q, pures_sh h2 q2⟩
end
theorem Bo.of_pure {w : W} {v : Vl} (h : pureW w = true) (r : Sh g w v) : Bo s g L (w, .sh) v := Bo.of_sh (pure_sh h r)
theorem ite_flat {c : Prop} [Decidable c] {a w : W} (h : (if c then some a else none) = some w) : a = w := by
  split at h
  · cases h; rfl
  · cases h
theorem opBin_flat {o : BO} {a b w : W} (h : opBin o a b = some w) : pureW w = true := by
  cases o <;> cases a <;> cases b <;> first
    | (cases h; done)
    | (cases h; rfl)
    | (have e := ite_flat h; subst e; rfl)
theorem bltW_pure1 {b : Blt} {a w : W} (h : bltW b [a] = some w) : pureW w = true := by
  have it : ∀ {α : Type} {f : List W → Option α} {k : α → W}, (∀ x, pureW (k x) = true) → ((itemsL a).bind fun xs => (f xs).map k) = some w → pureW w = true := by
    intro α f k hk e
    obtain ⟨xs, h1, h2⟩ := Option.bind_eq_some_iff.mp e
    obtain ⟨ns, h3, h4⟩ := Option.map_eq_some_iff.mp h2
    subst h4
    exact hk _
  cases b with
  | min =>
    have e : (itemsL a).bind (fun xs => match intsW xs with
      | some ns => (minI ns).map W.int
      | none => (W.dats xs).bind fun ds => match ds with
        | d :: ds => if (alikeB (d :: ds) && ((d :: ds).all (fun d => !noneB d) && decide (PyData.depthAll (d :: ds) < 50))) && pureW (wD (PySem.W.minD d ds)) then some (wD (PySem.W.minD d ds)) else none
        | [] => none) = some w := by cases a <;> exact h
    obtain ⟨xs, h1, h2⟩ := Option.bind_eq_some_iff.mp e
    split at h2
    · obtain ⟨m, _, h8⟩ := Option.map_eq_some_iff.mp h2
      subst h8
      rfl
    · obtain ⟨ds, h3, h4⟩ := Option.bind_eq_some_iff.mp h2
      split at h4
      · split at h4
        · rename_i hc
          cases h4
          exact (band hc).2
        · cases h4
      · cases h4
  | sum => exact it (f := fun xs => intsW xs) (k := fun ns => W.int ns.sum) (fun _ => rfl) (by cases a <;> exact h)
  | all => exact it (f := fun xs => bolsW xs) (k := fun ns => W.bl (ns.all id)) (fun _ => rfl) (by cases a <;> exact h)
  | any => exact it (f := fun xs => bolsW xs) (k := fun ns => W.bl (ns.any id)) (fun _ => rfl) (by cases a <;> exact h)
  | max => exact it (f := fun xs => (intsW xs).bind fun ns => maxI ns) (k := W.int) (fun _ => rfl) (by
      have e : (itemsL a).bind (fun xs => (intsW xs).bind fun ns => (maxI ns).map W.int) = some w := by cases a <;> exact h
      rw [← e]
      congr
      funext xs
      cases intsW xs <;> rfl)
  | len =>
    cases a <;> first
      | (cases h; done)
      | (cases h; rfl)
      | (have e := ite_flat h; subst e; rfl)
  | int => cases a <;> first | (cases h; done) | (cases h; rfl)
  | str =>
    cases a <;> first
      | (cases h; done)
      | (cases h; rfl)
      | (have e := ite_flat h; subst e; rfl)
  | repr =>
    have data : ∀ (a : W), (a.dat.bind fun d => match d with
      | .list _ => if d.showable && (decide (d.depth < 60) && decide (d.shown.length ≤ sizeLine)) then some (W.str d.shown) else none
      | .tuple _ => if d.showable && (decide (d.depth < 60) && decide (d.shown.length ≤ sizeLine)) then some (W.str d.shown) else none
      | _ => none) = some w → pureW w = true := by
      intro a e
      obtain ⟨d, h1, h2⟩ := Option.bind_eq_some_iff.mp e
      cases d <;> first | (cases h2; done) | (have e := ite_flat h2; subst e; rfl)
    cases a with
    | int i => have e := ite_flat h; subst e; rfl
    | tup xs => exact data (.tup xs) h
    | lst xs => exact data (.lst xs) h
    | _ => cases h
  | _ => cases a <;> cases h
theorem bltW_pure {b : Blt} {as : List W} {w : W} (h : bltW b as = some w) : pureW w = true := by
  cases as with
  | nil => cases b <;> cases h
  | cons a r =>
    cases r with
    | nil => exact bltW_pure1 h
    | cons b' r2 =>
      cases r2 with
      | nil => cases b <;> cases a <;> cases b' <;> first | (cases h; done) | (cases h; rfl)
      | cons _ _ => cases b <;> first | (cases h; done) | (cases a <;> cases b' <;> cases h)
variable {P : Prog} {ΓC : Nat → Ct} {ω : En} {env : Env} {A : Ft}
theorem wAnd_cons {w : WE} {r : List WE} {Po : Po} {Xp : Xo} (h : w env g (fun x g1 => ∃ k, x = .bl k ∧ if k = true then wAnd r env g1 Po Xp else Po (.bl false) g1) Xp) (m : ∀ (A B : MP.Po), (∀ v g, A v g → B v g) → w env g A Xp → w env g B Xp) : wAnd (w :: r) env g Po Xp := by
  cases r with
  | nil =>
    refine m _ _ (fun x g1 ⟨k, e, q⟩ => ?_) h
    subst e
    cases k with
    | true => exact q
    | false => exact q
  | cons _ _ => exact h
mutual
theorem sndQ (z : Z s g F L ω env A) : ∀ (e : Ex) (x : W × O), evQ P e ω = some x → ∀ (Po : Po) (Xp : Xo), (∀ v, Bo s g L x v → Po v g) → wE P ΓC e env g Po Xp
  | .var i, x, h, Po, Xp, k => by
    obtain ⟨v, e1, b⟩ := slotQ_ok z h
    exact ⟨v, e1, k v b⟩
  | .int i, x, h, Po, Xp, k => by cases h; exact k _ Bo.int
  | .str i, x, h, Po, Xp, k => by cases h; exact k _ Bo.str
  | .bl i, x, h, Po, Xp, k => by cases h; exact k _ Bo.bl
  | .non, x, h, Po, Xp, k => by cases h; exact k _ Bo.non
  | .kon n v, x, h, Po, Xp, k => by
    obtain ⟨w, h1, h2⟩ := Option.map_eq_some_iff.mp (show (wOf v).map (·, O.sh) = some x from h)
    subst h2
    exact k _ (Bo.of_sh (wOf_ok h1))
  | .bin o a b, x, h, Po, Xp, k => by
    obtain ⟨xa, h1, h⟩ := Option.bind_eq_some_iff.mp (show (evQ P a ω).bind (fun x => (evQ P b ω).bind fun y => (opBin o x.1 y.1).map (·, O.sh)) = some x from h)
    obtain ⟨xb, h2, h⟩ := Option.bind_eq_some_iff.mp h
    obtain ⟨w, h3, h4⟩ := Option.map_eq_some_iff.mp h
    subst h4
    refine sndQ z a xa h1 _ Xp fun va ba => sndQ z b xb h2 _ Xp fun vb bb => ?_
    exact opBin_ok h3 (ba.sh z.sg (z.LF.trans z.Fg)) (bb.sh z.sg (z.LF.trans z.Fg)) fun v r => k v (Bo.of_pure (opBin_flat h3) r)
  | .cmp o a b, x, h, Po, Xp, k => by
    obtain ⟨xa, h1, h⟩ := Option.bind_eq_some_iff.mp (show (evQ P a ω).bind (fun x => (evQ P b ω).bind fun y => (opCmp o x.1 y.1).map fun k => (W.bl k, O.sh)) = some x from h)
    obtain ⟨xb, h2, h⟩ := Option.bind_eq_some_iff.mp h
    obtain ⟨w, h3, h4⟩ := Option.map_eq_some_iff.mp h
    subst h4
    exact sndQ z a xa h1 _ Xp fun va ba => sndQ z b xb h2 _ Xp fun vb bb => opCmp_ok h3 (ba.sh z.sg (z.LF.trans z.Fg)) (bb.sh z.sg (z.LF.trans z.Fg)) (k _ Bo.bl)
  | .cmp2 o o2 a b c, x, h, Po, Xp, k => by
    obtain ⟨xa, h1, h⟩ := Option.bind_eq_some_iff.mp (show (evQ P a ω).bind (fun x => (evQ P b ω).bind fun y => (opCmp o x.1 y.1).bind fun k => if k then (evQ P c ω).bind fun z => (opCmp o2 y.1 z.1).map fun k => (W.bl k, O.sh) else some (W.bl false, O.sh)) = some x from h)
    obtain ⟨xb, h2, h⟩ := Option.bind_eq_some_iff.mp h
    obtain ⟨k1, h3, h⟩ := Option.bind_eq_some_iff.mp h
    refine sndQ z a xa h1 _ Xp fun va ba => sndQ z b xb h2 _ Xp fun vb bb => opCmp_ok h3 (ba.sh z.sg (z.LF.trans z.Fg)) (bb.sh z.sg (z.LF.trans z.Fg)) ⟨k1, rfl, ?_⟩
    cases k1 with
    | false =>
      rw [if_neg Bool.false_ne_true] at h ⊢
      cases h
      exact k _ Bo.bl
    | true =>
      rw [if_pos rfl] at h ⊢
      obtain ⟨xc, h4, h⟩ := Option.bind_eq_some_iff.mp h
      obtain ⟨w, h5, h6⟩ := Option.map_eq_some_iff.mp h
      subst h6
      exact sndQ z c xc h4 _ Xp fun vc bc => opCmp_ok h5 (bb.sh z.sg (z.LF.trans z.Fg)) (bc.sh z.sg (z.LF.trans z.Fg)) (k _ Bo.bl)
  | .neg a, x, h, Po, Xp, k => by
    obtain ⟨i, h1, h2⟩ := Option.map_eq_some_iff.mp (show (intQ (evQ P a ω)).map (fun i => (W.int (-i), O.sh)) = some x from h)
    subst h2
    obtain ⟨o, e⟩ := intQ_some h1
    exact sndQ z a _ e _ Xp fun va ba => ⟨i, ba.sh z.sg (z.LF.trans z.Fg), k _ Bo.int⟩
  | .not a, x, h, Po, Xp, k => by
    obtain ⟨i, h1, h2⟩ := Option.map_eq_some_iff.mp (show (blQ (evQ P a ω)).map (fun i => (W.bl !i, O.sh)) = some x from h)
    subst h2
    obtain ⟨o, e⟩ := blQ_some h1
    exact sndQ z a _ e _ Xp fun va ba => ⟨i, ba.sh z.sg (z.LF.trans z.Fg), k _ Bo.bl⟩
  | .and es, x, h, Po, Xp, k => by
    obtain ⟨i, h1, h2⟩ := Option.map_eq_some_iff.mp (show (evQand P es ω).map (fun i => (W.bl i, O.sh)) = some x from h)
    subst h2
    exact sndQand z es i h1 Po Xp (k _ Bo.bl)
  | .or es, x, h, Po, Xp, k => by
    obtain ⟨i, h1, h2⟩ := Option.map_eq_some_iff.mp (show (evQor P es ω).map (fun i => (W.bl i, O.sh)) = some x from h)
    subst h2
    exact sndQor z es i h1 Po Xp (k _ Bo.bl)
  | .ife c a b, x, h, Po, Xp, k => by
    obtain ⟨i, h1, h2⟩ := Option.bind_eq_some_iff.mp (show (evTq P c ω).bind (fun k => if k then evQ P a ω else evQ P b ω) = some x from h)
    refine sndTq z c i h1 _ Xp ?_
    cases i with
    | true => rw [if_pos rfl] at h2 ⊢; exact sndQ z a x h2 Po Xp k
    | false => rw [if_neg Bool.false_ne_true] at h2 ⊢; exact sndQ z b x h2 Po Xp k
  | .tup es, x, h, Po, Xp, k => by
    obtain ⟨ps, h1, h2⟩ := Option.bind_eq_some_iff.mp (show (evQs P es ω).bind (fun ps => if ps.length ≤ sizeLine then some (W.tup (ps.map Prod.fst), tpO (ps.map Prod.snd)) else none) = some x from h)
    split at h2
    · rename_i hl
      cases h2
      exact sndQs z es ps h1 _ Xp fun vs bs => ⟨by rw [bs.length]; exact hl, k _ bs.tup⟩
    · cases h2
  | .ix a b, x, h, Po, Xp, k => by
    obtain ⟨xa, h1, h⟩ := Option.bind_eq_some_iff.mp (show (evQ P a ω).bind (fun x => (evQ P b ω).bind fun y => ixW x y.1) = some x from h)
    obtain ⟨xb, h2, h3⟩ := Option.bind_eq_some_iff.mp h
    exact sndQ z a xa h1 _ Xp fun va ba => sndQ z b xb h2 _ Xp fun vb bb => ixW_ok h3 ba (bb.sh z.sg (z.LF.trans z.Fg)) z.sg (z.LF.trans z.Fg) k
  | .sl l h a lo hi, x, e, Po, Xp, k => by
    obtain ⟨xa, h1, e⟩ := Option.bind_eq_some_iff.mp (show (evQ P a ω).bind (fun x => if l then (if h then (intQ (evQ P lo ω)).bind fun i => (intQ (evQ P hi ω)).bind fun j => slW x (some i) (some j) else (intQ (evQ P lo ω)).bind fun i => slW x (some i) none) else (if h then (intQ (evQ P hi ω)).bind fun j => slW x none (some j) else slW x none none)) = some x from e)
    refine sndQ z a xa h1 _ Xp fun va ba => ?_
    have one : ∀ {lo : Ex} {i : Int} {Q : Option Int → Gp → Prop}, (∀ (o : O), evQ P lo ω = some (W.int i, o) → ∀ (Po : MP.Po) (Xp : Xo), (∀ v, Bo s g L (W.int i, o) v → Po v g) → wE P ΓC lo env g Po Xp) → intQ (evQ P lo ω) = some i → Q (some i) g → wPo (wE P ΓC lo) env g Q Xp := by
      intro lo i Q ih q1 hq
      obtain ⟨o1, f1⟩ := intQ_some q1
      exact ih o1 f1 _ Xp fun v1 b1 => ⟨i, b1.sh z.sg (z.LF.trans z.Fg), hq⟩
    cases l with
    | true =>
      rw [if_pos rfl] at e ⊢
      cases h with
      | true =>
        rw [if_pos rfl] at e
        obtain ⟨i, q1, e⟩ := Option.bind_eq_some_iff.mp e
        obtain ⟨j, q2, e⟩ := Option.bind_eq_some_iff.mp e
        refine one (fun o ho => sndQ z lo _ ho) q1 ?_
        rw [if_pos rfl]
        exact one (fun o ho => sndQ z hi _ ho) q2 (slW_ok e ba z.sg (z.LF.trans z.Fg) k)
      | false =>
        rw [if_neg Bool.false_ne_true] at e
        obtain ⟨i, q1, e⟩ := Option.bind_eq_some_iff.mp e
        refine one (fun o ho => sndQ z lo _ ho) q1 ?_
        rw [if_neg Bool.false_ne_true]
        exact slW_ok e ba z.sg (z.LF.trans z.Fg) k
    | false =>
      rw [if_neg Bool.false_ne_true] at e ⊢
      cases h with
      | true =>
        rw [if_pos rfl] at e
        obtain ⟨j, q2, e⟩ := Option.bind_eq_some_iff.mp e
        show (if true = true then wPo (wE P ΓC hi) else wPoN) env g (fun h g3 => bSl va none h g3 Po) Xp
        rw [if_pos rfl]
        exact one (fun o ho => sndQ z hi _ ho) q2 (slW_ok e ba z.sg (z.LF.trans z.Fg) k)
      | false =>
        rw [if_neg Bool.false_ne_true] at e
        exact slW_ok e ba z.sg (z.LF.trans z.Fg) k
  | .fld f a, x, h, Po, Xp, k => by
    obtain ⟨xa, h1, h2⟩ := Option.bind_eq_some_iff.mp (show (evQ P a ω).bind (fun x => fldW P.fok f x) = some x from h)
    exact sndQ z a xa h1 _ Xp fun va ba => fldW_ok h2 ba z.sg (z.LF.trans z.Fg) k
  | .blt b es, x, h, Po, Xp, k => by
    obtain ⟨ps, h1, h2⟩ := Option.bind_eq_some_iff.mp (show (evQs P es ω).bind (fun ps => (bltW b (ps.map Prod.fst)).map (·, O.sh)) = some x from h)
    obtain ⟨w, h3, h4⟩ := Option.map_eq_some_iff.mp h2
    subst h4
    exact sndQs z es ps h1 _ Xp fun vs bs => bltW_ok h3 (bs.sh z.sg (z.LF.trans z.Fg)) fun u r => k u (Bo.of_pure (bltW_pure h3) r)
  | .isi u a, x, h, Po, Xp, k => by
    obtain ⟨xa, h1, h2⟩ := Option.bind_eq_some_iff.mp (show (evQ P a ω).bind (fun x => (P.isi (tyW x.1) u).map fun k => (W.bl k, O.sh)) = some x from h)
    obtain ⟨t, h3, h4⟩ := Option.map_eq_some_iff.mp h2
    subst h4
    exact sndQ z a xa h1 _ Xp fun va ba => ⟨_, t, tyW_ok (ba.sh z.sg (z.LF.trans z.Fg)), h3, k _ Bo.bl⟩
  | .dnew, x, h, _, _, _ => by cases h
  | .lst _, x, h, _, _, _ => by cases h
  | .prop _ _, x, h, _, _, _ => by cases h
  | .call _ _, x, h, _, _, _ => by cases h
  | .meth _ _ _, x, h, _, _, _ => by cases h
  | .make _ _, x, h, _, _, _ => by cases h
  | .sm _ _ _, x, h, _, _, _ => by cases h
  | .bm _ _ _, x, h, _, _, _ => by cases h
  | .disp _ _, x, h, _, _, _ => by cases h
  | .comp _ _ _ _ _, x, h, _, _, _ => by cases h
  | .dcomp _ _ _ _ _ _, x, h, _, _, _ => by cases h
theorem sndTq (z : Z s g F L ω env A) : ∀ (e : Ex) (k : Bool), evTq P e ω = some k → ∀ (Po : Bool → Gp → Prop) (Xp : Xo), Po k g → wT P ΓC e env g Po Xp
  | .cmp o a b, k, h, Po, Xp, q => by
    obtain ⟨xa, h1, h⟩ := Option.bind_eq_some_iff.mp (show (evQ P a ω).bind (fun x => (evQ P b ω).bind fun y => opCmp o x.1 y.1) = some k from h)
    obtain ⟨xb, h2, h3⟩ := Option.bind_eq_some_iff.mp h
    exact sndQ z a xa h1 _ Xp fun va ba => sndQ z b xb h2 _ Xp fun vb bb => opCmp_ok h3 (ba.sh z.sg (z.LF.trans z.Fg)) (bb.sh z.sg (z.LF.trans z.Fg)) ⟨k, rfl, q⟩
  | .cmp2 o o2 a b c, k, h, Po, Xp, q => by
    obtain ⟨xa, h1, h⟩ := Option.bind_eq_some_iff.mp (show (evQ P a ω).bind (fun x => (evQ P b ω).bind fun y => (opCmp o x.1 y.1).bind fun k => if k then (evQ P c ω).bind fun z => opCmp o2 y.1 z.1 else some false) = some k from h)
    obtain ⟨xb, h2, h⟩ := Option.bind_eq_some_iff.mp h
    obtain ⟨k1, h3, h⟩ := Option.bind_eq_some_iff.mp h
    refine sndQ z a xa h1 _ Xp fun va ba => sndQ z b xb h2 _ Xp fun vb bb => opCmp_ok h3 (ba.sh z.sg (z.LF.trans z.Fg)) (bb.sh z.sg (z.LF.trans z.Fg)) ⟨k1, rfl, ?_⟩
    cases k1 with
    | false =>
      rw [if_neg Bool.false_ne_true] at h ⊢
      cases h
      exact ⟨_, rfl, q⟩
    | true =>
      rw [if_pos rfl] at h ⊢
      obtain ⟨xc, h4, h5⟩ := Option.bind_eq_some_iff.mp h
      exact sndQ z c xc h4 _ Xp fun vc bc => opCmp_ok h5 (bb.sh z.sg (z.LF.trans z.Fg)) (bc.sh z.sg (z.LF.trans z.Fg)) ⟨k, rfl, q⟩
  | .not a, k, h, Po, Xp, q => by
    obtain ⟨i, h1, h2⟩ := Option.map_eq_some_iff.mp (show (evTq P a ω).map not = some k from h)
    subst h2
    exact sndTq z a i h1 _ Xp q
  | .and es, k, h, Po, Xp, q => sndTqand z es k h Po Xp q
  | .or es, k, h, Po, Xp, q => sndTqor z es k h Po Xp q
  | .var i, k, h, Po, Xp, q => by
    obtain ⟨x, h1, h2⟩ := Option.bind_eq_some_iff.mp (show (slotQ ω i).bind (fun x => truW x.1) = some k from h)
    obtain ⟨v, e1, b⟩ := slotQ_ok z h1
    exact ⟨v, e1, k, truW_ok h2 (b.sh z.sg (z.LF.trans z.Fg)), q⟩
  | .bl i, k, h, Po, Xp, q => by cases h; exact ⟨_, rfl, q⟩
  | .ix a b, k, h, Po, Xp, q => by
    obtain ⟨xa, h1, h⟩ := Option.bind_eq_some_iff.mp (show (evQ P a ω).bind (fun x => (evQ P b ω).bind fun y => (ixW x y.1).bind fun z => truW z.1) = some k from h)
    obtain ⟨xb, h2, h⟩ := Option.bind_eq_some_iff.mp h
    obtain ⟨x, h3, h4⟩ := Option.bind_eq_some_iff.mp h
    exact sndQ z a xa h1 _ Xp fun va ba => sndQ z b xb h2 _ Xp fun vb bb => ixW_ok h3 ba (bb.sh z.sg (z.LF.trans z.Fg)) z.sg (z.LF.trans z.Fg) fun u bu => ⟨k, truW_ok h4 (bu.sh z.sg (z.LF.trans z.Fg)), q⟩
  | .fld f a, k, h, Po, Xp, q => by
    obtain ⟨xa, h1, h⟩ := Option.bind_eq_some_iff.mp (show (evQ P a ω).bind (fun x => (fldW P.fok f x).bind fun z => truW z.1) = some k from h)
    obtain ⟨x, h3, h4⟩ := Option.bind_eq_some_iff.mp h
    exact sndQ z a xa h1 _ Xp fun va ba => fldW_ok (Po := fun x g1 => ∃ k, Tru g1 x k ∧ Po k g1) h3 ba z.sg (z.LF.trans z.Fg) fun u bu => ⟨k, truW_ok h4 (bu.sh z.sg (z.LF.trans z.Fg)), q⟩
  | .blt b es, k, h, Po, Xp, q => by
    obtain ⟨ps, h1, h⟩ := Option.bind_eq_some_iff.mp (show (evQs P es ω).bind (fun ps => (bltW b (ps.map Prod.fst)).bind truW) = some k from h)
    obtain ⟨w, h3, h4⟩ := Option.bind_eq_some_iff.mp h
    exact sndQs z es ps h1 _ Xp fun vs bs => bltW_ok h3 (bs.sh z.sg (z.LF.trans z.Fg)) fun u r => ⟨k, truW_ok h4 r, q⟩
  | .isi u a, k, h, Po, Xp, q => by
    obtain ⟨xa, h1, h3⟩ := Option.bind_eq_some_iff.mp (show (evQ P a ω).bind (fun x => P.isi (tyW x.1) u) = some k from h)
    exact sndQ z a xa h1 _ Xp fun va ba => ⟨_, k, tyW_ok (ba.sh z.sg (z.LF.trans z.Fg)), h3, k, rfl, q⟩
  | .int _, _, h, _, _, _ => by cases h
  | .str _, _, h, _, _, _ => by cases h
  | .non, _, h, _, _, _ => by cases h
  | .kon _ _, _, h, _, _, _ => by cases h
  | .bin _ _ _, _, h, _, _, _ => by cases h
  | .neg _, _, h, _, _, _ => by cases h
  | .ife _ _ _, _, h, _, _, _ => by cases h
  | .tup _, _, h, _, _, _ => by cases h
  | .sl _ _ _ _ _, _, h, _, _, _ => by cases h
  | .dnew, _, h, _, _, _ => by cases h
  | .lst _, _, h, _, _, _ => by cases h
  | .prop _ _, _, h, _, _, _ => by cases h
  | .call _ _, _, h, _, _, _ => by cases h
  | .meth _ _ _, _, h, _, _, _ => by cases h
  | .make _ _, _, h, _, _, _ => by cases h
  | .sm _ _ _, _, h, _, _, _ => by cases h
  | .bm _ _ _, _, h, _, _, _ => by cases h
  | .disp _ _, _, h, _, _, _ => by cases h
  | .comp _ _ _ _ _, _, h, _, _, _ => by cases h
  | .dcomp _ _ _ _ _ _, _, h, _, _, _ => by cases h
theorem sndTqand (z : Z s g F L ω env A) : ∀ (es : Exs) (k : Bool), evTqand P es ω = some k → ∀ (Po : Bool → Gp → Prop) (Xp : Xo), Po k g → wtAnd (wTs P ΓC es) env g Po Xp
  | .nil, k, h, Po, Xp, q => by cases h; exact q
  | .cons e r, k, h, Po, Xp, q => by
    obtain ⟨i, h1, h2⟩ := Option.bind_eq_some_iff.mp (show (evTq P e ω).bind (fun k => if k then evTqand P r ω else some false) = some k from h)
    cases r with
    | nil =>
      refine sndTq z e i h1 Po Xp ?_
      cases i with
      | true => rw [if_pos rfl] at h2; cases h2; exact q
      | false => rw [if_neg Bool.false_ne_true] at h2; cases h2; exact q
    | cons e' r' =>
      refine sndTq z e i h1 _ Xp ?_
      cases i with
      | true => rw [if_pos rfl] at h2 ⊢; exact sndTqand z (.cons e' r') k h2 Po Xp q
      | false => rw [if_neg Bool.false_ne_true] at h2 ⊢; cases h2; exact q
theorem sndTqor (z : Z s g F L ω env A) : ∀ (es : Exs) (k : Bool), evTqor P es ω = some k → ∀ (Po : Bool → Gp → Prop) (Xp : Xo), Po k g → wtOr (wTs P ΓC es) env g Po Xp
  | .nil, k, h, Po, Xp, q => by cases h; exact q
  | .cons e r, k, h, Po, Xp, q => by
    obtain ⟨i, h1, h2⟩ := Option.bind_eq_some_iff.mp (show (evTq P e ω).bind (fun k => if k then some true else evTqor P r ω) = some k from h)
    cases r with
    | nil =>
      refine sndTq z e i h1 Po Xp ?_
      cases i with
      | true => rw [if_pos rfl] at h2; cases h2; exact q
      | false => rw [if_neg Bool.false_ne_true] at h2; cases h2; exact q
    | cons e' r' =>
      refine sndTq z e i h1 _ Xp ?_
      cases i with
      | true => rw [if_pos rfl] at h2 ⊢; cases h2; exact q
      | false => rw [if_neg Bool.false_ne_true] at h2 ⊢; exact sndTqor z (.cons e' r') k h2 Po Xp q
theorem sndQs (z : Z s g F L ω env A) : ∀ (es : Exs) (ps : List (W × O)), evQs P es ω = some ps → ∀ (Po : List Vl → Gp → Prop) (Xp : Xo), (∀ vs, Bos s g L ps vs → Po vs g) → wA P ΓC es env g Po Xp
  | .nil, ps, h, Po, Xp, k => by cases h; exact k [] rfl
  | .cons e r, ps, h, Po, Xp, k => by
    obtain ⟨x, h1, h2⟩ := Option.bind_eq_some_iff.mp (show (evQ P e ω).bind (fun x => (evQs P r ω).map (x :: ·)) = some ps from h)
    obtain ⟨xs, h3, h4⟩ := Option.map_eq_some_iff.mp h2
    subst h4
    exact sndQ z e x h1 _ Xp fun v b => sndQs z r xs h3 _ Xp fun vs bs => k (v :: vs) ⟨v, vs, rfl, b, bs⟩
theorem sndQand (z : Z s g F L ω env A) : ∀ (es : Exs) (k : Bool), evQand P es ω = some k → ∀ (Po : Po) (Xp : Xo), Po (.bl k) g → wAnd (wEs P ΓC es) env g Po Xp
  | .nil, k, h, Po, Xp, q => by cases h; exact q
  | .cons e r, k, h, Po, Xp, q => by
    obtain ⟨i, h1, h2⟩ := Option.bind_eq_some_iff.mp (show (blQ (evQ P e ω)).bind (fun k => if k then evQand P r ω else some false) = some k from h)
    obtain ⟨o, e1⟩ := blQ_some h1
    cases r with
    | nil =>
      refine sndQ z e _ e1 Po Xp fun v b => ?_
      have ev : v = .bl i := b.sh z.sg (z.LF.trans z.Fg)
      subst ev
      cases i with
      | true => rw [if_pos rfl] at h2; cases h2; exact q
      | false => rw [if_neg Bool.false_ne_true] at h2; cases h2; exact q
    | cons e' r' =>
      refine sndQ z e _ e1 _ Xp fun v b => ⟨i, b.sh z.sg (z.LF.trans z.Fg), ?_⟩
      cases i with
      | true => rw [if_pos rfl] at h2 ⊢; exact sndQand z (.cons e' r') k h2 Po Xp q
      | false => rw [if_neg Bool.false_ne_true] at h2 ⊢; cases h2; exact q
theorem sndQor (z : Z s g F L ω env A) : ∀ (es : Exs) (k : Bool), evQor P es ω = some k → ∀ (Po : Po) (Xp : Xo), Po (.bl k) g → wOr (wEs P ΓC es) env g Po Xp
  | .nil, k, h, Po, Xp, q => by cases h; exact q
  | .cons e r, k, h, Po, Xp, q => by
    obtain ⟨i, h1, h2⟩ := Option.bind_eq_some_iff.mp (show (blQ (evQ P e ω)).bind (fun k => if k then some true else evQor P r ω) = some k from h)
    obtain ⟨o, e1⟩ := blQ_some h1
    cases r with
    | nil =>
      refine sndQ z e _ e1 Po Xp fun v b => ?_
      have ev : v = .bl i := b.sh z.sg (z.LF.trans z.Fg)
      subst ev
      cases i with
      | true => rw [if_pos rfl] at h2; cases h2; exact q
      | false => rw [if_neg Bool.false_ne_true] at h2; cases h2; exact q
    | cons e' r' =>
      refine sndQ z e _ e1 _ Xp fun v b => ⟨i, b.sh z.sg (z.LF.trans z.Fg), ?_⟩
      cases i with
      | true => rw [if_pos rfl] at h2 ⊢; cases h2; exact q
      | false => rw [if_neg Bool.false_ne_true] at h2 ⊢; exact sndQor z (.cons e' r') k h2 Po Xp q
end
end
end MP
set_option Elab.async false
set_option linter.all false
set_option maxRecDepth 100000
/-! EV, part 10: places, changes in place. -/
namespace MP
open PySem PySem.Spec PyProof.Rows L2
theorem getP_hole : ∀ (p : List Nat) (w : W) (x : W × O), getP (w, .hole) p = some x → x.2 = .hole
  | [], w, x, h => by cases h; rfl
  | j :: p, w, x, h => by
    obtain ⟨y, _, h2⟩ := Option.bind_eq_some_iff.mp (show (w.kids[j]?).bind (fun y => getP (y, O.hole.part j) p) = some x from h)
    exact getP_hole p y x h2
theorem getP_app : ∀ (p q : List Nat) (r : W × O), getP r (p ++ q) = (getP r p).bind fun x => getP x q
  | [], q, r => rfl
  | j :: p, q, (w, o) => by
    show (w.kids[j]?).bind (fun x => getP (x, o.part j) (p ++ q)) = ((w.kids[j]?).bind fun x => getP (x, o.part j) p).bind fun x => getP x q
    cases w.kids[j]? with
    | none => rfl
    | some y => exact getP_app p q _
theorem atV_app {g : Gp} : ∀ (p q : List Nat) (v : Vl), atV g v (p ++ q) = (atV g v p).bind fun x => atV g x q
  | [], q, v => rfl
  | j :: p, q, v => by
    show ((kidsV g v)[j]?).bind (fun x => atV g x (p ++ q)) = (((kidsV g v)[j]?).bind fun x => atV g x p).bind fun x => atV g x q
    cases (kidsV g v)[j]? with
    | none => rfl
    | some y => exact atV_app p q _
section
variable {s g F g' : Gp} {L : Lt} {v z : Vl} {w x y : W} {o o' o2 : O} {B C D : List Addr}
theorem R.step {j : Nat} (r : R s g L o w v B) (nd : B.Nodup) (hs : Sub s g) (hL : SubL L g) (ho : o ≠ .hole) (e : w.kids[j]? = some x) : ∃ z C, (kidsV g v)[j]? = some z ∧ R s g L (o.part j) x z C ∧ (∀ a ∈ C, a ∈ B) ∧ C.Nodup ∧
    ∀ {s' g' : Gp} {o' : O} {y : W} {C' : List Addr}, ExtN s s' → (∀ a ∈ B, a ∉ C → g' a = g a) → R s' g' L o' y z C' → C'.Nodup → (∀ a ∈ C', a ∈ B → a ∈ C) → ∀ o2, o.setPart j o' = some o2 → ∃ B', Fq B' B C C' ∧ R s' g' L o2 (w.setK j y) v B' := by
  cases o with
  | hole => exact absurd rfl ho
  | sh =>
    obtain ⟨z, C, h1, h2, h3⟩ := r.kid hs hL ho e
    have eC : C = [] := h2.1
    exact ⟨z, C, h1, h2, h3, by rw [eC]; exact List.nodup_nil, fun _ _ _ _ _ _ h => by cases h⟩
  | lk _ =>
    obtain ⟨z, C, h1, h2, h3⟩ := r.kid hs hL ho e
    have eC : C = [] := h2.1
    exact ⟨z, C, h1, h2, h3, by rw [eC]; exact List.nodup_nil, fun _ _ _ _ _ _ h => by cases h⟩
  | tp cs =>
    cases w with
    | tup xs =>
      obtain ⟨vs, e1, q⟩ := r
      subst e1
      obtain ⟨z, C, h1, h2, h3, h4, k⟩ := q.focus nd e
      refine ⟨z, C, h1, h2, h3, h4, fun {s' g' o' y C'} hx hg q' f hD o2 h => ?_⟩
      cases h
      obtain ⟨B', f', r'⟩ := k hx hg q' f hD
      exact ⟨B', f', vs, rfl, r'⟩
    | _ => exact r.elim
  | ow cs =>
    have lift : ∀ {a : Addr} {B1 C : List Addr}, (a :: B1).Nodup → (∀ b ∈ C, b ∈ B1) → a ∉ C := fun {a B1 C} nd h hc => (List.nodup_cons.mp nd).1 (h a hc)
    have fin : ∀ {a : Addr} {B1 B' C C' : List Addr}, (a :: B1).Nodup → (∀ b ∈ C, b ∈ B1) → Fq B' B1 C C' → (∀ b ∈ C', b ∈ a :: B1 → b ∈ C) → Fq (a :: B') (a :: B1) C C' := fun {a B1 B' C C'} nd hC f hD => by
      refine ⟨List.nodup_cons.mpr ⟨fun h => ?_, f.nd⟩, fun b h => ?_⟩
      · rcases f.sub a h with h | ⟨h, _⟩
        · exact (List.nodup_cons.mp nd).1 (hC a (hD a h List.mem_cons_self))
        · exact (List.nodup_cons.mp nd).1 h
      · rcases List.mem_cons.mp h with rfl | h
        · exact .inr ⟨List.mem_cons_self, fun h => (List.nodup_cons.mp nd).1 (hC _ h)⟩
        · rcases f.sub b h with h | ⟨h, h'⟩
          · exact .inl h
          · exact .inr ⟨List.mem_cons_of_mem _ h, h'⟩
    cases w with
    | lst xs =>
      obtain ⟨a, vs, B1, e1, eB, q0, q⟩ := r
      subst e1 eB
      obtain ⟨z, C, h1, h2, h3, h4, k⟩ := q.focus (List.nodup_cons.mp nd).2 e
      refine ⟨z, C, by unfold kidsV; simp only [q0]; exact h1, h2, fun b h => List.mem_cons_of_mem _ (h3 b h), h4, fun {s' g' o' y C'} hx hg q' f hD o2 h => ?_⟩
      cases h
      obtain ⟨B', f', r'⟩ := k hx (fun b h h' => hg b (List.mem_cons_of_mem _ h) h') q' f fun b h h' => hD b h (List.mem_cons_of_mem _ h')
      exact ⟨a :: B', fin nd h3 f' hD, a, vs, B', rfl, rfl, (hg a List.mem_cons_self (lift nd h3)).trans q0, r'⟩
    | dct ks xs =>
      obtain ⟨a, kvs, B1, e1, eB, q0, q1, q⟩ := r
      subst e1 eB
      obtain ⟨z, C, h1, h2, h3, h4, k⟩ := q.focus (List.nodup_cons.mp nd).2 e
      refine ⟨z, C, by unfold kidsV; simp only [q0]; exact h1, h2, fun b h => List.mem_cons_of_mem _ (h3 b h), h4, fun {s' g' o' y C'} hx hg q' f hD o2 h => ?_⟩
      cases h
      obtain ⟨B', f', r'⟩ := k hx (fun b h h' => hg b (List.mem_cons_of_mem _ h) h') q' f fun b h h' => hD b h (List.mem_cons_of_mem _ h')
      exact ⟨a :: B', fin nd h3 f' hD, a, kvs, B', rfl, rfl, (hg a List.mem_cons_self (lift nd h3)).trans q0, q1, r'⟩
    | ins c fs xs =>
      obtain ⟨a, kvs, B1, e1, eB, q0, q1, q⟩ := r
      subst e1 eB
      obtain ⟨z, C, h1, h2, h3, h4, k⟩ := q.focus (List.nodup_cons.mp nd).2 e
      refine ⟨z, C, by unfold kidsV; simp only [q0]; exact h1, h2, fun b h => List.mem_cons_of_mem _ (h3 b h), h4, fun {s' g' o' y C'} hx hg q' f hD o2 h => ?_⟩
      cases h
      obtain ⟨B', f', r'⟩ := k hx (fun b h h' => hg b (List.mem_cons_of_mem _ h) h') q' f fun b h h' => hD b h (List.mem_cons_of_mem _ h')
      exact ⟨a :: B', fin nd h3 f' hD, a, kvs, B', rfl, rfl, (hg a List.mem_cons_self (lift nd h3)).trans q0, q1, r'⟩
    | _ => exact r.elim
/-- the part at a path, and what stands there instead -/
theorem R.at (hs : Sub s g) (hL : SubL L g) : ∀ (p : List Nat) {w : W} {o : O} {v : Vl} {B : List Addr} {x : W × O}, R s g L o w v B → B.Nodup → getP (w, o) p = some x → x.2 ≠ .hole → ∃ z C, atV g v p = some z ∧ R s g L x.2 x.1 z C ∧ (∀ a ∈ C, a ∈ B) ∧ C.Nodup ∧
    ∀ {s' g' : Gp} {o' : O} {y : W} {C' : List Addr}, ExtN s s' → (∀ a ∈ B, a ∉ C → g' a = g a) → R s' g' L o' y z C' → C'.Nodup → (∀ a ∈ C', a ∈ B → a ∈ C) → ∀ r, updP (fun _ => some (y, o')) (w, o) p = some r → ∃ B', Fq B' B C C' ∧ R s' g' L r.2 r.1 v B'
  | [], w, o, v, B, x, r, nd, e, hx => by
    cases e
    refine ⟨v, B, rfl, r, fun _ h => h, nd, fun {s' g' o' y C'} hx hg q f hD r e => ?_⟩
    cases e
    exact ⟨C', ⟨f, fun a h => .inl h⟩, q⟩
  | j :: p, w, o, v, B, x, r, nd, e, hx => by
    obtain ⟨u, h1, h2⟩ := Option.bind_eq_some_iff.mp (show (w.kids[j]?).bind (fun y => getP (y, o.part j) p) = some x from e)
    have ho : o ≠ .hole := by
      rintro rfl
      exact hx (getP_hole p u x h2)
    obtain ⟨z1, C1, k1, k2, k3, k4, k5⟩ := r.step nd hs hL ho h1
    obtain ⟨z, C, m1, m2, m3, m4, m5⟩ := R.at hs hL p k2 k4 h2 hx
    refine ⟨z, C, by show ((kidsV g v)[j]?).bind _ = _; rw [k1]; exact m1, m2, fun a h => k3 a (m3 a h), m4, fun {s' g' o' y C'} hx hg q f hD r e => ?_⟩
    obtain ⟨u', n1, n2⟩ := Option.bind_eq_some_iff.mp (show (w.kids[j]?).bind (fun u => (updP (fun _ => some (y, o')) (u, o.part j) p).bind fun y => (o.setPart j y.2).map fun o' => (w.setK j y.1, o')) = some r from e)
    rw [h1] at n1
    cases n1
    obtain ⟨r1, n3, n4⟩ := Option.bind_eq_some_iff.mp n2
    obtain ⟨o3, n5, n6⟩ := Option.map_eq_some_iff.mp n4
    subst n6
    obtain ⟨B1, f1, q1⟩ := m5 hx (fun a h h' => hg a (k3 a h) h') q f (fun a h h' => hD a h (k3 a h')) r1 n3
    obtain ⟨B', f2, q2⟩ := k5 hx (fun a h h' => hg a h fun hc => h' (m3 a hc)) q1 f1.nd (fun a h h' => by
      rcases f1.sub a h with h | ⟨h, _⟩
      · exact m3 a (hD a h h')
      · exact h) o3 n5
    refine ⟨B', ⟨f2.nd, fun a h => ?_⟩, q2⟩
    rcases f2.sub a h with h | ⟨h, h'⟩
    · rcases f1.sub a h with h | ⟨h, h'⟩
      · exact .inl h
      · exact .inr ⟨k3 a h, h'⟩
    · exact .inr ⟨h, fun hc => h' (m3 a hc)⟩
theorem updP_get {f : W × O → Option (W × O)} : ∀ (p : List Nat) (r r' : W × O), updP f r p = some r' → ∃ x y, getP r p = some x ∧ f x = some y ∧ updP (fun _ => some y) r p = some r'
  | [], r, r', h => ⟨r, r', rfl, h, rfl⟩
  | j :: p, (w, o), r', h => by
    obtain ⟨u, h1, h2⟩ := Option.bind_eq_some_iff.mp (show (w.kids[j]?).bind (fun u => (updP f (u, o.part j) p).bind fun y => (o.setPart j y.2).map fun o' => (w.setK j y.1, o')) = some r' from h)
    obtain ⟨r1, h3, h4⟩ := Option.bind_eq_some_iff.mp h2
    obtain ⟨x, y, k1, k2, k3⟩ := updP_get p _ _ h3
    refine ⟨x, y, ?_, k2, ?_⟩
    · show (w.kids[j]?).bind _ = _
      rw [h1]
      exact k1
    · show (w.kids[j]?).bind _ = _
      rw [h1]
      show (updP _ (u, o.part j) p).bind _ = _
      rw [k3]
      exact h4
end
section
variable {s g F : Gp} {L : Lt} {P : Prog} {ΓC : Nat → Ct} {ω : En} {env : Env} {A : Ft}
theorem slot_some {i : Nat} {x : W × O} (h : slot ω i = some x) : ω[i]? = some (some x) := by
  unfold slot at h
  split at h
  · rename_i wo e
    cases h
    exact e
  · cases h
theorem Z.slot (z : Z s g F L ω env A) {i : Nat} {x : W × O} (h : slot ω i = some x) : ∃ v, env[i]? = some (some v) ∧ R s g L x.2 x.1 v (A i) := z.val i x.1 x.2 (slot_some h)
theorem Bo.ne {x : W × O} {v : Vl} (b : Bo s g L x v) : x.2 ≠ .hole := by
  intro h
  have := b.1
  rw [h] at this
  cases this
theorem evPl_ok (z : Z s g F L ω env A) : ∀ (e : Ex) (i : Nat) (p : List Nat), evPl P e ω = some (i, p) → ∀ root, MP.slot ω i = some root → ∀ x, getP root p = some x → x.2 ≠ .hole → ∃ v0 u, env[i]? = some (some v0) ∧ atV g v0 p = some u ∧ ∀ (Po : Po) (Xp : Xo), Po u g → wE P ΓC e env g Po Xp
  | .var j, i, p, h, root, h1, x, h2, h3 => by
    cases h
    obtain ⟨v, e1, r⟩ := z.slot h1
    exact ⟨v, v, e1, rfl, fun Po Xp q => ⟨v, e1, q⟩⟩
  | .fld f a, i, p, h, root, h1, x, h2, h3 => by
    obtain ⟨ip, k1, h⟩ := Option.bind_eq_some_iff.mp (show (evPl P a ω).bind (fun ip => (MP.slot ω ip.1).bind fun r => (getP r ip.2).bind fun x => match x.1 with
      | .ins c fs _ => if P.fok c f then (kIx fs f).map fun j => (ip.1, ip.2 ++ [j]) else none
      | _ => none) = some (i, p) from h)
    obtain ⟨rt, k2, h⟩ := Option.bind_eq_some_iff.mp h
    obtain ⟨nd, k3, h⟩ := Option.bind_eq_some_iff.mp h
    obtain ⟨i', q⟩ := ip
    split at h
    · rename_i c fs ws ew
      split at h
      · rename_i hc
        obtain ⟨j, k4, k5⟩ := Option.map_eq_some_iff.mp h
        cases k5
        rw [h1] at k2
        cases k2
        rw [getP_app, k3] at h2
        have h2 : (nd.1.kids[j]?).bind (fun y => getP (y, nd.2.part j) []) = some x := h2
        obtain ⟨y, k6, k7⟩ := Option.bind_eq_some_iff.mp h2
        cases k7
        have hn : nd.2 ≠ .hole := by
          intro hh
          rw [hh] at h3
          exact h3 rfl
        obtain ⟨v0, u0, e1, e2, e3⟩ := evPl_ok z a _ q k1 root h1 nd k3 hn
        obtain ⟨v0', e1', r⟩ := z.slot h1
        rw [e1] at e1'
        cases e1'
        obtain ⟨u0', C, e4, r2, _, _, _⟩ := r.at z.sg (z.LF.trans z.Fg) q (z.nd _) k3 hn
        rw [e2] at e4
        cases e4
        obtain ⟨u, C2, e5, _, _⟩ := r2.kid z.sg (z.LF.trans z.Fg) hn k6
        have shape : ∃ l fvs, u0 = .ref l ∧ g l = some (.ins c fvs) ∧ fvs.map Prod.fst = fs := by
          obtain ⟨nw, no⟩ := nd
          simp only at ew
          subst ew
          cases no with
          | sh =>
            obtain ⟨_, l, fvs, q1, q2, q3, _⟩ := r2
            exact ⟨l, fvs, q1, z.sg _ _ q2, q3⟩
          | ow cs =>
            obtain ⟨l, fvs, _, q1, _, q2, q3, _⟩ := r2
            exact ⟨l, fvs, q1, q2, q3⟩
          | hole => exact absurd rfl hn
          | lk _ => exact r2.2.elim
          | tp cs => exact r2.elim
        obtain ⟨l, fvs, q1, q2, q3⟩ := shape
        refine ⟨v0, u, e1, ?_, fun Po Xp qq => e3 _ Xp ⟨l, c, fvs, u, q1, q2, hc, ?_, qq⟩⟩
        · rw [atV_app, e2]
          show ((kidsV g u0)[j]?).bind _ = _
          rw [e5]
          rfl
        · rw [getD_ix (by rw [q3]; exact k4)]
          subst q1
          unfold kidsV at e5
          simp only [q2] at e5
          exact e5
      · cases h
    · cases h
  | .ix a b, i, p, h, root, h1, x, h2, h3 => by
    obtain ⟨ip, k1, h⟩ := Option.bind_eq_some_iff.mp (show (evPl P a ω).bind (fun ip => (MP.slot ω ip.1).bind fun r => (getP r ip.2).bind fun x => (evQ P b ω).bind fun k => (ixJ x.1 k.1).map fun j => (ip.1, ip.2 ++ [j])) = some (i, p) from h)
    obtain ⟨rt, k2, h⟩ := Option.bind_eq_some_iff.mp h
    obtain ⟨nd, k3, h⟩ := Option.bind_eq_some_iff.mp h
    obtain ⟨key, kb, h⟩ := Option.bind_eq_some_iff.mp h
    obtain ⟨i', q⟩ := ip
    obtain ⟨j, k4, k5⟩ := Option.map_eq_some_iff.mp h
    cases k5
    rw [h1] at k2
    cases k2
    rw [getP_app, k3] at h2
    have h2 : (nd.1.kids[j]?).bind (fun y => getP (y, nd.2.part j) []) = some x := h2
    obtain ⟨y, k6, k7⟩ := Option.bind_eq_some_iff.mp h2
    cases k7
    have hn : nd.2 ≠ .hole := by
      intro hh
      rw [hh] at h3
      exact h3 rfl
    obtain ⟨v0, u0, e1, e2, e3⟩ := evPl_ok z a _ q k1 root h1 nd k3 hn
    obtain ⟨v0', e1', r⟩ := z.slot h1
    rw [e1] at e1'
    cases e1'
    obtain ⟨u0', C, e4, r2, _, _, _⟩ := r.at z.sg (z.LF.trans z.Fg) q (z.nd _) k3 hn
    rw [e2] at e4
    cases e4
    obtain ⟨u, C2, e5, _, _⟩ := r2.kid z.sg (z.LF.trans z.Fg) hn k6
    refine ⟨v0, u, e1, ?_, fun Po Xp qq => e3 _ Xp (sndQ z b key kb _ Xp fun vk bk => ?_)⟩
    · rw [atV_app, e2]
      show ((kidsV g u0)[j]?).bind _ = _
      rw [e5]
      rfl
    have hk := bk.sh z.sg (z.LF.trans z.Fg)
    obtain ⟨nw, no⟩ := nd
    cases nw with
    | lst xs =>
      cases hkw : key.1 <;> (rw [hkw] at k4; first | (cases k4; done) | skip)
      rename_i n
      rw [hkw] at hk
      cases (hk : _ = _)
      have shape : ∃ l vs, u0 = .ref l ∧ g l = some (.lst vs) ∧ vs.length = xs.length := by
        cases no with
        | sh =>
          obtain ⟨_, l, vs, q1, q2, q3⟩ := r2
          exact ⟨l, vs, q1, z.sg _ _ q2, q3.length⟩
        | lk _ =>
          obtain ⟨_, l, vs, q1, q2, q3⟩ := r2
          exact ⟨l, vs, q1, (z.LF.trans z.Fg) _ _ _ q2, q3.length⟩
        | ow cs =>
          obtain ⟨l, vs, _, q1, _, q2, q3⟩ := r2
          exact ⟨l, vs, q1, q2, q3.len⟩
        | hole => exact absurd rfl hn
        | tp cs => exact r2.elim
      obtain ⟨l, vs, q1, q2, q3⟩ := shape
      subst q1
      refine .inl ⟨vs, n, u, .inl (.inl ⟨l, rfl, q2⟩), rfl, ?_, qq⟩
      unfold atI
      rw [q3]
      have k4' : ixN xs.length n = some j := k4
      rw [k4']
      unfold kidsV at e5
      simp only [q2] at e5
      exact e5
    | tup xs =>
      cases hkw : key.1 <;> (rw [hkw] at k4; first | (cases k4; done) | skip)
      rename_i n
      rw [hkw] at hk
      cases (hk : _ = _)
      have shape : ∃ vs, u0 = .tup vs ∧ vs.length = xs.length := by
        cases no with
        | sh =>
          obtain ⟨_, vs, q1, q3⟩ := r2
          exact ⟨vs, q1, q3.length⟩
        | tp cs =>
          obtain ⟨vs, q1, q3⟩ := r2
          exact ⟨vs, q1, q3.len⟩
        | lk _ => exact r2.2.elim
        | hole => exact absurd rfl hn
        | ow cs => exact r2.elim
      obtain ⟨vs, q1, q3⟩ := shape
      subst q1
      refine .inl ⟨vs, n, u, .inr rfl, rfl, ?_, qq⟩
      unfold atI
      rw [q3]
      have k4' : ixN xs.length n = some j := k4
      rw [k4']
      exact e5
    | dct ks xs =>
      obtain ⟨kk, k8, k9⟩ := Option.bind_eq_some_iff.mp (show (kyW key.1).bind (kIx ks) = some j from k4)
      have shape : ∃ l kvs, u0 = .ref l ∧ IsD g l kvs ∧ kvs.map Prod.fst = ks := by
        cases no with
        | sh =>
          obtain ⟨_, l, vs, q1, q2, q3, _⟩ := r2
          exact ⟨l, vs, q1, (z.sg.ext.n l).2.2 _ q2, q3⟩
        | lk _ =>
          obtain ⟨_, l, t, vs, q1, q2, q3, _⟩ := r2
          exact ⟨l, vs, q1, .inr ⟨t, (z.LF.trans z.Fg) _ _ _ q2⟩, q3⟩
        | ow cs =>
          obtain ⟨l, vs, _, q1, _, q2, q3, _⟩ := r2
          exact ⟨l, vs, q1, .inl q2, q3⟩
        | hole => exact absurd rfl hn
        | tp cs => exact r2.elim
      obtain ⟨l, kvs, q1, q2, q3⟩ := shape
      subst q1
      refine .inr (.inr ⟨kk, kvs, u, ⟨l, rfl, q2⟩, kyW_ok k8 hk, ?_, qq⟩)
      rw [kIx_val (by rw [q3]; exact k9)]
      unfold kidsV at e5
      rcases q2 with q2 | ⟨t, q2⟩ <;> (simp only [q2] at e5; exact e5)
    | _ => cases hkw : key.1 <;> (rw [hkw] at k4; cases k4)
  | .int _, _, _, h, _, _, _, _, _ => by cases h
  | .str _, _, _, h, _, _, _, _, _ => by cases h
  | .bl _, _, _, h, _, _, _, _, _ => by cases h
  | .non, _, _, h, _, _, _, _, _ => by cases h
  | .kon _ _, _, _, h, _, _, _, _, _ => by cases h
  | .bin _ _ _, _, _, h, _, _, _, _, _ => by cases h
  | .cmp _ _ _, _, _, h, _, _, _, _, _ => by cases h
  | .cmp2 _ _ _ _ _, _, _, h, _, _, _, _, _ => by cases h
  | .neg _, _, _, h, _, _, _, _, _ => by cases h
  | .not _, _, _, h, _, _, _, _, _ => by cases h
  | .and _, _, _, h, _, _, _, _, _ => by cases h
  | .or _, _, _, h, _, _, _, _, _ => by cases h
  | .ife _ _ _, _, _, h, _, _, _, _, _ => by cases h
  | .tup _, _, _, h, _, _, _, _, _ => by cases h
  | .lst _, _, _, h, _, _, _, _, _ => by cases h
  | .dnew, _, _, h, _, _, _, _, _ => by cases h
  | .sl _ _ _ _ _, _, _, h, _, _, _, _, _ => by cases h
  | .prop _ _, _, _, h, _, _, _, _, _ => by cases h
  | .call _ _, _, _, h, _, _, _, _, _ => by cases h
  | .meth _ _ _, _, _, h, _, _, _, _, _ => by cases h
  | .make _ _, _, _, h, _, _, _, _, _ => by cases h
  | .sm _ _ _, _, _, h, _, _, _, _, _ => by cases h
  | .blt _ _, _, _, h, _, _, _, _, _ => by cases h
  | .isi _ _, _, _, h, _, _, _, _, _ => by cases h
  | .bm _ _ _, _, _, h, _, _, _, _, _ => by cases h
  | .disp _ _, _, _, h, _, _, _, _, _ => by cases h
  | .comp _ _ _ _ _, _, _, h, _, _, _, _, _ => by cases h
  | .dcomp _ _ _ _ _ _, _, _, h, _, _, _, _, _ => by cases h
end
end MP
set_option Elab.async false
set_option linter.all false
set_option maxRecDepth 100000
/-! EV, part 11: what is wanted behind; calls. -/
namespace MP
open PySem PySem.Spec PyProof.Rows L2
/-- what is wanted behind -/
def Kg {α β : Type} (rel : Gp → Gp → Ft → α → β → Prop) (s F : Gp) (L : Lt) (env : Env) (r : Rr α) (Po : β → Gp → Prop) (Xp : Xo) : Prop := match r with
  | .ok a ω' => ∀ s' g' A' b, Ext s s' → Z s' g' F L ω' env A' → rel s' g' A' a b → Po b g'
  | .ex c fs ws ω' => ∀ s' g' A' fvs, Ext s s' → Z s' g' F L ω' env A' → fvs.map Prod.fst = fs → Shs s' ws (fvs.map Prod.snd) → Xp c fvs g'
  | .no => False
def rlV (F : Gp) (L : Lt) : Gp → Gp → Ft → W × O → Vl → Prop := fun s g A x v => x.2.free = true ∧ ∃ B, Bz s F A B ∧ R s g L x.2 x.1 v B
def rlL (F : Gp) (L : Lt) : Gp → Gp → Ft → List (W × O) → List Vl → Prop := fun s g A ps vs => O.frees (ps.map Prod.snd) = true ∧ ∃ B, Bz s F A B ∧ Rl s g L (ps.map Prod.snd) (ps.map Prod.fst) vs B
def rlB : Gp → Gp → Ft → Bool → Bool → Prop := fun _ _ _ a b => a = b
/-- an argument: a value, or a slot's -/
def RlA (s g : Gp) (L : Lt) (env : Env) : List Arg → List Vl → List Addr → Prop
  | [], vs, B => vs = [] ∧ B = []
  | .val x :: ds, vs, B => ∃ v vs' B1 B2, vs = v :: vs' ∧ B = B1 ++ B2 ∧ x.2.free = true ∧ R s g L x.2 x.1 v B1 ∧ RlA s g L env ds vs' B2
  | .slot i :: ds, vs, B => ∃ v vs', vs = v :: vs' ∧ env[i]? = some (some v) ∧ RlA s g L env ds vs' B
def rlA (F : Gp) (L : Lt) (env : Env) : Gp → Gp → Ft → List Arg → List Vl → Prop := fun s g A ds vs => ∃ B, Bz s F A B ∧ RlA s g L env ds vs B
def rlA1 (F : Gp) (L : Lt) (env : Env) : Gp → Gp → Ft → Arg → Vl → Prop := fun s g A d v => ∃ B, Bz s F A B ∧ RlA s g L env [d] [v] B
section
variable {α β γ δ : Type} {rel : Gp → Gp → Ft → α → β → Prop} {rel2 : Gp → Gp → Ft → γ → δ → Prop} {s s' g g' F : Gp} {L : Lt} {ω ω' : En} {env : Env} {A A' : Ft} {B C : List Addr} {Xp : Xo}
theorem Kg.mono {r : Rr α} {Po : β → Gp → Prop} (h : Kg rel s F L env r Po Xp) (x : Ext s s') : Kg rel s' F L env r Po Xp := by
  cases r with
  | ok a ω' => exact fun s1 g1 A1 b x1 z rl => h s1 g1 A1 b (x.trans x1) z rl
  | ex c fs ws ω' => exact fun s1 g1 A1 fvs x1 z e1 e2 => h s1 g1 A1 fvs (x.trans x1) z e1 e2
  | no => exact h
theorem Kg.bind {r : Rr α} {k : α → En → Rr γ} {Po : δ → Gp → Prop} {Q : β → Gp → Prop} (h : Kg rel2 s F L env (r.bind k) Po Xp)
    (hk : ∀ a ω', r = .ok a ω' → ∀ s' g' A' b, Ext s s' → Z s' g' F L ω' env A' → rel s' g' A' a b → Kg rel2 s' F L env (k a ω') Po Xp → Q b g') : Kg rel s F L env r Q Xp := by
  cases r with
  | ok a ω' => exact fun s' g' A' b x z rl => hk a ω' rfl s' g' A' b x z rl (Kg.mono h x)
  | ex c fs ws ω' => exact h
  | no => exact h
/-- .. within a frame -/
theorem Kg.bindF {r : Rr α} {k : α → En → Rr γ} {Po : δ → Gp → Prop} {Q : β → Gp → Prop} (hB : ∀ a ∈ B, ∃ c, g a = some c) (b : Bz s F A B) (hLF : SubL L F) (h : Kg rel2 s F L env (r.bind k) Po Xp)
    (hk : ∀ a ω', r = .ok a ω' → ∀ s' g' A' b', Ext s s' → Z s' g' F L ω' env A' → Bz s' F A' B → (∀ p ∈ B, g' p = g p) → Z s' g' (addS F g B) L ω' env A' → rel s' g' A' a b' → Kg rel2 s' F L env (k a ω') Po Xp → Q b' g') :
    Kg rel s (addS F g B) L env r Q Xp := by
  cases r with
  | ok a ω' =>
    intro s' g' A' b' x z rl
    obtain ⟨z1, b1⟩ := Z.unframe hB b hLF z
    exact hk a ω' rfl s' g' A' b' x z1 b1 (frame_eq hB z.Fg) z rl (Kg.mono h x)
  | ex c fs ws ω' => exact fun s' g' A' fvs x z e1 e2 => h s' g' A' fvs x (Z.unframe hB b hLF z).1 e1 e2
  | no => exact h
theorem Bz.mono_F (b : Bz s (addS F g B) A C) (hB : ∀ a ∈ B, ∃ c, g a = some c) (hF : ∀ a ∈ B, F a = none) : Bz s F A C ∧ ∀ a ∈ C, a ∉ B := by
  have out : ∀ a ∈ C, a ∉ B := fun a ha hb => by
    have h := b.hF a ha
    obtain ⟨c, e⟩ := hB a hb
    rw [addS_in hb, e] at h
    cases h
  exact ⟨⟨b.nd, b.dj, b.hs, fun a ha => by have h := b.hF a ha; rwa [addS_out (out a ha)] at h⟩, out⟩
theorem Bz.append (b : Bz s F A B) (c : Bz s F A C) (h : ∀ a ∈ C, a ∉ B) : Bz s F A (B ++ C) where
  nd := nodup_mk b.nd c.nd fun a h1 h2 => h a h2 h1
  dj i a ha := by
    rcases List.mem_append.mp ha with h | h
    · exact b.dj i a h
    · exact c.dj i a h
  hs a ha := by
    rcases List.mem_append.mp ha with h | h
    · exact b.hs a h
    · exact c.hs a h
  hF a ha := by
    rcases List.mem_append.mp ha with h | h
    · exact b.hF a h
    · exact c.hF a h
theorem Bz.sub (b : Bz s F A B) (h : Fr C B) : Bz s F A C := ⟨h.nd, fun i a ha => b.dj i a (h.sub a ha), fun a ha => b.hs a (h.sub a ha), fun a ha => b.hF a (h.sub a ha)⟩
mutual
theorem free_full : ∀ {o : O}, o.free = true → o.full = true
  | .sh, _ => rfl
  | .lk _, h => by cases h
  | .hole, h => by cases h
  | .ow cs, h => frees_fulls (show O.frees cs = true from h)
  | .tp cs, h => frees_fulls (show O.frees cs = true from h)
theorem frees_fulls : ∀ {cs : List O}, O.frees cs = true → O.fulls cs = true
  | [], _ => rfl
  | o :: os, h => by
    obtain ⟨h1, h2⟩ := band h
    show (o.full && O.fulls os) = true
    rw [free_full h1, frees_fulls h2]
    rfl
end
theorem rlV.bo {x : W × O} {v : Vl} (h : rlV F L s g A x v) : Bo s g L x v := ⟨free_full h.1, let ⟨B, _, r⟩ := h.2; ⟨B, r⟩⟩
theorem rlV.of_bo {w : W} {v : Vl} (h : Bo s g L (w, .sh) v) : rlV F L s g A (w, .sh) v := ⟨rfl, [], Bz.nil, let ⟨_, _, r⟩ := h; ⟨rfl, r.2⟩⟩
theorem rlV.of_sh {w : W} {v : Vl} (h : Sh s w v) : rlV F L s g A (w, .sh) v := ⟨rfl, [], Bz.nil, rfl, h⟩
/-- a new cell -/
theorem Z.alloc {c : Cl} {p : Addr} (z : Z s g F L ω env A) (hp : g p = none) : ∃ A', Z s (MP.gup g p c) F L ω env A' ∧ Bz s F A' [p] := by
  obtain ⟨z1, hd⟩ := z.trim
  have hA : ∀ i, p ∉ MP.trim ω A i := fun i h => by
    obtain ⟨c, e⟩ := hd i p h
    rw [hp] at e
    cases e
  obtain ⟨f1, f2⟩ := z.free hp
  refine ⟨_, z1.chg f1 f2 hA, by simp, fun i a ha => ?_, fun a ha => ?_, fun a ha => ?_⟩
  · cases List.mem_singleton.mp ha; exact hA i
  · cases List.mem_singleton.mp ha; exact f1
  · cases List.mem_singleton.mp ha; exact f2
theorem new_lst {xs : List W} {vs : List Vl} {p : Addr} (z : Z s g F L ω env A) (hp : g p = none) (r : Shs s xs vs) : ∃ A', Z s (gup g p (.lst vs)) F L ω env A' ∧ rlV F L s (gup g p (.lst vs)) A' (.lst xs, .ow []) (.ref p) := by
  obtain ⟨A', z', b⟩ := z.alloc (c := .lst vs) hp
  exact ⟨A', z', rfl, [p], b, p, vs, [], rfl, rfl, gup_same, rfl, r⟩
theorem new_dct {ks : List Key} {xs : List W} {kvs : List (Key × Vl)} {p : Addr} (z : Z s g F L ω env A) (hp : g p = none) (e : kvs.map Prod.fst = ks) (r : Shs s xs (kvs.map Prod.snd)) : ∃ A', Z s (gup g p (.dct kvs)) F L ω env A' ∧ rlV F L s (gup g p (.dct kvs)) A' (.dct ks xs, .ow []) (.ref p) := by
  obtain ⟨A', z', b⟩ := z.alloc (c := .dct kvs) hp
  exact ⟨A', z', rfl, [p], b, p, kvs, [], rfl, rfl, gup_same, e, rfl, r⟩
/-- .. with parts of its own -/
theorem new_lstO {os : List O} {xs : List W} {vs : List Vl} {p : Addr} (z : Z s g F L ω env A) (hp : g p = none) (f : O.frees os = true) (b : Bz s F A B) (r : Rl s g L os xs vs B) : ∃ A', Z s (gup g p (.lst vs)) F L ω env A' ∧ rlV F L s (gup g p (.lst vs)) A' (.lst xs, .ow os) (.ref p) := by
  have hB : ∀ a ∈ B, ∃ c, g a = some c := r.dom
  have z1 := z.frame b
  obtain ⟨A', z', b'⟩ := z1.alloc (c := .lst vs) hp
  obtain ⟨z2, b2⟩ := Z.unframe hB b z.LF z'
  obtain ⟨b3, h3⟩ := b'.mono_F hB b.hF
  have hpB : p ∉ B := fun h => h3 p (by simp) h
  refine ⟨A', z2, f, p :: B, ?_, p, vs, B, rfl, rfl, gup_same, r.mono Ext.refl.n Sub.refl fun a ha => gup_ne ?_⟩
  · have := b3.append b2 (fun a ha h => by cases List.mem_singleton.mp h; exact hpB ha)
    exact this
  · rintro rfl
    exact hpB ha
theorem new_dctO {os : List O} {ks : List Key} {xs : List W} {kvs : List (Key × Vl)} {p : Addr} (z : Z s g F L ω env A) (hp : g p = none) (f : O.frees os = true) (b : Bz s F A B) (e : kvs.map Prod.fst = ks) (r : Rl s g L os xs (kvs.map Prod.snd) B) :
    ∃ A', Z s (gup g p (.dct kvs)) F L ω env A' ∧ rlV F L s (gup g p (.dct kvs)) A' (.dct ks xs, .ow os) (.ref p) := by
  have hB : ∀ a ∈ B, ∃ c, g a = some c := r.dom
  have z1 := z.frame b
  obtain ⟨A', z', b'⟩ := z1.alloc (c := .dct kvs) hp
  obtain ⟨z2, b2⟩ := Z.unframe hB b z.LF z'
  obtain ⟨b3, h3⟩ := b'.mono_F hB b.hF
  have hpB : p ∉ B := fun h => h3 p (by simp) h
  refine ⟨A', z2, f, p :: B, ?_, p, kvs, B, rfl, rfl, gup_same, e, r.mono Ext.refl.n Sub.refl fun a ha => gup_ne ?_⟩
  · have := b3.append b2 (fun a ha h => by cases List.mem_singleton.mp h; exact hpB ha)
    exact this
  · rintro rfl
    exact hpB ha
/-- a slot's value is shared from now on -/
theorem Z.freeze {i : Nat} {w : W} {o : O} (z : Z s g F L ω env A) (e : ω[i]? = some (some (w, o))) (hf : o.free = true) : ∃ s' v, Sub s s' ∧ Z s' g F L (ω.set i (some (w, .sh))) env (fup A i []) ∧ env[i]? = some (some v) ∧ Sh s' w v := by
  obtain ⟨v, e1, r⟩ := z.val i w o e
  obtain ⟨z1, b⟩ := z.take (i := i)
  have z2 := z1.share b
  have sub : Sub s (addS s g (A i)) := addS_sub b.hs
  have q := r.frz sub (fun a ha => addS_in ha) hf
  have z3 := z2.back e1 (B := []) (o := .sh) (w := w) Bz.nil ⟨rfl, q⟩
  refine ⟨_, v, sub, ?_, e1, q⟩
  have ew : (ω.set i none).set i (some (w, O.sh)) = ω.set i (some (w, .sh)) := by simp
  rw [ew] at z3
  have eA : fup (fup A i []) i [] = fup A i [] := by
    funext j
    by_cases h : j = i
    · subst h; rw [fup_same, fup_same]
    · rw [fup_ne h]
  rwa [eA] at z3
/-! ### calls -/
theorem RlA.dom : ∀ {ds : List Arg} {vs : List Vl} {B : List Addr}, RlA s g L env ds vs B → ∀ a ∈ B, ∃ c, g a = some c
  | [], vs, B, r, a, ha => by rw [r.2] at ha; simp at ha
  | .val x :: ds, vs, B, r, a, ha => by
    obtain ⟨v, vs', B1, B2, _, e, _, q, q2⟩ := r
    subst e
    rcases List.mem_append.mp ha with h | h
    · exact q.dom a h
    · exact RlA.dom q2 a h
  | .slot i :: ds, vs, B, r, a, ha => by
    obtain ⟨v, vs', _, _, q2⟩ := r
    exact RlA.dom q2 a ha
theorem RlA.mono (h : ExtN s s') : ∀ {ds : List Arg} {vs : List Vl} {B : List Addr}, (∀ a ∈ B, g' a = g a) → RlA s g L env ds vs B → RlA s' g' L env ds vs B
  | [], vs, B, _, r => r
  | .val x :: ds, vs, B, hg, r => by
    obtain ⟨v, vs', B1, B2, e1, e, f, q, q2⟩ := r
    subst e
    exact ⟨v, vs', B1, B2, e1, rfl, f, q.mono h Sub.refl fun a ha => hg a (List.mem_append_left _ ha), RlA.mono h (fun a ha => hg a (List.mem_append_right _ ha)) q2⟩
  | .slot i :: ds, vs, B, hg, r => by
    obtain ⟨v, vs', e1, e, q2⟩ := r
    exact ⟨v, vs', e1, e, RlA.mono h hg q2⟩
/-- the lent slots are those of the values -/
def Lent (env : Env) : List (Option Nat) → List Vl → Prop
  | [], vs => vs = []
  | none :: ls, vs => ∃ v vs', vs = v :: vs' ∧ Lent env ls vs'
  | some i :: ls, vs => ∃ v vs', vs = v :: vs' ∧ env[i]? = some (some v) ∧ Lent env ls vs'
theorem resA_ok {asg : Nat → Bool} : ∀ {ds : List Arg} {j : Nat} {ω : En} {s F : Gp} {A : Ft} {vs : List Vl} {B : List Addr} {as : List (W × O)} {ls : List (Option Nat)} {ω1 : En}, Z s g F L ω env A → Bz s F A B → RlA s g L env ds vs B → resA asg ds j ω = some (as, ls, ω1) →
    ∃ s1 A1 B1, Sub s s1 ∧ Z s1 g F L ω1 env A1 ∧ Bz s1 F A1 B1 ∧ Rl s1 g L (as.map Prod.snd) (as.map Prod.fst) vs B1 ∧ O.frees (as.map Prod.snd) = true ∧ Lent env ls vs
  | [], j, ω, s, F, A, vs, B, as, ls, ω1, z, b, r, h => by
    cases h
    obtain ⟨e1, e2⟩ := r
    subst e1 e2
    exact ⟨s, A, [], Sub.refl, z, Bz.nil, ⟨rfl, rfl⟩, rfl, rfl⟩
  | .val x :: ds, j, ω, s, F, A, vs, B, as, ls, ω1, z, b, r, h => by
    obtain ⟨⟨as', ls', ω1'⟩, h1, h2⟩ := Option.map_eq_some_iff.mp (show (resA asg ds (j + 1) ω).map (fun y => (x :: y.1, none :: y.2.1, y.2.2)) = some (as, ls, ω1) from h)
    cases h2
    obtain ⟨v, vs', B1, B2, e1, e, f, q, q2⟩ := r
    subst e1 e
    obtain ⟨n1, n2, n3⟩ := nodup_app b.nd
    have b1 : Bz s F A B1 := b.sub ⟨n1, fun a h => List.mem_append_left _ h⟩
    have b2 : Bz s F A B2 := b.sub ⟨n2, fun a h => List.mem_append_right _ h⟩
    have z1 := z.frame b1
    have b2' : Bz s (addS F g B1) A B2 := ⟨b2.nd, b2.dj, b2.hs, fun a ha => by rw [addS_out fun h => n3 a h ha]; exact b2.hF a ha⟩
    obtain ⟨s1, A1, B3, x1, z3, b3, r3, f3, l3⟩ := resA_ok z1 b2' q2 h1
    obtain ⟨z4, b4⟩ := Z.unframe q.dom b1 z.LF z3
    obtain ⟨b5, h5⟩ := b3.mono_F q.dom b1.hF
    refine ⟨s1, A1, B1 ++ B3, x1, z4, b4.append b5 h5, ⟨x.1, _, v, vs', B1, B3, rfl, rfl, rfl, q.mono x1.ext.n Sub.refl fun _ _ => rfl, r3⟩, ?_, v, vs', rfl, l3⟩
    show (x.2.free && O.frees (as'.map Prod.snd)) = true
    rw [f, f3]
    rfl
  | .slot i :: ds, j, ω, s, F, A, vs, B, as, ls, ω1, z, b, r, h => by
    obtain ⟨wo, h0, h⟩ := Option.bind_eq_some_iff.mp (show (slot ω i).bind (fun wo =>
      if wo.2.isSh then (resA asg ds (j + 1) ω).map fun x => ((wo.1, O.sh) :: x.1, none :: x.2.1, x.2.2)
      else if wo.2.free then (if asg j then (resA asg ds (j + 1) (ω.set i (some (wo.1, .sh)))).map fun x => ((wo.1, .sh) :: x.1, none :: x.2.1, x.2.2)
        else (resA asg ds (j + 1) (ω.set i none)).map fun x => (wo :: x.1, some i :: x.2.1, x.2.2))
      else none) = some (as, ls, ω1) from h)
    obtain ⟨v, vs', e1, e2, q2⟩ := r
    subst e1
    have hs := slot_some h0
    split at h
    · rename_i hsh
      obtain ⟨⟨as', ls', ω1'⟩, h1, h2⟩ := Option.map_eq_some_iff.mp h
      cases h2
      obtain ⟨v', e3, r0⟩ := z.slot h0
      rw [e2] at e3
      cases e3
      rw [O.isSh_iff hsh] at r0
      obtain ⟨s1, A1, B3, x1, z3, b3, r3, f3, l3⟩ := resA_ok z b q2 h1
      exact ⟨s1, A1, B3, x1, z3, b3, ⟨wo.1, _, v, vs', [], B3, rfl, rfl, rfl, ⟨rfl, r0.2.mono x1.ext.n⟩, r3⟩, f3, v, vs', rfl, l3⟩
    · split at h
      · rename_i hfree
        split at h
        · obtain ⟨⟨as', ls', ω1'⟩, h1, h2⟩ := Option.map_eq_some_iff.mp h
          cases h2
          obtain ⟨v1, e3, r0⟩ := z.slot h0
          rw [e2] at e3
          cases e3
          have zf := z.frame b
          obtain ⟨s2, v', x2, z2, e3, q3⟩ := zf.freeze hs hfree
          rw [e2] at e3
          cases e3
          obtain ⟨z2', b2'⟩ := Z.unframe q2.dom b z.LF z2
          obtain ⟨s1, A1, B3, x1, z3, b3, r3, f3, l3⟩ := resA_ok z2' b2' (q2.mono x2.ext.n fun _ _ => rfl) h1
          exact ⟨s1, A1, B3, x2.trans x1, z3, b3, ⟨wo.1, _, v, vs', [], B3, rfl, rfl, rfl, ⟨rfl, q3.mono x1.ext.n⟩, r3⟩, f3, v, vs', rfl, l3⟩
        · obtain ⟨⟨as', ls', ω1'⟩, h1, h2⟩ := Option.map_eq_some_iff.mp h
          cases h2
          obtain ⟨v1, e3, r0⟩ := z.slot h0
          rw [e2] at e3
          cases e3
          obtain ⟨z2, b2⟩ := z.take (i := i)
          have z2f := z2.frame b2
          have b' : Bz s (addS F g (A i)) (fup A i []) B := by
            refine ⟨b.nd, fun k a ha h => ?_, b.hs, fun a ha => ?_⟩
            · by_cases hk : k = i
              · subst hk; rw [fup_same] at h; simp at h
              · rw [fup_ne hk] at h; exact b.dj k a ha h
            · rw [addS_out fun h => b.dj i a ha h]
              exact b.hF a ha
          obtain ⟨s1, A1, B3, x1, z3, b3, r3, f3, l3⟩ := resA_ok z2f b' q2 h1
          obtain ⟨z4, b4⟩ := Z.unframe r0.dom b2 z.LF z3
          obtain ⟨b5, h5⟩ := b3.mono_F r0.dom b2.hF
          refine ⟨s1, A1, A i ++ B3, x1, z4, b4.append b5 h5, ⟨wo.1, _, v, vs', A i, B3, rfl, rfl, rfl, r0.mono x1.ext.n Sub.refl fun _ _ => rfl, r3⟩, ?_, v, vs', rfl, e2, l3⟩
          show (wo.2.free && O.frees (as'.map Prod.snd)) = true
          rw [hfree, f3]
          rfl
      · cases h
end
end MP
set_option Elab.async false
set_option linter.all false
set_option maxRecDepth 100000
/-! EV, part 12: calls of defs. -/
namespace MP
open PySem PySem.Spec PyProof.Rows L2
section
variable {s s' g g' F F1 : Gp} {L : Lt} {ω ω' ω1 : En} {env : Env} {A A' A1 : Ft} {B C : List Addr} {Xp : Xo} {Po : Po}
def L0 : Lt := fun _ => none
mutual
theorem R.anyL {L L' : Lt} : ∀ {o : O} {w : W} {v : Vl} {B : List Addr}, o.free = true → R s g L o w v B → R s g L' o w v B
  | .sh, w, v, B, _, r => r
  | .lk _, w, v, B, h, r => by cases h
  | .hole, w, v, B, h, r => by cases h
  | .tp cs, w, v, B, h, r => by
    cases w with
    | tup xs =>
      obtain ⟨vs, e, q⟩ := r
      exact ⟨vs, e, Rl.anyL (show O.frees cs = true from h) q⟩
    | _ => exact r
  | .ow cs, w, v, B, h, r => by
    cases w with
    | lst xs =>
      obtain ⟨a, vs, B1, e, eB, q, q2⟩ := r
      exact ⟨a, vs, B1, e, eB, q, Rl.anyL (show O.frees cs = true from h) q2⟩
    | dct ks xs =>
      obtain ⟨a, vs, B1, e, eB, q, q1, q2⟩ := r
      exact ⟨a, vs, B1, e, eB, q, q1, Rl.anyL (show O.frees cs = true from h) q2⟩
    | ins c fs xs =>
      obtain ⟨a, vs, B1, e, eB, q, q1, q2⟩ := r
      exact ⟨a, vs, B1, e, eB, q, q1, Rl.anyL (show O.frees cs = true from h) q2⟩
    | _ => exact r
theorem Rl.anyL {L L' : Lt} : ∀ {o : List O} {w : List W} {v : List Vl} {B : List Addr}, O.frees o = true → Rl s g L o w v B → Rl s g L' o w v B
  | [], w, v, B, _, r => r
  | o :: os, w, v, B, h, r => by
    obtain ⟨w1, ws', v1, vs', A1, A2, e1, e2, e3, q, q2⟩ := r
    obtain ⟨h1, h2⟩ := band (show (o.free && O.frees os) = true from h)
    exact ⟨w1, ws', v1, vs', A1, A2, e1, e2, e3, R.anyL h1 q, Rl.anyL h2 q2⟩
end
theorem toFt : ∀ {as : List (W × O)} {vs : List Vl} {B : List Addr}, Rl s g L (as.map Prod.snd) (as.map Prod.fst) vs B → B.Nodup → ∃ Aa : Ft, (∀ i w o, as[i]? = some (w, o) → ∃ v, vs[i]? = some v ∧ R s g L o w v (Aa i)) ∧ (∀ i, (Aa i).Nodup) ∧ (∀ i j a, a ∈ Aa i → a ∈ Aa j → i = j) ∧ ∀ i, ∀ a ∈ Aa i, a ∈ B
  | [], vs, B, r, nd => ⟨fun _ => [], fun i w o e => by simp at e, fun _ => List.nodup_nil, fun i j a h => by simp at h, fun i a h => by simp at h⟩
  | x :: as, vs, B, r, nd => by
    obtain ⟨w1, ws', v1, vs', A1, A2, e1, e2, e3, q, q2⟩ := r
    cases e1
    subst e2 e3
    obtain ⟨n1, n2, n3⟩ := nodup_app nd
    obtain ⟨Aa, h1, h2, h3, h4⟩ := toFt q2 n2
    refine ⟨fun i => match i with | 0 => A1 | i + 1 => Aa i, fun i w o e => ?_, fun i => ?_, fun i j a hi hj => ?_, fun i a h => ?_⟩
    · cases i with
      | zero => simp at e; subst e; exact ⟨v1, rfl, q⟩
      | succ i =>
        obtain ⟨v, e2, r2⟩ := h1 i w o (by simpa using e)
        exact ⟨v, by simpa using e2, r2⟩
    · cases i with
      | zero => exact n1
      | succ i => exact h2 i
    · cases i with
      | zero => cases j with
        | zero => rfl
        | succ j => exact absurd (h4 j a hj) (n3 a hi)
      | succ i => cases j with
        | zero => exact absurd (h4 i a hi) (n3 a hj)
        | succ j => rw [h3 i j a hi hj]
    · cases i with
      | zero => exact List.mem_append_left _ h
      | succ i => exact List.mem_append_right _ (h4 i a h)
/-- all cells of the slots -/
def allA (n : Nat) (A : Ft) : List Addr := (List.range n).flatMap A
theorem mem_allA {n : Nat} {a : Addr} : a ∈ allA n A ↔ ∃ i, i < n ∧ a ∈ A i := by
  unfold allA
  simp
theorem allA_nodup (h1 : ∀ i, (A i).Nodup) (h2 : ∀ i j a, a ∈ A i → a ∈ A j → i = j) : ∀ n, (allA n A).Nodup
  | 0 => List.nodup_nil
  | n + 1 => by
    unfold allA
    rw [List.range_succ, List.flatMap_append]
    refine nodup_mk (allA_nodup h1 h2 n) (by simpa using h1 n) fun a ha hb => ?_
    obtain ⟨i, hi, ha⟩ := mem_allA.mp ha
    have hb : a ∈ A n := by simpa using hb
    have := h2 i n a ha hb
    omega
/-- a frame is changed by the other's run: the slots stay -/
theorem Z.after (z : Z s g F L ω env A) (hd : ∀ i, ∀ a ∈ A i, a ∈ B) (hB : ∀ a ∈ B, ∃ c, g a = some c) (hBF : ∀ a ∈ B, F a = none) (x : Ext s s') (sg : Sub s' g') (Fg : Sub (addS F g B) g') (sF : ∀ a c, s' a = some c → addS F g B a = none) : Z s' g' F L ω env A where
  len := z.len
  val i w o e := by
    obtain ⟨v, e1, r⟩ := z.val i w o e
    exact ⟨v, e1, r.mono x.n Sub.refl fun a ha => frame_eq hB Fg a (hd i a ha)⟩
  nd := z.nd
  dj := z.dj
  hs i a ha := by
    cases e : s' a with
    | none => rfl
    | some c =>
      have h := sF a c e
      obtain ⟨d, e2⟩ := hB a (hd i a ha)
      rw [addS_in (hd i a ha), e2] at h
      cases h
  hF := z.hF
  sg := sg
  Fg := (addS_sub hBF).trans Fg
  LF := z.LF
  sF a c e := by
    have h := sF a c e
    cases e2 : F a with
    | none => rfl
    | some d => rw [addS_sub hBF a d e2] at h; cases h
theorem map_some_get {α : Type} {l : List α} {i : Nat} {x : α} (h : (l.map some)[i]? = some (some x)) : l[i]? = some x := by
  rw [List.getElem?_map] at h
  obtain ⟨y, e1, e2⟩ := Option.map_eq_some_iff.mp h
  cases e2
  exact e1
/-- the callee's state -/
theorem Z.call (z : Z s g F L ω env A) {as : List (W × O)} {vs : List Vl} (b : Bz s F A B) (ff : O.frees (as.map Prod.snd) = true) (r : Rl s g L (as.map Prod.snd) (as.map Prod.fst) vs B) : ∃ D Aa, (∀ a ∈ D, ∃ c, g a = some c) ∧ (∀ a ∈ D, F a = none) ∧ (∀ i, ∀ a ∈ MP.trim ω A i, a ∈ D) ∧ Z s g F L ω env (MP.trim ω A) ∧ Z s g (addS F g D) L0 (as.map some) (vs.map some) Aa := by
  obtain ⟨z1, hd⟩ := z.trim
  obtain ⟨Aa, h1, h2, h3, h4⟩ := toFt (L := L0) (Rl.anyL ff r) b.nd
  have sub : ∀ i, ∀ a ∈ MP.trim ω A i, a ∈ A i := fun i a h => by
    unfold MP.trim at h
    split at h
    · exact h
    · simp at h
  have hlen : ∀ i, ∀ a ∈ MP.trim ω A i, i < ω.length := fun i a h => by
    unfold MP.trim at h
    split at h
    · rename_i wo e
      rcases Nat.lt_or_ge i ω.length with hl | hl
      · exact hl
      · rw [List.getElem?_eq_none hl] at e; cases e
    · simp at h
  refine ⟨allA ω.length (MP.trim ω A), Aa, fun a ha => ?_, fun a ha => ?_, fun i a ha => mem_allA.mpr ⟨i, hlen i a ha, ha⟩, z1, ?_⟩
  · obtain ⟨i, _, h⟩ := mem_allA.mp ha
    exact hd i a h
  · obtain ⟨i, _, h⟩ := mem_allA.mp ha
    exact z1.hF i a h
  · have hl : as.length = vs.length := by
      have := r.len
      simp at this
      omega
    refine ⟨by simp [hl], fun i w o e => ?_, h2, h3, fun i a ha => b.hs a (h4 i a ha), fun i a ha => ?_, z.sg, fun a c e => ?_, fun i a c e => by (cases e), fun a c e => ?_⟩
    · obtain ⟨v, e2, q⟩ := h1 i w o (map_some_get e)
      exact ⟨v, by rw [List.getElem?_map, e2]; rfl, q⟩
    · rw [addS_out]
      · exact b.hF a (h4 i a ha)
      · intro h
        obtain ⟨k, _, h⟩ := mem_allA.mp h
        exact b.dj k a (h4 i a ha) (sub k a h)
    · unfold addS at e
      by_cases h : a ∈ allA ω.length (MP.trim ω A)
      · rwa [if_pos h] at e
      · rw [if_neg h] at e
        exact z.Fg a c e
    · rw [addS_out]
      · exact z.sF a c e
      · intro h
        obtain ⟨k, _, h⟩ := mem_allA.mp h
        rw [z1.hs k a h] at e
        cases e
/-- what was lent comes back -/
theorem backA_ok : ∀ {ls : List (Option Nat)} {ps : En} {ω ω2 : En} {A : Ft} {vs : List Vl} {Ap : Ft}, Lent env ls vs → Z s g F L ω env A → (∀ j w o, ps[j]? = some (some (w, o)) → ∃ v, vs[j]? = some v ∧ R s g L o w v (Ap j)) → (∀ j, (Ap j).Nodup) → (∀ i j a, a ∈ Ap i → a ∈ Ap j → i = j) → (∀ j, ∀ a ∈ Ap j, s a = none) → (∀ j, ∀ a ∈ Ap j, F a = none) → (∀ j i, ∀ a ∈ Ap j, a ∉ A i) →
    backA ls ps ω = some ω2 → ∃ A2, Z s g F L ω2 env A2 ∧ ∀ i a, a ∈ A2 i → a ∈ A i ∨ ∃ j, a ∈ Ap j
  | [], ps, ω, ω2, A, vs, Ap, l, z, hp, h1, h2, h3, h4, h5, e => by
    cases e
    exact ⟨A, z, fun i a h => .inl h⟩
  | none :: ls, ps, ω, ω2, A, vs, Ap, l, z, hp, h1, h2, h3, h4, h5, e => by
    obtain ⟨v, vs', e1, l'⟩ := l
    subst e1
    have e : backA ls (ps.drop 1) ω = some ω2 := by cases ps <;> exact e
    obtain ⟨A2, z2, h6⟩ := backA_ok (Ap := fun j => Ap (j + 1)) l' z (fun j w o e2 => by
      rw [List.getElem?_drop] at e2
      obtain ⟨v, e3, r⟩ := hp (j + 1) w o (by rw [Nat.add_comm]; exact e2)
      exact ⟨v, by simpa using e3, r⟩) (fun j => h1 _) (fun i j a k1 k2 => by have := h2 _ _ a k1 k2; omega) (fun j => h3 _) (fun j => h4 _) (fun j => h5 _) e
    exact ⟨A2, z2, fun i a h => (h6 i a h).imp id fun ⟨j, h⟩ => ⟨j + 1, h⟩⟩
  | some i :: ls, [], ω, ω2, A, vs, Ap, l, z, hp, h1, h2, h3, h4, h5, e => by cases e
  | some i :: ls, none :: ps, ω, ω2, A, vs, Ap, l, z, hp, h1, h2, h3, h4, h5, e => by cases e
  | some i :: ls, some wo :: ps, ω, ω2, A, vs, Ap, l, z, hp, h1, h2, h3, h4, h5, e => by
    obtain ⟨v, vs', e1, e2, l'⟩ := l
    subst e1
    have e : backA ls ps (ω.set i (some wo)) = some ω2 := e
    obtain ⟨v', e3, r⟩ := hp 0 wo.1 wo.2 rfl
    cases (show v = v' by simpa using e3)
    have z1 := z.back e2 (B := Ap 0) ⟨h1 0, fun k a ha => h5 0 k a ha, h3 0, h4 0⟩ r
    obtain ⟨A2, z2, h6⟩ := backA_ok (Ap := fun j => Ap (j + 1)) l' z1 (fun j w o e2 => by
      obtain ⟨v, e3, r⟩ := hp (j + 1) w o (by simpa using e2)
      exact ⟨v, by simpa using e3, r⟩) (fun j => h1 _) (fun i j a k1 k2 => by have := h2 _ _ a k1 k2; omega) (fun j => h3 _) (fun j => h4 _) (fun j k a ha h => by
        by_cases hk : k = i
        · subst hk
          rw [fup_same] at h
          have := h2 _ _ a ha h
          omega
        · rw [fup_ne hk] at h
          exact h5 _ k a ha h) e
    refine ⟨A2, z2, fun k a h => ?_⟩
    rcases h6 k a h with h | ⟨j, h⟩
    · by_cases hk : k = i
      · subst hk
        rw [fup_same] at h
        exact .inr ⟨0, h⟩
      · rw [fup_ne hk] at h
        exact .inl h
    · exact .inr ⟨j + 1, h⟩
/-- a def's run keeps the contract -/
def SndF (f : Fe) (ct : Ct) : Prop := ∀ (as : List (W × O)) (s g F : Gp) (vs : List Vl) (A : Ft) (Po : MP.Po) (Xp : Xo), Z s g F L0 (as.map some) (vs.map some) A → O.frees (as.map Prod.snd) = true → Kg (rlV F L0) s F L0 (vs.map some) (f.run as) Po Xp → ct vs g Po Xp
/-- the values are handed over, the def runs, what was lent comes back -/
theorem call_ok {f : Fe} {ct : Ct} (hf : SndF f ct) {as : List (W × O)} {ls : List (Option Nat)} {vs : List Vl} (z : Z s g F L ω1 env A) (b : Bz s F A B) (r : Rl s g L (as.map Prod.snd) (as.map Prod.fst) vs B) (ff : O.frees (as.map Prod.snd) = true) (l : Lent env ls vs)
    (h : Kg (rlV F L) s F L env (match f.run as with
      | .ok r ps => (match backA ls ps ω1 with
        | some ω2 => .ok r ω2
        | none => .no)
      | .ex c fs ws ps => (match backA ls ps ω1 with
        | some ω2 => .ex c fs ws ω2
        | none => .no)
      | .no => .no) Po Xp) : ct vs g Po Xp := by
  obtain ⟨D, Aa, d1, d2, d3, z1, zc⟩ := z.call b ff r
  refine hf as s g (addS F g D) vs Aa Po Xp zc ff ?_
  have back : ∀ {s' g' : Gp} {Ap : Ft} {ps ω2 : En}, Ext s s' → Z s' g' (addS F g D) L0 ps (vs.map some) Ap → backA ls ps ω1 = some ω2 → ∃ A2, Z s' g' F L ω2 env A2 ∧ (∀ i a, a ∈ A2 i → a ∈ D ∨ ∃ j, a ∈ Ap j) := by
    intro s' g' Ap ps ω2 x zp e
    have z2 := z1.after d3 d1 d2 x zp.sg zp.Fg zp.sF
    obtain ⟨A2, z3, h3⟩ := backA_ok (Ap := Ap) l z2 (fun j w o e => by
      obtain ⟨v, e1, r⟩ := zp.val j w o e
      exact ⟨v, map_some_get e1, r.mono Ext.refl.n (fun i x h => by cases h) fun _ _ => rfl⟩) zp.nd zp.dj zp.hs (fun j a ha => by
        have h := zp.hF j a ha
        cases e2 : F a with
        | none => rfl
        | some c => rw [addS_sub d2 a c e2] at h; cases h) (fun j i a ha h => by
        have h2 := zp.hF j a ha
        obtain ⟨c, e2⟩ := d1 a (d3 i a h)
        rw [addS_in (d3 i a h), e2] at h2
        cases h2) e
    exact ⟨A2, z3, fun i a ha => (h3 i a ha).imp (d3 i a) id⟩
  cases e : f.run as with
  | ok x ps =>
    rw [e] at h
    intro s' g' Ap v x1 zp ⟨fx, C, bc, rc⟩
    cases e2 : backA ls ps ω1 with
    | none =>
      simp only [e2] at h
      exact h.elim
    | some ω2 =>
      simp only [e2] at h
      obtain ⟨A2, z3, h3⟩ := back x1 zp e2
      obtain ⟨bc1, hout⟩ := bc.mono_F d1 d2
      refine h s' g' A2 v x1 z3 ⟨fx, C, ⟨bc.nd, fun i a ha h4 => ?_, bc.hs, bc1.hF⟩, rc.anyL fx⟩
      rcases h3 i a h4 with h5 | ⟨j, h5⟩
      · exact hout a ha h5
      · exact bc.dj j a ha h5
  | ex c fs ws ps =>
    rw [e] at h
    intro s' g' Ap fvs x1 zp e3 e4
    cases e2 : backA ls ps ω1 with
    | none =>
      simp only [e2] at h
      exact h.elim
    | some ω2 =>
      simp only [e2] at h
      obtain ⟨A2, z3, h3⟩ := back x1 zp e2
      exact h s' g' A2 fvs x1 z3 e3 e4
  | no =>
    rw [e] at h
    exact h
theorem callR_ok {f : Fe} {ct : Ct} (hf : SndF f ct) {ds : List Arg} {vs : List Vl} (z : Z s g F L ω env A) (b : Bz s F A B) (r : RlA s g L env ds vs B) (h : Kg (rlV F L) s F L env (callR f ds ω) Po Xp) : ct vs g Po Xp := by
  unfold callR at h
  split at h
  · exact h.elim
  · rename_i as ls ω1 e
    obtain ⟨s1, A1, B1, x1, z1, b1, r1, f1, l1⟩ := resA_ok z b r e
    exact call_ok hf z1 b1 r1 f1 l1 (h.mono x1.ext)
end
end MP
set_option Elab.async false
set_option linter.all false
set_option maxRecDepth 100000
/-! EV, part 13: expressions with a trace: the helpers. -/
namespace MP
open PySem PySem.Spec PyProof.Rows L2
def SV (f : En → Rr (W × O)) (w : WE) : Prop := ∀ (ω : En) (s g F : Gp) (L : Lt) (env : Env) (A : Ft) (Po : Po) (Xp : Xo), Z s g F L ω env A → Kg (rlV F L) s F L env (f ω) Po Xp → w env g Po Xp
def STs' (f : En → Rr Bool) (w : WT) : Prop := ∀ (ω : En) (s g F : Gp) (L : Lt) (env : Env) (A : Ft) (Po : Bool → Gp → Prop) (Xp : Xo), Z s g F L ω env A → Kg rlB s F L env (f ω) Po Xp → w env g Po Xp
def SL (f : En → Rr (List (W × O))) (w : WA) : Prop := ∀ (ω : En) (s g F : Gp) (L : Lt) (env : Env) (A : Ft) (Po : List Vl → Gp → Prop) (Xp : Xo), Z s g F L ω env A → Kg (rlL F L) s F L env (f ω) Po Xp → w env g Po Xp
def SAs (f : En → Rr (List Arg)) (w : WA) : Prop := ∀ (ω : En) (s g F : Gp) (L : Lt) (env : Env) (A : Ft) (Po : List Vl → Gp → Prop) (Xp : Xo), Z s g F L ω env A → Kg (rlA F L env) s F L env (f ω) Po Xp → w env g Po Xp
def SA1 (f : En → Rr Arg) (w : WE) : Prop := ∀ (ω : En) (s g F : Gp) (L : Lt) (env : Env) (A : Ft) (Po : Po) (Xp : Xo), Z s g F L ω env A → Kg (rlA1 F L env) s F L env (f ω) Po Xp → w env g Po Xp
section
variable {P : Prog} {ΓC : Nat → Ct} {s g F : Gp} {L : Lt} {ω : En} {env : Env} {A : Ft} {Po : Po} {Xp : Xo} {e a b : Ex} {va vb : En → Rr (W × O)} {wa wb : WE}
theorem Z.Lg (z : Z s g F L ω env A) : SubL L g := z.LF.trans z.Fg
theorem ok_sh {x : W} {v : Vl} (h : Kg (rlV F L) s F L env (.ok (x, .sh) ω) Po Xp) (z : Z s g F L ω env A) (b : Bo s g L (x, .sh) v) : Po v g := h s g A v Ext.refl z (rlV.of_bo b)
theorem frzPl_ok (z : Z s g F L ω env A) (h : Kg (rlV F L) s F L env (frzPl P e ω) Po Xp) : wE P ΓC e env g Po Xp := by
  unfold frzPl at h
  split at h
  · rename_i i p e1
    split at h
    · rename_i x ω' e2 e3
      obtain ⟨root, r1, r2⟩ := Option.bind_eq_some_iff.mp e2
      obtain ⟨root', r3, r4⟩ := Option.bind_eq_some_iff.mp (show (slot ω i).bind (fun wo => (updP frzF wo p).map fun wo' => ω.set i (some wo')) = some ω' from e3)
      rw [r1] at r3
      cases r3
      obtain ⟨rt, r5, r6⟩ := Option.map_eq_some_iff.mp r4
      obtain ⟨x', y, k1, k2, k3⟩ := updP_get p _ _ r5
      rw [r2] at k1
      cases k1
      unfold frzF at k2
      split at k2
      · rename_i hfree
        cases k2
        have hx : x.2 ≠ .hole := by
          intro hh
          rw [hh] at hfree
          cases hfree
        obtain ⟨v0, u, q1, q2, q3⟩ := evPl_ok (ΓC := ΓC) z e i p e1 root r1 x r2 hx
        refine q3 Po Xp ?_
        obtain ⟨v0', q4, rr⟩ := z.slot r1
        rw [q1] at q4
        cases q4
        obtain ⟨u', C, q5, rx, hC, nC, k⟩ := rr.at z.sg z.Lg p (z.nd i) r2 hx
        rw [q2] at q5
        cases q5
        obtain ⟨z1, b1⟩ := z.take (i := i)
        have bC : Bz s F (fup A i []) C := b1.sub ⟨nC, hC⟩
        have sub : Sub s (addS s g C) := addS_sub bC.hs
        have z2 := z1.share bC
        have shx : Sh (addS s g C) x.1 u := rx.frz sub (fun a ha => addS_in ha) hfree
        obtain ⟨B', f', r'⟩ := k (s' := addS s g C) (g' := g) (o' := .sh) (y := x.1) (C' := []) sub.ext.n (fun _ _ _ => rfl) ⟨rfl, shx⟩ List.nodup_nil (fun _ h => by simp at h) rt k3
        have hB : ∀ a ∈ B', a ∈ A i ∧ a ∉ C := fun a ha => by
          rcases f'.sub a ha with h | h
          · simp at h
          · exact h
        have bB : Bz (addS s g C) F (fup A i []) B' := ⟨f'.nd, fun j a ha => b1.dj j a (hB a ha).1, fun a ha => by rw [addS_out (hB a ha).2]; exact b1.hs a (hB a ha).1, fun a ha => b1.hF a (hB a ha).1⟩
        have z3 := z2.back q1 bB r'
        have ew : (ω.set i none).set i (some (rt.1, rt.2)) = ω' := by rw [← r6]; simp
        rw [ew] at z3
        exact h _ g _ u sub.ext z3 (rlV.of_sh shx)
      · cases k2
    · exact h.elim
  · exact h.elim
theorem qv_ok {r : Rr (W × O)} (z : Z s g F L ω env A) (h : Kg (rlV F L) s F L env (qv P e ω r) Po Xp) (hr : Kg (rlV F L) s F L env r Po Xp → wE P ΓC e env g Po Xp) : wE P ΓC e env g Po Xp := by
  unfold qv at h
  split at h
  · rename_i w o e1
    split at h
    · rename_i hs
      have ho := O.isSh_iff hs
      subst ho
      exact sndQ z e _ e1 Po Xp fun v b => ok_sh h z b
    · exact frzPl_ok z h
  · exact hr h
theorem tq_ok {r : Rr Bool} {PoB : Bool → Gp → Prop} (z : Z s g F L ω env A) (h : Kg rlB s F L env (tq P e ω r) PoB Xp) (hr : Kg rlB s F L env r PoB Xp → wT P ΓC e env g PoB Xp) : wT P ΓC e env g PoB Xp := by
  unfold tq at h
  split at h
  · rename_i k e1
    exact sndTq z e k e1 PoB Xp (h s g A k Ext.refl z rfl)
  · exact hr h
/-- an operand that is only read -/
theorem op1_ok {γ δ : Type} {rel2 : Gp → Gp → Ft → γ → δ → Prop} {k : W × O → En → Rr γ} {Pd : δ → Gp → Prop} (ha : SV va (wE P ΓC a)) (z : Z s g F L ω env A) (h : Kg rel2 s F L env ((op1 P a va ω).bind k) Pd Xp)
    (hk : ∀ x ω' s' g' A' v, Ext s s' → Z s' g' F L ω' env A' → Bo s' g' L x v → Kg rel2 s' F L env (k x ω') Pd Xp → Po v g') : wE P ΓC a env g Po Xp := by
  unfold op1 at h
  split at h
  · rename_i x e1
    exact sndQ z a x e1 Po Xp fun v b => hk x ω s g A v Ext.refl z b h
  · exact ha ω s g F L env A Po Xp z (Kg.bind h fun x ω' _ s' g' A' v xx z' rl hh => hk x ω' s' g' A' v xx z' rl.bo hh)
theorem Bo.mono {s' g' : Gp} {x : W × O} {v : Vl} {B : List Addr} (h : R s g L x.2 x.1 v B) (hf : x.2.full = true) (hx : ExtN s s') (hg : ∀ a ∈ B, g' a = g a) : Bo s' g' L x v := ⟨hf, B, h.mono hx Sub.refl hg⟩
/-- two operands -/
theorem op2_ok {γ δ : Type} {rel2 : Gp → Gp → Ft → γ → δ → Prop} {k : (W × O) × (W × O) → En → Rr γ} {Pd : δ → Gp → Prop} {Q : Vl → Vl → Gp → Prop} (ha : SV va (wE P ΓC a)) (hb : SV vb (wE P ΓC b)) (z : Z s g F L ω env A) (h : Kg rel2 s F L env ((op2 P a va b vb ω).bind k) Pd Xp)
    (hk : ∀ xy ω' s' g' A' v u, Ext s s' → Z s' g' F L ω' env A' → Bo s' g' L xy.1 v → Bo s' g' L xy.2 u → Kg rel2 s' F L env (k xy ω') Pd Xp → Q v u g') : wE P ΓC a env g (fun v g1 => wE P ΓC b env g1 (fun u g2 => Q v u g2) Xp) Xp := by
  have two : ∀ {ω : En} {s g : Gp} {A : Ft} {s0 : Gp}, Ext s0 s → Z s g F L ω env A → ∀ {x : W × O} {v : Vl}, rlV F L s g A x v → (∀ xy ω' s' g' A' v u, Ext s0 s' → Z s' g' F L ω' env A' → Bo s' g' L xy.1 v → Bo s' g' L xy.2 u → Kg rel2 s' F L env (k xy ω') Pd Xp → Q v u g') →
      Kg rel2 s F L env ((vb ω).bind fun y ω2 => k (x, y) ω2) Pd Xp → wE P ΓC b env g (fun u g2 => Q v u g2) Xp := by
    intro ω s g A s0 x0 z x v ⟨fx, B, bB, r⟩ hk h
    refine hb ω s g (addS F g B) L env A _ Xp (z.frame bB) (Kg.bindF r.dom bB z.LF h fun y ω' _ s' g' A' u xx z' _ hg _ rl hh => ?_)
    exact hk (x, y) ω' s' g' A' v u (x0.trans xx) z' (Bo.mono r (free_full fx) xx.n hg) rl.bo hh
  unfold op2 at h
  split at h
  · rename_i x e1
    split at h
    · rename_i y e2
      exact sndQ z a x e1 _ Xp fun v bv => sndQ z b y e2 _ Xp fun u bu => hk (x, y) ω s g A v u Ext.refl z bv bu h
    · split at h
      · rename_i hf
        refine sndQ z a x e1 _ Xp fun v bv => ?_
        have h : Kg rel2 s F L env ((vb ω).bind fun y ω2 => k ((x.1, .sh), y) ω2) Pd Xp := by
          cases e3 : vb ω with
          | ok y ω2 => rw [e3] at h; exact h
          | ex c fs ws ω2 => rw [e3] at h; exact h
          | no => rw [e3] at h; exact h
        refine two Ext.refl z (x := (x.1, .sh)) ?_ hk h
        have hp : pureW x.1 = true := by
          cases hx : x.1 <;> (rw [hx] at hf; first | (cases hf; done) | rfl)
        exact rlV.of_bo (Bo.of_pure hp (bv.sh z.sg z.Lg))
      · split at h
        · rename_i i
          have e1 : slotQ ω i = some x := e1
          obtain ⟨v, q1, bv⟩ := slotQ_ok z e1
          refine ⟨v, q1, ?_⟩
          have h : Kg rel2 s F L env ((vb ω).bind fun y ω2 => (match slotQ ω2 i with
            | some x1 => .ok (x1, y) ω2
            | none => .no : Rr ((W × O) × (W × O))).bind k) Pd Xp := by
            cases e3 : vb ω with
            | ok y ω2 => rw [e3] at h; exact h
            | ex c fs ws ω2 => rw [e3] at h; exact h
            | no => rw [e3] at h; exact h
          refine hb ω s g F L env A _ Xp z (Kg.bind h fun y ω' _ s' g' A' u xx z' rl hh => ?_)
          cases e4 : slotQ ω' i with
          | none => rw [e4] at hh; exact hh.elim
          | some x1 =>
            rw [e4] at hh
            obtain ⟨v', q2, bv'⟩ := slotQ_ok z' e4
            rw [q1] at q2
            cases q2
            exact hk (x1, y) ω' s' g' A' v u xx z' bv' rl.bo hh
        · have h : Kg rel2 s F L env ((va ω).bind fun x ω1 => (vb ω1).bind fun y ω2 => k (x, y) ω2) Pd Xp := by
            cases e3 : va ω with
            | ok x ω1 =>
              rw [e3] at h
              cases e4 : vb ω1 with
              | ok y ω2 => simp only [Rr.bind, e4] at h ⊢; exact h
              | ex c fs ws ω2 => simp only [Rr.bind, e4] at h ⊢; exact h
              | no => simp only [Rr.bind, e4] at h ⊢; exact h
            | ex c fs ws ω2 => rw [e3] at h; exact h
            | no => rw [e3] at h; exact h
          exact ha ω s g F L env A _ Xp z (Kg.bind h fun x ω' _ s' g' A' v xx z' rl hh => two xx z' rl hk hh)
  · have h : Kg rel2 s F L env ((va ω).bind fun x ω1 => (match evQ P b ω1 with
        | some y => .ok (x, y) ω1
        | none => (vb ω1).bind fun y ω2 => .ok (x, y) ω2 : Rr ((W × O) × (W × O))).bind k) Pd Xp := by
      cases e3 : va ω with
      | ok x ω1 => rw [e3] at h; exact h
      | ex c fs ws ω2 => rw [e3] at h; exact h
      | no => rw [e3] at h; exact h
    refine ha ω s g F L env A _ Xp z (Kg.bind h fun x ω' _ s' g' A' v xx z' rl hh => ?_)
    split at hh
    · rename_i y e2
      exact sndQ z' b y e2 _ Xp fun u bu => hk (x, y) ω' s' g' A' v u xx z' rl.bo bu hh
    · have hh : Kg rel2 s' F L env ((vb ω').bind fun y ω2 => k (x, y) ω2) Pd Xp := by
        cases e4 : vb ω' with
        | ok y ω2 => rw [e4] at hh; exact hh
        | ex c fs ws ω2 => rw [e4] at hh; exact hh
        | no => rw [e4] at hh; exact hh
      exact two xx z' rl hk hh
theorem optR_some {α β : Type} {rel : Gp → Gp → Ft → α → β → Prop} {o : Option α} {Pd : β → Gp → Prop} (h : Kg rel s F L env (optR o ω) Pd Xp) : ∃ x, o = some x ∧ Kg rel s F L env (.ok x ω) Pd Xp := by
  cases o with
  | none => exact h.elim
  | some x => exact ⟨x, rfl, h⟩
theorem bool_sh {k : Bool} (h : Kg (rlV F L) s F L env (.ok (.bl k, .sh) ω) Po Xp) (z : Z s g F L ω env A) : Po (.bl k) g := ok_sh h z Bo.bl
theorem xCmp_ok {o : CO} (ha : SV va (wE P ΓC a)) (hb : SV vb (wE P ΓC b)) (z : Z s g F L ω env A) (h : Kg (rlV F L) s F L env (xCmp o (op2 P a va b vb ω)) Po Xp) : wBin o.b (wE P ΓC a) (wE P ΓC b) env g Po Xp :=
  op2_ok (Q := fun v u g2 => o.b v u g2 Po) ha hb z h fun xy ω' s' g' A' v u xx z' bv bu hh => by
    obtain ⟨x, e1, hh⟩ := optR_some hh
    obtain ⟨k, e2, e3⟩ := Option.map_eq_some_iff.mp e1
    subst e3
    exact opCmp_ok e2 (bv.sh z'.sg z'.Lg) (bu.sh z'.sg z'.Lg) (bool_sh hh z')
theorem newBin_ok {o : BO} {x y r : W × O} {v u : Vl} (e : newBin o x y = some r) (bv : Bo s g L x v) (bu : Bo s g L y u) (z : Z s g F L ω env A) (h : Kg (rlV F L) s F L env (.ok r ω) Po Xp) : o.b v u g Po := by
  obtain ⟨wx, ox⟩ := x
  obtain ⟨wy, oy⟩ := y
  cases o <;> cases wx <;> cases wy <;> first | (cases e; done) | skip
  · rename_i xs ys
    have e : (if (ox.isSh && oy.isSh) && (!xs.isEmpty && decide (xs.length + ys.length ≤ sizeLine)) then some ((W.tup (xs ++ ys), O.sh) : W × O) else none) = some r := e
    split at e
    · rename_i hc
      cases e
      obtain ⟨h1, h2⟩ := band hc
      obtain ⟨h3, h4⟩ := band h1
      obtain ⟨h5, h6⟩ := band h2
      have e1 := O.isSh_iff h3
      have e2 := O.isSh_iff h4
      subst e1 e2
      obtain ⟨_, _, _, vs, q1, q2⟩ := bv
      obtain ⟨_, _, _, us, q3, q4⟩ := bu
      refine .inr (.inr (.inr ⟨vs, us, q1, q3, ?_, by rw [q2.length, q4.length]; exact of_decide_eq_true h6, ok_sh h z (Bo.of_sh ⟨_, rfl, q2.append q4⟩)⟩))
      rintro rfl
      have := q2.length
      cases xs with
      | nil => cases h5
      | cons _ _ => simp at this
    · cases e
  · rename_i xs ys
    have e : (if (ox.flat && oy.flat) && decide (xs.length + ys.length ≤ sizeLine) then some ((W.lst (xs ++ ys), O.ow []) : W × O) else none) = some r := e
    split at e
    · rename_i hc
      cases e
      obtain ⟨h1, h2⟩ := band hc
      obtain ⟨h3, h4⟩ := band h1
      obtain ⟨l1, vs, q1, q2, q3⟩ := bv.lst h3 z.sg z.Lg
      obtain ⟨l2, us, q4, q5, q6⟩ := bu.lst h4 z.sg z.Lg
      subst q1 q4
      refine .inr (.inr (.inl ⟨vs, us, .inl ⟨l1, rfl, q2⟩, .inl ⟨l2, rfl, q5⟩, ⟨l1, l2, rfl, rfl⟩, by rw [q3.length, q6.length]; exact of_decide_eq_true h2, fun p hp => ?_⟩))
      obtain ⟨A', z', rl⟩ := new_lst z hp (q3.append q6)
      exact h s _ A' _ Ext.refl z' rl
    · cases e
  · rename_i xs k
    have e : (if ox.flat && (decide (-(2 ^ 63) ≤ k) && (decide (k < 2 ^ 63) && decide (xs.length * k.toNat ≤ sizeLine))) then some ((W.lst (List.replicate k.toNat xs).flatten, O.ow []) : W × O) else none) = some r := by cases oy <;> exact e
    split at e
    · rename_i hc
      cases e
      obtain ⟨h1, h2⟩ := band hc
      obtain ⟨h3, h4⟩ := band h2
      obtain ⟨h5, h6⟩ := band h4
      obtain ⟨l1, vs, q1, q2, q3⟩ := bv.lst h1 z.sg z.Lg
      have eu : u = .int k := bu.sh z.sg z.Lg
      subst q1 eu
      refine .inr ⟨l1, k, vs, rfl, rfl, q2, of_decide_eq_true h3, of_decide_eq_true h5, by rw [q3.length]; exact of_decide_eq_true h6, fun p hp => ?_⟩
      obtain ⟨A', z', rl⟩ := new_lst z hp (q3.flatrep k.toNat)
      exact h s _ A' _ Ext.refl z' rl
    · cases e
theorem xBin_ok {o : BO} (ha : SV va (wE P ΓC a)) (hb : SV vb (wE P ΓC b)) (z : Z s g F L ω env A) (h : Kg (rlV F L) s F L env (xBin o (op2 P a va b vb ω)) Po Xp) : wBin o.b (wE P ΓC a) (wE P ΓC b) env g Po Xp :=
  op2_ok (Q := fun v u g2 => o.b v u g2 Po) ha hb z h fun xy ω' s' g' A' v u xx z' bv bu hh => by
    split at hh
    · rename_i w e1
      exact opBin_ok e1 (bv.sh z'.sg z'.Lg) (bu.sh z'.sg z'.Lg) fun t r => ok_sh hh z' (Bo.of_pure (opBin_flat e1) r)
    · obtain ⟨x, e1, hh⟩ := optR_some hh
      exact newBin_ok e1 bv bu z' hh
end
end MP
set_option Elab.async false
set_option linter.all false
set_option maxRecDepth 100000
/-! EV, part 14: subscripts, fields, calls, built-in functions with a trace. -/
namespace MP
open PySem PySem.Spec PyProof.Rows L2
theorem bind_bind {α β γ : Type} (r : Rr α) (k : α → En → Rr β) (j : β → En → Rr γ) : (r.bind k).bind j = r.bind fun x ω => (k x ω).bind j := by cases r <;> rfl
section
variable {P : Prog} {ΓC : Nat → Ct} {Γ : Nat → Fe} {s g F : Gp} {L : Lt} {ω : En} {env : Env} {A : Ft} {Po : Po} {Xp : Xo} {e a b : Ex} {va vb : En → Rr (W × O)} {wa wb : WE} {B C : List Addr}
theorem shR_some {r : Rr (W × O)} (h : Kg (rlV F L) s F L env (shR r) Po Xp) : ∃ k, shR r = r.bind k ∧ ∀ x ω', Kg (rlV F L) s F L env (k x ω') Po Xp → x.2 = .sh ∧ Kg (rlV F L) s F L env (.ok x ω') Po Xp := by
  refine ⟨_, rfl, fun x ω' h => ?_⟩
  split at h
  · rename_i hs
    have e := O.isSh_iff hs
    obtain ⟨w, o⟩ := x
    cases e
    exact ⟨rfl, h⟩
  · exact h.elim
theorem frees_get : ∀ (cs : List O) (j : Nat), O.frees cs = true → (cs.getD j .sh).free = true
  | [], _, _ => rfl
  | c :: cs, 0, h => (band h).1
  | c :: cs, j + 1, h => by
    have := frees_get cs j (band h).2
    simpa using this
theorem free_part {o : O} {j : Nat} (h : o.free = true) : (o.part j).free = true := by
  cases o with
  | sh => rfl
  | lk _ => cases h
  | hole => cases h
  | ow cs => exact frees_get cs j h
  | tp cs => exact frees_get cs j h
theorem ixW_free {x r : W × O} {k : W} (h : ixW x k = some r) (f : x.2.free = true) : r.2.free = true := by
  obtain ⟨w, o⟩ := x
  have get : ∀ {xs : List W} {i : Int}, ((ixN xs.length i).bind fun j => xs[j]?.map fun x => ((x, o.part j) : W × O)) = some r → r.2.free = true := by
    intro xs i h
    obtain ⟨j, h1, h2⟩ := Option.bind_eq_some_iff.mp h
    obtain ⟨u, h3, h4⟩ := Option.map_eq_some_iff.mp h2
    subst h4
    exact free_part f
  cases w with
  | str y =>
    cases k <;> first | (cases h; done) | skip
    rename_i i
    have h : (if y.length ≤ sizeLine then (atI y.cps.toList i).map fun c => ((W.str ⟨#[c]⟩, O.sh) : W × O) else none) = some r := h
    split at h
    · obtain ⟨c, h1, h2⟩ := Option.map_eq_some_iff.mp h
      subst h2
      rfl
    · cases h
  | tup xs => cases k <;> first | (cases h; done) | exact get h
  | kl xs => cases k <;> first | (cases h; done) | exact get h
  | lst xs => cases k <;> first | (cases h; done) | exact get h
  | dct ks xs =>
    obtain ⟨key, h1, h2⟩ := Option.bind_eq_some_iff.mp (show (kyW k).bind (fun k => (kIx ks k).bind fun j => xs[j]?.map fun x => ((x, o.part j) : W × O)) = some r from h)
    obtain ⟨j, h3, h4⟩ := Option.bind_eq_some_iff.mp h2
    obtain ⟨u, h5, h6⟩ := Option.map_eq_some_iff.mp h4
    subst h6
    exact free_part f
  | _ => cases h
theorem fldW_free {x r : W × O} {ok : Cn → Fd → Bool} {fd : Fd} (h : fldW ok fd x = some r) (f : x.2.free = true) : r.2.free = true := by
  obtain ⟨w, o⟩ := x
  cases w with
  | ins c fs ws =>
    have h : (if ok c fd then (kIx fs fd).bind fun j => ws[j]?.map fun x => ((x, o.part j) : W × O) else none) = some r := h
    split at h
    · obtain ⟨j, h3, h4⟩ := Option.bind_eq_some_iff.mp h
      obtain ⟨u, h5, h6⟩ := Option.map_eq_some_iff.mp h4
      subst h6
      exact free_part f
    · cases h
  | _ => cases h
theorem xIx_ok (ha : SV va (wE P ΓC a)) (hb : SV vb (wE P ΓC b)) (z : Z s g F L ω env A) (h : Kg (rlV F L) s F L env (xIx P a va b vb ω) Po Xp) : wBin bIx (wE P ΓC a) (wE P ΓC b) env g Po Xp := by
  unfold xIx at h
  split at h
  · unfold shR at h
    rw [bind_bind] at h
    refine op2_ok (Q := fun v u g2 => bIx v u g2 Po) ha hb z h fun xy ω' s' g' A' v u xx z' bv bu hh => ?_
    cases e1 : ixW xy.1 xy.2.1 with
    | none => rw [e1] at hh; exact hh.elim
    | some r =>
      rw [e1] at hh
      have hh : Kg (rlV F L) s' F L env (if r.2.isSh then .ok (r.1, .sh) ω' else .no) Po Xp := hh
      split at hh
      · rename_i hs
        obtain ⟨w, o⟩ := r
        cases O.isSh_iff hs
        exact ixW_ok e1 bv (bu.sh z'.sg z'.Lg) z'.sg z'.Lg fun t bt => ok_sh hh z' bt
      · exact hh.elim
  · refine ha ω s g F L env A _ Xp z (Kg.bind h fun x ω' _ s' g' A' v xx z' rl hh => ?_)
    obtain ⟨fx, B, bB, r⟩ := rl
    split at hh
    · rename_i y e2
      obtain ⟨t, e3, hh⟩ := optR_some hh
      exact sndQ z' b y e2 _ Xp fun u bu => ixW_own e3 (free_full fx) r (bu.sh z'.sg z'.Lg) z'.sg z'.Lg fun t' C ft rt hC nC => hh s' g' A' t' Ext.refl z' ⟨ixW_free e3 fx, C, bB.sub ⟨nC bB.nd, hC⟩, rt⟩
    · unfold shR at hh
      rw [bind_bind] at hh
      refine hb ω' s' g' (addS F g' B) L env A' _ Xp (z'.frame bB) (Kg.bindF r.dom bB z'.LF hh fun y ω2 _ s2 g2 A2 u x2 z2 b2 hg _ rl h3 => ?_)
      cases e1 : ixW x y.1 with
      | none => rw [e1] at h3; exact h3.elim
      | some r1 =>
        rw [e1] at h3
        have h3 : Kg (rlV F L) s2 F L env (if r1.2.isSh then .ok (r1.1, .sh) ω2 else .no) Po Xp := h3
        split at h3
        · rename_i hs
          obtain ⟨w, o⟩ := r1
          cases O.isSh_iff hs
          exact ixW_ok e1 (Bo.mono r (free_full fx) x2.n hg) (rl.bo.sh z2.sg z2.Lg) z2.sg z2.Lg fun t bt => ok_sh h3 z2 bt
        · exact h3.elim
theorem newSl_ok {x r : W × O} {v : Vl} {lo hi : Option Int} (e : newSl x lo hi = some r) (bv : Bo s g L x v) (z : Z s g F L ω env A) (h : Kg (rlV F L) s F L env (.ok r ω) Po Xp) : bSl v lo hi g Po := by
  obtain ⟨w, o⟩ := x
  have cut : ∀ {xs : List W} {vs : List Vl}, Shs s xs vs → Shs s (cutL xs lo hi) (cutL vs lo hi) := fun {xs vs} q => by
    unfold cutL
    rw [q.length]
    exact (q.drop _).take _
  cases w <;> first | (cases e; done) | skip
  · rename_i xs
    have e : (if o.flat then some ((W.lst (cutL xs lo hi), O.ow []) : W × O) else none) = some r := e
    split at e
    · cases e
      obtain ⟨a, vs, e1, q⟩ := bv.kl
      refine .inl ⟨vs, .inr ⟨a, e1⟩, fun p hp => ?_⟩
      obtain ⟨A', z', rl⟩ := new_lst z hp (cut q)
      exact h s _ A' _ Ext.refl z' rl
    · cases e
  · rename_i xs
    have e : (if o.flat then some ((W.lst (cutL xs lo hi), O.ow []) : W × O) else none) = some r := e
    split at e
    · rename_i hf
      cases e
      obtain ⟨a, vs, e1, q1, q⟩ := bv.lst hf z.sg z.Lg
      refine .inl ⟨vs, .inl ⟨a, e1, q1⟩, fun p hp => ?_⟩
      obtain ⟨A', z', rl⟩ := new_lst z hp (cut q)
      exact h s _ A' _ Ext.refl z' rl
    · cases e
theorem slW_sh {x r : W × O} {lo hi : Option Int} (e : slW x lo hi = some r) : r.2 = .sh := by
  obtain ⟨w, o⟩ := x
  cases w with
  | str y =>
    have e : (if y.length ≤ sizeLine then some ((W.str (cutS y lo hi), O.sh) : W × O) else none) = some r := by cases o <;> exact e
    split at e
    · cases e; rfl
    · cases e
  | tup xs => cases o <;> first | (cases e; done) | (cases e; rfl)
  | _ => cases o <;> cases e
theorem xSl_ok {l hh : Bool} {lo hi : Ex} (ha : SV va (wE P ΓC a)) (z : Z s g F L ω env A) (h : Kg (rlV F L) s F L env (xSl P l hh a va lo hi ω) Po Xp) : wSl (wE P ΓC a) (if l then wPo (wE P ΓC lo) else wPoN) (if hh then wPo (wE P ΓC hi) else wPoN) env g Po Xp := by
  unfold xSl at h
  refine op1_ok ha z h fun x ω' s' g' A' v xx z' bv h2 => ?_
  have fin : ∀ {i j : Option Int}, Kg (rlV F L) s' F L env (match newSl x i j with
      | some r => .ok r ω'
      | none => optR (slW x i j) ω') Po Xp → bSl v i j g' Po := by
    intro i j h3
    split at h3
    · rename_i r e1
      exact newSl_ok e1 bv z' h3
    · obtain ⟨r, e1, h3⟩ := optR_some h3
      refine slW_ok e1 bv z'.sg z'.Lg fun u bu => ?_
      have : r.2 = .sh := slW_sh e1
      obtain ⟨w, o⟩ := r
      cases this
      exact ok_sh h3 z' bu
  have one : ∀ {lo : Ex} {i : Int} {Q : Option Int → Gp → Prop}, intQ (evQ P lo ω') = some i → Q (some i) g' → wPo (wE P ΓC lo) env g' Q Xp := by
    intro lo i Q q1 hq
    obtain ⟨o1, f1⟩ := intQ_some q1
    exact sndQ z' lo _ f1 _ Xp fun v1 b1 => ⟨i, b1.sh z'.sg z'.Lg, hq⟩
  cases l with
  | true =>
    simp only [if_true] at h2 ⊢
    cases e1 : intQ (evQ P lo ω') with
    | none => rw [e1] at h2; exact h2.elim
    | some i =>
      rw [e1] at h2
      refine one e1 ?_
      cases hh with
      | true =>
        simp only [if_true] at h2 ⊢
        cases e2 : intQ (evQ P hi ω') with
        | none => rw [e2] at h2; exact h2.elim
        | some j =>
          rw [e2] at h2
          exact one e2 (fin h2)
      | false => exact fin h2
  | false =>
    cases hh with
    | true =>
      simp only [if_true] at h2 ⊢
      cases e2 : intQ (evQ P hi ω') with
      | none => rw [e2] at h2; exact h2.elim
      | some j =>
        rw [e2] at h2
        have : wPo (wE P ΓC hi) env g' (fun h g3 => bSl v none h g3 Po) Xp := one e2 (fin h2)
        exact this
    | false => exact fin h2
theorem xFld_ok {f : Fd} (ha : SV va (wE P ΓC a)) (z : Z s g F L ω env A) (h : Kg (rlV F L) s F L env (xFld P f (va ω)) Po Xp) : wFld P.fok f (wE P ΓC a) env g Po Xp := by
  refine ha ω s g F L env A _ Xp z (Kg.bind h fun x ω' _ s' g' A' v xx z' rl hh => ?_)
  obtain ⟨fx, B, bB, r⟩ := rl
  obtain ⟨t, e3, hh⟩ := optR_some hh
  exact fldW_own e3 (free_full fx) r z'.sg z'.Lg fun t' C ft rt hC nC => hh s' g' A' t' Ext.refl z' ⟨fldW_free e3 fx, C, bB.sub ⟨nC bB.nd, hC⟩, rt⟩
theorem xIsi_ok {u : Ty} (ha : SV va (wE P ΓC a)) (z : Z s g F L ω env A) (h : Kg (rlV F L) s F L env (xIsi P u (va ω)) Po Xp) : wIsi P.isi u (wE P ΓC a) env g Po Xp := by
  refine ha ω s g F L env A _ Xp z (Kg.bind h fun x ω' _ s' g' A' v xx z' rl hh => ?_)
  obtain ⟨t, e3, hh⟩ := optR_some hh
  obtain ⟨k, e1, e2⟩ := Option.map_eq_some_iff.mp e3
  subst e2
  exact ⟨_, k, tyW_ok (rl.bo.sh z'.sg z'.Lg), e1, bool_sh hh z'⟩
theorem xNeg_ok (ha : SV va (wE P ΓC a)) (z : Z s g F L ω env A) (h : Kg (rlV F L) s F L env (xNeg (va ω)) Po Xp) : wUn bNeg (wE P ΓC a) env g Po Xp := by
  refine ha ω s g F L env A _ Xp z (Kg.bind h fun x ω' _ s' g' A' v xx z' rl hh => ?_)
  obtain ⟨t, e3, hh⟩ := optR_some hh
  obtain ⟨i, e1, e2⟩ := Option.map_eq_some_iff.mp e3
  subst e2
  obtain ⟨o, e4⟩ := intQ_some e1
  cases e4
  exact ⟨i, rl.bo.sh z'.sg z'.Lg, ok_sh hh z' Bo.int⟩
theorem xNot_ok (ha : SV va (wE P ΓC a)) (z : Z s g F L ω env A) (h : Kg (rlV F L) s F L env (xNot (va ω)) Po Xp) : wNot (wE P ΓC a) env g Po Xp := by
  refine ha ω s g F L env A _ Xp z (Kg.bind h fun x ω' _ s' g' A' v xx z' rl hh => ?_)
  obtain ⟨t, e3, hh⟩ := optR_some hh
  obtain ⟨i, e1, e2⟩ := Option.map_eq_some_iff.mp e3
  subst e2
  obtain ⟨o, e4⟩ := blQ_some e1
  cases e4
  exact ⟨i, rl.bo.sh z'.sg z'.Lg, bool_sh hh z'⟩
theorem truR_ok {f : En → Rr (W × O)} {w : WE} {PoB : Bool → Gp → Prop} (hf : SV f w) (z : Z s g F L ω env A) (h : Kg rlB s F L env (truR (f ω)) PoB Xp) : wtV w env g PoB Xp := by
  refine hf ω s g F L env A _ Xp z (Kg.bind h fun x ω' _ s' g' A' v xx z' rl hh => ?_)
  obtain ⟨k, e3, hh⟩ := optR_some hh
  exact ⟨k, truW_ok e3 (rl.bo.sh z'.sg z'.Lg), hh s' g' A' k Ext.refl z' rfl⟩
theorem truB_ok {f : En → Rr (W × O)} {w : WE} {PoB : Bool → Gp → Prop} (hf : SV f w) (hb : ∀ x ω', f ω = .ok x ω' → ∃ k, x.1 = .bl k) (z : Z s g F L ω env A) (h : Kg rlB s F L env (truR (f ω)) PoB Xp) : w env g (fun z g1 => ∃ k, z = .bl k ∧ PoB k g1) Xp := by
  refine hf ω s g F L env A _ Xp z (Kg.bind h fun x ω' e0 s' g' A' v xx z' rl hh => ?_)
  obtain ⟨k, e3, hh⟩ := optR_some hh
  obtain ⟨k', e4⟩ := hb x ω' e0
  rw [e4] at e3
  cases e3
  have := rl.bo.sh z'.sg z'.Lg
  rw [e4] at this
  exact ⟨k, this, hh s' g' A' k Ext.refl z' rfl⟩
/-! ### calls -/
theorem argOf_ok (ha : SV va (wE P ΓC a)) : SA1 (argOf a va) (wE P ΓC a) := by
  intro ω s g F L env A Po Xp z h
  have gen : Kg (rlA1 F L env) s F L env ((va ω).arg) Po Xp → wE P ΓC a env g Po Xp := fun h =>
    ha ω s g F L env A Po Xp z (Kg.bind h fun x ω' _ s' g' A' v xx z' rl hh => hh s' g' A' v Ext.refl z' ⟨_, rl.2.choose_spec.1, v, [], _, [], rfl, (List.append_nil _).symm, rl.1, rl.2.choose_spec.2, rfl, rfl⟩)
  cases a with
  | var i =>
    have h : Kg (rlA1 F L env) s F L env (argV ω i .no) Po Xp := h
    unfold argV at h
    split at h
    · rename_i w o e
      obtain ⟨v, e1, r⟩ := z.slot e
      refine ⟨v, e1, ?_⟩
      split at h
      · rename_i hs
        have eo : o = .sh := O.isSh_iff hs
        rw [eo] at r
        exact h s g A v Ext.refl z ⟨[], Bz.nil, v, [], [], [], rfl, rfl, rfl, ⟨rfl, r.2⟩, rfl, rfl⟩
      · exact h s g A v Ext.refl z ⟨[], Bz.nil, v, [], rfl, e1, rfl, rfl⟩
    · exact h.elim
  | _ => exact gen h
theorem cls_of {d : Arg} {v : Vl} {c : Cn} (z : Z s g F L ω env A) (r : RlA s g L env [d] [v] B) (h : (argW ω d).bind clsOf = some c) : ∃ a fs, v = .ref a ∧ g a = some (.ins c fs) := by
  obtain ⟨w, h1, h2⟩ := Option.bind_eq_some_iff.mp h
  have fin : ∀ {w : W}, clsOf w = some c → Sh g w v → ∃ a fs, v = .ref a ∧ g a = some (.ins c fs) := by
    intro w h2 q
    cases w <;> first | (cases h2; done) | skip
    cases h2
    obtain ⟨a, fvs, e, q, _⟩ := q
    exact ⟨a, fvs, e, q⟩
  cases d with
  | val x =>
    cases h1
    obtain ⟨v1, vs', B1, B2, e1, e2, f, r1, _⟩ := r
    cases e1
    exact fin h2 (r1.sh z.sg z.Lg (free_full f))
  | slot i =>
    obtain ⟨x, e1, e2⟩ := Option.map_eq_some_iff.mp (show (slotQ ω i).map Prod.fst = some w from h1)
    subst e2
    obtain ⟨v1, vs', e3, e4, _⟩ := r
    cases e3
    obtain ⟨v2, e5, b⟩ := slotQ_ok z e1
    rw [e4] at e5
    cases e5
    exact fin h2 (b.sh z.sg z.Lg)
variable (hΓ : ∀ i, SndF (Γ i) (ΓC i))
include hΓ
theorem xProp_ok {m : Mn} {f : En → Rr Arg} {w : WE} (hf : SA1 f w) (z : Z s g F L ω env A) (h : Kg (rlV F L) s F L env (xProp P Γ m (f ω)) Po Xp) : wProp (ctP P ΓC m) w env g Po Xp := by
  refine hf ω s g F L env A _ Xp z (Kg.bind h fun d ω' _ s' g' A' v xx z' rl hh => ?_)
  obtain ⟨B, bB, r⟩ := rl
  split at hh
  · rename_i c e1
    split at hh
    · rename_i fe e2
      obtain ⟨i, e3, e4⟩ := Option.map_eq_some_iff.mp (show (P.pt c m).map Γ = some fe from e2)
      subst e4
      obtain ⟨a, fs, q1, q2⟩ := cls_of z' r e1
      refine ⟨a, c, fs, ΓC i, q1, q2, by show (P.pt c m).map ΓC = _; rw [e3]; rfl, ?_⟩
      refine callR_ok (hΓ i) z' bB r ?_
      split at hh
      · rename_i rr ω2 e5
        rw [e5]
        exact hh
      · exact hh.elim
    · exact hh.elim
  · exact hh.elim
theorem xCall_ok {i : Nat} {f : En → Rr (List Arg)} {w : WA} (hf : SAs f w) (z : Z s g F L ω env A) (h : Kg (rlV F L) s F L env (xCall (Γ i) (f ω)) Po Xp) : wCall (ΓC i) w env g Po Xp := by
  refine hf ω s g F L env A _ Xp z (Kg.bind h fun d ω' _ s' g' A' v xx z' rl hh => ?_)
  obtain ⟨B, bB, r⟩ := rl
  exact callR_ok (hΓ i) z' bB r hh
theorem xSm_ok {c : Cn} {m : Mn} {f : En → Rr (List Arg)} {w : WA} (hf : SAs f w) (z : Z s g F L ω env A) (h : Kg (rlV F L) s F L env (xSm P Γ c m (f ω)) Po Xp) : wCall (ctS P ΓC c m) w env g Po Xp := by
  refine hf ω s g F L env A _ Xp z (Kg.bind h fun d ω' _ s' g' A' v xx z' rl hh => ?_)
  obtain ⟨B, bB, r⟩ := rl
  split at hh
  · rename_i fe e2
    obtain ⟨i, e3, e4⟩ := Option.map_eq_some_iff.mp (show (P.st c m).map Γ = some fe from e2)
    subst e4
    have : ctS P ΓC c m = ΓC i := by unfold ctS; rw [e3]
    rw [this]
    exact callR_ok (hΓ i) z' bB r hh
  · exact hh.elim
theorem xMeth_ok {m : Mn} {f : En → Rr Arg} {w : WE} {fs : En → Rr (List Arg)} {ws : WA} (hf : SA1 f w) (hfs : SAs fs ws) (z : Z s g F L ω env A) (h : Kg (rlV F L) s F L env (xMeth P Γ m (f ω) fs) Po Xp) : wMeth (ctM P ΓC m) w ws env g Po Xp := by
  refine hf ω s g F L env A _ Xp z (Kg.bind h fun d ω' _ s' g' A' v xx z' rl hh => ?_)
  obtain ⟨B, bB, r⟩ := rl
  split at hh
  · rename_i c e1
    split at hh
    · rename_i fe e2
      obtain ⟨i, e3, e4⟩ := Option.map_eq_some_iff.mp (show (P.mt c m).map Γ = some fe from e2)
      subst e4
      obtain ⟨a, fl, q1, q2⟩ := cls_of z' r e1
      refine ⟨a, c, fl, ΓC i, q1, q2, by show (P.mt c m).map ΓC = _; rw [e3]; rfl, ?_⟩
      refine hfs ω' s' g' (addS F g' B) L env A' _ Xp (z'.frame bB) (Kg.bindF r.dom bB z'.LF hh fun ds ω2 _ s2 g2 A2 vs x2 z2 b2 hg _ rl2 h3 => ?_)
      obtain ⟨C, bC, rC⟩ := rl2
      obtain ⟨bC', hout⟩ := bC.mono_F r.dom bB.hF
      have r2 : RlA s2 g2 L env [d] [v] B := r.mono x2.n hg
      refine callR_ok (hΓ i) z2 (b2.append bC' hout) ?_ h3
      cases d with
      | val x =>
        obtain ⟨v1, vs', B1, B2, e5, e6, f1, r1, e7, e8⟩ := r2
        cases e5
        subst e8
        rw [List.append_nil] at e6
        subst e6
        exact ⟨v, vs, B, C, rfl, rfl, f1, r1, rC⟩
      | slot k =>
        obtain ⟨v1, vs', e5, e6, e7, e8⟩ := r2
        cases e5
        subst e8
        exact ⟨v, vs, rfl, e6, rC⟩
    · exact hh.elim
  · exact hh.elim
theorem xMake_ok {c : Cn} {f : En → Rr (List Arg)} {w : WA} (hf : SAs f w) (z : Z s g F L ω env A) (h : Kg (rlV F L) s F L env (xMake P Γ c (f ω)) Po Xp) : wMake c (ctI P ΓC c) w env g Po Xp := by
  refine hf ω s g F L env A _ Xp z (Kg.bind h fun ds ω' _ s' g' A' vs xx z' rl hh => ?_)
  obtain ⟨B, bB, r⟩ := rl
  intro p hp
  split at hh
  · rename_i fe e2
    obtain ⟨i, e3, e4⟩ := Option.map_eq_some_iff.mp (show (P.mt c .init).map Γ = some fe from e2)
    subst e4
    have eI : ctI P ΓC c = ΓC i := by unfold ctI; rw [e3]
    rw [eI]
    split at hh
    · exact hh.elim
    · split at hh
      · exact hh.elim
      · rename_i as ls ω1 e5
        obtain ⟨s1, A1, B1, x1, z1, b1, r1, f1, l1⟩ := resA_ok z' bB r e5
        -- the new cell
        have zf := z1.frame b1
        obtain ⟨A2, z2, b2⟩ := zf.alloc (c := .ins c []) hp
        obtain ⟨z3, b3⟩ := Z.unframe r1.dom b1 z1.LF z2
        obtain ⟨b4, hout⟩ := b2.mono_F r1.dom b1.hF
        have hpB : p ∉ B1 := hout p (by simp)
        have rr : Rl s1 (gup g' p (.ins c [])) L ((((W.ins c [] [], O.ow []) : W × O) :: as).map Prod.snd) ((((W.ins c [] [], O.ow []) : W × O) :: as).map Prod.fst) (.ref p :: vs) ([p] ++ B1) := by
          refine ⟨_, _, .ref p, vs, [p], B1, rfl, rfl, rfl, ⟨p, [], [], rfl, rfl, gup_same, rfl, rfl, rfl⟩, r1.mono Ext.refl.n Sub.refl fun a ha => gup_ne ?_⟩
          rintro rfl
          exact hpB ha
        have bb : Bz s1 F A2 ([p] ++ B1) := b4.append b3 fun a ha h => by cases List.mem_singleton.mp h; exact hpB ha
        obtain ⟨D, Aa, d1, d2, d3, z4, zc⟩ := z3.call bb (by show (true && O.frees (as.map Prod.snd)) = true; rw [f1]; rfl) rr
        refine (hΓ i) _ s1 _ (addS F _ D) _ Aa _ Xp zc (by show (true && O.frees (as.map Prod.snd)) = true; rw [f1]; rfl) ?_
        have back : ∀ {s'' g'' : Gp} {Ap : Ft} {p0 : Option (W × O)} {ps ω2 : En}, Ext s1 s'' → Z s'' g'' (addS F (gup g' p (.ins c [])) D) L0 (p0 :: ps) ((.ref p :: vs).map some) Ap → backA ls ps ω1 = some ω2 → ∃ A3, Z s'' g'' F L ω2 env A3 ∧ (∀ i a, a ∈ A3 i → a ∈ D ∨ ∃ j, a ∈ Ap (j + 1)) := by
          intro s'' g'' Ap p0 ps ω2 x zp e
          have z5 := z4.after d3 d1 d2 x zp.sg zp.Fg zp.sF
          obtain ⟨A3, z6, h3⟩ := backA_ok (Ap := fun j => Ap (j + 1)) l1 z5 (fun j w o e => by
            obtain ⟨v, e1, r⟩ := zp.val (j + 1) w o (by simpa using e)
            exact ⟨v, by simpa using map_some_get e1, r.mono Ext.refl.n (fun i x h => by cases h) fun _ _ => rfl⟩) (fun j => zp.nd _) (fun i j a k1 k2 => by have := zp.dj _ _ a k1 k2; omega) (fun j => zp.hs _) (fun j a ha => by
              have h := zp.hF _ a ha
              cases e2 : F a with
              | none => rfl
              | some c => rw [addS_sub d2 a c e2] at h; cases h) (fun j i a ha h => by
              have h2 := zp.hF _ a ha
              obtain ⟨c, e2⟩ := d1 a (d3 i a h)
              rw [addS_in (d3 i a h), e2] at h2
              cases h2) e
          exact ⟨A3, z6, fun i a ha => (h3 i a ha).imp (d3 i a) id⟩
        cases e6 : (Γ i).run ((W.ins c [] [], O.ow []) :: as) with
        | ok x ps =>
          rw [e6] at hh
          intro s'' g'' Ap v x2 zp ⟨fx, C, bc, rc⟩
          obtain ⟨wx, ox⟩ := x
          cases wx <;> first | exact hh.elim | skip
          cases ps with
          | nil => exact hh.elim
          | cons p0 ps =>
            cases p0 with
            | none => exact hh.elim
            | some self =>
              have hh : Kg (rlV F L) s' F L env (match backA ls ps ω1 with
                | some ω3 => if self.2.free then .ok self ω3 else .no
                | none => .no) Po Xp := hh
              cases e7 : backA ls ps ω1 with
              | none => rw [e7] at hh; exact hh.elim
              | some ω2 =>
                rw [e7] at hh
                have hh : Kg (rlV F L) s' F L env (if self.2.free then .ok self ω2 else .no) Po Xp := hh
                split at hh
                · rename_i hfull
                  obtain ⟨A3, z6, h3⟩ := back x2 zp e7
                  refine ⟨rc.sh zp.sg zp.Lg (free_full fx), ?_⟩
                  obtain ⟨v0, q1, q2⟩ := zp.val 0 self.1 self.2 rfl
                  cases (show Vl.ref p = v0 by simpa using q1)
                  refine hh s'' g'' A3 (.ref p) (x1.ext.trans x2) z6 ⟨hfull, Ap 0, ⟨zp.nd 0, fun k a ha h => ?_, zp.hs 0, fun a ha => ?_⟩, q2.anyL hfull⟩
                  · rcases h3 k a h with h5 | ⟨j, h5⟩
                    · have h6 := zp.hF 0 a ha
                      obtain ⟨cc, e8⟩ := d1 a h5
                      rw [addS_in h5, e8] at h6
                      cases h6
                    · have := zp.dj _ _ a ha h5
                      omega
                  · have h6 := zp.hF 0 a ha
                    cases e8 : F a with
                    | none => rfl
                    | some cc => rw [addS_sub d2 a cc e8] at h6; cases h6
                · exact hh.elim
        | ex c' fs ws ps =>
          rw [e6] at hh
          intro s'' g'' Ap fvs x2 zp e8 e9
          cases ps with
          | nil => exact hh.elim
          | cons p0 ps =>
            have hh : Kg (rlV F L) s' F L env (match backA ls ps ω1 with
              | some ω3 => .ex c' fs ws ω3
              | none => .no) Po Xp := hh
            cases e7 : backA ls ps ω1 with
            | none => rw [e7] at hh; exact hh.elim
            | some ω2 =>
              rw [e7] at hh
              obtain ⟨A3, z6, h3⟩ := back x2 zp e7
              exact hh s'' g'' A3 fvs (x1.ext.trans x2) z6 e8 e9
        | no => rw [e6] at hh; exact hh.elim
  · exact hh.elim
end
end MP
set_option Elab.async false
set_option linter.all false
set_option maxRecDepth 100000
/-! EV, part 15: what makes lists and dicts. -/
namespace MP
open PySem PySem.Spec PyProof.Rows L2
section
variable {P : Prog} {ΓC : Nat → Ct} {Γ : Nat → Fe} {s g F : Gp} {L : Lt} {ω : En} {env : Env} {A : Ft} {Po : Po} {Xp : Xo} {e a b : Ex} {va vb : En → Rr (W × O)} {wa wb : WE} {B C : List Addr}
theorem any_key {k : Key} : ∀ {kvs : List (Key × Vl)}, (kvs.any fun kv => decide (kv.1 = k)) = (kIx (kvs.map Prod.fst) k).isSome
  | [] => rfl
  | p :: r => by
    rw [List.any_cons, List.map_cons]
    unfold kIx
    by_cases h : p.1 = k
    · rw [if_pos h]
      simp [h]
    · rw [if_neg h, decide_eq_false h, Bool.false_or, any_key]
      simp
theorem putL_keys {k : Key} {v : Vl} : ∀ {kvs : List (Key × Vl)}, (putL kvs k v).map Prod.fst = if (kIx (kvs.map Prod.fst) k).isSome then kvs.map Prod.fst else kvs.map Prod.fst ++ [k] := by
  intro kvs
  unfold putL
  rw [← any_key]
  by_cases h : (kvs.any fun kv => decide (kv.1 = k)) = true
  · rw [if_pos h, if_pos h, List.map_map]
    refine List.map_congr_left fun x _ => ?_
    show (if x.1 = k then (x.1, v) else x).1 = x.1
    split <;> rfl
  · rw [if_neg h, if_neg h, List.map_append]
    rfl
theorem subW_ok {k : Key} {w : W} {v : Vl} (q : Sh g w v) : ∀ {kvs : List (Key × Vl)} {vs : List W}, Shs g vs (kvs.map Prod.snd) → Shs g (subW (kvs.map Prod.fst) vs k w) ((kvs.map fun kv => if kv.1 = k then (kv.1, v) else kv).map Prod.snd)
  | [], vs, r => by
    cases vs with
    | nil => exact rfl
    | cons _ _ => obtain ⟨_, _, e, _⟩ := r; cases e
  | p :: r, vs, h => by
    cases vs with
    | nil => cases (show (p :: r).map Prod.snd = [] from h)
    | cons x xs =>
      obtain ⟨y, ys, e, q1, q2⟩ := h
      cases e
      refine ⟨_, _, rfl, ?_, subW_ok q q2⟩
      show Sh g (if p.1 = k then w else x) (if p.1 = k then (p.1, v) else p).2
      split
      · exact q
      · exact q1
theorem putW_ok {k : Key} {w : W} {v : Vl} {kvs : List (Key × Vl)} {vs : List W} (q : Sh g w v) (r : Shs g vs (kvs.map Prod.snd)) : (putL kvs k v).map Prod.fst = (putW (kvs.map Prod.fst) vs k w).1 ∧ Shs g (putW (kvs.map Prod.fst) vs k w).2 ((putL kvs k v).map Prod.snd) := by
  have e2 := any_key (k := k) (kvs := kvs)
  rw [putL_keys]
  unfold putW putL
  rw [e2]
  by_cases h : (kIx (kvs.map Prod.fst) k).isSome = true
  · rw [if_pos h, if_pos h, if_pos h]
    exact ⟨rfl, subW_ok q r⟩
  · rw [if_neg h, if_neg h, if_neg h]
    refine ⟨rfl, ?_⟩
    rw [List.map_append]
    exact r.append (.cons q .nil)
theorem mrgW_ok : ∀ {ps : List (Key × W)} {ls kvs : List (Key × Vl)} {vs : List W}, Shs g vs (kvs.map Prod.snd) → ls.map Prod.fst = ps.map Prod.fst → Shs g (ps.map Prod.snd) (ls.map Prod.snd) → (mergeL kvs ls).map Prod.fst = (mrgW (kvs.map Prod.fst) vs ps).1 ∧ Shs g (mrgW (kvs.map Prod.fst) vs ps).2 ((mergeL kvs ls).map Prod.snd)
  | [], ls, kvs, vs, r, e, q => by
    cases ls with
    | nil => exact ⟨rfl, r⟩
    | cons _ _ => cases e
  | (k, w) :: ps, ls, kvs, vs, r, e, q => by
    cases ls with
    | nil => cases e
    | cons l ls =>
      obtain ⟨y, ys, e1, q1, q2⟩ := q
      cases e1
      obtain ⟨lk, lv⟩ := l
      have ek : lk = k := by injection e
      subst ek
      have er : ls.map Prod.fst = ps.map Prod.fst := by injection e
      obtain ⟨p1, p2⟩ := putW_ok (k := lk) q1 r
      have i := mrgW_ok (kvs := putL kvs lk lv) p2 er q2
      rw [p1] at i
      exact i
theorem prsW_ok : ∀ {xs : List W} {ps : List (Key × W)} {vs : List Vl}, prsW xs = some ps → Shs g xs vs → ∃ kvs, prs vs kvs ∧ kvs.map Prod.fst = ps.map Prod.fst ∧ Shs g (ps.map Prod.snd) (kvs.map Prod.snd)
  | [], ps, vs, e, r => by
    cases e
    exact ⟨[], by rw [show vs = [] from r]; rfl, rfl, rfl⟩
  | x :: xs, ps, vs, e, r => by
    obtain ⟨y, ys, e1, q, q2⟩ := r
    subst e1
    unfold prsW at e
    split at e
    · rename_i e2; cases e2
    · rename_i k v r' heq
      cases heq
      split at e
      · rename_i k' r'' h1 h2
        cases e
        obtain ⟨us, e3, q⟩ := q
        obtain ⟨y1, ys1, e4, q3, q⟩ := q
        obtain ⟨y2, ys2, e5, q4, q5⟩ := q
        have e6 : ys2 = [] := q5
        subst e6 e5 e4
        obtain ⟨kvs, i1, i2, i3⟩ := prsW_ok h2 q2
        refine ⟨(k', y2) :: kvs, ⟨k', y2, kvs, rfl, ?_, i1⟩, ?_, ⟨y2, _, rfl, q4, i3⟩⟩
        · rw [e3, kyW_ok h1 q3]
        · rw [List.map_cons, List.map_cons, i2]
      · cases e
    · cases e
theorem wDs_all : ∀ {ps : List (Vl × PyData)}, (∀ p ∈ ps, Sh g (wD p.2) p.1) → Shs g (wDs (ps.map Prod.snd)) (ps.map Prod.fst)
  | [], _ => rfl
  | p :: r, h => ⟨_, _, rfl, h p List.mem_cons_self, wDs_all fun q hq => h q (List.mem_cons_of_mem _ hq)⟩
theorem zip_all : ∀ {xs : List W} {ds : List PyData} {vs : List Vl}, W.dats xs = some ds → Shs g xs vs → ∀ p ∈ vs.zip ds, Sh g (wD p.2) p.1
  | [], ds, vs, e, r, p, hp => by
    cases e
    simp at hp
  | x :: xs, ds, vs, e, r, p, hp => by
    obtain ⟨y, ys, e1, q, q2⟩ := r
    subst e1
    unfold W.dats at e
    split at e
    · rename_i d es h1 h2
      cases e
      rw [List.zip_cons_cons] at hp
      rcases List.mem_cons.mp hp with rfl | hp
      · rw [show wD (y, d).2 = x from wD_dat h1]
        exact q
      · exact zip_all h2 q2 p hp
    · cases e
theorem dats_len : ∀ {xs : List W} {ds : List PyData}, W.dats xs = some ds → ds.length = xs.length
  | [], ds, e => by cases e; rfl
  | x :: xs, ds, e => by
    unfold W.dats at e
    split at e
    · rename_i d es h1 h2
      cases e
      rw [List.length_cons, List.length_cons, dats_len h2]
    · cases e
theorem newBlt_ok {b : Blt} {x r : W × O} {v : Vl} (e : newBlt b x = some r) (bv : Bo s g L x v) (z : Z s g F L ω env A) (h : Kg (rlV F L) s F L env (.ok r ω) Po Xp) : b.b [v] g Po := by
  obtain ⟨w, o⟩ := x
  have mk : ∀ {xs : List W} {vs : List Vl} {p : Addr}, r = (.lst xs, .ow []) → g p = none → Shs s xs vs → Po (.ref p) (gup g p (.lst vs)) := by
    rintro xs vs p rfl hp q
    obtain ⟨A', z', rl⟩ := new_lst z hp q
    exact h s _ A' _ Ext.refl z' rl
  have mkd : ∀ {ks : List Key} {xs : List W} {kvs : List (Key × Vl)} {p : Addr}, r = (.dct ks xs, .ow []) → g p = none → kvs.map Prod.fst = ks → Shs s xs (kvs.map Prod.snd) → Po (.ref p) (gup g p (.dct kvs)) := by
    rintro ks xs kvs p rfl hp e q
    obtain ⟨A', z', rl⟩ := new_dct z hp e q
    exact h s _ A' _ Ext.refl z' rl
  cases b <;> first | (cases w <;> cases e; done) | skip
  · -- list
    cases w <;> first | (cases e; done) | skip
    · rename_i xs
      have e : (if o.isSh then some ((W.lst xs, O.ow []) : W × O) else none) = some r := e
      split at e
      · rename_i hs
        cases O.isSh_iff hs
        obtain ⟨_, _, _, vs, q1, q2⟩ := bv
        cases e
        exact .inl ⟨v, vs, rfl, .inr q1, fun p hp => mk rfl hp q2⟩
      · cases e
    · rename_i xs
      have e : (if o.flat then some ((W.lst xs, O.ow []) : W × O) else none) = some r := e
      split at e
      · cases e
        obtain ⟨a, vs, q1, q2⟩ := bv.kl
        exact .inl ⟨v, vs, rfl, .inl (.inr ⟨a, q1⟩), fun p hp => mk rfl hp q2⟩
      · cases e
    · rename_i xs
      have e : (if o.flat then some ((W.lst xs, O.ow []) : W × O) else none) = some r := e
      split at e
      · rename_i hf
        cases e
        obtain ⟨a, vs, q1, q2, q3⟩ := bv.lst hf z.sg z.Lg
        exact .inl ⟨v, vs, rfl, .inl (.inl ⟨a, q1, q2⟩), fun p hp => mk rfl hp q3⟩
      · cases e
    · rename_i ks xs
      cases e
      obtain ⟨a, kvs, q1, q2, q3, _⟩ := bv.sh z.sg z.Lg
      refine .inr ⟨v, kvs, rfl, ⟨a, q1, q2⟩, fun p hp => mk rfl hp ?_⟩
      rw [← q3]
      have := shs_keys (h := s) (kvs.map Prod.fst)
      rw [List.map_map, List.map_map] at this
      rw [List.map_map]
      exact this
  · -- dict
    cases w <;> first | (cases e; done) | skip
    · rename_i xs
      have e : (if o.flat then (prsW xs).map fun ps => ((.dct (mrgW [] [] ps).1 (mrgW [] [] ps).2, .ow []) : W × O) else none) = some r := e
      split at e
      · rename_i hf
        obtain ⟨ps, e1, e2⟩ := Option.map_eq_some_iff.mp e
        obtain ⟨a, vs, q1, q2, q3⟩ := bv.lst hf z.sg z.Lg
        obtain ⟨kvs, i1, i2, i3⟩ := prsW_ok e1 q3
        obtain ⟨m1, m2⟩ := mrgW_ok (g := s) (kvs := []) (vs := []) rfl i2 i3
        exact .inr ⟨v, vs, kvs, rfl, .inl ⟨a, q1, q2⟩, i1, fun p hp => mkd e2.symm hp m1 m2⟩
      · cases e
    · rename_i ks xs
      have e : (if o.flat then some ((W.dct ks xs, O.ow []) : W × O) else none) = some r := e
      split at e
      · rename_i hf
        cases e
        obtain ⟨a, kvs, q1, q2, q3, q4⟩ := bv.dct hf z.sg z.Lg
        exact .inl ⟨v, kvs, rfl, ⟨a, q1, q2⟩, fun p hp => mkd rfl hp q3 q4⟩
      · cases e
  · -- sorted
    cases w <;> first | (cases e; done) | skip
    · rename_i xs
      have e : (match intsW xs with
        | some ns => some ((W.lst ((isort (fun a b => decide (a ≤ b)) ns).map .int), O.ow []) : W × O)
        | none => match strsW xs with
          | some ns => some (.lst ((isort leS ns).map .str), .ow [])
          | none => (W.dats xs).bind fun ds => if o.flat && sortB ds then some (.lst (wDs (isort leD ds)), .ow []) else none) = some r := e
      split at e
      · rename_i ns e1
        cases e
        obtain ⟨a, vs, q1, q2, q3⟩ := bv.sh z.sg z.Lg
        have := intsW_ok e1 q3
        subst this
        exact .inl (.inl ⟨v, ns, rfl, .inl ⟨a, q1, q2⟩, fun ms p pm pw hp => mk rfl hp (by rw [sortI_eq pm pw]; exact shs_ints _)⟩)
      · split at e
        · rename_i ns e1
          cases e
          obtain ⟨a, vs, q1, q2, q3⟩ := bv.sh z.sg z.Lg
          have := strsW_ok e1 q3
          subst this
          exact .inl (.inr (.inl ⟨v, ns, rfl, .inl ⟨a, q1, q2⟩, fun ms p pm pw hp => mk rfl hp (by rw [sortS_eq pm pw]; exact shs_strs _)⟩))
        · obtain ⟨ds, e1, e2⟩ := Option.bind_eq_some_iff.mp e
          split at e2
          · rename_i hc
            cases e2
            obtain ⟨c1, c2⟩ := band hc
            obtain ⟨k1, k2, k3⟩ := sort_sortable c2
            obtain ⟨a, vs, q1, q2, q3⟩ := bv.lst c1 z.sg z.Lg
            refine .inr ⟨v, vs, ds, rfl, .inl ⟨a, q1, q2⟩, dats_ok e1 (q3.mono z.sg.ext.n), k1, k2, k3, fun ps p pm pw hp => mk rfl hp ?_⟩
            have hl : ds.length = vs.length := by rw [dats_len e1, q3.length]
            have em : (vs.zip ds).map Prod.snd = ds := List.map_snd_zip (by omega)
            have pm2 : (ps.map Prod.snd).Perm ds := by
              have := pm.map Prod.snd
              rwa [em] at this
            have pw2 : (ps.map Prod.snd).Pairwise fun a b => PySem.W.dataLt b a = false := List.pairwise_map.mpr pw
            have es := sortD_eq (band c2).1 pm2 pw2
            rw [← es]
            exact wDs_all fun q hq => zip_all e1 q3 q (pm.subset hq)
          · cases e2
    · rename_i ks xs
      obtain ⟨ns, e1, e2⟩ := Option.map_eq_some_iff.mp (show (keyStrs ks).map (fun ns => ((W.lst ((isort leS ns).map .str), O.ow []) : W × O)) = some r from e)
      obtain ⟨a, kvs, q1, q2, q3, _⟩ := bv.sh z.sg z.Lg
      refine .inl (.inr (.inr ⟨v, kvs, ns, rfl, ⟨a, q1, q2⟩, by rw [q3]; exact keyStrs_ok e1, fun ms p pm pw hp => mk e2.symm hp (by rw [sortS_eq pm pw]; exact shs_strs _)⟩))
theorem xBlt1_ok {b : Blt} {x : W × O} {v : Vl} (bv : Bo s g L x v) (z : Z s g F L ω env A) (h : Kg (rlV F L) s F L env (xBlt1 b (.ok x ω)) Po Xp) : b.b [v] g Po := by
  have h : Kg (rlV F L) s F L env (match bltW b [x.1] with
    | some w => .ok (w, .sh) ω
    | none => optR (newBlt b x) ω) Po Xp := h
  split at h
  · rename_i w e1
    exact bltW_one e1 (bv.sh z.sg z.Lg) fun u r => ok_sh h z (Bo.of_pure (bltW_pure e1) r)
  · obtain ⟨r, e1, h⟩ := optR_some h
    exact newBlt_ok e1 bv z h
theorem Rl.bos : ∀ {ps : List (W × O)} {vs : List Vl} {B : List Addr}, O.frees (ps.map Prod.snd) = true → Rl s g L (ps.map Prod.snd) (ps.map Prod.fst) vs B → Bos s g L ps vs
  | [], vs, B, _, r => r.2
  | p :: ps, vs, B, f, r => by
    obtain ⟨w1, ws', v1, vs', A1, A2, e1, e2, e3, q, q2⟩ := r
    cases e1
    obtain ⟨f1, f2⟩ := band f
    exact ⟨v1, vs', e2, ⟨free_full f1, A1, q⟩, Rl.bos f2 q2⟩
theorem xBlt_ok {b : Blt} {es : Exs} {vs : En → Rr (List (W × O))} (hv : SL vs (wA P ΓC es)) (z : Z s g F L ω env A) (h : Kg (rlV F L) s F L env (xBlt P b es vs ω) Po Xp) : wBlt b.b (wA P ΓC es) env g Po Xp := by
  unfold xBlt at h
  split at h
  · rename_i e1 he
    have ee : es = .cons e1 .nil := by
      unfold isOne at he
      split at he
      · cases he; rfl
      · cases he
    split at h
    · rename_i x e2
      subst ee
      exact sndQ z e1 x e2 _ Xp fun v bv => xBlt1_ok bv z h
    · refine hv ω s g F L env A _ Xp z (Kg.bind h fun ps ω' _ s' g' A' us xx z' rl hh => ?_)
      obtain ⟨f, B, bB, r⟩ := rl
      split at hh
      · rename_i x
        obtain ⟨y, ys, e3, bv, e4⟩ := Rl.bos f r
        have e5 : ys = [] := e4
        subst e5 e3
        exact xBlt1_ok bv z' hh
      · exact hh.elim
  · refine hv ω s g F L env A _ Xp z (Kg.bind h fun ps ω' _ s' g' A' us xx z' rl hh => ?_)
    obtain ⟨f, B, bB, r⟩ := rl
    obtain ⟨t, e3, hh⟩ := optR_some hh
    obtain ⟨w, e4, e5⟩ := Option.map_eq_some_iff.mp e3
    subst e5
    exact bltW_ok e4 ((Rl.bos f r).sh z'.sg z'.Lg) fun u q => ok_sh hh z' (Bo.of_pure (bltW_pure e4) q)
/-! ### displays -/
theorem rl_allsh : ∀ {os : List O} {ws : List W} {vs : List Vl} {B : List Addr}, os.all O.isSh = true → os.length = ws.length → Rl s g L os ws vs B → B = [] ∧ Shs s ws vs
  | [], ws, vs, B, _, hl, r => r
  | o :: os, ws, vs, B, h, hl, r => by
    obtain ⟨w1, ws', v1, vs', A1, A2, e1, e2, e3, q, q2⟩ := r
    subst e1 e2 e3
    rw [List.all_cons] at h
    obtain ⟨h1, h2⟩ := band h
    cases O.isSh_iff h1
    obtain ⟨i1, i2⟩ := rl_allsh h2 (by simpa using hl) q2
    subst i1
    obtain ⟨e, q⟩ := q
    subst e
    exact ⟨rfl, v1, vs', rfl, q, i2⟩
theorem xTup_ok {vs : En → Rr (List (W × O))} {w : WA} (hv : SL vs w) (z : Z s g F L ω env A) (h : Kg (rlV F L) s F L env (xTup (vs ω)) Po Xp) : wTup w env g Po Xp := by
  refine hv ω s g F L env A _ Xp z (Kg.bind h fun ps ω' _ s' g' A' us xx z' rl hh => ?_)
  obtain ⟨f, B, bB, r⟩ := rl
  split at hh
  · rename_i hl
    have el : us.length = ps.length := by have := r.len; simpa using this
    refine ⟨by rw [el]; exact hl, hh s' g' A' _ Ext.refl z' ?_⟩
    unfold tpO
    by_cases hs : (ps.map Prod.snd).all O.isSh = true
    · rw [if_pos hs]
      obtain ⟨e1, q⟩ := rl_allsh hs (by simp) r
      exact rlV.of_sh ⟨us, rfl, q⟩
    · rw [if_neg hs]
      exact ⟨f, B, bB, us, rfl, r⟩
  · exact hh.elim
theorem xLst_ok {vs : En → Rr (List (W × O))} {w : WA} (hv : SL vs w) (z : Z s g F L ω env A) (h : Kg (rlV F L) s F L env (xLst (vs ω)) Po Xp) : wLst w env g Po Xp := by
  refine hv ω s g F L env A _ Xp z (Kg.bind h fun ps ω' _ s' g' A' us xx z' rl hh => ?_)
  obtain ⟨f, B, bB, r⟩ := rl
  split at hh
  · rename_i hl
    have el : us.length = ps.length := by have := r.len; simpa using this
    refine ⟨by rw [el]; exact hl, fun p hp => ?_⟩
    unfold owO at hh
    by_cases hs : (ps.map Prod.snd).all O.isSh = true
    · rw [if_pos hs] at hh
      obtain ⟨e1, q⟩ := rl_allsh hs (by simp) r
      obtain ⟨A2, z2, rl2⟩ := new_lst z' hp q
      exact hh s' _ A2 _ Ext.refl z2 rl2
    · rw [if_neg hs] at hh
      obtain ⟨A2, z2, rl2⟩ := new_lstO z' hp f bB r
      exact hh s' _ A2 _ Ext.refl z2 rl2
  · exact hh.elim
theorem dnew_ok (z : Z s g F L ω env A) (h : Kg (rlV F L) s F L env (.ok (.dct [] [], .ow []) ω) Po Xp) : ∀ p, g p = none → Po (.ref p) (gup g p (.dct [])) := fun p hp => by
  obtain ⟨A2, z2, rl2⟩ := new_dct (ks := []) (xs := []) (kvs := []) z hp rfl rfl
  exact h s _ A2 _ Ext.refl z2 rl2
end
end MP
set_option Elab.async false
set_option linter.all false
set_option maxRecDepth 100000
/-! EV, part 16: changes. -/
namespace MP
open PySem PySem.Spec PyProof.Rows L2
section
variable {P : Prog} {ΓC : Nat → Ct} {Γ : Nat → Fe} {s g F : Gp} {L : Lt} {ω ω' : En} {env : Env} {A : Ft} {Po : Po} {Xp : Xo} {e a b : Ex} {va vb : En → Rr (W × O)} {wa wb : WE} {B C : List Addr}
/-- a list's content is changed -/
theorem lst_upd {p : Addr} {cs : List O} {xs : List W} {vs : List Vl} {B1 D : List Addr} (f : Fr B1 D) (hp : p ∉ D) (r : Rl s g L cs xs vs B1) : R s (gup g p (.lst vs)) L (.ow cs) (.lst xs) (.ref p) (p :: B1) :=
  ⟨p, vs, B1, rfl, rfl, gup_same, r.mono Ext.refl.n Sub.refl fun a ha => gup_ne (by rintro rfl; exact hp (f.sub _ ha))⟩
theorem fr_cons {p : Addr} {B1 B C : List Addr} (f : Fr B1 (B ++ C)) (hp : p ∉ B ++ C) : Fr (p :: B1) (p :: B ++ C) :=
  ⟨List.nodup_cons.mpr ⟨fun h => hp (f.sub p h), f.nd⟩, fun a h => by
    rcases List.mem_cons.mp h with rfl | h
    · exact List.mem_append_left _ List.mem_cons_self
    · rcases List.mem_append.mp (f.sub a h) with h | h
      · exact List.mem_append_left _ (List.mem_cons_of_mem _ h)
      · exact List.mem_append_right _ h⟩
theorem rl1 {y : W × O} {vs : List Vl} (r : Rl s g L ([y].map Prod.snd) ([y].map Prod.fst) vs C) : ∃ u, vs = [u] ∧ R s g L y.2 y.1 u C := by
  obtain ⟨w1, ws', v1, vs', A1, A2, e1, e2, e3, q, q2⟩ := r
  cases e1
  obtain ⟨e4, e5⟩ := q2
  have e6 : vs' = [] := e5
  subst e4 e6 e3
  exact ⟨v1, e2, by simpa using q⟩
theorem dats_find {ds : List PyData} {d : PyData} {j : Nat} (h : (ds.findIdx? fun z => PyData.eqv z d) = some j) : ∃ z, ds[j]? = some z ∧ PyData.eqv z d = true ∧ ∀ (m : Nat) z', m < j → ds[m]? = some z' → PyData.eqv z' d = false := by
  rw [List.findIdx?_eq_some_iff_getElem] at h
  obtain ⟨hj, h1, h2⟩ := h
  refine ⟨ds[j], List.getElem?_eq_getElem hj, h1, fun m z' hm e => ?_⟩
  have hl : m < ds.length := by omega
  rw [List.getElem?_eq_getElem hl] at e
  cases e
  simpa using h2 m hm
theorem bmW_ok {b : Bm} {x x' r : W × O} {ps : List (W × O)} {v : Vl} {vs : List Vl} (e : bmW b x ps = some (x', r)) (hs : Sub s g) (hL : SubL L g) (rx : R s g L x.2 x.1 v B) (rp : Rl s g L (ps.map Prod.snd) (ps.map Prod.fst) vs C) (fp : O.frees (ps.map Prod.snd) = true) (nd : (B ++ C).Nodup)
    (k : ∀ p c B' u, p ∈ B → p ∈ B' → Fr B' (B ++ C) → R s (gup g p c) L x'.2 x'.1 v B' → r.2 = .sh → Sh s r.1 u → Po u (gup g p c)) : b.b v vs g Po := by
  obtain ⟨w, o⟩ := x
  cases o with
  | ow cs => ?_
  | _ => cases b <;> cases w <;> cases e
  cases w with
  | lst xs => ?_
  | _ => cases b <;> cases cs <;> cases e
  obtain ⟨p, us, B1, e1, eB, q0, q⟩ := rx
  subst e1 eB
  have hp : p ∉ B1 ++ C := (List.nodup_cons.mp nd).1
  have nd1 : (B1 ++ C).Nodup := (List.nodup_cons.mp nd).2
  have plain : ∀ {ys : List W} {zs : List Vl} {u : Vl}, cs = [] → x' = (.lst ys, .ow []) → Shs s ys zs → r.2 = .sh → Sh s r.1 u → Po u (gup g p (.lst zs)) := by
    rintro ys zs u rfl rfl q2 e4 q3
    exact k p _ [p] u List.mem_cons_self (by simp) ⟨by simp, fun a h => by cases List.mem_singleton.mp h; exact List.mem_append_left _ List.mem_cons_self⟩ (lst_upd (B1 := []) (D := []) ⟨List.nodup_nil, fun _ h => h⟩ (by simp) ⟨rfl, q2⟩) e4 q3
  cases b with
  | append =>
    match ps, e, rp, fp with
    | [y], e, rp, fp =>
      have e : (if xs.length < sizeLine then some (((.lst (xs ++ [y.1]), .ow (setC cs xs.length y.2)), (.non, .sh)) : (W × O) × (W × O)) else none) = some (x', r) := e
      split at e
      · rename_i hl
        cases e
        obtain ⟨u, e2, ry⟩ := rl1 rp
        subst e2
        obtain ⟨B2, f2, q2⟩ := q.setC_end ry nd1
        exact ⟨p, us, u, rfl, rfl, q0, by rw [q.len]; exact hl, k p _ (p :: B2) .non List.mem_cons_self List.mem_cons_self (fr_cons f2 hp) (lst_upd f2 hp q2) rfl rfl⟩
      · cases e
  | pop =>
    cases cs with
    | cons _ _ => cases e
    | nil =>
      have qs : Shs s xs us := q.2
      match ps, e, rp with
      | [], e, rp =>
        obtain ⟨y, e2, e3⟩ := Option.map_eq_some_iff.mp (show (xs[xs.length - 1]?).map (fun y => (((.lst xs.dropLast, .ow []), (y, .sh)) : (W × O) × (W × O))) = some (x', r) from e)
        cases e3
        have e4 : vs = [] := rp.2
        subst e4
        obtain ⟨u, e5, q2⟩ := qs.get e2
        refine .inl ⟨p, us, u, rfl, rfl, q0, by rw [qs.length]; exact e5, plain rfl rfl ?_ rfl q2⟩
        rw [List.dropLast_eq_take, List.dropLast_eq_take, qs.length]
        exact qs.take _
      | [(.int i, oi)], e, rp =>
        have e : (if decide (-(2 ^ 63) ≤ i) && decide (i < 2 ^ 63) then (seqIndex? i xs.length).bind fun k => (xs[k]?).map fun y => (((.lst (xs.eraseIdx k), .ow []), (y, .sh)) : (W × O) × (W × O)) else none) = some (x', r) := e
        split at e
        · rename_i hc
          obtain ⟨h1, h2⟩ := band hc
          obtain ⟨j, e2, e3⟩ := Option.bind_eq_some_iff.mp e
          obtain ⟨y, e4, e5⟩ := Option.map_eq_some_iff.mp e3
          cases e5
          obtain ⟨u, e6, ry⟩ := rl1 rp
          have f1 : oi.free = true := (band fp).1
          have e7 : u = .int i := ry.sh hs hL (free_full f1)
          subst e7 e6
          obtain ⟨t, e8, q2⟩ := qs.get e4
          exact .inr ⟨p, us, i, j, t, rfl, rfl, q0, of_decide_eq_true h1, of_decide_eq_true h2, by rw [qs.length]; exact e2, e8, plain rfl rfl qs.eraseIdx rfl q2⟩
        · cases e
  | reverse =>
    cases cs with
    | cons _ _ => cases e
    | nil =>
      match ps, e, rp with
      | [], e, rp =>
        cases e
        have e4 : vs = [] := rp.2
        exact ⟨p, us, rfl, e4, q0, plain rfl rfl (Shs.reverse q.2) rfl rfl⟩
  | clear =>
    cases cs with
    | cons _ _ => cases e
    | nil =>
      match ps, e, rp with
      | [], e, rp =>
        cases e
        have e4 : vs = [] := rp.2
        exact ⟨p, us, rfl, e4, q0, plain rfl rfl rfl rfl rfl⟩
  | extend =>
    cases cs with
    | cons _ _ => cases e
    | nil =>
      match ps, e, rp with
      | [(.lst ys, oy)], e, rp =>
        have e : (if oy.flat && decide (xs.length + ys.length ≤ sizeLine) then some (((.lst (xs ++ ys), .ow []), (.non, .sh)) : (W × O) × (W × O)) else none) = some (x', r) := e
        split at e
        · rename_i hc
          cases e
          obtain ⟨h1, h2⟩ := band hc
          obtain ⟨u, e6, ry⟩ := rl1 rp
          subst e6
          obtain ⟨l2, zs, e7, q3, q4⟩ := Bo.lst (s := s) (g := g) (L := L) ⟨free_full (band fp).1, _, ry⟩ h1 hs hL
          subst e7
          exact ⟨p, l2, us, zs, rfl, rfl, q0, q3, by rw [q.2.length, q4.length]; exact of_decide_eq_true h2, plain rfl rfl (Shs.append q.2 q4) rfl rfl⟩
        · cases e
  | insert =>
    cases cs with
    | cons _ _ => cases e
    | nil =>
      match ps, e, rp with
      | [(.int i, oi), (y, .sh)], e, rp =>
        have e : (if decide (xs.length < sizeLine) && (decide (0 ≤ i) && decide (i < 2 ^ 63)) then some (((.lst (xs.take i.toNat ++ [y] ++ xs.drop i.toNat), .ow []), (.non, .sh)) : (W × O) × (W × O)) else none) = some (x', r) := e
        split at e
        · rename_i hc
          cases e
          obtain ⟨h1, h2⟩ := band hc
          obtain ⟨h3, h4⟩ := band h2
          obtain ⟨w1, ws', v1, vs', A1, A2, e1, e2, e3, q1, q2⟩ := rp
          cases e1
          obtain ⟨u, e6, ry⟩ := rl1 (y := (y, O.sh)) q2
          have e7 : v1 = .int i := q1.sh hs hL (free_full (band fp).1)
          subst e2 e6 e7
          refine ⟨p, us, i, u, rfl, rfl, q0, by rw [q.2.length]; exact of_decide_eq_true h1, of_decide_eq_true h3, of_decide_eq_true h4, plain rfl rfl ?_ rfl rfl⟩
          exact ((Shs.take _ q.2).append (.cons ry.2 .nil)).append (Shs.drop _ q.2)
        · cases e
  | remove =>
    cases cs with
    | cons _ _ => cases e
    | nil =>
      match ps, e, rp with
      | [(y, .sh)], e, rp =>
        have e : (match W.dats xs, y.dat with
          | some ds, some d => if SeqAt.shaped (.list ds) && SeqAt.shaped d then (ds.findIdx? fun z => PyData.eqv z d).map fun j => (((.lst (xs.eraseIdx j), .ow []), (.non, .sh)) : (W × O) × (W × O)) else none
          | _, _ => none) = some (x', r) := e
        split at e
        · rename_i ds d hd1 hd2
          split at e
          · rename_i hc
            obtain ⟨h1, h2⟩ := band hc
            obtain ⟨j, e2, e3⟩ := Option.map_eq_some_iff.mp e
            cases e3
            obtain ⟨u, e6, ry⟩ := rl1 rp
            subst e6
            obtain ⟨zz, m1, m2, m3⟩ := dats_find e2
            exact ⟨p, us, u, d, ds, j, zz, rfl, rfl, q0, dats_ok hd1 (Shs.mono hs.ext.n q.2), dat_ok hd2 (ry.2.mono hs.ext.n), h1, h2, m1, m2, m3, plain rfl rfl (Shs.eraseIdx q.2) rfl rfl⟩
          · cases e
        · cases e
  | index => cases e
  | count => cases e
theorem bmQ_ok {b : Bm} {x : W} {ps : List W} {v : Vl} {vs : List Vl} {w : W} (e : bmQ b x ps = some w) (rx : Sh g x v) (rp : Shs g ps vs) (k : ∀ u, Sh g w u → Po u g) : b.b v vs g Po ∧ pureW w = true := by
  cases b <;> first | (cases x <;> cases e; done) | skip
  · cases x <;> first | (cases e; done) | skip
    rename_i xs
    match ps, e, rp with
    | [y], e, rp =>
      have e : (match W.dats xs, y.dat with
        | some ds, some d => if SeqAt.shaped (.list ds) && SeqAt.shaped d then (ds.findIdx? fun z => PyData.eqv z d).map fun j => W.int (j : Nat) else none
        | _, _ => none) = some w := e
      split at e
      · rename_i ds d hd1 hd2
        split at e
        · rename_i hc
          obtain ⟨h1, h2⟩ := band hc
          obtain ⟨j, e2, e3⟩ := Option.map_eq_some_iff.mp e
          subst e3
          obtain ⟨u, us, e4, q1, q2⟩ := rp
          have e5 : us = [] := q2
          subst e5 e4
          obtain ⟨zz, m1, m2, m3⟩ := dats_find e2
          exact ⟨⟨u, d, ds, j, zz, rfl, dat_ok (w := .lst xs) (by show (W.dats xs).map PyData.list = _; rw [hd1]; rfl) rx, dat_ok hd2 q1, h1, h2, m1, m2, m3, k _ rfl⟩, rfl⟩
        · cases e
      · cases e
  · cases x <;> first | (cases e; done) | skip
    rename_i xs
    match ps, e, rp with
    | [y], e, rp =>
      have e : (match W.dats xs, y.dat with
        | some ds, some d => if SeqAt.shaped (.list ds) && SeqAt.shaped d then some (W.int (ds.countP fun z => PyData.eqv z d : Nat)) else none
        | _, _ => none) = some w := e
      split at e
      · rename_i ds d hd1 hd2
        split at e
        · rename_i hc
          obtain ⟨h1, h2⟩ := band hc
          cases e
          obtain ⟨u, us, e4, q1, q2⟩ := rp
          have e5 : us = [] := q2
          subst e5 e4
          exact ⟨⟨u, d, ds, rfl, dat_ok (w := .lst xs) (by show (W.dats xs).map PyData.list = _; rw [hd1]; rfl) rx, dat_ok hd2 q1, h1, h2, k _ rfl⟩, rfl⟩
        · cases e
      · cases e
theorem bmQ_lst {b : Bm} {x : W} {ps : List W} {w : W} (e : bmQ b x ps = some w) : b = .index ∨ b = .count := by
  cases b <;> first | (cases x <;> cases e; done) | exact .inl rfl | exact .inr rfl
/-- a place's cell is changed: the slot's tree anew -/
theorem Z.plug {i : Nat} {root root' : W × O} {p : List Nat} {x y : W × O} {v0 : Vl} {D : List Addr} (z : Z s g F L ω env A) (bC : Bz s F A C) (h0 : env[i]? = some (some v0)) (rr : R s g L root.2 root.1 v0 D) (bD : Bz s F A D) (hCD : ∀ a ∈ C, a ∉ D) (h1 : getP root p = some x) (hx : x.2 ≠ .hole)
    (h2 : updP (fun _ => some y) root p = some root') : ∃ u B, atV g v0 p = some u ∧ R s g L x.2 x.1 u B ∧ (B ++ C).Nodup ∧ (∀ q ∈ B, q ∈ D) ∧ ∀ q c B', q ∈ B → Fr B' (B ++ C) → R s (MP.gup g q c) L y.2 y.1 u B' → ∃ A', Z s (MP.gup g q c) F L (ω.set i (some root')) env A' := by
  obtain ⟨u, B, e1, rx, hB, nB, k⟩ := rr.at z.sg z.Lg p bD.nd h1 hx
  refine ⟨u, B, e1, rx, nodup_mk nB bC.nd fun a h h' => hCD a h' (hB a h), hB, fun q c B' hq f r' => ?_⟩
  obtain ⟨B2, f2, r2⟩ := k (s' := s) (g' := MP.gup g q c) (o' := y.2) (y := y.1) (C' := B') Ext.refl.n (fun a ha h => gup_ne (by rintro rfl; exact h hq)) r' f.nd (fun a h1 h2 => by
    rcases List.mem_append.mp (f.sub a h1) with h | h
    · exact h
    · exact absurd h2 (hCD a h)) root' h2
  have hq1 := hB q hq
  have z1 : Z s (MP.gup g q c) F L ω env A := z.chg (bD.hs q hq1) (bD.hF q hq1) fun k h => bD.dj k q hq1 h
  have bB2 : Bz s F A B2 := by
    have cases2 : ∀ a ∈ B2, a ∈ C ∨ a ∈ D := fun a ha => by
      rcases f2.sub a ha with h | ⟨h, _⟩
      · rcases List.mem_append.mp (f.sub a h) with h | h
        · exact .inr (hB a h)
        · exact .inl h
      · exact .inr h
    refine ⟨f2.nd, fun j a ha => ?_, fun a ha => ?_, fun a ha => ?_⟩
    · rcases cases2 a ha with h | h
      · exact bC.dj j a h
      · exact bD.dj j a h
    · rcases cases2 a ha with h | h
      · exact bC.hs a h
      · exact bD.hs a h
    · rcases cases2 a ha with h | h
      · exact bC.hF a h
      · exact bD.hF a h
  exact ⟨_, z1.back h0 bB2 r2⟩
/-- a path's value stays as long as its cells do -/
theorem R.at_frame {s' g' : Gp} (hs : Sub s g) (hL : SubL L g) (hs' : Sub s' g') (hL' : SubL L g') (hx : ExtN s s') {o : O} {w : W} {v : Vl} {B : List Addr} (r : R s g L o w v B) (nd : B.Nodup) (hg : ∀ a ∈ B, g' a = g a) (p : List Nat) {x : W × O} (h : getP (w, o) p = some x) (hh : x.2 ≠ .hole) : atV g v p = atV g' v p := by
  induction p generalizing o w v B with
  | nil => rfl
  | cons j p ih =>
    obtain ⟨u, h1, h2⟩ := Option.bind_eq_some_iff.mp (show (w.kids[j]?).bind (fun y => getP (y, o.part j) p) = some x from h)
    have ho : o ≠ .hole := by
      rintro rfl
      exact hh (getP_hole p u x h2)
    obtain ⟨z, C, k1, k2, k3, k4, _⟩ := r.step nd hs hL ho h1
    have r' : R s' g' L o w v B := r.mono hx Sub.refl hg
    obtain ⟨z', C', m1, m2, m3, m4, _⟩ := r'.step nd hs' hL' ho h1
    have ez : (kidsV g v)[j]? = (kidsV g' v)[j]? := by
      have key : kidsV g v = kidsV g' v ∨ True := .inr trivial
      cases o with
      | hole => exact absurd rfl ho
      | ow cs =>
        cases w with
        | lst xs =>
          obtain ⟨a, vs, D, e1, eD, q0, _⟩ := r
          subst e1 eD
          unfold kidsV
          simp only [q0, hg a List.mem_cons_self]
        | dct ks xs =>
          obtain ⟨a, vs, D, e1, eD, q0, _⟩ := r
          subst e1 eD
          unfold kidsV
          simp only [q0, hg a List.mem_cons_self]
        | ins c fs xs =>
          obtain ⟨a, vs, D, e1, eD, q0, _⟩ := r
          subst e1 eD
          unfold kidsV
          simp only [q0, hg a List.mem_cons_self]
        | _ => exact r.elim
      | tp cs =>
        cases w with
        | tup xs =>
          obtain ⟨vs, e1, _⟩ := r
          subst e1
          rfl
        | _ => exact r.elim
      | lk _ =>
        cases w with
        | lst xs =>
          obtain ⟨_, a, vs, e1, q0, _⟩ := r
          subst e1
          unfold kidsV
          simp only [hL _ _ _ q0, hL' _ _ _ q0]
        | dct ks xs =>
          obtain ⟨_, a, t, kvs, e1, q0, _⟩ := r
          subst e1
          unfold kidsV
          simp only [hL _ _ _ q0, hL' _ _ _ q0]
        | _ => exact r.2.elim
      | sh =>
        cases w with
        | tup xs =>
          obtain ⟨_, vs, e1, _⟩ := r
          subst e1
          rfl
        | kl xs =>
          obtain ⟨_, a, vs, e1, _⟩ := r
          subst e1
          rfl
        | lst xs =>
          obtain ⟨_, a, vs, e1, q0, _⟩ := r
          subst e1
          unfold kidsV
          simp only [hs _ _ q0, hs' _ _ ((hx a).1 _ q0)]
        | ins c fs xs =>
          obtain ⟨_, a, vs, e1, q0, _⟩ := r
          subst e1
          unfold kidsV
          simp only [hs _ _ q0, hs' _ _ ((hx a).2.1 _ _ q0)]
        | dct ks xs =>
          obtain ⟨_, a, kvs, e1, q0, _⟩ := r
          subst e1
          unfold kidsV
          have q1 := (hx a).2.2 _ q0
          rcases q0 with q0 | ⟨t, q0⟩ <;> rcases q1 with q1 | ⟨t', q1⟩ <;> simp only [hs _ _ q0, hs' _ _ q1]
        | _ => simp [W.kids] at h1
    show ((kidsV g v)[j]?).bind _ = ((kidsV g' v)[j]?).bind _
    rw [← ez, k1]
    exact ih k2 k4 (fun a ha => hg a (k3 a ha)) h2
theorem isLst_some {x : Option (W × O)} (h : isLst x = true) : ∃ xs o, x = some (.lst xs, o) := by
  cases x with
  | none => cases h
  | some x =>
    obtain ⟨w, o⟩ := x
    cases w <;> first | (cases h; done) | exact ⟨_, _, rfl⟩
theorem take_mem {i : Nat} {a : Addr} (h : a ∈ fup A i [] i) : False := by rw [fup_same] at h; simp at h
theorem xBm_ok {b : Bm} {o : Ex} {es : Exs} {vo : En → Rr (W × O)} {vs : En → Rr (List (W × O))} (ho : SV vo (wE P ΓC o)) (hv : SL vs (wA P ΓC es)) (z : Z s g F L ω env A) (h : Kg (rlV F L) s F L env (xBm P b o vo vs ω) Po Xp) : wBm b.T b.b (wE P ΓC o) (wA P ΓC es) env g Po Xp := by
  have bT : b.T = "list" := by cases b <;> rfl
  unfold xBm at h
  split at h
  · rename_i i e1
    split at h
    · rename_i hl
      obtain ⟨xs0, o0, e2⟩ := isLst_some hl
      have hslot : MP.slot ω i = some (.lst xs0, o0) ∧ o0.full = true := by
        unfold slotQ at e2
        unfold MP.slot
        split at e2
        · rename_i w o e
          split at e2
          · cases e2
            exact ⟨by rw [e], by assumption⟩
          · cases e2
        · cases e2
      obtain ⟨v0, b0⟩ := slotQ_ok z e2
      obtain ⟨v1, u1, q1, q2, q3⟩ := evPl_ok (ΓC := ΓC) z o i [] e1 _ hslot.1 (.lst xs0, o0) rfl (by intro hh; rw [show o0 = O.hole from hh] at hslot; cases hslot.2)
      cases q2
      have ev : v1 = v0 := by have := b0.1; rw [q1] at this; cases this; rfl
      subst ev
      refine q3 _ Xp ⟨?_, ?_⟩
      · obtain ⟨a, us, e3, e4, _⟩ := b0.2.sh z.sg z.Lg
        exact .inl ⟨bT, us, .inl ⟨a, e3, e4⟩⟩
      refine hv ω s g F L env A _ Xp z (Kg.bind h fun ps ω' _ s' g' A' us xx z' rl hh => ?_)
      obtain ⟨f, B, bB, r⟩ := rl
      split at hh
      · rename_i x e5
        obtain ⟨v2, e6, bx⟩ := slotQ_ok z' e5
        rw [q1] at e6
        cases e6
        split at hh
        · rename_i w e7
          have := bmQ_ok (Po := Po) e7 (bx.sh z'.sg z'.Lg) ((Rl.bos f r).sh z'.sg z'.Lg) fun u q => ok_sh hh z' (Bo.of_pure (bmQ_ok (Po := fun _ _ => True) e7 (bx.sh z'.sg z'.Lg) ((Rl.bos f r).sh z'.sg z'.Lg) fun _ _ => trivial).2 q)
          exact this.1
        · split at hh
          · rename_i x' rr e7
            have hsl : MP.slot ω' i = some x := by
              unfold slotQ at e5
              unfold MP.slot
              split at e5
              · rename_i w o e
                split at e5
                · cases e5
                  rw [e]
                · cases e5
              · cases e5
            obtain ⟨v3, e8, rx⟩ := z'.slot hsl
            rw [q1] at e8
            cases e8
            obtain ⟨z1, b1⟩ := z'.take (i := i)
            have bB' : Bz s' F (fup A' i []) B := ⟨bB.nd, fun k a ha hk => by
              by_cases hki : k = i
              · subst hki; exact take_mem hk
              · rw [fup_ne hki] at hk; exact bB.dj k a ha hk, bB.hs, bB.hF⟩
            obtain ⟨u, B1, e9, rx1, nd1, hsub, kk⟩ := z1.plug (root := x) (root' := x') (p := []) (x := x) (y := x') bB' q1 rx b1 (fun a ha => bB.dj i a ha) rfl (by intro hh2; have := bx.1; rw [hh2] at this; cases this) rfl
            cases e9
            refine bmW_ok e7 z'.sg z'.Lg rx1 r f nd1 fun q c B' u hq _ f1 r1 e10 q4 => ?_
            obtain ⟨A2, z2⟩ := kk q c B' hq f1 r1
            have ew : (ω'.set i none).set i (some x') = ω'.set i (some x') := by simp
            rw [ew] at z2
            obtain ⟨rw_, ro⟩ := rr
            cases e10
            exact hh s' _ A2 u Ext.refl z2 (rlV.of_sh q4)
          · exact hh.elim
      · exact hh.elim
    · exact h.elim
  · rename_i i p hne e1
    split at h
    · exact h.elim
    · rename_i root e2
      obtain ⟨v0, e3, rroot⟩ := z.slot e2
      split at h
      · exact h.elim
      · rename_i x hg
        split at h
        · rename_i hc
          obtain ⟨c1, c2⟩ := band hc
          obtain ⟨xs0, o0, e4⟩ := isLst_some c1
          cases e4
          have hx : o0 ≠ .hole := by
            intro hh
            rw [hh] at c2
            cases c2
          obtain ⟨v1, u1, q1, q2, q3⟩ := evPl_ok (ΓC := ΓC) z o i p e1 root e2 _ hg hx
          rw [e3] at q1
          cases q1
          obtain ⟨u2, B2, q4, rx0, _⟩ := rroot.at z.sg z.Lg p (z.nd i) hg hx
          rw [q2] at q4
          cases q4
          refine q3 _ Xp ⟨?_, ?_⟩
          · obtain ⟨a, us, e5, e6, _⟩ := rx0.sh z.sg z.Lg c2
            exact .inl ⟨bT, us, .inl ⟨a, e5, e6⟩⟩
          obtain ⟨z1, b1⟩ := z.take (i := i)
          have hdom := rroot.dom
          refine hv _ s g (addS F g (A i)) L env _ _ Xp (z1.frame b1) (Kg.bindF hdom b1 z.LF h fun ps ω' _ s' g' A' us xx z' b1' hgf zf rl hh => ?_)
          obtain ⟨f, B, bB, r⟩ := rl
          obtain ⟨bB', hout⟩ := bB.mono_F hdom b1.hF
          split at hh
          · rename_i x' rr e7
            split at hh
            · rename_i root' e8
              have rroot' : R s' g' L root.2 root.1 v0 (A i) := rroot.mono xx.n Sub.refl hgf
              obtain ⟨u, B1, e9, rx1, nd1, hsub, kk⟩ := z'.plug (root := root) (root' := root') (p := p) (y := x') bB' e3 rroot' b1' hout hg hx e8
              have eu : u = u1 := by
                -- the path's cells are framed
                have := R.at_frame z.sg z.Lg z'.sg z'.Lg xx.n rroot (z.nd i) hgf p hg hx
                rw [q2, e9] at this
                exact Option.some.inj this.symm
              subst eu
              refine bmW_ok e7 z'.sg z'.Lg rx1 r f nd1 fun q c B' t hq _ f1 r1 e10 q6 => ?_
              obtain ⟨A2, z2⟩ := kk q c B' hq f1 r1
              obtain ⟨rw_, ro⟩ := rr
              cases e10
              exact hh s' _ A2 t Ext.refl z2 (rlV.of_sh q6)
            · exact hh.elim
          · exact hh.elim
        · exact h.elim
  · refine ho ω s g F L env A _ Xp z (Kg.bind h fun x ω' _ s' g' A' v xx z' rl hh => ?_)
    obtain ⟨fx, B, bB, rx⟩ := rl
    split at hh
    · rename_i hl
      obtain ⟨xs0, o0, e2⟩ := isLst_some hl
      cases e2
      refine ⟨?_, ?_⟩
      · obtain ⟨a, us, e3, e4, _⟩ := rx.sh z'.sg z'.Lg (free_full fx)
        exact .inl ⟨bT, us, .inl ⟨a, e3, e4⟩⟩
      refine hv ω' s' g' (addS F g' B) L env A' _ Xp (z'.frame bB) (Kg.bindF rx.dom bB z'.LF hh fun ps ω2 _ s2 g2 A2 us x2 z2 b2 hg _ rl2 h3 => ?_)
      obtain ⟨f, C, bC, r⟩ := rl2
      obtain ⟨bC', hout⟩ := bC.mono_F rx.dom bB.hF
      have rx2 := rx.mono x2.n Sub.refl hg
      split at h3
      · rename_i w e7
        have bx : Bo s2 g2 L (.lst xs0, o0) v := ⟨free_full fx, B, rx2⟩
        have := bmQ_ok (Po := Po) e7 (bx.sh z2.sg z2.Lg) ((Rl.bos f r).sh z2.sg z2.Lg) fun u q => ok_sh h3 z2 (Bo.of_pure (bmQ_ok (Po := fun _ _ => True) e7 (bx.sh z2.sg z2.Lg) ((Rl.bos f r).sh z2.sg z2.Lg) fun _ _ => trivial).2 q)
        exact this.1
      · split at h3
        · rename_i x' rr e7
          refine bmW_ok e7 z2.sg z2.Lg rx2 r f (nodup_mk b2.nd bC'.nd fun a h1 h2 => hout a h2 h1) fun q c B' t hq _ f1 r1 e10 q6 => ?_
          have z3 := z2.chg (c := c) (b2.hs q hq) (b2.hF q hq) fun k h => b2.dj k q hq h
          obtain ⟨rw_, ro⟩ := rr
          cases e10
          exact h3 s2 _ A2 t Ext.refl z3 (rlV.of_sh q6)
        · exact h3.elim
    · exact hh.elim
end
end MP
set_option Elab.async false
set_option linter.all false
set_option maxRecDepth 100000
/-! EV, part 17: walks. -/
namespace MP
open PySem PySem.Spec PyProof.Rows L2
/-- how a walk ends: the slot's list is its own again -/
structure WExit (s s1 F F1 : Gp) (L L1 : Lt) (u : Option Nat) (env : Env) (l : Lk) : Prop where
  ok : ∀ {s2 g2 : Gp} {ω2 : En} {env2 : Env} {A2 : Ft} {Q : Gp → Prop}, Ext s1 s2 → Z s2 g2 F1 L1 ω2 env2 A2 → (∀ i, u = some i → env2[i]? = env[i]?) →
    (∀ ω3 s3 g3 A3, unlk u ω2 = some ω3 → Ext s s3 → ExtN s2 s3 → Z s3 g3 F L ω3 env2 A3 → (∀ B, Bz s2 F1 A2 B → (∀ a ∈ B, g3 a = g2 a) ∧ Bz s3 F A3 B) → Q g3) → (unlk u ω2).isSome = true → exG l g2 Q
  ex : ∀ {s2 g2 : Gp} {ω2 : En} {env2 : Env} {A2 : Ft}, Ext s1 s2 → Z s2 g2 F1 L1 ω2 env2 A2 → (∀ i, u = some i → env2[i]? = env[i]?) → ∀ ω3, unlkX u ω2 = some ω3 → ∃ s3 A3, Ext s s3 ∧ ExtN s2 s3 ∧ Z s3 g2 F L ω3 env2 A3
/-- a walk's beginning -/
structure Wk1 (s g1 F : Gp) (L : Lt) (ω' : En) (env : Env) (xs : List W) (u : Option Nat) (vs : List Vl) (chk : Gp → Prop) (l : Lk) : Prop where
  ex : ∃ s1 F1 L1 A1, Ext s s1 ∧ Z s1 g1 F1 L1 ω' env A1 ∧ Shs s1 xs vs ∧ (∀ s2 g2, Ext s1 s2 → Sub s2 g2 → Sub F1 g2 → chk g2) ∧ WExit s s1 F F1 L L1 u env l
section
variable {s g F : Gp} {L : Lt} {ω ω' : En} {env : Env} {A : Ft} {B C : List Addr}
theorem Bz.lift {s s2 : Gp} {F : Gp} {A : Ft} (b : Bz s2 F A B) : Bz s2 F A B := b
/-- nothing is locked -/
theorem wexit_none {s1 : Gp} (x : Ext s s1) : WExit s s1 F F L L none env none where
  ok := fun {s2 g2 ω2 env2 A2 Q} x2 z _ k _ => k ω2 s2 g2 A2 rfl (x.trans x2) Ext.refl.n z fun B b => ⟨fun _ _ => rfl, b⟩
  ex := fun {s2 g2 ω2 env2 A2} x2 z _ ω3 e => by
    cases e
    exact ⟨s2, A2, x.trans x2, Ext.refl.n, z⟩
/-- a value at hand is walked: its cells are in the frame -/
theorem wexit_tmp {s1 : Gp} (x : Ext s s1) (hB : ∀ a ∈ B, ∃ c, g a = some c) (b : Bz s1 F A B) (LF : SubL L F) : WExit s s1 F (addS F g B) L L none env none where
  ok := fun {s2 g2 ω2 env2 A2 Q} x2 z _ k _ => by
    have un : ∀ {A2 : Ft}, Z s2 g2 (addS F g B) L ω2 env2 A2 → Z s2 g2 F L ω2 env2 A2 := fun {A2} z => by
      have sub : Sub F (addS F g B) := addS_sub b.hF
      refine ⟨z.len, z.val, z.nd, z.dj, z.hs, fun i a ha => ?_, z.sg, sub.trans z.Fg, LF, fun a c e => ?_⟩
      · have h := z.hF i a ha
        cases e2 : F a with
        | none => rfl
        | some d => rw [sub a d e2] at h; cases h
      · have h := z.sF a c e
        cases e2 : F a with
        | none => rfl
        | some d => rw [sub a d e2] at h; cases h
    refine k ω2 s2 g2 A2 rfl (x.trans x2) Ext.refl.n (un z) fun C c => ⟨fun _ _ => rfl, c.nd, c.dj, c.hs, fun a ha => ?_⟩
    have h := c.hF a ha
    cases e2 : F a with
    | none => rfl
    | some d => rw [addS_sub b.hF a d e2] at h; cases h
  ex := fun {s2 g2 ω2 env2 A2} x2 z _ ω3 e => by
    cases e
    have sub : Sub F (addS F g B) := addS_sub b.hF
    refine ⟨s2, A2, x.trans x2, Ext.refl.n, z.len, z.val, z.nd, z.dj, z.hs, fun i a ha => ?_, z.sg, sub.trans z.Fg, LF, fun a c e => ?_⟩
    · have h := z.hF i a ha
      cases e2 : F a with
      | none => rfl
      | some d => rw [sub a d e2] at h; cases h
    · have h := z.sF a c e
      cases e2 : F a with
      | none => rfl
      | some d => rw [sub a d e2] at h; cases h
theorem ext_lock {d : Addr} {t : LTok} {kvs : List (Key × Vl)} (h : s d = some (.dct kvs)) : Ext s (gup s d (.lk t kvs)) := fun a c e => by
  by_cases ha : a = d
  · subst ha
    rw [h] at e
    cases e
    exact .inr ⟨t, kvs, rfl, gup_same⟩
  · exact .inl (by rw [gup_ne ha]; exact e)
theorem extn_unlock {d : Addr} {t : LTok} {kvs : List (Key × Vl)} (h : s d = some (.lk t kvs)) : ExtN s (gup s d (.dct kvs)) := fun a => by
  by_cases ha : a = d
  · subst ha
    refine ⟨fun xs e => (by rw [h] at e; cases e), fun c fs e => (by rw [h] at e; cases e), fun k2 e => ?_⟩
    rcases e with e | ⟨t', e⟩
    · rw [h] at e; cases e
    · rw [h] at e
      cases e
      exact .inl gup_same
  · refine ⟨fun xs e => (by rw [gup_ne ha]; exact e), fun c fs e => (by rw [gup_ne ha]; exact e), fun k2 e => ?_⟩
    rcases e with e | ⟨t', e⟩
    · exact .inl (by rw [gup_ne ha]; exact e)
    · exact .inr ⟨t', by rw [gup_ne ha]; exact e⟩
theorem R.extn {s' : Gp} {o : O} {w : W} {v : Vl} (h : ExtN s s') (r : R s g L o w v B) : R s' g L o w v B := r.mono h Sub.refl fun _ _ => rfl
/-- a shared dict's cell is changed in the shared cells and in the cells -/
theorem Z.relock {d : Addr} {c : Cl} (z : Z s g F L ω env A) (hd : s d ≠ none) (hx : ExtN s (MP.gup s d c)) : Z (MP.gup s d c) (MP.gup g d c) F L ω env A where
  len := z.len
  val i w o e := by
    obtain ⟨v, e1, r⟩ := z.val i w o e
    refine ⟨v, e1, r.mono hx Sub.refl fun a ha => gup_ne ?_⟩
    rintro rfl
    exact hd (z.hs i a ha)
  nd := z.nd
  dj := z.dj
  hs i a ha := by
    rw [gup_ne]
    · exact z.hs i a ha
    · rintro rfl
      exact hd (z.hs i a ha)
  hF := z.hF
  sg a e h := by
    by_cases ha : a = d
    · subst ha
      rw [gup_same] at h ⊢
      exact h
    · rw [gup_ne ha] at h ⊢
      exact z.sg a e h
  Fg a e h := by
    rw [gup_ne]
    · exact z.Fg a e h
    · rintro rfl
      cases e2 : s a with
      | none => exact hd e2
      | some c => rw [z.sF a c e2] at h; cases h
  LF := z.LF
  sF a e h := by
    by_cases ha : a = d
    · subst ha
      cases e2 : s a with
      | none => exact absurd e2 hd
      | some c => exact z.sF a c e2
    · rw [gup_ne ha] at h
      exact z.sF a e h
/-- a shared dict is locked -/
theorem wexit_shd {d : Addr} {t : LTok} {kvs : List (Key × Vl)} (h : s d = some (.dct kvs)) : WExit s (gup s d (.lk t kvs)) F F L L none env (some (d, t, kvs)) where
  ok := fun {s2 g2 ω2 env2 A2 Q} x2 z _ k _ => by
    have hd : s2 d = some (.lk t kvs) := by
      rcases x2 d _ gup_same with e | ⟨_, _, e, _⟩
      · exact e
      · cases e
    have hn : s2 d ≠ none := by rw [hd]; exact fun e => by cases e
    refine ⟨z.sg _ _ hd, k ω2 _ _ A2 rfl (fun a c e => ?_) (extn_unlock hd) (z.relock hn (extn_unlock hd)) fun B b => ⟨fun a ha => gup_ne ?_, b.nd, b.dj, fun a ha => ?_, b.hF⟩⟩
    · by_cases ha : a = d
      · subst ha
        rw [h] at e
        cases e
        exact .inl gup_same
      · rw [gup_ne ha]
        exact x2 a c (by rw [gup_ne ha]; exact e)
    · rintro rfl
      exact hn (b.hs a ha)
    · rw [gup_ne]
      · exact b.hs a ha
      · rintro rfl
        exact hn (b.hs a ha)
  ex := fun {s2 g2 ω2 env2 A2} x2 z _ ω3 e => by
    cases e
    exact ⟨s2, A2, (ext_lock h).trans x2, Ext.refl.n, z⟩
/-! ### a slot's own container -/
mutual
theorem R.nolk {L L' : Lt} {i : Nat} (h : ∀ j, j ≠ i → L' j = L j) : ∀ {o : O} {w : W} {v : Vl} {B : List Addr}, o.nolk i = true → R s g L o w v B → R s g L' o w v B
  | .sh, w, v, B, _, r => r
  | .lk j, w, v, B, n, r => by
    have hj : j ≠ i := by
      have n : (j != i) = true := n
      simpa using n
    refine ⟨r.1, ?_⟩
    have r2 := r.2
    cases w with
    | lst xs =>
      obtain ⟨a, vs, e, q, q2⟩ := r2
      exact ⟨a, vs, e, (h j hj).trans q, q2⟩
    | dct ks xs =>
      obtain ⟨a, t, kvs, e, q, q2⟩ := r2
      exact ⟨a, t, kvs, e, (h j hj).trans q, q2⟩
    | _ => exact r2
  | .hole, w, v, B, _, r => r
  | .tp cs, w, v, B, n, r => by
    cases w with
    | tup xs =>
      obtain ⟨vs, e, q⟩ := r
      exact ⟨vs, e, Rl.nolk h (show O.nolks i cs = true from n) q⟩
    | _ => exact r
  | .ow cs, w, v, B, n, r => by
    cases w with
    | lst xs =>
      obtain ⟨a, vs, B1, e, eB, q, q2⟩ := r
      exact ⟨a, vs, B1, e, eB, q, Rl.nolk h (show O.nolks i cs = true from n) q2⟩
    | dct ks xs =>
      obtain ⟨a, vs, B1, e, eB, q, q1, q2⟩ := r
      exact ⟨a, vs, B1, e, eB, q, q1, Rl.nolk h (show O.nolks i cs = true from n) q2⟩
    | ins c fs xs =>
      obtain ⟨a, vs, B1, e, eB, q, q1, q2⟩ := r
      exact ⟨a, vs, B1, e, eB, q, q1, Rl.nolk h (show O.nolks i cs = true from n) q2⟩
    | _ => exact r
theorem Rl.nolk {L L' : Lt} {i : Nat} (h : ∀ j, j ≠ i → L' j = L j) : ∀ {o : List O} {w : List W} {v : List Vl} {B : List Addr}, O.nolks i o = true → Rl s g L o w v B → Rl s g L' o w v B
  | [], w, v, B, _, r => r
  | o :: os, w, v, B, n, r => by
    obtain ⟨w1, ws', v1, vs', A1, A2, e1, e2, e3, q, q2⟩ := r
    obtain ⟨h1, h2⟩ := band (show (o.nolk i && O.nolks i os) = true from n)
    exact ⟨w1, ws', v1, vs', A1, A2, e1, e2, e3, R.nolk h h1 q, Rl.nolk h h2 q2⟩
end
theorem nolkE_get {i j : Nat} {w : W} {o : O} (h : nolkE i ω = true) (e : ω[j]? = some (some (w, o))) : o.nolk i = true := by
  unfold nolkE at h
  exact List.all_eq_true.mp h _ (List.mem_of_getElem? e)
def lkUp (L : Lt) (i : Nat) (p : Addr) (c : Cl) : Lt := fun j => if j = i then some (p, c) else L j
theorem lkUp_same {i : Nat} {p : Addr} {c : Cl} : lkUp L i p c i = some (p, c) := if_pos rfl
theorem lkUp_ne {i j : Nat} {p : Addr} {c : Cl} (h : j ≠ i) : lkUp L i p c j = L j := if_neg h
/-- the slot's state with the lock on, once the slot itself is out -/
theorem Z.lock0 {i : Nat} {p : Addr} {c c' : Cl} (z : Z s g F L ω env A) (hn : nolkE i ω = true) (hs : s p = none) (hF : F p = none) (hA : ∀ j, p ∉ A j) : Z s (MP.gup g p c') (MP.gup F p c') (lkUp L i p c') ω env A := by
  have out : ∀ j, ∀ a ∈ A j, a ≠ p := fun j a ha => by
    rintro rfl
    exact hA j ha
  refine ⟨z.len, fun j w1 o1 e1 => ?_, z.nd, z.dj, z.hs, fun j a ha => ?_, fun a d h => ?_, fun a d h => ?_, fun j a d h => ?_, fun a d h => ?_⟩
  · obtain ⟨v, e2, r⟩ := z.val j w1 o1 e1
    have r1 : R s (MP.gup g p c') L o1 w1 v (A j) := r.mono Ext.refl.n Sub.refl fun a ha => gup_ne (out j a ha)
    exact ⟨v, e2, R.nolk (fun k hk => lkUp_ne hk) (nolkE_get hn e1) r1⟩
  · rw [gup_ne (out j a ha)]
    exact z.hF j a ha
  · rw [gup_ne]
    · exact z.sg a d h
    · rintro rfl
      rw [hs] at h
      cases h
  · by_cases ha : a = p
    · subst ha
      rw [gup_same] at h ⊢
      exact h
    · rw [gup_ne ha] at h ⊢
      exact z.Fg a d h
  · by_cases hj : j = i
    · subst hj
      rw [lkUp_same] at h
      cases h
      exact gup_same
    · rw [lkUp_ne hj] at h
      have := z.LF j a d h
      rw [gup_ne]
      · exact this
      · rintro rfl
        rw [hF] at this
        cases this
  · rw [gup_ne]
    · exact z.sF a d h
    · rintro rfl
      rw [hs] at h
      cases h
theorem nolkE_set {i j : Nat} {x : Option (W × O)} (h : nolkE i ω = true) (hx : (match x with | some (_, o) => o.nolk i | none => true) = true) : nolkE i (ω.set j x) = true := by
  unfold nolkE at *
  refine List.all_eq_true.mpr fun y hy => ?_
  rcases List.mem_or_eq_of_mem_set hy with h1 | h1
  · exact List.all_eq_true.mp h y h1
  · subst h1
    exact hx
/-- .. off again -/
theorem Z.unlock0 {s2 g2 : Gp} {ω2 : En} {env2 : Env} {A2 : Ft} {i : Nat} {p : Addr} {c' : Cl} (z : Z s2 g2 (MP.gup F p c') (lkUp L i p c') ω2 env2 A2) (hn : nolkE i ω2 = true) (hF : F p = none) (LF : SubL L F) : Z s2 g2 F L ω2 env2 A2 ∧ s2 p = none ∧ ∀ j, p ∉ A2 j := by
  have hF1 : (MP.gup F p c') p = some c' := gup_same
  have hsp : s2 p = none := by
    cases e : s2 p with
    | none => rfl
    | some d =>
      have := z.sF p d e
      rw [hF1] at this
      cases this
  have hAp : ∀ j, p ∉ A2 j := fun j h => by
    have := z.hF j p h
    rw [hF1] at this
    cases this
  have sub : Sub F (MP.gup F p c') := fun a d e => by
    rw [gup_ne]
    · exact e
    · rintro rfl
      rw [hF] at e
      cases e
  refine ⟨⟨z.len, fun j w1 o1 e1 => ?_, z.nd, z.dj, z.hs, fun j a ha => ?_, z.sg, sub.trans z.Fg, LF, fun a d h => ?_⟩, hsp, hAp⟩
  · obtain ⟨v, e2, r⟩ := z.val j w1 o1 e1
    exact ⟨v, e2, R.nolk (fun k hk => (lkUp_ne hk).symm) (nolkE_get hn e1) r⟩
  · have := z.hF j a ha
    rw [gup_ne] at this
    · exact this
    · rintro rfl
      exact hAp j ha
  · have := z.sF a d h
    rw [gup_ne] at this
    · exact this
    · rintro rfl
      rw [hsp] at h
      cases h
end
end MP
set_option Elab.async false
set_option linter.all false
set_option maxRecDepth 100000
/-! EV, part 18: walks of slots, of values. -/
namespace MP
open PySem PySem.Spec PyProof.Rows L2
section
variable {s g F : Gp} {L : Lt} {ω ω' : En} {env : Env} {A : Ft} {B C : List Addr}
theorem set_none_set {i : Nat} {x : Option (W × O)} : (ω.set i x).set i none = ω.set i none := by simp
theorem slot_get {i : Nat} {x : W × O} (e : slot ω i = some x) : ω[i]? = some (some x) := slot_some e
/-- the slot gets back what it was, in whatever form the lock left it -/
theorem unlk_core {s2 g2 g3 s3 : Gp} {ω2 ω3 : En} {env2 : Env} {A2 : Ft} {i : Nat} {p : Addr} {c' : Cl} {o : O} (z : Z s2 g2 (gup F p c') (lkUp L i p c') ω2 env2 A2) (hv : env2[i]? = some (some (.ref p))) (hF : F p = none) (LF : SubL L F)
    (e : chkN i (unlkS i o ω2) = some ω3)
    (plain : ∀ {ω : En} {A : Ft}, Z s2 g2 F L ω env2 A → s2 p = none → (∀ j, p ∉ A j) → ∃ A3, Z s3 g3 F L ω env2 A3 ∧ (∀ j a, a ∈ A3 j → a ∈ A j) ∧ ∀ w, R s2 g2 (lkUp L i p c') (.lk i) w (.ref p) [] → ∃ D, R s3 g3 L o w (.ref p) D ∧ Bz s3 F A3 D ∧ ∀ a ∈ D, a = p) :
    ∃ A3, Z s3 g3 F L ω3 env2 A3 ∧ ∀ j a, a ∈ A3 j → a ∈ A2 j ∨ a = p := by
  unfold chkN at e
  split at e
  · rename_i hn
    cases e
    unfold unlkS at hn ⊢
    split
    · rename_i w j es
      rw [es] at hn
      simp only at hn ⊢
      split
      · rename_i hj
        rw [if_pos hj] at hn
        subst hj
        have e1 := slot_get es
        obtain ⟨v, e2, r⟩ := z.val j w (.lk j) e1
        rw [hv] at e2
        cases e2
        obtain ⟨z1, b1⟩ := z.take (i := j)
        have hn1 : nolkE j (ω2.set j none) = true := by
          have := nolkE_set (j := j) (x := none) hn rfl
          rwa [set_none_set] at this
        obtain ⟨z2, h1, h2⟩ := z1.unlock0 hn1 hF LF
        obtain ⟨A3, z3, hA, hw⟩ := plain z2 h1 h2
        have r0 : R s2 g2 (lkUp L j p c') (.lk j) w (.ref p) [] := ⟨rfl, r.2⟩
        obtain ⟨D, r1, bD, hD⟩ := hw w r0
        have z4 := z3.back hv bD r1
        have ew : (ω2.set j none).set j (some (w, o)) = ω2.set j (some (w, o)) := by simp
        rw [ew] at z4
        refine ⟨_, z4, fun k a ha => ?_⟩
        by_cases hk : k = j
        · subst hk
          rw [fup_same] at ha
          exact .inr (hD a ha)
        · rw [fup_ne hk] at ha
          have := hA k a ha
          rw [fup_ne hk] at this
          exact .inl this
      · rename_i hj
        rw [if_neg hj] at hn
        obtain ⟨z2, h1, h2⟩ := z.unlock0 hn hF LF
        obtain ⟨A3, z3, hA, _⟩ := plain z2 h1 h2
        exact ⟨A3, z3, fun k a ha => .inl (hA k a ha)⟩
    · rename_i hne
      have hn : nolkE i ω2 = true := by
        split at hn
        · rename_i w j es
          exact absurd es (hne w j)
        · exact hn
      obtain ⟨z2, h1, h2⟩ := z.unlock0 hn hF LF
      obtain ⟨A3, z3, hA, _⟩ := plain z2 h1 h2
      exact ⟨A3, z3, fun k a ha => .inl (hA k a ha)⟩
  · cases e
theorem bz_out {s2 s3 : Gp} {A2 A3 : Ft} {p : Addr} {c' : Cl} (b : Bz s2 (gup F p c') A2 B) (hF : F p = none) (hs : ∀ a, a ≠ p → s3 a = s2 a) (hA : ∀ j a, a ∈ A3 j → a ∈ A2 j ∨ a = p) : p ∉ B ∧ Bz s3 F A3 B := by
  have hp : p ∉ B := fun h => by
    have := b.hF p h
    rw [gup_same] at this
    cases this
  have ne : ∀ a ∈ B, a ≠ p := fun a ha => by
    rintro rfl
    exact hp ha
  refine ⟨hp, b.nd, fun j a ha h => ?_, fun a ha => ?_, fun a ha => ?_⟩
  · rcases hA j a h with h | h
    · exact b.dj j a ha h
    · exact ne a ha h
  · rw [hs a (ne a ha)]
    exact b.hs a ha
  · have := b.hF a ha
    rwa [gup_ne (ne a ha)] at this
theorem ownA {w : W} {v : Vl} {i : Nat} (h : isCon w = true) (r : R s g L (.ow []) w v (A i)) : ∃ p, v = .ref p ∧ A i = [p] ∧ ((∃ xs vs, w = .lst xs ∧ g p = some (.lst vs) ∧ Shs s xs vs) ∨ ∃ ks xs kvs, w = .dct ks xs ∧ g p = some (.dct kvs) ∧ kvs.map Prod.fst = ks ∧ Shs s xs (kvs.map Prod.snd)) := by
  cases w <;> first | (cases h; done) | skip
  · obtain ⟨p, vs, B1, e1, e2, e3, e4, e5⟩ := r
    subst e4
    exact ⟨p, e1, e2, .inl ⟨_, vs, rfl, e3, e5⟩⟩
  · obtain ⟨p, kvs, B1, e1, e2, e3, e6, e4, e5⟩ := r
    subst e4
    exact ⟨p, e1, e2, .inr ⟨_, _, kvs, rfl, e3, e6, e5⟩⟩
theorem gup_id {p : Addr} {c : Cl} (h : g p = some c) : gup g p c = g := by
  funext a
  by_cases ha : a = p
  · subst ha; rw [gup_same, h]
  · rw [gup_ne ha]
/-- a slot's own list is walked -/
theorem lock_lst {i : Nat} {xs : List W} {p : Addr} {vs : List Vl} (z : Z s g F L ω env A) (e : slot ω i = some (.lst xs, .ow [])) (hn : nolkE i ω = true) (hv : env[i]? = some (some (.ref p))) (hA : A i = [p]) (hg : g p = some (.lst vs)) (q : Shs s xs vs) :
    (∃ A1, Z s g (gup F p (.lst vs)) (lkUp L i p (.lst vs)) (ω.set i (some (.lst xs, .lk i))) env A1) ∧ WExit s s F (gup F p (.lst vs)) L (lkUp L i p (.lst vs)) (some i) env none := by
  have hpi : p ∈ A i := by rw [hA]; simp
  have hs := z.hs i p hpi
  have hF := z.hF i p hpi
  have key : ∀ {s2 g2 : Gp} {ω2 : En} {env2 : Env} {A2 : Ft}, Z s2 g2 (gup F p (.lst vs)) (lkUp L i p (.lst vs)) ω2 env2 A2 → env2[i]? = some (some (.ref p)) → ∀ ω3, chkN i (unlkS i (.ow []) ω2) = some ω3 → ∃ A3, Z s2 g2 F L ω3 env2 A3 ∧ ∀ j a, a ∈ A3 j → a ∈ A2 j ∨ a = p := by
    intro s2 g2 ω2 env2 A2 z2 hv2 ω3 e3
    refine unlk_core z2 hv2 hF z.LF e3 fun {ω A} z3 h1 h2 => ⟨A, z3, fun _ _ h => h, fun w r => ?_⟩
    have hg2 : g2 p = some (.lst vs) := z2.Fg _ _ gup_same
    have r2 := r.2
    cases w with
    | lst ys =>
      obtain ⟨a, us, e4, e5, e6⟩ := r2
      rw [lkUp_same] at e5
      cases e5
      exact ⟨[p], ⟨p, vs, [], rfl, rfl, hg2, rfl, e6⟩, ⟨by simp, fun j a ha => by cases List.mem_singleton.mp ha; exact h2 j, fun a ha => by cases List.mem_singleton.mp ha; exact h1, fun a ha => by cases List.mem_singleton.mp ha; exact hF⟩, fun a ha => List.mem_singleton.mp ha⟩
    | dct ks ys =>
      obtain ⟨a, t, us, e4, e5, e6⟩ := r2
      rw [lkUp_same] at e5
      cases e5
    | _ => exact r2.elim
  refine ⟨?_, ⟨fun {s2 g2 ω2 env2 A2 Q} x2 z2 hv2 k hsome => ?_, fun {s2 g2 ω2 env2 A2} x2 z2 hv2 ω3 e3 => ?_⟩⟩
  · obtain ⟨z1, b1⟩ := z.take (i := i)
    have z2 := z1.lock0 (c := .lst vs) (c' := .lst vs) (i := i) (nolkE_set hn rfl) hs hF fun j h => b1.dj j p hpi h
    rw [gup_id hg] at z2
    have z3 := z2.back hv (B := []) (o := .lk i) (w := .lst xs) Bz.nil ⟨rfl, p, vs, rfl, lkUp_same, q⟩
    have ew : (ω.set i none).set i (some (W.lst xs, O.lk i)) = ω.set i (some (.lst xs, .lk i)) := by simp
    rw [ew] at z3
    exact ⟨_, z3⟩
  · obtain ⟨ω3, e3⟩ := Option.isSome_iff_exists.mp hsome
    obtain ⟨A3, z3, hA3⟩ := key z2 ((hv2 i rfl).trans hv) ω3 e3
    exact k ω3 s2 g2 A3 e3 x2 Ext.refl.n z3 fun B b => ⟨fun _ _ => rfl, (bz_out b hF (fun _ _ => rfl) hA3).2⟩
  · have e3 : chkN i (match slot ω2 i with
      | some (.dct _ _, _) => unlkS i .sh ω2
      | _ => unlkS i (.ow []) ω2) = some ω3 := e3
    split at e3
    · rename_i ks ys oo es
      -- a dict cannot be what was locked
      have ed : unlkS i .sh ω2 = unlkS i (.ow []) ω2 := by
        unfold unlkS
        rw [es]
        cases oo with
        | lk j =>
          by_cases hj : j = i
          · exfalso
            subst hj
            obtain ⟨v, e2, r⟩ := z2.val j _ _ (slot_get es)
            obtain ⟨_, a, t, us, e4, e5, e6⟩ := r
            rw [lkUp_same] at e5
            cases e5
          · simp only [if_neg hj]
        | _ => rfl
      rw [ed] at e3
      obtain ⟨A3, z3, _⟩ := key z2 ((hv2 i rfl).trans hv) ω3 e3
      exact ⟨s2, A3, x2, Ext.refl.n, z3⟩
    · obtain ⟨A3, z3, _⟩ := key z2 ((hv2 i rfl).trans hv) ω3 e3
      exact ⟨s2, A3, x2, Ext.refl.n, z3⟩
/-- a slot's own dict is walked -/
theorem lock_dct {i : Nat} {ks : List Key} {xs : List W} {p : Addr} {kvs : List (Key × Vl)} {t : LTok} (z : Z s g F L ω env A) (e : slot ω i = some (.dct ks xs, .ow [])) (hn : nolkE i ω = true) (hv : env[i]? = some (some (.ref p))) (hA : A i = [p]) (hg : g p = some (.dct kvs)) (hk : kvs.map Prod.fst = ks) (q : Shs s xs (kvs.map Prod.snd)) :
    (∃ A1, Z s (gup g p (.lk t kvs)) (gup F p (.lk t kvs)) (lkUp L i p (.lk t kvs)) (ω.set i (some (.dct ks xs, .lk i))) env A1) ∧ WExit s s F (gup F p (.lk t kvs)) L (lkUp L i p (.lk t kvs)) (some i) env (some (p, t, kvs)) := by
  have hpi : p ∈ A i := by rw [hA]; simp
  have hs := z.hs i p hpi
  have hF := z.hF i p hpi
  refine ⟨?_, ⟨fun {s2 g2 ω2 env2 A2 Q} x2 z2 hv2 k hsome => ?_, fun {s2 g2 ω2 env2 A2} x2 z2 hv2 ω3 e3 => ?_⟩⟩
  · obtain ⟨z1, b1⟩ := z.take (i := i)
    have z2 := z1.lock0 (c := .dct kvs) (c' := .lk t kvs) (i := i) (nolkE_set hn rfl) hs hF fun j h => b1.dj j p hpi h
    have z3 := z2.back hv (B := []) (o := .lk i) (w := .dct ks xs) Bz.nil ⟨rfl, p, t, kvs, rfl, lkUp_same, hk, q⟩
    have ew : (ω.set i none).set i (some (W.dct ks xs, O.lk i)) = ω.set i (some (.dct ks xs, .lk i)) := by simp
    rw [ew] at z3
    exact ⟨_, z3⟩
  · obtain ⟨ω3, e3⟩ := Option.isSome_iff_exists.mp hsome
    have hg2 : g2 p = some (.lk t kvs) := z2.Fg _ _ gup_same
    refine ⟨hg2, ?_⟩
    have e3' : chkN i (unlkS i (.ow []) ω2) = some ω3 := e3
    obtain ⟨A3, z3, hA3⟩ := unlk_core (s3 := s2) (g3 := gup g2 p (.dct kvs)) z2 ((hv2 i rfl).trans hv) hF z.LF e3' fun {ω A} z3 h1 h2 => ⟨A, z3.chg h1 hF h2, fun _ _ h => h, fun w r => by
      have r2 := r.2
      cases w with
      | dct ks2 ys =>
        obtain ⟨a, t2, us, e4, e5, e6, e7⟩ := r2
        rw [lkUp_same] at e5
        cases e5
        exact ⟨[p], ⟨p, kvs, [], rfl, rfl, gup_same, e6, rfl, e7⟩, ⟨by simp, fun j a ha => by cases List.mem_singleton.mp ha; exact h2 j, fun a ha => by cases List.mem_singleton.mp ha; exact h1, fun a ha => by cases List.mem_singleton.mp ha; exact hF⟩, fun a ha => List.mem_singleton.mp ha⟩
      | lst ys =>
        obtain ⟨a, us, e4, e5, e6⟩ := r2
        rw [lkUp_same] at e5
        cases e5
      | _ => exact r2.elim⟩
    refine k ω3 s2 _ A3 e3 x2 Ext.refl.n z3 fun B b => ?_
    obtain ⟨h1, h2⟩ := bz_out b hF (fun _ _ => rfl) hA3
    exact ⟨fun a ha => gup_ne (by rintro rfl; exact h1 ha), h2⟩
  · have hg2 : g2 p = some (.lk t kvs) := z2.Fg _ _ gup_same
    have e3 : chkN i (match slot ω2 i with
      | some (.dct _ _, _) => unlkS i .sh ω2
      | _ => unlkS i (.ow []) ω2) = some ω3 := e3
    have key : ∀ ω3, chkN i (unlkS i .sh ω2) = some ω3 → ∃ s3 A3, Ext s s3 ∧ ExtN s2 s3 ∧ Z s3 g2 F L ω3 env2 A3 := by
      intro ω3 e3
      have hs2 : s2 p = none := by
        cases e4 : s2 p with
        | none => rfl
        | some d =>
          have := z2.sF p d e4
          rw [gup_same] at this
          cases this
      have sub : Sub s2 (addS s2 g2 [p]) := addS_sub fun a ha => by cases List.mem_singleton.mp ha; exact hs2
      obtain ⟨A3, z3, hA3⟩ := unlk_core (s3 := addS s2 g2 [p]) (g3 := g2) z2 ((hv2 i rfl).trans hv) hF z.LF e3 fun {ω A} z3 h1 h2 => by
        have b : Bz s2 F A [p] := ⟨by simp, fun j a ha => by cases List.mem_singleton.mp ha; exact h2 j, fun a ha => by cases List.mem_singleton.mp ha; exact h1, fun a ha => by cases List.mem_singleton.mp ha; exact hF⟩
        refine ⟨A, z3.share b, fun _ _ h => h, fun w r => ?_⟩
        have r2 := r.2
        cases w with
        | dct ks2 ys =>
          obtain ⟨a, t2, us, e4, e5, e6, e7⟩ := r2
          rw [lkUp_same] at e5
          cases e5
          cases e4
          exact ⟨[], ⟨rfl, p, kvs, rfl, .inr ⟨t, by rw [addS_in (by simp)]; exact hg2⟩, e6, e7.mono sub.ext.n⟩, Bz.nil, fun _ h => by simp at h⟩
        | lst ys =>
          obtain ⟨a, us, e4, e5, e6⟩ := r2
          rw [lkUp_same] at e5
          cases e5
        | _ => exact r2.elim
      exact ⟨_, A3, x2.trans sub.ext, sub.ext.n, z3⟩
    split at e3
    · exact key ω3 e3
    · rename_i hne
      have ed : unlkS i (.ow []) ω2 = unlkS i .sh ω2 := by
        unfold unlkS
        cases es : slot ω2 i with
        | none => rfl
        | some x =>
          obtain ⟨w, oo⟩ := x
          cases oo with
          | lk j =>
            by_cases hj : j = i
            · exfalso
              subst hj
              obtain ⟨v, e2, r⟩ := z2.val j _ _ (slot_get es)
              cases w with
              | dct ks2 ys => exact hne _ _ _ es
              | lst ys =>
                obtain ⟨_, a, us, e4, e5, e6⟩ := r
                rw [lkUp_same] at e5
                cases e5
              | _ => exact r.2
            · simp only [if_neg hj]
          | _ => rfl
      rw [ed] at e3
      exact key ω3 e3
end
end MP
set_option Elab.async false
set_option linter.all false
set_option maxRecDepth 100000
/-! EV, part 19: what is walked. -/
namespace MP
open PySem PySem.Spec PyProof.Rows L2
/-- what is wanted behind a walk's beginning -/
def Kw (s F : Gp) (L : Lt) (env : Env) (r : Rr (List W × Option Nat)) (K : List Vl → (Gp → Prop) → Lk → Gp → Prop) (Xp : Xo) : Prop := match r with
  | .ok xu ω' => ∀ g1 vs chk l, Wk1 s g1 F L ω' env xu.1 xu.2 vs chk l → K vs chk l g1
  | .ex c fs ws ω' => ∀ s' g' A' fvs, Ext s s' → Z s' g' F L ω' env A' → fvs.map Prod.fst = fs → Shs s' ws (fvs.map Prod.snd) → Xp c fvs g'
  | .no => False
def SW (f : En → Rr (List W × Option Nat)) (w : WI) : Prop := ∀ (ω : En) (s g F : Gp) (L : Lt) (env : Env) (A : Ft) (K : List Vl → (Gp → Prop) → Lk → Gp → Prop) (Xp : Xo), Z s g F L ω env A → Kw s F L env (f ω) K Xp → w env g K Xp
def kF : Wt → Key × Vl → Vl
  | .keys => fun p => kL p.1
  | .vals => fun p => p.2
  | .items => fun p => .tup [kL p.1, p.2]
  | .seq => fun p => p.2
section
variable {P : Prog} {ΓC : Nat → Ct} {s g F : Gp} {L : Lt} {ω ω' : En} {env : Env} {A : Ft} {B C : List Addr} {Xp : Xo} {va : En → Rr (W × O)} {a : Ex}
theorem Wk1.mono {s0 g1 : Gp} {xs : List W} {u : Option Nat} {vs : List Vl} {chk : Gp → Prop} {l : Lk} (h : Wk1 s g1 F L ω' env xs u vs chk l) (x : Ext s0 s) : Wk1 s0 g1 F L ω' env xs u vs chk l := by
  obtain ⟨s1, F1, L1, A1, x1, z, q, c, w⟩ := h.ex
  refine ⟨s1, F1, L1, A1, x.trans x1, z, q, c, fun x2 z2 hv k hs => w.ok x2 z2 hv (fun ω3 s3 g3 A3 e x3 => k ω3 s3 g3 A3 e (x.trans x3)) hs, fun x2 z2 hv ω3 e => ?_⟩
  obtain ⟨s3, A3, h1, h2, h3⟩ := w.ex x2 z2 hv ω3 e
  exact ⟨s3, A3, x.trans h1, h2, h3⟩
theorem of_dct {k : Wt} {ks : List Key} {xs ys : List W} {kvs : List (Key × Vl)} (e : k.of (.dct ks xs) = some ys) (hk : kvs.map Prod.fst = ks) (q : Shs s xs (kvs.map Prod.snd)) : Shs s ys (kvs.map (kF k)) := by
  cases k with
  | seq => cases e
  | keys =>
    cases e
    subst hk
    have := shs_keys (h := s) (kvs.map Prod.fst)
    rw [List.map_map (f := Prod.fst) (g := kL)] at this
    exact this
  | vals => cases e; exact q
  | items =>
    cases e
    subst hk
    induction kvs generalizing xs with
    | nil => exact rfl
    | cons p r ih =>
      cases xs with
      | nil => cases (show (p :: r).map Prod.snd = [] from q)
      | cons x xs =>
        obtain ⟨y, yr, e1, q1, q2⟩ := q
        cases e1
        refine ⟨_, _, rfl, ⟨_, rfl, _, _, rfl, ?_, _, _, rfl, q1, rfl⟩, ih q2⟩
        cases p.1 <;> rfl
/-- a walk over a value at hand, or a shared one -/
theorem wk_seq {x : W × O} {v : Vl} {xs : List W} {K : List Vl → (Gp → Prop) → Lk → Gp → Prop} (z : Z s g F L ω env A) (f : x.2.full = true) (b : Bz s F A B) (r : R s g L x.2 x.1 v B) (hf : x.2.flat = true) (e : Wt.seq.of x.1 = some xs)
    (k : ∀ vs chk, Wk1 s g F L ω env xs none vs chk none → K vs chk none g) : (∃ ys, IsL g v ys ∧ K ys (fun g => IsL g v ys) none g) ∨ ∃ ys, v = .tup ys ∧ K ys (fun _ => True) none g := by
  obtain ⟨w, o⟩ := x
  have zf := z.frame b
  cases w <;> first | (cases e; done) | skip
  · rename_i ts
    cases e
    have q : ∃ vs, v = .tup vs ∧ Shs s xs vs := by
      cases o with
      | sh => exact r.2
      | tp cs =>
        cases cs with
        | nil =>
          obtain ⟨vs, e1, q⟩ := r
          exact ⟨vs, e1, q.2⟩
        | cons _ _ => cases hf
      | lk _ => exact r.2.elim
      | hole => cases f
      | ow cs => exact r.elim
    obtain ⟨vs, e1, q⟩ := q
    exact .inr ⟨vs, e1, k vs _ ⟨s, F, L, A, Ext.refl, z, q, fun _ _ _ _ _ => trivial, wexit_none Ext.refl⟩⟩
  · rename_i ts
    cases e
    obtain ⟨a, vs, e1, q⟩ := Bo.kl (s := s) (g := g) (L := L) ⟨f, B, r⟩
    exact .inl ⟨vs, .inr ⟨a, e1⟩, k vs _ ⟨s, F, L, A, Ext.refl, z, q, fun _ _ _ _ _ => .inr ⟨a, e1⟩, wexit_none Ext.refl⟩⟩
  · rename_i ts
    cases e
    obtain ⟨a, vs, e1, q1, q⟩ := Bo.lst (s := s) (g := g) (L := L) ⟨f, B, r⟩ hf z.sg z.Lg
    -- where it stands
    have place : s a = some (.lst vs) ∨ (∃ j, L j = some (a, .lst vs)) ∨ a ∈ B := by
      cases o with
      | sh =>
        obtain ⟨_, a', vs', e2, q2, q3⟩ := r
        rw [e1] at e2
        cases e2
        have := z.sg _ _ q2
        rw [q1] at this
        cases this
        exact .inl q2
      | lk j =>
        obtain ⟨_, a', vs', e2, q2, q3⟩ := r
        rw [e1] at e2
        cases e2
        have := z.Lg _ _ _ q2
        rw [q1] at this
        cases this
        exact .inr (.inl ⟨j, q2⟩)
      | ow cs =>
        obtain ⟨a', vs', B1, e2, e3, q2, q3⟩ := r
        rw [e1] at e2
        cases e2
        rw [e3]
        exact .inr (.inr List.mem_cons_self)
      | hole => cases f
      | tp cs => exact r.elim
    refine .inl ⟨vs, .inl ⟨a, e1, q1⟩, ?_⟩
    rcases place with h | ⟨j, h⟩ | h
    · refine k vs _ ⟨s, F, L, A, Ext.refl, z, q, fun s2 g2 x2 h1 h2 => .inl ⟨a, e1, ?_⟩, wexit_none Ext.refl⟩
      rcases x2 _ _ h with h3 | ⟨_, _, h3, _⟩
      · exact h1 _ _ h3
      · cases h3
    · exact k vs _ ⟨s, F, L, A, Ext.refl, z, q, fun s2 g2 x2 h1 h2 => .inl ⟨a, e1, h2 _ _ (z.LF _ _ _ h)⟩, wexit_none Ext.refl⟩
    · exact k vs _ ⟨s, addS F g B, L, A, Ext.refl, zf, q, fun s2 g2 x2 h1 h2 => .inl ⟨a, e1, h2 _ _ (by rw [addS_in h]; exact q1)⟩, wexit_tmp Ext.refl r.dom b z.LF⟩
/-- .. of a dict -/
theorem wk_dct {x : W × O} {v : Vl} {kk : Wt} {xs : List W} {K : List Vl → (Gp → Prop) → Lk → Gp → Prop} (z : Z s g F L ω env A) (f : x.2.full = true) (b : Bz s F A B) (r : R s g L x.2 x.1 v B) (hf : x.2.flat = true) (e : kk.of x.1 = some xs) (hk : kk ≠ .seq)
    (k : ∀ vs chk l g1, Wk1 s g1 F L ω env xs none vs chk l → K vs chk l g1) : ∃ d kvs, v = .ref d ∧
  ((g d = some (.dct kvs) ∧ ∀ t, K (kvs.map (kF kk)) (fun g => g d = some (.lk t kvs)) (some (d, t, kvs)) (gup g d (.lk t kvs))) ∨
    ∃ t, g d = some (.lk t kvs) ∧ K (kvs.map (kF kk)) (fun g => g d = some (.lk t kvs)) none g) := by
  obtain ⟨w, o⟩ := x
  cases w <;> first | (cases kk <;> first | exact absurd rfl hk | (cases e; done)) | skip
  rename_i ks ts
  cases o with
  | hole => cases f
  | tp cs => exact r.elim
  | sh =>
    obtain ⟨eB, d, kvs, e1, q1, q2, q3⟩ := r
    refine ⟨d, kvs, e1, ?_⟩
    rcases q1 with q1 | ⟨t, q1⟩
    · refine .inl ⟨z.sg _ _ q1, fun t => k _ _ _ _ ⟨gup s d (.lk t kvs), F, L, A, ext_lock q1, ?_, (of_dct e q2 q3).mono (ext_lock q1).n, fun s2 g2 x2 h1 h2 => ?_, wexit_shd q1⟩⟩
      · refine z.relock (by rw [q1]; exact fun e => by cases e) (ext_lock q1).n
      · rcases x2 d _ gup_same with h3 | ⟨_, _, h3, _⟩
        · exact h1 _ _ h3
        · cases h3
    · refine .inr ⟨t, z.sg _ _ q1, k _ _ _ _ ⟨s, F, L, A, Ext.refl, z, of_dct e q2 q3, fun s2 g2 x2 h1 h2 => ?_, wexit_none Ext.refl⟩⟩
      rcases x2 d _ q1 with h3 | ⟨_, _, h3, _⟩
      · exact h1 _ _ h3
      · cases h3
  | lk j =>
    obtain ⟨eB, d, t, kvs, e1, q1, q2, q3⟩ := r
    exact ⟨d, kvs, e1, .inr ⟨t, z.Lg _ _ _ q1, k _ _ _ _ ⟨s, F, L, A, Ext.refl, z, of_dct e q2 q3, fun s2 g2 x2 h1 h2 => h2 _ _ (z.LF _ _ _ q1), wexit_none Ext.refl⟩⟩⟩
  | ow cs =>
    cases cs with
    | cons _ _ => cases hf
    | nil =>
      obtain ⟨d, kvs, B1, e1, eB, q1, q2, q4, q3⟩ := r
      subst q4 eB
      refine ⟨d, kvs, e1, .inl ⟨q1, fun t => ?_⟩⟩
      have hs := b.hs d (by simp)
      have hF := b.hF d (by simp)
      have hA : ∀ j, d ∉ A j := fun j => b.dj j d (by simp)
      -- the dict at hand is locked: its cell joins the frame
      have z1 := z.chg (c := .lk t kvs) hs hF hA
      have b1 : Bz s F A [d] := b
      have z2 := z1.frame b1
      refine k _ _ _ _ ⟨s, addS F (gup g d (.lk t kvs)) [d], L, A, Ext.refl, z2, of_dct e q2 q3, fun s2 g2 x2 h1 h2 => h2 _ _ (by rw [addS_in (by simp)]; exact gup_same), ?_, ?_⟩
      · intro s2 g2 ω2 env2 A2 Q x2 z2 hv kq hsome
        have hB : ∀ a ∈ [d], ∃ c, (gup g d (.lk t kvs)) a = some c := fun a ha => by cases List.mem_singleton.mp ha; exact ⟨_, gup_same⟩
        have hg2 : g2 d = some (.lk t kvs) := z2.Fg _ _ (by rw [addS_in (by simp)]; exact gup_same)
        have base := Z.unframe (A := A) hB b1 z.LF z2
        obtain ⟨z3, b3⟩ := base
        refine ⟨hg2, kq ω2 s2 _ A2 rfl x2 Ext.refl.n (z3.chg (c := .dct kvs) (b3.hs d (by simp)) (b3.hF d (by simp)) fun j => b3.dj j d (by simp)) fun C c => ?_⟩
        obtain ⟨c1, h1⟩ := c.mono_F hB b1.hF
        exact ⟨fun a ha => gup_ne (by rintro rfl; exact h1 _ ha (by simp)), c1⟩
      · intro s2 g2 ω2 env2 A2 x2 z2 hv ω3 e3
        cases e3
        have hB : ∀ a ∈ [d], ∃ c, (gup g d (.lk t kvs)) a = some c := fun a ha => by cases List.mem_singleton.mp ha; exact ⟨_, gup_same⟩
        exact ⟨s2, A2, x2, Ext.refl.n, (Z.unframe (A := A) hB b1 z.LF z2).1⟩
theorem walkV_seq {bad : List Nat} {i : Nat} {K : List Vl → (Gp → Prop) → Lk → Gp → Prop} (z : Z s g F L ω env A) (h : Kw s F L env (walkV .seq bad i ω) K Xp) : iSeq (wVar i) env g K Xp := by
  unfold walkV at h
  split at h
  · exact h.elim
  · rename_i w o es
    obtain ⟨v, e1, r⟩ := z.slot es
    split at h
    · exact h.elim
    · rename_i xs e2
      refine ⟨v, e1, ?_⟩
      have plain : o.flat = true → o.full = true → A i = [] → Kw s F L env (.ok (xs, none) ω) K Xp → (∃ ys, IsL g v ys ∧ K ys (fun g => IsL g v ys) none g) ∨ ∃ ys, v = .tup ys ∧ K ys (fun _ => True) none g := by
        intro h1 h2 h3 h
        rw [h3] at r
        exact wk_seq (x := (w, o)) z h2 Bz.nil r h1 e2 fun vs chk wk => h g vs chk none wk
      split at h
      · exact plain rfl rfl r.1 h
      · exact plain rfl rfl r.1 h
      · split at h
        · rename_i hc
          obtain ⟨p, q1, q2, q3⟩ := ownA hc r
          rcases q3 with ⟨ys, vs, q4, q5, q6⟩ | ⟨ks, ys, kvs, q4, _⟩
          · subst q1 q4
            cases e2
            split at h
            · -- shared first
              obtain ⟨s', v', sub, z', e3, q7⟩ := z.freeze (slot_get es) (o := .ow []) rfl
              rw [e1] at e3
              cases e3
              obtain ⟨p', us, e4, e5, e6⟩ := q7
              cases e4
              have hg : us = vs := by
                have := z'.sg _ _ e5
                rw [q5] at this
                cases this
                rfl
              subst hg
              refine .inl ⟨us, .inl ⟨p, rfl, q5⟩, h g us _ none ⟨s', F, L, _, sub.ext, z', e6, fun s2 g2 x2 h1 h2 => .inl ⟨p, rfl, ?_⟩, wexit_none sub.ext⟩⟩
              rcases x2 _ _ e5 with h3 | ⟨_, _, h3, _⟩
              · exact h1 _ _ h3
              · cases h3
            · split at h
              · rename_i hn
                obtain ⟨⟨A1, z1⟩, we⟩ := lock_lst z es hn e1 q2 q5 q6
                exact .inl ⟨vs, .inl ⟨p, rfl, q5⟩, h g vs _ none ⟨s, _, _, A1, Ext.refl, z1, q6, fun s2 g2 x2 h1 h2 => .inl ⟨p, rfl, h2 _ _ gup_same⟩, we⟩⟩
              · exact h.elim
          · subst q4
            cases e2
        · exact h.elim
      · exact h.elim
theorem walkV_dct {kk : Wt} {bad : List Nat} {i : Nat} {K : List Vl → (Gp → Prop) → Lk → Gp → Prop} (hk : kk ≠ .seq) (z : Z s g F L ω env A) (h : Kw s F L env (walkV kk bad i ω) K Xp) : iDict (kF kk) (wVar i) env g K Xp := by
  unfold walkV at h
  split at h
  · exact h.elim
  · rename_i w o es
    obtain ⟨v, e1, r⟩ := z.slot es
    split at h
    · exact h.elim
    · rename_i xs e2
      refine ⟨v, e1, ?_⟩
      have plain : o.flat = true → o.full = true → A i = [] → Kw s F L env (.ok (xs, none) ω) K Xp → ∃ d kvs, v = .ref d ∧
        ((g d = some (.dct kvs) ∧ ∀ t, K (kvs.map (kF kk)) (fun g => g d = some (.lk t kvs)) (some (d, t, kvs)) (gup g d (.lk t kvs))) ∨ ∃ t, g d = some (.lk t kvs) ∧ K (kvs.map (kF kk)) (fun g => g d = some (.lk t kvs)) none g) := by
        intro h1 h2 h3 h
        rw [h3] at r
        exact wk_dct (x := (w, o)) z h2 Bz.nil r h1 e2 hk fun vs chk l g1 wk => h g1 vs chk l wk
      split at h
      · exact plain rfl rfl r.1 h
      · exact plain rfl rfl r.1 h
      · split at h
        · rename_i hc
          obtain ⟨p, q1, q2, q3⟩ := ownA hc r
          rcases q3 with ⟨ys, vs, q4, _⟩ | ⟨ks, ys, kvs, q4, q5, q6, q7⟩
          · subst q4
            cases kk <;> first | exact absurd rfl hk | (cases e2; done)
          · subst q1 q4
            split at h
            · obtain ⟨s', v', sub, z', e3, q8⟩ := z.freeze (slot_get es) (o := .ow []) rfl
              rw [e1] at e3
              cases e3
              have := wk_dct (x := (.dct ks ys, .sh)) (K := K) z' rfl Bz.nil ⟨rfl, q8⟩ rfl e2 hk fun vs chk l g1 wk => h g1 vs chk l (wk.mono sub.ext)
              exact this
            · split at h
              · rename_i hn
                refine ⟨p, kvs, rfl, .inl ⟨q5, fun t => ?_⟩⟩
                obtain ⟨⟨A1, z1⟩, we⟩ := lock_dct (t := t) z es hn e1 q2 q5 q6 q7
                exact h _ _ _ _ ⟨s, _, _, A1, Ext.refl, z1, of_dct e2 q6 q7, fun s2 g2 x2 h1 h2 => h2 _ _ gup_same, we⟩
              · exact h.elim
        · exact h.elim
      · exact h.elim
theorem walkE_seq {bad : List Nat} {K : List Vl → (Gp → Prop) → Lk → Gp → Prop} (ha : SV va (wE P ΓC a)) (z : Z s g F L ω env A) (h : Kw s F L env (walkE .seq a va bad ω) K Xp) : iSeq (wE P ΓC a) env g K Xp := by
  have gen : Kw s F L env ((va ω).bind (walkT .seq)) K Xp → iSeq (wE P ΓC a) env g K Xp := fun h => by
    refine ha ω s g F L env A _ Xp z ?_
    cases e : va ω with
    | ok x ω1 =>
      rw [e] at h
      intro s' g' A' v xx z' ⟨fr, B, b, r⟩
      have h : Kw s F L env (walkT .seq x ω1) K Xp := h
      unfold walkT at h
      split at h
      · exact h.elim
      · rename_i xs e2
        split at h
        · rename_i hf
          exact wk_seq z' (free_full fr) b r hf e2 fun vs chk wk => h g' vs chk none (wk.mono xx)
        · exact h.elim
    | ex c fs ws ω1 => rw [e] at h; exact h
    | no => rw [e] at h; exact h
  cases a with
  | var i => exact walkV_seq z h
  | _ => exact gen h
theorem walkE_dct {kk : Wt} {bad : List Nat} {K : List Vl → (Gp → Prop) → Lk → Gp → Prop} (hk : kk ≠ .seq) (ha : SV va (wE P ΓC a)) (z : Z s g F L ω env A) (h : Kw s F L env (walkE kk a va bad ω) K Xp) : iDict (kF kk) (wE P ΓC a) env g K Xp := by
  have gen : Kw s F L env ((va ω).bind (walkT kk)) K Xp → iDict (kF kk) (wE P ΓC a) env g K Xp := fun h => by
    refine ha ω s g F L env A _ Xp z ?_
    cases e : va ω with
    | ok x ω1 =>
      rw [e] at h
      intro s' g' A' v xx z' ⟨fr, B, b, r⟩
      have h : Kw s F L env (walkT kk x ω1) K Xp := h
      unfold walkT at h
      split at h
      · exact h.elim
      · rename_i xs e2
        split at h
        · rename_i hf
          exact wk_dct z' (free_full fr) b r hf e2 hk fun vs chk l g1 wk => h g1 vs chk l (wk.mono xx)
        · exact h.elim
    | ex c fs ws ω1 => rw [e] at h; exact h
    | no => rw [e] at h; exact h
  cases a with
  | var i => exact walkV_dct hk z h
  | _ => exact gen h
end
end MP
set_option Elab.async false
set_option linter.all false
set_option maxRecDepth 100000
/-! EV, part 20: comprehensions, dict displays. -/
namespace MP
open PySem PySem.Spec PyProof.Rows L2
section
variable {P : Prog} {ΓC : Nat → Ct} {s g F : Gp} {L : Lt} {ω ω' ω1 : En} {env env' : Env} {A : Ft} {B C : List Addr} {Xp : Xo} {va : En → Rr (W × O)} {a : Ex} {own : List Nat}
theorem wipeN_get : ∀ (own : List Nat) (ω : En) (j : Nat), (wipeN ω own)[j]? = if j ∈ own then (if j < ω.length then some none else none) else ω[j]?
  | [], ω, j => by simp [wipeN]
  | v :: vs, ω, j => by
    have hl : ∀ (vs : List Nat), (wipeN ω vs).length = ω.length := by
      intro vs
      induction vs with
      | nil => rfl
      | cons v vs ih => show ((wipeN ω vs).set v none).length = _; rw [List.length_set, ih]
    show ((wipeN ω vs).set v none)[j]? = _
    rw [List.getElem?_set, wipeN_get vs ω j, hl]
    by_cases h : v = j
    · subst h
      simp
    · rw [if_neg h]
      by_cases h2 : j ∈ vs
      · rw [if_pos h2, if_pos (List.mem_cons_of_mem _ h2)]
      · rw [if_neg h2, if_neg (by simp; exact ⟨Ne.symm h, h2⟩)]
theorem wipeN_len : ∀ (own : List Nat) (ω : En), (wipeN ω own).length = ω.length
  | [], ω => rfl
  | v :: vs, ω => by show ((wipeN ω vs).set v none).length = _; rw [List.length_set, wipeN_len vs]
theorem wipeE_get : ∀ (own : List Nat) (env : Env) (j : Nat), j ∉ own → (wipeE env own)[j]? = env[j]?
  | [], env, j, _ => rfl
  | v :: vs, env, j, h => by
    show ((wipeE env vs).set v none)[j]? = _
    rw [List.getElem?_set_ne (by rintro rfl; simp at h), wipeE_get vs env j (by simp at h; exact h.2)]
theorem wipeE_len : ∀ (own : List Nat) (env : Env), (wipeE env own).length = env.length
  | [], env => rfl
  | v :: vs, env => by show ((wipeE env vs).set v none).length = _; rw [List.length_set, wipeE_len vs]
theorem wipeN_idem : wipeN (wipeN ω own) own = wipeN ω own := by
  refine List.ext_getElem? fun j => ?_
  rw [wipeN_get, wipeN_get, wipeN_len]
  by_cases h : j ∈ own
  · simp [h]
  · simp [h]
/-- slots that hold nothing may have any value -/
theorem Z.env_any (z : Z s g F L ω env A) (hl : env'.length = env.length) (h : ∀ (i : Nat) (w : W) (o : O), ω[i]? = some (some (w, o)) → env'[i]? = env[i]?) : Z s g F L ω env' A :=
  ⟨z.len.trans hl.symm, fun i w o e => by
    obtain ⟨v, e1, r⟩ := z.val i w o e
    exact ⟨v, (h i w o e).trans e1, r⟩, z.nd, z.dj, z.hs, z.hF, z.sg, z.Fg, z.LF, z.sF⟩
/-- fewer slots hold something -/
theorem Z.fewer (z : Z s g F L ω env A) (hl : ω'.length = ω.length) (h : ∀ (i : Nat) (w : W) (o : O), ω'[i]? = some (some (w, o)) → ω[i]? = some (some (w, o))) : Z s g F L ω' env A :=
  ⟨hl.trans z.len, fun i w o e => z.val i w o (h i w o e), z.nd, z.dj, z.hs, z.hF, z.sg, z.Fg, z.LF, z.sF⟩
/-- the own slots are wiped: the rest is as it was -/
theorem Z.rewipe (z : Z s g F L ω env' A) (hl : env.length = env'.length) (h : ∀ j, j ∉ own → env'[j]? = env[j]?) : Z s g F L (wipeN ω own) env A := by
  have z1 : Z s g F L (wipeN ω own) env' A := z.fewer (wipeN_len _ _) fun i w o e => by
    rw [wipeN_get] at e
    by_cases hi : i ∈ own
    · rw [if_pos hi] at e
      split at e <;> cases e
    · rwa [if_neg hi] at e
  refine z1.env_any hl fun i w o e => ?_
  rw [wipeN_get] at e
  by_cases hi : i ∈ own
  · rw [if_pos hi] at e
    split at e <;> cases e
  · exact (h i hi).symm
theorem restN_set {ω0 : En} {x : Option (W × O)} {v : Nat} : ∀ (own : List Nat) (ω : En), v ∉ own → restN ω0 (ω.set v x) own = (restN ω0 ω own).set v x
  | [], ω, _ => rfl
  | u :: us, ω, h => by
    simp only [List.mem_cons, not_or] at h
    show (restN ω0 (ω.set v x) us).set u _ = ((restN ω0 ω us).set u _).set v x
    rw [restN_set us ω h.2, List.set_comm _ _ (h.1)]
theorem wipe_ok : ∀ (own : List Nat), own.Nodup → Z s g F L ω env A → ∃ A' B, (∀ a ∈ B, ∃ c, g a = some c) ∧ Bz s F A' B ∧ Z s g F L (wipeN ω own) (wipeE env own) A' ∧ (∀ j a, a ∈ A' j → ∃ c, g a = some c) ∧
    ∀ {s' g' : Gp} {ω' : En} {A'' : Ft}, Ext s s' → Z s' g' F L ω' (wipeE env own) A'' → Bz s' F A'' B → (∀ a ∈ B, g' a = g a) → ∃ A3, Z s' g' F L (restN ω ω' own) env A3 ∧ ∀ C, Bz s' F A'' C → (∀ a ∈ C, a ∉ B) → Bz s' F A3 C
  | [], _, z => by
    obtain ⟨z1, hd⟩ := z.trim
    exact ⟨_, [], fun _ h => by simp at h, Bz.nil, z1, hd, fun {s' g' ω' A''} x z' b hg => ⟨A'', z', fun C c _ => c⟩⟩
  | v :: vs, nd, z => by
    obtain ⟨hv, nd⟩ := List.nodup_cons.mp nd
    obtain ⟨A1, B1, hB1, b1, z1, hd1, k⟩ := wipe_ok vs nd z
    obtain ⟨z2, b2⟩ := z1.take (i := v)
    have z3 : Z s g F L (wipeN ω (v :: vs)) (wipeE env (v :: vs)) (fup A1 v []) := z2.env_any (by show ((wipeE env vs).set v none).length = _; simp) fun i w o e => by
      show ((wipeE env vs).set v none)[i]? = _
      rw [List.getElem?_set_ne]
      rintro rfl
      rw [List.getElem?_set] at e
      simp at e
    have b3 : Bz s F (fup A1 v []) B1 := ⟨b1.nd, fun j a ha h => by
      by_cases hj : j = v
      · subst hj; rw [fup_same] at h; simp at h
      · rw [fup_ne hj] at h; exact b1.dj j a ha h, b1.hs, b1.hF⟩
    refine ⟨fup A1 v [], A1 v ++ B1, fun a ha => ?_, b2.append b3 fun a ha h => b1.dj v a ha h, z3, fun j a h => ?_, fun {s' g' ω' A''} x z' b hg => ?_⟩
    · rcases List.mem_append.mp ha with h | h
      · exact hd1 v a h
      · exact hB1 a h
    · by_cases hj : j = v
      · subst hj; rw [fup_same] at h; simp at h
      · rw [fup_ne hj] at h; exact hd1 j a h
    · have bv : Bz s' F A'' (A1 v) := b.sub ⟨(nodup_app b.nd).1, fun a h => List.mem_append_left _ h⟩
      have bB : Bz s' F A'' B1 := b.sub ⟨(nodup_app b.nd).2.1, fun a h => List.mem_append_right _ h⟩
      have hdis := (nodup_app b.nd).2.2
      -- the slot v is back
      have step : ∃ A2, Z s' g' F L (ω'.set v ((wipeN ω vs).getD v none)) (wipeE env vs) A2 ∧ ∀ C, Bz s' F A'' C → (∀ a ∈ C, a ∉ A1 v) → Bz s' F A2 C := by
        have lenW : (wipeE env vs).length = ((wipeE env vs).set v none).length := by simp
        cases e : (wipeN ω vs).getD v none with
        | none =>
          obtain ⟨z4, _⟩ := z'.take (i := v)
          refine ⟨fup A'' v [], z4.env_any lenW fun i w o e => ?_, fun C c _ => ⟨c.nd, fun j a ha h => ?_, c.hs, c.hF⟩⟩
          · show (wipeE env vs)[i]? = ((wipeE env vs).set v none)[i]?
            rw [List.getElem?_set_ne]
            rintro rfl
            rw [List.getElem?_set] at e
            simp at e
          · by_cases hj : j = v
            · subst hj; rw [fup_same] at h; simp at h
            · rw [fup_ne hj] at h; exact c.dj j a ha h
        | some wo =>
          have e1 : (wipeN ω vs)[v]? = some (some wo) := by
            rw [List.getD_eq_getElem?_getD] at e
            cases e2 : (wipeN ω vs)[v]? with
            | none => rw [e2] at e; cases e
            | some y => rw [e2] at e; cases e; rfl
          obtain ⟨u, e2, r⟩ := z1.val v wo.1 wo.2 e1
          have r' : R s' g' L wo.2 wo.1 u (A1 v) := r.mono x.n Sub.refl fun a ha => hg a (List.mem_append_left _ ha)
          have z4 := z'.put (i := v) bv r'
          have ee : ((wipeE env vs).set v none).set v (some u) = wipeE env vs := by
            rw [List.set_set]
            refine List.ext_getElem? fun j => ?_
            by_cases hj : v = j
            · subst hj
              have hl : v < (wipeE env vs).length := by
                rcases Nat.lt_or_ge v (wipeE env vs).length with h | h
                · exact h
                · rw [List.getElem?_eq_none h] at e2; cases e2
              rw [List.getElem?_set_self hl, e2]
            · rw [List.getElem?_set_ne hj]
          rw [show wipeE env (v :: vs) = (wipeE env vs).set v none from rfl, ee] at z4
          refine ⟨_, z4, fun C c hC => ⟨c.nd, fun j a ha h => ?_, c.hs, c.hF⟩⟩
          by_cases hj : j = v
          · subst hj; rw [fup_same] at h; exact hC a ha h
          · rw [fup_ne hj] at h; exact c.dj j a ha h
      obtain ⟨A2, z4, hC2⟩ := step
      obtain ⟨A3, z5, hC3⟩ := k x z4 (hC2 B1 bB fun a ha h => hdis a h ha) fun a ha => hg a (List.mem_append_right _ ha)
      refine ⟨A3, ?_, fun C c hC => hC3 C (hC2 C c fun a ha h => hC a ha (List.mem_append_left _ h)) fun a ha h => hC a ha (List.mem_append_right _ h)⟩
      have ew : (wipeN ω vs).getD v none = ω.getD v none := by
        rw [List.getD_eq_getElem?_getD, List.getD_eq_getElem?_getD, wipeN_get, if_neg hv]
      rw [ew, restN_set vs ω' hv] at z5
      exact z5
theorem setMany_ok : ∀ (is : List Nat) {xs : List W} {vs : List Vl} {ω : En} {env : Env} {A : Ft}, Z s g F L ω env A → Shs s xs vs → xs.length = is.length → ∃ A2, Z s g F L (bndCT.setMany ω is (xs.map (·, .sh))) (setE env is vs) A2 ∧ (∀ j a, a ∈ A2 j → a ∈ A j) ∧ (∀ j, j ∉ is → (setE env is vs)[j]? = env[j]?) ∧ (setE env is vs).length = env.length
  | [], xs, vs, ω, env, A, z, r, hl => by
    cases xs with
    | cons _ _ => simp at hl
    | nil =>
      have e : vs = [] := r
      subst e
      exact ⟨A, z, fun _ _ h => h, fun _ _ => rfl, rfl⟩
  | i :: is, xs, vs, ω, env, A, z, r, hl => by
    cases xs with
    | nil => simp at hl
    | cons x xs =>
      obtain ⟨y, ys, e, q, q2⟩ := r
      subst e
      have z1 := z.put (i := i) (o := .sh) (w := x) (v := y) (B := []) Bz.nil ⟨rfl, q⟩
      obtain ⟨A2, z2, h1, h2, h3⟩ := setMany_ok is z1 q2 (by simpa using hl)
      refine ⟨A2, z2, fun j a h => ?_, fun j hj => ?_, ?_⟩
      · have := h1 j a h
        by_cases hk : j = i
        · subst hk; rw [fup_same] at this; simp at this
        · rwa [fup_ne hk] at this
      · simp only [List.mem_cons, not_or] at hj
        show (setE (env.set i (some y)) is ys)[j]? = _
        rw [h2 j hj.2, List.getElem?_set_ne (Ne.symm hj.1)]
      · show (setE (env.set i (some y)) is ys).length = _
        rw [h3, List.length_set]
theorem bnd_ok {t : CT} {x : W} {v : Vl} {k : Env → Prop} (z : Z s g F L ω env A) (r : Sh s x v) (e : bndCT t x ω = some ω1)
    (hk : ∀ env2 A2, Z s g F L ω1 env2 A2 → (∀ j a, a ∈ A2 j → a ∈ A j) → (∀ j, j ∉ t.slots → env2[j]? = env[j]?) → env2.length = env.length → k env2) : bindCT t v env k := by
  cases t with
  | one i =>
    cases e
    have z1 := z.put (i := i) (o := .sh) (w := x) (v := v) (B := []) Bz.nil ⟨rfl, r⟩
    refine hk _ _ z1 (fun j a h => ?_) (fun j hj => ?_) (by simp)
    · by_cases hk : j = i
      · subst hk; rw [fup_same] at h; simp at h
      · rwa [fup_ne hk] at h
    · rw [List.getElem?_set_ne (by rintro rfl; exact hj (by simp [CT.slots]))]
  | many is =>
    cases x <;> first | (cases e; done) | skip
    rename_i xs
    have e : (if xs.length = is.length then some (bndCT.setMany ω is (xs.map (·, .sh))) else none) = some ω1 := e
    split at e
    · rename_i hl
      cases e
      obtain ⟨vs, e1, q⟩ := r
      obtain ⟨A2, z2, h1, h2, h3⟩ := setMany_ok is z q hl
      exact ⟨vs, e1, by rw [q.length]; exact hl, hk _ _ z2 h1 h2 h3⟩
    · cases e
/-- how a comprehension's loop ends -/
def Kc {α : Type} (r : Rr α) (K : α → En → Prop) : Prop := match r with
  | .ok a ω => K a ω
  | _ => False
theorem Kc.imp {α : Type} {r : Rr α} {K K' : α → En → Prop} (h : Kc r K) (i : ∀ a ω, K a ω → K' a ω) : Kc r K' := by
  cases r with
  | ok a ω => exact i a ω h
  | _ => exact h
theorem cmpL_ok {tst : En → Rr Bool} {elt : En → Rr (W × O)} {wc : WT} {we : WE} (ht : STs' tst wc) (he : SV elt we) {t : CT} (hown : ∀ i ∈ t.slots, i ∈ own) {chk : Gp → Prop} {l : Lk} {D : Addr} {Po : Po} : ∀ (xs : List W) {vs : List Vl} {acc : List W} {vacc : List Vl} {ω : En} {s g : Gp} {A : Ft},
    Z s g F L (wipeN ω own) env A → Bz s F A [D] → g D = some (.lst vacc) → Shs s acc vacc → Shs s xs vs → (∀ s2 g2, Ext s s2 → Sub s2 g2 → Sub F g2 → chk g2) →
    Kc (cmpL (fun x ω => bndCT t x (wipeN ω own)) tst elt xs acc ω) (fun ys ω' => ∀ s' g' A', Ext s s' → Z s' g' F L (wipeN ω' own) env A' → rlV F L s' g' A' (.lst ys, .ow []) (.ref D) → exG l g' (Po (.ref D))) → cLoop chk l t env wc we D Po vs g
  | [], vs, acc, vacc, ω, s, g, A, z, b, hg, qa, q, hc, h => by
    have e : vs = [] := q
    subst e
    exact ⟨hc s g Ext.refl z.sg z.Fg, h s g A Ext.refl z ⟨rfl, [D], b, D, vacc, [], rfl, rfl, hg, rfl, qa⟩⟩
  | x :: xs, vs, acc, vacc, ω, s, g, A, z, b, hg, qa, q, hc, h => by
    obtain ⟨y, ys, e, q1, q2⟩ := q
    subst e
    refine ⟨hc s g Ext.refl z.sg z.Fg, ?_⟩
    unfold cmpL at h
    cases eb : bndCT t x (wipeN ω own) with
    | none => simp only [eb, Kc] at h
    | some ω1 =>
      simp only [eb] at h
      refine bnd_ok z q1 eb fun env2 A2 z1 hsub henv hlen => ?_
      have b1 : Bz s F A2 [D] := ⟨b.nd, fun j a ha h => b.dj j a ha (hsub j a h), b.hs, b.hF⟩
      have hD : ∀ a ∈ [D], ∃ c, g a = some c := fun a ha => by cases List.mem_singleton.mp ha; exact ⟨_, hg⟩
      have hoff : ∀ j, j ∉ own → env2[j]? = env[j]? := fun j hj => henv j fun h => hj (hown j h)
      refine ht ω1 s g (addS F g [D]) L env2 A2 _ noX (z1.frame b1) ?_
      cases et : tst ω1 with
      | ex _ _ _ _ => simp only [et, Kc] at h
      | no => simp only [et, Kc] at h
      | ok k ω2 =>
        intro s' g' A' k' x1 z2 ek
        cases (show k = k' from ek)
        obtain ⟨z3, b3⟩ := Z.unframe hD b1 z.LF z2
        have hgD : g' D = some (.lst vacc) := by rw [frame_eq hD z2.Fg D (by simp), hg]
        have hc' : ∀ s2 g2, Ext s' s2 → Sub s2 g2 → Sub F g2 → chk g2 := fun s2 g2 x2 => hc s2 g2 (x1.trans x2)
        cases k with
        | false =>
          simp only [et] at h
          rw [if_neg Bool.false_ne_true]
          refine cmpL_ok ht he hown xs (z3.rewipe hlen.symm hoff) b3 hgD (qa.mono x1.n) (q2.mono x1.n) hc' (h.imp fun ys2 ω' h s2 g2 A2 x2 => h s2 g2 A2 (x1.trans x2))
        | true =>
          simp only [et] at h
          rw [if_pos rfl]
          have hD' : ∀ a ∈ [D], ∃ c, g' a = some c := fun a ha => by cases List.mem_singleton.mp ha; exact ⟨_, hgD⟩
          refine he ω2 s' g' (addS F g' [D]) L env2 A' _ noX (z3.frame b3) ?_
          cases ee : elt ω2 with
          | ex _ _ _ _ => simp only [ee, Kc] at h
          | no => simp only [ee, Kc] at h
          | ok yy ω3 =>
            simp only [ee] at h
            intro s'' g'' A'' u x2 z4 ⟨fr, C, bC, rC⟩
            obtain ⟨z5, b5⟩ := Z.unframe hD' b3 z.LF z4
            obtain ⟨bC', hout⟩ := bC.mono_F hD' b3.hF
            have hgD2 : g'' D = some (.lst vacc) := by rw [frame_eq hD' z4.Fg D (by simp), hgD]
            have ef : frzT yy = some yy.1 := by unfold frzT; rw [if_pos fr]
            rw [ef] at h
            simp only at h
            split at h
            · rename_i hl
              have hla : vacc.length = acc.length := qa.length
              refine ⟨vacc, hgD2, by rw [hla]; exact hl, ?_⟩
              have sub : Sub s'' (addS s'' g'' C) := addS_sub bC'.hs
              have hyu : Sh (addS s'' g'' C) yy.1 u := rC.frz sub (fun a ha => addS_in ha) fr
              have z6 := z5.share bC'
              have b6 : Bz (addS s'' g'' C) F A'' [D] := ⟨b5.nd, b5.dj, fun a ha => by
                rw [addS_out]
                · exact b5.hs a ha
                · exact fun h => hout a h ha, b5.hF⟩
              have z7 := z6.chg (c := .lst (vacc ++ [u])) (b6.hs D (by simp)) (b6.hF D (by simp)) fun j => b6.dj j D (by simp)
              refine cmpL_ok ht he hown xs (z7.rewipe hlen.symm hoff) b6 gup_same ((qa.mono (x1.trans x2).n |>.mono sub.ext.n).append (.cons hyu .nil)) ((q2.mono (x1.trans x2).n).mono sub.ext.n) (fun s2 g2 x3 => hc' s2 g2 (x2.trans (sub.ext.trans x3))) (h.imp fun ys2 ω' h s2 g2 A2 x3 => h s2 g2 A2 (x1.trans (x2.trans (sub.ext.trans x3))))
            · exact h.elim
theorem dcmpL_ok {tst : En → Rr Bool} {ek ev : En → Rr (W × O)} {wc : WT} {wk wv : WE} (ht : STs' tst wc) (hek : SV ek wk) (hev : SV ev wv) {t : CT} (hown : ∀ i ∈ t.slots, i ∈ own) {chk : Gp → Prop} {l : Lk} {D : Addr} {Po : Po} : ∀ (xs : List W) {vs : List Vl} {ks : List Key} {acc : List W} {vacc : List (Key × Vl)} {ω : En} {s g : Gp} {A : Ft},
    Z s g F L (wipeN ω own) env A → Bz s F A [D] → g D = some (.dct vacc) → vacc.map Prod.fst = ks → Shs s acc (vacc.map Prod.snd) → Shs s xs vs → (∀ s2 g2, Ext s s2 → Sub s2 g2 → Sub F g2 → chk g2) →
    Kc (dcmpL (fun x ω => bndCT t x (wipeN ω own)) tst ek ev xs ks acc ω) (fun ys ω' => ∀ s' g' A', Ext s s' → Z s' g' F L (wipeN ω' own) env A' → rlV F L s' g' A' (.dct ys.1 ys.2, .ow []) (.ref D) → exG l g' (Po (.ref D))) → dLoop chk l t env wc wk wv D Po vs g
  | [], vs, ks, acc, vacc, ω, s, g, A, z, b, hg, hks, qa, q, hc, h => by
    have e : vs = [] := q
    subst e
    exact ⟨hc s g Ext.refl z.sg z.Fg, h s g A Ext.refl z ⟨rfl, [D], b, D, vacc, [], rfl, rfl, hg, hks, rfl, qa⟩⟩
  | x :: xs, vs, ks, acc, vacc, ω, s, g, A, z, b, hg, hks, qa, q, hc, h => by
    obtain ⟨y, ys, e, q1, q2⟩ := q
    subst e
    refine ⟨hc s g Ext.refl z.sg z.Fg, ?_⟩
    unfold dcmpL at h
    cases eb : bndCT t x (wipeN ω own) with
    | none => simp only [eb, Kc] at h
    | some ω1 =>
      simp only [eb] at h
      refine bnd_ok z q1 eb fun env2 A2 z1 hsub henv hlen => ?_
      have b1 : Bz s F A2 [D] := ⟨b.nd, fun j a ha h => b.dj j a ha (hsub j a h), b.hs, b.hF⟩
      have hD : ∀ a ∈ [D], ∃ c, g a = some c := fun a ha => by cases List.mem_singleton.mp ha; exact ⟨_, hg⟩
      have hoff : ∀ j, j ∉ own → env2[j]? = env[j]? := fun j hj => henv j fun h => hj (hown j h)
      refine ht ω1 s g (addS F g [D]) L env2 A2 _ noX (z1.frame b1) ?_
      cases et : tst ω1 with
      | ex _ _ _ _ => simp only [et, Kc] at h
      | no => simp only [et, Kc] at h
      | ok k ω2 =>
        intro s' g' A' k' x1 z2 ek2
        cases (show k = k' from ek2)
        obtain ⟨z3, b3⟩ := Z.unframe hD b1 z.LF z2
        have hgD : g' D = some (.dct vacc) := by rw [frame_eq hD z2.Fg D (by simp), hg]
        have hc' : ∀ s2 g2, Ext s' s2 → Sub s2 g2 → Sub F g2 → chk g2 := fun s2 g2 x2 => hc s2 g2 (x1.trans x2)
        cases k with
        | false =>
          simp only [et] at h
          rw [if_neg Bool.false_ne_true]
          refine dcmpL_ok ht hek hev hown xs (z3.rewipe hlen.symm hoff) b3 hgD hks (qa.mono x1.n) (q2.mono x1.n) hc' (h.imp fun ys2 ω' h s2 g2 A2 x2 => h s2 g2 A2 (x1.trans x2))
        | true =>
          simp only [et] at h
          rw [if_pos rfl]
          have hD' : ∀ a ∈ [D], ∃ c, g' a = some c := fun a ha => by cases List.mem_singleton.mp ha; exact ⟨_, hgD⟩
          refine hek ω2 s' g' (addS F g' [D]) L env2 A' _ noX (z3.frame b3) ?_
          cases ee : ek ω2 with
          | ex _ _ _ _ => simp only [ee, Kc] at h
          | no => simp only [ee, Kc] at h
          | ok kk ω3 =>
            simp only [ee] at h
            intro s'' g'' A'' uk x2 z4 rlk
            obtain ⟨z5, b5⟩ := Z.unframe hD' b3 z.LF z4
            have hgD2 : g'' D = some (.dct vacc) := by rw [frame_eq hD' z4.Fg D (by simp), hgD]
            have hD'' : ∀ a ∈ [D], ∃ c, g'' a = some c := fun a ha => by cases List.mem_singleton.mp ha; exact ⟨_, hgD2⟩
            have shk := rlk.bo.sh z4.sg z4.Lg
            refine hev ω3 s'' g'' (addS F g'' [D]) L env2 A'' _ noX (z5.frame b5) ?_
            cases ev2 : ev ω3 with
            | ex _ _ _ _ => simp only [ev2, Kc] at h
            | no => simp only [ev2, Kc] at h
            | ok yy ω4 =>
              simp only [ev2] at h
              intro s3 g3 A3 u x3 z6 ⟨fr, C, bC, rC⟩
              obtain ⟨z7, b7⟩ := Z.unframe hD'' b5 z.LF z6
              obtain ⟨bC', hout⟩ := bC.mono_F hD'' b5.hF
              have hgD3 : g3 D = some (.dct vacc) := by rw [frame_eq hD'' z6.Fg D (by simp), hgD2]
              have ef : frzT yy = some yy.1 := by unfold frzT; rw [if_pos fr]
              cases ek3 : kyW kk.1 with
              | none => simp only [ek3, ef, Kc] at h
              | some key =>
                simp only [ek3, ef] at h
                split at h
                · rename_i hl
                  have hla : vacc.length = ks.length := by rw [← hks, List.length_map]
                  refine ⟨vacc, key, kyW_ok ek3 shk, hgD3, by rw [hla]; exact hl, ?_⟩
                  have sub : Sub s3 (addS s3 g3 C) := addS_sub bC'.hs
                  have hyu : Sh (addS s3 g3 C) yy.1 u := rC.frz sub (fun a ha => addS_in ha) fr
                  have z8 := z7.share bC'
                  have b8 : Bz (addS s3 g3 C) F A3 [D] := ⟨b7.nd, b7.dj, fun a ha => by
                    rw [addS_out]
                    · exact b7.hs a ha
                    · exact fun h => hout a h ha, b7.hF⟩
                  have z9 := z8.chg (c := .dct (putL vacc key u)) (b8.hs D (by simp)) (b8.hF D (by simp)) fun j => b8.dj j D (by simp)
                  have xx := x1.trans (x2.trans (x3.trans sub.ext))
                  obtain ⟨p1, p2⟩ := putW_ok (k := key) hyu (qa.mono xx.n)
                  rw [hks] at p1 p2
                  refine dcmpL_ok ht hek hev hown xs (z9.rewipe hlen.symm hoff) b8 gup_same p1 p2 (q2.mono xx.n) (fun s2 g2 x4 => hc s2 g2 (xx.trans x4)) (h.imp fun ys2 ω' h s2 g2 A2 x4 => h s2 g2 A2 (xx.trans x4))
                · exact h.elim
/-- a comprehension -/
theorem comp_end {s0 : Gp} {env0 : Env} {F1 : Gp} {L1 : Lt} {u : Option Nat} {l : Lk} {Po : Po} {x : W × O} {D : Addr} {ω2 : En} (we : WExit s0 s F F1 L L1 u env0 l) (nd : own.Nodup) {A1 : Ft} {B1 : List Addr} (hB1 : ∀ a ∈ B1, ∃ c, g a = some c) (b1 : Bz s F1 A1 B1)
    (rest : ∀ {s' g' : Gp} {ω' : En} {A'' : Ft}, Ext s s' → Z s' g' F1 L1 ω' (wipeE env0 own) A'' → Bz s' F1 A'' B1 → (∀ a ∈ B1, g' a = g a) → ∃ A3, Z s' g' F1 L1 (restN ω1 ω' own) env0 A3 ∧ ∀ C, Bz s' F1 A'' C → (∀ a ∈ C, a ∉ B1) → Bz s' F1 A3 C)
    (h : Kg (rlV F L) s0 F L env0 ((Rr.ok x (restN ω1 ω2 own)).unlk u) Po Xp) {s' g' : Gp} {A' : Ft} (x1 : Ext s s') (z' : Z s' g' (addS F1 g B1) L1 (wipeN ω2 own) (wipeE env0 own) A') (hLF : SubL L1 F1)
    (rl : rlV (addS F1 g B1) L1 s' g' A' x (.ref D)) : exG l g' (Po (.ref D)) := by
  obtain ⟨z2, b2⟩ := Z.unframe hB1 b1 hLF z'
  obtain ⟨fr, C, bC, rC⟩ := rl
  obtain ⟨bC', hout⟩ := bC.mono_F hB1 b1.hF
  obtain ⟨A3, z3, hC3⟩ := rest x1 z2 b2 (frame_eq hB1 z'.Fg)
  have bC3 := hC3 C bC' hout
  have e1 : restN ω1 (wipeN ω2 own) own = restN ω1 ω2 own := by
    have gen : ∀ (vs : List Nat), (∀ v ∈ vs, v ∈ own) → ∀ j, (restN ω1 (wipeN ω2 own) vs)[j]? = if j ∈ vs then (restN ω1 ω2 vs)[j]? else (wipeN ω2 own)[j]? := by
      intro vs
      induction vs with
      | nil => intro _ j; simp [restN]
      | cons v vs ih =>
        intro hv j
        have hl1 : (restN ω1 (wipeN ω2 own) vs).length = ω2.length := by
          have : ∀ (ω : En) (vs : List Nat), (restN ω1 ω vs).length = ω.length := by
            intro ω vs
            induction vs with
            | nil => rfl
            | cons v vs ih => show ((restN ω1 ω vs).set v _).length = _; rw [List.length_set, ih]
          rw [this, wipeN_len]
        have hl2 : (restN ω1 ω2 vs).length = ω2.length := by
          have : ∀ (ω : En) (vs : List Nat), (restN ω1 ω vs).length = ω.length := by
            intro ω vs
            induction vs with
            | nil => rfl
            | cons v vs ih => show ((restN ω1 ω vs).set v _).length = _; rw [List.length_set, ih]
          rw [this]
        show ((restN ω1 (wipeN ω2 own) vs).set v _)[j]? = if j ∈ v :: vs then ((restN ω1 ω2 vs).set v _)[j]? else _
        rw [List.getElem?_set, List.getElem?_set, hl1, hl2, ih (fun v hv2 => hv v (List.mem_cons_of_mem _ hv2))]
        by_cases hj : v = j
        · subst hj
          simp
        · rw [if_neg hj, if_neg hj]
          by_cases h2 : j ∈ vs
          · simp [h2]
          · rw [if_neg h2, if_neg (by simp; exact ⟨Ne.symm hj, h2⟩)]
    refine List.ext_getElem? fun j => ?_
    rw [gen own (fun _ h => h)]
    by_cases hj : j ∈ own
    · rw [if_pos hj]
    · rw [if_neg hj, wipeN_get, if_neg hj]
      have gen2 : ∀ (vs : List Nat), j ∉ vs → (restN ω1 ω2 vs)[j]? = ω2[j]? := by
        intro vs
        induction vs with
        | nil => intro _; rfl
        | cons v vs ih =>
          intro hv
          simp only [List.mem_cons, not_or] at hv
          show ((restN ω1 ω2 vs).set v _)[j]? = _
          rw [List.getElem?_set_ne (Ne.symm hv.1), ih hv.2]
      exact (gen2 own hj).symm
  rw [e1] at z3
  have h : Kg (rlV F L) s0 F L env0 (match MP.unlk u (restN ω1 ω2 own) with
    | some ω' => .ok x ω'
    | none => .no) Po Xp := h
  cases eu : MP.unlk u (restN ω1 ω2 own) with
  | none => rw [eu] at h; exact h.elim
  | some ω3 =>
    rw [eu] at h
    refine we.ok x1 z3 (fun _ _ => rfl) (fun ω4 s3 g3 A4 e4 x4 x5 z4 hb => ?_) (by rw [eu]; rfl)
    rw [eu] at e4
    cases e4
    obtain ⟨h1, h2⟩ := hb C bC3
    exact h s3 g3 A4 (.ref D) x4 z4 ⟨fr, C, h2, rC.mono x5 (Sub.refl) h1 |>.anyL fr⟩
theorem slots_own {t : CT} (h : (t.slots.all (fun i => own.contains i) && decide own.Nodup) = true) : (∀ i ∈ t.slots, i ∈ own) ∧ own.Nodup := by
  obtain ⟨h1, h2⟩ := band h
  exact ⟨fun i hi => by have := List.all_eq_true.mp h1 i hi; simpa using this, of_decide_eq_true h2⟩
theorem xComp_ok {t : CT} {it : En → Rr (List W × Option Nat)} {wi : WI} {tst : En → Rr Bool} {elt : En → Rr (W × O)} {wc : WT} {we : WE} {Po : Po} (hi : SW it wi) (ht : STs' tst wc) (he : SV elt we) (z : Z s g F L ω env A) (h : Kg (rlV F L) s F L env (xComp t own (it ω) tst elt) Po Xp) : wComp wi t own wc we env g Po Xp := by
  refine hi ω s g F L env A _ Xp z ?_
  unfold xComp at h
  cases e : it ω with
  | no => rw [e] at h; exact h
  | ex c fs ws ω1 => rw [e] at h; exact h
  | ok xu ω1 =>
    rw [e] at h
    intro g1 vs chk l wk D hD
    obtain ⟨s1, F1, L1, A1, x1, z1, q, hc, we1⟩ := wk.ex
    have h : Kg (rlV F L) s F L env (if t.slots.all (fun i => own.contains i) && decide own.Nodup then
      ((cmpL (fun x ω => bndCT t x (wipeN ω own)) tst elt xu.1 [] (wipeN ω1 own)).bind fun ys ω2 => .ok (.lst ys, .ow []) (restN ω1 ω2 own)).unlk xu.2 else .no) Po Xp := h
    split at h
    · rename_i hso
      obtain ⟨hown, nd⟩ := slots_own hso
      obtain ⟨A2, B1, hB1, b1, z2, _, rest⟩ := wipe_ok own nd z1
      have z3 := z2.frame b1
      obtain ⟨A3, z4, b4⟩ := z3.alloc (c := .lst []) hD
      have z5 : Z s1 (gup g1 D (.lst [])) (addS F1 g1 B1) L1 (wipeN (wipeN ω1 own) own) (wipeE env own) A3 := by rw [wipeN_idem]; exact z4
      refine cmpL_ok ht he hown xu.1 z5 b4 gup_same (acc := []) rfl q (fun s2 g2 x2 h1 h2 => hc s2 g2 x2 h1 ((addS_sub b1.hF).trans h2)) ?_
      cases ec : cmpL (fun x ω => bndCT t x (wipeN ω own)) tst elt xu.1 [] (wipeN ω1 own) with
      | no => rw [ec] at h; exact h
      | ex c fs ws ω2 => rw [ec] at h; exact h
      | ok ys ω2 =>
        rw [ec] at h
        intro s' g' A' x2 z6 rl
        exact comp_end we1 nd hB1 b1 rest h x2 z6 z1.LF rl
    · exact h.elim
theorem xDComp_ok {t : CT} {it : En → Rr (List W × Option Nat)} {wi : WI} {tst : En → Rr Bool} {ek ev : En → Rr (W × O)} {wc : WT} {wk wv : WE} {Po : Po} (hi : SW it wi) (ht : STs' tst wc) (hek : SV ek wk) (hev : SV ev wv) (z : Z s g F L ω env A) (h : Kg (rlV F L) s F L env (xDComp t own (it ω) tst ek ev) Po Xp) : wDComp wi t own wc wk wv env g Po Xp := by
  refine hi ω s g F L env A _ Xp z ?_
  unfold xDComp at h
  cases e : it ω with
  | no => rw [e] at h; exact h
  | ex c fs ws ω1 => rw [e] at h; exact h
  | ok xu ω1 =>
    rw [e] at h
    intro g1 vs chk l wk1 D hD
    obtain ⟨s1, F1, L1, A1, x1, z1, q, hc, we1⟩ := wk1.ex
    have h : Kg (rlV F L) s F L env (if t.slots.all (fun i => own.contains i) && decide own.Nodup then
      ((dcmpL (fun x ω => bndCT t x (wipeN ω own)) tst ek ev xu.1 [] [] (wipeN ω1 own)).bind fun ys ω2 => .ok (.dct ys.1 ys.2, .ow []) (restN ω1 ω2 own)).unlk xu.2 else .no) Po Xp := h
    split at h
    · rename_i hso
      obtain ⟨hown, nd⟩ := slots_own hso
      obtain ⟨A2, B1, hB1, b1, z2, _, rest⟩ := wipe_ok own nd z1
      have z3 := z2.frame b1
      obtain ⟨A3, z4, b4⟩ := z3.alloc (c := .dct []) hD
      have z5 : Z s1 (gup g1 D (.dct [])) (addS F1 g1 B1) L1 (wipeN (wipeN ω1 own) own) (wipeE env own) A3 := by rw [wipeN_idem]; exact z4
      refine dcmpL_ok ht hek hev hown xu.1 (ks := []) z5 b4 gup_same (acc := []) (vacc := []) rfl rfl q (fun s2 g2 x2 h1 h2 => hc s2 g2 x2 h1 ((addS_sub b1.hF).trans h2)) ?_
      cases ec : dcmpL (fun x ω => bndCT t x (wipeN ω own)) tst ek ev xu.1 [] [] (wipeN ω1 own) with
      | no => rw [ec] at h; exact h
      | ex c fs ws ω2 => rw [ec] at h; exact h
      | ok ys ω2 =>
        rw [ec] at h
        intro s' g' A' x2 z6 rl
        exact comp_end we1 nd hB1 b1 rest h x2 z6 z1.LF rl
    · exact h.elim
end
end MP
set_option Elab.async false
set_option linter.all false
set_option maxRecDepth 100000
set_option maxHeartbeats 1000000
/-! EV, part 21: the evaluator is right about expressions. -/
namespace MP
open PySem PySem.Spec PyProof.Rows L2
inductive SVs : List (En → Rr (W × O)) → List WE → Prop where
  | nil : SVs [] []
  | cons {f : En → Rr (W × O)} {w : WE} {fs : List (En → Rr (W × O))} {ws : List WE} (h : SV f w) (r : SVs fs ws) : SVs (f :: fs) (w :: ws)
def rlP (F : Gp) (L : Lt) : Gp → Gp → Ft → List (Key × (W × O)) → List (Vl × Vl) → Prop := fun s g A ds ps => O.frees (ds.map fun d => d.2.2) = true ∧ ∃ (kvs : List (Key × Vl)) (B : List Addr), ps = kvs.map (fun kv => (kL kv.1, kv.2)) ∧ kvs.map Prod.fst = ds.map Prod.fst ∧ Bz s F A B ∧ Rl s g L (ds.map fun d => d.2.2) (ds.map fun d => d.2.1) (kvs.map Prod.snd) B
section
variable {s g F : Gp} {L : Lt} {ω ω' : En} {env : Env} {A : Ft} {B C : List Addr} {Xp : Xo} {Po : Po}
theorem prs_ok : ∀ {fks fvs : List (En → Rr (W × O))} {wks wvs : List WE} {ω : En} {s g F : Gp} {A : Ft} {Pd : List (Vl × Vl) → Gp → Prop}, SVs fks wks → SVs fvs wvs → Z s g F L ω env A → Kg (rlP F L) s F L env (prsE fks fvs ω) Pd Xp → wPrs (wks.zip wvs) env g Pd Xp
  | _, _, _, _, ω, s, g, F, A, Pd, .nil, .nil, z, h => h s g A [] Ext.refl z ⟨rfl, [], [], rfl, rfl, Bz.nil, rfl, rfl⟩
  | _, _, _, _, ω, s, g, F, A, Pd, .nil, .cons _ _, z, h => h.elim
  | _, _, _, _, ω, s, g, F, A, Pd, .cons _ _, .nil, z, h => h.elim
  | _, _, _, _, ω, s, g, F, A, Pd, .cons hk rk, .cons hv rv, z, h => by
    refine hk ω s g F L env A _ Xp z (Kg.bind h fun x ω1 _ s1 g1 A1 v x1 z1 rl1 h1 => ?_)
    have shk := rl1.bo.sh z1.sg z1.Lg
    refine hv ω1 s1 g1 F L env A1 _ Xp z1 (Kg.bind h1 fun y ω2 _ s2 g2 A2 u x2 z2 rl2 h2 => ?_)
    obtain ⟨fr, B, b, r⟩ := rl2
    cases ek : kyW x.1 with
    | none => rw [ek] at h2; exact h2.elim
    | some k =>
      rw [ek] at h2
      have evk := kyW_ok ek shk
      refine prs_ok rk rv (z2.frame b) (Kg.bindF r.dom b z2.LF h2 fun ds ω3 _ s3 g3 A3 ps x3 z3 b3 hg _ rl3 h3 => ?_)
      obtain ⟨fr3, kvs, C, e1, e2, bC, rC⟩ := rl3
      obtain ⟨bC', hout⟩ := bC.mono_F r.dom b.hF
      refine h3 s3 g3 A3 _ Ext.refl z3 ⟨?_, (k, u) :: kvs, B ++ C, ?_, ?_, b3.append bC' hout, ⟨_, _, u, _, B, C, rfl, rfl, rfl, r.mono x3.n Sub.refl hg, rC⟩⟩
      · show (y.2.free && O.frees (ds.map fun d => d.2.2)) = true
        rw [fr, fr3]
        rfl
      · rw [e1, List.map_cons, evk]
      · rw [List.map_cons, List.map_cons, e2]
theorem mergeL_nodup : ∀ {ls kvs : List (Key × Vl)}, ((kvs ++ ls).map Prod.fst).Nodup → mergeL kvs ls = kvs ++ ls
  | [], kvs, _ => by simp [mergeL]
  | p :: ls, kvs, h => by
    have hp : putL kvs p.1 p.2 = kvs ++ [p] := by
      unfold putL
      rw [if_neg]
      intro hc
      obtain ⟨q, hq, hq2⟩ := List.any_eq_true.mp hc
      have e : q.1 = p.1 := of_decide_eq_true hq2
      rw [List.map_append, List.nodup_append] at h
      exact h.2.2 q.1 (List.mem_map_of_mem hq) p.1 (by simp) e
    show mergeL (putL kvs p.1 p.2) ls = _
    rw [hp, mergeL_nodup (by simpa using h)]
    simp
theorem xDisp_ok {fks fvs : List (En → Rr (W × O))} {wks wvs : List WE} (hk : SVs fks wks) (hv : SVs fvs wvs) (z : Z s g F L ω env A) (h : Kg (rlV F L) s F L env (xDisp (prsE fks fvs ω)) Po Xp) : wDisp (wks.zip wvs) env g Po Xp := by
  intro p hp
  obtain ⟨A1, z1, b1⟩ := z.alloc (c := .dct []) hp
  have hB : ∀ a ∈ [p], ∃ c, (gup g p (.dct [])) a = some c := fun a ha => by cases List.mem_singleton.mp ha; exact ⟨_, gup_same⟩
  refine prs_ok hk hv (z1.frame b1) (Kg.bindF hB b1 z1.LF h fun ds ω' _ s' g' A' ps xx z' b' hg zf rl hh => ?_)
  obtain ⟨fr, kvs, B, e1, e2, bB, r⟩ := rl
  obtain ⟨bB', hout⟩ := bB.mono_F hB b1.hF
  split at hh
  · rename_i hc
    obtain ⟨h1, h2⟩ := band hc
    have hl : ds.length = kvs.length := by
      have := congrArg List.length e2
      simpa using this.symm
    refine ⟨by rw [hg p (by simp)]; exact gup_same, kvs, e1, by rw [← hl]; exact of_decide_eq_true h1, ?_⟩
    have nd : (kvs.map Prod.fst).Nodup := by rw [e2]; exact of_decide_eq_true h2
    rw [mergeL_nodup (kvs := []) (by simpa using nd), List.nil_append]
    have hpB : p ∉ B := fun h => hout p h (by simp)
    have z2 := z'.chg (c := .dct kvs) (b'.hs p (by simp)) (b'.hF p (by simp)) fun j => b'.dj j p (by simp)
    unfold owO at hh
    by_cases hs : (ds.map fun d => d.2.2).all O.isSh = true
    · rw [if_pos hs] at hh
      obtain ⟨e3, q⟩ := rl_allsh hs (by simp) r
      exact hh s' _ A' _ Ext.refl z2 ⟨rfl, [p], b', p, kvs, [], rfl, rfl, gup_same, e2, rfl, q⟩
    · rw [if_neg hs] at hh
      refine hh s' _ A' _ Ext.refl z2 ⟨fr, p :: B, ?_, p, kvs, B, rfl, rfl, gup_same, e2, r.mono Ext.refl.n Sub.refl fun a ha => gup_ne (by rintro rfl; exact hpB ha)⟩
      have := b'.append bB' hout
      exact this
  · exact hh.elim
end
section
variable {P : Prog} {ΓC : Nat → Ct} {Γ : Nat → Fe}
theorem evVs_len : ∀ (es : Exs) {ω ω' : En} {ps : List (W × O)}, evVs P Γ es ω = .ok ps ω' → ps.length = es.len
  | .nil, ω, ω', ps, h => by cases h; rfl
  | .cons e r, ω, ω', ps, h => by
    have h : ((evV P Γ e ω).bind fun d ω1 => (evVs P Γ r ω1).bind fun ds ω2 => .ok (d :: ds) ω2) = .ok ps ω' := h
    cases e1 : evV P Γ e ω with
    | ok d ω1 =>
      rw [e1] at h
      have h : ((evVs P Γ r ω1).bind fun ds ω2 => .ok (d :: ds) ω2) = .ok ps ω' := h
      cases e2 : evVs P Γ r ω1 with
      | ok ds ω2 =>
        rw [e2] at h
        cases h
        show ds.length + 1 = r.len + 1
        rw [evVs_len r e2]
      | ex _ _ _ _ => rw [e2] at h; cases h
      | no => rw [e2] at h; cases h
    | ex _ _ _ _ => rw [e1] at h; cases h
    | no => rw [e1] at h; cases h
theorem shs_rng {s : Gp} {f h : Nat → Int} : ∀ (l : List Nat), (∀ k, f k = h k) → Shs s (l.map fun k => W.int (f k)) (l.map fun k => Vl.int (h k))
  | [], _ => rfl
  | k :: l, e => ⟨_, _, rfl, (by show Vl.int (h k) = Vl.int (f k); rw [e k]), shs_rng l e⟩
def PR1 (K : List Vl → (Gp → Prop) → Lk → Gp → Prop) (vs : List Vl) (g : Gp) : Prop := ∃ j : Int, vs = [.int j] ∧ -(2 ^ 62) ≤ j ∧ j < 2 ^ 62 ∧ K (rngL 0 1 j.toNat) (fun _ => True) none g
def PR2 (K : List Vl → (Gp → Prop) → Lk → Gp → Prop) (vs : List Vl) (g : Gp) : Prop := ∃ i j : Int, vs = [.int i, .int j] ∧ (-(2 ^ 62) ≤ i ∧ i < 2 ^ 62 ∧ -(2 ^ 62) ≤ j ∧ j < 2 ^ 62) ∧ K (rngL i 1 (j - i).toNat) (fun _ => True) none g
def PR3 (K : List Vl → (Gp → Prop) → Lk → Gp → Prop) (vs : List Vl) (g : Gp) : Prop := ∃ (i j c : Int) (n : Nat), vs = [.int i, .int j, .int c] ∧ RgC i j c n ∧ K (rngL i c n) (fun _ => True) none g
theorem vs1 {g : Gp} {i : Int} {vs : List Vl} (q : Shs g [.int i] vs) : vs = [.int i] := by
  obtain ⟨v1, us, e1, q1, q2⟩ := q
  have e2 : us = [] := q2
  have e3 : v1 = .int i := q1
  rw [e1, e2, e3]
theorem vs2 {g : Gp} {i j : Int} {vs : List Vl} (q : Shs g [.int i, .int j] vs) : vs = [.int i, .int j] := by
  obtain ⟨v1, us, e1, q1, q2⟩ := q
  have e3 : v1 = .int i := q1
  rw [e1, e3, vs1 q2]
theorem vs3 {g : Gp} {i j k : Int} {vs : List Vl} (q : Shs g [.int i, .int j, .int k] vs) : vs = [.int i, .int j, .int k] := by
  obtain ⟨v1, us, e1, q1, q2⟩ := q
  have e3 : v1 = .int i := q1
  rw [e1, e3, vs2 q2]
theorem rng1 {s g : Gp} {K : List Vl → (Gp → Prop) → Lk → Gp → Prop} {j : Int} {vs : List Vl} {xs : List W} (q : Shs g [.int j] vs) (e : rngW [.int j] = some xs) (k : ∀ ys, Shs s xs ys → K ys (fun _ => True) none g) : PR1 K vs g := by
  simp only [rngW] at e
  split at e
  · rename_i hc
    obtain ⟨h1, h2⟩ := band hc
    have ex := Option.some.inj e
    refine ⟨j, vs1 q, of_decide_eq_true h1, of_decide_eq_true h2, k _ ?_⟩
    rw [← ex]
    exact shs_rng _ fun k => by simp
  · cases e
theorem rng2 {s g : Gp} {K : List Vl → (Gp → Prop) → Lk → Gp → Prop} {i j : Int} {vs : List Vl} {xs : List W} (q : Shs g [.int i, .int j] vs) (e : rngW [.int i, .int j] = some xs) (k : ∀ ys, Shs s xs ys → K ys (fun _ => True) none g) : PR2 K vs g := by
  simp only [rngW] at e
  split at e
  · rename_i hc
    obtain ⟨h1, h2⟩ := band hc
    obtain ⟨h3, h4⟩ := band h1
    obtain ⟨h5, h6⟩ := band h2
    have ex := Option.some.inj e
    refine ⟨i, j, vs2 q, ⟨of_decide_eq_true h3, of_decide_eq_true h4, of_decide_eq_true h5, of_decide_eq_true h6⟩, k _ ?_⟩
    rw [← ex]
    exact shs_rng _ fun k => by simp
  · cases e
theorem rng3 {s g : Gp} {K : List Vl → (Gp → Prop) → Lk → Gp → Prop} {i j c : Int} {vs : List Vl} {xs : List W} (q : Shs g [.int i, .int j, .int c] vs) (e : rngW [.int i, .int j, .int c] = some xs) (k : ∀ ys, Shs s xs ys → K ys (fun _ => True) none g) : PR3 K vs g := by
  simp only [rngW] at e
  split at e
  · rename_i hc
    obtain ⟨h1, h2⟩ := band hc
    obtain ⟨h3, h4⟩ := band h2
    obtain ⟨h5, h6⟩ := band h4
    have ex := Option.some.inj e
    have h7 : 0 ≤ Builtin.Range.rangeSize i j c := of_decide_eq_true h6
    refine ⟨i, j, c, (Builtin.Range.rangeSize i j c).toNat, vs3 q, ⟨of_decide_eq_true h1, of_decide_eq_true h3, h5, (Int.toNat_of_nonneg h7).symm⟩, k _ ?_⟩
    rw [← ex]
    exact shs_rng _ fun k => rfl
  · cases e
theorem rngW_shape {ps xs : List W} (h : rngW ps = some xs) : (∃ j, ps = [.int j]) ∨ (∃ i j, ps = [.int i, .int j]) ∨ ∃ i j c, ps = [.int i, .int j, .int c] := by
  unfold rngW at h
  split at h
  · exact .inl ⟨_, rfl⟩
  · exact .inr (.inl ⟨_, _, rfl⟩)
  · exact .inr (.inr ⟨_, _, _, rfl⟩)
  · cases h
theorem rng_ok {s g : Gp} {K : List Vl → (Gp → Prop) → Lk → Gp → Prop} {vs : List Vl} {xs : List W} : ∀ {ps : List W} (n : Nat), ps.length = n → Shs g ps vs → rngW ps = some xs → (∀ ys, Shs s xs ys → K ys (fun _ => True) none g) → match n with
      | 1 => PR1 K vs g
      | 2 => PR2 K vs g
      | _ => PR3 K vs g
  | ps, n, hn, q, e, k => by
    rcases rngW_shape e with ⟨j, rfl⟩ | ⟨i, j, rfl⟩ | ⟨i, j, c, rfl⟩
    · subst hn; exact rng1 q e k
    · subst hn; exact rng2 q e k
    · subst hn; exact rng3 q e k
variable (hΓ : ∀ i, SndF (Γ i) (ΓC i))
include hΓ
mutual
theorem sndV : ∀ (e : Ex), SV (evV P Γ e) (wE P ΓC e)
  | .var i => fun ω s g F L env A Po Xp z h => qv_ok z h fun h => h.elim
  | .int i => fun ω s g F L env A Po Xp z h => ok_sh h z Bo.int
  | .str i => fun ω s g F L env A Po Xp z h => ok_sh h z Bo.str
  | .bl i => fun ω s g F L env A Po Xp z h => ok_sh h z Bo.bl
  | .non => fun ω s g F L env A Po Xp z h => ok_sh h z Bo.non
  | .kon x v => fun ω s g F L env A Po Xp z h => qv_ok z h fun h => h.elim
  | .bin o a b => fun ω s g F L env A Po Xp z h => qv_ok z h fun h => xBin_ok (sndV a) (sndV b) z h
  | .cmp o a b => fun ω s g F L env A Po Xp z h => qv_ok z h fun h => xCmp_ok (sndV a) (sndV b) z h
  | .cmp2 o o2 a b c => fun ω s g F L env A Po Xp z h => qv_ok z h fun h => h.elim
  | .neg a => fun ω s g F L env A Po Xp z h => qv_ok z h fun h => xNeg_ok (sndV a) z h
  | .not a => fun ω s g F L env A Po Xp z h => qv_ok z h fun h => xNot_ok (sndV a) z h
  | .and es => fun ω s g F L env A Po Xp z h => qv_ok z h fun h => sndAnd es ω s g F L env A Po Xp z (Kg.bind h fun k ω' _ s' g' A' k' xx z' e hh => by
      cases (show k = k' from e)
      exact bool_sh hh z')
  | .or es => fun ω s g F L env A Po Xp z h => qv_ok z h fun h => sndOr es ω s g F L env A Po Xp z (Kg.bind h fun k ω' _ s' g' A' k' xx z' e hh => by
      cases (show k = k' from e)
      exact bool_sh hh z')
  | .ife c a b => fun ω s g F L env A Po Xp z h => sndT c ω s g F L env A _ Xp z (Kg.bind h fun k ω' _ s' g' A' k' xx z' e hh => by
      cases (show k = k' from e)
      cases k with
      | true => exact sndV a ω' s' g' F L env A' Po Xp z' hh
      | false => exact sndV b ω' s' g' F L env A' Po Xp z' hh)
  | .tup es => fun ω s g F L env A Po Xp z h => qv_ok z h fun h => xTup_ok (sndVs es) z h
  | .lst es => fun ω s g F L env A Po Xp z h => xLst_ok (sndVs es) z h
  | .dnew => fun ω s g F L env A Po Xp z h => dnew_ok z h
  | .ix a b => fun ω s g F L env A Po Xp z h => qv_ok z h fun h => xIx_ok (sndV a) (sndV b) z h
  | .sl l hh a lo hi => fun ω s g F L env A Po Xp z h => qv_ok z h fun h => xSl_ok (sndV a) z h
  | .fld f a => fun ω s g F L env A Po Xp z h => qv_ok z h fun h => xFld_ok (sndV a) z h
  | .prop m a => fun ω s g F L env A Po Xp z h => xProp_ok hΓ (argOf_ok (sndV a)) z h
  | .call f es => fun ω s g F L env A Po Xp z h => xCall_ok hΓ (sndAs es) z h
  | .meth m a es => fun ω s g F L env A Po Xp z h => xMeth_ok hΓ (argOf_ok (sndV a)) (sndAs es) z h
  | .make c es => fun ω s g F L env A Po Xp z h => xMake_ok hΓ (sndAs es) z h
  | .sm c m es => fun ω s g F L env A Po Xp z h => xSm_ok hΓ (sndAs es) z h
  | .blt b es => fun ω s g F L env A Po Xp z h => qv_ok z h fun h => xBlt_ok (sndVs es) z h
  | .isi u a => fun ω s g F L env A Po Xp z h => qv_ok z h fun h => xIsi_ok (sndV a) z h
  | .bm b o es => fun ω s g F L env A Po Xp z h => xBm_ok (sndV o) (sndVs es) z h
  | .disp ks vs => fun ω s g F L env A Po Xp z h => xDisp_ok (sndFs ks) (sndFs vs) z h
  | .comp t own it ifs e => fun ω s g F L env A Po Xp z h => xComp_ok (it := evW P Γ it own) (sndW it own) (sndIf ifs) (sndV e) z h
  | .dcomp t own it ifs k v => fun ω s g F L env A Po Xp z h => xDComp_ok (it := evW P Γ it own) (sndW it own) (sndIf ifs) (sndV k) (sndV v) z h
theorem sndAs : ∀ (es : Exs), SAs (evAs P Γ es) (wA P ΓC es)
  | .nil => fun ω s g F L env A Po Xp z h => h s g A [] Ext.refl z ⟨[], Bz.nil, rfl, rfl⟩
  | .cons e r => fun ω s g F L env A Po Xp z h => argOf_ok (sndV e) ω s g F L env A _ Xp z (Kg.bind h fun d ω1 _ s1 g1 A1 v x1 z1 rl h1 => by
      obtain ⟨B, b, rd⟩ := rl
      refine sndAs r ω1 s1 g1 (addS F g1 B) L env A1 _ Xp (z1.frame b) (Kg.bindF rd.dom b z1.LF h1 fun ds ω2 _ s2 g2 A2 vs x2 z2 b2 hg _ rl2 h2 => ?_)
      obtain ⟨C, bC, rC⟩ := rl2
      obtain ⟨bC', hout⟩ := bC.mono_F rd.dom b.hF
      have r2 : RlA s2 g2 L env [d] [v] B := rd.mono x2.n hg
      refine h2 s2 g2 A2 (v :: vs) Ext.refl z2 ⟨B ++ C, b2.append bC' hout, ?_⟩
      cases d with
      | val x =>
        obtain ⟨v1, vs', B1, B2, e5, e6, f1, r1, e7, e8⟩ := r2
        cases e5
        subst e8
        rw [List.append_nil] at e6
        subst e6
        exact ⟨v, vs, B, C, rfl, rfl, f1, r1, rC⟩
      | slot k =>
        obtain ⟨v1, vs', e5, e6, e7, e8⟩ := r2
        cases e5
        subst e8
        exact ⟨v, vs, rfl, e6, rC⟩)
theorem sndVs : ∀ (es : Exs), SL (evVs P Γ es) (wA P ΓC es)
  | .nil => fun ω s g F L env A Po Xp z h => h s g A [] Ext.refl z ⟨rfl, [], Bz.nil, rfl, rfl⟩
  | .cons e r => fun ω s g F L env A Po Xp z h => sndV e ω s g F L env A _ Xp z (Kg.bind h fun d ω1 _ s1 g1 A1 v x1 z1 rl h1 => by
      obtain ⟨fr, B, b, rd⟩ := rl
      refine sndVs r ω1 s1 g1 (addS F g1 B) L env A1 _ Xp (z1.frame b) (Kg.bindF rd.dom b z1.LF h1 fun ds ω2 _ s2 g2 A2 vs x2 z2 b2 hg _ rl2 h2 => ?_)
      obtain ⟨fr2, C, bC, rC⟩ := rl2
      obtain ⟨bC', hout⟩ := bC.mono_F rd.dom b.hF
      refine h2 s2 g2 A2 (v :: vs) Ext.refl z2 ⟨?_, B ++ C, b2.append bC' hout, _, _, v, vs, B, C, rfl, rfl, rfl, rd.mono x2.n Sub.refl hg, rC⟩
      show (d.2.free && O.frees (ds.map Prod.snd)) = true
      rw [fr, fr2]
      rfl)
theorem sndFs : ∀ (es : Exs), SVs (evFs P Γ es) (wEs P ΓC es)
  | .nil => .nil
  | .cons e r => .cons (sndV e) (sndFs r)
theorem sndAnd : ∀ (es : Exs) (ω : En) (s g F : Gp) (L : Lt) (env : Env) (A : Ft) (Po : Po) (Xp : Xo), Z s g F L ω env A → Kg rlB s F L env (evAnd P Γ es ω) (fun k g => Po (.bl k) g) Xp → wAnd (wEs P ΓC es) env g Po Xp
  | .nil, ω, s, g, F, L, env, A, Po, Xp, z, h => h s g A true Ext.refl z rfl
  | .cons e r, ω, s, g, F, L, env, A, Po, Xp, z, h => by
    have key : ∀ (Q : MP.Po), (∀ k ω' s' g' A', Ext s s' → Z s' g' F L ω' env A' → Kg rlB s' F L env (if k then evAnd P Γ r ω' else .ok false ω') (fun k g => Po (.bl k) g) Xp → Q (.bl k) g') → wE P ΓC e env g Q Xp := fun Q hq =>
      sndV e ω s g F L env A Q Xp z (Kg.bind h fun x ω' _ s' g' A' v xx z' rl hh => by
        have sv := rl.bo.sh z'.sg z'.Lg
        cases ex : x.1 with
        | bl k =>
          rw [ex] at hh sv
          rw [show v = .bl k from sv]
          exact hq k ω' s' g' A' xx z' hh
        | _ => rw [ex] at hh; exact hh.elim)
    cases r with
    | nil => exact key Po fun k ω' s' g' A' xx z' hh => (by
        cases k with
        | true => exact hh s' g' A' true Ext.refl z' rfl
        | false => exact hh s' g' A' false Ext.refl z' rfl)
    | cons e' r' => exact key _ fun k ω' s' g' A' xx z' hh => ⟨k, rfl, by
        cases k with
        | true => exact sndAnd (.cons e' r') ω' s' g' F L env A' Po Xp z' hh
        | false => exact hh s' g' A' false Ext.refl z' rfl⟩
theorem sndOr : ∀ (es : Exs) (ω : En) (s g F : Gp) (L : Lt) (env : Env) (A : Ft) (Po : Po) (Xp : Xo), Z s g F L ω env A → Kg rlB s F L env (evOr P Γ es ω) (fun k g => Po (.bl k) g) Xp → wOr (wEs P ΓC es) env g Po Xp
  | .nil, ω, s, g, F, L, env, A, Po, Xp, z, h => h s g A false Ext.refl z rfl
  | .cons e r, ω, s, g, F, L, env, A, Po, Xp, z, h => by
    have key : ∀ (Q : MP.Po), (∀ k ω' s' g' A', Ext s s' → Z s' g' F L ω' env A' → Kg rlB s' F L env (if k then .ok true ω' else evOr P Γ r ω') (fun k g => Po (.bl k) g) Xp → Q (.bl k) g') → wE P ΓC e env g Q Xp := fun Q hq =>
      sndV e ω s g F L env A Q Xp z (Kg.bind h fun x ω' _ s' g' A' v xx z' rl hh => by
        have sv := rl.bo.sh z'.sg z'.Lg
        cases ex : x.1 with
        | bl k =>
          rw [ex] at hh sv
          rw [show v = .bl k from sv]
          exact hq k ω' s' g' A' xx z' hh
        | _ => rw [ex] at hh; exact hh.elim)
    cases r with
    | nil => exact key Po fun k ω' s' g' A' xx z' hh => (by
        cases k with
        | true => exact hh s' g' A' true Ext.refl z' rfl
        | false => exact hh s' g' A' false Ext.refl z' rfl)
    | cons e' r' => exact key _ fun k ω' s' g' A' xx z' hh => ⟨k, rfl, by
        cases k with
        | true => exact hh s' g' A' true Ext.refl z' rfl
        | false => exact sndOr (.cons e' r') ω' s' g' F L env A' Po Xp z' hh⟩
theorem sndT : ∀ (e : Ex), STs' (evT P Γ e) (wT P ΓC e)
  | .not a => fun ω s g F L env A Po Xp z h => sndT a ω s g F L env A _ Xp z (Kg.bind h fun k ω' _ s' g' A' k' xx z' e hh => by
      cases (show k = k' from e)
      exact hh s' g' A' (!k) Ext.refl z' rfl)
  | .and es => fun ω s g F L env A Po Xp z h => sndTa es ω s g F L env A Po Xp z h
  | .or es => fun ω s g F L env A Po Xp z h => sndTo es ω s g F L env A Po Xp z h
  | .cmp o a b => fun ω s g F L env A Po Xp z h => tq_ok z h fun h => truB_ok (f := fun ω => xCmp o (op2 P a (evV P Γ a) b (evV P Γ b) ω)) (w := wBin o.b (wE P ΓC a) (wE P ΓC b)) (fun ω s g F L env A Po Xp z h => xCmp_ok (sndV a) (sndV b) z h) (fun x ω' e => by
      unfold xCmp at e
      cases e1 : op2 P a (evV P Γ a) b (evV P Γ b) ω with
      | ok xy ω1 =>
        simp only [e1, Rr.bind] at e
        cases e2 : opCmp o xy.1.1 xy.2.1 with
        | none => simp only [e2, Option.map_none, optR] at e; cases e
        | some k => simp only [e2, Option.map_some, optR] at e; cases e; exact ⟨k, rfl⟩
      | ex _ _ _ _ => simp only [e1, Rr.bind] at e; cases e
      | no => simp only [e1, Rr.bind] at e; cases e) z h
  | .ix a b => fun ω s g F L env A Po Xp z h => tq_ok z h fun h => truR_ok (f := fun ω => xIx P a (evV P Γ a) b (evV P Γ b) ω) (fun ω s g F L env A Po Xp z h => xIx_ok (sndV a) (sndV b) z h) z h
  | .fld f a => fun ω s g F L env A Po Xp z h => tq_ok z h fun h => truR_ok (f := fun ω => xFld P f (evV P Γ a ω)) (fun ω s g F L env A Po Xp z h => xFld_ok (sndV a) z h) z h
  | .prop m a => fun ω s g F L env A Po Xp z h => truR_ok (f := fun ω => xProp P Γ m (argOf a (evV P Γ a) ω)) (fun ω s g F L env A Po Xp z h => xProp_ok hΓ (argOf_ok (sndV a)) z h) z h
  | .call f es => fun ω s g F L env A Po Xp z h => truR_ok (f := fun ω => xCall (Γ f) (evAs P Γ es ω)) (fun ω s g F L env A Po Xp z h => xCall_ok hΓ (sndAs es) z h) z h
  | .meth m a es => fun ω s g F L env A Po Xp z h => truR_ok (f := fun ω => xMeth P Γ m (argOf a (evV P Γ a) ω) (evAs P Γ es)) (fun ω s g F L env A Po Xp z h => xMeth_ok hΓ (argOf_ok (sndV a)) (sndAs es) z h) z h
  | .sm c m es => fun ω s g F L env A Po Xp z h => truR_ok (f := fun ω => xSm P Γ c m (evAs P Γ es ω)) (fun ω s g F L env A Po Xp z h => xSm_ok hΓ (sndAs es) z h) z h
  | .blt b es => fun ω s g F L env A Po Xp z h => tq_ok z h fun h => truR_ok (f := fun ω => xBlt P b es (evVs P Γ es) ω) (fun ω s g F L env A Po Xp z h => xBlt_ok (sndVs es) z h) z h
  | .isi u a => fun ω s g F L env A Po Xp z h => tq_ok z h fun h => truR_ok (f := fun ω => xIsi P u (evV P Γ a ω)) (fun ω s g F L env A Po Xp z h => xIsi_ok (sndV a) z h) z h
  | .var i => fun ω s g F L env A Po Xp z h => tq_ok z h fun h => h.elim
  | .bl i => fun ω s g F L env A Po Xp z h => tq_ok z h fun h => h.elim
  | .cmp2 o o2 a b c => fun ω s g F L env A Po Xp z h => tq_ok z h fun h => h.elim
  | .int i => fun ω s g F L env A Po Xp z h => tq_ok z h fun h => h.elim
  | .str i => fun ω s g F L env A Po Xp z h => tq_ok z h fun h => h.elim
  | .non => fun ω s g F L env A Po Xp z h => tq_ok z h fun h => h.elim
  | .kon x v => fun ω s g F L env A Po Xp z h => tq_ok z h fun h => h.elim
  | .bin o a b => fun ω s g F L env A Po Xp z h => tq_ok z h fun h => h.elim
  | .neg a => fun ω s g F L env A Po Xp z h => tq_ok z h fun h => h.elim
  | .ife c a b => fun ω s g F L env A Po Xp z h => tq_ok z h fun h => h.elim
  | .tup es => fun ω s g F L env A Po Xp z h => tq_ok z h fun h => h.elim
  | .lst es => fun ω s g F L env A Po Xp z h => tq_ok z h fun h => h.elim
  | .dnew => fun ω s g F L env A Po Xp z h => tq_ok z h fun h => h.elim
  | .sl l hh a lo hi => fun ω s g F L env A Po Xp z h => tq_ok z h fun h => h.elim
  | .make c es => fun ω s g F L env A Po Xp z h => tq_ok z h fun h => h.elim
  | .bm b o es => fun ω s g F L env A Po Xp z h => tq_ok z h fun h => h.elim
  | .disp ks vs => fun ω s g F L env A Po Xp z h => tq_ok z h fun h => h.elim
  | .comp t own it ifs e => fun ω s g F L env A Po Xp z h => tq_ok z h fun h => h.elim
  | .dcomp t own it ifs k v => fun ω s g F L env A Po Xp z h => tq_ok z h fun h => h.elim
theorem sndTa : ∀ (es : Exs) (ω : En) (s g F : Gp) (L : Lt) (env : Env) (A : Ft) (Po : Bool → Gp → Prop) (Xp : Xo), Z s g F L ω env A → Kg rlB s F L env (evTa P Γ es ω) Po Xp → wtAnd (wTs P ΓC es) env g Po Xp
  | .nil, ω, s, g, F, L, env, A, Po, Xp, z, h => h s g A true Ext.refl z rfl
  | .cons e r, ω, s, g, F, L, env, A, Po, Xp, z, h => by
    have key : ∀ (Q : Bool → Gp → Prop), (∀ k ω' s' g' A', Ext s s' → Z s' g' F L ω' env A' → Kg rlB s' F L env (if k then evTa P Γ r ω' else .ok false ω') Po Xp → Q k g') → wT P ΓC e env g Q Xp := fun Q hq =>
      sndT e ω s g F L env A Q Xp z (Kg.bind h fun k ω' _ s' g' A' k' xx z' e hh => by
        cases (show k = k' from e)
        exact hq k ω' s' g' A' xx z' hh)
    cases r with
    | nil => exact key Po fun k ω' s' g' A' xx z' hh => (by
        cases k with
        | true => exact hh s' g' A' true Ext.refl z' rfl
        | false => exact hh s' g' A' false Ext.refl z' rfl)
    | cons e' r' => exact key _ fun k ω' s' g' A' xx z' hh => (by
        cases k with
        | true => exact sndTa (.cons e' r') ω' s' g' F L env A' Po Xp z' hh
        | false => exact hh s' g' A' false Ext.refl z' rfl)
theorem sndTo : ∀ (es : Exs) (ω : En) (s g F : Gp) (L : Lt) (env : Env) (A : Ft) (Po : Bool → Gp → Prop) (Xp : Xo), Z s g F L ω env A → Kg rlB s F L env (evTo P Γ es ω) Po Xp → wtOr (wTs P ΓC es) env g Po Xp
  | .nil, ω, s, g, F, L, env, A, Po, Xp, z, h => h s g A false Ext.refl z rfl
  | .cons e r, ω, s, g, F, L, env, A, Po, Xp, z, h => by
    have key : ∀ (Q : Bool → Gp → Prop), (∀ k ω' s' g' A', Ext s s' → Z s' g' F L ω' env A' → Kg rlB s' F L env (if k then .ok true ω' else evTo P Γ r ω') Po Xp → Q k g') → wT P ΓC e env g Q Xp := fun Q hq =>
      sndT e ω s g F L env A Q Xp z (Kg.bind h fun k ω' _ s' g' A' k' xx z' e hh => by
        cases (show k = k' from e)
        exact hq k ω' s' g' A' xx z' hh)
    cases r with
    | nil => exact key Po fun k ω' s' g' A' xx z' hh => (by
        cases k with
        | true => exact hh s' g' A' true Ext.refl z' rfl
        | false => exact hh s' g' A' false Ext.refl z' rfl)
    | cons e' r' => exact key _ fun k ω' s' g' A' xx z' hh => (by
        cases k with
        | true => exact hh s' g' A' true Ext.refl z' rfl
        | false => exact sndTo (.cons e' r') ω' s' g' F L env A' Po Xp z' hh)
theorem sndIf : ∀ (es : Exs), STs' (evIf P Γ es) (wIfs P ΓC es)
  | .nil => fun ω s g F L env A Po Xp z h => h s g A true Ext.refl z rfl
  | .cons e _ => sndT e
theorem sndW : ∀ (w : Wk) (bad : List Nat), SW (evW P Γ w bad) (wW P ΓC w)
  | .seq e, bad => fun ω s g F L env A K Xp z h => walkE_seq (sndV e) z h
  | .keys e, bad => fun ω s g F L env A K Xp z h => walkE_dct (kk := .keys) (by intro h; cases h) (sndV e) z h
  | .vals e, bad => fun ω s g F L env A K Xp z h => walkE_dct (kk := .vals) (by intro h; cases h) (sndV e) z h
  | .items e, bad => fun ω s g F L env A K Xp z h => walkE_dct (kk := .items) (by intro h; cases h) (sndV e) z h
  | .str e, bad => fun ω s g F L env A K Xp z h => by
    refine sndV e ω s g F L env A _ Xp z ?_
    have h : Kw s F L env ((evV P Γ e ω).bind fun x ω1 => match x.1 with
      | .str z => .ok (z.cps.toList.map fun c => .str ⟨#[c]⟩, none) ω1
      | _ => .no) K Xp := h
    cases e1 : evV P Γ e ω with
    | no => rw [e1] at h; exact h
    | ex c fs ws ω1 => rw [e1] at h; exact h
    | ok x ω1 =>
      rw [e1] at h
      intro s' g' A' v xx z' rl
      have sv := rl.bo.sh z'.sg z'.Lg
      have h : Kw s F L env (match x.1 with
        | .str z => .ok (z.cps.toList.map fun c => .str ⟨#[c]⟩, none) ω1
        | _ => .no) K Xp := h
      cases ex : x.1 with
      | str y =>
        rw [ex] at h sv
        refine ⟨y, sv, h g' _ _ none ⟨s', F, L, A', xx, z', ?_, fun _ _ _ _ _ => trivial, wexit_none xx⟩⟩
        have gen : ∀ (l : List Nat), Shs s' (l.map fun c => W.str ⟨#[c]⟩) (l.map fun c => Vl.str ⟨#[c]⟩) := by
          intro l
          induction l with
          | nil => exact rfl
          | cons c l ih => exact ⟨_, _, rfl, rfl, ih⟩
        exact gen _
      | _ => rw [ex] at h; exact h.elim
  | .rng es, bad => fun ω s g F L env A K Xp z h => by
    have h : Kw s F L env ((evVs P Γ es ω).bind fun ps ω1 => optR ((rngW (ps.map Prod.fst)).map (·, none)) ω1) K Xp := h
    have post : Kg (rlL F L) s F L env (evVs P Γ es ω) (fun vs g1 => match es.len with
      | 1 => PR1 K vs g1
      | 2 => PR2 K vs g1
      | _ => PR3 K vs g1) Xp := by
      cases e1 : evVs P Γ es ω with
      | no => rw [e1] at h; exact h
      | ex c fs ws ω1 => rw [e1] at h; exact h
      | ok ps ω1 =>
        rw [e1] at h
        intro s' g' A' vs xx z' ⟨fr, B, b, r⟩
        have h : Kw s F L env (optR ((rngW (ps.map Prod.fst)).map (·, none)) ω1) K Xp := h
        cases e2 : rngW (ps.map Prod.fst) with
        | none => rw [e2] at h; exact h.elim
        | some xs =>
          rw [e2] at h
          exact rng_ok es.len (by rw [List.length_map]; exact evVs_len es e1) ((Rl.bos fr r).sh z'.sg z'.Lg) e2 fun ys q => h g' ys _ none ⟨s', F, L, A', xx, z', q, fun _ _ _ _ _ => trivial, wexit_none xx⟩
    show iRange (wA P ΓC es) es.len env g K Xp
    have := sndVs es ω s g F L env A _ Xp z post
    match hl : es.len with
    | 0 => rw [hl] at this; exact this
    | 1 => rw [hl] at this; exact this
    | 2 => rw [hl] at this; exact this
    | n + 3 => rw [hl] at this; exact this
end
end
end MP
set_option Elab.async false
set_option linter.all false
set_option maxRecDepth 100000
set_option maxHeartbeats 1000000
/-! EV, part 22: statements: stores. -/
namespace MP
open PySem PySem.Spec PyProof.Rows L2
/-- the slots that are not stored into stay -/
def Same (asg : List Nat) (env env' : Env) : Prop := env'.length = env.length ∧ ∀ j, j ∉ asg → env'[j]? = env[j]?
theorem Same.refl {asg : List Nat} {env : Env} : Same asg env env := ⟨rfl, fun _ _ => rfl⟩
theorem Same.trans {asg : List Nat} {a b c : Env} (h : Same asg a b) (k : Same asg b c) : Same asg a c := ⟨k.1.trans h.1, fun j hj => (k.2 j hj).trans (h.2 j hj)⟩
theorem Same.imp {asg asg' : List Nat} {a b : Env} (h : Same asg a b) (i : ∀ j ∈ asg, j ∈ asg') : Same asg' a b := ⟨h.1, fun j hj => h.2 j fun h1 => hj (i j h1)⟩
/-- what is wanted behind a statement -/
def Kq (s F : Gp) (L : Lt) (asg : List Nat) (env : Env) (r : Rq) (D : Ed) (Xp : XS) : Prop := match r with
  | .nx ω' => ∀ s' g' A' env', Ext s s' → Same asg env env' → Z s' g' F L ω' env' A' → D.nx env' g'
  | .rt x ω' => ∀ s' g' A' env' v, Ext s s' → Same asg env env' → Z s' g' F L ω' env' A' → rlV F L s' g' A' x v → D.rt v g'
  | .ex c fs ws ω' => ∀ s' g' A' env' fvs, Ext s s' → Same asg env env' → Z s' g' F L ω' env' A' → fvs.map Prod.fst = fs → Shs s' ws (fvs.map Prod.snd) → Xp c fvs env' g'
  | .no => False
def SQ (f : En → Rq) (asg : List Nat) (w : WS) : Prop := ∀ (ω : En) (s g F : Gp) (L : Lt) (env : Env) (A : Ft) (D : Ed) (Xp : XS), Z s g F L ω env A → Kq s F L asg env (f ω) D Xp → w env g D Xp
section
variable {P : Prog} {ΓC : Nat → Ct} {Γ : Nat → Fe} {s g F : Gp} {L : Lt} {ω ω' ω1 : En} {env env' : Env} {A : Ft} {B C : List Addr} {asg : List Nat} {D : Ed} {Xp : XS}
theorem Kq.mono {s' : Gp} {r : Rq} (h : Kq s F L asg env r D Xp) (x : Ext s s') (sm : Same asg env env') : Kq s' F L asg env' r D Xp := by
  cases r with
  | nx ω' => exact fun s1 g1 A1 e1 x1 m z => h s1 g1 A1 e1 (x.trans x1) (sm.trans m) z
  | rt v ω' => exact fun s1 g1 A1 e1 v x1 m z r => h s1 g1 A1 e1 v (x.trans x1) (sm.trans m) z r
  | ex c fs ws ω' => exact fun s1 g1 A1 e1 fvs x1 m z a b => h s1 g1 A1 e1 fvs (x.trans x1) (sm.trans m) z a b
  | no => exact h
theorem Kq.of {α β : Type} {rel : Gp → Gp → Ft → α → β → Prop} {r : Rr α} {k : α → En → Rq} {Q : β → Gp → Prop} (h : Kq s F L asg env (r.q k) D Xp)
    (hk : ∀ a ω', r = .ok a ω' → ∀ s' g' A' b, Ext s s' → Z s' g' F L ω' env A' → rel s' g' A' a b → Kq s' F L asg env (k a ω') D Xp → Q b g') : Kg rel s F L env r Q (fun c fs g => Xp c fs env g) := by
  cases r with
  | ok a ω' => exact fun s' g' A' b x z rl => hk a ω' rfl s' g' A' b x z rl (Kq.mono h x Same.refl)
  | ex c fs ws ω' => exact fun s' g' A' fvs x z e1 e2 => h s' g' A' env fvs x Same.refl z e1 e2
  | no => exact h
/-! ### stores into parts -/
theorem putL_ix {k : Key} {v : Vl} : ∀ {kvs : List (Key × Vl)}, (kvs.map Prod.fst).Nodup → (putL kvs k v).map Prod.snd = match kIx (kvs.map Prod.fst) k with
    | some j => (kvs.map Prod.snd).set j v
    | none => kvs.map Prod.snd ++ [v] := by
  intro kvs nd
  have e2 := any_key (k := k) (kvs := kvs)
  unfold putL
  rw [e2]
  cases e : kIx (kvs.map Prod.fst) k with
  | none =>
    rw [if_neg (by simp)]
    simp
  | some j =>
    rw [if_pos (by simp)]
    simp only
    clear e2
    induction kvs generalizing j with
    | nil => cases e
    | cons p r ih =>
      rw [List.map_cons] at e nd
      unfold kIx at e
      obtain ⟨n1, n2⟩ := List.nodup_cons.mp nd
      by_cases h : p.1 = k
      · rw [if_pos h] at e
        cases e
        subst h
        have er : (r.map fun kv => if kv.1 = p.1 then (kv.1, v) else kv) = r := by
          refine (List.map_congr_left fun q hq => ?_).trans (List.map_id r)
          rw [if_neg]
          · rfl
          · rintro hh
            exact n1 (hh ▸ List.mem_map_of_mem hq)
        rw [List.map_cons, List.map_cons, er, if_pos rfl]
        rfl
      · rw [if_neg h] at e
        obtain ⟨i, e1, e2⟩ := Option.map_eq_some_iff.mp e
        subst e2
        rw [List.map_cons, List.map_cons, if_neg h, ih n2 i e1]
        rfl
theorem subW_notin {k : Key} {w : W} : ∀ {ks : List Key} {vs : List W}, k ∉ ks → subW ks vs k w = vs
  | [], vs, _ => by cases vs <;> rfl
  | q :: ks, [], _ => rfl
  | q :: ks, x :: xs, h => by
    simp only [List.mem_cons, not_or] at h
    show (if q = k then w else x) :: subW ks xs k w = x :: xs
    rw [if_neg (Ne.symm h.1), subW_notin h.2]
theorem subW_ix {k : Key} {w : W} : ∀ {ks : List Key} {vs : List W} {j : Nat}, ks.Nodup → kIx ks k = some j → ks.length = vs.length → subW ks vs k w = vs.set j w
  | [], vs, j, _, e, _ => by cases e
  | q :: ks, vs, j, nd, e, hl => by
    cases vs with
    | nil => simp at hl
    | cons x xs =>
      obtain ⟨n1, n2⟩ := List.nodup_cons.mp nd
      unfold kIx at e
      by_cases h : q = k
      · rw [if_pos h] at e
        cases e
        show (if q = k then w else x) :: subW ks xs k w = w :: xs
        rw [if_pos h]
        rw [subW_notin (h ▸ n1)]
      · rw [if_neg h] at e
        obtain ⟨i, e1, e2⟩ := Option.map_eq_some_iff.mp e
        subst e2
        show (if q = k then w else x) :: subW ks xs k w = x :: xs.set i w
        rw [if_neg h, subW_ix n2 e1 (by simpa using hl)]
theorem kIx_lt {κ : Type} [DecidableEq κ] {k : κ} : ∀ {ks : List κ} {j : Nat}, kIx ks k = some j → j < ks.length
  | [], _, e => by cases e
  | q :: ks, j, e => by
    unfold kIx at e
    by_cases h : q = k
    · rw [if_pos h] at e; cases e; simp
    · rw [if_neg h] at e
      obtain ⟨i, e1, e2⟩ := Option.map_eq_some_iff.mp e
      subst e2
      have := kIx_lt e1
      simp
      omega
theorem setItem_ok {k : W} {y x x' : W × O} {v vk u : Vl} {Q : Gp → Prop} (e : setItem k y x = some x') (hs : Sub s g) (hL : SubL L g) (rx : R s g L x.2 x.1 v B) (sk : Sh g k vk) (ry : R s g L y.2 y.1 u C) (nd : (B ++ C).Nodup)
    (kk : ∀ p c B', p ∈ B → Fr B' (B ++ C) → R s (gup g p c) L x'.2 x'.1 v B' → Q (gup g p c)) : bSet v vk u g Q := by
  obtain ⟨w, o⟩ := x
  cases o with
  | ow cs => ?_
  | _ => cases w <;> cases e
  cases w with
  | lst xs =>
    obtain ⟨p, us, B1, e1, eB, q0, q⟩ := rx
    subst e1 eB
    have hp : p ∉ B1 ++ C := (List.nodup_cons.mp nd).1
    cases k <;> first | (cases e; done) | skip
    rename_i i
    obtain ⟨j, e2, e3⟩ := Option.map_eq_some_iff.mp (show (ixN xs.length i).map (fun j => ((W.lst (xs.set j y.1), O.ow (setC cs j y.2)) : W × O)) = some x' from e)
    subst e3
    cases (sk : _ = _)
    have hj : j < xs.length := (ixN_seq e2).2.1
    obtain ⟨B2, f2, q2⟩ := q.setC hj ry (List.nodup_cons.mp nd).2
    exact .inl ⟨p, us, i, j, rfl, rfl, q0, by rw [q.len]; exact e2, kk p _ _ List.mem_cons_self (fr_cons f2 hp) (lst_upd f2 hp q2)⟩
  | dct ks xs =>
    obtain ⟨p, kvs, B1, e1, eB, q0, q1, q⟩ := rx
    subst e1 eB
    have hp : p ∉ B1 ++ C := (List.nodup_cons.mp nd).1
    obtain ⟨key, h1, h2⟩ := Option.bind_eq_some_iff.mp (show (kyW k).bind (fun k => if ks.length < sizeLine then (if cs.isEmpty && y.2.isSh then some (.dct (putW ks xs k y.1).1 (putW ks xs k y.1).2, .ow []) else if decide ks.Nodup then some (.dct (putW ks xs k y.1).1 (putW ks xs k y.1).2, .ow (setC cs ((kIx ks k).getD ks.length) y.2)) else none) else none) = some x' from e)
    have hl : kvs.length = ks.length := by rw [← q1, List.length_map]
    have fin : ∀ {cs' : List O} {xs' : List W} {B' : List Addr}, x' = (.dct (putW ks xs key y.1).1 xs', .ow cs') → ks.length < sizeLine → Fr B' (B1 ++ C) → Rl s g L cs' xs' ((putL kvs key u).map Prod.snd) B' → bSet (.ref p) vk u g Q := by
      rintro cs' xs' B' rfl hlt f r
      refine .inr ⟨p, kvs, key, rfl, kyW_ok h1 sk, q0, by rw [hl]; exact hlt, kk p _ (p :: B') List.mem_cons_self (fr_cons f hp) ⟨p, _, B', rfl, rfl, gup_same, ?_, r.mono Ext.refl.n Sub.refl fun a ha => gup_ne (by rintro rfl; exact hp (f.sub _ ha))⟩⟩
      rw [putL_keys, q1]
      unfold putW
      by_cases hc : (kIx ks key).isSome = true
      · rw [if_pos hc, if_pos hc]
      · rw [if_neg hc, if_neg hc]
    split at h2
    · rename_i hlt
      split at h2
      · rename_i hc
        cases h2
        obtain ⟨c1, c2⟩ := band hc
        have ecs : cs = [] := by simpa using c1
        subst ecs
        rw [O.isSh_iff c2] at ry
        have q' : Shs s xs (kvs.map Prod.snd) := q.2
        have := (putW_ok (k := key) ry.2 q').2
        rw [q1] at this
        exact fin (B' := []) rfl hlt ⟨List.nodup_nil, fun _ h => by simp at h⟩ ⟨rfl, this⟩
      · split at h2
        · rename_i hnd
          cases h2
          have nd' : ks.Nodup := of_decide_eq_true hnd
          have lx : xs.length = ks.length := by have := q.len; rw [List.length_map] at this; omega
          have pl := putL_ix (k := key) (v := u) (kvs := kvs) (by rw [q1]; exact nd')
          rw [q1] at pl
          cases ek : kIx ks key with
          | some j =>
            rw [ek] at pl
            have hj := kIx_lt ek
            obtain ⟨B2, f2, q2⟩ := q.setC (j := j) (by omega) ry (List.nodup_cons.mp nd).2
            refine fin (B' := B2) (xs' := xs.set j y.1) ?_ hlt f2 (by rw [pl]; exact q2)
            unfold putW
            rw [ek, if_pos (by rfl), subW_ix nd' ek lx.symm]
            rfl
          | none =>
            rw [ek] at pl
            obtain ⟨B2, f2, q2⟩ := q.setC_end ry (List.nodup_cons.mp nd).2
            refine fin (B' := B2) (xs' := xs ++ [y.1]) ?_ hlt f2 (by rw [pl]; exact q2)
            unfold putW
            rw [ek, if_neg (by simp), lx]
            rfl
        · cases h2
    · cases h2
  | _ => cases e
theorem putD_ix {f : Fd} {v : Vl} : ∀ {fvs : List (Fd × Vl)}, (putD f v fvs).map Prod.fst = (match kIx (fvs.map Prod.fst) f with
      | some _ => fvs.map Prod.fst
      | none => fvs.map Prod.fst ++ [f]) ∧ (putD f v fvs).map Prod.snd = match kIx (fvs.map Prod.fst) f with
    | some j => (fvs.map Prod.snd).set j v
    | none => fvs.map Prod.snd ++ [v]
  | [] => ⟨rfl, rfl⟩
  | p :: r => by
    unfold putD
    rw [List.map_cons]
    unfold kIx
    by_cases h : p.1 = f
    · rw [if_pos h, if_pos h]
      subst h
      exact ⟨rfl, rfl⟩
    · rw [if_neg h, if_neg h]
      obtain ⟨i1, i2⟩ := putD_ix (f := f) (v := v) (fvs := r)
      cases e : kIx (r.map Prod.fst) f with
      | none =>
        rw [e] at i1 i2
        simp only [Option.map_none, List.map_cons]
        rw [i1, i2]
        exact ⟨rfl, rfl⟩
      | some j =>
        rw [e] at i1 i2
        simp only [Option.map_some, List.map_cons]
        rw [i1, i2]
        exact ⟨rfl, rfl⟩
theorem setFld_ok {ok : Cn → Fd → Bool} {f : Fd} {y x x' : W × O} {v u : Vl} {Q : Gp → Prop} (e : setFld ok f y x = some x') (rx : R s g L x.2 x.1 v B) (ry : R s g L y.2 y.1 u C) (nd : (B ++ C).Nodup)
    (kk : ∀ p c B', p ∈ B → Fr B' (B ++ C) → R s (gup g p c) L x'.2 x'.1 v B' → Q (gup g p c)) : ∃ a c fs, v = .ref a ∧ g a = some (.ins c fs) ∧ ok c f = true ∧ fs.length < 1000 ∧ Q (gup g a (.ins c (putD f u fs))) := by
  obtain ⟨w, o⟩ := x
  cases o with
  | ow cs => ?_
  | _ => cases w <;> cases e
  cases w with
  | ins c fs xs =>
    obtain ⟨p, fvs, B1, e1, eB, q0, q1, q⟩ := rx
    subst e1 eB
    have hp : p ∉ B1 ++ C := (List.nodup_cons.mp nd).1
    have e : (if ok c f && decide (fs.length < 1000) then some ((.ins c (putF fs xs f y.1).1 (putF fs xs f y.1).2, .ow (setC cs ((kIx fs f).getD fs.length) y.2)) : W × O) else none) = some x' := e
    split at e
    · rename_i hc
      cases e
      obtain ⟨h1, h2⟩ := band hc
      have hl : fvs.length = fs.length := by rw [← q1, List.length_map]
      have lx : xs.length = fs.length := by have := q.len; rw [List.length_map] at this; omega
      obtain ⟨p1, p2⟩ := putD_ix (f := f) (v := u) (fvs := fvs)
      rw [q1] at p1 p2
      refine ⟨p, c, fvs, rfl, q0, h1, by rw [hl]; exact of_decide_eq_true h2, ?_⟩
      have fin : ∀ {cs' : List O} {xs' : List W} {fs' : List Fd} {B' : List Addr}, (W.ins c (putF fs xs f y.1).1 (putF fs xs f y.1).2, O.ow (setC cs ((kIx fs f).getD fs.length) y.2)) = (W.ins c fs' xs', O.ow cs') → (putD f u fvs).map Prod.fst = fs' → Fr B' (B1 ++ C) → Rl s g L cs' xs' ((putD f u fvs).map Prod.snd) B' → Q (gup g p (.ins c (putD f u fvs))) := by
        intro cs' xs' fs' B' ee e3 fr r
        rw [ee] at kk
        exact kk p _ (p :: B') List.mem_cons_self (fr_cons fr hp) ⟨p, _, B', rfl, rfl, gup_same, e3, r.mono Ext.refl.n Sub.refl fun a ha => gup_ne (by rintro rfl; exact hp (fr.sub _ ha))⟩
      cases ek : kIx fs f with
      | some j =>
        rw [ek] at p1 p2
        have hj := kIx_lt ek
        obtain ⟨B2, f2, q2⟩ := q.setC (j := j) (by omega) ry (List.nodup_cons.mp nd).2
        refine fin (B' := B2) (xs' := xs.set j y.1) (fs' := fs) (cs' := setC cs j y.2) ?_ p1 f2 (by rw [p2]; exact q2)
        unfold putF
        rw [ek]
        rfl
      | none =>
        rw [ek] at p1 p2
        obtain ⟨B2, f2, q2⟩ := q.setC_end ry (List.nodup_cons.mp nd).2
        refine fin (B' := B2) (xs' := xs ++ [y.1]) (fs' := fs ++ [f]) (cs' := setC cs xs.length y.2) ?_ p1 f2 (by rw [p2]; exact q2)
        unfold putF
        rw [ek, lx]
        rfl
    · cases e
  | _ => cases e
/-- a place's part is changed -/
theorem place_upd {e : Ex} {i : Nat} {p : List Nat} {f : W × O → Option (W × O)} (z : Z s g F L ω env A) (bC : Bz s F A C) (e1 : evPl P e ω = some (i, p)) (e2 : updS ω i p f = some ω') (hf : ∀ x y, f x = some y → x.2 ≠ .hole) :
    ∃ x y u B, f x = some y ∧ R s g L x.2 x.1 u B ∧ (B ++ C).Nodup ∧ (∀ (Po : Po) (Xp : Xo), Po u g → wE P ΓC e env g Po Xp) ∧ ∀ q c B', q ∈ B → Fr B' (B ++ C) → R s (gup g q c) L y.2 y.1 u B' → ∃ A', Z s (gup g q c) F L ω' env A' := by
  obtain ⟨root, h1, h2⟩ := Option.bind_eq_some_iff.mp (show (slot ω i).bind (fun wo => (updP f wo p).map fun wo' => ω.set i (some wo')) = some ω' from e2)
  obtain ⟨root', h3, h4⟩ := Option.map_eq_some_iff.mp h2
  obtain ⟨x, y, k1, k2, k3⟩ := updP_get p _ _ h3
  have hx := hf x y k2
  obtain ⟨v0, u, q1, q2, q3⟩ := evPl_ok (ΓC := ΓC) z e i p e1 root h1 x k1 hx
  obtain ⟨v0', q4, rr⟩ := z.slot h1
  rw [q1] at q4
  cases q4
  obtain ⟨z1, b1⟩ := z.take (i := i)
  have bC1 : Bz s F (fup A i []) C := ⟨bC.nd, fun k a ha hk => by
    by_cases hki : k = i
    · subst hki; exact take_mem hk
    · rw [fup_ne hki] at hk; exact bC.dj k a ha hk, bC.hs, bC.hF⟩
  obtain ⟨u', B1, e3, rx, nd1, hsub, kk⟩ := z1.plug bC1 q1 rr b1 (fun a ha => bC.dj i a ha) k1 hx k3
  rw [q2] at e3
  cases e3
  refine ⟨x, y, u, B1, k2, rx, nd1, q3, fun q c B' hq fr r => ?_⟩
  obtain ⟨A2, z2⟩ := kk q c B' hq fr r
  have ew : (ω.set i none).set i (some root') = ω' := by rw [← h4]; simp
  rw [ew] at z2
  exact ⟨A2, z2⟩
theorem setItem_hole {k : W} {v x y : W × O} (h : setItem k v x = some y) : x.2 ≠ .hole := by
  rintro hh
  obtain ⟨w, o⟩ := x
  cases (show o = .hole from hh)
  cases w <;> cases h
theorem setFld_hole {ok : Cn → Fd → Bool} {f : Fd} {v x y : W × O} (h : setFld ok f v x = some y) : x.2 ≠ .hole := by
  rintro hh
  obtain ⟨w, o⟩ := x
  cases (show o = .hole from hh)
  cases w <;> cases h
/-! ### targets -/
/-- several values, some of them one's own, into slots -/
theorem setManyO : ∀ (is : List Nat) {os : List O} {xs : List W} {vs : List Vl} {B : List Addr} {ω : En} {env : Env} {A : Ft}, Z s g F L ω env A → Bz s F A B → Rl s g L os xs vs B → xs.length = is.length → ∃ A2, Z s g F L (bndCT.setMany ω is (partsO os xs)) (setE env is vs) A2 ∧ Same is env (setE env is vs)
  | [], os, xs, vs, B, ω, env, A, z, b, r, hl => by
    cases xs with
    | cons _ _ => simp at hl
    | nil =>
      have : setE env [] vs = env := by cases vs <;> rfl
      rw [this]
      have : bndCT.setMany ω [] (partsO os []) = ω := by cases os <;> rfl
      rw [this]
      exact ⟨A, z, Same.refl⟩
  | i :: is, os, xs, vs, B, ω, env, A, z, b, r, hl => by
    cases xs with
    | nil => simp at hl
    | cons x xs =>
      have split : ∃ o os' y ys B1 B2, partsO os (x :: xs) = (x, o) :: partsO os' xs ∧ vs = y :: ys ∧ B = B1 ++ B2 ∧ R s g L o x y B1 ∧ Rl s g L os' xs ys B2 := by
        cases os with
        | nil =>
          obtain ⟨e, y, ys, e1, q, q2⟩ := r
          exact ⟨.sh, [], y, ys, [], [], rfl, e1, by simp [e], ⟨rfl, q⟩, rfl, q2⟩
        | cons o os =>
          obtain ⟨w1, ws', v1, vs', A1, A2, e1, e2, e3, q, q2⟩ := r
          cases e1
          exact ⟨o, os, v1, vs', A1, A2, rfl, e2, e3, q, q2⟩
      obtain ⟨o, os', y, ys, B1, B2, ep, ev, eB, q, q2⟩ := split
      subst ev eB
      obtain ⟨n1, n2, n3⟩ := nodup_app b.nd
      have b1 : Bz s F A B1 := b.sub ⟨n1, fun a h => List.mem_append_left _ h⟩
      have z1 := z.put (i := i) b1 q
      have b2 : Bz s F (fup A i B1) B2 := ⟨n2, fun k a ha hk => by
        by_cases hki : k = i
        · subst hki; rw [fup_same] at hk; exact n3 a hk ha
        · rw [fup_ne hki] at hk; exact b.dj k a (List.mem_append_right _ ha) hk, fun a ha => b.hs a (List.mem_append_right _ ha), fun a ha => b.hF a (List.mem_append_right _ ha)⟩
      obtain ⟨A2, z2, m⟩ := setManyO is z1 b2 q2 (by simpa using hl)
      rw [ep]
      refine ⟨A2, z2, ?_, fun j hj => ?_⟩
      · show (setE (env.set i (some y)) is ys).length = _
        rw [m.1, List.length_set]
      · simp only [List.mem_cons, not_or] at hj
        show (setE (env.set i (some y)) is ys)[j]? = _
        rw [m.2 j hj.2, List.getElem?_set_ne (Ne.symm hj.1)]
theorem wGs_ok {Q : Env → Gp → Prop} : ∀ (is : List Nat) {vs : List Vl} {env : Env}, vs.length = is.length → Q (setE env is vs) g → wGs is vs env g Q Xp
  | [], vs, env, hl, h => by
    cases vs with
    | nil => exact ⟨rfl, h⟩
    | cons _ _ => simp at hl
  | i :: is, vs, env, hl, h => by
    cases vs with
    | nil => simp at hl
    | cons v vs => exact ⟨v, vs, rfl, wGs_ok is (by simpa using hl) h⟩
theorem evG_ok {t : Tg} {x : W × O} {v : Vl} {Q : Env → Gp → Prop} (e : evG P t x ω = some ω1) (z : Z s g F L ω env A) (rl : rlV F L s g A x v) (k : ∀ s' g' A' env', Ext s s' → Same (asgT t) env env' → Z s' g' F L ω1 env' A' → Q env' g') : wG P ΓC t v env g Q Xp := by
  obtain ⟨fr, B, b, r⟩ := rl
  cases t with
  | name i =>
    cases e
    refine k s g _ _ Ext.refl ⟨by simp, fun j hj => ?_⟩ (z.put (i := i) b r)
    rw [List.getElem?_set_ne (by rintro rfl; exact hj (by simp [asgT]))]
  | tup is =>
    obtain ⟨w, o⟩ := x
    cases w <;> first | (cases e; done) | skip
    rename_i xs
    have e : (if xs.length = is.length then (parts o xs).map fun ps => bndCT.setMany ω is ps else none) = some ω1 := e
    split at e
    · rename_i hl
      obtain ⟨ps, e1, e2⟩ := Option.map_eq_some_iff.mp e
      subst e2
      have : ∃ os vs, v = .tup vs ∧ ps = partsO os xs ∧ Rl s g L os xs vs B := by
        cases o with
        | sh =>
          cases e1
          obtain ⟨eB, vs, e2, q⟩ := r
          exact ⟨[], vs, e2, rfl, eB, q⟩
        | tp cs =>
          cases e1
          obtain ⟨vs, e2, q⟩ := r
          exact ⟨cs, vs, e2, rfl, q⟩
        | _ => cases e1
      obtain ⟨os, vs, ev, ep, q⟩ := this
      subst ep
      obtain ⟨A2, z2, m⟩ := setManyO is z b q hl
      have hlv : vs.length = is.length := by rw [q.len]; exact hl
      exact ⟨vs, ev, hlv, wGs_ok is hlv (k s g A2 _ Ext.refl m z2)⟩
    · cases e
  | tup2 i is =>
    obtain ⟨w, o⟩ := x
    cases w <;> first | (cases e; done) | skip
    rename_i ws
    match ws, o, e with
    | [a, .tup xs], .sh, e =>
      have e : (if xs.length = is.length then some (bndCT.setMany (ω.set i (some (a, .sh))) is (xs.map (·, .sh))) else none) = some ω1 := e
      split at e
      · rename_i hl
        cases e
        obtain ⟨eB, vs, ev, y1, ys1, e2, q1, y2, ys2, e3, q2, q3⟩ := r
        have e4 : ys2 = [] := q3
        subst e4 e3 e2
        obtain ⟨us, e5, q4⟩ := q2
        subst e5
        have z1 := z.put (i := i) (o := .sh) (w := a) (v := y1) (B := []) Bz.nil ⟨rfl, q1⟩
        obtain ⟨A2, z2, _, h2, h3⟩ := setMany_ok is z1 q4 hl
        have hlu : us.length = is.length := by rw [q4.length]; exact hl
        refine ⟨[y1, .tup us], ev, rfl, y1, [.tup us], rfl, .tup us, [], rfl, us, rfl, hlu, wGs_ok is hlu ⟨rfl, k s g A2 _ Ext.refl ⟨?_, fun j hj => ?_⟩ z2⟩⟩
        · rw [h3, List.length_set]
        · have hj : j ∉ i :: is := hj
          simp only [List.mem_cons, not_or] at hj
          rw [h2 j hj.2, List.getElem?_set_ne (Ne.symm hj.1)]
      · cases e
  | sub o i =>
    have e : (match evPl P o ω, evQ P i ω with
      | some (j, p), some k => updS ω j p (setItem k.1 x)
      | _, _ => none) = some ω1 := e
    split at e
    · rename_i j p key e1 e2
      obtain ⟨x0, y0, u, B1, h1, h2, h3, h4, h5⟩ := place_upd (ΓC := ΓC) z b e1 e (fun _ _ => setItem_hole)
      refine h4 _ _ (sndQ z i key e2 _ _ fun vk bk => ?_)
      refine setItem_ok h1 z.sg z.Lg h2 (bk.sh z.sg z.Lg) r h3 fun q c B' hq f r' => ?_
      obtain ⟨A2, z2⟩ := h5 q c B' hq f r'
      exact k s _ A2 env Ext.refl Same.refl z2
    · cases e
end
end MP
set_option Elab.async false
set_option linter.all false
set_option maxRecDepth 100000
set_option maxHeartbeats 1000000
/-! EV, part 23: the evaluator is right about statements, defs, laws. -/
namespace MP
open PySem PySem.Spec PyProof.Rows L2
section
variable {P : Prog} {ΓC : Nat → Ct} {Γ : Nat → Fe} {s g F : Gp} {L : Lt} {ω ω' ω1 : En} {env env' : Env} {A : Ft} {B C : List Addr} {asg : List Nat} {D : Ed} {Xp : XS}
theorem retV_ok {i : Nat} {Po : Po} {Xo : Xo} (z : Z s g F L ω env A) (h : Kg (rlV F L) s F L env (retV i ω) Po Xo) : wVar i env g Po Xo := by
  unfold retV at h
  split at h
  · rename_i w o e
    obtain ⟨v, e1, r⟩ := z.slot e
    refine ⟨v, e1, ?_⟩
    split at h
    · rename_i hs
      have eo : o = .sh := O.isSh_iff hs
      subst eo
      exact ok_sh h z ⟨rfl, _, r⟩
    · split at h
      · rename_i hf
        obtain ⟨z1, b1⟩ := z.take (i := i)
        exact h s g _ v Ext.refl z1 ⟨hf, A i, b1, r⟩
      · exact h.elim
  · exact h.elim
variable (hΓ : ∀ i, SndF (Γ i) (ΓC i))
include hΓ
theorem sndRs : ∀ (es : Exs), SL (evRs P Γ es) (wA P ΓC es)
  | .nil => fun ω s g F L env A Po Xp z h => h s g A [] Ext.refl z ⟨rfl, [], Bz.nil, rfl, rfl⟩
  | .cons e r => by
    have hd : SV (fun ω => match e with
      | .var i => retV i ω
      | e => evV P Γ e ω) (wE P ΓC e) := by
      cases e with
      | var i => exact fun ω s g F L env A Po Xp z h => retV_ok z h
      | _ => exact sndV hΓ _
    exact fun ω s g F L env A Po Xp z h => hd ω s g F L env A _ Xp z (Kg.bind h fun d ω1 _ s1 g1 A1 v x1 z1 rl h1 => by
      obtain ⟨fr, B, b, rd⟩ := rl
      refine sndRs r ω1 s1 g1 (addS F g1 B) L env A1 _ Xp (z1.frame b) (Kg.bindF rd.dom b z1.LF h1 fun ds ω2 _ s2 g2 A2 vs x2 z2 b2 hg _ rl2 h2 => ?_)
      obtain ⟨fr2, C, bC, rC⟩ := rl2
      obtain ⟨bC', hout⟩ := bC.mono_F rd.dom b.hF
      refine h2 s2 g2 A2 (v :: vs) Ext.refl z2 ⟨?_, B ++ C, b2.append bC' hout, _, _, v, vs, B, C, rfl, rfl, rfl, rd.mono x2.n Sub.refl hg, rC⟩
      show (d.2.free && O.frees (ds.map Prod.snd)) = true
      rw [fr, fr2]
      rfl)
theorem sndR (e : Ex) : SV (evR P Γ e) (wE P ΓC e) := by
  cases e with
  | var i => exact fun ω s g F L env A Po Xp z h => retV_ok z h
  | tup es => exact fun ω s g F L env A Po Xp z h => xTup_ok (sndRs hΓ es) z h
  | _ => exact sndV hΓ _
omit hΓ in
/-- what is locked is stored into by nobody -/
theorem walkE_bad {k : Wt} {e : Ex} {ve : En → Rr (W × O)} {bad : List Nat} {xs : List W} {i : Nat} (h : walkE k e ve bad ω = .ok (xs, some i) ω') : i ∉ bad := by
  have hV : ∀ {j : Nat}, walkV k bad j ω = .ok (xs, some i) ω' → i ∉ bad := by
    intro j h
    unfold walkV at h
    split at h
    · cases h
    · split at h
      · cases h
      · split at h
        · cases h
        · cases h
        · split at h
          · split at h
            · cases h
            · rename_i hb
              split at h
              · cases h
                simpa using hb
              · cases h
          · cases h
        · cases h
  have hT : ((ve ω).bind (walkT k)) = .ok (xs, some i) ω' → i ∉ bad := by
    intro h
    cases e1 : ve ω with
    | ok x ω1 =>
      rw [e1] at h
      have h : walkT k x ω1 = .ok (xs, some i) ω' := h
      unfold walkT at h
      split at h
      · cases h
      · split at h
        · cases h
        · cases h
    | ex _ _ _ _ => rw [e1] at h; cases h
    | no => rw [e1] at h; cases h
  cases e with
  | var j => exact hV h
  | _ => exact hT h
omit hΓ in
theorem evW_bad {w : Wk} {bad : List Nat} {xs : List W} {i : Nat} (h : evW P Γ w bad ω = .ok (xs, some i) ω') : i ∉ bad := by
  cases w with
  | seq e => exact walkE_bad h
  | keys e => exact walkE_bad h
  | vals e => exact walkE_bad h
  | items e => exact walkE_bad h
  | str e =>
    have h : ((evV P Γ e ω).bind fun x ω1 => match x.1 with
      | .str z => .ok (z.cps.toList.map fun c => W.str ⟨#[c]⟩, none) ω1
      | _ => .no) = .ok (xs, some i) ω' := h
    cases e1 : evV P Γ e ω with
    | ok x ω1 =>
      rw [e1] at h
      have h : (match x.1 with
        | .str z => .ok (z.cps.toList.map fun c => W.str ⟨#[c]⟩, none) ω1
        | _ => .no : Rr (List W × Option Nat)) = .ok (xs, some i) ω' := h
      split at h <;> cases h
    | ex _ _ _ _ => rw [e1] at h; cases h
    | no => rw [e1] at h; cases h
  | rng es =>
    have h : ((evVs P Γ es ω).bind fun ps ω1 => optR ((rngW (ps.map Prod.fst)).map (·, none)) ω1) = .ok (xs, some i) ω' := h
    cases e1 : evVs P Γ es ω with
    | ok ps ω1 =>
      rw [e1] at h
      have h : optR ((rngW (ps.map Prod.fst)).map (·, none)) ω1 = (.ok (xs, some i) ω' : Rr (List W × Option Nat)) := h
      cases e2 : rngW (ps.map Prod.fst) with
      | none => rw [e2] at h; cases h
      | some ys => rw [e2] at h; cases h
    | ex _ _ _ _ => rw [e1] at h; cases h
    | no => rw [e1] at h; cases h
omit hΓ in
/-- the turns of a for -/
theorem forL_ok {F1 : Gp} {L1 : Lt} {chk : Gp → Prop} {l : Lk} {tg : WG} {body : WS} {fb : En → Rq} {bnd : W → En → Option En} {a1 a2 : List Nat} (hb : SQ fb a2 body)
    (ht : ∀ {x : W} {ω ω1 : En} {s g : Gp} {env : Env} {A : Ft} {v : Vl} {Q : Env → Gp → Prop}, bnd x ω = some ω1 → Z s g F1 L1 ω env A → Sh s x v → (∀ s' g' A' env', Ext s s' → Same a1 env env' → Z s' g' F1 L1 ω1 env' A' → Q env' g') → tg v env g Q Xp) :
    ∀ (xs : List W) {vs : List Vl} {ω : En} {s g : Gp} {A : Ft} {env : Env}, Z s g F1 L1 ω env A → Shs s xs vs → (∀ s2 g2, Ext s s2 → Sub s2 g2 → Sub F1 g2 → chk g2) → Kq s F1 L1 (a1 ++ a2) env (forL bnd fb xs ω) ⟨fun env g => exG l g (D.nx env), fun v g => exG l g (D.rt v)⟩ Xp → wLoop chk l tg body D Xp vs env g
  | [], vs, ω, s, g, A, env, z, q, hc, h => by
    have e : vs = [] := q
    subst e
    exact ⟨hc s g Ext.refl z.sg z.Fg, h s g A env Ext.refl Same.refl z⟩
  | x :: xs, vs, ω, s, g, A, env, z, q, hc, h => by
    obtain ⟨y, ys, e, q1, q2⟩ := q
    subst e
    refine ⟨hc s g Ext.refl z.sg z.Fg, ?_⟩
    unfold forL at h
    split at h
    · exact h.elim
    · rename_i ω1 e1
      refine ht e1 z q1 fun s1 g1 A1 env1 x1 m1 z1 => ?_
      have m1' : Same (a1 ++ a2) env env1 := m1.imp fun j hj => List.mem_append_left _ hj
      refine hb ω1 s1 g1 F1 L1 env1 A1 _ Xp z1 ?_
      cases e2 : fb ω1 with
      | nx ω2 =>
        rw [e2] at h
        intro s2 g2 A2 env2 x2 m2 z2
        have m2' : Same (a1 ++ a2) env env2 := m1'.trans (m2.imp fun j hj => List.mem_append_right _ hj)
        exact forL_ok hb ht xs z2 (q2.mono (x1.trans x2).n) (fun s3 g3 x3 => hc s3 g3 ((x1.trans x2).trans x3)) (Kq.mono h (x1.trans x2) m2')
      | rt v ω2 =>
        rw [e2] at h
        exact fun s2 g2 A2 env2 u x2 m2 z2 rl => h s2 g2 A2 env2 u (x1.trans x2) (m1'.trans (m2.imp fun j hj => List.mem_append_right _ hj)) z2 rl
      | ex c fs ws ω2 =>
        rw [e2] at h
        exact fun s2 g2 A2 env2 fvs x2 m2 z2 a b => h s2 g2 A2 env2 fvs (x1.trans x2) (m1'.trans (m2.imp fun j hj => List.mem_append_right _ hj)) z2 a b
      | no => rw [e2] at h; exact h
omit hΓ in
theorem partsO_self : ∀ (ps : List (W × O)), partsO (ps.map Prod.snd) (ps.map Prod.fst) = ps
  | [] => rfl
  | p :: ps => by show (p.1, p.2) :: partsO (ps.map Prod.snd) (ps.map Prod.fst) = _; rw [partsO_self ps]
mutual
theorem sndS : ∀ (st : St), SQ (evS P Γ st) (asgS st) (wS P ΓC st)
  | .expr e => fun ω s g F L env A D Xp z h => sndV hΓ e ω s g F L env A _ _ z (Kq.of h fun x ω' _ s' g' A' v xx z' rl hh => hh s' g' A' env Ext.refl Same.refl z')
  | .ret e => fun ω s g F L env A D Xp z h => sndR hΓ e ω s g F L env A _ _ z (Kq.of h fun x ω' _ s' g' A' v xx z' rl hh => hh s' g' A' env v Ext.refl Same.refl z' rl)
  | .retN => fun ω s g F L env A D Xp z h => h s g A env .non Ext.refl Same.refl z (rlV.of_sh rfl)
  | .ite c a b => fun ω s g F L env A D Xp z h => sndT hΓ c ω s g F L env A _ _ z (Kq.of h fun k ω' _ s' g' A' k' xx z' e hh => by
      cases (show k = k' from e)
      cases k with
      | true =>
        refine sndB a ω' s' g' F L env A' D Xp z' ?_
        have hh : Kq s' F L (asgB a ++ asgB b) env (evB P Γ a ω') D Xp := hh
        cases e1 : evB P Γ a ω' with
        | nx ω2 => rw [e1] at hh; exact fun s2 g2 A2 e2 x2 m z2 => hh s2 g2 A2 e2 x2 (m.imp fun j hj => List.mem_append_left _ hj) z2
        | rt v ω2 => rw [e1] at hh; exact fun s2 g2 A2 e2 v x2 m z2 r => hh s2 g2 A2 e2 v x2 (m.imp fun j hj => List.mem_append_left _ hj) z2 r
        | ex c fs ws ω2 => rw [e1] at hh; exact fun s2 g2 A2 e2 fvs x2 m z2 p q => hh s2 g2 A2 e2 fvs x2 (m.imp fun j hj => List.mem_append_left _ hj) z2 p q
        | no => rw [e1] at hh; exact hh
      | false =>
        refine sndB b ω' s' g' F L env A' D Xp z' ?_
        have hh : Kq s' F L (asgB a ++ asgB b) env (evB P Γ b ω') D Xp := hh
        cases e1 : evB P Γ b ω' with
        | nx ω2 => rw [e1] at hh; exact fun s2 g2 A2 e2 x2 m z2 => hh s2 g2 A2 e2 x2 (m.imp fun j hj => List.mem_append_right _ hj) z2
        | rt v ω2 => rw [e1] at hh; exact fun s2 g2 A2 e2 v x2 m z2 r => hh s2 g2 A2 e2 v x2 (m.imp fun j hj => List.mem_append_right _ hj) z2 r
        | ex c fs ws ω2 => rw [e1] at hh; exact fun s2 g2 A2 e2 fvs x2 m z2 p q => hh s2 g2 A2 e2 fvs x2 (m.imp fun j hj => List.mem_append_right _ hj) z2 p q
        | no => rw [e1] at hh; exact hh)
  | .asg t e => fun ω s g F L env A D Xp z h => sndV hΓ e ω s g F L env A _ _ z (Kq.of h fun x ω' _ s' g' A' v xx z' rl hh => by
      have hh : Kq s' F L (asgT t) env (optQ (evG P t x ω')) D Xp := hh
      cases e1 : evG P t x ω' with
      | none => rw [e1] at hh; exact hh.elim
      | some ω1 =>
        rw [e1] at hh
        exact evG_ok e1 z' rl fun s2 g2 A2 env2 x2 m2 z2 => hh s2 g2 A2 env2 x2 m2 z2)
  | .setc i e => fun ω s g F L env A D Xp z h => sndV hΓ e ω s g F L env A _ _ z (Kq.of h fun x ω' _ s' g' A' v xx z' rl hh =>
      evG_ok (P := P) (ΓC := ΓC) (Xp := Xp) (t := .name i) (x := x) (ω1 := ω'.set i (some x)) rfl z' rl fun s2 g2 A2 env2 x2 m2 z2 => hh s2 g2 A2 env2 x2 m2 z2)
  | .par is es => fun ω s g F L env A D Xp z h => sndVs hΓ es ω s g F L env A _ _ z (Kq.of h fun ps ω' _ s' g' A' vs xx z' rl hh => by
      obtain ⟨fr, B, b, r⟩ := rl
      have hh : Kq s' F L is env (if ps.length = is.length then .nx (bndCT.setMany ω' is ps) else .no) D Xp := hh
      split at hh
      · rename_i hl
        have ep := partsO_self ps
        obtain ⟨A2, z2, m⟩ := setManyO is z' b r (by simpa using hl)
        rw [ep] at z2
        have lv : vs.length = is.length := by have := r.len; rw [List.length_map] at this; omega
        exact ⟨lv, hh s' g' A2 _ Ext.refl m z2⟩
      · exact hh.elim)
  | .fld f o e => fun ω s g F L env A D Xp z h => sndV hΓ e ω s g F L env A _ _ z (Kq.of h fun x ω' _ s' g' A' v xx z' rl hh => by
      obtain ⟨fr, B, b, r⟩ := rl
      have hh : Kq s' F L [] env (match evPl P o ω' with
        | some (i, p) => optQ (updS ω' i p (setFld P.fok f x))
        | none => .no) D Xp := hh
      split at hh
      · rename_i i p e1
        cases e2 : updS ω' i p (setFld P.fok f x) with
        | none => rw [e2] at hh; exact hh.elim
        | some ω2 =>
          rw [e2] at hh
          obtain ⟨x0, y0, u, B1, h1, h2, h3, h4, h5⟩ := place_upd (ΓC := ΓC) z' b e1 e2 (fun _ _ => setFld_hole)
          refine h4 _ _ (setFld_ok h1 h2 r h3 fun q c B' hq f r' => ?_)
          obtain ⟨A2, z2⟩ := h5 q c B' hq f r'
          exact hh s' _ A2 env Ext.refl Same.refl z2
      · exact hh.elim)
  | .for_ t w b => fun ω s g F L env A D Xp z h => by
    refine sndW hΓ w (asgT t ++ asgB b) ω s g F L env A _ _ z ?_
    have h : Kq s F L (asgT t ++ asgB b) env ((evW P Γ w (asgT t ++ asgB b) ω).q fun xu ω1 => (forL (fun x => evG P t (x, .sh)) (evB P Γ b) xu.1 ω1).unlk xu.2) D Xp := h
    cases e1 : evW P Γ w (asgT t ++ asgB b) ω with
    | no => rw [e1] at h; exact h
    | ex c fs ws ω1 => rw [e1] at h; exact fun s' g' A' fvs x z' a b => h s' g' A' env fvs x Same.refl z' a b
    | ok xu ω1 =>
      rw [e1] at h
      intro g1 vs chk l wk
      obtain ⟨s1, F1, L1, A1, x1, z1, q, hc, we⟩ := wk.ex
      have hu : ∀ env2, Same (asgT t ++ asgB b) env env2 → ∀ i, xu.2 = some i → env2[i]? = env[i]? := fun env2 m i hi => m.2 i (by
        obtain ⟨xs, u⟩ := xu
        cases (show u = some i from hi)
        exact evW_bad e1)
      have h : Kq s F L (asgT t ++ asgB b) env ((forL (fun x => evG P t (x, .sh)) (evB P Γ b) xu.1 ω1).unlk xu.2) D Xp := h
      refine forL_ok (a1 := asgT t) (a2 := asgB b) (sndB b) (fun {x ω ω1 s g env A v Q} e z q k => evG_ok e z (rlV.of_sh q) k) xu.1 z1 q hc ?_
      cases e2 : forL (fun x => evG P t (x, .sh)) (evB P Γ b) xu.1 ω1 with
      | nx ω2 =>
        rw [e2] at h
        have h : Kq s F L (asgT t ++ asgB b) env (match MP.unlk xu.2 ω2 with
          | some ω' => .nx ω'
          | none => .no) D Xp := h
        intro s2 g2 A2 env2 x2 m2 z2
        cases e3 : MP.unlk xu.2 ω2 with
        | none => rw [e3] at h; exact h.elim
        | some ω3 =>
          rw [e3] at h
          refine we.ok x2 z2 (hu env2 m2) (fun ω4 s3 g3 A3 e4 x3 _ z3 _ => ?_) (by rw [e3]; rfl)
          rw [e3] at e4
          cases e4
          exact h s3 g3 A3 env2 x3 m2 z3
      | rt v ω2 =>
        rw [e2] at h
        have h : Kq s F L (asgT t ++ asgB b) env (match MP.unlk xu.2 ω2 with
          | some ω' => .rt v ω'
          | none => .no) D Xp := h
        intro s2 g2 A2 env2 u x2 m2 z2 rl
        cases e3 : MP.unlk xu.2 ω2 with
        | none => rw [e3] at h; exact h.elim
        | some ω3 =>
          rw [e3] at h
          obtain ⟨fr, C, bC, rC⟩ := rl
          refine we.ok x2 z2 (hu env2 m2) (fun ω4 s3 g3 A3 e4 x3 x4 z3 hb => ?_) (by rw [e3]; rfl)
          rw [e3] at e4
          cases e4
          obtain ⟨h1, h2⟩ := hb C bC
          exact h s3 g3 A3 env2 u x3 m2 z3 ⟨fr, C, h2, rC.mono x4 (Sub.refl) h1 |>.anyL fr⟩
      | ex c fs ws ω2 =>
        rw [e2] at h
        have h : Kq s F L (asgT t ++ asgB b) env (match unlkX xu.2 ω2 with
          | some ω' => .ex c fs ws ω'
          | none => .no) D Xp := h
        intro s2 g2 A2 env2 fvs x2 m2 z2 a1 a2
        cases e3 : unlkX xu.2 ω2 with
        | none => rw [e3] at h; exact h.elim
        | some ω3 =>
          rw [e3] at h
          obtain ⟨s3, A3, x3, x4, z3⟩ := we.ex x2 z2 (hu env2 m2) ω3 e3
          exact h s3 g2 A3 env2 fvs x3 m2 z3 a1 (a2.mono x4)
      | no => rw [e2] at h; exact h
  | .while_ c b => fun ω s g F L env A D Xp z h => by
    have key : ∀ (n : Nat) (ω : En) (s g : Gp) (env : Env) (A : Ft), Z s g F L ω env A → Kq s F L (asgB b) env (whileL (evT P Γ c) (evB P Γ b) n ω) D Xp → Nat.rec (motive := fun _ => Env → Gp → Prop) (fun _ _ => False) (fun _ again env g => wT P ΓC c env g (fun k g1 => if k = true then wSs P ΓC b env g1 { D with nx := again } Xp else D.nx env g1) fun c fs g => Xp c fs env g) n env g := by
      intro n
      induction n with
      | zero => exact fun ω s g env A z h => h.elim
      | succ n ih =>
        intro ω s g env A z h
        refine sndT hΓ c ω s g F L env A _ _ z (Kq.of h fun k ω' _ s' g' A' k' xx z' e hh => ?_)
        cases (show k = k' from e)
        cases k with
        | false => exact hh s' g' A' env Ext.refl Same.refl z'
        | true =>
          have hh : Kq s' F L (asgB b) env ((evB P Γ b ω').bind (whileL (evT P Γ c) (evB P Γ b) n)) D Xp := hh
          refine sndB b ω' s' g' F L env A' _ Xp z' ?_
          cases e1 : evB P Γ b ω' with
          | nx ω2 =>
            rw [e1] at hh
            exact fun s2 g2 A2 e2 x2 m z2 => ih ω2 s2 g2 e2 A2 z2 (Kq.mono hh x2 m)
          | rt v ω2 => rw [e1] at hh; exact hh
          | ex c fs ws ω2 => rw [e1] at hh; exact hh
          | no => rw [e1] at hh; exact hh
    exact ⟨fuel, key fuel ω s g env A z h⟩
  | .raise c e => fun ω s g F L env A D Xp z h => sndV hΓ e ω s g F L env A _ _ z (Kq.of h fun x ω' _ s' g' A' v xx z' rl hh => hh s' g' A' env [] Ext.refl Same.refl z' rfl rfl)
theorem sndB : ∀ (b : Sts), SQ (evB P Γ b) (asgB b) (wSs P ΓC b)
  | .nil => fun ω s g F L env A D Xp z h => h s g A env Ext.refl Same.refl z
  | .cons st r => fun ω s g F L env A D Xp z h => by
    refine sndS st ω s g F L env A _ Xp z ?_
    have h : Kq s F L (asgS st ++ asgB r) env ((evS P Γ st ω).bind fun ω1 => evB P Γ r ω1) D Xp := h
    cases e1 : evS P Γ st ω with
    | nx ω1 =>
      rw [e1] at h
      intro s1 g1 A1 env1 x1 m1 z1
      have m1' : Same (asgS st ++ asgB r) env env1 := m1.imp fun j hj => List.mem_append_left _ hj
      have h : Kq s F L (asgS st ++ asgB r) env (evB P Γ r ω1) D Xp := h
      refine sndB r ω1 s1 g1 F L env1 A1 D Xp z1 ?_
      have h2 := Kq.mono h x1 m1'
      cases e2 : evB P Γ r ω1 with
      | nx ω2 => rw [e2] at h2; exact fun s2 g2 A2 e2 x2 m z2 => h2 s2 g2 A2 e2 x2 (m.imp fun j hj => List.mem_append_right _ hj) z2
      | rt v ω2 => rw [e2] at h2; exact fun s2 g2 A2 e2 v x2 m z2 r => h2 s2 g2 A2 e2 v x2 (m.imp fun j hj => List.mem_append_right _ hj) z2 r
      | ex c fs ws ω2 => rw [e2] at h2; exact fun s2 g2 A2 e2 fvs x2 m z2 p q => h2 s2 g2 A2 e2 fvs x2 (m.imp fun j hj => List.mem_append_right _ hj) z2 p q
      | no => rw [e2] at h2; exact h2
    | rt v ω1 => rw [e1] at h; exact fun s2 g2 A2 e2 v x2 m z2 r => h s2 g2 A2 e2 v x2 (m.imp fun j hj => List.mem_append_left _ hj) z2 r
    | ex c fs ws ω1 => rw [e1] at h; exact fun s2 g2 A2 e2 fvs x2 m z2 p q => h s2 g2 A2 e2 fvs x2 (m.imp fun j hj => List.mem_append_left _ hj) z2 p q
    | no => rw [e1] at h; exact h
end
omit hΓ in
/-- a def's start -/
theorem Z.start {as : List (W × O)} {vs : List Vl} (z : Z s g F L (as.map some) (vs.map some) A) (N : List Str) : ∃ A', Z s g F L (startN N as) (startE N vs) A' := by
  have hl : as.length = vs.length := by have := z.len; simpa using this
  obtain ⟨z1, _⟩ := z.trim
  refine ⟨MP.trim (as.map some) A, ⟨?_, fun i w o e => ?_, z1.nd, z1.dj, z1.hs, z1.hF, z1.sg, z1.Fg, z1.LF, z1.sF⟩⟩
  · unfold startN startE
    simp [hl]
  · unfold startN at e
    unfold startE
    rcases Nat.lt_or_ge i as.length with h | h
    · rw [List.getElem?_append_left (by simpa using h)] at e
      rw [List.getElem?_append_left (by simpa [← hl] using h)]
      exact z1.val i w o e
    · rw [List.getElem?_append_right (by simpa using h)] at e
      exfalso
      rw [List.getElem?_replicate] at e
      split at e <;> cases e
omit hΓ in
theorem startE_get {N : List Str} {vs : List Vl} {j : Nat} (h : j < vs.length) : (startE N vs)[j]? = (vs.map some)[j]? := by
  unfold startE
  rw [List.getElem?_append_left (by simpa using h)]
omit hΓ in
/-- a def's end: the parameters that it did not store into -/
theorem Z.pars {F0 : Fn} {vs us : List Vl} {N : List Str} {n : Nat} (z : Z s g F L ω env A) (m : Same (asgB F0.body) (startE N vs) env) (hn : us.length = n) (hs : ∀ j, j < n → ((F0.star && decide (1 ≤ j)) || (asgB F0.body).contains j) = false → j < vs.length ∧ vs[j]? = us[j]?) :
    Z s g F L (parsR F0 n ω) (us.map some) A := by
  refine ⟨by unfold parsR; simp [hn], fun i w o e => ?_, z.nd, z.dj, z.hs, z.hF, z.sg, z.Fg, z.LF, z.sF⟩
  unfold parsR at e
  rw [List.getElem?_map] at e
  obtain ⟨j, e1, e2⟩ := Option.map_eq_some_iff.mp e
  have hj : j = i ∧ i < n := by
    have hi : i < n := by
      rcases Nat.lt_or_ge i n with h | h
      · exact h
      · rw [List.getElem?_eq_none (by simpa using h)] at e1; cases e1
    rw [List.getElem?_range hi] at e1
    exact ⟨(by cases e1; rfl), hi⟩
  obtain ⟨rfl, hi⟩ := hj
  split at e2
  · cases e2
  · rename_i hc
    have hc' : ((F0.star && decide (1 ≤ j)) || (asgB F0.body).contains j) = false := by simpa using hc
    obtain ⟨h1, h2⟩ := hs j hi hc'
    have hna : j ∉ asgB F0.body := by
      have : (asgB F0.body).contains j = false := (Bool.or_eq_false_iff.mp hc').2
      simpa using this
    have e3 : ω[j]? = some (some (w, o)) := by
      rw [List.getD_eq_getElem?_getD] at e2
      cases e4 : ω[j]? with
      | none => rw [e4] at e2; cases e2
      | some y => rw [e4] at e2; cases e2; rfl
    obtain ⟨v, e5, r⟩ := z.val j w o e3
    refine ⟨v, ?_, r⟩
    rw [m.2 j hna, startE_get h1, List.getElem?_map, h2] at e5
    rw [List.getElem?_map]
    exact e5
theorem evF_ok (F0 : Fn) : SndF (evF P Γ F0) (ctF P ΓC F0) := by
  intro as s g F vs A Po Xp z ff h
  have fin : ∀ {ws us : List Vl} {ω : En} {n : Nat} {A0 : Ft}, Z s g F L0 ω (startE F0.N ws) A0 → us.length = n → (∀ j, j < n → ((F0.star && decide (1 ≤ j)) || (asgB F0.body).contains j) = false → j < ws.length ∧ ws[j]? = us[j]?) →
      Kg (rlV F L0) s F L0 (us.map some) (endF F0 n (evB P Γ F0.body ω)) Po Xp → wSs P ΓC F0.body (startE F0.N ws) g ⟨fun _ g' => Po .non g', Po⟩ fun c fs _ g' => Xp c fs g' := by
    intro ws us ω n A0 z0 hn hs h
    refine sndB hΓ F0.body ω s g F L0 (startE F0.N ws) A0 _ _ z0 ?_
    cases e1 : evB P Γ F0.body ω with
    | nx ω2 => rw [e1] at h; exact fun s2 g2 A2 e2 x2 m z2 => h s2 g2 A2 .non x2 (z2.pars m hn hs) (rlV.of_sh rfl)
    | rt v ω2 => rw [e1] at h; exact fun s2 g2 A2 e2 u x2 m z2 r => h s2 g2 A2 u x2 (z2.pars m hn hs) r
    | ex c fs ws ω2 => rw [e1] at h; exact fun s2 g2 A2 e2 fvs x2 m z2 p q => h s2 g2 A2 fvs x2 (z2.pars m hn hs) p q
    | no => rw [e1] at h; exact h
  have hl : as.length = vs.length := by have := z.len; simpa using this
  unfold ctF
  unfold evF at h
  simp only at h
  by_cases hst : F0.star = true
  · rw [if_pos hst] at h ⊢
    cases as with
    | nil => exact h.elim
    | cons x r =>
      cases vs with
      | nil => simp at hl
      | cons v us =>
        have h : Kg (rlV F L0) s F L0 ((v :: us).map some) (if r.all (fun y => y.2.isSh) && decide (r.length ≤ sizeLine) then (endF F0 (r.length + 1) (evB P Γ F0.body (startN F0.N [x, (.tup (r.map Prod.fst), .sh)]))) else .no) Po Xp := h
        split at h
        · rename_i hc
          obtain ⟨h1, h2⟩ := band hc
          have lr : r.length = us.length := by simpa using hl
          refine ⟨v, us, rfl, by rw [← lr]; exact of_decide_eq_true h2, ?_⟩
          have shr : Shs s (r.map Prod.fst) us := by
            have gen : ∀ (r : List (W × O)) (us : List Vl) (k : Nat), r.length = us.length → r.all (fun y => y.2.isSh) = true → (∀ (i : Nat) (y : W × O), r[i]? = some y → ∃ u, us[i]? = some u ∧ ∃ B, R s g L0 y.2 y.1 u B) → Shs s (r.map Prod.fst) us := by
              intro r
              induction r with
              | nil => intro us k hl _ _; cases us with
                | nil => exact rfl
                | cons _ _ => simp at hl
              | cons y r ih =>
                intro us k hl ha hh
                cases us with
                | nil => simp at hl
                | cons u us =>
                  rw [List.all_cons] at ha
                  obtain ⟨a1, a2⟩ := band ha
                  obtain ⟨u', e1, B, rr⟩ := hh 0 y rfl
                  cases e1
                  rw [O.isSh_iff a1] at rr
                  exact ⟨u, us, rfl, rr.2, ih us k (by simpa using hl) a2 fun i y hy => by simpa using hh (i + 1) y (by simpa using hy)⟩
            refine gen r us 0 lr h1 fun i y hy => ?_
            obtain ⟨u, e1, rr⟩ := z.val (i + 1) y.1 y.2 (by simpa using hy)
            exact ⟨u, by simpa using map_some_get e1, _, rr⟩
          have z2 : Z s g F L0 ([x, ((W.tup (r.map Prod.fst), O.sh) : W × O)].map some) ([v, .tup us].map some) (fun i => if i = 0 then A 0 else []) := by
            refine ⟨rfl, fun i w o e => ?_, fun i => ?_, fun i j a h3 h4 => ?_, fun i a h3 => ?_, fun i a h3 => ?_, z.sg, z.Fg, z.LF, z.sF⟩
            · match i, e with
              | 0, e =>
                have ex : x = (w, o) := by simpa using e
                subst ex
                obtain ⟨u, e1, rr⟩ := z.val 0 w o rfl
                have : u = v := by simpa using e1.symm
                subst this
                exact ⟨u, rfl, rr⟩
              | 1, e => cases e; exact ⟨_, rfl, rfl, us, rfl, shr⟩
              | i + 2, e => simp at e
            · by_cases hi : i = 0
              · rw [if_pos hi]; exact z.nd 0
              · rw [if_neg hi]; exact List.nodup_nil
            · by_cases hi : i = 0
              · by_cases hj : j = 0
                · rw [hi, hj]
                · rw [if_neg hj] at h4; simp at h4
              · rw [if_neg hi] at h3; simp at h3
            · by_cases hi : i = 0
              · rw [if_pos hi] at h3; exact z.hs 0 a h3
              · rw [if_neg hi] at h3; simp at h3
            · by_cases hi : i = 0
              · rw [if_pos hi] at h3; exact z.hF 0 a h3
              · rw [if_neg hi] at h3; simp at h3
          obtain ⟨A3, z3⟩ := z2.start F0.N
          refine fin (us := v :: us) (n := r.length + 1) z3 (by simp [lr]) (fun j hj hc => ?_) h
          rw [hst] at hc
          have : ¬ 1 ≤ j := by
            intro hh
            simp [hh] at hc
          have : j = 0 := by omega
          subst this
          exact ⟨by simp, rfl⟩
        · exact h.elim
  · rw [if_neg hst] at h ⊢
    split at h
    · rename_i hnp
      obtain ⟨A3, z3⟩ := z.start F0.N
      refine ⟨by rw [← hl]; exact hnp, fin (us := vs) (n := as.length) z3 hl.symm (fun j hj hc => ⟨by omega, rfl⟩) h⟩
    · exact h.elim
end
/-- every def's run keeps its contract -/
theorem evN_ok (P : Prog) : ∀ n i, SndF (evN P n i) (ctN P n i)
  | 0, i => fun as s g F vs A Po Xp z ff h => h.elim
  | n + 1, i => by
    intro as s g F vs A Po Xp z ff h
    unfold evN at h
    unfold ctN
    cases e : P.fn i with
    | none => rw [e] at h; exact h.elim
    | some F0 =>
      rw [e] at h
      exact evF_ok (evN_ok P n) F0 as s g F vs A Po Xp z ff h
/-- a law holds if its run ends with True -/
theorem lawOk_of {P : Prog} {i nmax : Nat} (n : Nat) (hn : 2 * n ≤ 100) (h : ∀ (ns : List Int), ns.length ≤ nmax → (∀ z ∈ ns, Builtin.Int.intBits z ≤ 1048576) → ∃ ps, (evN P n i).run [(.kl (ns.map .int), .sh)] = .ok (.bl true, .sh) ps) : LawOk P i nmax := by
  refine ⟨n, hn, fun a ns hl hb => ?_⟩
  obtain ⟨ps, e⟩ := h ns hl hb
  have z : Z (fun _ => none) (fun _ => none) (fun _ => none) L0 ([((W.kl (ns.map .int), O.sh) : W × O)].map some) ([Vl.kl a (intsL ns)].map some) (fun _ => []) := by
    refine ⟨rfl, fun j w o e => ?_, fun _ => List.nodup_nil, fun _ _ _ h => (by simp at h), fun _ _ h => (by simp at h), fun _ _ h => (by simp at h), fun _ _ h => (by cases h), fun _ _ h => (by cases h), fun _ _ _ h => (by cases h), fun _ _ h => (by cases h)⟩
    match j, e with
    | 0, e => cases e; exact ⟨_, rfl, rfl, a, intsL ns, rfl, shs_ints ns⟩
    | j + 1, e => simp at e
  refine evN_ok P n i _ _ _ _ _ _ _ _ z rfl ?_
  rw [e]
  intro s' g' A' v x z' ⟨fr, B, b, r⟩
  exact r.2
end MP
set_option Elab.async false
set_option linter.all false
set_option maxRecDepth 100000
/-! MD, part 0: running the evaluator by lemmas. -/
namespace MP
open PySem PySem.Spec PyProof.Rows L2
section
variable {P : Prog} {Γ : Nat → Fe} {s : St} {r : Sts} {ω ω' : En} {x : W × O}
theorem evB_nx (h : evS P Γ s ω = .nx ω') : evB P Γ (.cons s r) ω = evB P Γ r ω' := by
  show (evS P Γ s ω).bind _ = _
  rw [h]
  rfl
theorem evB_rt (h : evS P Γ s ω = .rt x ω') : evB P Γ (.cons s r) ω = .rt x ω' := by
  show (evS P Γ s ω).bind _ = _
  rw [h]
  rfl
theorem evB_ex {c : Cn} {fs : List Fd} {ws : List W} (h : evS P Γ s ω = .ex c fs ws ω') : evB P Γ (.cons s r) ω = .ex c fs ws ω' := by
  show (evS P Γ s ω).bind _ = _
  rw [h]
  rfl
/-- an if whose test is known -/
theorem ite_t {c : Ex} {a b : Sts} (h : evT P Γ c ω = .ok true ω') : evS P Γ (.ite c a b) ω = evB P Γ a ω' := by
  show (evT P Γ c ω).q _ = _
  rw [h]
  rfl
theorem ite_f {c : Ex} {a b : Sts} (h : evT P Γ c ω = .ok false ω') : evS P Γ (.ite c a b) ω = evB P Γ b ω' := by
  show (evT P Γ c ω).q _ = _
  rw [h]
  rfl
/-- a def's run by its body's -/
theorem run_rt {F : Fn} {as : List (W × O)} (hs : F.star = false) (hn : as.length = F.np) (h : evB P Γ F.body (startN F.N as) = .rt x ω') : (evF P Γ F).run as = .ok x (parsR F as.length ω') := by
  unfold evF
  simp only [hs, hn, Bool.false_eq_true, if_false, if_true, h, endF]
theorem run_nx {F : Fn} {as : List (W × O)} (hs : F.star = false) (hn : as.length = F.np) (h : evB P Γ F.body (startN F.N as) = .nx ω') : (evF P Γ F).run as = .ok (.non, .sh) (parsR F as.length ω') := by
  unfold evF
  simp only [hs, hn, Bool.false_eq_true, if_false, if_true, h, endF]
theorem evN_fn {n i : Nat} {F : Fn} (h : P.fn i = some F) : evN P (n + 1) i = evF P (evN P n) F := by
  unfold evN
  rw [h]
/-! ### comprehensions whose turns change nothing -/
theorem restN_same : ∀ (own : List Nat) {ω ω' : En}, (∀ j, j ∉ own → ω'[j]? = ω[j]?) → ω'.length = ω.length → (∀ j ∈ own, j < ω.length) → own.Nodup → restN ω ω' own = ω := by
  intro own ω ω' h hl hlt nd
  have len : ∀ vs, (restN ω ω' vs).length = ω'.length := by
    intro vs
    induction vs with
    | nil => rfl
    | cons v vs ih => show ((restN ω ω' vs).set v _).length = _; rw [List.length_set, ih]
  have gen : ∀ (vs : List Nat), (∀ v ∈ vs, v < ω.length) → ∀ j, (restN ω ω' vs)[j]? = if j ∈ vs then ω[j]? else ω'[j]? := by
    intro vs
    induction vs with
    | nil => intro _ j; simp [restN]
    | cons v vs ih =>
      intro hv j
      show ((restN ω ω' vs).set v _)[j]? = _
      rw [List.getElem?_set, ih (fun v h => hv v (List.mem_cons_of_mem _ h)), len, hl]
      by_cases hj : v = j
      · subst hj
        have hlt : v < ω.length := hv v List.mem_cons_self
        rw [if_pos rfl, if_pos hlt, if_pos List.mem_cons_self]
        rw [List.getD_eq_getElem?_getD, List.getElem?_eq_getElem hlt]
        rfl
      · rw [if_neg hj]
        by_cases h2 : j ∈ vs
        · rw [if_pos h2, if_pos (List.mem_cons_of_mem _ h2)]
        · rw [if_neg h2, if_neg (by simp; exact ⟨Ne.symm hj, h2⟩)]
  refine List.ext_getElem? fun j => ?_
  rw [gen own hlt]
  by_cases hj : j ∈ own
  · rw [if_pos hj]
  · rw [if_neg hj, h j hj]
theorem wipe_rest {own : List Nat} {ω ω' : En} (h : wipeN ω' own = wipeN ω own) (hlt : ∀ j ∈ own, j < ω.length) (nd : own.Nodup) : restN ω ω' own = ω := by
  have hl : ω'.length = ω.length := by
    have := congrArg List.length h
    rwa [wipeN_len, wipeN_len] at this
  refine restN_same own (fun j hj => ?_) hl hlt nd
  have := congrArg (·[j]?) h
  simp only [wipeN_get, if_neg hj] at this
  exact this
/-- what a turn of a pure comprehension is -/
def PureT (t : CT) (own : List Nat) (tst : En → Rr Bool) (elt : En → Rr (W × O)) (ω : En) (f : W → Bool) (h : W → W) (x : W) : Prop :=
  ∃ ω1, bndCT t x (wipeN ω own) = some ω1 ∧ wipeN ω1 own = wipeN ω own ∧ tst ω1 = .ok (f x) ω1 ∧ (f x = true → ∃ o, O.free o = true ∧ elt ω1 = .ok (h x, o) ω1)
theorem cmpL_pure {t : CT} {own : List Nat} {tst : En → Rr Bool} {elt : En → Rr (W × O)} {ω0 : En} {f : W → Bool} {h : W → W} : ∀ (xs acc : List W) (ω : En), wipeN ω own = wipeN ω0 own → acc.length + xs.length ≤ sizeLine → (∀ x ∈ xs, PureT t own tst elt ω0 f h x) →
    ∃ ω', cmpL (fun x ω => bndCT t x (wipeN ω own)) tst elt xs acc ω = .ok (acc ++ (xs.filter f).map h) ω' ∧ wipeN ω' own = wipeN ω0 own
  | [], acc, ω, hw, _, _ => ⟨ω, by simp [cmpL], hw⟩
  | x :: xs, acc, ω, hw, hl, hp => by
    obtain ⟨ω1, b1, b2, b3, b4⟩ := hp x List.mem_cons_self
    simp only [List.length_cons] at hl
    unfold cmpL
    simp only [hw, b1, b3]
    cases hf : f x with
    | false =>
      obtain ⟨ω', e1, e2⟩ := cmpL_pure xs acc ω1 b2 (by omega) fun y hy => hp y (List.mem_cons_of_mem _ hy)
      refine ⟨ω', ?_, e2⟩
      simp only [e1, List.filter_cons, hf]
      rfl
    | true =>
      obtain ⟨o, ho, he⟩ := b4 hf
      obtain ⟨ω', e1, e2⟩ := cmpL_pure xs (acc ++ [h x]) ω1 b2 (by simp; omega) fun y hy => hp y (List.mem_cons_of_mem _ hy)
      refine ⟨ω', ?_, e2⟩
      simp only [he, frzT, ho, if_true]
      rw [if_pos (by omega)]
      simp only [e1, List.filter_cons, hf, if_true, List.map_cons, List.append_assoc, List.singleton_append]
theorem xComp_pure {t : CT} {own : List Nat} {it : Rr (List W × Option Nat)} {tst : En → Rr Bool} {elt : En → Rr (W × O)} {ω : En} {xs : List W} (f : W → Bool) (h : W → W) (hit : it = .ok (xs, none) ω) (hs : (t.slots.all (fun i => own.contains i) && decide own.Nodup) = true) (hlt : ∀ j ∈ own, j < ω.length)
    (hl : xs.length ≤ sizeLine) (hp : ∀ x ∈ xs, PureT t own tst elt ω f h x) : xComp t own it tst elt = .ok (.lst ((xs.filter f).map h), .ow []) ω := by
  subst hit
  obtain ⟨ω', e1, e2⟩ := cmpL_pure (t := t) (tst := tst) (elt := elt) (ω0 := ω) xs [] (wipeN ω own) (by rw [wipeN_idem]) (by simpa using hl) hp
  show (if t.slots.all (fun i => own.contains i) && decide own.Nodup then _ else _) = _
  rw [if_pos hs, e1]
  show Rr.ok _ (restN ω ω' own) = _
  rw [wipe_rest e2 hlt (of_decide_eq_true (band hs).2)]
  rfl
end
end MP
set_option Elab.async false
set_option linter.all false
set_option maxRecDepth 100000
set_option maxHeartbeats 4000000
/-! the law's pen: draws -/
namespace MP
open PySem PySem.Spec PyProof.Rows L2
def penW (cs : List Int) (i r : Int) : W := .lst [.lst (cs.map .int), .int i, .int r]
def penM (a : O) : O := .ow [a, .sh, .sh]
def PenO (a : O) : Prop := a = .ow [] ∨ a = .sh
def bNext : Sts := .cons (.asg (.name 1) (.ix (.var 0) (.int 1))) (.cons (.asg (.sub (.var 0) (.int 1)) (.bin .add (.var 1) (.int 1))) (.cons (.asg (.name 2) (.bin .add (.bin .mul (.var 1) (.int 1063)) (.int 41))) (.cons (.ite (.cmp .ne (.ix (.var 0) (.int 0)) (.lst (.nil))) (.cons (.asg (.name 2) (.ix (.ix (.var 0) (.int 0)) (.bin .mod (.var 1) (.blt .len (.cons (.ix (.var 0) (.int 0)) .nil))))) .nil) (.nil)) (.cons (.ite (.and (.cons (.cmp .lt (.var 1) (.blt .len (.cons (.ix (.var 0) (.int 0)) .nil))) (.cons (.cmp .ge (.var 2) (.bin .pow (.int 10) (.int 18))) .nil))) (.cons (.ret (.var 2)) .nil) (.nil)) (.cons (.asg (.name 3) (.bin .mod (.bin .add (.bin .add (.bin .mod (.var 2) (.int 2147483587)) (.bin .mul (.var 1) (.int 30089))) (.int 67)) (.int 2147483587))) (.cons (.asg (.name 4) (.bin .mod (.bin .add (.bin .add (.bin .mul (.var 3) (.var 3)) (.bin .mul (.var 1) (.int 70001))) (.int 47)) (.int 2147483563))) (.cons (.asg (.name 5) (.bin .mod (.bin .add (.bin .add (.bin .mul (.var 4) (.var 4)) (.var 3)) (.bin .mul (.bin .mul (.var 1) (.var 1)) (.int 23))) (.int 2147483549))) (.cons (.ret (.bin .add (.bin .mul (.bin .add (.bin .mul (.var 5) (.int 2147483587)) (.var 4)) (.int 2147483563)) (.var 3))) .nil))))))))
def bDraw : Sts := .cons (.ite (.cmp .lt (.ix (.var 0) (.int 2)) (.var 1)) (.cons (.asg (.sub (.var 0) (.int 2)) (.call 1002 (.cons (.var 0) .nil))) .nil) (.nil)) (.cons (.asg (.name 2) (.bin .mod (.ix (.var 0) (.int 2)) (.var 1))) (.cons (.asg (.sub (.var 0) (.int 2)) (.bin .fdiv (.ix (.var 0) (.int 2)) (.var 1))) (.cons (.ret (.var 2)) .nil)))
theorem mulw {a b : Int} (ha : a.natAbs < 2 ^ 200) (hb : b.natAbs < 2 ^ 200) : CMulW a b := by
  have h : ∀ n : Nat, n < 2 ^ 200 → n.log2 < 201 := fun n h => by
    rcases Nat.eq_zero_or_pos n with rfl | hp
    · decide
    · exact Nat.lt_succ_of_lt ((Nat.log2_lt (by omega)).mpr h)
  have h1 := h _ ha
  have h2 := h _ hb
  unfold CMulW
  omega
theorem fm {a b : Int} (h : 0 < b) : 0 ≤ a.fmod b ∧ a.fmod b < b := ⟨Int.fmod_nonneg_of_pos a h, Int.fmod_lt_of_pos a h⟩
section
variable {P : Prog} {Γ : Nat → Fe}
theorem dats_ints : ∀ (cs : List Int), W.dats (cs.map W.int) = some (cs.map PyData.int)
  | [] => rfl
  | c :: cs => by
    show (match (W.int c).dat, W.dats (cs.map W.int) with
      | some y, some ys => some (y :: ys)
      | _, _ => none) = _
    rw [dats_ints cs]
    rfl
theorem shaped_nil : SeqAt.shaped (.list []) = true := by decide
theorem shaped_ints (cs : List Int) : SeqAt.shaped (.list (cs.map .int)) = true := by
  unfold SeqAt.shaped
  have h1 : PyData.canLayAll0 (cs.map .int) = true := by
    induction cs with
    | nil => rfl
    | cons c cs ih =>
      rw [List.map_cons]
      unfold PyData.canLayAll0
      rw [ih]
      rfl
  have h2 : PyData.depthAll (cs.map .int) = 0 := by
    induction cs with
    | nil => rfl
    | cons c cs ih =>
      rw [List.map_cons]
      unfold PyData.depthAll
      rw [ih (by unfold PyData.canLayAll0 at h1; simp at h1; exact h1.2)]
      rfl
  show (PyData.canLayAll0 (cs.map .int) && decide (PyData.depthAll (cs.map .int) + 1 ≤ 64)) = true
  rw [h1, h2]
  rfl
theorem eqW_ints_nil (cs : List Int) : eqW (.lst (cs.map .int)) (.lst []) = some cs.isEmpty := by
  have e : (W.lst (cs.map .int)).dat = some (.list (cs.map .int)) := by
    show (W.dats (cs.map W.int)).map PyData.list = _
    rw [dats_ints]
    rfl
  unfold eqW
  rw [e]
  show (if SeqAt.shaped (.list (cs.map .int)) && SeqAt.shaped (.list []) then some (PyData.eqv (.list (cs.map .int)) (.list [])) else none) = _
  rw [shaped_ints, shaped_nil]
  cases cs <;> rfl
theorem get_ints (cs : List Int) (k : Nat) (h : k < cs.length) : (cs.map W.int)[k]? = some (.int (cs[k])) := by
  rw [List.getElem?_map, List.getElem?_eq_getElem h]
  rfl
def bNext2 : Sts := .cons (.asg (.name 3) (.bin .mod (.bin .add (.bin .add (.bin .mod (.var 2) (.int 2147483587)) (.bin .mul (.var 1) (.int 30089))) (.int 67)) (.int 2147483587))) (.cons (.asg (.name 4) (.bin .mod (.bin .add (.bin .add (.bin .mul (.var 3) (.var 3)) (.bin .mul (.var 1) (.int 70001))) (.int 47)) (.int 2147483563))) (.cons (.asg (.name 5) (.bin .mod (.bin .add (.bin .add (.bin .mul (.var 4) (.var 4)) (.var 3)) (.bin .mul (.bin .mul (.var 1) (.var 1)) (.int 23))) (.int 2147483549))) (.cons (.ret (.bin .add (.bin .mul (.bin .add (.bin .mul (.var 5) (.int 2147483587)) (.var 4)) (.int 2147483563)) (.var 3))) .nil)))
theorem next_tail {pw : W} {o : O} {i : Int} (h0 : 0 ≤ i) (h1 : i < 2 ^ 60) (c : Int) : ∃ v : Int, ∃ ω', evB P Γ bNext2 [some (pw, o), some (.int i, .sh), some (.int c, .sh), none, none, none] = .rt (.int v, .sh) ω' ∧ ω'[0]? = some (some (pw, o)) := by
  have m2 : CMulW i 30089 := mulw (by omega) (by decide)
  have m3 : CMulW i 70001 := mulw (by omega) (by decide)
  have m4 : CMulW i i := mulw (by omega) (by omega)
  have m5 : CMulW (i * i) 23 := mulw (by
    have : (i * i).natAbs = i.natAbs * i.natAbs := Int.natAbs_mul _ _
    rw [this]
    have h : i.natAbs < 2 ^ 60 := by omega
    calc i.natAbs * i.natAbs ≤ 2 ^ 60 * 2 ^ 60 := Nat.mul_le_mul (by omega) (by omega)
      _ < 2 ^ 200 := by decide) (by decide)
  have f1 := fm (a := (c.fmod 2147483587 + i * 30089 + 67)) (b := 2147483587) (by decide)
  generalize e1 : (c.fmod 2147483587 + i * 30089 + 67).fmod 2147483587 = x at f1
  have n1 : CMulW x x := mulw (by omega) (by omega)
  have f2 := fm (a := (x * x + i * 70001 + 47)) (b := 2147483563) (by decide)
  generalize e2 : (x * x + i * 70001 + 47).fmod 2147483563 = y at f2
  have n2 : CMulW y y := mulw (by omega) (by omega)
  have f3 := fm (a := (y * y + x + i * i * 23)) (b := 2147483549) (by decide)
  generalize e3 : (y * y + x + i * i * 23).fmod 2147483549 = z at f3
  have n3 : CMulW z 2147483587 := mulw (by omega) (by decide)
  have n4 : CMulW (z * 2147483587 + y) 2147483563 := mulw (by omega) (by decide)
  refine ⟨(z * 2147483587 + y) * 2147483563 + x, [some (pw, o), some (.int i, .sh), some (.int c, .sh), some (.int x, .sh), some (.int y, .sh), some (.int z, .sh)], ?_, rfl⟩
  simp [bNext2, evB, evS, evV, evR, qv, evQ, slotQ, opBin, m2, m3, m4, m5, n1, n2, n3, n4, e1, e2, e3, Rr.q, Rq.bind, evG, optQ, O.full, O.isSh, O.fulls]
theorem next_body {cs : List Int} {i r : Int} {a : O} (h0 : 0 ≤ i) (h1 : i < 2 ^ 60) (hl : cs.length ≤ 63) (ha : PenO a) : ∃ v : Int, ∃ ω', evB P Γ bNext [some (penW cs i r, penM a), none, none, none, none, none] = .rt (.int v, .sh) ω' ∧ ω'[0]? = some (some (penW cs (i + 1) r, penM .sh)) := by
  have m1 : CMulW i 1063 := mulw (by omega) (by decide)
  have p1 : CPow 10 18 := by decide
  have hnil := eqW_ints_nil cs
  have s1 : evS P Γ (.asg (.name 1) (.ix (.var 0) (.int 1))) [some (penW cs i r, penM a), none, none, none, none, none] = .nx [some (penW cs i r, penM a), some (.int i, .sh), none, none, none, none] := by
    rcases ha with rfl | rfl <;> rfl
  have s2 : evS P Γ (.asg (.sub (.var 0) (.int 1)) (.bin .add (.var 1) (.int 1))) [some (penW cs i r, penM a), some (.int i, .sh), none, none, none, none] = .nx [some (penW cs (i + 1) r, penM a), some (.int i, .sh), none, none, none, none] := by
    rcases ha with rfl | rfl <;> rfl
  have s3 : evS P Γ (.asg (.name 2) (.bin .add (.bin .mul (.var 1) (.int 1063)) (.int 41))) [some (penW cs (i + 1) r, penM a), some (.int i, .sh), none, none, none, none] = .nx [some (penW cs (i + 1) r, penM a), some (.int i, .sh), some (.int (i * 1063 + 41), .sh), none, none, none] := by
    simp [evS, evV, qv, evQ, slotQ, opBin, m1, Rr.q, evG, optQ, O.isSh, O.full]
  have t4 : ∀ c : Int, evT P Γ (.cmp .ne (.ix (.var 0) (.int 0)) (.lst (.nil))) [some (penW cs (i + 1) r, penM a), some (.int i, .sh), some (.int c, .sh), none, none, none] = .ok (!cs.isEmpty) [some (penW cs (i + 1) r, penM .sh), some (.int i, .sh), some (.int c, .sh), none, none, none] := by
    intro c
    have q : tq P (.cmp .ne (.ix (.var 0) (.int 0)) (.lst (.nil))) [some (penW cs (i + 1) r, penM a), some (.int i, .sh), some (.int c, .sh), none, none, none] (truR (xCmp .ne (.ok (((.lst (cs.map .int)), .sh), (.lst [], .ow [])) [some (penW cs (i + 1) r, penM .sh), some (.int i, .sh), some (.int c, .sh), none, none, none]))) = .ok (!cs.isEmpty) [some (penW cs (i + 1) r, penM .sh), some (.int i, .sh), some (.int c, .sh), none, none, none] := by
      have e : evTq P (.cmp .ne (.ix (.var 0) (.int 0)) (.lst (.nil))) [some (penW cs (i + 1) r, penM a), some (.int i, .sh), some (.int c, .sh), none, none, none] = none := by
        rcases ha with rfl | rfl <;> rfl
      unfold tq
      rw [e]
      simp [truR, xCmp, Rr.bind, opCmp, hnil, optR, truW]
    rw [← q]
    rcases ha with rfl | rfl <;> rfl
  have s5 : ∀ c : Int, cs ≠ [] → ∃ c' : Int, evS P Γ (.asg (.name 2) (.ix (.ix (.var 0) (.int 0)) (.bin .mod (.var 1) (.blt .len (.cons (.ix (.var 0) (.int 0)) .nil))))) [some (penW cs (i + 1) r, penM .sh), some (.int i, .sh), some (.int c, .sh), none, none, none] = .nx [some (penW cs (i + 1) r, penM .sh), some (.int i, .sh), some (.int c', .sh), none, none, none] := by
    intro c hc
    have hp : (0 : Int) < cs.length := by
      cases cs with
      | nil => exact absurd rfl hc
      | cons _ _ => simp
    have hm := fm (a := i) hp
    have hk : (i.fmod cs.length).toNat < cs.length := by omega
    refine ⟨cs[(i.fmod cs.length).toNat], ?_⟩
    have g := get_ints cs _ hk
    have hx : ixN cs.length (i.fmod cs.length) = some (i.fmod cs.length).toNat := by
      unfold ixN
      rw [if_pos hm.1, if_pos (by omega)]
    have hne : ¬ (cs.length : Int) = 0 := by omega
    have q : evQ P (.ix (.ix (.var 0) (.int 0)) (.bin .mod (.var 1) (.blt .len (.cons (.ix (.var 0) (.int 0)) .nil)))) [some (penW cs (i + 1) r, penM .sh), some (.int i, .sh), some (.int c, .sh), none, none, none] = some (.int cs[(i.fmod cs.length).toNat], .sh) := by
      have e : evQ P (.ix (.ix (.var 0) (.int 0)) (.bin .mod (.var 1) (.blt .len (.cons (.ix (.var 0) (.int 0)) .nil)))) [some (penW cs (i + 1) r, penM .sh), some (.int i, .sh), some (.int c, .sh), none, none, none] = ((opBin .mod (.int i) (.int (cs.map W.int).length)).map (·, O.sh)).bind fun y => ixW (.lst (cs.map .int), .sh) y.1 := rfl
      rw [e, List.length_map]
      simp only [opBin, hne, ne_eq, not_false_eq_true, if_true, Option.map_some, Option.bind_some, ixW, List.length_map, hx]
      rw [g]
      rfl
    simp [evS, evV, qv, q, Rr.q, evG, optQ, O.isSh]
  have t6 : ∀ c : Int, evT P Γ (.and (.cons (.cmp .lt (.var 1) (.blt .len (.cons (.ix (.var 0) (.int 0)) .nil))) (.cons (.cmp .ge (.var 2) (.bin .pow (.int 10) (.int 18))) .nil))) [some (penW cs (i + 1) r, penM .sh), some (.int i, .sh), some (.int c, .sh), none, none, none] = .ok (decide (i < cs.length) && decide (10 ^ 18 ≤ c)) [some (penW cs (i + 1) r, penM .sh), some (.int i, .sh), some (.int c, .sh), none, none, none] := by
    intro c
    have q1 : evTq P (.cmp .lt (.var 1) (.blt .len (.cons (.ix (.var 0) (.int 0)) .nil))) [some (penW cs (i + 1) r, penM .sh), some (.int i, .sh), some (.int c, .sh), none, none, none] = some (decide (i < cs.length)) := by
      have e : evTq P (.cmp .lt (.var 1) (.blt .len (.cons (.ix (.var 0) (.int 0)) .nil))) [some (penW cs (i + 1) r, penM .sh), some (.int i, .sh), some (.int c, .sh), none, none, none] = some (decide (i < (cs.map W.int).length)) := rfl
      rw [e, List.length_map]
    have q2 : evTq P (.cmp .ge (.var 2) (.bin .pow (.int 10) (.int 18))) [some (penW cs (i + 1) r, penM .sh), some (.int i, .sh), some (.int c, .sh), none, none, none] = some (decide (10 ^ 18 ≤ c)) := by
      simp [evTq, evQ, slotQ, opBin, p1, opCmp, O.full]
    have e1 : evT P Γ (.cmp .lt (.var 1) (.blt .len (.cons (.ix (.var 0) (.int 0)) .nil))) [some (penW cs (i + 1) r, penM .sh), some (.int i, .sh), some (.int c, .sh), none, none, none] = .ok (decide (i < cs.length)) [some (penW cs (i + 1) r, penM .sh), some (.int i, .sh), some (.int c, .sh), none, none, none] := by
      simp only [evT, tq, q1]
    have e2 : evT P Γ (.cmp .ge (.var 2) (.bin .pow (.int 10) (.int 18))) [some (penW cs (i + 1) r, penM .sh), some (.int i, .sh), some (.int c, .sh), none, none, none] = .ok (decide (10 ^ 18 ≤ c)) [some (penW cs (i + 1) r, penM .sh), some (.int i, .sh), some (.int c, .sh), none, none, none] := by
      simp only [evT, tq, q2]
    show evTa P Γ _ _ = _
    simp only [evTa, e1, e2, Rr.bind]
    cases decide (i < cs.length) <;> cases decide (10 ^ 18 ≤ c) <;> rfl
  have fin : ∀ c : Int, ∃ v : Int, ∃ ω', evB P Γ (.cons (.ite (.and (.cons (.cmp .lt (.var 1) (.blt .len (.cons (.ix (.var 0) (.int 0)) .nil))) (.cons (.cmp .ge (.var 2) (.bin .pow (.int 10) (.int 18))) .nil))) (.cons (.ret (.var 2)) .nil) (.nil)) bNext2) [some (penW cs (i + 1) r, penM .sh), some (.int i, .sh), some (.int c, .sh), none, none, none] = .rt (.int v, .sh) ω' ∧ ω'[0]? = some (some (penW cs (i + 1) r, penM .sh)) := by
    intro c
    cases hb : (decide (i < cs.length) && decide (10 ^ 18 ≤ c)) with
    | true =>
      have h := t6 c
      rw [hb] at h
      exact ⟨c, [some (penW cs (i + 1) r, penM .sh), some (.int i, .sh), some (.int c, .sh), none, none, none], evB_rt ((ite_t h).trans rfl), rfl⟩
    | false =>
      have h := t6 c
      rw [hb] at h
      obtain ⟨v, ω', e1, e2⟩ := next_tail (P := P) (Γ := Γ) (pw := penW cs (i + 1) r) (o := penM .sh) h0 h1 c
      exact ⟨v, ω', (evB_nx ((ite_f h).trans rfl)).trans e1, e2⟩
  show ∃ v : Int, ∃ ω', evB P Γ (.cons _ (.cons _ (.cons _ (.cons _ (.cons _ bNext2))))) _ = .rt (.int v, .sh) ω' ∧ ω'[0]? = _
  rw [evB_nx s1, evB_nx s2, evB_nx s3]
  have h4 := t4 (i * 1063 + 41)
  by_cases hc : cs = []
  · have hb : (!cs.isEmpty) = false := by rw [hc]; rfl
    rw [hb] at h4
    rw [evB_nx ((ite_f h4).trans rfl)]
    exact fin _
  · have hb : (!cs.isEmpty) = true := by
      cases cs with
      | nil => exact absurd rfl hc
      | cons _ _ => rfl
    rw [hb] at h4
    obtain ⟨c', h5⟩ := s5 (i * 1063 + 41) hc
    rw [evB_nx ((ite_t h4).trans ((evB_nx h5).trans rfl))]
    exact fin _
end
/-- a pen that was asked at most m times -/
def Pen (m : Nat) (x : W × O) : Prop := ∃ cs i r a, x = (penW cs i r, penM a) ∧ PenO a ∧ 0 ≤ i ∧ i ≤ (m : Int) ∧ cs.length ≤ 63
theorem Pen.mono {m k : Nat} {x : W × O} (h : Pen m x) (hk : m ≤ k) : Pen k x := by
  obtain ⟨cs, i, r, a, e, ha, h0, h1, hl⟩ := h
  exact ⟨cs, i, r, a, e, ha, h0, by omega, hl⟩
/-- the defs are there -/
structure HasPen (P : Prog) : Prop where
  next : ∃ F, P.fn 1002 = some F ∧ F.star = false ∧ F.np = 1 ∧ F.N.length = 6 ∧ F.body = bNext
  draw : ∃ F, P.fn 1001 = some F ∧ F.star = false ∧ F.np = 2 ∧ F.N.length = 3 ∧ F.body = bDraw
theorem next_ok {P : Prog} (H : HasPen P) {n m : Nat} {x : W × O} (hm : m < 2 ^ 60) (hx : Pen m x) : ∃ (v : Int) (cs : List Int) (i r : Int), (evN P (n + 1) 1002).run [x] = .ok (.int v, .sh) [some (penW cs (i + 1) r, penM .sh)] ∧ x.1 = penW cs i r ∧ 0 ≤ i ∧ i ≤ (m : Int) ∧ cs.length ≤ 63 := by
  obtain ⟨cs, i, r, a, rfl, ha, h0, h1, hl⟩ := hx
  obtain ⟨F, e1, e2, e3, e4, e5⟩ := H.next
  obtain ⟨v, ω', b1, b2⟩ := next_body (P := P) (Γ := evN P n) (r := r) h0 (by omega) hl ha
  refine ⟨v, cs, i, r, ?_, rfl, h0, h1, hl⟩
  have hs : startN F.N [(penW cs i r, penM a)] = [some (penW cs i r, penM a), none, none, none, none, none] := by
    unfold startN
    rw [e4]
    rfl
  rw [evN_fn e1, run_rt e2 (by rw [e3]; rfl) (by rw [e5, hs]; exact b1)]
  congr 1
  unfold parsR
  rw [e5, e2]
  show [if _ then none else ω'.getD 0 none] = _
  rw [if_neg (by decide), List.getD_eq_getElem?_getD, b2]
  rfl
theorem draw_ok {P : Prog} (H : HasPen P) {n m : Nat} {x : W × O} {k : Int} (hm : m < 2 ^ 60) (hx : Pen m x) (hk : 0 < k) (hk2 : k < 1073741824) : ∃ (d : Int) (x' : W × O), (evN P (n + 2) 1001).run [x, (.int k, .sh)] = .ok (.int d, .sh) [some x', some (.int k, .sh)] ∧ 0 ≤ d ∧ d < k ∧ Pen (m + 1) x' := by
  obtain ⟨F, e1, e2, e3, e4, e5⟩ := H.draw
  obtain ⟨Fn, n1, n2, n3, n4, n5⟩ := H.next
  have hkd : CDivN 0 k ∧ k ≠ 0 := ⟨⟨by omega, by omega⟩, by omega⟩
  -- the digit and the rest
  have fin : ∀ (cs : List Int) (i r : Int) (a : O), PenO a → 0 ≤ i → i ≤ (m : Int) + 1 → cs.length ≤ 63 → ∃ ω', evB P (evN P (n + 1)) (.cons (.asg (.name 2) (.bin .mod (.ix (.var 0) (.int 2)) (.var 1))) (.cons (.asg (.sub (.var 0) (.int 2)) (.bin .fdiv (.ix (.var 0) (.int 2)) (.var 1))) (.cons (.ret (.var 2)) .nil))) [some (penW cs i r, penM a), some (.int k, .sh), none] = .rt (.int (r.fmod k), .sh) ω' ∧ ω'[0]? = some (some (penW cs i (r.fdiv k), penM a)) ∧ ω'[1]? = some (some (.int k, .sh)) := by
    intro cs i r a ha _ _ _
    have c1 : CDivN r k := hkd.1
    refine ⟨[some (penW cs i (r.fdiv k), penM a), some (.int k, .sh), some (.int (r.fmod k), .sh)], ?_, rfl, rfl⟩
    have s1 : evS P (evN P (n + 1)) (.asg (.name 2) (.bin .mod (.ix (.var 0) (.int 2)) (.var 1))) [some (penW cs i r, penM a), some (.int k, .sh), none] = .nx [some (penW cs i r, penM a), some (.int k, .sh), some (.int (r.fmod k), .sh)] := by
      have q : evQ P (.bin .mod (.ix (.var 0) (.int 2)) (.var 1)) [some (penW cs i r, penM a), some (.int k, .sh), none] = (opBin .mod (.int r) (.int k)).map (·, O.sh) := by
        rcases ha with rfl | rfl <;> rfl
      have q2 : evQ P (.bin .mod (.ix (.var 0) (.int 2)) (.var 1)) [some (penW cs i r, penM a), some (.int k, .sh), none] = some (.int (r.fmod k), .sh) := by
        rw [q]
        simp [opBin, hkd.2]
      simp [evS, evV, qv, q2, Rr.q, evG, optQ, O.isSh]
    have s2 : evS P (evN P (n + 1)) (.asg (.sub (.var 0) (.int 2)) (.bin .fdiv (.ix (.var 0) (.int 2)) (.var 1))) [some (penW cs i r, penM a), some (.int k, .sh), some (.int (r.fmod k), .sh)] = .nx [some (penW cs i (r.fdiv k), penM a), some (.int k, .sh), some (.int (r.fmod k), .sh)] := by
      have q : evQ P (.bin .fdiv (.ix (.var 0) (.int 2)) (.var 1)) [some (penW cs i r, penM a), some (.int k, .sh), some (.int (r.fmod k), .sh)] = (opBin .fdiv (.int r) (.int k)).map (·, O.sh) := by
        rcases ha with rfl | rfl <;> rfl
      have q2 : evV P (evN P (n + 1)) (.bin .fdiv (.ix (.var 0) (.int 2)) (.var 1)) [some (penW cs i r, penM a), some (.int k, .sh), some (.int (r.fmod k), .sh)] = .ok (.int (r.fdiv k), .sh) [some (penW cs i r, penM a), some (.int k, .sh), some (.int (r.fmod k), .sh)] := by
        have q3 : evQ P (.bin .fdiv (.ix (.var 0) (.int 2)) (.var 1)) [some (penW cs i r, penM a), some (.int k, .sh), some (.int (r.fmod k), .sh)] = some (.int (r.fdiv k), .sh) := by
          rw [q]
          simp [opBin, c1]
        simp [evV, qv, q3, O.isSh]
      show (evV P (evN P (n + 1)) _ _).q _ = _
      rw [q2]
      rcases ha with rfl | rfl <;> rfl
    rw [evB_nx s1, evB_nx s2]
    exact evB_rt rfl
  obtain ⟨cs0, i0, r0, a0, rfl, ha0, hi0, hi1, hl0⟩ := hx
  have hb : ∃ (r : Int) (cs : List Int) (i : Int) (a : O), PenO a ∧ 0 ≤ i ∧ i ≤ (m : Int) + 1 ∧ cs.length ≤ 63 ∧ ∃ ω', evB P (evN P (n + 1)) bDraw [some (penW cs0 i0 r0, penM a0), some (.int k, .sh), none] = .rt (.int (r.fmod k), .sh) ω' ∧ ω'[0]? = some (some (penW cs i (r.fdiv k), penM a)) ∧ ω'[1]? = some (some (.int k, .sh)) := by
    have t : evT P (evN P (n + 1)) (.cmp .lt (.ix (.var 0) (.int 2)) (.var 1)) [some (penW cs0 i0 r0, penM a0), some (.int k, .sh), none] = .ok (decide (r0 < k)) [some (penW cs0 i0 r0, penM a0), some (.int k, .sh), none] := by
      rcases ha0 with rfl | rfl <;> rfl
    unfold bDraw
    by_cases hlt : r0 < k
    · rw [decide_eq_true hlt] at t
      obtain ⟨v, cs, i, r, b1, b2, b3, b4, b5⟩ := next_ok H (n := n) hm ⟨cs0, i0, r0, a0, rfl, ha0, hi0, hi1, hl0⟩
      have hasg : (evN P (n + 1) 1002).asg 0 = false := by
        rw [evN_fn n1]
        show ((Fn.star && decide (1 ≤ 0)) || (asgB Fn.body).contains 0) = false
        rw [n5, n2]
        decide
      have hc : evV P (evN P (n + 1)) (.call 1002 (.cons (.var 0) .nil)) [some (penW cs0 i0 r0, penM a0), some (.int k, .sh), none] = .ok (.int v, .sh) [some (penW cs (i + 1) r, penM .sh), some (.int k, .sh), none] := by
        have e : evV P (evN P (n + 1)) (.call 1002 (.cons (.var 0) .nil)) [some (penW cs0 i0 r0, penM a0), some (.int k, .sh), none] = callR (evN P (n + 1) 1002) [.slot 0] [some (penW cs0 i0 r0, penM a0), some (.int k, .sh), none] := by
          rcases ha0 with rfl | rfl <;> rfl
        rw [e]
        unfold callR
        have er : resA (evN P (n + 1) 1002).asg [.slot 0] 0 [some (penW cs0 i0 r0, penM a0), some (.int k, .sh), none] = some ([(penW cs0 i0 r0, penM a0)], [some 0], [none, some (.int k, .sh), none]) := by
          unfold resA
          simp only [slot, List.getElem?_cons_zero, Option.bind_some, hasg]
          rcases ha0 with rfl | rfl <;> rfl
        rw [er]
        simp only [b1]
        rfl
      have s1 : evS P (evN P (n + 1)) (.ite (.cmp .lt (.ix (.var 0) (.int 2)) (.var 1)) (.cons (.asg (.sub (.var 0) (.int 2)) (.call 1002 (.cons (.var 0) .nil))) .nil) (.nil)) [some (penW cs0 i0 r0, penM a0), some (.int k, .sh), none] = .nx [some (penW cs (i + 1) v, penM .sh), some (.int k, .sh), none] := by
        rw [ite_t t]
        refine (evB_nx (ω' := [some (penW cs (i + 1) v, penM .sh), some (.int k, .sh), none]) ?_).trans rfl
        show (evV P (evN P (n + 1)) _ _).q _ = _
        rw [hc]
        rfl
      obtain ⟨ω', f1, f2, f3⟩ := fin cs (i + 1) v .sh (.inr rfl) (by omega) (by omega) b5
      exact ⟨v, cs, i + 1, .sh, .inr rfl, by omega, by omega, b5, ω', (evB_nx s1).trans f1, f2, f3⟩
    · rw [decide_eq_false hlt] at t
      obtain ⟨ω', f1, f2, f3⟩ := fin cs0 i0 r0 a0 ha0 hi0 (by omega) hl0
      exact ⟨r0, cs0, i0, a0, ha0, hi0, by omega, hl0, ω', (evB_nx ((ite_f t).trans rfl)).trans f1, f2, f3⟩
  obtain ⟨r, cs, i, a, ha, h0, h1, hl, ω', f1, f2, f3⟩ := hb
  refine ⟨r.fmod k, (penW cs i (r.fdiv k), penM a), ?_, (fm hk).1, (fm hk).2, cs, i, r.fdiv k, a, rfl, ha, h0, by omega, hl⟩
  have hs : startN F.N [(penW cs0 i0 r0, penM a0), (.int k, .sh)] = [some (penW cs0 i0 r0, penM a0), some (.int k, .sh), none] := by
    unfold startN
    rw [e4]
    rfl
  rw [evN_fn e1, run_rt e2 (by rw [e3]; rfl) (by rw [e5, hs]; exact f1)]
  congr 1
  unfold parsR
  rw [e5, e2]
  show [if ((false && decide (1 ≤ 0)) || (asgB bDraw).contains 0) = true then none else ω'.getD 0 none, if ((false && decide (1 ≤ 1)) || (asgB bDraw).contains 1) = true then none else ω'.getD 1 none] = _
  have c0 : ((false && decide (1 ≤ 0)) || (asgB bDraw).contains 0) = false := by decide
  have c1 : ((false && decide (1 ≤ 1)) || (asgB bDraw).contains 1) = false := by decide
  rw [c0, c1]
  show [ω'.getD 0 none, ω'.getD 1 none] = _
  rw [List.getD_eq_getElem?_getD, List.getD_eq_getElem?_getD, f2, f3]
  rfl
end MP
set_option Elab.async false
set_option linter.all false
set_option maxRecDepth 100000
set_option maxHeartbeats 0
namespace Tk03
open PySem PySem.Spec PyProof.Rows L2 MP
def storeW (n : Int) : W := .ins .Store [.count] [.int n]
def plW (p : Int × Int) : W := .tup [.int p.1, .int p.2]
def sizes : List Int := [1, 2, 4, 8, 16, 32, 64]
def placesS (n s : Int) : List (Int × Int) := (List.range (n / s).toNat).map fun (k : Nat) => ((k : Int) * s, s)
def places (n : Int) : List (Int × Int) := sizes.flatMap fun s => placesS n s
def everyW (n : Int) : W := .lst ((places n).map plW)
def holds (p q : Int × Int) : Bool := decide (p.1 ≤ q.1) && decide (q.1 + q.2 ≤ p.1 + p.2)
theorem hold_q (p q : Int × Int) (r : En) : evQ P (.and (.cons (.cmp .le (.ix (.var 0) (.int 0)) (.ix (.var 1) (.int 0))) (.cons (.cmp .le (.bin .add (.ix (.var 1) (.int 0)) (.ix (.var 1) (.int 1))) (.bin .add (.ix (.var 0) (.int 0)) (.ix (.var 0) (.int 1)))) .nil))) (some (plW p, .sh) :: some (plW q, .sh) :: r) = some (.bl (holds p q), .sh) := by
  have e : evQ P (.and (.cons (.cmp .le (.ix (.var 0) (.int 0)) (.ix (.var 1) (.int 0))) (.cons (.cmp .le (.bin .add (.ix (.var 1) (.int 0)) (.ix (.var 1) (.int 1))) (.bin .add (.ix (.var 0) (.int 0)) (.ix (.var 0) (.int 1)))) .nil))) (some (plW p, .sh) :: some (plW q, .sh) :: r) = (if decide (p.1 ≤ q.1) then ((blQ (some (.bl (decide (q.1 + q.2 ≤ p.1 + p.2)), O.sh))).bind fun k => if k then some true else some false) else some false).map fun i => (.bl i, .sh) := rfl
  rw [e]
  unfold holds
  cases decide (p.1 ≤ q.1) <;> cases decide (q.1 + q.2 ≤ p.1 + p.2) <;> rfl
theorem holds_run (k : Nat) (p q : Int × Int) : (evN P (k + 1) 1155).run [(plW p, .sh), (plW q, .sh)] = .ok (.bl (holds p q), .sh) [some (plW p, .sh), some (plW q, .sh)] := by
  have e : P.fn 1155 = some fn__law_holds := rfl
  rw [evN_fn e]
  refine (run_rt (x := (.bl (holds p q), .sh)) (ω' := [some (plW p, .sh), some (plW q, .sh)]) rfl rfl (evB_rt ?_)).trans rfl
  show (evV P (evN P k) _ _).q _ = _
  unfold evV qv
  rw [show startN fn__law_holds.N [(plW p, .sh), (plW q, .sh)] = [some (plW p, .sh), some (plW q, .sh)] from rfl, hold_q]
  rfl
theorem contains_run (k : Nat) (p q : Int × Int) : (evN P (k + 1) 122).run [(plW p, .sh), (plW q, .sh)] = .ok (.bl (holds p q), .sh) [some (plW p, .sh), some (plW q, .sh)] := by
  have e : P.fn 122 = some fn_contains := rfl
  rw [evN_fn e]
  refine (run_rt (x := (.bl (holds p q), .sh)) (ω' := [some (plW p, .sh), some (plW q, .sh)]) rfl rfl (evB_rt ?_)).trans rfl
  show (evV P (evN P k) _ _).q _ = _
  unfold evV qv
  rw [show startN fn_contains.N [(plW p, .sh), (plW q, .sh)] = [some (plW p, .sh), some (plW q, .sh)] from rfl, hold_q]
  rfl
/-! ### tables -/
def par (p : Int × Int) : Int × Int := (p.1 - p.1.fmod (2 * p.2), 2 * p.2)
/-- what a run gave: a tuple of two numbers, the store and the place back -/
def isPar (n : Int) (p : Int × Int) : Rr (W × O) → Bool
  | .ok (.tup [.int a, .int s], .sh) [some (.ins .Store [.count] [.int m], .ow []), some (.tup [.int b, .int t], .sh)] => (a == (par p).1 && s == (par p).2) && (m == n && (b == p.1 && t == p.2))
  | _ => false
def isPlc (n : Int) (p : Int × Int) : Rr (W × O) → Bool
  | .ok (.bl true, .sh) [some (.ins .Store [.count] [.int m], .ow []), some (.tup [.int b, .int t], .sh)] => m == n && (b == p.1 && t == p.2)
  | _ => false
theorem isPar_eq {n : Int} {p : Int × Int} {r : Rr (W × O)} (h : isPar n p r = true) : r = .ok (plW (par p), .sh) [some (storeW n, .ow []), some (plW p, .sh)] := by
  unfold isPar at h
  split at h
  · simp only [Bool.and_eq_true, beq_iff_eq] at h
    obtain ⟨⟨rfl, rfl⟩, rfl, rfl, rfl⟩ := h
    rfl
  · cases h
theorem isPlc_eq {n : Int} {p : Int × Int} {r : Rr (W × O)} (h : isPlc n p r = true) : r = .ok (.bl true, .sh) [some (storeW n, .ow []), some (plW p, .sh)] := by
  unfold isPlc at h
  split at h
  · simp only [Bool.and_eq_true, beq_iff_eq] at h
    obtain ⟨rfl, rfl, rfl⟩ := h
    rfl
  · cases h
def tabOk (n : Int) : Bool := (places n).all fun p => isPlc n p ((evN P 19 99).run [(storeW n, .ow []), (plW p, .sh)]) && (p.2 == n || isPar n p ((evN P 20 101).run [(storeW n, .ow []), (plW p, .sh)]))
theorem tab : sizes.all tabOk = true := by decide +kernel
def clo (n : Int) : Bool := (places n).all fun p => p.2 == n || (places n).contains (par p)
theorem closed : sizes.all clo = true := by decide +kernel
def com : Nat → (Int × Int) → (Int × Int) → Int × Int
  | 0, p, _ => p
  | k + 1, p, q => if holds p q then p else com k (par p) q
def good (n : Int) : Nat → (Int × Int) → (Int × Int) → Bool
  | 0, _, _ => false
  | k + 1, p, q => holds p q || (!(p.2 == n) && good n k (par p) q)
def goods (n : Int) : Bool := (places n).all fun p => (places n).all fun q => good n 7 p q
theorem goodOk : sizes.all goods = true := by decide +kernel
/-- the law's side: the least of the places that hold both -/
def ch (n : Int) (p : Int × Int) : List (Int × Int) := (places n).filter fun x => holds x p
def sw (p : Int × Int) : W := .tup [.int p.2, plW p]
def isMin (c : Int × Int) : Option W → Bool
  | some (.tup [.int s, .tup [.int a, .int t]]) => s == c.2 && (a == c.1 && t == c.2)
  | _ => false
theorem isMin_eq {c : Int × Int} {r : Option W} (h : isMin c r = true) : r = some (sw c) := by
  unfold isMin at h
  split at h
  · simp only [Bool.and_eq_true, beq_iff_eq] at h
    obtain ⟨rfl, rfl, rfl⟩ := h
    rfl
  · cases h
def minOk2 (l : List (Int × Int)) (n : Int) (p : Int × Int) : Bool := (places n).all fun q => isMin (com 7 p q) (bltW .min [.lst ((l.filter fun x => holds x q).map sw)]) && isMin (com 7 p q) (some (sw (com 7 q p)))
def minOk (n : Int) : Bool := (places n).all fun p => minOk2 (ch n p) n p
theorem min8 : ([1, 2, 4, 8] : List Int).all minOk = true := by decide +kernel
end Tk03
set_option Elab.async false
set_option linter.all false
set_option maxRecDepth 100000
set_option maxHeartbeats 0
namespace MP
open PySem PySem.Spec PyProof.Rows L2
theorem callR_run {f : Fe} {ds : List Arg} {ω ω1 ω2 ps : En} {as : List (W × O)} {ls : List (Option Nat)} {r : W × O} (h1 : resA f.asg ds 0 ω = some (as, ls, ω1)) (h2 : f.run as = .ok r ps) (h3 : backA ls ps ω1 = some ω2) : callR f ds ω = .ok r ω2 := by
  unfold callR
  rw [h1]
  simp only [h2, h3]
theorem meth_ev {P : Prog} {Γ : Nat → Fe} {m : Mn} {a : Ex} {es : Exs} {ω ω2 : En} {d : Arg} {ds : List Arg} {c : Cn} {i : Nat} {r : W × O} (h1 : argOf a (evV P Γ a) ω = .ok d ω) (h2 : (argW ω d).bind clsOf = some c) (h3 : P.mt c m = some i) (h4 : evAs P Γ es ω = .ok ds ω) (h5 : callR (Γ i) (d :: ds) ω = .ok r ω2) : evV P Γ (.meth m a es) ω = .ok r ω2 := by
  show xMeth P Γ m (argOf a (evV P Γ a) ω) (evAs P Γ es) = _
  unfold xMeth
  rw [h1]
  show (match (argW ω d).bind clsOf with | some c => _ | none => _) = _
  rw [h2]
  show (match fM P Γ c m with | some f => _ | none => _) = _
  unfold fM
  rw [h3]
  show (evAs P Γ es ω).bind _ = _
  rw [h4]
  exact h5
theorem asg_nm {P : Prog} {Γ : Nat → Fe} {e : Ex} {i : Nat} {x : W × O} {ω ω1 : En} (h : evV P Γ e ω = .ok x ω1) : evS P Γ (.asg (.name i) e) ω = .nx (ω1.set i (some x)) := by
  show (evV P Γ e ω).q _ = _
  rw [h]
  rfl
theorem expr_nx {P : Prog} {Γ : Nat → Fe} {e : Ex} {x : W × O} {ω ω1 : En} (h : evV P Γ e ω = .ok x ω1) : evS P Γ (.expr e) ω = .nx ω1 := by
  show (evV P Γ e ω).q _ = _
  rw [h]
  rfl
theorem setc_nx {P : Prog} {Γ : Nat → Fe} {e : Ex} {i : Nat} {x : W × O} {ω ω1 : En} (h : evV P Γ e ω = .ok x ω1) : evS P Γ (.setc i e) ω = .nx (ω1.set i (some x)) := by
  show (evV P Γ e ω).q _ = _
  rw [h]
  rfl
theorem arg_slot {ω : En} {i : Nat} {w : W} {o : O} {a : Ex} {va : En → Rr (W × O)} (ha : a = .var i) (h : slot ω i = some (w, o)) (ho : o.isSh = false) : argOf a va ω = .ok (.slot i) ω := by
  subst ha
  show argV ω i .no = _
  unfold argV
  rw [h]
  simp [ho]
theorem arg_sh {ω : En} {i : Nat} {w : W} {a : Ex} {va : En → Rr (W × O)} (ha : a = .var i) (h : slot ω i = some (w, .sh)) : argOf a va ω = .ok (.val (w, .sh)) ω := by
  subst ha
  show argV ω i .no = _
  unfold argV
  rw [h]
  rfl
end MP
namespace Tk03
open PySem PySem.Spec PyProof.Rows L2 MP
theorem mem_all {f : Int → Bool} (h : sizes.all f = true) {n : Int} (hn : n ∈ sizes) : f n = true := List.all_eq_true.mp h n hn
section
variable {n : Int} (hn : n ∈ sizes)
include hn
theorem plc_run {p : Int × Int} (hp : p ∈ places n) : (evN P 19 99).run [(storeW n, .ow []), (plW p, .sh)] = .ok (.bl true, .sh) [some (storeW n, .ow []), some (plW p, .sh)] :=
  isPlc_eq (Bool.and_eq_true_iff.mp (List.all_eq_true.mp (mem_all tab hn) p hp)).1
theorem par_run {p : Int × Int} (hp : p ∈ places n) (h : p.2 ≠ n) : (evN P 20 101).run [(storeW n, .ow []), (plW p, .sh)] = .ok (plW (par p), .sh) [some (storeW n, .ow []), some (plW p, .sh)] := by
  have := (Bool.and_eq_true_iff.mp (List.all_eq_true.mp (mem_all tab hn) p hp)).2
  rcases Bool.or_eq_true_iff.mp this with e | e
  · exact absurd (beq_iff_eq.mp e) h
  · exact isPar_eq e
theorem par_mem {p : Int × Int} (hp : p ∈ places n) (h : p.2 ≠ n) : par p ∈ places n := by
  have := List.all_eq_true.mp (mem_all closed hn) p hp
  rcases Bool.or_eq_true_iff.mp this with e | e
  · exact absurd (beq_iff_eq.mp e) h
  · exact List.contains_iff_mem.mp e
theorem check_run {p q : Int × Int} (hp : p ∈ places n) (hq : q ∈ places n) : (evN P 20 96).run [(storeW n, .ow []), (plW p, .sh), (plW q, .sh)] = .ok (.non, .sh) [some (storeW n, .ow []), none, none] := by
  have e : P.fn 96 = some fn_Store_check_place := rfl
  have hb : evB P (evN P 19) fn_Store_check_place.body [some (storeW n, .ow []), some (.tup [plW p, plW q], .sh), none] = .nx [some (storeW n, .ow []), some (.tup [plW p, plW q], .sh), none] := by
    refine (evB_nx (ω' := [some (storeW n, .ow []), some (.tup [plW p, plW q], .sh), none]) ?_).trans rfl
    have hc : xComp (.one 2) [2] (evW P (evN P 19) (.seq (.var 1)) [2] [some (storeW n, .ow []), some (.tup [plW p, plW q], .sh), none]) (evIf P (evN P 19) .nil) (evV P (evN P 19) (.meth .is_place (.var 0) (.cons (.var 2) .nil))) = .ok (.lst (([plW p, plW q].filter fun _ => true).map fun _ => .bl true), .ow []) [some (storeW n, .ow []), some (.tup [plW p, plW q], .sh), none] := by
      refine xComp_pure (xs := [plW p, plW q]) (fun _ => true) (fun _ => .bl true) rfl (by decide) (by simp) (by show 2 ≤ sizeLine; decide) fun x hx => ?_
      have : ∃ r, x = plW r ∧ r ∈ places n := by
        simp only [List.mem_cons, List.not_mem_nil, or_false] at hx
        rcases hx with rfl | rfl
        · exact ⟨_, rfl, hp⟩
        · exact ⟨_, rfl, hq⟩
      obtain ⟨r, rfl, hr⟩ := this
      refine ⟨[some (storeW n, .ow []), some (.tup [plW p, plW q], .sh), some (plW r, .sh)], rfl, rfl, rfl, fun _ => ⟨.sh, rfl, ?_⟩⟩
      refine meth_ev (d := .slot 0) (c := .Store) (i := 99) (ds := [.val (plW r, .sh)]) rfl rfl rfl rfl ?_
      exact callR_run (f := evN P 19 99) (ds := [.slot 0, .val (plW r, .sh)]) (as := [(storeW n, .ow []), (plW r, .sh)]) (ls := [some 0, none]) (ω1 := [none, some (.tup [plW p, plW q], .sh), some (plW r, .sh)]) rfl (plc_run hn hr) rfl
    have ht : evT P (evN P 19) (.not (.blt .all (.cons (.comp (.one 2) [2] (.seq (.var 1)) (.nil) (.meth .is_place (.var 0) (.cons (.var 2) .nil))) .nil))) [some (storeW n, .ow []), some (.tup [plW p, plW q], .sh), none] = .ok false [some (storeW n, .ow []), some (.tup [plW p, plW q], .sh), none] := by
      show (truR (Rr.bind ((xComp _ _ _ _ _).bind _) _)).bind _ = _
      rw [hc]
      rfl
    exact (ite_f ht).trans rfl
  rw [evN_fn e]
  show endF fn_Store_check_place 3 (evB P (evN P 19) fn_Store_check_place.body [some (storeW n, .ow []), some (.tup [plW p, plW q], .sh), none]) = _
  rw [hb]
  rfl
theorem loop_run {q : Int × Int} (hq : q ∈ places n) {p : Int × Int} (m : Nat) : ∀ (k : Nat) (c : Int × Int), c ∈ places n → good n k c q = true →
    whileL (evT P (evN P 20) (.not (.call 122 (.cons (.var 3) (.cons (.var 2) .nil))))) (evB P (evN P 20) (.cons (.asg (.name 3) (.meth .parent (.var 0) (.cons (.var 3) .nil))) .nil)) (m + k) [some (storeW n, .ow []), some (plW p, .sh), some (plW q, .sh), some (plW c, .sh)] = .nx [some (storeW n, .ow []), some (plW p, .sh), some (plW q, .sh), some (plW (com k c q), .sh)]
  | 0, c, _, h => by cases h
  | k + 1, c, hc, h => by
    have ht : evT P (evN P 20) (.not (.call 122 (.cons (.var 3) (.cons (.var 2) .nil)))) [some (storeW n, .ow []), some (plW p, .sh), some (plW q, .sh), some (plW c, .sh)] = .ok (!holds c q) [some (storeW n, .ow []), some (plW p, .sh), some (plW q, .sh), some (plW c, .sh)] := by
      have e1 : callR (evN P 20 122) [.val (plW c, .sh), .val (plW q, .sh)] [some (storeW n, .ow []), some (plW p, .sh), some (plW q, .sh), some (plW c, .sh)] = .ok (.bl (holds c q), .sh) [some (storeW n, .ow []), some (plW p, .sh), some (plW q, .sh), some (plW c, .sh)] :=
        callR_run (as := [(plW c, .sh), (plW q, .sh)]) (ls := [none, none]) rfl (contains_run 19 c q) rfl
      show (truR (callR (evN P 20 122) [.val (plW c, .sh), .val (plW q, .sh)] _)).bind _ = _
      rw [e1]
      rfl
    rw [← Nat.add_assoc]
    unfold whileL
    rw [ht]
    unfold good at h
    unfold com
    cases hh : holds c q with
    | true => rfl
    | false =>
      rw [hh] at h
      have h := Bool.and_eq_true_iff.mp h
      have hne : c.2 ≠ n := by
        intro he
        rw [he] at h
        simp at h
      have hs : evB P (evN P 20) (.cons (.asg (.name 3) (.meth .parent (.var 0) (.cons (.var 3) .nil))) .nil) [some (storeW n, .ow []), some (plW p, .sh), some (plW q, .sh), some (plW c, .sh)] = .nx [some (storeW n, .ow []), some (plW p, .sh), some (plW q, .sh), some (plW (par c), .sh)] := by
        refine (evB_nx (ω' := [some (storeW n, .ow []), some (plW p, .sh), some (plW q, .sh), some (plW (par c), .sh)]) ?_).trans rfl
        have e1 : callR (evN P 20 101) [.slot 0, .val (plW c, .sh)] [some (storeW n, .ow []), some (plW p, .sh), some (plW q, .sh), some (plW c, .sh)] = .ok (plW (par c), .sh) [some (storeW n, .ow []), some (plW p, .sh), some (plW q, .sh), some (plW c, .sh)] :=
          callR_run (as := [(storeW n, .ow []), (plW c, .sh)]) (ls := [some 0, none]) (ω1 := [none, some (plW p, .sh), some (plW q, .sh), some (plW c, .sh)]) rfl (par_run hn hc hne) rfl
        exact asg_nm (meth_ev (d := .slot 0) (c := .Store) (i := 101) (ds := [.val (plW c, .sh)]) rfl rfl rfl rfl e1)
      show (evB P (evN P 20) _ _).bind _ = _
      rw [hs]
      exact loop_run hq m k (par c) (par_mem hn hc hne) h.2
theorem common_run {p q : Int × Int} (hp : p ∈ places n) (hq : q ∈ places n) : (evN P 21 97).run [(storeW n, .ow []), (plW p, .sh), (plW q, .sh)] = .ok (plW (com 7 p q), .sh) [some (storeW n, .ow []), some (plW p, .sh), some (plW q, .sh)] := by
  have e : P.fn 97 = some fn_Store_common := rfl
  have hg : good n 7 p q = true := List.all_eq_true.mp (List.all_eq_true.mp (mem_all goodOk hn) p hp) q hq
  rw [evN_fn e]
  refine (run_rt (x := (plW (com 7 p q), .sh)) (ω' := [some (storeW n, .ow []), some (plW p, .sh), some (plW q, .sh), some (plW (com 7 p q), .sh)]) rfl rfl ?_).trans rfl
  rw [show startN fn_Store_common.N [(storeW n, .ow []), (plW p, .sh), (plW q, .sh)] = [some (storeW n, .ow []), some (plW p, .sh), some (plW q, .sh), none] from rfl]
  refine (evB_nx (ω' := [some (storeW n, .ow []), some (plW p, .sh), some (plW q, .sh), none]) ?_).trans ((evB_nx (ω' := [some (storeW n, .ow []), some (plW p, .sh), some (plW q, .sh), some (plW p, .sh)]) rfl).trans ((evB_nx (ω' := [some (storeW n, .ow []), some (plW p, .sh), some (plW q, .sh), some (plW (com 7 p q), .sh)]) ?_).trans (evB_rt rfl)))
  · have e1 : callR (evN P 20 96) [.slot 0, .val (plW p, .sh), .val (plW q, .sh)] [some (storeW n, .ow []), some (plW p, .sh), some (plW q, .sh), none] = .ok (.non, .sh) [some (storeW n, .ow []), some (plW p, .sh), some (plW q, .sh), none] :=
      callR_run (as := [(storeW n, .ow []), (plW p, .sh), (plW q, .sh)]) (ls := [some 0, none, none]) (ω1 := [none, some (plW p, .sh), some (plW q, .sh), none]) rfl (check_run hn hp hq) rfl
    exact expr_nx (meth_ev (d := .slot 0) (c := .Store) (i := 96) (ds := [.val (plW p, .sh), .val (plW q, .sh)]) rfl rfl rfl rfl e1)
  · show whileL _ _ (999993 + 7) _ = _
    exact loop_run hn hq 999993 7 p hp hg
end
end Tk03
set_option Elab.async false
set_option linter.all false
set_option maxRecDepth 100000
set_option maxHeartbeats 0
namespace MP
open PySem PySem.Spec PyProof.Rows L2
theorem xComp_lock {t : CT} {own : List Nat} {it : Rr (List W × Option Nat)} {tst : En → Rr Bool} {elt : En → Rr (W × O)} {ω ω1 : En} {i : Nat} {xs : List W} (f : W → Bool) (h : W → W) (hit : it = .ok (xs, some i) ω1) (hs : (t.slots.all (fun i => own.contains i) && decide own.Nodup) = true) (hlt : ∀ j ∈ own, j < ω1.length)
    (hl : xs.length ≤ sizeLine) (hp : ∀ x ∈ xs, PureT t own tst elt ω1 f h x) (hu : unlk (some i) ω1 = some ω) : xComp t own it tst elt = .ok (.lst ((xs.filter f).map h), .ow []) ω := by
  subst hit
  obtain ⟨ω', e1, e2⟩ := cmpL_pure (t := t) (tst := tst) (elt := elt) (ω0 := ω1) xs [] (wipeN ω1 own) (by rw [wipeN_idem]) (by simpa using hl) hp
  show (if t.slots.all (fun i => own.contains i) && decide own.Nodup then _ else _) = _
  rw [if_pos hs, e1]
  show Rr.unlk (some i) (Rr.ok _ (restN ω1 ω' own)) = _
  rw [wipe_rest e2 hlt (of_decide_eq_true (band hs).2)]
  show (match unlk (some i) ω1 with | some ω' => _ | none => _) = _
  rw [hu]
  rfl
theorem ret_rt {P : Prog} {Γ : Nat → Fe} {e : Ex} {x : W × O} {ω ω1 : En} (h : evR P Γ e ω = .ok x ω1) : evS P Γ (.ret e) ω = .rt x ω1 := by
  show (evR P Γ e ω).q _ = _
  rw [h]
  rfl
end MP
namespace Tk03
open PySem PySem.Spec PyProof.Rows L2 MP
/-! ### the pen is made -/
theorem pen_run (ns : List Int) : ∃ cs ps, cs.length ≤ 60 ∧ (evN P 21 1003).run [(.kl (ns.map .int), .sh)] = .ok (penW cs 0 0, penM (.ow [])) ps := by
  have hc : cutL (ns.map W.int) none (some 60) = (ns.take 60).map W.int := by
    unfold cutL
    rw [HT.sIx_none, show (60 : Int) = ((60 : Nat) : Int) from rfl, HT.sIx_nat, List.length_map, List.drop_zero, ← List.map_take]
    congr 1
    rw [Nat.sub_zero]
    by_cases h : 60 ≤ ns.length
    · rw [Nat.min_eq_left h]
    · rw [Nat.min_eq_right (by omega), List.take_of_length_le (Nat.le_refl _), List.take_of_length_le (by omega)]
  refine ⟨ns.take 60, [some (.kl (ns.map .int), .sh)], by simp; omega, ?_⟩
  have e : P.fn 1003 = some fn__law_pen := rfl
  rw [evN_fn e]
  refine (run_rt (ω' := [some (.kl (ns.map .int), .sh)]) rfl rfl (evB_rt ?_)).trans rfl
  have hs : evV P (evN P 20) (.sl false true (.var 0) (.non) (.int 60)) [some (.kl (ns.map .int), .sh)] = .ok (.lst ((ns.take 60).map .int), .ow []) [some (.kl (ns.map .int), .sh)] := by
    have : evV P (evN P 20) (.sl false true (.var 0) (.non) (.int 60)) [some (.kl (ns.map .int), .sh)] = .ok (.lst (cutL (ns.map W.int) none (some 60)), .ow []) [some (.kl (ns.map .int), .sh)] := rfl
    rw [this, hc]
  have hl : evV P (evN P 20) (.blt .list (.cons (.sl false true (.var 0) (.non) (.int 60)) .nil)) [some (.kl (ns.map .int), .sh)] = .ok (.lst ((ns.take 60).map .int), .ow []) [some (.kl (ns.map .int), .sh)] := by
    show qv P _ _ (xBlt P .list _ (fun ω => Rr.bind (evV P (evN P 20) (.sl false true (.var 0) (.non) (.int 60)) ω) _) _) = _
    show Rr.bind (Rr.bind (evV P (evN P 20) (.sl false true (.var 0) (.non) (.int 60)) [some (.kl (ns.map .int), .sh)]) (fun d ω1 => Rr.bind (.ok [] ω1) fun ds ω2 => .ok (d :: ds) ω2)) (fun ps ω1 => match ps with
      | [x] => xBlt1 .list (.ok x ω1)
      | _ => .no) = _
    rw [hs]
    rfl
  have hv : evV P (evN P 20) (.lst (.cons (.blt .list (.cons (.sl false true (.var 0) (.non) (.int 60)) .nil)) (.cons (.int 0) (.cons (.int 0) .nil)))) [some (.kl (ns.map .int), .sh)] = .ok (penW (ns.take 60) 0 0, penM (.ow [])) [some (.kl (ns.map .int), .sh)] := by
    show xLst (Rr.bind (evV P (evN P 20) (.blt .list (.cons (.sl false true (.var 0) (.non) (.int 60)) .nil)) [some (.kl (ns.map .int), .sh)]) _) = _
    rw [hl]
    rfl
  rw [show startN fn__law_pen.N [(W.kl (ns.map .int), O.sh)] = [some (.kl (ns.map .int), .sh)] from rfl]
  exact ret_rt hv
/-! ### the round -/
def fW (p : Int × Int) : W → Bool
  | .tup [.int a, .int b] => holds (a, b) p
  | _ => false
def swW : W → W
  | .tup [.int a, .int b] => sw (a, b)
  | w => w
theorem filter_pl (p : Int × Int) (l : List (Int × Int)) : ((l.map plW).filter (fW p)).map id = (l.filter fun x => holds x p).map plW := by
  rw [List.map_id, List.filter_map]
  rfl
theorem filter_sw (p : Int × Int) (l : List (Int × Int)) : ((l.map plW).filter (fW p)).map swW = (l.filter fun x => holds x p).map sw := by
  rw [List.filter_map, List.map_map]
  rfl
abbrev Sl := Option (W × O)
def Cl (y : Sl) : Prop := ∀ i : Nat, nolkE i [y] = true
theorem Cl.some_sh (w : W) : Cl (some (w, .sh)) := fun _ => rfl
theorem Cl.none : Cl none := fun _ => rfl
theorem Cl.ow (w : W) : Cl (some (w, .ow [])) := fun _ => rfl
theorem Pen.cl {m : Nat} {x : W × O} (h : Pen m x) : Cl (some x) := by
  obtain ⟨cs, i, r, a, rfl, ha, _⟩ := h
  rcases ha with rfl | rfl <;> exact fun _ => rfl
theorem nolkE_of {i : Nat} {ω : En} (h : ∀ y ∈ ω, Cl y) : nolkE i ω = true := by
  unfold nolkE
  rw [List.all_eq_true]
  intro y hy
  have := h y hy i
  unfold nolkE at this
  rw [List.all_cons, List.all_nil, Bool.and_true] at this
  exact this
theorem comp1 {ω0 ω1 ω2 ω3 ω4 : Sl} {p : Int × Int} {ω7 ω8 ω9 ωa ωb : Sl} {s5 : Sl} {l : List (Int × Int)} (hl : l.length ≤ 200) (k : Nat) :
    xComp (.one 5) [5] (evW P (evN P (k + 1)) (.seq (.var 3)) [5] [ω0, ω1, ω2, some (.lst (l.map plW), .sh), ω4, s5, some (plW p, .sh), ω7, ω8, ω9, ωa, ωb]) (evIf P (evN P (k + 1)) (.cons (.call 1155 (.cons (.var 5) (.cons (.var 6) .nil))) .nil)) (evV P (evN P (k + 1)) (.var 5)) = .ok (.lst ((l.filter fun x => holds x p).map plW), .ow []) [ω0, ω1, ω2, some (.lst (l.map plW), .sh), ω4, s5, some (plW p, .sh), ω7, ω8, ω9, ωa, ωb] := by
  rw [← filter_pl]
  refine xComp_pure (fW p) id rfl (by decide) (by simp) (by show _ ≤ 2 ^ 24; simp; omega) fun x hx => ?_
  obtain ⟨q, _, rfl⟩ := List.mem_map.mp hx
  refine ⟨[ω0, ω1, ω2, some (.lst (l.map plW), .sh), ω4, some (plW q, .sh), some (plW p, .sh), ω7, ω8, ω9, ωa, ωb], rfl, rfl, ?_, fun _ => ⟨.sh, rfl, rfl⟩⟩
  have e1 : callR (evN P (k + 1) 1155) [.val (plW q, .sh), .val (plW p, .sh)] [ω0, ω1, ω2, some (.lst (l.map plW), .sh), ω4, some (plW q, .sh), some (plW p, .sh), ω7, ω8, ω9, ωa, ωb] = .ok (.bl (holds q p), .sh) [ω0, ω1, ω2, some (.lst (l.map plW), .sh), ω4, some (plW q, .sh), some (plW p, .sh), ω7, ω8, ω9, ωa, ωb] :=
    callR_run (as := [(plW q, .sh), (plW p, .sh)]) (ls := [none, none]) rfl (holds_run k q p) rfl
  show truR (callR (evN P (k + 1) 1155) [.val (plW q, .sh), .val (plW p, .sh)] _) = _
  rw [e1]
  rfl
theorem comp2 {ω0 ω1 ω2 ω3 ω4 : Sl} {p : Int × Int} {ω6 ω8 ω9 ωa ωb : Sl} {s5 : Sl} {l : List (Int × Int)} (hl : l.length ≤ 200) (k : Nat) (hc : ∀ y ∈ [ω0, ω1, ω2, ω3, ω4, s5, ω6, some (plW p, .sh), some (.lst (l.map plW), .ow []), ω9, ωa, ωb], Cl y) :
    xComp (.one 5) [5] (evW P (evN P (k + 1)) (.seq (.var 8)) [5] [ω0, ω1, ω2, ω3, ω4, s5, ω6, some (plW p, .sh), some (.lst (l.map plW), .ow []), ω9, ωa, ωb]) (evIf P (evN P (k + 1)) (.cons (.call 1155 (.cons (.var 5) (.cons (.var 7) .nil))) .nil)) (evV P (evN P (k + 1)) (.tup (.cons (.ix (.var 5) (.int 1)) (.cons (.var 5) .nil)))) = .ok (.lst ((l.filter fun x => holds x p).map sw), .ow []) [ω0, ω1, ω2, ω3, ω4, s5, ω6, some (plW p, .sh), some (.lst (l.map plW), .ow []), ω9, ωa, ωb] := by
  rw [← filter_sw]
  have hn := nolkE_of (i := 8) hc
  refine xComp_lock (ω1 := [ω0, ω1, ω2, ω3, ω4, s5, ω6, some (plW p, .sh), some (.lst (l.map plW), .lk 8), ω9, ωa, ωb]) (i := 8) (xs := l.map plW) (fW p) swW ?_ (by decide) (by simp) (by show _ ≤ 2 ^ 24; simp; omega) (fun x hx => ?_) ?_
  · have : evW P (evN P (k + 1)) (.seq (.var 8)) [5] [ω0, ω1, ω2, ω3, ω4, s5, ω6, some (plW p, .sh), some (.lst (l.map plW), .ow []), ω9, ωa, ωb] = if nolkE 8 [ω0, ω1, ω2, ω3, ω4, s5, ω6, some (plW p, .sh), some (.lst (l.map plW), .ow []), ω9, ωa, ωb] then .ok (l.map plW, some 8) [ω0, ω1, ω2, ω3, ω4, s5, ω6, some (plW p, .sh), some (.lst (l.map plW), .lk 8), ω9, ωa, ωb] else .no := rfl
    rw [this, if_pos hn]
  · obtain ⟨q, _, rfl⟩ := List.mem_map.mp hx
    refine ⟨[ω0, ω1, ω2, ω3, ω4, some (plW q, .sh), ω6, some (plW p, .sh), some (.lst (l.map plW), .lk 8), ω9, ωa, ωb], rfl, rfl, ?_, fun _ => ⟨.sh, rfl, rfl⟩⟩
    have e1 : callR (evN P (k + 1) 1155) [.val (plW q, .sh), .val (plW p, .sh)] [ω0, ω1, ω2, ω3, ω4, some (plW q, .sh), ω6, some (plW p, .sh), some (.lst (l.map plW), .lk 8), ω9, ωa, ωb] = .ok (.bl (holds q p), .sh) [ω0, ω1, ω2, ω3, ω4, some (plW q, .sh), ω6, some (plW p, .sh), some (.lst (l.map plW), .lk 8), ω9, ωa, ωb] :=
      callR_run (as := [(plW q, .sh), (plW p, .sh)]) (ls := [none, none]) rfl (holds_run k q p) rfl
    show truR (callR (evN P (k + 1) 1155) [.val (plW q, .sh), .val (plW p, .sh)] _) = _
    rw [e1]
    rfl
  · show chkN 8 [ω0, ω1, ω2, ω3, ω4, s5, ω6, some (plW p, .sh), some (.lst (l.map plW), .ow []), ω9, ωa, ωb] = _
    unfold chkN
    rw [if_pos hn]
/-! ### what is shown -/
def strT : W → Option Str
  | .str z => some z
  | _ => none
def repOk (c : Int × Int) : Bool := match bltW .repr [plW c], bltW .repr [.lst [plW c, plW c]] with
  | some (.str z), some (.str z2) => (match opBin .add (.str "[") (.str z) with
    | some a1 => (match opBin .add a1 (.str ", ") with
      | some a2 => (match opBin .add a2 (.str z) with
        | some a3 => (match opBin .add a3 (.str "]") with
          | some a4 => (opCmp .ne (.str z2) a4) == some false
          | _ => false)
        | _ => false)
      | _ => false)
    | _ => false)
  | _, _ => false
theorem reps : sizes.all (fun n => (places n).all repOk) = true := by decide +kernel
theorem repOk_out {c : Int × Int} (h : repOk c = true) : ∃ z z2 a1 a2 a3 a4, bltW .repr [plW c] = some (.str z) ∧ bltW .repr [.lst [plW c, plW c]] = some (.str z2) ∧ opBin .add (.str "[") (.str z) = some a1 ∧ opBin .add a1 (.str ", ") = some a2 ∧ opBin .add a2 (.str z) = some a3 ∧ opBin .add a3 (.str "]") = some a4 ∧ opCmp .ne (.str z2) a4 = some false := by
  unfold repOk at h
  split at h
  · rename_i z z2 e1 e2
    split at h
    · rename_i a1 e3
      split at h
      · rename_i a2 e4
        split at h
        · rename_i a3 e5
          split at h
          · rename_i a4 e6
            exact ⟨z, z2, a1, a2, a3, a4, e1, e2, e3, e4, e5, e6, eq_of_beq h⟩
          · cases h
        · cases h
      · cases h
    · cases h
  · cases h
end Tk03
set_option Elab.async false
set_option linter.all false
set_option maxRecDepth 100000
set_option maxHeartbeats 0
namespace MP
open PySem PySem.Spec PyProof.Rows L2
theorem evT_and2 {P : Prog} {Γ : Nat → Fe} {a b : Ex} {ω : En} {b1 b2 : Bool} (h1 : evT P Γ a ω = .ok b1 ω) (h2 : b1 = true → evT P Γ b ω = .ok b2 ω) : evT P Γ (.and (.cons a (.cons b .nil))) ω = .ok (b1 && b2) ω := by
  show (evT P Γ a ω).bind _ = _
  rw [h1]
  cases b1 with
  | false => rfl
  | true =>
    show (evT P Γ b ω).bind _ = _
    rw [h2 rfl]
    cases b2 <;> rfl
end MP
namespace Tk03
open PySem PySem.Spec PyProof.Rows L2 MP
def liftF (inv : W → Option (Int × Int)) (g : Int × Int → Bool) (w : W) : Bool := match inv w with
  | some p => g p
  | none => false
def liftH (inv : W → Option (Int × Int)) (g : Int × Int → W) (w : W) : W := match inv w with
  | some p => g p
  | none => w
theorem lift_map {src : Int × Int → W} {inv : W → Option (Int × Int)} (hi : ∀ p, inv (src p) = some p) (g : Int × Int → Bool) (h : Int × Int → W) (l : List (Int × Int)) : ((l.map src).filter (liftF inv g)).map (liftH inv h) = (l.filter g).map h := by
  rw [List.filter_map, List.map_map]
  have e1 : liftF inv g ∘ src = g := by
    funext p
    simp [liftF, hi]
  have e2 : liftH inv h ∘ src = h := by
    funext p
    simp [liftH, hi]
  rw [e1, e2]
theorem comp_src {src : Int × Int → W} {inv : W → Option (Int × Int)} (hi : ∀ p, inv (src p) = some p) {v : Nat} {it : Rr (List W × Option Nat)} {tst : En → Rr Bool} {elt : En → Rr (W × O)} {ω ω1 : En} {u : Option Nat} {l : List (Int × Int)} (g : Int × Int → Bool) (h : Int × Int → W) (hit : it = .ok (l.map src, u) ω1) (hv : v < ω1.length) (hl : l.length ≤ 200)
    (hp : ∀ q ∈ l, tst ((ω1.set v none).set v (some (src q, .sh))) = .ok (g q) ((ω1.set v none).set v (some (src q, .sh))) ∧ elt ((ω1.set v none).set v (some (src q, .sh))) = .ok (h q, .sh) ((ω1.set v none).set v (some (src q, .sh)))) (hu : unlk u ω1 = some ω) : xComp (.one v) [v] it tst elt = .ok (.lst ((l.filter g).map h), .ow []) ω := by
  rw [← lift_map hi]
  have hs : ((CT.one v).slots.all (fun i => [v].contains i) && decide [v].Nodup) = true := by
    simp [CT.slots]
  have hp' : ∀ x ∈ l.map src, PureT (.one v) [v] tst elt ω1 (liftF inv g) (liftH inv h) x := by
    intro x hx
    obtain ⟨q, hq, rfl⟩ := List.mem_map.mp hx
    obtain ⟨h1, h2⟩ := hp q hq
    refine ⟨_, rfl, ?_, ?_, fun _ => ⟨.sh, rfl, ?_⟩⟩
    · show (((ω1.set v none).set v (some (src q, .sh))).set v none) = ω1.set v none
      rw [List.set_set, List.set_set]
    · rw [show liftF inv g (src q) = g q from by simp [liftF, hi]]
      exact h1
    · rw [show liftH inv h (src q) = h q from by simp [liftH, hi]]
      exact h2
  have hlen : (l.map src).length ≤ sizeLine := by
    show _ ≤ 2 ^ 24
    simp
    omega
  have hlt : ∀ j ∈ [v], j < ω1.length := by simpa using hv
  cases u with
  | none =>
    cases hu
    exact xComp_pure (liftF inv g) (liftH inv h) hit hs hlt hlen hp'
  | some i => exact xComp_lock (liftF inv g) (liftH inv h) hit hs hlt hlen hp' hu
def unP : W → Option (Int × Int)
  | .tup [.int a, .int b] => some (a, b)
  | _ => none
def unS : W → Option (Int × Int)
  | .tup [_, .tup [.int a, .int b]] => some (a, b)
  | _ => none
theorem comp_pl {v : Nat} {it : Rr (List W × Option Nat)} {tst : En → Rr Bool} {elt : En → Rr (W × O)} {ω ω1 : En} {u : Option Nat} {l : List (Int × Int)} (g : Int × Int → Bool) (h : Int × Int → W) (hit : it = .ok (l.map plW, u) ω1) (hv : v < ω1.length) (hl : l.length ≤ 200)
    (hp : ∀ q ∈ l, tst ((ω1.set v none).set v (some (plW q, .sh))) = .ok (g q) ((ω1.set v none).set v (some (plW q, .sh))) ∧ elt ((ω1.set v none).set v (some (plW q, .sh))) = .ok (h q, .sh) ((ω1.set v none).set v (some (plW q, .sh)))) (hu : unlk u ω1 = some ω) : xComp (.one v) [v] it tst elt = .ok (.lst ((l.filter g).map h), .ow []) ω :=
  comp_src (inv := unP) (fun _ => rfl) g h hit hv hl hp hu
/-! ### the law's look at a place -/
def gr (n : Int) (p : Int × Int) : List (Int × Int) := (places n).filter fun x => decide (p.2 < x.2)
def ov (n : Int) (p : Int × Int) : List (Int × Int) := (gr n p).filter fun x => holds x p
def isSws : List W → List (Int × Int) → Bool
  | [], [] => true
  | .tup [.int s, .tup [.int a, .int t]] :: r, c :: q => (s == c.2 && (a == c.1 && t == c.2)) && isSws r q
  | _, _ => false
theorem isSws_eq : ∀ (xs : List W) (ps : List (Int × Int)), isSws xs ps = true → xs = ps.map sw
  | [], [], _ => rfl
  | [], _ :: _, h => by simp [isSws] at h
  | _ :: _, [], h => by simp [isSws] at h
  | x :: r, p :: q, h => by
    unfold isSws at h
    split at h
    · simp_all
    · rename_i e1 e2
      cases e1
      cases e2
      simp only [Bool.and_eq_true, beq_iff_eq] at h
      obtain ⟨⟨rfl, rfl, rfl⟩, h⟩ := h
      rw [isSws_eq _ _ h]
      rfl
    · cases h
def srtOk (l : List (Int × Int)) : Bool := (match newBlt .sorted (.lst (l.map sw), .ow []) with
  | some (.lst xs, .ow []) => isSws xs l
  | _ => false)
theorem srts : sizes.all (fun n => (places n).all fun p => srtOk (ov n p)) = true := by decide +kernel
theorem srt_eq {l : List (Int × Int)} (h : srtOk l = true) : newBlt .sorted (.lst (l.map sw), .ow []) = some (.lst (l.map sw), .ow []) := by
  unfold srtOk at h
  split at h
  · rename_i xs e
    rw [e, isSws_eq _ _ h]
  · cases h
theorem len_pl {n : Int} (hn : n ∈ sizes) : (places n).length ≤ 127 := by
  have : sizes.all (fun n => decide ((places n).length ≤ 127)) = true := by decide +kernel
  exact of_decide_eq_true (mem_all this hn)
theorem len_ft {n : Int} (hn : n ∈ sizes) (f : Int × Int → Bool) : ((places n).filter f).length ≤ 127 := Nat.le_trans (List.length_filter_le _ _) (len_pl hn)
theorem len_ft2 {n : Int} (hn : n ∈ sizes) (f g : Int × Int → Bool) : (((places n).filter f).filter g).length ≤ 127 := Nat.le_trans (List.length_filter_le _ _) (len_ft hn f)
theorem holds_ev {k : Nat} {es : Exs} {ω : En} {p q : Int × Int} (h : evAs P (evN P (k + 1)) es ω = .ok [.val (plW p, .sh), .val (plW q, .sh)] ω) : evT P (evN P (k + 1)) (.call 1155 es) ω = .ok (holds p q) ω := by
  have e1 : callR (evN P (k + 1) 1155) [.val (plW p, .sh), .val (plW q, .sh)] ω = .ok (.bl (holds p q), .sh) ω :=
    callR_run (as := [(plW p, .sh), (plW q, .sh)]) (ls := [none, none]) rfl (holds_run k p q) rfl
  show truR (xCall (evN P (k + 1) 1155) (evAs P (evN P (k + 1)) es ω)) = _
  rw [h]
  show truR (callR (evN P (k + 1) 1155) [.val (plW p, .sh), .val (plW q, .sh)] ω) = _
  rw [e1]
  rfl
section
variable {n : Int} (hn : n ∈ sizes)
include hn
theorem over_run {p : Int × Int} (hp : p ∈ places n) : (evN P 20 1188).run [(everyW n, .sh), (plW p, .sh)] = .ok (.lst ((ov n p).map plW), .ow []) [some (everyW n, .sh), some (plW p, .sh)] := by
  have e : P.fn 1188 = some fn__law_over := rfl
  have hs := srt_eq (List.all_eq_true.mp (mem_all srts hn) p hp)
  rw [evN_fn e]
  refine (run_rt (ω' := [some (everyW n, .sh), some (plW p, .sh), some (.lst ((gr n p).map plW), .ow []), some (.lst ((ov n p).map sw), .ow []), none, none]) rfl rfl ?_).trans rfl
  rw [show startN fn__law_over.N [(everyW n, .sh), (plW p, .sh)] = [some (everyW n, .sh), some (plW p, .sh), none, none, none, none] from rfl]
  refine (evB_nx (ω' := [some (everyW n, .sh), some (plW p, .sh), some (.lst ((gr n p).map plW), .ow []), none, none, none]) (setc_nx (ω1 := [some (everyW n, .sh), some (plW p, .sh), none, none, none, none]) ?_)).trans ((evB_nx (ω' := [some (everyW n, .sh), some (plW p, .sh), some (.lst ((gr n p).map plW), .ow []), some (.lst ((ov n p).map sw), .ow []), none, none]) (asg_nm (ω1 := [some (everyW n, .sh), some (plW p, .sh), some (.lst ((gr n p).map plW), .ow []), none, none, none]) ?_)).trans (evB_rt (ret_rt ?_)))
  · exact comp_pl (v := 4) (ω1 := [some (everyW n, .sh), some (plW p, .sh), none, none, none, none]) (u := none) (l := places n) (fun x => decide (p.2 < x.2)) plW rfl (by show 4 < 6; decide) (Nat.le_trans (len_pl hn) (by decide)) (fun q _ => ⟨rfl, rfl⟩) rfl
  · have hc := comp_pl (v := 4) (it := evW P (evN P 19) (.seq (.var 2)) [4] [some (everyW n, .sh), some (plW p, .sh), some (.lst ((gr n p).map plW), .ow []), none, none, none]) (tst := evIf P (evN P 19) (.cons (.call 1155 (.cons (.var 4) (.cons (.var 1) .nil))) .nil)) (elt := evV P (evN P 19) (.tup (.cons (.ix (.var 4) (.int 1)) (.cons (.var 4) .nil)))) (ω1 := [some (everyW n, .sh), some (plW p, .sh), some (.lst ((gr n p).map plW), .lk 2), none, none, none]) (ω := [some (everyW n, .sh), some (plW p, .sh), some (.lst ((gr n p).map plW), .ow []), none, none, none]) (u := some 2) (l := gr n p) (fun x => holds x p) sw rfl (by show 4 < 6; decide) (Nat.le_trans (len_ft hn _) (by decide)) (fun q _ => ⟨holds_ev rfl, rfl⟩) rfl
    have hb : evV P (evN P 19) (.blt .sorted (.cons (.comp (.one 4) [4] (.seq (.var 2)) (.cons (.call 1155 (.cons (.var 4) (.cons (.var 1) .nil))) .nil) (.tup (.cons (.ix (.var 4) (.int 1)) (.cons (.var 4) .nil)))) .nil)) [some (everyW n, .sh), some (plW p, .sh), some (.lst ((gr n p).map plW), .ow []), none, none, none] = xBlt1 .sorted (.ok (.lst ((ov n p).map sw), .ow []) [some (everyW n, .sh), some (plW p, .sh), some (.lst ((gr n p).map plW), .ow []), none, none, none]) := by
      show Rr.bind (Rr.bind (xComp (.one 4) [4] (evW P (evN P 19) (.seq (.var 2)) [4] [some (everyW n, .sh), some (plW p, .sh), some (.lst ((gr n p).map plW), .ow []), none, none, none]) (evIf P (evN P 19) (.cons (.call 1155 (.cons (.var 4) (.cons (.var 1) .nil))) .nil)) (evV P (evN P 19) (.tup (.cons (.ix (.var 4) (.int 1)) (.cons (.var 4) .nil))))) (fun d ω1 => Rr.bind (.ok [] ω1) fun ds ω2 => .ok (d :: ds) ω2)) (fun ps ω1 => match ps with
        | [x] => xBlt1 .sorted (.ok x ω1)
        | _ => .no) = _
      rw [hc]
      rfl
    rw [hb]
    show optR (newBlt .sorted (.lst ((ov n p).map sw), .ow [])) _ = _
    rw [hs]
    rfl
  · have ht : (ov n p).filter (fun _ => true) = ov n p := List.filter_eq_self.mpr fun _ _ => rfl
    have hc := comp_src (src := sw) (inv := unS) (fun _ => rfl) (v := 5) (it := evW P (evN P 19) (.seq (.var 3)) [5] [some (everyW n, .sh), some (plW p, .sh), some (.lst ((gr n p).map plW), .ow []), some (.lst ((ov n p).map sw), .ow []), none, none]) (tst := evIf P (evN P 19) .nil) (elt := evV P (evN P 19) (.ix (.var 5) (.int 1))) (ω := [some (everyW n, .sh), some (plW p, .sh), some (.lst ((gr n p).map plW), .ow []), some (.lst ((ov n p).map sw), .ow []), none, none]) (ω1 := [some (everyW n, .sh), some (plW p, .sh), some (.lst ((gr n p).map plW), .ow []), some (.lst ((ov n p).map sw), .lk 3), none, none]) (u := some 3) (l := ov n p) (fun _ => true) plW rfl (by show 5 < 6; decide) (Nat.le_trans (len_ft2 hn _ _) (by decide)) (fun q _ => ⟨rfl, rfl⟩) rfl
    rw [ht] at hc
    exact hc
/-! ### the defs a place has, all -/
def half (p : Int × Int) : Int := p.2.fdiv 2
def inn (n : Int) (p : Int × Int) : List (Int × Int) := (places n).filter fun x => PyData.eqv (.int x.2) (.int (half p)) && holds p x
def mt1 (n : Int) (p : Int × Int) : List (Int × Int) := (places n).filter fun x => !(PyData.eqv (.tuple [.int x.1, .int x.2]) (.tuple [.int p.1, .int p.2])) && PyData.eqv (.int x.2) (.int p.2)
def top (n : Int) (p : Int × Int) : Option (Int × Int) := (ov n p)[0]?
def topW (n : Int) (p : Int × Int) : W := match top n p with
  | some c => plW c
  | none => .non
def mt2 (n : Int) (p : Int × Int) : List (Int × Int) := (mt1 n p).filter fun x => (top n p).isSome && (match top n p with
  | some c => holds c x
  | none => false)
def envR (n : Int) (p : Int × Int) : En := [some (storeW n, .ow []), some (everyW n, .sh), some (plW p, .sh), some (.lst ((ov n p).map plW), .ow []), some (topW n p, .sh), some (.int (half p), .sh), some (.lst ((inn n p).map plW), .ow []), some (.lst ((mt2 n p).map plW), .ow []), none, none, none]
def bTail : Sts := match fn__law_right.body with
  | .cons _ (.cons _ (.cons _ (.cons _ (.cons _ (.cons _ r))))) => r
  | _ => .nil
def isRt (n : Int) : Rq → Bool
  | .rt (.bl true, .sh) (some (.ins .Store [.count] [.int m], .ow []) :: _) => m == n
  | _ => false
def tailOk (n : Int) (p : Int × Int) : Bool := isRt n (evB P (evN P 20) bTail (envR n p))
theorem tail8 : ([1, 2, 4, 8] : List Int).all (fun n => (places n).all (tailOk n)) = true := by decide +kernel
end
end Tk03
set_option Elab.async false
set_option linter.all false
set_option maxRecDepth 100000
set_option maxHeartbeats 0
namespace Tk03
open PySem PySem.Spec PyProof.Rows L2 MP
theorem nes : sizes.all (fun n => (places n).all fun p => opCmp .ne (.lst ((ov n p).map plW)) (.lst []) == some !(ov n p).isEmpty) = true := by decide +kernel
theorem isRt_out {n : Int} {r : Rq} (h : isRt n r = true) : ∃ ps, r = .rt (.bl true, .sh) (some (storeW n, .ow []) :: ps) := by
  unfold isRt at h
  split at h
  · cases eq_of_beq h
    exact ⟨_, rfl⟩
  · cases h
section
variable {n : Int} (hn : n ∈ sizes)
include hn
theorem right_run {p : Int × Int} (hp : p ∈ places n) (htl : tailOk n p = true) : ∃ ps, (evN P 21 1027).run [(storeW n, .ow []), (everyW n, .sh), (plW p, .sh)] = .ok (.bl true, .sh) (some (storeW n, .ow []) :: ps) := by
  have e : P.fn 1027 = some fn__law_right := rfl
  obtain ⟨ps, hr⟩ := isRt_out htl
  have hne : opCmp .ne (.lst ((ov n p).map plW)) (.lst []) = some !(ov n p).isEmpty := eq_of_beq (List.all_eq_true.mp (mem_all nes hn) p hp)
  have hb : evB P (evN P 20) fn__law_right.body [some (storeW n, .ow []), some (everyW n, .sh), some (plW p, .sh), none, none, none, none, none, none, none, none] = .rt (.bl true, .sh) (some (storeW n, .ow []) :: ps) := by
    refine (evB_nx (ω' := [some (storeW n, .ow []), some (everyW n, .sh), some (plW p, .sh), some (.lst ((ov n p).map plW), .ow []), none, none, none, none, none, none, none]) ?_).trans ?_
    · have e1 : callR (evN P 20 1188) [.val (everyW n, .sh), .val (plW p, .sh)] [some (storeW n, .ow []), some (everyW n, .sh), some (plW p, .sh), none, none, none, none, none, none, none, none] = .ok (.lst ((ov n p).map plW), .ow []) [some (storeW n, .ow []), some (everyW n, .sh), some (plW p, .sh), none, none, none, none, none, none, none, none] :=
        callR_run (as := [(everyW n, .sh), (plW p, .sh)]) (ls := [none, none]) rfl (over_run hn hp) rfl
      exact asg_nm (x := (.lst ((ov n p).map plW), .ow [])) (ω1 := [some (storeW n, .ow []), some (everyW n, .sh), some (plW p, .sh), none, none, none, none, none, none, none, none]) e1
    refine (evB_nx (ω' := [some (storeW n, .ow []), some (everyW n, .sh), some (plW p, .sh), some (.lst ((ov n p).map plW), .ow []), some (topW n p, .sh), none, none, none, none, none, none]) ?_).trans ?_
    · refine asg_nm (x := (topW n p, .sh)) (ω1 := [some (storeW n, .ow []), some (everyW n, .sh), some (plW p, .sh), some (.lst ((ov n p).map plW), .ow []), none, none, none, none, none, none, none]) ?_
      have ht : evT P (evN P 20) (.cmp .ne (.var 3) (.lst (.nil))) [some (storeW n, .ow []), some (everyW n, .sh), some (plW p, .sh), some (.lst ((ov n p).map plW), .ow []), none, none, none, none, none, none, none] = .ok (!(ov n p).isEmpty) [some (storeW n, .ow []), some (everyW n, .sh), some (plW p, .sh), some (.lst ((ov n p).map plW), .ow []), none, none, none, none, none, none, none] := by
        show truR (optR ((opCmp .ne (.lst ((ov n p).map plW)) (.lst [])).map fun k => (.bl k, .sh)) [some (storeW n, .ow []), some (everyW n, .sh), some (plW p, .sh), some (.lst ((ov n p).map plW), .ow []), none, none, none, none, none, none, none]) = _
        rw [hne]
        rfl
      show (evT P (evN P 20) (.cmp .ne (.var 3) (.lst (.nil))) _).bind (fun k ω1 => if k then evV P (evN P 20) (.ix (.var 3) (.int 0)) ω1 else evV P (evN P 20) .non ω1) = _
      rw [ht]
      unfold topW top
      cases ov n p with
      | nil => rfl
      | cons c r =>
        have hx : ixN ((c :: r).map plW).length 0 = some 0 := by
          unfold ixN
          rw [if_pos (by decide), if_pos (by simp)]
          rfl
        have q : evQ P (.ix (.var 3) (.int 0)) [some (storeW n, .ow []), some (everyW n, .sh), some (plW p, .sh), some (.lst ((c :: r).map plW), .ow []), none, none, none, none, none, none, none] = (ixN ((c :: r).map plW).length 0).bind fun j => ((c :: r).map plW)[j]?.map fun x => (x, (O.ow []).part j) := rfl
        rw [hx] at q
        show evV P (evN P 20) (.ix (.var 3) (.int 0)) _ = _
        show qv P (.ix (.var 3) (.int 0)) _ _ = _
        unfold qv
        rw [q]
        rfl
    refine (evB_nx (ω' := [some (storeW n, .ow []), some (everyW n, .sh), some (plW p, .sh), some (.lst ((ov n p).map plW), .ow []), some (topW n p, .sh), some (.int (half p), .sh), none, none, none, none, none]) ?_).trans ?_
    · have c1 : CDivN p.2 2 := ⟨by decide, by decide⟩
      refine asg_nm (x := (.int (half p), .sh)) (ω1 := [some (storeW n, .ow []), some (everyW n, .sh), some (plW p, .sh), some (.lst ((ov n p).map plW), .ow []), some (topW n p, .sh), none, none, none, none, none, none]) ?_
      have q : evQ P (.bin .fdiv (.ix (.var 2) (.int 1)) (.int 2)) [some (storeW n, .ow []), some (everyW n, .sh), some (plW p, .sh), some (.lst ((ov n p).map plW), .ow []), some (topW n p, .sh), none, none, none, none, none, none] = (opBin .fdiv (.int p.2) (.int 2)).map (·, O.sh) := rfl
      have q2 : opBin .fdiv (.int p.2) (.int 2) = some (.int (half p)) := by
        unfold opBin half
        exact if_pos c1
      show qv P (.bin .fdiv (.ix (.var 2) (.int 1)) (.int 2)) _ _ = _
      unfold qv
      rw [q, q2]
      rfl
    refine (evB_nx (ω' := [some (storeW n, .ow []), some (everyW n, .sh), some (plW p, .sh), some (.lst ((ov n p).map plW), .ow []), some (topW n p, .sh), some (.int (half p), .sh), some (.lst ((inn n p).map plW), .ow []), none, none, none, none]) ?_).trans ?_
    · exact setc_nx (x := (.lst ((inn n p).map plW), .ow [])) (ω1 := [some (storeW n, .ow []), some (everyW n, .sh), some (plW p, .sh), some (.lst ((ov n p).map plW), .ow []), some (topW n p, .sh), some (.int (half p), .sh), none, none, none, none, none]) (comp_pl (v := 10) (ω1 := [some (storeW n, .ow []), some (everyW n, .sh), some (plW p, .sh), some (.lst ((ov n p).map plW), .ow []), some (topW n p, .sh), some (.int (half p), .sh), none, none, none, none, none]) (u := none) (l := places n) (fun x => PyData.eqv (.int x.2) (.int (half p)) && holds p x) plW rfl (by show 10 < 11; decide) (Nat.le_trans (len_pl hn) (by decide)) (fun q _ => ⟨evT_and2 rfl fun _ => holds_ev rfl, rfl⟩) rfl)
    refine (evB_nx (ω' := [some (storeW n, .ow []), some (everyW n, .sh), some (plW p, .sh), some (.lst ((ov n p).map plW), .ow []), some (topW n p, .sh), some (.int (half p), .sh), some (.lst ((inn n p).map plW), .ow []), some (.lst ((mt1 n p).map plW), .ow []), none, none, none]) ?_).trans ?_
    · exact setc_nx (x := (.lst ((mt1 n p).map plW), .ow [])) (ω1 := [some (storeW n, .ow []), some (everyW n, .sh), some (plW p, .sh), some (.lst ((ov n p).map plW), .ow []), some (topW n p, .sh), some (.int (half p), .sh), some (.lst ((inn n p).map plW), .ow []), none, none, none, none]) (comp_pl (v := 10) (ω1 := [some (storeW n, .ow []), some (everyW n, .sh), some (plW p, .sh), some (.lst ((ov n p).map plW), .ow []), some (topW n p, .sh), some (.int (half p), .sh), some (.lst ((inn n p).map plW), .ow []), none, none, none, none]) (u := none) (l := places n) (fun x => !(PyData.eqv (.tuple [.int x.1, .int x.2]) (.tuple [.int p.1, .int p.2])) && PyData.eqv (.int x.2) (.int p.2)) plW rfl (by show 10 < 11; decide) (Nat.le_trans (len_pl hn) (by decide)) (fun q _ => ⟨evT_and2 rfl fun _ => rfl, rfl⟩) rfl)
    refine (evB_nx (ω' := envR n p) ?_).trans hr
    · have hc := comp_pl (v := 10) (it := evW P (evN P 20) (.seq (.var 7)) [10] [some (storeW n, .ow []), some (everyW n, .sh), some (plW p, .sh), some (.lst ((ov n p).map plW), .ow []), some (topW n p, .sh), some (.int (half p), .sh), some (.lst ((inn n p).map plW), .ow []), some (.lst ((mt1 n p).map plW), .ow []), none, none, none]) (tst := evIf P (evN P 20) (.cons (.and (.cons (.cmp .isn (.var 4) (.non)) (.cons (.call 1155 (.cons (.var 4) (.cons (.var 10) .nil))) .nil))) .nil)) (elt := evV P (evN P 20) (.var 10)) (ω := [some (storeW n, .ow []), some (everyW n, .sh), some (plW p, .sh), some (.lst ((ov n p).map plW), .ow []), some (topW n p, .sh), some (.int (half p), .sh), some (.lst ((inn n p).map plW), .ow []), some (.lst ((mt1 n p).map plW), .ow []), none, none, none]) (ω1 := [some (storeW n, .ow []), some (everyW n, .sh), some (plW p, .sh), some (.lst ((ov n p).map plW), .ow []), some (topW n p, .sh), some (.int (half p), .sh), some (.lst ((inn n p).map plW), .ow []), some (.lst ((mt1 n p).map plW), .lk 7), none, none, none]) (u := some 7) (l := mt1 n p) (fun x => (top n p).isSome && (match top n p with
          | some c => holds c x
          | none => false)) plW rfl (by show 10 < 11; decide) (Nat.le_trans (len_ft hn _) (by decide)) (fun q _ => ⟨?_, rfl⟩) rfl
      · exact setc_nx (P := P) (Γ := evN P 20) (i := 7) (x := (.lst ((mt2 n p).map plW), .ow [])) (ω1 := [some (storeW n, .ow []), some (everyW n, .sh), some (plW p, .sh), some (.lst ((ov n p).map plW), .ow []), some (topW n p, .sh), some (.int (half p), .sh), some (.lst ((inn n p).map plW), .ow []), some (.lst ((mt1 n p).map plW), .ow []), none, none, none]) (e := .comp (.one 10) [10] (.seq (.var 7)) (.cons (.and (.cons (.cmp .isn (.var 4) (.non)) (.cons (.call 1155 (.cons (.var 4) (.cons (.var 10) .nil))) .nil))) .nil) (.var 10)) hc
      · unfold topW
        cases top n p with
        | none => exact evT_and2 rfl fun h => by cases h
        | some c => exact evT_and2 rfl fun _ => holds_ev rfl
  rw [evN_fn e]
  exact ⟨(parsR fn__law_right 3 (some (storeW n, .ow []) :: ps)).tail, (run_rt (F := fn__law_right) (as := [(storeW n, .ow []), (everyW n, .sh), (plW p, .sh)]) (ω' := some (storeW n, .ow []) :: ps) rfl rfl hb).trans rfl⟩
end
end Tk03
set_option Elab.async false
set_option linter.all false
set_option maxRecDepth 100000
set_option maxHeartbeats 0
namespace Tk03
open PySem PySem.Spec PyProof.Rows L2 MP
def isAll (n : Int) : Rr (W × O) → Bool
  | .ok (.lst xs, .ow []) [some (.int m, .sh)] => m == n && isPls xs (places n)
  | _ => false
where isPls : List W → List (Int × Int) → Bool
  | [], [] => true
  | .tup [.int a, .int s] :: r, p :: q => (a == p.1 && s == p.2) && isPls r q
  | _, _ => false
theorem isPls_eq : ∀ (xs : List W) (ps : List (Int × Int)), isAll.isPls xs ps = true → xs = ps.map plW
  | [], [], _ => rfl
  | [], _ :: _, h => by simp [isAll.isPls] at h
  | _ :: _, [], h => by simp [isAll.isPls] at h
  | x :: r, p :: q, h => by
    unfold isAll.isPls at h
    split at h
    · simp_all
    · rename_i e1 e2
      cases e1
      cases e2
      simp only [Bool.and_eq_true, beq_iff_eq] at h
      obtain ⟨⟨rfl, rfl⟩, h⟩ := h
      rw [isPls_eq _ _ h]
      rfl
    · cases h
theorem isAll_eq {n : Int} {r : Rr (W × O)} (h : isAll n r = true) : r = .ok (everyW n, .ow []) [some (.int n, .sh)] := by
  unfold isAll at h
  split at h
  · simp only [Bool.and_eq_true, beq_iff_eq] at h
    obtain ⟨rfl, h⟩ := h
    rw [isPls_eq _ _ h]
    rfl
  · cases h
theorem alls : sizes.all (fun n => isAll n ((evN P 21 1089).run [(.int n, .sh)])) = true := by decide +kernel
end Tk03
set_option maxRecDepth 100000
set_option maxHeartbeats 0
namespace MP
theorem all_chunks {α : Type} (f : α → Bool) (k : Nat) : ∀ (n : Nat) (l : List α), l.length ≤ k * n → (∀ i, i < n → ((l.drop (k * i)).take k).all f = true) → l.all f = true
  | 0, l, hl, _ => by
    have : l = [] := List.length_eq_zero_iff.mp (by omega)
    subst this
    rfl
  | n + 1, l, hl, h => by
    have h0 := h 0 (by omega)
    rw [Nat.mul_zero, List.drop_zero] at h0
    have h1 : (l.drop k).all f = true := all_chunks f k n (l.drop k) (by rw [List.length_drop, Nat.mul_add] at *; omega) fun i hi => by
      have := h (i + 1) (by omega)
      rw [Nat.mul_add, Nat.mul_one, Nat.add_comm, ← List.drop_drop] at this
      exact this
    rw [← List.take_append_drop k l, List.all_append, h0, h1]
    rfl
end MP
namespace Tk03
open MP
theorem min16 : minOk 16 = true := by decide +kernel
theorem min32_0 : (((places 32).drop 0).take 16).all (fun p => minOk2 (ch 32 p) 32 p) = true := by decide +kernel
theorem min32_1 : (((places 32).drop 16).take 16).all (fun p => minOk2 (ch 32 p) 32 p) = true := by decide +kernel
theorem min32_2 : (((places 32).drop 32).take 16).all (fun p => minOk2 (ch 32 p) 32 p) = true := by decide +kernel
theorem min32_3 : (((places 32).drop 48).take 16).all (fun p => minOk2 (ch 32 p) 32 p) = true := by decide +kernel
theorem min32 : (places 32).all (fun p => minOk2 (ch 32 p) 32 p) = true := by
  refine all_chunks _ 16 4 _ (by decide +kernel) fun i hi => ?_
  match i, hi with
  | 0, _ => exact min32_0
  | 1, _ => exact min32_1
  | 2, _ => exact min32_2
  | 3, _ => exact min32_3
theorem min64_0 : (((places 64).drop 0).take 16).all (fun p => minOk2 (ch 64 p) 64 p) = true := by decide +kernel
theorem min64_1 : (((places 64).drop 16).take 16).all (fun p => minOk2 (ch 64 p) 64 p) = true := by decide +kernel
theorem min64_2 : (((places 64).drop 32).take 16).all (fun p => minOk2 (ch 64 p) 64 p) = true := by decide +kernel
theorem min64_3 : (((places 64).drop 48).take 16).all (fun p => minOk2 (ch 64 p) 64 p) = true := by decide +kernel
theorem min64_4 : (((places 64).drop 64).take 16).all (fun p => minOk2 (ch 64 p) 64 p) = true := by decide +kernel
theorem min64_5 : (((places 64).drop 80).take 16).all (fun p => minOk2 (ch 64 p) 64 p) = true := by decide +kernel
theorem min64_6 : (((places 64).drop 96).take 16).all (fun p => minOk2 (ch 64 p) 64 p) = true := by decide +kernel
theorem min64_7 : (((places 64).drop 112).take 16).all (fun p => minOk2 (ch 64 p) 64 p) = true := by decide +kernel
theorem min64 : (places 64).all (fun p => minOk2 (ch 64 p) 64 p) = true := by
  refine all_chunks _ 16 8 _ (by decide +kernel) fun i hi => ?_
  match i, hi with
  | 0, _ => exact min64_0
  | 1, _ => exact min64_1
  | 2, _ => exact min64_2
  | 3, _ => exact min64_3
  | 4, _ => exact min64_4
  | 5, _ => exact min64_5
  | 6, _ => exact min64_6
  | 7, _ => exact min64_7
theorem minAll : sizes.all minOk = true := by
  have h := min8
  have h32 : minOk 32 = true := min32
  have h64 : minOk 64 = true := min64
  simp only [List.all_cons, List.all_nil, Bool.and_true, Bool.and_eq_true, sizes, min16, h32, h64] at h ⊢
  obtain ⟨h1, h2, h3, h4⟩ := h
  exact ⟨h1, h2, h3, h4⟩
end Tk03
set_option Elab.async false
set_option linter.all false
set_option maxRecDepth 100000
set_option maxHeartbeats 0
namespace Tk03
open PySem PySem.Spec PyProof.Rows L2 MP
theorem hasPen : HasPen P := ⟨⟨fn__law_next, rfl, rfl, rfl, rfl, rfl⟩, ⟨fn__law_draw, rfl, rfl, rfl, rfl, rfl⟩⟩
theorem ixN_in {n : Nat} {d : Int} (h0 : 0 ≤ d) (h1 : d < n) : ixN n d = some d.toNat := by
  unfold ixN
  rw [if_pos h0, if_pos (by omega)]
section
variable {x : W × O} {m : Nat} {s0 s2 s3 s4 s5 s6 s7 s8 s9 sa sb : Sl}
theorem draw4 {l : List (Int × Int)} {o : O} (hx : Pen m x) (hm : m < 2 ^ 60) (hl0 : l ≠ []) (hl : l.length ≤ 200) (ho : o = .sh ∨ o = .ow []) : ∃ q ∈ l, ∃ x', evV P (evN P 21) (.ix (.var 4) (.call 1001 (.cons (.var 1) (.cons (.blt .len (.cons (.var 4) .nil)) .nil)))) [s0, some x, s2, s3, some (.lst (l.map plW), o), s5, s6, s7, s8, s9, sa, sb] = .ok (plW q, .sh) [s0, some x', s2, s3, some (.lst (l.map plW), o), s5, s6, s7, s8, s9, sa, sb] ∧ Pen (m + 1) x' := by
  have hpos : 0 < l.length := List.length_pos_iff.mpr hl0
  obtain ⟨d, x', hd, h0, h1, hx'⟩ := draw_ok hasPen (n := 19) (k := ((l.map plW).length : Nat)) hm hx (by simp; omega) (by simp; omega)
  have hlt : d.toNat < l.length := by
    simp at h1
    omega
  refine ⟨l[d.toNat], List.getElem_mem hlt, x', ?_, hx'⟩
  have hc : evV P (evN P 21) (.call 1001 (.cons (.var 1) (.cons (.blt .len (.cons (.var 4) .nil)) .nil))) [s0, some x, s2, s3, some (.lst (l.map plW), o), s5, s6, s7, s8, s9, sa, sb] = .ok (.int d, .sh) [s0, some x', s2, s3, some (.lst (l.map plW), o), s5, s6, s7, s8, s9, sa, sb] := by
    have e1 : callR (evN P 21 1001) [.slot 1, .val (.int ((l.map plW).length : Nat), .sh)] [s0, some x, s2, s3, some (.lst (l.map plW), o), s5, s6, s7, s8, s9, sa, sb] = .ok (.int d, .sh) [s0, some x', s2, s3, some (.lst (l.map plW), o), s5, s6, s7, s8, s9, sa, sb] := by
      refine callR_run (as := [x, (.int ((l.map plW).length : Nat), .sh)]) (ls := [some 1, none]) (ω1 := [s0, none, s2, s3, some (.lst (l.map plW), o), s5, s6, s7, s8, s9, sa, sb]) ?_ hd rfl
      obtain ⟨cs, i, r, a, rfl, ha, _⟩ := hx
      rcases ha with rfl | rfl <;> rfl
    have e2 : evAs P (evN P 21) (.cons (.var 1) (.cons (.blt .len (.cons (.var 4) .nil)) .nil)) [s0, some x, s2, s3, some (.lst (l.map plW), o), s5, s6, s7, s8, s9, sa, sb] = .ok [.slot 1, .val (.int ((l.map plW).length : Nat), .sh)] [s0, some x, s2, s3, some (.lst (l.map plW), o), s5, s6, s7, s8, s9, sa, sb] := by
      obtain ⟨cs, i, r, a, rfl, ha, _⟩ := hx
      rcases ha with rfl | rfl <;> rcases ho with rfl | rfl <;> rfl
    show xCall (evN P 21 1001) (evAs P (evN P 21) _ _) = _
    rw [e2]
    exact e1
  have hq : (shR (Rr.bind (Rr.bind (evV P (evN P 21) (.call 1001 (.cons (.var 1) (.cons (.blt .len (.cons (.var 4) .nil)) .nil))) [s0, some x, s2, s3, some (.lst (l.map plW), o), s5, s6, s7, s8, s9, sa, sb]) fun y ω1 => (match slotQ ω1 4 with
          | some x1 => .ok (x1, y) ω1
          | none => .no)) fun xy ω1 => optR (ixW xy.1 xy.2.1) ω1)) = .ok (plW l[d.toNat], .sh) [s0, some x', s2, s3, some (.lst (l.map plW), o), s5, s6, s7, s8, s9, sa, sb] := by
    rw [hc]
    have hi : ixW (.lst (l.map plW), o) (.int d) = some (plW l[d.toNat], .sh) := by
      show (ixN (l.map plW).length d).bind _ = _
      rw [ixN_in h0 h1]
      show ((l.map plW)[d.toNat]?).map _ = _
      rw [List.getElem?_map, List.getElem?_eq_getElem hlt]
      rcases ho with rfl | rfl <;> rfl
    rcases ho with rfl | rfl
    · show shR (optR (ixW (.lst (l.map plW), .sh) (.int d)) _) = _
      rw [hi]
      rfl
    · show shR (optR (ixW (.lst (l.map plW), .ow []) (.int d)) _) = _
      rw [hi]
      rfl
  rw [← hq]
  rcases ho with rfl | rfl <;> rfl
theorem draw3 {l : List (Int × Int)} (hx : Pen m x) (hm : m < 2 ^ 60) (hl0 : l ≠ []) (hl : l.length ≤ 200) : ∃ q ∈ l, ∃ x', evV P (evN P 21) (.ix (.var 3) (.call 1001 (.cons (.var 1) (.cons (.blt .len (.cons (.var 3) .nil)) .nil)))) [s0, some x, s2, some (.lst (l.map plW), .sh), s4, s5, s6, s7, s8, s9, sa, sb] = .ok (plW q, .sh) [s0, some x', s2, some (.lst (l.map plW), .sh), s4, s5, s6, s7, s8, s9, sa, sb] ∧ Pen (m + 1) x' := by
  have hpos : 0 < l.length := List.length_pos_iff.mpr hl0
  obtain ⟨d, x', hd, h0, h1, hx'⟩ := draw_ok hasPen (n := 19) (k := ((l.map plW).length : Nat)) hm hx (by simp; omega) (by simp; omega)
  have hlt : d.toNat < l.length := by
    simp at h1
    omega
  refine ⟨l[d.toNat], List.getElem_mem hlt, x', ?_, hx'⟩
  have hc : evV P (evN P 21) (.call 1001 (.cons (.var 1) (.cons (.blt .len (.cons (.var 3) .nil)) .nil))) [s0, some x, s2, some (.lst (l.map plW), .sh), s4, s5, s6, s7, s8, s9, sa, sb] = .ok (.int d, .sh) [s0, some x', s2, some (.lst (l.map plW), .sh), s4, s5, s6, s7, s8, s9, sa, sb] := by
    have e1 : callR (evN P 21 1001) [.slot 1, .val (.int ((l.map plW).length : Nat), .sh)] [s0, some x, s2, some (.lst (l.map plW), .sh), s4, s5, s6, s7, s8, s9, sa, sb] = .ok (.int d, .sh) [s0, some x', s2, some (.lst (l.map plW), .sh), s4, s5, s6, s7, s8, s9, sa, sb] := by
      refine callR_run (as := [x, (.int ((l.map plW).length : Nat), .sh)]) (ls := [some 1, none]) (ω1 := [s0, none, s2, some (.lst (l.map plW), .sh), s4, s5, s6, s7, s8, s9, sa, sb]) ?_ hd rfl
      obtain ⟨cs, i, r, a, rfl, ha, _⟩ := hx
      rcases ha with rfl | rfl <;> rfl
    have e2 : evAs P (evN P 21) (.cons (.var 1) (.cons (.blt .len (.cons (.var 3) .nil)) .nil)) [s0, some x, s2, some (.lst (l.map plW), .sh), s4, s5, s6, s7, s8, s9, sa, sb] = .ok [.slot 1, .val (.int ((l.map plW).length : Nat), .sh)] [s0, some x, s2, some (.lst (l.map plW), .sh), s4, s5, s6, s7, s8, s9, sa, sb] := by
      obtain ⟨cs, i, r, a, rfl, ha, _⟩ := hx
      rcases ha with rfl | rfl <;> rfl
    show xCall (evN P 21 1001) (evAs P (evN P 21) _ _) = _
    rw [e2]
    exact e1
  have hq : (shR (Rr.bind (Rr.bind (evV P (evN P 21) (.call 1001 (.cons (.var 1) (.cons (.blt .len (.cons (.var 3) .nil)) .nil))) [s0, some x, s2, some (.lst (l.map plW), .sh), s4, s5, s6, s7, s8, s9, sa, sb]) fun y ω1 => (match slotQ ω1 3 with
          | some x1 => .ok (x1, y) ω1
          | none => .no)) fun xy ω1 => optR (ixW xy.1 xy.2.1) ω1)) = .ok (plW l[d.toNat], .sh) [s0, some x', s2, some (.lst (l.map plW), .sh), s4, s5, s6, s7, s8, s9, sa, sb] := by
    rw [hc]
    have hi : ixW (.lst (l.map plW), .sh) (.int d) = some (plW l[d.toNat], .sh) := by
      show (ixN (l.map plW).length d).bind _ = _
      rw [ixN_in h0 h1]
      show ((l.map plW)[d.toNat]?).map _ = _
      rw [List.getElem?_map, List.getElem?_eq_getElem hlt]
      rfl
    show shR (optR (ixW (.lst (l.map plW), .sh) (.int d)) _) = _
    rw [hi]
    rfl
  rw [← hq]
  rfl
end
section
variable {n : Int} (hn : n ∈ sizes)
include hn
theorem make_run : (evN P 21 94).run [(.ins .Store [] [], .ow []), (.int n, .sh)] = .ok (.non, .sh) [some (storeW n, .ow []), some (.int n, .sh)] := by
  simp only [sizes, List.mem_cons, List.not_mem_nil, or_false] at hn
  rcases hn with rfl | rfl | rfl | rfl | rfl | rfl | rfl <;> rfl
theorem all_run : (evN P 21 1089).run [(.int n, .sh)] = .ok (everyW n, .ow []) [some (.int n, .sh)] := isAll_eq (mem_all alls hn)
theorem com_min {p q : Int × Int} (hp : p ∈ places n) (hq : q ∈ places n) : bltW .min [.lst (((ch n p).filter fun x => holds x q).map sw)] = some (sw (com 7 p q)) ∧ com 7 p q = com 7 q p := by
  have h := Bool.and_eq_true_iff.mp (List.all_eq_true.mp (List.all_eq_true.mp (mem_all minAll hn) p hp) q hq)
  refine ⟨isMin_eq h.1, ?_⟩
  have h2 := h.2
  show com 7 p q = com 7 q p
  simp only [isMin, sw, plW, Bool.and_eq_true, beq_iff_eq] at h2
  exact Prod.ext h2.2.1.symm h2.2.2.symm
end
end Tk03
set_option Elab.async false
set_option maxRecDepth 100000
set_option maxHeartbeats 0
namespace Tk03
open MP
theorem tail16 : (places 16).all (tailOk 16) = true := by decide +kernel
theorem tail32_0 : (((places 32).drop 0).take 16).all (tailOk 32) = true := by decide +kernel
theorem tail32_1 : (((places 32).drop 16).take 16).all (tailOk 32) = true := by decide +kernel
theorem tail32_2 : (((places 32).drop 32).take 16).all (tailOk 32) = true := by decide +kernel
theorem tail32_3 : (((places 32).drop 48).take 16).all (tailOk 32) = true := by decide +kernel
theorem tail32 : (places 32).all (tailOk 32) = true := by
  refine all_chunks _ 16 4 _ (by decide +kernel) fun i hi => ?_
  match i, hi with
  | 0, _ => exact tail32_0
  | 1, _ => exact tail32_1
  | 2, _ => exact tail32_2
  | 3, _ => exact tail32_3
end Tk03
set_option Elab.async false
set_option maxRecDepth 100000
set_option maxHeartbeats 0
namespace Tk03
open MP
theorem tail64_0 : (((places 64).drop 0).take 16).all (tailOk 64) = true := by decide +kernel
theorem tail64_1 : (((places 64).drop 16).take 16).all (tailOk 64) = true := by decide +kernel
theorem tail64_2 : (((places 64).drop 32).take 16).all (tailOk 64) = true := by decide +kernel
theorem tail64_3 : (((places 64).drop 48).take 16).all (tailOk 64) = true := by decide +kernel
theorem tail64_4 : (((places 64).drop 64).take 16).all (tailOk 64) = true := by decide +kernel
theorem tail64_5 : (((places 64).drop 80).take 16).all (tailOk 64) = true := by decide +kernel
theorem tail64_6 : (((places 64).drop 96).take 16).all (tailOk 64) = true := by decide +kernel
theorem tail64_7 : (((places 64).drop 112).take 16).all (tailOk 64) = true := by decide +kernel
theorem tail64 : (places 64).all (tailOk 64) = true := by
  refine all_chunks _ 16 8 _ (by decide +kernel) fun i hi => ?_
  match i, hi with
  | 0, _ => exact tail64_0
  | 1, _ => exact tail64_1
  | 2, _ => exact tail64_2
  | 3, _ => exact tail64_3
  | 4, _ => exact tail64_4
  | 5, _ => exact tail64_5
  | 6, _ => exact tail64_6
  | 7, _ => exact tail64_7
end Tk03
set_option Elab.async false
set_option linter.all false
set_option maxRecDepth 100000
set_option maxHeartbeats 0
namespace Tk03
open PySem PySem.Spec PyProof.Rows L2 MP
theorem tails : sizes.all (fun n => (places n).all (tailOk n)) = true := by
  have h := tail8 (n := 1) (by decide)
  simp only [List.all_cons, List.all_nil, Bool.and_true, Bool.and_eq_true, sizes, tail16, tail32, tail64] at h ⊢
  obtain ⟨h1, h2, h3, h4⟩ := h
  exact ⟨h1, h2, h3, h4⟩
def bTurn : Sts := .cons (.asg (.tup [6, 7]) (.tup (.cons (.ix (.var 4) (.call 1001 (.cons (.var 1) (.cons (.blt .len (.cons (.var 4) .nil)) .nil)))) (.cons (.ix (.var 4) (.call 1001 (.cons (.var 1) (.cons (.blt .len (.cons (.var 4) .nil)) .nil)))) .nil)))) (.cons (.setc 8 (.comp (.one 5) [5] (.seq (.var 3)) (.cons (.call 1155 (.cons (.var 5) (.cons (.var 6) .nil))) .nil) (.var 5))) (.cons (.setc 8 (.comp (.one 5) [5] (.seq (.var 8)) (.cons (.call 1155 (.cons (.var 5) (.cons (.var 7) .nil))) .nil) (.tup (.cons (.ix (.var 5) (.int 1)) (.cons (.var 5) .nil))))) (.cons (.asg (.name 9) (.blt .repr (.cons (.ix (.blt .min (.cons (.var 8) .nil)) (.int 1)) .nil))) (.cons (.ite (.cmp .ne (.blt .repr (.cons (.lst (.cons (.meth .common (.var 2) (.cons (.var 6) (.cons (.var 7) .nil))) (.cons (.meth .common (.var 2) (.cons (.var 7) (.cons (.var 6) .nil))) .nil))) .nil)) (.bin .add (.bin .add (.bin .add (.bin .add (.str "[") (.var 9)) (.str ", ")) (.var 9)) (.str "]"))) (.cons (.ret (.bl false)) .nil) (.nil)) .nil))))
theorem com_mem {n : Int} (hn : n ∈ sizes) {q : Int × Int} : ∀ (k : Nat) (c : Int × Int), c ∈ places n → good n k c q = true → com k c q ∈ places n
  | 0, c, hc, _ => hc
  | k + 1, c, hc, h => by
    unfold good at h
    unfold com
    cases hh : holds c q with
    | true => exact hc
    | false =>
      rw [hh] at h
      have h := Bool.and_eq_true_iff.mp h
      have hne : c.2 ≠ n := by
        intro he
        rw [he] at h
        simp at h
      exact com_mem hn k (par c) (par_mem hn hc hne) h.2
theorem bin_ev {k : BO} {a b : Ex} {ω : En} {x y w : W} {o o' : O} (h1 : evQ P a ω = some (x, o)) (h2 : evQ P b ω = some (y, o')) (h3 : opBin k x y = some w) : evQ P (.bin k a b) ω = some (w, .sh) := by
  show ((evQ P a ω).bind fun x => (evQ P b ω).bind fun y => (opBin k x.1 y.1).map (·, O.sh)) = _
  rw [h1]
  show ((evQ P b ω).bind fun y => (opBin k x y.1).map (·, O.sh)) = _
  rw [h2]
  show (opBin k x y).map (·, O.sh) = _
  rw [h3]
  rfl
/-- what holds at a turn: slots 2, 3, 4 and the pen -/
structure Inv (s : Sl) (n : Int) (l : List (Int × Int)) (o : O) (m : Nat) (ω : En) : Prop where
  ex : ∃ x s5 s6 s7 s8 s9 sa sb, ω = [s, some x, some (storeW n, .ow []), some (everyW n, .sh), some (.lst (l.map plW), o), s5, s6, s7, s8, s9, sa, sb] ∧ Pen m x ∧ Cl s5 ∧ Cl s6 ∧ Cl s7 ∧ Cl s8 ∧ Cl s9 ∧ Cl sa ∧ Cl sb
section
variable {n : Int} (hn : n ∈ sizes) {s : Sl} (hs : Cl s) {l : List (Int × Int)} {o : O} (hl0 : l ≠ []) (hl : l.length ≤ 200) (hsub : ∀ q ∈ l, q ∈ places n) (ho : o = .sh ∨ o = .ow [])
include hn hs hl0 hl hsub ho
theorem turn_run {m : Nat} (hm : m + 2 < 2 ^ 60) {ω : En} (I : Inv s n l o m ω) : ∃ ω', evB P (evN P 21) bTurn ω = .nx ω' ∧ Inv s n l o (m + 2) ω' := by
  obtain ⟨x, s5, s6, s7, s8, s9, sa, sb, rfl, hx, c5, c6, c7, c8, c9, ca, cb⟩ := I.ex
  obtain ⟨p, hp, x1, d1, hx1⟩ := draw4 (s0 := s) (s2 := some (storeW n, .ow [])) (s3 := some (everyW n, .sh)) (s5 := s5) (s6 := s6) (s7 := s7) (s8 := s8) (s9 := s9) (sa := sa) (sb := sb) hx (by omega) hl0 hl ho
  obtain ⟨q, hq, x2, d2, hx2⟩ := draw4 (s0 := s) (s2 := some (storeW n, .ow [])) (s3 := some (everyW n, .sh)) (s5 := s5) (s6 := s6) (s7 := s7) (s8 := s8) (s9 := s9) (sa := sa) (sb := sb) hx1 (by omega) hl0 hl ho
  have hp := hsub p hp
  have hq := hsub q hq
  obtain ⟨hmin, hcom⟩ := com_min hn hp hq
  have hcp : com 7 p q ∈ places n ∧ repOk (com 7 p q) = true := by
    have h := com_mem hn 7 p hp (List.all_eq_true.mp (List.all_eq_true.mp (mem_all goodOk hn) p hp) q hq)
    exact ⟨h, List.all_eq_true.mp (mem_all reps hn) _ h⟩
  obtain ⟨z, z2, a1, a2, a3, a4, r1, r2, r3, r4, r5, r6, r7⟩ := repOk_out hcp.2
  have co : ∀ w : W, Cl (some (w, o)) := by
    intro w
    rcases ho with rfl | rfl
    · exact Cl.some_sh w
    · exact Cl.ow w
  refine ⟨[s, some x2, some (storeW n, .ow []), some (everyW n, .sh), some (.lst (l.map plW), o), s5, some (plW p, .sh), some (plW q, .sh), some (.lst (((ch n p).filter fun x => holds x q).map sw), .ow []), some (.str z, .sh), sa, sb], ?_, ⟨x2, s5, _, _, _, _, sa, sb, rfl, hx2, c5, Cl.some_sh _, Cl.some_sh _, Cl.ow _, Cl.some_sh _, ca, cb⟩⟩
  unfold bTurn
  refine (evB_nx (ω' := [s, some x2, some (storeW n, .ow []), some (everyW n, .sh), some (.lst (l.map plW), o), s5, some (plW p, .sh), some (plW q, .sh), s8, s9, sa, sb]) ?_).trans ?_
  · have hv : evV P (evN P 21) (.tup (.cons (.ix (.var 4) (.call 1001 (.cons (.var 1) (.cons (.blt .len (.cons (.var 4) .nil)) .nil)))) (.cons (.ix (.var 4) (.call 1001 (.cons (.var 1) (.cons (.blt .len (.cons (.var 4) .nil)) .nil)))) .nil))) [s, some x, some (storeW n, .ow []), some (everyW n, .sh), some (.lst (l.map plW), o), s5, s6, s7, s8, s9, sa, sb] = .ok (.tup [plW p, plW q], .sh) [s, some x2, some (storeW n, .ow []), some (everyW n, .sh), some (.lst (l.map plW), o), s5, s6, s7, s8, s9, sa, sb] := by
      have e : evQ P (.tup (.cons (.ix (.var 4) (.call 1001 (.cons (.var 1) (.cons (.blt .len (.cons (.var 4) .nil)) .nil)))) (.cons (.ix (.var 4) (.call 1001 (.cons (.var 1) (.cons (.blt .len (.cons (.var 4) .nil)) .nil)))) .nil))) [s, some x, some (storeW n, .ow []), some (everyW n, .sh), some (.lst (l.map plW), o), s5, s6, s7, s8, s9, sa, sb] = none := by
        rcases ho with rfl | rfl <;> rfl
      show qv P (.tup _) _ (xTup (Rr.bind (evV P (evN P 21) (.ix (.var 4) (.call 1001 (.cons (.var 1) (.cons (.blt .len (.cons (.var 4) .nil)) .nil)))) _) fun d ω1 => Rr.bind (Rr.bind (evV P (evN P 21) (.ix (.var 4) (.call 1001 (.cons (.var 1) (.cons (.blt .len (.cons (.var 4) .nil)) .nil)))) ω1) fun d ω1 => Rr.bind (.ok [] ω1) fun ds ω2 => .ok (d :: ds) ω2) fun ds ω2 => .ok (d :: ds) ω2)) = _
      unfold qv
      rw [e, d1]
      show xTup (Rr.bind (Rr.bind (evV P (evN P 21) (.ix (.var 4) (.call 1001 (.cons (.var 1) (.cons (.blt .len (.cons (.var 4) .nil)) .nil)))) _) _) _) = _
      rw [d2]
      rfl
    show (evV P (evN P 21) (.tup _) _).q _ = _
    rw [hv]
    rfl
  have hc1 : evV P (evN P 21) (.comp (.one 5) [5] (.seq (.var 3)) (.cons (.call 1155 (.cons (.var 5) (.cons (.var 6) .nil))) .nil) (.var 5)) [s, some x2, some (storeW n, .ow []), some (everyW n, .sh), some (.lst (l.map plW), o), s5, some (plW p, .sh), some (plW q, .sh), s8, s9, sa, sb] = .ok (.lst ((ch n p).map plW), .ow []) [s, some x2, some (storeW n, .ow []), some (everyW n, .sh), some (.lst (l.map plW), o), s5, some (plW p, .sh), some (plW q, .sh), s8, s9, sa, sb] := comp1 (l := places n) (ω3 := none) (Nat.le_trans (len_pl hn) (by decide)) 20
  have hcl : ∀ y ∈ [s, some x2, some (storeW n, .ow []), some (everyW n, .sh), some (.lst (l.map plW), o), s5, some (plW p, .sh), some (plW q, .sh), some (.lst ((ch n p).map plW), .ow []), s9, sa, sb], Cl y := by
    intro y hy
    simp only [List.mem_cons, List.not_mem_nil, or_false] at hy
    rcases hy with rfl | rfl | rfl | rfl | rfl | rfl | rfl | rfl | rfl | rfl | rfl | rfl
    · exact hs
    · exact Pen.cl hx2
    · exact Cl.ow _
    · exact Cl.some_sh _
    · exact co _
    · exact c5
    · exact Cl.some_sh _
    · exact Cl.some_sh _
    · exact Cl.ow _
    · exact c9
    · exact ca
    · exact cb
  have hc2 : evV P (evN P 21) (.comp (.one 5) [5] (.seq (.var 8)) (.cons (.call 1155 (.cons (.var 5) (.cons (.var 7) .nil))) .nil) (.tup (.cons (.ix (.var 5) (.int 1)) (.cons (.var 5) .nil)))) [s, some x2, some (storeW n, .ow []), some (everyW n, .sh), some (.lst (l.map plW), o), s5, some (plW p, .sh), some (plW q, .sh), some (.lst ((ch n p).map plW), .ow []), s9, sa, sb] = .ok (.lst (((ch n p).filter fun x => holds x q).map sw), .ow []) [s, some x2, some (storeW n, .ow []), some (everyW n, .sh), some (.lst (l.map plW), o), s5, some (plW p, .sh), some (plW q, .sh), some (.lst ((ch n p).map plW), .ow []), s9, sa, sb] := comp2 (ω8 := none) (l := ch n p) (Nat.le_trans (len_ft hn _) (by decide)) 20 hcl
  refine (evB_nx (ω' := [s, some x2, some (storeW n, .ow []), some (everyW n, .sh), some (.lst (l.map plW), o), s5, some (plW p, .sh), some (plW q, .sh), some (.lst ((ch n p).map plW), .ow []), s9, sa, sb]) (setc_nx hc1)).trans ?_
  refine (evB_nx (ω' := [s, some x2, some (storeW n, .ow []), some (everyW n, .sh), some (.lst (l.map plW), o), s5, some (plW p, .sh), some (plW q, .sh), some (.lst (((ch n p).filter fun x => holds x q).map sw), .ow []), s9, sa, sb]) (setc_nx hc2)).trans ?_
  refine (evB_nx (ω' := [s, some x2, some (storeW n, .ow []), some (everyW n, .sh), some (.lst (l.map plW), o), s5, some (plW p, .sh), some (plW q, .sh), some (.lst (((ch n p).filter fun x => holds x q).map sw), .ow []), some (.str z, .sh), sa, sb]) (asg_nm (x := (.str z, .sh)) (ω1 := [s, some x2, some (storeW n, .ow []), some (everyW n, .sh), some (.lst (l.map plW), o), s5, some (plW p, .sh), some (plW q, .sh), some (.lst (((ch n p).filter fun x => holds x q).map sw), .ow []), s9, sa, sb]) ?_)).trans ?_
  · have q1 : evQ P (.blt .repr (.cons (.ix (.blt .min (.cons (.var 8) .nil)) (.int 1)) .nil)) [s, some x2, some (storeW n, .ow []), some (everyW n, .sh), some (.lst (l.map plW), o), s5, some (plW p, .sh), some (plW q, .sh), some (.lst (((ch n p).filter fun x => holds x q).map sw), .ow []), s9, sa, sb] = (((((bltW .min [.lst (((ch n p).filter fun x => holds x q).map sw)]).map (·, O.sh)).bind fun x => ixW x (.int 1)).bind fun x => some [x]).bind fun ps => (bltW .repr (ps.map Prod.fst)).map (·, O.sh)) := by
      simp only [hmin]
      show (Option.bind (Option.bind (Option.bind (Option.map (·, O.sh) (bltW .min [.lst (((ch n p).filter fun x => holds x q).map sw)])) _) _) _) = _
      rw [hmin]
      rfl
    have q2 : evQ P (.blt .repr (.cons (.ix (.blt .min (.cons (.var 8) .nil)) (.int 1)) .nil)) [s, some x2, some (storeW n, .ow []), some (everyW n, .sh), some (.lst (l.map plW), o), s5, some (plW p, .sh), some (plW q, .sh), some (.lst (((ch n p).filter fun x => holds x q).map sw), .ow []), s9, sa, sb] = some (.str z, .sh) := by
      rw [q1, hmin]
      show (bltW .repr [plW (com 7 p q)]).map _ = _
      rw [r1]
      rfl
    show qv P _ _ _ = _
    unfold qv
    rw [q2]
    rfl
  · refine (evB_nx (ω' := [s, some x2, some (storeW n, .ow []), some (everyW n, .sh), some (.lst (l.map plW), o), s5, some (plW p, .sh), some (plW q, .sh), some (.lst (((ch n p).filter fun x => holds x q).map sw), .ow []), some (.str z, .sh), sa, sb]) ?_).trans rfl
    have g1 : evV P (evN P 21) (.meth .common (.var 2) (.cons (.var 6) (.cons (.var 7) .nil))) [s, some x2, some (storeW n, .ow []), some (everyW n, .sh), some (.lst (l.map plW), o), s5, some (plW p, .sh), some (plW q, .sh), some (.lst (((ch n p).filter fun x => holds x q).map sw), .ow []), some (.str z, .sh), sa, sb] = .ok (plW (com 7 p q), .sh) [s, some x2, some (storeW n, .ow []), some (everyW n, .sh), some (.lst (l.map plW), o), s5, some (plW p, .sh), some (plW q, .sh), some (.lst (((ch n p).filter fun x => holds x q).map sw), .ow []), some (.str z, .sh), sa, sb] :=
      meth_ev (d := .slot 2) (c := .Store) (i := 97) (ds := [.val (plW p, .sh), .val (plW q, .sh)]) rfl rfl rfl rfl (callR_run (as := [(storeW n, .ow []), (plW p, .sh), (plW q, .sh)]) (ls := [some 2, none, none]) rfl (common_run hn hp hq) rfl)
    have g2 : evV P (evN P 21) (.meth .common (.var 2) (.cons (.var 7) (.cons (.var 6) .nil))) [s, some x2, some (storeW n, .ow []), some (everyW n, .sh), some (.lst (l.map plW), o), s5, some (plW p, .sh), some (plW q, .sh), some (.lst (((ch n p).filter fun x => holds x q).map sw), .ow []), some (.str z, .sh), sa, sb] = .ok (plW (com 7 p q), .sh) [s, some x2, some (storeW n, .ow []), some (everyW n, .sh), some (.lst (l.map plW), o), s5, some (plW p, .sh), some (plW q, .sh), some (.lst (((ch n p).filter fun x => holds x q).map sw), .ow []), some (.str z, .sh), sa, sb] := by
      rw [hcom]
      exact meth_ev (d := .slot 2) (c := .Store) (i := 97) (ds := [.val (plW q, .sh), .val (plW p, .sh)]) rfl rfl rfl rfl (callR_run (as := [(storeW n, .ow []), (plW q, .sh), (plW p, .sh)]) (ls := [some 2, none, none]) rfl (common_run hn hq hp) rfl)
    have g3 : evV P (evN P 21) (.lst (.cons (.meth .common (.var 2) (.cons (.var 6) (.cons (.var 7) .nil))) (.cons (.meth .common (.var 2) (.cons (.var 7) (.cons (.var 6) .nil))) .nil))) [s, some x2, some (storeW n, .ow []), some (everyW n, .sh), some (.lst (l.map plW), o), s5, some (plW p, .sh), some (plW q, .sh), some (.lst (((ch n p).filter fun x => holds x q).map sw), .ow []), some (.str z, .sh), sa, sb] = .ok (.lst [plW (com 7 p q), plW (com 7 p q)], .ow []) [s, some x2, some (storeW n, .ow []), some (everyW n, .sh), some (.lst (l.map plW), o), s5, some (plW p, .sh), some (plW q, .sh), some (.lst (((ch n p).filter fun x => holds x q).map sw), .ow []), some (.str z, .sh), sa, sb] := by
      show xLst (Rr.bind (evV P (evN P 21) (.meth .common (.var 2) (.cons (.var 6) (.cons (.var 7) .nil))) [s, some x2, some (storeW n, .ow []), some (everyW n, .sh), some (.lst (l.map plW), o), s5, some (plW p, .sh), some (plW q, .sh), some (.lst (((ch n p).filter fun x => holds x q).map sw), .ow []), some (.str z, .sh), sa, sb]) fun d ω1 => Rr.bind (Rr.bind (evV P (evN P 21) (.meth .common (.var 2) (.cons (.var 7) (.cons (.var 6) .nil))) ω1) fun d ω1 => Rr.bind (.ok [] ω1) fun ds ω2 => .ok (d :: ds) ω2) fun ds ω2 => .ok (d :: ds) ω2) = _
      rw [g1]
      show xLst (Rr.bind (Rr.bind (evV P (evN P 21) (.meth .common (.var 2) (.cons (.var 7) (.cons (.var 6) .nil))) [s, some x2, some (storeW n, .ow []), some (everyW n, .sh), some (.lst (l.map plW), o), s5, some (plW p, .sh), some (plW q, .sh), some (.lst (((ch n p).filter fun x => holds x q).map sw), .ow []), some (.str z, .sh), sa, sb]) fun d ω1 => Rr.bind (.ok [] ω1) fun ds ω2 => .ok (d :: ds) ω2) fun ds ω2 => .ok ((plW (com 7 p q), .sh) :: ds) ω2) = _
      rw [g2]
      rfl
    have g4 : evV P (evN P 21) (.blt .repr (.cons (.lst (.cons (.meth .common (.var 2) (.cons (.var 6) (.cons (.var 7) .nil))) (.cons (.meth .common (.var 2) (.cons (.var 7) (.cons (.var 6) .nil))) .nil))) .nil)) [s, some x2, some (storeW n, .ow []), some (everyW n, .sh), some (.lst (l.map plW), o), s5, some (plW p, .sh), some (plW q, .sh), some (.lst (((ch n p).filter fun x => holds x q).map sw), .ow []), some (.str z, .sh), sa, sb] = .ok (.str z2, .sh) [s, some x2, some (storeW n, .ow []), some (everyW n, .sh), some (.lst (l.map plW), o), s5, some (plW p, .sh), some (plW q, .sh), some (.lst (((ch n p).filter fun x => holds x q).map sw), .ow []), some (.str z, .sh), sa, sb] := by
      show Rr.bind (Rr.bind (evV P (evN P 21) (.lst (.cons (.meth .common (.var 2) (.cons (.var 6) (.cons (.var 7) .nil))) (.cons (.meth .common (.var 2) (.cons (.var 7) (.cons (.var 6) .nil))) .nil))) [s, some x2, some (storeW n, .ow []), some (everyW n, .sh), some (.lst (l.map plW), o), s5, some (plW p, .sh), some (plW q, .sh), some (.lst (((ch n p).filter fun x => holds x q).map sw), .ow []), some (.str z, .sh), sa, sb]) (fun d ω1 => Rr.bind (.ok [] ω1) fun ds ω2 => .ok (d :: ds) ω2)) (fun ps ω1 => match ps with
        | [x] => xBlt1 .repr (.ok x ω1)
        | _ => .no) = _
      rw [g3]
      show (match bltW .repr [.lst [plW (com 7 p q), plW (com 7 p q)]] with
        | some w => Rr.ok (w, O.sh) [s, some x2, some (storeW n, .ow []), some (everyW n, .sh), some (.lst (l.map plW), o), s5, some (plW p, .sh), some (plW q, .sh), some (.lst (((ch n p).filter fun x => holds x q).map sw), .ow []), some (.str z, .sh), sa, sb]
        | none => _) = _
      rw [r2]
    have g5 : evQ P (.bin .add (.bin .add (.bin .add (.bin .add (.str "[") (.var 9)) (.str ", ")) (.var 9)) (.str "]")) [s, some x2, some (storeW n, .ow []), some (everyW n, .sh), some (.lst (l.map plW), o), s5, some (plW p, .sh), some (plW q, .sh), some (.lst (((ch n p).filter fun x => holds x q).map sw), .ow []), some (.str z, .sh), sa, sb] = some (a4, .sh) :=
      bin_ev (bin_ev (bin_ev (bin_ev rfl rfl r3) rfl r4) rfl r5) rfl r6
    have g6 : evT P (evN P 21) (.cmp .ne (.blt .repr (.cons (.lst (.cons (.meth .common (.var 2) (.cons (.var 6) (.cons (.var 7) .nil))) (.cons (.meth .common (.var 2) (.cons (.var 7) (.cons (.var 6) .nil))) .nil))) .nil)) (.bin .add (.bin .add (.bin .add (.bin .add (.str "[") (.var 9)) (.str ", ")) (.var 9)) (.str "]"))) [s, some x2, some (storeW n, .ow []), some (everyW n, .sh), some (.lst (l.map plW), o), s5, some (plW p, .sh), some (plW q, .sh), some (.lst (((ch n p).filter fun x => holds x q).map sw), .ow []), some (.str z, .sh), sa, sb] = .ok false [s, some x2, some (storeW n, .ow []), some (everyW n, .sh), some (.lst (l.map plW), o), s5, some (plW p, .sh), some (plW q, .sh), some (.lst (((ch n p).filter fun x => holds x q).map sw), .ow []), some (.str z, .sh), sa, sb] := by
      show truR (xCmp .ne (Rr.bind (evV P (evN P 21) (.blt .repr (.cons (.lst (.cons (.meth .common (.var 2) (.cons (.var 6) (.cons (.var 7) .nil))) (.cons (.meth .common (.var 2) (.cons (.var 7) (.cons (.var 6) .nil))) .nil))) .nil)) [s, some x2, some (storeW n, .ow []), some (everyW n, .sh), some (.lst (l.map plW), o), s5, some (plW p, .sh), some (plW q, .sh), some (.lst (((ch n p).filter fun x => holds x q).map sw), .ow []), some (.str z, .sh), sa, sb]) fun x ω1 => (match evQ P (.bin .add (.bin .add (.bin .add (.bin .add (.str "[") (.var 9)) (.str ", ")) (.var 9)) (.str "]")) ω1 with
        | some y => .ok (x, y) ω1
        | none => (evV P (evN P 21) (.bin .add (.bin .add (.bin .add (.bin .add (.str "[") (.var 9)) (.str ", ")) (.var 9)) (.str "]")) ω1).bind fun y ω2 => .ok (x, y) ω2))) = _
      rw [g4]
      show truR (xCmp .ne (match evQ P (.bin .add (.bin .add (.bin .add (.bin .add (.str "[") (.var 9)) (.str ", ")) (.var 9)) (.str "]")) [s, some x2, some (storeW n, .ow []), some (everyW n, .sh), some (.lst (l.map plW), o), s5, some (plW p, .sh), some (plW q, .sh), some (.lst (((ch n p).filter fun x => holds x q).map sw), .ow []), some (.str z, .sh), sa, sb] with
        | some y => .ok ((.str z2, .sh), y) [s, some x2, some (storeW n, .ow []), some (everyW n, .sh), some (.lst (l.map plW), o), s5, some (plW p, .sh), some (plW q, .sh), some (.lst (((ch n p).filter fun x => holds x q).map sw), .ow []), some (.str z, .sh), sa, sb]
        | none => _)) = _
      rw [g5]
      show truR (optR ((opCmp .ne (.str z2) a4).map fun k => (.bl k, .sh)) _) = _
      rw [r7]
      rfl
    exact (ite_f g6).trans rfl
end
end Tk03
set_option Elab.async false
set_option linter.all false
set_option maxRecDepth 100000
set_option maxHeartbeats 0
namespace Tk03
open PySem PySem.Spec PyProof.Rows L2 MP
def bSpot : Sts := .cons (.ite (.not (.call 1027 (.cons (.var 2) (.cons (.var 3) (.cons (.var 5) .nil))))) (.cons (.ret (.bl false)) .nil) (.nil)) .nil
theorem spot_lk {n : Int} (hn : n ∈ sizes) {x4 : Sl} {s x s6 s7 s8 s9 sa sb : Sl} : ∀ (l : List (Int × Int)) (s5 : Sl), (∀ q ∈ l, q ∈ places n) → Cl s5 → ∃ s5', forL (fun x => evG P (.name 5) (x, .sh)) (evB P (evN P 21) bSpot) (l.map plW) [s, x, some (storeW n, .ow []), some (everyW n, .sh), x4, s5, s6, s7, s8, s9, sa, sb] = .nx [s, x, some (storeW n, .ow []), some (everyW n, .sh), x4, s5', s6, s7, s8, s9, sa, sb] ∧ Cl s5'
  | [], s5, _, c => ⟨s5, rfl, c⟩
  | q :: l, s5, h, c => by
    have hq := h q List.mem_cons_self
    obtain ⟨ps, hr⟩ := right_run hn hq (List.all_eq_true.mp (mem_all tails hn) q hq)
    obtain ⟨s5', e, c'⟩ := spot_lk hn (x4 := x4) (s := s) (x := x) (s6 := s6) (s7 := s7) (s8 := s8) (s9 := s9) (sa := sa) (sb := sb) l (some (plW q, .sh)) (fun q hq => h q (List.mem_cons_of_mem _ hq)) (Cl.some_sh _)
    refine ⟨s5', ?_, c'⟩
    have e1 : callR (evN P 21 1027) [.slot 2, .val (everyW n, .sh), .val (plW q, .sh)] [s, x, some (storeW n, .ow []), some (everyW n, .sh), x4, some (plW q, .sh), s6, s7, s8, s9, sa, sb] = .ok (.bl true, .sh) [s, x, some (storeW n, .ow []), some (everyW n, .sh), x4, some (plW q, .sh), s6, s7, s8, s9, sa, sb] :=
      callR_run (as := [(storeW n, .ow []), (everyW n, .sh), (plW q, .sh)]) (ls := [some 2, none, none]) (ω1 := [s, x, none, some (everyW n, .sh), x4, some (plW q, .sh), s6, s7, s8, s9, sa, sb]) rfl hr rfl
    have e2 : evT P (evN P 21) (.call 1027 (.cons (.var 2) (.cons (.var 3) (.cons (.var 5) .nil)))) [s, x, some (storeW n, .ow []), some (everyW n, .sh), x4, some (plW q, .sh), s6, s7, s8, s9, sa, sb] = .ok true [s, x, some (storeW n, .ow []), some (everyW n, .sh), x4, some (plW q, .sh), s6, s7, s8, s9, sa, sb] := by
      show truR (callR (evN P 21 1027) [.slot 2, .val (everyW n, .sh), .val (plW q, .sh)] [s, x, some (storeW n, .ow []), some (everyW n, .sh), x4, some (plW q, .sh), s6, s7, s8, s9, sa, sb]) = _
      rw [e1]
      rfl
    have e3 : evT P (evN P 21) (.not (.call 1027 (.cons (.var 2) (.cons (.var 3) (.cons (.var 5) .nil))))) [s, x, some (storeW n, .ow []), some (everyW n, .sh), x4, some (plW q, .sh), s6, s7, s8, s9, sa, sb] = .ok false [s, x, some (storeW n, .ow []), some (everyW n, .sh), x4, some (plW q, .sh), s6, s7, s8, s9, sa, sb] := by
      show (evT P (evN P 21) (.call 1027 (.cons (.var 2) (.cons (.var 3) (.cons (.var 5) .nil)))) _).bind _ = _
      rw [e2]
      rfl
    have e4 : evB P (evN P 21) bSpot [s, x, some (storeW n, .ow []), some (everyW n, .sh), x4, some (plW q, .sh), s6, s7, s8, s9, sa, sb] = .nx [s, x, some (storeW n, .ow []), some (everyW n, .sh), x4, some (plW q, .sh), s6, s7, s8, s9, sa, sb] := (evB_nx ((ite_f e3).trans rfl)).trans rfl
    show (evB P (evN P 21) bSpot [s, x, some (storeW n, .ow []), some (everyW n, .sh), x4, some (plW q, .sh), s6, s7, s8, s9, sa, sb]).bind _ = _
    rw [e4]
    exact e
section
variable {n : Int} (hn : n ∈ sizes) {s : Sl} (hs : Cl s) {l : List (Int × Int)} {o : O} (hl0 : l ≠ []) (hl : l.length ≤ 200) (hsub : ∀ q ∈ l, q ∈ places n) (ho : o = .sh ∨ o = .ow [])
include hn hs hl0 hl hsub ho
theorem turns_run : ∀ (xs : List W) (m : Nat) (ω : En), m + 2 * xs.length < 2 ^ 59 → Inv s n l o m ω → ∃ ω', forL (fun x => evG P (.name 10) (x, .sh)) (evB P (evN P 21) bTurn) xs ω = .nx ω' ∧ Inv s n l o (m + 2 * xs.length) ω'
  | [], m, ω, _, I => ⟨ω, rfl, I⟩
  | y :: xs, m, ω, hm, I => by
    simp only [List.length_cons] at hm ⊢
    obtain ⟨x, s5, s6, s7, s8, s9, sa, sb, rfl, hx, c5, c6, c7, c8, c9, ca, cb⟩ := I.ex
    have I1 : Inv s n l o m [s, some x, some (storeW n, .ow []), some (everyW n, .sh), some (.lst (l.map plW), o), s5, s6, s7, s8, s9, some (y, .sh), sb] := ⟨x, s5, s6, s7, s8, s9, _, sb, rfl, hx, c5, c6, c7, c8, c9, Cl.some_sh _, cb⟩
    obtain ⟨ω1, e1, I2⟩ := turn_run hn hs hl0 hl hsub ho (by omega) I1
    obtain ⟨ω2, e2, I3⟩ := turns_run xs (m + 2) ω1 (by omega) I2
    refine ⟨ω2, ?_, ?_⟩
    · show (evB P (evN P 21) bTurn [s, some x, some (storeW n, .ow []), some (everyW n, .sh), some (.lst (l.map plW), o), s5, s6, s7, s8, s9, some (y, .sh), sb]).bind (fun ω2 => forL (fun x => evG P (.name 10) (x, .sh)) (evB P (evN P 21) bTurn) xs ω2) = _
      rw [e1]
      exact e2
    · rw [show m + 2 * (xs.length + 1) = m + 2 + 2 * xs.length from by omega]
      exact I3
def bLoops : Sts := .cons (.for_ (.name 5) (.seq (.var 4)) bSpot) (.cons (.for_ (.name 10) (.rng (.cons (.int 16) .nil)) bTurn) .nil)
theorem loops_run {m : Nat} {ω : En} (hm : m + 32 < 2 ^ 59) (I : Inv s n l o m ω) : ∃ ω', evB P (evN P 21) bLoops ω = .nx ω' ∧ Inv s n l o (m + 32) ω' := by
  obtain ⟨x, s5, s6, s7, s8, s9, sa, sb, rfl, hx, c5, c6, c7, c8, c9, ca, cb⟩ := I.ex
  have h1 : ∃ s5', evS P (evN P 21) (.for_ (.name 5) (.seq (.var 4)) bSpot) [s, some x, some (storeW n, .ow []), some (everyW n, .sh), some (.lst (l.map plW), o), s5, s6, s7, s8, s9, sa, sb] = .nx [s, some x, some (storeW n, .ow []), some (everyW n, .sh), some (.lst (l.map plW), o), s5', s6, s7, s8, s9, sa, sb] ∧ Cl s5' := by
    rcases ho with rfl | rfl
    · obtain ⟨s5', e, c⟩ := spot_lk hn (x4 := some (.lst (l.map plW), .sh)) (s := s) (x := some x) (s6 := s6) (s7 := s7) (s8 := s8) (s9 := s9) (sa := sa) (sb := sb) l s5 hsub c5
      refine ⟨s5', ?_, c⟩
      show (forL (fun x => evG P (.name 5) (x, .sh)) (evB P (evN P 21) bSpot) (l.map plW) [s, some x, some (storeW n, .ow []), some (everyW n, .sh), some (.lst (l.map plW), .sh), s5, s6, s7, s8, s9, sa, sb]).unlk none = _
      rw [e]
      rfl
    · obtain ⟨s5', e, c⟩ := spot_lk hn (x4 := some (.lst (l.map plW), .lk 4)) (s := s) (x := some x) (s6 := s6) (s7 := s7) (s8 := s8) (s9 := s9) (sa := sa) (sb := sb) l s5 hsub c5
      refine ⟨s5', ?_, c⟩
      have cl : ∀ t5 : Sl, Cl t5 → nolkE 4 [s, some x, some (storeW n, .ow []), some (everyW n, .sh), some (.lst (l.map plW), .ow []), t5, s6, s7, s8, s9, sa, sb] = true := by
        intro t5 ct
        refine nolkE_of fun y hy => ?_
        simp only [List.mem_cons, List.not_mem_nil, or_false] at hy
        rcases hy with rfl | rfl | rfl | rfl | rfl | rfl | rfl | rfl | rfl | rfl | rfl | rfl
        · exact hs
        · exact Pen.cl hx
        · exact Cl.ow _
        · exact Cl.some_sh _
        · exact Cl.ow _
        · exact ct
        · exact c6
        · exact c7
        · exact c8
        · exact c9
        · exact ca
        · exact cb
      show (if nolkE 4 [s, some x, some (storeW n, .ow []), some (everyW n, .sh), some (.lst (l.map plW), .ow []), s5, s6, s7, s8, s9, sa, sb] then Rr.ok (l.map plW, some 4) [s, some x, some (storeW n, .ow []), some (everyW n, .sh), some (.lst (l.map plW), .lk 4), s5, s6, s7, s8, s9, sa, sb] else .no).q (fun xu ω1 => (forL (fun x => evG P (.name 5) (x, .sh)) (evB P (evN P 21) bSpot) xu.1 ω1).unlk xu.2) = _
      rw [if_pos (cl s5 c5)]
      show (forL (fun x => evG P (.name 5) (x, .sh)) (evB P (evN P 21) bSpot) (l.map plW) [s, some x, some (storeW n, .ow []), some (everyW n, .sh), some (.lst (l.map plW), .lk 4), s5, s6, s7, s8, s9, sa, sb]).unlk (some 4) = _
      rw [e]
      show (match chkN 4 [s, some x, some (storeW n, .ow []), some (everyW n, .sh), some (.lst (l.map plW), .ow []), s5', s6, s7, s8, s9, sa, sb] with
        | some ω' => Rq.nx ω'
        | none => .no) = _
      unfold chkN
      rw [if_pos (cl s5' c)]
  obtain ⟨s5', e1, c5'⟩ := h1
  have I1 : Inv s n l o m [s, some x, some (storeW n, .ow []), some (everyW n, .sh), some (.lst (l.map plW), o), s5', s6, s7, s8, s9, sa, sb] := ⟨x, s5', s6, s7, s8, s9, sa, sb, rfl, hx, c5', c6, c7, c8, c9, ca, cb⟩
  obtain ⟨ω2, e2, I2⟩ := turns_run hn hs hl0 hl hsub ho ((List.range 16).map fun (k : Nat) => .int (k : Int)) m _ (by simp; omega) I1
  refine ⟨ω2, ?_, by simpa using I2⟩
  refine (evB_nx e1).trans ((evB_nx (ω' := ω2) ?_).trans rfl)
  show (forL (fun x => evG P (.name 10) (x, .sh)) (evB P (evN P 21) bTurn) ((List.range 16).map fun (k : Nat) => .int (k : Int)) [s, some x, some (storeW n, .ow []), some (everyW n, .sh), some (.lst (l.map plW), o), s5', s6, s7, s8, s9, sa, sb]).unlk none = _
  rw [e2]
  rfl
end
end Tk03
set_option Elab.async false
set_option linter.all false
set_option maxRecDepth 100000
set_option maxHeartbeats 400000
namespace Tk03
open PySem PySem.Spec PyProof.Rows L2 MP
theorem for_nx {P : Prog} {Γ : Nat → Fe} {t : Tg} {w : Wk} {b : Sts} {ω ω1 ω2 ω3 : En} {xs : List W} {u : Option Nat} (h1 : evW P Γ w (asgT t ++ asgB b) ω = .ok (xs, u) ω1) (h2 : forL (fun x => evG P t (x, .sh)) (evB P Γ b) xs ω1 = .nx ω2) (h3 : unlk u ω2 = some ω3) : evS P Γ (.for_ t w b) ω = .nx ω3 := by
  unfold evS
  rw [h1]
  simp only [Rr.q, h2, Rq.unlk, h3]
abbrev ixDraw : Ex := .ix (.var 3) (.call 1001 (.cons (.var 1) (.cons (.blt .len (.cons (.var 3) .nil)) .nil)))
theorem cmp_draw {n : Int} (hn : n ∈ sizes) (hpl : places n ≠ []) {s s2 s4 s5 s6 s7 s8 s9 sb : Sl} : ∀ (xs : List W) (acc : List (Int × Int)) (m : Nat) (x : W × O) (sa : Sl), Pen m x → m + xs.length < 2 ^ 59 → acc.length + xs.length ≤ 200 → (∀ q ∈ acc, q ∈ places n) →
    ∃ (ys : List (Int × Int)) (x' : W × O) (sa' : Sl), cmpL (fun x ω => bndCT (.one 10) x (wipeN ω [10])) (evIf P (evN P 21) .nil) (evV P (evN P 21) ixDraw) xs (acc.map plW) [s, some x, s2, some (everyW n, .sh), s4, s5, s6, s7, s8, s9, sa, sb] = .ok (ys.map plW) [s, some x', s2, some (everyW n, .sh), s4, s5, s6, s7, s8, s9, sa', sb] ∧ Pen (m + xs.length) x' ∧ (∀ q ∈ ys, q ∈ places n) ∧ ys.length = acc.length + xs.length
  | [], acc, m, x, sa, hx, _, _, ha => ⟨acc, x, sa, rfl, hx, ha, rfl⟩
  | y :: xs, acc, m, x, sa, hx, hm, hl, ha => by
    simp only [List.length_cons] at hm hl
    obtain ⟨q, hq, x1, d1, hx1⟩ := draw3 (s0 := s) (s2 := s2) (s4 := s4) (s5 := s5) (s6 := s6) (s7 := s7) (s8 := s8) (s9 := s9) (sa := some (y, .sh)) (sb := sb) hx (by omega) hpl (Nat.le_trans (len_pl hn) (by decide))
    obtain ⟨ys, x', sa', e, h1, h2, h3⟩ := cmp_draw hn hpl (s := s) (s2 := s2) (s4 := s4) (s5 := s5) (s6 := s6) (s7 := s7) (s8 := s8) (s9 := s9) (sb := sb) xs (acc ++ [q]) (m + 1) x1 (some (y, .sh)) hx1 (by omega) (by simp; omega) (by
      intro z hz
      rcases List.mem_append.mp hz with h | h
      · exact ha z h
      · rw [List.mem_singleton.mp h]
        exact hq)
    refine ⟨ys, x', sa', ?_, ?_, h2, ?_⟩
    · show (match evV P (evN P 21) ixDraw [s, some x, s2, some (everyW n, .sh), s4, s5, s6, s7, s8, s9, some (y, .sh), sb] with
        | .ok y ω3 => (match frzT y with
          | some y => if (acc.map plW).length < sizeLine then cmpL (fun x ω => bndCT (.one 10) x (wipeN ω [10])) (evIf P (evN P 21) .nil) (evV P (evN P 21) ixDraw) xs (acc.map plW ++ [y]) ω3 else .no
          | none => .no)
        | _ => .no) = _
      have d1' : evV P (evN P 21) ixDraw [s, some x, s2, some (everyW n, .sh), s4, s5, s6, s7, s8, s9, some (y, .sh), sb] = .ok (plW q, .sh) [s, some x1, s2, some (everyW n, .sh), s4, s5, s6, s7, s8, s9, some (y, .sh), sb] := d1
      rw [d1']
      have hlt : (acc.map plW).length < sizeLine := by
        show _ < 2 ^ 24
        simp
        omega
      show (if (acc.map plW).length < sizeLine then cmpL _ _ _ xs (acc.map plW ++ [plW q]) _ else .no) = _
      rw [if_pos hlt, show acc.map plW ++ [plW q] = (acc ++ [q]).map plW from by simp]
      exact e
    · rw [show m + (y :: xs).length = m + 1 + xs.length from by simp; omega]
      exact h1
    · rw [h3]
      simp
      omega
def bExt : Sts := .cons (.asg (.tup [2, 3]) (.tup (.cons (.make .Store (.cons (.var 11) .nil)) (.cons (.call 1089 (.cons (.var 11) .nil)) .nil)))) (.cons (.asg (.name 4) (.var 3)) (.cons (.ite (.cmp .gt (.var 11) (.int 8)) (.cons (.setc 4 (.comp (.one 10) [10] (.rng (.cons (.int 16) .nil)) (.nil) ixDraw)) .nil) (.nil)) bLoops))
/-- between two extents -/
structure InvE (s : Sl) (m : Nat) (ω : En) : Prop where
  ex : ∃ x s2 s3 s4 s5 s6 s7 s8 s9 sa sb, ω = [s, some x, s2, s3, s4, s5, s6, s7, s8, s9, sa, sb] ∧ Pen m x ∧ Cl s5 ∧ Cl s6 ∧ Cl s7 ∧ Cl s8 ∧ Cl s9 ∧ Cl sa ∧ Cl sb
theorem Inv.toE {s : Sl} {n : Int} {l : List (Int × Int)} {o : O} {m : Nat} {ω : En} (I : Inv s n l o m ω) : InvE s m ω := by
  obtain ⟨x, s5, s6, s7, s8, s9, sa, sb, rfl, h⟩ := I.ex
  exact ⟨x, _, _, _, s5, s6, s7, s8, s9, sa, sb, rfl, h⟩
theorem InvE.mono {s : Sl} {m k : Nat} {ω : En} (I : InvE s m ω) (h : m ≤ k) : InvE s k ω := by
  obtain ⟨x, s2, s3, s4, s5, s6, s7, s8, s9, sa, sb, rfl, hx, r⟩ := I.ex
  exact ⟨x, s2, s3, s4, s5, s6, s7, s8, s9, sa, sb, rfl, hx.mono h, r⟩
theorem pl_ne {n : Int} (hn : n ∈ sizes) : places n ≠ [] := by
  have : sizes.all (fun n => !(places n).isEmpty) = true := by decide +kernel
  have := mem_all this hn
  intro h
  rw [h] at this
  cases this
theorem ext_run {n : Int} (hn : n ∈ sizes) {s : Sl} (hs : Cl s) {m : Nat} (hm : m + 48 < 2 ^ 59) {x : W × O} {s2 s3 s4 s5 s6 s7 s8 s9 sa : Sl} (hx : Pen m x) (c5 : Cl s5) (c6 : Cl s6) (c7 : Cl s7) (c8 : Cl s8) (c9 : Cl s9) (ca : Cl sa) :
    ∃ ω', evB P (evN P 21) bExt [s, some x, s2, s3, s4, s5, s6, s7, s8, s9, sa, some (.int n, .sh)] = .nx ω' ∧ InvE s (m + 48) ω' := by
  have h1 : evS P (evN P 21) (.asg (.tup [2, 3]) (.tup (.cons (.make .Store (.cons (.var 11) .nil)) (.cons (.call 1089 (.cons (.var 11) .nil)) .nil)))) [s, some x, s2, s3, s4, s5, s6, s7, s8, s9, sa, some (.int n, .sh)] = .nx [s, some x, some (storeW n, .ow []), some (everyW n, .ow []), s4, s5, s6, s7, s8, s9, sa, some (.int n, .sh)] := by
    have v1 : evV P (evN P 21) (.make .Store (.cons (.var 11) .nil)) [s, some x, s2, s3, s4, s5, s6, s7, s8, s9, sa, some (.int n, .sh)] = .ok (storeW n, .ow []) [s, some x, s2, s3, s4, s5, s6, s7, s8, s9, sa, some (.int n, .sh)] := by
      have hm : ∀ ω : En, (match (evN P 21 94).run [(.ins .Store [] [], .ow []), (.int n, .sh)] with
        | Rr.ok (.non, _) (some self :: ps) => (match backA [none] ps ω with
          | some ω3 => if self.2.free then Rr.ok self ω3 else .no
          | none => .no)
        | Rr.ex c fs ws (_ :: ps) => (match backA [none] ps ω with
          | some ω3 => Rr.ex c fs ws ω3
          | none => .no)
        | _ => Rr.no) = .ok (storeW n, .ow []) ω := by
        intro ω
        rw [make_run hn]
        rfl
      exact hm _
    have v2 : evV P (evN P 21) (.call 1089 (.cons (.var 11) .nil)) [s, some x, s2, s3, s4, s5, s6, s7, s8, s9, sa, some (.int n, .sh)] = .ok (everyW n, .ow []) [s, some x, s2, s3, s4, s5, s6, s7, s8, s9, sa, some (.int n, .sh)] := by
      have e1 : callR (evN P 21 1089) [.val (.int n, .sh)] [s, some x, s2, s3, s4, s5, s6, s7, s8, s9, sa, some (.int n, .sh)] = .ok (everyW n, .ow []) [s, some x, s2, s3, s4, s5, s6, s7, s8, s9, sa, some (.int n, .sh)] :=
        callR_run (as := [(.int n, .sh)]) (ls := [none]) rfl (all_run hn) rfl
      exact e1
    have v3 : evV P (evN P 21) (.tup (.cons (.make .Store (.cons (.var 11) .nil)) (.cons (.call 1089 (.cons (.var 11) .nil)) .nil))) [s, some x, s2, s3, s4, s5, s6, s7, s8, s9, sa, some (.int n, .sh)] = .ok (.tup [storeW n, everyW n], .tp [.ow [], .ow []]) [s, some x, s2, s3, s4, s5, s6, s7, s8, s9, sa, some (.int n, .sh)] := by
      show xTup (Rr.bind (evV P (evN P 21) (.make .Store (.cons (.var 11) .nil)) [s, some x, s2, s3, s4, s5, s6, s7, s8, s9, sa, some (.int n, .sh)]) fun d ω1 => Rr.bind (Rr.bind (evV P (evN P 21) (.call 1089 (.cons (.var 11) .nil)) ω1) fun d ω1 => Rr.bind (.ok [] ω1) fun ds ω2 => .ok (d :: ds) ω2) fun ds ω2 => .ok (d :: ds) ω2) = _
      rw [v1]
      show xTup (Rr.bind (Rr.bind (evV P (evN P 21) (.call 1089 (.cons (.var 11) .nil)) [s, some x, s2, s3, s4, s5, s6, s7, s8, s9, sa, some (.int n, .sh)]) fun d ω1 => Rr.bind (.ok [] ω1) fun ds ω2 => .ok (d :: ds) ω2) fun ds ω2 => .ok ((storeW n, .ow []) :: ds) ω2) = _
      rw [v2]
      rfl
    show (evV P (evN P 21) (.tup (.cons (.make .Store (.cons (.var 11) .nil)) (.cons (.call 1089 (.cons (.var 11) .nil)) .nil))) [s, some x, s2, s3, s4, s5, s6, s7, s8, s9, sa, some (.int n, .sh)]).q (fun x ω1 => optQ (evG P (.tup [2, 3]) x ω1)) = _
    rw [v3]
    rfl
  have h2 : evS P (evN P 21) (.asg (.name 4) (.var 3)) [s, some x, some (storeW n, .ow []), some (everyW n, .ow []), s4, s5, s6, s7, s8, s9, sa, some (.int n, .sh)] = .nx [s, some x, some (storeW n, .ow []), some (everyW n, .sh), some (.lst ((places n).map plW), .sh), s5, s6, s7, s8, s9, sa, some (.int n, .sh)] := rfl
  unfold bExt
  rw [evB_nx h1, evB_nx h2]
  have ht : evT P (evN P 21) (.cmp .gt (.var 11) (.int 8)) [s, some x, some (storeW n, .ow []), some (everyW n, .sh), some (.lst ((places n).map plW), .sh), s5, s6, s7, s8, s9, sa, some (.int n, .sh)] = .ok (decide (8 < n)) [s, some x, some (storeW n, .ow []), some (everyW n, .sh), some (.lst ((places n).map plW), .sh), s5, s6, s7, s8, s9, sa, some (.int n, .sh)] := rfl
  cases hd : decide (8 < n) with
  | false =>
    rw [hd] at ht
    rw [evB_nx ((ite_f ht).trans rfl)]
    obtain ⟨ω', e, I⟩ := loops_run hn hs (pl_ne hn) (Nat.le_trans (len_pl hn) (by decide)) (fun q h => h) (.inl rfl) (m := m) (by omega) ⟨x, s5, s6, s7, s8, s9, sa, some (.int n, .sh), rfl, hx, c5, c6, c7, c8, c9, ca, Cl.some_sh _⟩
    exact ⟨ω', e, I.toE.mono (by omega)⟩
  | true =>
    rw [hd] at ht
    obtain ⟨ys, x', sa', e, h3, h4, h5⟩ := cmp_draw hn (pl_ne hn) (s := s) (s2 := some (storeW n, .ow [])) (s4 := some (.lst ((places n).map plW), .sh)) (s5 := s5) (s6 := s6) (s7 := s7) (s8 := s8) (s9 := s9) (sb := some (.int n, .sh)) ((List.range 16).map fun (k : Nat) => .int (k : Int)) [] m x none hx (by simp; omega) (by simp) (by simp)
    have hc : evV P (evN P 21) (.comp (.one 10) [10] (.rng (.cons (.int 16) .nil)) (.nil) ixDraw) [s, some x, some (storeW n, .ow []), some (everyW n, .sh), some (.lst ((places n).map plW), .sh), s5, s6, s7, s8, s9, sa, some (.int n, .sh)] = .ok (.lst (ys.map plW), .ow []) [s, some x', some (storeW n, .ow []), some (everyW n, .sh), some (.lst ((places n).map plW), .sh), s5, s6, s7, s8, s9, sa, some (.int n, .sh)] := by
      show ((cmpL (fun x ω => bndCT (.one 10) x (wipeN ω [10])) (evIf P (evN P 21) .nil) (evV P (evN P 21) ixDraw) ((List.range 16).map fun (k : Nat) => .int (k : Int)) (([] : List (Int × Int)).map plW) [s, some x, some (storeW n, .ow []), some (everyW n, .sh), some (.lst ((places n).map plW), .sh), s5, s6, s7, s8, s9, none, some (.int n, .sh)]).bind fun ys ω2 => .ok (W.lst ys, O.ow []) (restN [s, some x, some (storeW n, .ow []), some (everyW n, .sh), some (.lst ((places n).map plW), .sh), s5, s6, s7, s8, s9, sa, some (.int n, .sh)] ω2 [10])).unlk none = _
      rw [e]
      rfl
    have hne : ys ≠ [] := by
      intro h
      rw [h] at h5
      simp at h5
    rw [evB_nx (ω' := [s, some x', some (storeW n, .ow []), some (everyW n, .sh), some (.lst (ys.map plW), .ow []), s5, s6, s7, s8, s9, sa, some (.int n, .sh)]) ((ite_t ht).trans ((evB_nx (setc_nx hc)).trans rfl))]
    obtain ⟨ω', e, I⟩ := loops_run hn hs hne (by rw [h5]; simp) h4 (.inr rfl) (m := m + 16) (by omega) ⟨x', s5, s6, s7, s8, s9, sa, some (.int n, .sh), rfl, by simpa using h3, c5, c6, c7, c8, c9, ca, Cl.some_sh _⟩
    exact ⟨ω', e, I.toE.mono (by omega)⟩
theorem exts_run {s : Sl} (hs : Cl s) : ∀ (ns : List Int) (m : Nat) (ω : En), (∀ n ∈ ns, n ∈ sizes) → m + 48 * ns.length < 2 ^ 58 → InvE s m ω → ∃ ω', forL (fun x => evG P (.name 11) (x, .sh)) (evB P (evN P 21) bExt) (ns.map .int) ω = .nx ω' ∧ InvE s (m + 48 * ns.length) ω'
  | [], m, ω, _, _, I => ⟨ω, rfl, I⟩
  | n :: ns, m, ω, hn, hm, I => by
    simp only [List.length_cons] at hm
    obtain ⟨x, s2, s3, s4, s5, s6, s7, s8, s9, sa, sb, rfl, hx, c5, c6, c7, c8, c9, ca, cb⟩ := I.ex
    obtain ⟨ω1, e1, I1⟩ := ext_run (hn n List.mem_cons_self) hs (s2 := s2) (s3 := s3) (s4 := s4) (by omega) hx c5 c6 c7 c8 c9 ca
    obtain ⟨ω2, e2, I2⟩ := exts_run hs ns (m + 48) ω1 (fun k h => hn k (List.mem_cons_of_mem _ h)) (by omega) I1
    refine ⟨ω2, ?_, ?_⟩
    · show (evB P (evN P 21) bExt [s, some x, s2, s3, s4, s5, s6, s7, s8, s9, sa, some (.int n, .sh)]).bind (fun ω2 => forL (fun x => evG P (.name 11) (x, .sh)) (evB P (evN P 21) bExt) (ns.map .int) ω2) = _
      rw [e1]
      exact e2
    · rw [show m + 48 * (n :: ns).length = m + 48 + 48 * ns.length from by simp; omega]
      exact I2
theorem k03_run (ns : List Int) : ∃ ps, (evN P 22 1000).run [(.kl (ns.map .int), .sh)] = .ok (.bl true, .sh) ps := by
  obtain ⟨cs, qs, hc, hp⟩ := pen_run ns
  have hx : Pen 0 (penW cs 0 0, penM (.ow [])) := ⟨cs, 0, 0, .ow [], rfl, .inl rfl, Int.le_refl _, Int.le_refl _, by omega⟩
  obtain ⟨ω', e, I⟩ := exts_run (s := some (.kl (ns.map .int), .sh)) (Cl.some_sh _) sizes 0 [some (.kl (ns.map .int), .sh), some (penW cs 0 0, penM (.ow [])), none, none, none, none, none, none, none, none, none, none] (fun n h => h) (by decide) ⟨_, none, none, none, none, none, none, none, none, none, none, rfl, hx, Cl.none, Cl.none, Cl.none, Cl.none, Cl.none, Cl.none, Cl.none⟩
  have e0 : P.fn 1000 = some fn_law := rfl
  have hbody : fn_law.body = .cons (.asg (.name 1) (.call 1003 (.cons (.var 0) .nil))) (.cons (.for_ (.name 11) (.seq (.tup (.cons (.int 1) (.cons (.int 2) (.cons (.int 4) (.cons (.int 8) (.cons (.int 16) (.cons (.int 32) (.cons (.int 64) .nil))))))))) bExt) (.cons (.ret (.bl true)) .nil)) := rfl
  have hb : evB P (evN P 21) fn_law.body [some (.kl (ns.map .int), .sh), none, none, none, none, none, none, none, none, none, none, none] = .rt (.bl true, .sh) ω' := by
    rw [hbody]
    refine (evB_nx (ω' := [some (.kl (ns.map .int), .sh), some (penW cs 0 0, penM (.ow [])), none, none, none, none, none, none, none, none, none, none]) ?_).trans ((evB_nx (ω' := ω') ?_).trans (evB_rt rfl))
    · have e1 : callR (evN P 21 1003) [.val (.kl (ns.map .int), .sh)] [some (.kl (ns.map .int), .sh), none, none, none, none, none, none, none, none, none, none, none] = .ok (penW cs 0 0, penM (.ow [])) [some (.kl (ns.map .int), .sh), none, none, none, none, none, none, none, none, none, none, none] :=
        callR_run (as := [(.kl (ns.map .int), .sh)]) (ls := [none]) rfl hp rfl
      exact asg_nm (P := P) (Γ := evN P 21) (e := .call 1003 (.cons (.var 0) .nil)) (i := 1) (x := (penW cs 0 0, penM (.ow []))) (ω1 := [some (.kl (ns.map .int), .sh), none, none, none, none, none, none, none, none, none, none, none]) e1
    · exact for_nx (P := P) (Γ := evN P 21) (t := .name 11) (ω1 := [some (.kl (ns.map .int), .sh), some (penW cs 0 0, penM (.ow [])), none, none, none, none, none, none, none, none, none, none]) (ω2 := ω') (xs := sizes.map .int) (u := none) rfl e rfl
  rw [evN_fn e0]
  exact ⟨_, run_rt (F := fn_law) (as := [(.kl (ns.map .int), .sh)]) rfl rfl hb⟩
theorem lawOk : MP.LawOk P 1000 63 := lawOk_of 22 (by decide) fun ns _ _ => k03_run ns
end Tk03
set_option Elab.async false
set_option linter.all false
set_option maxRecDepth 100000
set_option maxHeartbeats 0
open PySem PySem.W PySem.Calls PyProof.Rows
theorem PySem.Challenge.cw_halfblocks_k03_halves_and_parents_holds : PySem.Challenge.rw_halfblocks_k03_halves_and_parents.Holds := by
  w_on; o_law
  refine HandSHeadRun.head_any (r := OpenLaw.row PySem.Challenge.rw_halfblocks_k03_halves_and_parents) (q := view (OpenLaw.row PySem.Challenge.rw_halfblocks_k03_halves_and_parents).prog [19]) (H := MP.hookM 6 Tk03.chk) (ob := MP.obM 6 Tk03.chk) (M := 20000) (loose := Tk03.lo) (d := HandSHeadRun.topDef (OpenLaw.row PySem.Challenge.rw_halfblocks_k03_halves_and_parents).prog 19) (kwd := []) MP.obM_eq
    (by kernel_rfl) (fun s => by kernel_rfl) Tk03.run (by kernel_rfl) (by kernel_rfl) (by kernel_rfl) (by rfl) (by first | assumption | decide +kernel) (by decide +kernel) ⟨rfl, rfl, rfl, rfl, rfl, by decide +kernel⟩ ?hw ?hc
  case hw => w_witness2
  case hc => exact MP.walk_M (l := PySem.Challenge.rw_halfblocks_k03_halves_and_parents) (P := Tk03.P) (i := 1000) (F := Tk03.fn_law) rfl (by decide) (by kernel_rfl) (by rfl) (by kernel_rfl) Tk03.lawOk
