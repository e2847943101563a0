import PyProof.Rows.All
import Wide.All
import OpenK.AllK
import Wide.FinOn
import HandS.ForMost
import HandS.Evl
import HandS.Flow
import HandS.IsInst
import HandS.Defaults
import HandS.TupAny
import HandS.TupMul
import HandS.TupSets
import HandS.Wide
import HandS.WideBits
import HandS.Nested
import HandS.Lambda
import HandS.CallLocal
import HandS.Rev
import HandS.RevRange
import HandS.Walk
import HandS.Zip
import HandS.ListItems
import HandS.DictTup
import HandS.HeadHook4
import HandS.HeadWalk
import KE.GoesMore
import HandS.Text
import HandS.Head0
import HandS.Head1
import HandS.Head2
import HandS.HeadHook1
import HandS.HeadHook2
import HandS.HeadHook3
import PySem.Challenge.RW_roundfall_k77_whole_desk_breaks
set_option Elab.async false
set_option linter.all false
set_option maxRecDepth 100000
set_option maxHeartbeats 4000000
namespace RF
open PySem PySem.Spec PyProof.Rows L2 Evl
/-! ### pure data: what a value of the program is, lists of the heap aside -/
inductive D where
  | non | bl (b : Bool) | int (i : Int) | str (s : Str) | tup (l : List D)
/-- all tuples stand as they stood -/
def ExT (H H' : Hp) : Prop := ∀ a xs, Rd H a (.tup xs) → Rd H' a (.tup xs)
theorem ExT.refl (H : Hp) : ExT H H := fun _ _ h => h
theorem ExT.trans {H H1 H2 : Hp} (a : ExT H H1) (b : ExT H1 H2) : ExT H H2 := fun x o h => b x o (a x o h)
theorem exT {H H' : Hp} (e : Ex H H') : ExT H H' := fun _ _ h => ex_rd e h
theorem ExT.upd {H : Hp} {a : Addr} {o : HO} (h : ∀ xs, ¬ Rd H a (.tup xs)) : ExT H (L2.upd H a o) := fun b xs hb => by
  have ne : b ≠ a := fun e => by subst e; exact h xs hb
  rcases hb with hb | ⟨u, hb⟩
  · exact .inl (by rw [upd_ne ne]; exact hb)
  · exact .inr ⟨u, by rw [upd_ne ne]; exact hb⟩
theorem ExT.lst {H : Hp} {a : Addr} {o : HO} {ys : List V} (h : H a = some (.lst ys)) : ExT H (L2.upd H a o) := ExT.upd fun xs hb => by
  rcases hb with hb | ⟨u, hb⟩ <;> · rw [h] at hb; cases hb
theorem ExT.dk {H : Hp} {a : Addr} {o : HO} {ys : List (Key × V)} (h : H a = some (.dK ys)) : ExT H (L2.upd H a o) := ExT.upd fun xs hb => by
  rcases hb with hb | ⟨u, hb⟩ <;> · rw [h] at hb; cases hb
theorem ExT.sqt {K : PySem.W.Frag} {H H' : Hp} {a : Addr} {xs : List V} (e : ExT H H') (h : SqT K H a xs) : SqT K H' a xs := by
  rcases h with h | h
  · exact .inl (e _ _ h)
  · exact .inr h
mutual
/-- the value stands for the datum -/
def Rp (K : PySem.W.Frag) (H : Hp) : D → V → Prop
  | .non, v => v = .non
  | .bl b, v => v = .bl b
  | .int i, v => v = .int i
  | .str s, v => v = .str s
  | .tup l, v => ∃ a xs, v = .ref a ∧ SqT K H a xs ∧ RpL K H l xs
def RpL (K : PySem.W.Frag) (H : Hp) : List D → List V → Prop
  | [], xs => xs = []
  | d :: l, xs => ∃ x r, xs = x :: r ∧ Rp K H d x ∧ RpL K H l r
end
section
variable {K : PySem.W.Frag} {H H' : Hp}
mutual
theorem Rp.mono (e : ExT H H') : ∀ (d : D) (v : V), Rp K H d v → Rp K H' d v
  | .non, _, h => h
  | .bl _, _, h => h
  | .int _, _, h => h
  | .str _, _, h => h
  | .tup l, _, h => by
    unfold Rp at h ⊢
    obtain ⟨a, xs, h1, h2, h3⟩ := h
    exact ⟨a, xs, h1, e.sqt h2, RpL.mono e l xs h3⟩
theorem RpL.mono (e : ExT H H') : ∀ (l : List D) (xs : List V), RpL K H l xs → RpL K H' l xs
  | [], _, h => h
  | d :: l, _, h => by
    unfold RpL at h ⊢
    obtain ⟨x, r, h1, h2, h3⟩ := h
    exact ⟨x, r, h1, Rp.mono e d x h2, RpL.mono e l r h3⟩
end
theorem Rp.up {d : D} {v : V} (h : Rp K H d v) (e : Ex H H') : Rp K H' d v := Rp.mono (exT e) d v h
theorem Rp.upT {d : D} {v : V} (h : Rp K H d v) (e : ExT H H') : Rp K H' d v := Rp.mono e d v h
theorem RpL.up {l : List D} {xs : List V} (h : RpL K H l xs) (e : Ex H H') : RpL K H' l xs := RpL.mono (exT e) l xs h
theorem RpL.upT {l : List D} {xs : List V} (h : RpL K H l xs) (e : ExT H H') : RpL K H' l xs := RpL.mono e l xs h
theorem RpL.len : ∀ {l : List D} {xs : List V}, RpL K H l xs → xs.length = l.length
  | [], _, h => by unfold RpL at h; subst h; rfl
  | d :: l, _, h => by
    unfold RpL at h
    obtain ⟨x, r, rfl, _, h3⟩ := h
    simp [RpL.len h3]
theorem RpL.get : ∀ {l : List D} {xs : List V} {i : Nat} {d : D}, RpL K H l xs → l[i]? = some d → ∃ x, xs[i]? = some x ∧ Rp K H d x
  | [], _, _, _, _, e => by simp at e
  | d :: l, _, 0, _, h, e => by
    unfold RpL at h
    obtain ⟨x, r, rfl, h2, _⟩ := h
    simp at e
    subst e
    exact ⟨x, rfl, h2⟩
  | d :: l, _, i + 1, _, h, e => by
    unfold RpL at h
    obtain ⟨x, r, rfl, _, h3⟩ := h
    simpa using RpL.get (i := i) h3 (by simpa using e)
theorem RpL.get' : ∀ {l : List D} {xs : List V} {i : Nat} {x : V}, RpL K H l xs → xs[i]? = some x → ∃ d, l[i]? = some d ∧ Rp K H d x := fun {l xs i x} h e => by
  have hl := h.len
  have hi : i < xs.length := (List.getElem?_eq_some_iff.mp e).1
  have e2 : l[i]? = some (l[i]'(by omega)) := by rw [List.getElem?_eq_getElem]
  obtain ⟨y, h1, h2⟩ := h.get e2
  rw [e] at h1
  cases h1
  exact ⟨_, e2, h2⟩
theorem RpL.app : ∀ {l m : List D} {xs ys : List V}, RpL K H l xs → RpL K H m ys → RpL K H (l ++ m) (xs ++ ys)
  | [], _, _, _, h, g => by unfold RpL at h; subst h; exact g
  | d :: l, m, _, ys, h, g => by
    unfold RpL at h
    obtain ⟨x, r, rfl, h2, h3⟩ := h
    show RpL K H (d :: (l ++ m)) (x :: (r ++ ys))
    unfold RpL
    exact ⟨x, _, rfl, h2, h3.app g⟩
theorem RpL.nil : RpL K H [] [] := by unfold RpL; rfl
theorem RpL.cons {d : D} {l : List D} {x : V} {xs : List V} (h : Rp K H d x) (g : RpL K H l xs) : RpL K H (d :: l) (x :: xs) := by
  unfold RpL
  exact ⟨x, xs, rfl, h, g⟩
theorem RpL.one {d : D} {x : V} (h : Rp K H d x) : RpL K H [d] [x] := .cons h .nil
theorem RpL.ints : ∀ (l : List Int), RpL K H (l.map D.int) (l.map V.int)
  | [] => .nil
  | i :: l => .cons (by unfold Rp; rfl) (RpL.ints l)
theorem RpL.of_ints : ∀ {l : List Int} {xs : List V}, RpL K H (l.map D.int) xs → xs = l.map V.int
  | [], _, h => by unfold RpL at h; exact h
  | i :: l, _, h => by
    simp only [List.map_cons] at h
    unfold RpL at h
    obtain ⟨x, r, rfl, h2, h3⟩ := h
    unfold Rp at h2
    subst h2
    rw [RpL.of_ints h3]
    rfl
theorem RpL.snoc {l : List D} {xs : List V} {d : D} {x : V} (h : RpL K H l xs) (g : Rp K H d x) : RpL K H (l ++ [d]) (xs ++ [x]) := h.app (.one g)
theorem RpL.rev : ∀ {l : List D} {xs : List V}, RpL K H l xs → RpL K H l.reverse xs.reverse
  | [], _, h => by unfold RpL at h; subst h; exact .nil
  | d :: l, _, h => by
    unfold RpL at h
    obtain ⟨x, r, rfl, h2, h3⟩ := h
    rw [List.reverse_cons, List.reverse_cons]
    exact h3.rev.snoc h2
theorem RpL.drop : ∀ {l : List D} {xs : List V} (n : Nat), RpL K H l xs → RpL K H (l.drop n) (xs.drop n)
  | _, _, 0, h => h
  | [], _, n + 1, h => by unfold RpL at h; subst h; exact .nil
  | d :: l, _, n + 1, h => by
    unfold RpL at h
    obtain ⟨x, r, rfl, h2, h3⟩ := h
    exact h3.drop n
theorem RpL.take : ∀ {l : List D} {xs : List V} (n : Nat), RpL K H l xs → RpL K H (l.take n) (xs.take n)
  | _, _, 0, _ => .nil
  | [], _, n + 1, h => by unfold RpL at h; subst h; exact .nil
  | d :: l, _, n + 1, h => by
    unfold RpL at h
    obtain ⟨x, r, rfl, h2, h3⟩ := h
    exact .cons h2 (h3.take n)
theorem RpL.cons_iff {d : D} {l : List D} {xs : List V} : RpL K H (d :: l) xs ↔ ∃ x r, xs = x :: r ∧ Rp K H d x ∧ RpL K H l r := by
  conv => lhs; unfold RpL
theorem RpL.nil_iff {xs : List V} : RpL K H [] xs ↔ xs = [] := by
  conv => lhs; unfold RpL
theorem Rp.non_iff {v : V} : Rp K H .non v ↔ v = .non := by conv => lhs; unfold Rp
theorem Rp.int_iff {i : Int} {v : V} : Rp K H (.int i) v ↔ v = .int i := by conv => lhs; unfold Rp
theorem Rp.bl_iff {b : Bool} {v : V} : Rp K H (.bl b) v ↔ v = .bl b := by conv => lhs; unfold Rp
theorem Rp.str_iff {s : Str} {v : V} : Rp K H (.str s) v ↔ v = .str s := by conv => lhs; unfold Rp
theorem Rp.tup_iff {l : List D} {v : V} : Rp K H (.tup l) v ↔ ∃ a xs, v = .ref a ∧ SqT K H a xs ∧ RpL K H l xs := by conv => lhs; unfold Rp
theorem Rp.int (i : Int) : Rp K H (.int i) (.int i) := Rp.int_iff.mpr rfl
theorem Rp.non : Rp K H .non .non := Rp.non_iff.mpr rfl
theorem Rp.bl (b : Bool) : Rp K H (.bl b) (.bl b) := Rp.bl_iff.mpr rfl
theorem Rp.str (s : Str) : Rp K H (.str s) (.str s) := Rp.str_iff.mpr rfl
theorem Rp.tup {l : List D} {a : Addr} {xs : List V} (h : SqT K H a xs) (g : RpL K H l xs) : Rp K H (.tup l) (.ref a) := Rp.tup_iff.mpr ⟨a, xs, rfl, h, g⟩
/-- a tuple just laid -/
theorem Rp.new {l : List D} {a : Addr} {xs : List V} (hn : H a = none) (g : RpL K H l xs) : Rp K (upd H a (.tup xs)) (.tup l) (.ref a) :=
  .tup (st_of upd_same) (g.up (Ex.new hn))
/-- a list of data at p -/
def LD (K : PySem.W.Frag) (H : Hp) (p : Addr) (l : List D) : Prop := ∃ xs, H p = some (.lst xs) ∧ RpL K H l xs
theorem LD.up {p : Addr} {l : List D} (h : LD K H p l) (e : Ex H H') : LD K H' p l := by
  obtain ⟨xs, h1, h2⟩ := h
  exact ⟨xs, e _ _ h1, h2.up e⟩
/-- it stands, the tuples stand -/
theorem LD.upT {p : Addr} {l : List D} (h : LD K H p l) (e : ExT H H') (q : H' p = H p) : LD K H' p l := by
  obtain ⟨xs, h1, h2⟩ := h
  exact ⟨xs, by rw [q]; exact h1, h2.upT e⟩
theorem LD.new {p : Addr} {l : List D} {xs : List V} (hn : H p = none) (g : RpL K H l xs) : LD K (upd H p (.lst xs)) p l := ⟨xs, upd_same, g.up (Ex.new hn)⟩
/-- a list object changed -/
theorem LD.set {p : Addr} {l : List D} {xs ys : List V} (hn : H p = some (.lst ys)) (g : RpL K H l xs) : LD K (upd H p (.lst xs)) p l := ⟨xs, upd_same, g.upT (ExT.lst hn)⟩
end
/-! ### defs by name -/
/-- the module's name x holds a def that keeps the promise sp -/
structure Ok (P : Program) (w : World) (K : PySem.W.Frag) (mg : Str → Option Value) (base : Heap) (x : Str) (k : Nat) (ps : List Str) (sp : Sp) : Prop where
  ex : ∃ f fd, FnOk P w K mg base CX0 k f fd ps sp ∧ mg x = some (.ref f) ∧ PySem.W.keepIn K (.ref f) = true ∧ Binds K fd ps []
section
variable {P : Program} {w : World} {K : PySem.W.Frag} {mg : Str → Option Value} {base : Heap}
theorem Ok.imp {x : Str} {k : Nat} {ps : List Str} {sp sp' : Sp} (G : Ok P w K mg base x k ps sp) (h : ∀ vs H Q E, sp' vs H Q E → sp vs H Q E) : Ok P w K mg base x k ps sp' := by
  obtain ⟨f, fd, F, h1, h2, h3⟩ := G.ex
  exact ⟨f, fd, F.imp h, h1, h2, h3⟩
theorem Ok.up {x : Str} {j k : Nat} {ps : List Str} {sp : Sp} (G : Ok P w K mg base x j ps sp) (h : j ≤ k) : Ok P w K mg base x k ps sp := by
  obtain ⟨f, fd, F, h1, h2, h3⟩ := G.ex
  exact ⟨f, fd, F.mono h, h1, h2, h3⟩
/-- where the def st of the top stands -/
def At (K : PySem.W.Frag) (mg : Str → Option Value) (x : Str) (st : Stmt) : Prop := ∃ f fd, mg x = some (.ref f) ∧ FunD K x x (defArgs st) (defBody st) (defScope st) [] [] f fd
theorem Ok.of {x : Str} {st : Stmt} {N ps : List Str} {k : Nat} {sp : Sp} (F : At K mg x st) (S : FnScope N ps (defScope st))
    (hbind : ∀ (kV doc pm : Value) (an : Option Addr) (cdv ct : Value) (us : List Value), us.length = ps.length → bindArgs (PySem.W.fnOf x x (defArgs st) (defBody st) (defScope st) .none kV doc pm an cdv ct) ⟨us, []⟩ = pure (ps.zip us))
    (len : ∀ vs H Q E, sp vs H Q E → vs.length = ps.length)
    (hbody : ∀ (f : Addr) (cdv : Value) (A : Around) (outer : List Env) (s : Shared) (H : Hp) (vs : List V) (Q : VK) (E : XK), Room k (A.deeper (envOfC x (defScope st) s.heap.objs.size f cdv)) → sp vs H Q E →
      ∃ t, PSs (cxOf CX0 P w K mg base N x (defScope st) f cdv A outer s H E).nox (defBody st) t ∧ t { nx := fun _ H' => Q .non H', rt := Q } (start N vs) H) : Ok P w K mg base x (k + 1) ps sp := by
  obtain ⟨f, fd, hm, F⟩ := F
  refine ⟨f, fd, F.ok S len fun cdv A outer s H vs Q E hr h => ?_, hm, F.kp, F.bindsN hbind⟩
  obtain ⟨t, h1, h2⟩ := hbody f cdv A outer s H vs Q E hr h
  exact ⟨t, h1.nox, h2⟩
variable {X : Cx}
/-- a call of it -/
theorem pc {j k : Nat} {x : Str} {ps : List Str} {sp : Sp} {e : Expr} {es : List Expr} {t : TA} {p pos : Pos} (G : Ok X.prog X.w X.K X.mg X.base x k ps sp) (hr : Room j X.A) (ha : PA X (e :: es) t) (hk : k ≤ j := by decide) (hg : Gl X x := by rfl) (hdb : (x == ("__debug__" : Str)) = false := by decide)
    (he : starEach (e :: es) X.env = (false, eval e X.env) :: starEach es X.env := by rfl) (hpl : (backTo pos (starEach es X.env)).any (·.1) = false := by rfl) : PE X (.Call (.Name x p) (e :: es) [] pos) (tCall sp [] E0 t) := by
  refine ⟨fun pins s σ H Q I h => ?_⟩
  obtain ⟨f, fd, F, h1, h2, h3⟩ := G.ex
  exact (pe_call F (hr.mono hk) hg h1 h2 h3 .nil pass0 ha (by first | assumption | exact hdb) he hpl).run pins s σ H Q I h
end
end RF

set_option Elab.async false
set_option linter.all false
set_option maxRecDepth 100000
set_option maxHeartbeats 4000000
namespace RF
open PySem PySem.Spec PyProof.Rows L2 Evl
/-! ### readings -/
section
variable {H : Hp} {o : HO}
/-- a new object, the heap a letter -/
theorem fresh {Q : VK} (k : ∀ p H', H p = none → Ex H H' → H' p = some o → Q (.ref p) H') : ∀ p, H p = none → Q (.ref p) (upd H p o) := fun p hp => k p _ hp (Ex.new hp) upd_same
theorem dt {p : Prop} [Decidable p] (h : p) : V.bl (decide p) = V.bl true := by rw [decide_eq_true h]
theorem df {p : Prop} [Decidable p] (h : ¬ p) : V.bl (decide p) = V.bl false := by rw [decide_eq_false h]
theorem qt {p : Prop} [Decidable p] {Q : VK} (h : p) (k : Q (.bl true) H) : Q (.bl (decide p)) H := by rw [decide_eq_true h]; exact k
theorem qf {p : Prop} [Decidable p] {Q : VK} (h : ¬ p) (k : Q (.bl false) H) : Q (.bl (decide p)) H := by rw [decide_eq_false h]; exact k
theorem ifT {b : Bool} {A B : Prop} (e : b = true) (h : A) : if b = true then A else B := by rw [if_pos e]; exact h
theorem ifF {b : Bool} {A B : Prop} (e : b = false) (h : B) : if b = true then A else B := by rw [if_neg (by rw [e]; decide)]; exact h
end
/-! ### rules with the written part K said -/
section
variable {X : Cx} {K : PySem.W.Frag}
/-! readings in which a new object's heap is a letter -/
def rSlF (K : PySem.W.Frag) : V → Option Int → Option Int → Hp → VK → Prop := fun x lo hi H Q => ∃ a xs, x = .ref a ∧ SqL K H a xs ∧ ∀ p H', H p = none → Ex H H' → H' p = some (.lst (cutV xs lo hi)) → Q (.ref p) H'
def rSortF (K : PySem.W.Frag) : List V → Hp → VK → Prop := fun vs H Q => ∃ (a : Addr) (xs : List V), vs = [V.ref a] ∧ SqL K H a xs ∧ xs.length < 64 ∧ (∀ x ∈ xs, ∃ ns, TupI K H x ns ∧ ns.length = 3 ∧ TS.Bd 32 ns) ∧
  ∀ (ys : List V) (p : Addr) (H' : Hp), ys.Perm xs → ys.Pairwise (fun x y => ∀ n m, TupI K H x n → TupI K H y m → TS.code 32 n ≤ TS.code 32 m) → H p = none → Ex H H' → H' p = some (.lst ys) → Q (.ref p) H'
def rCatF : R2 := fun x y H Q => ∃ l b xs zs, x = .ref l ∧ y = .ref b ∧ H l = some (.lst xs) ∧ H b = some (.lst zs) ∧ xs.length + zs.length ≤ 100000 ∧ ∀ p H', H p = none → Ex H H' → H' p = some (.lst (xs ++ zs)) → Q (.ref p) H'
theorem opCatL : OpR X (binaryOp .Add) rCatF := by
  intro pins s σ H x y v u Q I rx ry q
  obtain ⟨l, b, xs, zs, h1, h2, h3, h4, h5, k⟩ := q
  exact op_cat pins s σ H x y v u Q I rx ry ⟨l, b, xs, zs, h1, h2, h3, h4, sz_of h5, fresh k⟩
/-- a text split at a text -/
def rSplitF : V → List V → Hp → VK → Prop := fun x xs H Q => ∃ a b, x = .str a ∧ xs = [.str b] ∧ (b.length == 0) = false ∧ a.length ≤ 100000 ∧ ∀ p H', H p = none → Ex H H' → H' p = some (.lst ((Txt.split a b).map V.str)) → Q (.ref p) H'
def tTupF (t : TA) : TE := fun σ H Q => t σ H fun xs H1 => xs.length ≤ 1000 ∧ ∀ p H2, H1 p = none → Ex H1 H2 → H2 p = some (.tup xs) → Q (.ref p) H2
def tLstF (t : TA) : TE := fun σ H Q => t σ H fun xs H1 => xs.length ≤ 1000 ∧ ∀ p H2, H1 p = none → Ex H1 H2 → H2 p = some (.lst xs) → Q (.ref p) H2
theorem peTup {es : List Expr} {t : TA} {x1} {pos : Pos} (h : PA X es t) : PE X (.Tuple es x1 pos) (tTupF t) := by
  refine ⟨fun pins s σ H Q I hq => ?_⟩
  refine wpAny_Tuple_spliced (thn (h.run pos pins s σ H _ I hq) fun us s1 ⟨xs, H1, I1, r, z, q⟩ => ⟨by rw [← r.length]; exact sz_of (by omega), ?_⟩)
  have hf : H1 s1.heap.objs.size = none := I1.hok.fresh (Nat.le_refl _)
  refine ⟨.ref s1.heap.objs.size, L2.upd H1 s1.heap.objs.size (.tup xs), I1.laid (t' := s1.toks) (fun b u e => Heap.get?_push_of_some _ e) (Nat.le_refl _) ?_, rfl, q _ _ hf (Ex.new hf) upd_same⟩
  exact ⟨sz_of (by omega), us, r, ⟨_, Heap.get?_push_size _ rfl, rfl, _, rfl⟩⟩
theorem peLst {es : List Expr} {t : TA} {pos : Pos} (h : PA X es t) : PE X (.List es pos) (tLstF t) := by
  refine ⟨fun pins s σ H Q I hq => ?_⟩
  refine wpAny_List_spliced (thn (h.run pos pins s σ H _ I hq) fun us s1 ⟨xs, H1, I1, r, z, q⟩ => ⟨by rw [← r.length]; exact sz_of (by omega), ?_⟩)
  have hf : H1 s1.heap.objs.size = none := I1.hok.fresh (Nat.le_refl _)
  refine ⟨.ref s1.heap.objs.size, L2.upd H1 s1.heap.objs.size (.lst xs), I1.laid (t' := s1.toks) (fun b u e => Heap.get?_push_of_some _ e) (Nat.le_refl _) ?_, rfl, q _ _ hf (Ex.new hf) upd_same⟩
  exact ⟨sz_of (by omega), us, 0, r, Heap.get?_push_size _ rfl⟩
theorem mtSplit : MtR X "str.split" rSplitF := by
  intro pins s σ H x xs v us Q I rx r q
  obtain ⟨a, b, h1, h2, h3, h4, k⟩ := q
  exact mt_split pins s σ H x xs v us Q I rx r ⟨a, b, h1, h2, h3, Nat.le_trans (Nat.add_le_add_right h4 2) (by decide), fresh k⟩
theorem peSplit {o e : Expr} {to te : TE} {apos pos : Pos} (ho : PE X o to) (he : PE X e te) (hs : starEach [e] X.env = [(false, eval e X.env)] := by rfl) (hbase : attributeBase o "split" X.env (eval o X.env) = eval o X.env := by rfl) (hline : (apos.endLine == pos.line) = true := by rfl) :
    PE X (.Call (.Attribute o "split" apos) [e] [] pos) (tM1 rSplitF to te) := pe_m1 PySem.F.slot_str_split PySem.F.type_str_split mtSplit ho he hs hbase hline
/-- a text parted at a text -/
def rPartF : V → List V → Hp → VK → Prop := fun x xs H Q => ∃ a b, x = .str a ∧ xs = [.str b] ∧ (b.length == 0) = false ∧ a.length ≤ 100000 ∧ ∀ p H', H p = none → Ex H H' → H' p = some (.tup [.str (Txt.partition a b).1, .str (Txt.partition a b).2.1, .str (Txt.partition a b).2.2]) → Q (.ref p) H'
theorem mtPart : MtR X "str.partition" rPartF := by
  intro pins s σ H x xs v us Q I rx r q
  obtain ⟨a, b, h1, h2, h3, h4, k⟩ := q
  exact mt_partition pins s σ H x xs v us Q I rx r ⟨a, b, h1, h2, h3, sz_of h4, fresh k⟩
theorem pePart {o e : Expr} {to te : TE} {apos pos : Pos} (ho : PE X o to) (he : PE X e te) (hs : starEach [e] X.env = [(false, eval e X.env)] := by rfl) (hbase : attributeBase o "partition" X.env (eval o X.env) = eval o X.env := by rfl) (hline : (apos.endLine == pos.line) = true := by rfl) :
    PE X (.Call (.Attribute o "partition" apos) [e] [] pos) (tM1 rPartF to te) := pe_m1 PySem.F.slot_str_partition PySem.F.type_str_partition mtPart ho he hs hbase hline
theorem ixT (h : X.K = K) : IxR X (rIxT K) := by subst h; exact ix_tup
theorem ixL (h : X.K = K) : IxR X (rIxL K) := by subst h; exact ix_list
theorem slLK (h : X.K = K) : SlR X (rSlF K) := by
  subst h
  intro pins s σ H x v vl vu lo hi sl Q I rx hs pl pu q
  obtain ⟨a, xs, h1, h2, k⟩ := q
  exact sl_list pins s σ H x v vl vu lo hi sl Q I rx hs pl pu ⟨a, xs, h1, h2, fresh k⟩
theorem slAK (h : X.K = K) : SlR X (rSlA K) := by subst h; exact sl_tupA
theorem opCatA (h : X.K = K) : OpR X (binaryOp .Add) (rCatA K) := by subst h; exact op_catA
theorem opRepT (h : X.K = K) : OpR X (binaryOp .Mult) (rRepT K) := by subst h; exact op_repT
theorem opInS (h : X.K = K) : OpR X (compareOp .In) (rIn K false) := by subst h; exact op_in_seq
theorem opNotInS (h : X.K = K) : OpR X (compareOp .NotIn) (rIn K true) := by subst h; exact op_notIn_seq
theorem opEqD (h : X.K = K) (hu : X.A.units + 64 < cLine) : OpR X (compareOp .Eq) (rEqD K) := by subst h; exact op_eqD hu
theorem opNeD (h : X.K = K) (hu : X.A.units + 64 < cLine) : OpR X (compareOp .NotEq) (rNeD K) := by subst h; exact op_neD hu
def rLen (K : PySem.W.Frag) : List V → Hp → VK → Prop := fun xs H Q => ∃ p ys, xs = [.ref p] ∧ (SqL K H p ys ∨ SqT K H p ys) ∧ Q (.int ys.length) H
def rListOf (K : PySem.W.Frag) : List V → Hp → VK → Prop := fun xs H Q => ∃ p ys, xs = [.ref p] ∧ (SqL K H p ys ∨ SqT K H p ys) ∧ ∀ l H', H l = none → Ex H H' → H' l = some (.lst ys) → Q (.ref l) H'
def rTupOf (K : PySem.W.Frag) : List V → Hp → VK → Prop := fun xs H Q => ∃ p ys, xs = [.ref p] ∧ ((SqL K H p ys ∧ ∀ l H', H l = none → Ex H H' → H' l = some (.tup ys) → Q (.ref l) H') ∨ (SqT K H p ys ∧ Q (.ref p) H))
theorem cLen (h : X.K = K) : CallR X (.builtin "len") (rLen K) := by subst h; exact call_len_seq
theorem cListOf (h : X.K = K) : CallR X (.type "list") (rListOf K) := by
  subst h
  intro pins s σ H xs us Q I r q
  obtain ⟨p, ys, h1, h2, k⟩ := q
  exact call_list_of pins s σ H xs us Q I r ⟨p, ys, h1, h2, fresh k⟩
theorem cTupOf (h : X.K = K) : CallR X (.type "tuple") (rTupOf K) := by
  subst h
  intro pins s σ H xs us Q I r q
  obtain ⟨p, ys, h1, q⟩ := q
  refine call_tuple_of pins s σ H xs us Q I r ⟨p, ys, h1, ?_⟩
  rcases q with ⟨h2, k⟩ | q
  · exact .inl ⟨h2, fresh k⟩
  · exact .inr q
theorem cIsi (h : X.K = K) : CallR X (.builtin "isinstance") (rIsi K) := by subst h; exact call_isi
theorem cSort (h : X.K = K) : CallR X (.builtin "sorted") (rSortF K) := by
  subst h
  intro pins s σ H xs us Q I r q
  obtain ⟨a, ys, h1, h2, h3, h4, k⟩ := q
  exact cr_sortT (by decide) pins s σ H xs us Q I r ⟨a, ys, h1, h2, h3, h4, fun zs p h5 h6 h7 => k zs p _ h5 h6 h7 (Ex.new h7) upd_same⟩
theorem cMin (h : X.K = K) (hc : X.calm = true) : CallR X (.builtin "min") (rMin K) := by subst h; exact cr_min hc
theorem piL (h : X.K = K) {tg l : Expr} {tl : TE} (hl : PE X l tl) : PI X tg l (iList K tl) := by subst h; exact pi_list hl
theorem piT (h : X.K = K) {tg l : Expr} {tl : TE} (hl : PE X l tl) : PI X tg l (iTup K tl) := by subst h; exact pi_tup hl
end
end RF

set_option Elab.async false
set_option linter.all false
set_option maxRecDepth 100000
set_option maxHeartbeats 4000000
namespace RF
open PySem PySem.Spec PyProof.Rows L2 Evl
/-! ### the text by places -/
def top (i : Nat) : Stmt := PySem.Challenge.pw_roundfall_k77_whole_desk_breaks.main.body.getD i (.Pass ⟨0, 0, 0, 0⟩)
abbrev s_is_whole : Stmt := top 2
abbrev s_has_hand : Stmt := top 3
abbrev s_mask_of : Stmt := top 4
abbrev s_hands_in : Stmt := top 5
abbrev s_is_number : Stmt := top 16
abbrev s_are_numbers : Stmt := top 17
abbrev s_is_fall : Stmt := top 18
abbrev s_is_run : Stmt := top 19
abbrev s_many_hands : Stmt := top 20
abbrev s_fall_of : Stmt := top 21
abbrev s_without_fall : Stmt := top 22
abbrev s_with_fall : Stmt := top 23
abbrev s_with_number : Stmt := top 24
abbrev s_is_up : Stmt := top 25
abbrev s_who_is_up : Stmt := top 26
abbrev s_comes : Stmt := top 27
abbrev s_keeps : Stmt := top 28
abbrev s_next_view : Stmt := top 30
abbrev s_views_of : Stmt := top 31
abbrev s_rounds_of : Stmt := top 32
abbrev s_own_past : Stmt := top 33
abbrev s_gather : Stmt := top 34
abbrev s_known : Stmt := top 35
abbrev s_least_known : Stmt := top 36
abbrev s_heard_of : Stmt := top 37
abbrev s_is_clean : Stmt := top 38
abbrev s_lacks_in : Stmt := top 39
abbrev s_lacking : Stmt := top 40
abbrev s_standing : Stmt := top 44
abbrev s_hushed : Stmt := top 45
abbrev s_without_later : Stmt := top 47
abbrev s_falls_of_round : Stmt := top 48
abbrev s_unseen : Stmt := top 49
abbrev s_put_off : Stmt := top 50
abbrev s_given_back : Stmt := top 51
abbrev s_healed_round : Stmt := top 52
abbrev s_healed : Stmt := top 53
abbrev s_found_out : Stmt := top 56
abbrev s_waste_of : Stmt := top 57
abbrev s_closing_round : Stmt := top 58
abbrev s_is_open : Stmt := top 59
abbrev s_renumbered : Stmt := top 61
abbrev s_chain_of : Stmt := top 62
abbrev s_choice_by : Stmt := top 64
abbrev s_told_by : Stmt := top 67
abbrev s_torn_in : Stmt := top 68
abbrev s_halved : Stmt := top 69
abbrev s_broken : Stmt := top 70
abbrev s_plain : Stmt := top 72
abbrev s_soon : Stmt := top 73
abbrev s_sure : Stmt := top 74
abbrev s_waste_seen : Stmt := top 75
abbrev s_together : Stmt := top 76
abbrev s_read_number : Stmt := top 80
abbrev s_show_fall : Stmt := top 81
abbrev s_show_run : Stmt := top 82
abbrev s_read_fall : Stmt := top 83
abbrev s_read_run : Stmt := top 84
abbrev s_is_word : Stmt := top 88
abbrev s_is_figure : Stmt := top 89
abbrev s_is_written : Stmt := top 90
abbrev s_rule_by : Stmt := top 91
abbrev s_fits : Stmt := top 92
abbrev s_kinds_of : Stmt := top 93
abbrev s_shown_break : Stmt := top 95
abbrev s_law_cell_at : Stmt := top 98
abbrev s_law_mixed : Stmt := top 99
abbrev s_law_bit : Stmt := top 100
abbrev s_law_number : Stmt := top 101
abbrev s_law_reached : Stmt := top 102
abbrev s_law_falls : Stmt := top 103
abbrev s_law_run : Stmt := top 104
abbrev s_law_text : Stmt := top 105
abbrev s_law_rule : Stmt := top 106
abbrev s_law_told : Stmt := top 107
abbrev s_law_breaks : Stmt := top 108
abbrev s_law_answered : Stmt := top 109
abbrev s_law : Stmt := top 110
abbrev s_desk_init : Stmt := inClass (top 96) 0
abbrev s_desk_run_of : Stmt := inClass (top 96) 1
abbrev s_desk_put_down : Stmt := inClass (top 96) 2
abbrev s_desk_played : Stmt := inClass (top 96) 4
abbrev s_desk_say : Stmt := inClass (top 96) 5
theorem bt_abs : bootBuiltins "abs" = some (.builtin "abs") := by decide +kernel
theorem bt_bool : bootBuiltins "bool" = some (.type "bool") := by decide +kernel
theorem bt_enumerate : bootBuiltins "enumerate" = some (.type "enumerate") := by decide +kernel
theorem bt_int : bootBuiltins "int" = some (.type "int") := by decide +kernel
theorem bt_isinstance : bootBuiltins "isinstance" = some (.builtin "isinstance") := by decide +kernel
theorem bt_len : bootBuiltins "len" = some (.builtin "len") := by decide +kernel
theorem bt_list : bootBuiltins "list" = some (.type "list") := by decide +kernel
theorem bt_max : bootBuiltins "max" = some (.builtin "max") := by decide +kernel
theorem bt_min : bootBuiltins "min" = some (.builtin "min") := by decide +kernel
theorem bt_range : bootBuiltins "range" = some (.type "range") := by decide +kernel
theorem bt_reversed : bootBuiltins "reversed" = some (.type "reversed") := by decide +kernel
theorem bt_sorted : bootBuiltins "sorted" = some (.builtin "sorted") := by decide +kernel
theorem bt_str : bootBuiltins "str" = some (.type "str") := by decide +kernel
theorem bt_tuple : bootBuiltins "tuple" = some (.type "tuple") := by decide +kernel
theorem bt_zip : bootBuiltins "zip" = some (.type "zip") := by decide +kernel
/-- where the method st of Desk stands -/
def AtM (K : PySem.W.Frag) (m q : Str) (st : Stmt) : Prop := ∃ f fd, Meth K (He.ga K "Desk") m f ∧ FunD K m q (defArgs st) (defBody st) (defScope st) [] [] f fd
theorem pe_gl {X : Cx} {x : Str} {v : V} {pos : Pos} (h : ∃ u, X.mg x = some u ∧ RelV v u) (hg : Gl X x) (hd : (x == ("__debug__" : Str)) = false := by decide) : PE X (.Name x pos) (tC v) := by
  refine ⟨fun pins s σ H Q I hq => ?_⟩
  obtain ⟨u, h1, h2⟩ := h
  exact (pe_glob hg h1 h2 hd).run pins s σ H Q I hq
/-! ### what the walk asks of the module -/
structure Txt (P : Program) (w : World) (K : PySem.W.Frag) (mg : Str → Option Value) (base : Heap) : Prop where
  n_abs : mg "abs" = none
  n_bool : mg "bool" = none
  n_enumerate : mg "enumerate" = none
  n_int : mg "int" = none
  n_isinstance : mg "isinstance" = none
  n_len : mg "len" = none
  n_list : mg "list" = none
  n_max : mg "max" = none
  n_min : mg "min" = none
  n_range : mg "range" = none
  n_reversed : mg "reversed" = none
  n_sorted : mg "sorted" = none
  n_str : mg "str" = none
  n_tuple : mg "tuple" = none
  n_zip : mg "zip" = none
  c_MOST_HANDS : ∃ u, mg "MOST_HANDS" = some u ∧ RelV (.int 5) u
  c_MOST_ROUNDS : ∃ u, mg "MOST_ROUNDS" = some u ∧ RelV (.int 5) u
  c_LAST : ∃ u, mg "LAST" = some u ∧ RelV (.int 5) u
  c_MOST_FIGURES : ∃ u, mg "MOST_FIGURES" = some u ∧ RelV (.int 60) u
  c_FIGURES : ∃ u, mg "FIGURES" = some u ∧ RelV (.str "0123456789") u
  c_LETTERS : ∃ u, mg "LETTERS" = some u ∧ RelV (.str "abcdefghijklmnopqrstuvwxyz") u
  c_RULES : ∃ u, mg "RULES" = some u ∧ RelV (.ref (He.ga K "RULES")) u
  rules : ∀ H : Hp, SqL K H (He.ga K "RULES") [.str "plain", .str "soon", .str "sure", .str "together"]
  f_is_whole : At K mg "is_whole" s_is_whole
  f_has_hand : At K mg "has_hand" s_has_hand
  f_mask_of : At K mg "mask_of" s_mask_of
  f_hands_in : At K mg "hands_in" s_hands_in
  f_is_number : At K mg "is_number" s_is_number
  f_are_numbers : At K mg "are_numbers" s_are_numbers
  f_is_fall : At K mg "is_fall" s_is_fall
  f_is_run : At K mg "is_run" s_is_run
  f_many_hands : At K mg "many_hands" s_many_hands
  f_fall_of : At K mg "fall_of" s_fall_of
  f_without_fall : At K mg "without_fall" s_without_fall
  f_with_fall : At K mg "with_fall" s_with_fall
  f_with_number : At K mg "with_number" s_with_number
  f_is_up : At K mg "is_up" s_is_up
  f_who_is_up : At K mg "who_is_up" s_who_is_up
  f_comes : At K mg "comes" s_comes
  f_keeps : At K mg "keeps" s_keeps
  f_next_view : At K mg "next_view" s_next_view
  f_views_of : At K mg "views_of" s_views_of
  f_rounds_of : At K mg "rounds_of" s_rounds_of
  f_own_past : At K mg "own_past" s_own_past
  f_gather : At K mg "gather" s_gather
  f_known : At K mg "known" s_known
  f_least_known : At K mg "least_known" s_least_known
  f_heard_of : At K mg "heard_of" s_heard_of
  f_is_clean : At K mg "is_clean" s_is_clean
  f_lacks_in : At K mg "lacks_in" s_lacks_in
  f_lacking : At K mg "lacking" s_lacking
  f_standing : At K mg "standing" s_standing
  f_hushed : At K mg "hushed" s_hushed
  f_without_later : At K mg "without_later" s_without_later
  f_falls_of_round : At K mg "falls_of_round" s_falls_of_round
  f_unseen : At K mg "unseen" s_unseen
  f_put_off : At K mg "put_off" s_put_off
  f_given_back : At K mg "given_back" s_given_back
  f_healed_round : At K mg "healed_round" s_healed_round
  f_healed : At K mg "healed" s_healed
  f_found_out : At K mg "found_out" s_found_out
  f_waste_of : At K mg "waste_of" s_waste_of
  f_closing_round : At K mg "closing_round" s_closing_round
  f_is_open : At K mg "is_open" s_is_open
  f_renumbered : At K mg "renumbered" s_renumbered
  f_chain_of : At K mg "chain_of" s_chain_of
  f_choice_by : At K mg "choice_by" s_choice_by
  f_told_by : At K mg "told_by" s_told_by
  f_torn_in : At K mg "torn_in" s_torn_in
  f_halved : At K mg "halved" s_halved
  f_broken : At K mg "broken" s_broken
  f_plain : At K mg "plain" s_plain
  f_soon : At K mg "soon" s_soon
  f_sure : At K mg "sure" s_sure
  f_waste_seen : At K mg "waste_seen" s_waste_seen
  f_together : At K mg "together" s_together
  f_read_number : At K mg "read_number" s_read_number
  f_show_fall : At K mg "show_fall" s_show_fall
  f_show_run : At K mg "show_run" s_show_run
  f_read_fall : At K mg "read_fall" s_read_fall
  f_read_run : At K mg "read_run" s_read_run
  f_is_word : At K mg "is_word" s_is_word
  f_is_figure : At K mg "is_figure" s_is_figure
  f_is_written : At K mg "is_written" s_is_written
  f_rule_by : At K mg "rule_by" s_rule_by
  f_fits : At K mg "fits" s_fits
  f_kinds_of : At K mg "kinds_of" s_kinds_of
  f_shown_break : At K mg "shown_break" s_shown_break
  f_law_cell_at : At K mg "_law_cell_at" s_law_cell_at
  f_law_mixed : At K mg "_law_mixed" s_law_mixed
  f_law_bit : At K mg "_law_bit" s_law_bit
  f_law_number : At K mg "_law_number" s_law_number
  f_law_reached : At K mg "_law_reached" s_law_reached
  f_law_falls : At K mg "_law_falls" s_law_falls
  f_law_run : At K mg "_law_run" s_law_run
  f_law_text : At K mg "_law_text" s_law_text
  f_law_rule : At K mg "_law_rule" s_law_rule
  f_law_told : At K mg "_law_told" s_law_told
  f_law_breaks : At K mg "_law_breaks" s_law_breaks
  f_law_answered : At K mg "_law_answered" s_law_answered
  f_law : At K mg "law" s_law
  cl : Cls K (He.ga K "Desk")
  noK : NoAttr K (He.ga K "Desk") "kept_runs"
  mgD : mg "Desk" = some (.ref (He.ga K "Desk"))
  f_desk_init : AtM K "__init__" "Desk.__init__" s_desk_init
  f_desk_run_of : AtM K "run_of" "Desk.run_of" s_desk_run_of
  f_desk_put_down : AtM K "put_down" "Desk.put_down" s_desk_put_down
  f_desk_played : AtM K "played" "Desk.played" s_desk_played
  f_desk_say : AtM K "say" "Desk.say" s_desk_say
  mkD : ∃ f fd, Mk K (He.ga K "Desk") f ∧ FunD K "__init__" "Desk.__init__" (defArgs s_desk_init) (defBody s_desk_init) (defScope s_desk_init) [] [] f fd
end RF

set_option linter.all false
/-! The mirror: what the defs compute, in plain Lean. -/
namespace RM
/-! ### masks -/
def hasH (m h : Nat) : Bool := m.testBit h
def maskOf : List Nat → Nat
  | [] => 0
  | h :: l => (1 <<< h) ||| maskOf l
def handsIn (m : Nat) : List Nat := (List.range 5).filter (hasH m)
theorem testBit_one_shl (h x : Nat) : (1 <<< h).testBit x = decide (x = h) := by
  rw [Nat.shiftLeft_eq, Nat.one_mul, Nat.testBit_two_pow]
  simp [eq_comm]
theorem maskOf_bit : ∀ (l : List Nat) (x : Nat), (maskOf l).testBit x = decide (x ∈ l)
  | [], x => by simp [maskOf]
  | h :: l, x => by
    show ((1 <<< h) ||| maskOf l).testBit x = _
    rw [Nat.testBit_or, testBit_one_shl, maskOf_bit l x]
    simp
theorem mask_ext {a b : Nat} (h : ∀ x, a.testBit x = b.testBit x) : a = b := Nat.eq_of_testBit_eq h
/-! ### runs -/
abbrev Fall := Nat × Nat × Nat
abbrev Rn := List Int × List Fall
def fallOf (r : Rn) (h : Nat) : Option Fall := r.2.find? fun f => f.1 == h
def without (r : Rn) (h : Nat) : Rn := (r.1, r.2.filter fun f => f.1 != h)
def ins (f : Fall) : List Fall → List Fall
  | [] => [f]
  | g :: t => if f.1 < g.1 then f :: g :: t else g :: ins f t
def withF (r : Rn) (h a m : Nat) : Rn := (r.1, ins (h, a, m) (without r h).2)
def withN (r : Rn) (h : Nat) (n : Int) : Rn := (r.1.set h n, r.2)
def isUp (r : Rn) (h k : Nat) : Bool := match fallOf r h with
  | none => true
  | some f => decide (k < f.2.1)
def whoUp (r : Rn) (k : Nat) : List Nat := (List.range r.1.length).filter fun h => isUp r h k
def comes (r : Rn) (b t k : Nat) : Bool :=
  if b = t ∨ isUp r t k = false then false else match fallOf r b with
    | none => true
    | some f => if k < f.2.1 then true else decide (f.2.1 = k) && hasH f.2.2 t
/-- a run as the document has it -/
structure Valid (r : Rn) : Prop where
  lo : 2 ≤ r.1.length
  hi : r.1.length ≤ 4
  num : ∀ n ∈ r.1, n.natAbs < 10 ^ 60
  srt : r.2.Pairwise fun f g => f.1 < g.1
  fin : ∀ f ∈ r.2, f.1 < r.1.length ∧ 1 ≤ f.2.1 ∧ f.2.1 ≤ 5 ∧ f.2.2 < 2 ^ r.1.length ∧ f.2.2.testBit f.1 = false
/-! ### views -/
/-- a hand's view behind k rounds -/
def Vw : Nat → Type
  | 0 => Nat × Int
  | k + 1 => Nat × List (Option (Vw k))
def Vw.dflt : (k : Nat) → Vw k
  | 0 => (0, 0)
  | _ + 1 => (0, [])
abbrev nextView (r : Rn) {k : Nat} (vs : List (Option (Vw k))) (h a : Nat) : Option (Vw (k + 1)) :=
  if isUp r h a = true then some (h, (List.range r.1.length).map fun o => if o = h ∨ comes r o h a = true then (vs[o]?).getD none else none) else none
def views (r : Rn) : (k : Nat) → List (Option (Vw k))
  | 0 => (List.range r.1.length).map fun h => some (h, r.1.getD h 0)
  | k + 1 => (List.range r.1.length).map fun h => nextView r (views r k) h (k + 1)
/-- a view with its rounds -/
abbrev AV := (k : Nat) × Vw k
/-- its hand -/
def Vw.hand : {k : Nat} → Vw k → Nat
  | 0, v => v.1
  | _ + 1, v => v.1
/-- the part at its own place -/
def Vw.own {k : Nat} (v : Vw (k + 1)) : Vw k := ((v.2[v.1]?).getD none).getD (Vw.dflt k)
def down : AV → AV
  | ⟨0, v⟩ => ⟨0, v⟩
  | ⟨k + 1, v⟩ => ⟨k, Vw.own v⟩
def iter (f : AV → AV) : Nat → AV → AV
  | 0, a => a
  | n + 1, a => iter f n (f a)
def ownPast (a : AV) (j : Nat) : AV := iter down (a.1 - j) a
/-- well made: the own part stands, the hand is one of at most five -/
def Vw.wf : {k : Nat} → Vw k → Prop
  | 0, v => v.1 < 5
  | _ + 1, v => v.2.length ≤ 5 ∧ (∃ w, v.2[v.1]? = some (some w)) ∧ ∀ w, some w ∈ v.2 → Vw.wf w
/-- put into the dict of beginnings -/
def putB (d : List (Nat × Int)) (h : Nat) (n : Int) : List (Nat × Int) :=
  if d.any (fun p => p.1 == h) then d.map (fun p => if p.1 = h then (p.1, n) else p) else d ++ [(h, n)]
def gather : {k : Nat} → Vw k → List (Nat × Int) → List (Nat × Int)
  | 0, v, d => putB d v.1 v.2
  | _ + 1, v, d => v.2.foldl (fun d o => match o with
    | none => d
    | some w => gather w d) d
def minL : List Int → Int
  | [] => 0
  | [a] => a
  | a :: b :: l => min a (minL (b :: l))
def least (a : AV) : Int := minL ((gather a.2 []).map (·.2))
def heard {k : Nat} (v : Vw (k + 1)) : Nat := maskOf ((List.range v.2.length).filter fun i => ((v.2[i]?).getD none).isSome)
def isClean : AV → Bool
  | ⟨0, _⟩ => false
  | ⟨1, v⟩ => v.2.all (·.isSome)
  | ⟨_ + 2, v⟩ => decide (heard v = heard (Vw.own v))
def lacks : {k : Nat} → Vw k → Nat → Nat
  | 0, _, _ => 0
  | k + 1, v, r => (List.range v.2.length).foldl (fun m i => match (v.2[i]?).getD none with
    | some w => m ||| lacks w r
    | none => if k + 1 ≤ r then m ||| maskOf [i] else m) 0
def lacking (a : AV) (r : Nat) : Nat := lacks a.2 r
def wasteSeen (a : AV) : Nat := (List.range (a.1 - 1)).foldl (fun m i => max m ((handsIn (lacking a (i + 1))).length - (i + 1))) 0
/-! ### rules -/
inductive Word where
  | plain | soon | sure | together
  deriving DecidableEq
def rule (w : Word) (b : Nat) (a : AV) : Option Int := match w with
  | .plain => if b < a.1 then some (least a) else none
  | .soon => if b < a.1 ∨ isClean a = true then some (least a) else none
  | .sure => if b < a.1 ∨ ((List.range (a.1 - 1)).any fun i => isClean (ownPast a (i + 1))) = true then some (least a) else none
  | .together => if b < a.1 + wasteSeen a then some (least a) else none
def choiceFrom (f : AV → Option Int) (a : AV) : Nat → Nat → Option (Nat × Int)
  | _, 0 => none
  | k, n + 1 => match f (ownPast a k) with
    | some x => some (k, x)
    | none => choiceFrom f a (k + 1) n
def choiceBy (f : AV → Option Int) (a : AV) : Option (Nat × Int) := choiceFrom f a 0 (a.1 + 1)
def viewAt (r : Rn) (k h : Nat) : Vw k := (((views r k)[h]?).getD none).getD (Vw.dflt k)
def toldAt (f : AV → Option Int) (r : Rn) (k h : Nat) : Option Int := (choiceBy f ⟨k, viewAt r k h⟩).map (·.2)
def toldBy (f : AV → Option Int) (r : Rn) (k : Nat) : List (Nat × Option Int) := (whoUp r k).map fun h => (h, toldAt f r k h)
/-! ### waste -/
def foundOut (r : Rn) (k : Nat) : Nat :=
  r.2.foldl (fun m f => if maskOf (whoUp r k) ≠ 0 ∧ f.2.1 < k then m ||| maskOf [f.1]
    else if f.2.1 = k ∧ maskOf (whoUp r k) &&& f.2.2 ≠ maskOf (whoUp r k) then m ||| maskOf [f.1] else m) 0
def wasteOf (r : Rn) : Nat := (List.range 5).foldl (fun m i => max m ((handsIn (foundOut r (i + 1))).length - (i + 1))) 0
/-! ### healing -/
def standing (r : Rn) (h : Nat) : List Nat := (List.range r.1.length).filter fun o => decide (o ≠ h) && (fallOf r o).isNone
def withoutLater (r : Rn) (k : Nat) : Rn := (r.1, r.2.filter fun f => decide (f.2.1 ≤ k))
def fallsAt (r : Rn) (a : Nat) : List Fall := r.2.filter fun f => f.2.1 == a
def unseen (r : Rn) (a : Nat) : List Nat := ((fallsAt r a).filter fun f => (whoUp r a).all fun o => decide (o ∈ handsIn f.2.2)).map (·.1)
def putOff1 (a k : Nat) (r : Rn) (h : Nat) : Rn := if a < k then withF (without r h) h (a + 1) 0 else without r h
def putOff (r : Rn) (a k : Nat) : Rn := (unseen r a).foldl (putOff1 a k) r
end RM

set_option linter.all false
set_option maxHeartbeats 1000000
namespace RM
def Srt (l : List Fall) : Prop := l.Pairwise fun f g => f.1 < g.1
theorem srt_ext : ∀ {l m : List Fall}, Srt l → Srt m → (∀ x, x ∈ l ↔ x ∈ m) → l = m
  | [], [], _, _, _ => rfl
  | [], b :: s, _, _, h => by have := (h b).mpr List.mem_cons_self; cases this
  | a :: t, [], _, _, h => by have := (h a).mp List.mem_cons_self; cases this
  | a :: t, b :: s, h1, h2, h => by
    obtain ⟨ha, ht⟩ := List.pairwise_cons.mp h1
    obtain ⟨hb, hs⟩ := List.pairwise_cons.mp h2
    have e : a = b := by
      rcases List.mem_cons.mp ((h a).mp List.mem_cons_self) with e | m1
      · exact e
      · rcases List.mem_cons.mp ((h b).mpr List.mem_cons_self) with e | m2
        · exact e.symm
        · have := hb a m1
          have := ha b m2
          omega
    subst e
    rw [srt_ext ht hs fun x => ⟨fun hx => ?_, fun hx => ?_⟩]
    · rcases List.mem_cons.mp ((h x).mp (List.mem_cons_of_mem _ hx)) with e | m1
      · subst e; have := ha _ hx; omega
      · exact m1
    · rcases List.mem_cons.mp ((h x).mpr (List.mem_cons_of_mem _ hx)) with e | m1
      · subst e; have := hb _ hx; omega
      · exact m1
theorem ins_mem (f : Fall) : ∀ (l : List Fall) (x : Fall), x ∈ ins f l ↔ x = f ∨ x ∈ l
  | [], x => by simp [ins]
  | g :: t, x => by
    unfold ins
    split
    · simp
    · rw [List.mem_cons, ins_mem f t x, List.mem_cons]
      constructor
      · rintro (h | h | h)
        · exact .inr (.inl h)
        · exact .inl h
        · exact .inr (.inr h)
      · rintro (h | h | h)
        · exact .inr (.inl h)
        · exact .inl h
        · exact .inr (.inr h)
theorem ins_srt (f : Fall) : ∀ (l : List Fall), Srt l → (∀ g ∈ l, g.1 ≠ f.1) → Srt (ins f l)
  | [], _, _ => by unfold ins Srt; simp
  | g :: t, h, hn => by
    obtain ⟨hg, ht⟩ := List.pairwise_cons.mp h
    unfold ins
    split
    · rename_i hl
      refine List.pairwise_cons.mpr ⟨fun x hx => ?_, h⟩
      rcases List.mem_cons.mp hx with e | hx
      · subst e; exact hl
      · have := hg x hx; omega
    · rename_i hl
      have := hn g List.mem_cons_self
      refine List.pairwise_cons.mpr ⟨fun x hx => ?_, ins_srt f t ht fun x hx => hn x (List.mem_cons_of_mem _ hx)⟩
      rcases (ins_mem f t x).mp hx with e | hx
      · subst e; omega
      · exact hg x hx
theorem ins_len (f : Fall) : ∀ (l : List Fall), (ins f l).length = l.length + 1
  | [] => rfl
  | g :: t => by
    unfold ins
    split
    · rfl
    · rw [List.length_cons, ins_len f t]; rfl
theorem Srt.filter {l : List Fall} (h : Srt l) (p : Fall → Bool) : Srt (l.filter p) := List.Pairwise.filter p h
theorem find_mem {l : List Fall} (h : Srt l) {x : Nat} {f : Fall} : l.find? (fun f => f.1 == x) = some f ↔ f ∈ l ∧ f.1 = x := by
  constructor
  · intro e
    exact ⟨List.mem_of_find?_eq_some e, by have := List.find?_some e; simpa using this⟩
  · rintro ⟨hm, rfl⟩
    induction l with
    | nil => cases hm
    | cons a t ih =>
      obtain ⟨ha, ht⟩ := List.pairwise_cons.mp h
      rw [List.find?_cons]
      rcases List.mem_cons.mp hm with e | hm
      · subst e; simp
      · have := ha f hm
        have e : (a.1 == f.1) = false := by simp; omega
        rw [e]
        exact ih ht hm
theorem fallOf_some {r : Rn} (h : Srt r.2) {x : Nat} {f : Fall} : fallOf r x = some f ↔ f ∈ r.2 ∧ f.1 = x := find_mem h
theorem fallOf_hand {r : Rn} {x : Nat} {f : Fall} (e : fallOf r x = some f) : f.1 = x := by
  have := List.find?_some e; simpa using this
theorem fallOf_in {r : Rn} {x : Nat} {f : Fall} (e : fallOf r x = some f) : f ∈ r.2 := List.mem_of_find?_eq_some e
theorem fallOf_none {r : Rn} {x : Nat} : fallOf r x = none ↔ ∀ f ∈ r.2, f.1 ≠ x := by
  unfold fallOf
  rw [List.find?_eq_none]
  simp
theorem run_ext {r s : Rn} (h1 : Srt r.2) (h2 : Srt s.2) (hn : r.1 = s.1) (h : ∀ x, fallOf r x = fallOf s x) : r = s := by
  have : r.2 = s.2 := srt_ext h1 h2 fun f => by
    have e := h f.1
    constructor
    · intro hm
      have := (fallOf_some h1).mpr ⟨hm, rfl⟩
      rw [e] at this
      exact ((fallOf_some h2).mp this).1
    · intro hm
      have := (fallOf_some h2).mpr ⟨hm, rfl⟩
      rw [← e] at this
      exact ((fallOf_some h1).mp this).1
  exact Prod.ext hn this
theorem srt_without {r : Rn} (h : Srt r.2) (x : Nat) : Srt (without r x).2 := h.filter _
theorem srt_withF {r : Rn} (h : Srt r.2) (x a m : Nat) : Srt (withF r x a m).2 := by
  refine ins_srt _ _ (srt_without h x) fun g hg => ?_
  have := (List.mem_filter.mp hg).2
  simpa using this
theorem opt_ext {α : Type} {a b : Option α} (h : ∀ x, a = some x ↔ b = some x) : a = b := by
  cases a with
  | none => cases b with
    | none => rfl
    | some y => exact absurd ((h y).mpr rfl) (by simp)
  | some x => exact ((h x).mp rfl).symm
theorem fallOf_without {r : Rn} (h : Srt r.2) (y x : Nat) : fallOf (without r y) x = if x = y then none else fallOf r x := by
  refine opt_ext fun f => ?_
  rw [fallOf_some (srt_without h y)]
  unfold without
  simp only [List.mem_filter]
  split
  · rename_i e
    subst e
    constructor
    · rintro ⟨⟨_, h1⟩, h2⟩
      simp [h2] at h1
    · intro z; cases z
  · rename_i e
    rw [fallOf_some h]
    constructor
    · rintro ⟨⟨h1, _⟩, h2⟩
      exact ⟨h1, h2⟩
    · rintro ⟨h1, h2⟩
      exact ⟨⟨h1, by simp [h2, e]⟩, h2⟩
theorem fallOf_withF {r : Rn} (h : Srt r.2) (y a m x : Nat) : fallOf (withF r y a m) x = if x = y then some (y, a, m) else fallOf r x := by
  refine opt_ext fun f => ?_
  rw [fallOf_some (srt_withF h y a m)]
  unfold withF
  simp only [ins_mem]
  split
  · rename_i e
    subst e
    constructor
    · rintro ⟨h1 | h1, h2⟩
      · rw [h1]
      · have := (List.mem_filter.mp h1).2
        simp [h2] at this
    · intro z
      have z := Option.some.inj z
      subst z
      exact ⟨.inl rfl, rfl⟩
  · rename_i e
    rw [fallOf_some h]
    constructor
    · rintro ⟨h1 | h1, h2⟩
      · subst h1; exact absurd h2.symm e
      · exact ⟨(List.mem_filter.mp h1).1, h2⟩
    · rintro ⟨h1, h2⟩
      exact ⟨.inr (List.mem_filter.mpr ⟨h1, by simp [h2, e]⟩), h2⟩
theorem without_none {r : Rn} {x : Nat} (h : fallOf r x = none) : without r x = r := by
  unfold without
  refine Prod.ext rfl ?_
  show r.2.filter _ = r.2
  rw [List.filter_eq_self]
  intro f hf
  simpa using fallOf_none.mp h f hf
theorem len_without {r : Rn} (hs : Srt r.2) {x : Nat} {f : Fall} (h : fallOf r x = some f) : (without r x).2.length + 1 = r.2.length := by
  have e : ins f (without r x).2 = r.2 := by
    obtain ⟨h1, h2⟩ := (fallOf_some hs).mp h
    refine srt_ext (ins_srt _ _ (srt_without hs x) fun g hg => ?_) hs fun g => ?_
    · have := (List.mem_filter.mp hg).2
      rw [h2]
      simpa using this
    · rw [ins_mem]
      constructor
      · rintro (e | hm)
        · rw [e]; exact h1
        · exact (List.mem_filter.mp hm).1
      · intro hm
        by_cases e : g.1 = x
        · left
          have a := (fallOf_some hs).mpr ⟨hm, e⟩
          rw [h] at a
          exact (Option.some.inj a).symm
        · exact .inr (List.mem_filter.mpr ⟨hm, by simpa using e⟩)
  rw [← e, ins_len]
theorem len_withF (r : Rn) (x a m : Nat) : (withF r x a m).2.length = (without r x).2.length + 1 := ins_len _ _
theorem len_without_le (r : Rn) (x : Nat) : (without r x).2.length ≤ r.2.length := List.length_filter_le _ _
theorem Valid.sr {r : Rn} (v : Valid r) : Srt r.2 := v.srt
theorem Valid.without {r : Rn} (v : Valid r) (x : Nat) : Valid (without r x) :=
  ⟨v.lo, v.hi, v.num, srt_without v.sr x, fun f hf => v.fin f (List.mem_filter.mp hf).1⟩
theorem Valid.withF {r : Rn} (v : Valid r) {x a m : Nat} (hx : x < r.1.length) (h1 : 1 ≤ a) (h5 : a ≤ 5) (hm : m < 2 ^ r.1.length) (hb : m.testBit x = false) : Valid (withF r x a m) :=
  ⟨v.lo, v.hi, v.num, srt_withF v.sr x a m, fun f hf => by
    rcases (ins_mem _ _ f).mp hf with e | hf
    · subst e; exact ⟨hx, h1, h5, hm, hb⟩
    · exact v.fin f (List.mem_filter.mp hf).1⟩
theorem Valid.withN {r : Rn} (v : Valid r) {x : Nat} {n : Int} (hn : n.natAbs < 10 ^ 60) : Valid (withN r x n) := by
  refine ⟨?_, ?_, fun z hz => ?_, v.srt, fun f hf => ?_⟩
  · show 2 ≤ (r.1.set x n).length; rw [List.length_set]; exact v.lo
  · show (r.1.set x n).length ≤ 4; rw [List.length_set]; exact v.hi
  · rcases List.mem_or_eq_of_mem_set hz with h | h
    · exact v.num z h
    · subst h; exact hn
  · show f.1 < (r.1.set x n).length ∧ _ ∧ _ ∧ f.2.2 < 2 ^ (r.1.set x n).length ∧ _
    rw [List.length_set]
    exact v.fin f hf
theorem maskOf_lt {l : List Nat} {n : Nat} (h : ∀ x ∈ l, x < n) : maskOf l < 2 ^ n := by
  apply Nat.lt_pow_two_of_testBit
  intro i hi
  rw [maskOf_bit]
  exact decide_eq_false fun hm => by have := h i hm; omega
theorem handsIn_mem {m x : Nat} : x ∈ handsIn m ↔ x < 5 ∧ m.testBit x = true := by
  unfold handsIn hasH
  rw [List.mem_filter, List.mem_range]
theorem maskOf_handsIn {m : Nat} (h : m < 32) : maskOf (handsIn m) = m := by
  apply mask_ext
  intro x
  rw [maskOf_bit]
  by_cases hx : x < 5
  · cases e : m.testBit x with
    | true => exact decide_eq_true (handsIn_mem.mpr ⟨hx, e⟩)
    | false => exact decide_eq_false fun hm => by rw [(handsIn_mem.mp hm).2] at e; cases e
  · have : m.testBit x = false := Nat.testBit_lt_two_pow (Nat.lt_of_lt_of_le h (by
      have : 2 ^ 5 ≤ 2 ^ x := Nat.pow_le_pow_right (by decide) (by omega)
      simpa using this))
    rw [this]
    exact decide_eq_false fun hm => hx (handsIn_mem.mp hm).1
end RM

set_option Elab.async false
set_option linter.all false
set_option maxRecDepth 100000
set_option maxHeartbeats 4000000
namespace RF
open PySem PySem.Spec PyProof.Rows L2 Evl RM
/-! ### data of the program -/
def eF (f : Fall) : D := .tup [.int f.1, .int f.2.1, .int f.2.2]
def eR (r : Rn) : D := .tup [.tup (r.1.map .int), .tup (r.2.map eF)]
section
variable {K : PySem.W.Frag} {H : Hp}
theorem fall_get {f : Fall} {x : V} (h : Rp K H (eF f) x) : ∃ a, x = .ref a ∧ SqT K H a [.int f.1, .int f.2.1, .int f.2.2] := by
  unfold eF at h
  obtain ⟨a, xs, rfl, h2, h3⟩ := Rp.tup_iff.mp h
  obtain ⟨x1, r1, rfl, g1, h3⟩ := RpL.cons_iff.mp h3
  obtain ⟨x2, r2, rfl, g2, h3⟩ := RpL.cons_iff.mp h3
  obtain ⟨x3, r3, rfl, g3, h3⟩ := RpL.cons_iff.mp h3
  have e := RpL.nil_iff.mp h3
  subst e
  rw [Rp.int_iff.mp g1, Rp.int_iff.mp g2, Rp.int_iff.mp g3] at h2
  exact ⟨a, rfl, h2⟩
theorem fall_mk {f : Fall} {a : Addr} (h : SqT K H a [.int f.1, .int f.2.1, .int f.2.2]) : Rp K H (eF f) (.ref a) :=
  .tup h (.cons (.int _) (.cons (.int _) (.one (.int _))))
theorem run_get {r : Rn} {x : V} (h : Rp K H (eR r) x) : ∃ a pn pf fs, x = .ref a ∧ SqT K H a [.ref pn, .ref pf] ∧ SqT K H pn (r.1.map V.int) ∧ SqT K H pf fs ∧ RpL K H (r.2.map eF) fs := by
  unfold eR at h
  obtain ⟨a, xs, rfl, h2, h3⟩ := Rp.tup_iff.mp h
  obtain ⟨x1, r1, rfl, g1, h3⟩ := RpL.cons_iff.mp h3
  obtain ⟨x2, r2, rfl, g2, h3⟩ := RpL.cons_iff.mp h3
  have e := RpL.nil_iff.mp h3
  subst e
  obtain ⟨pn, ns, rfl, n2, n3⟩ := Rp.tup_iff.mp g1
  obtain ⟨pf, fs, rfl, f2, f3⟩ := Rp.tup_iff.mp g2
  have en : r.1.map D.int = r.1.map D.int := rfl
  rw [RpL.of_ints n3] at n2
  exact ⟨a, pn, pf, fs, rfl, h2, n2, f2, f3⟩
theorem run_mk {r : Rn} {a pn pf : Addr} {fs : List V} (h : SqT K H a [.ref pn, .ref pf]) (h1 : SqT K H pn (r.1.map V.int)) (h2 : SqT K H pf fs) (h3 : RpL K H (r.2.map eF) fs) : Rp K H (eR r) (.ref a) :=
  .tup h (.cons (.tup h1 (RpL.ints _)) (.one (.tup h2 h3)))
end
theorem dint (a b : Nat) : decide (V.int (a : Int) = V.int (b : Int)) = decide (a = b) := by
  by_cases h : a = b
  · subst h; simp
  · rw [decide_eq_false h]; exact decide_eq_false fun z => h (by injection z with z; omega)
theorem dnint (a b : Nat) : (!decide (V.int (a : Int) = V.int (b : Int))) = decide (a ≠ b) := by
  rw [dint]; by_cases h : a = b <;> simp [h]
theorem shr_and {m h : Nat} : Builtin.bitAnd ((m : Int) / 2 ^ ((h : Int)).toNat) 1 = ((m.testBit h).toNat : Int) := by
  have e : (m : Int) / 2 ^ ((h : Int)).toNat = ((m / 2 ^ h : Nat) : Int) := by simp
  rw [e]
  unfold Builtin.bitAnd
  have e1 : decide ((0 : Int) ≤ ((m / 2 ^ h : Nat) : Int)) = true := decide_eq_true (Int.natCast_nonneg _)
  have e2 : decide ((0 : Int) ≤ 1) = true := by decide
  rw [e1, e2]
  show ((((m / 2 ^ h : Nat) : Int).toNat &&& (1 : Int).toNat : Nat) : Int) = _
  rw [Int.toNat_natCast, Nat.testBit_eq_decide_div_mod_eq]
  show (((m / 2 ^ h) &&& 1 : Nat) : Int) = _
  rw [Nat.and_one_is_mod]
  rcases Nat.mod_two_eq_zero_or_one (m / 2 ^ h) with z | z <;> simp [z]
theorem bitOr_nat (a b : Nat) : Builtin.bitOr (a : Int) (b : Int) = ((a ||| b : Nat) : Int) := by
  have h1 : ¬ (0 : Int) ≤ -(a : Int) - 1 := by omega
  have h2 : ¬ (0 : Int) ≤ -(b : Int) - 1 := by omega
  have e1 : (-(-(a : Int) - 1) - 1) = (a : Int) := by omega
  have e2 : (-(-(b : Int) - 1) - 1) = (b : Int) := by omega
  unfold Builtin.bitOr Builtin.bitAnd Builtin.bitNot
  rw [decide_eq_false h1, decide_eq_false h2]
  show -((-(((-(-(a : Int) - 1) - 1).toNat ||| (-(-(b : Int) - 1) - 1).toNat : Nat) : Int) - 1)) - 1 = _
  rw [e1, e2, Int.toNat_natCast, Int.toNat_natCast]
  omega
theorem bitAnd_nat (a b : Nat) : Builtin.bitAnd (a : Int) (b : Int) = ((a &&& b : Nat) : Int) := by
  unfold Builtin.bitAnd
  rw [decide_eq_true (Int.natCast_nonneg a), decide_eq_true (Int.natCast_nonneg b)]
  simp
section
variable {P : Program} {w : World} {K : PySem.W.Frag} {mg : Str → Option Value} {base : Heap}
def sp_is_whole (K : PySem.W.Frag) : Sp := fun vs H Q _ => ∃ (i : Int), vs = [.int i] ∧ Q (.bl true) H
abbrev N_is_whole : List Str := ["thing"]
theorem sc_is_whole : FnScope N_is_whole ["thing"] (defScope s_is_whole) := ⟨rfl, rfl, rfl, by decide +kernel, rfl, by decide +kernel, by decide +kernel⟩
theorem ok_is_whole (T : Txt P w K mg base) : Ok P w K mg base "is_whole" (0 + 1) ["thing"] (sp_is_whole K) := by
  refine Ok.of T.f_is_whole sc_is_whole (fun _ _ _ _ _ _ us hl => match us, hl with | [_], _ => rfl) (fun vs H Q E h => ?_) (fun f cdv A outer s H vs Q E hr h => ?_)
  · obtain ⟨i, rfl, kq⟩ := h
    rfl
  · obtain ⟨i, rfl, kq⟩ := h
    refine ⟨_, (pss_one (ps_ret (pe_and (pe_callB (cIsi (K := K) rfl) (by rfl) T.n_isinstance bt_isinstance (pa_cons (pv 0) (pa_cons (pe_bltn (v := .ty "int") (by rfl) T.n_int bt_int rfl) pa_nil))) (pe_one (pe_not (pe_callB (cIsi (K := K) rfl) (by rfl) T.n_isinstance bt_isinstance (pa_cons (pv 0) (pa_cons (pe_bltn (v := .ty "bool") (by rfl) T.n_bool bt_bool rfl) pa_nil)))))))), ?_⟩
    refine ⟨_, rfl, _, _, _, _, true, rfl, .ty _, .base (.int _), kit_ty (by decide +kernel), true, rfl, ?_⟩
    refine ⟨_, rfl, _, _, _, _, false, rfl, .ty _, .base (.int _), kit_ty (by decide +kernel), false, rfl, kq⟩
def sp_has_hand (K : PySem.W.Frag) : Sp := fun vs H Q _ => ∃ (m h : Nat), vs = [.int m, .int h] ∧ Q (.bl (hasH m h)) H
abbrev N_has_hand : List Str := ["mask", "hand"]
theorem sc_has_hand : FnScope N_has_hand ["mask", "hand"] (defScope s_has_hand) := ⟨rfl, rfl, rfl, by decide +kernel, rfl, by decide +kernel, by decide +kernel⟩
theorem ok_has_hand (T : Txt P w K mg base) : Ok P w K mg base "has_hand" (0 + 1) ["mask", "hand"] (sp_has_hand K) := by
  refine Ok.of T.f_has_hand sc_has_hand (fun _ _ _ _ _ _ us hl => match us, hl with | [_, _], _ => rfl) (fun vs H Q E h => ?_) (fun f cdv A outer s H vs Q E hr h => ?_)
  · obtain ⟨m, n, rfl, kq⟩ := h
    rfl
  · obtain ⟨m, n, rfl, kq⟩ := h
    refine ⟨_, (pss_one (ps_ret (pe_cmpR op_eq (pe_op op_and (pe_op op_shr (pv 0) (pv 1)) pe_int) pe_int (by first | rfl | exact nomark _)))), ?_⟩
    refine ⟨_, rfl, _, rfl, _, _, rfl, rfl, Int.natCast_nonneg _, _, _, rfl, rfl, rfl, ?_⟩
    have e : decide (V.int (Builtin.bitAnd ((m : Int) / 2 ^ ((n : Int)).toNat) 1) = V.int 1) = hasH m n := by
      rw [shr_and]
      unfold hasH
      cases m.testBit n <;> decide
    show Q (.bl (decide (V.int (Builtin.bitAnd ((m : Int) / 2 ^ ((n : Int)).toNat) 1) = V.int 1))) H
    rw [e]
    exact kq
theorem maskOf_snoc (l : List Nat) (h : Nat) : maskOf (l ++ [h]) = maskOf l ||| (1 <<< h) := by
  apply mask_ext
  intro x
  rw [Nat.testBit_or, maskOf_bit, maskOf_bit, testBit_one_shl]
  by_cases e : x = h <;> simp [e]
def sp_mask_of (K : PySem.W.Frag) : Sp := fun vs H Q _ => ∃ (p : Addr) (hs : List Nat), vs = [.ref p] ∧ SqL K H p (hs.map fun h => V.int (h : Nat)) ∧ (∀ h ∈ hs, h ≤ 1000) ∧ Q (.int (maskOf hs)) H
abbrev N_mask_of : List Str := ["hands", "mask", "hand"]
theorem sc_mask_of : FnScope N_mask_of ["hands"] (defScope s_mask_of) := ⟨rfl, rfl, rfl, by decide +kernel, rfl, by decide +kernel, by decide +kernel⟩
theorem ok_mask_of (T : Txt P w K mg base) : Ok P w K mg base "mask_of" (0 + 1) ["hands"] (sp_mask_of K) := by
  refine Ok.of T.f_mask_of sc_mask_of (fun _ _ _ _ _ _ us hl => match us, hl with | [_], _ => rfl) (fun vs H Q E h => ?_) (fun f cdv A outer s H vs Q E hr h => ?_)
  · obtain ⟨p, hs, rfl, hS, hb, kq⟩ := h
    rfl
  · obtain ⟨p, hs, rfl, hS, hb, kq⟩ := h
    refine ⟨_, (pss_cons (ps_set (i := 1) sc_mask_of.nd rfl (by first | exact Or.inl rfl | exact Or.inr rfl) pe_int)
 (pss_cons (ps_for PassesOwn.never rfl (piL (K := K) rfl (pv 0)) (pg_name (i := 2) sc_mask_of.nd rfl (by first | exact Or.inl rfl | exact Or.inr rfl))
 (pss_one (ps_set (i := 1) sc_mask_of.nd rfl (by first | exact Or.inl rfl | exact Or.inr rfl) (pe_op op_or (pv 1) (pe_op op_shl pe_int (pv 2))))))
 (pss_one (ps_ret (pv 1))))), ?_⟩
    refine ⟨_, rfl, p, rfl, ⟨_, hS⟩, for_list (K := K) (a := p) (xs := hs.map fun h => V.int (h : Nat)) (fun i σ H' => H' = H ∧ ∃ v, σ = [some (.ref p), some (.int (maskOf (hs.take i))), v]) ⟨rfl, none, rfl⟩ (fun i σ H' _ ⟨e, _⟩ => by rw [e]; exact hS) ?_ ?_⟩
    · rintro i y σ H' hi ⟨rfl, v, rfl⟩
      rw [List.getElem?_map] at hi
      obtain ⟨z, hz, rfl⟩ := Option.map_eq_some_iff.mp hi
      have hz2 := hb z (List.mem_of_getElem? hz)
      refine ⟨_, rfl, _, rfl, _, _, rfl, rfl, ⟨Int.natCast_nonneg _, by omega, by decide⟩, _, _, rfl, rfl, rfl, some (.int z), ?_⟩
      have e : Builtin.bitOr ((maskOf (hs.take i) : Nat) : Int) (1 * 2 ^ ((z : Nat) : Int).toNat) = ((maskOf (hs.take (i + 1)) : Nat) : Int) := by
        have e1 : (1 : Int) * (2 : Int) ^ ((z : Nat) : Int).toNat = (((1 <<< z) : Nat) : Int) := by
          rw [Nat.shiftLeft_eq, Int.toNat_natCast, Int.one_mul, Nat.one_mul]
          simp
        rw [e1, bitOr_nat, List.take_add_one, hz, Option.toList_some, maskOf_snoc]
      show [some (V.ref p), some (V.int (Builtin.bitOr ((maskOf (hs.take i) : Nat) : Int) (1 * 2 ^ ((z : Nat) : Int).toNat))), some (V.int z)] = _
      rw [e]
    · rintro σ H' ⟨rfl, v, rfl⟩
      rw [List.length_map, List.take_length]
      exact ⟨_, rfl, kq⟩
theorem filter_range_succ (f : Nat → Bool) (n : Nat) : (List.range (n + 1)).filter f = (List.range n).filter f ++ (if f n = true then [n] else []) := by
  rw [List.range_succ, List.filter_append]
  by_cases h : f n = true
  · simp [h]
  · simp [h]
def sp_hands_in (K : PySem.W.Frag) : Sp := fun vs H Q _ => ∃ (m : Nat), vs = [.int m] ∧ ∀ p H', H p = none → Ex H H' → H' p = some (.lst ((handsIn m).map fun h => V.int (h : Nat))) → Q (.ref p) H'
abbrev N_hands_in : List Str := ["mask", "hand"]
theorem sc_hands_in : FnScope N_hands_in ["mask"] (defScope s_hands_in) := ⟨rfl, rfl, rfl, by decide +kernel, rfl, by decide +kernel, by decide +kernel⟩
theorem ok_hands_in (T : Txt P w K mg base) : Ok P w K mg base "hands_in" (1 + 1) ["mask"] (sp_hands_in K) := by
  refine Ok.of T.f_hands_in sc_hands_in (fun _ _ _ _ _ _ us hl => match us, hl with | [_], _ => rfl) (fun vs H Q E h => ?_) (fun f cdv A outer s H vs Q E hr h => ?_)
  · obtain ⟨m, rfl, kq⟩ := h
    rfl
  · obtain ⟨m, rfl, kq⟩ := h
    refine ⟨_, (pss_one (ps_ret (pe_lc (own := [("hand", 1)]) rfl sc_hands_in.nd (pi_range1 (by rfl) T.n_range (pa_cons (pe_gl T.c_MOST_HANDS rfl) pa_nil)) (blkOk_by (N := N_hands_in) (sc := defScope s_hands_in) (own := [("hand", 1)]) (by decide +kernel)) (fun _ _ _ _ _ => (pg_name (i := 1) sc_hands_in.nd rfl (by first | exact Or.inl rfl | exact Or.inr rfl))) (fun _ _ _ _ _ => (pts_one (pt_val (pc (ok_has_hand T) hr (pa_cons (pv 0) (pa_cons (pv 1) pa_nil)))))) (fun _ _ _ _ _ => (pv 1))))), ?_⟩
    refine ⟨5, rfl, by decide, by decide, fun Dl hD => ?_⟩
    refine lc_range (lo := 0) (n := 5) (fun i H' => Ex H H' ∧ H' Dl = some (.lst (((List.range i).filter (hasH m)).map fun h => V.int (h : Nat)))) ⟨Ex.new hD, upd_same⟩ (fun i H' hi ⟨p1, p2⟩ => ?_) (fun H' ⟨p1, p2⟩ => kq Dl H' hD p1 p2)
    rw [Int.zero_add]
    refine ⟨rfl, ⟨_, rfl, _, rfl, m, i, rfl, _, rfl, ?_⟩⟩
    have e := filter_range_succ (hasH m) i
    cases hb : hasH m i with
    | true =>
      refine iteT ⟨_, rfl, _, p2, ?_, p1.mut hD, ?_⟩
      · exact sz_lt (by rw [List.length_map]; have := List.length_filter_le (hasH m) (List.range i); rw [List.length_range] at this; omega)
      · rw [upd_same, e, hb, List.map_append] <;> rfl
    | false =>
      refine iteF ⟨p1, ?_⟩
      rw [p2, e, hb] <;> simp
def sp_many_hands (K : PySem.W.Frag) : Sp := fun vs H Q _ => ∃ (r : Rn) (x : V), vs = [x] ∧ Rp K H (eR r) x ∧ Q (.int r.1.length) H
abbrev N_many_hands : List Str := ["run"]
theorem sc_many_hands : FnScope N_many_hands ["run"] (defScope s_many_hands) := ⟨rfl, rfl, rfl, by decide +kernel, rfl, by decide +kernel, by decide +kernel⟩
theorem ok_many_hands (T : Txt P w K mg base) : Ok P w K mg base "many_hands" (0 + 1) ["run"] (sp_many_hands K) := by
  refine Ok.of T.f_many_hands sc_many_hands (fun _ _ _ _ _ _ us hl => match us, hl with | [_], _ => rfl) (fun vs H Q E h => ?_) (fun f cdv A outer s H vs Q E hr h => ?_)
  · obtain ⟨r, x, rfl, hx, kq⟩ := h
    rfl
  · obtain ⟨r, x, rfl, hx, kq⟩ := h
    refine ⟨_, (pss_one (ps_ret (pe_callB (cLen (K := K) rfl) (by rfl) T.n_len bt_len (pa_cons (pe_ix (ixT (K := K) rfl) (pv 0) pe_int (fun _ _ => rfl)) pa_nil)))), ?_⟩
    obtain ⟨a, pn, pf, fs, rfl, h1, h2, h3, h4⟩ := run_get hx
    refine ⟨_, rfl, _, _, 0, _, rfl, rfl, h1, atI_nat (j := 0) rfl, pn, _, rfl, .inr h2, ?_⟩
    rw [List.length_map]
    exact kq
def sp_fall_of (K : PySem.W.Frag) : Sp := fun vs H Q _ => ∃ (r : Rn) (h : Nat) (x : V), vs = [x, .int h] ∧ Rp K H (eR r) x ∧ (fallOf r h = none → Q .non H) ∧ (∀ f y, fallOf r h = some f → Rp K H (eF f) y → Q y H)
abbrev N_fall_of : List Str := ["run", "hand", "fall"]
theorem sc_fall_of : FnScope N_fall_of ["run", "hand"] (defScope s_fall_of) := ⟨rfl, rfl, rfl, by decide +kernel, rfl, by decide +kernel, by decide +kernel⟩
theorem ok_fall_of (T : Txt P w K mg base) : Ok P w K mg base "fall_of" (0 + 1) ["run", "hand"] (sp_fall_of K) := by
  refine Ok.of T.f_fall_of sc_fall_of (fun _ _ _ _ _ _ us hl => match us, hl with | [_, _], _ => rfl) (fun vs H Q E h => ?_) (fun f cdv A outer s H vs Q E hr h => ?_)
  · obtain ⟨r, n, x, rfl, hx, kn, ks⟩ := h
    rfl
  · obtain ⟨r, n, x, rfl, hx, kn, ks⟩ := h
    refine ⟨_, (pss_cons (ps_for PassesOwn.never rfl (piT (K := K) rfl (pe_ix (ixT (K := K) rfl) (pv 0) pe_int (fun _ _ => rfl))) (pg_name (i := 2) sc_fall_of.nd rfl (by first | exact Or.inl rfl | exact Or.inr rfl))
 (pss_one (ps_if (pt_cmpR op_eq (pe_ix (ixT (K := K) rfl) (pv 2) pe_int (fun _ _ => rfl)) (pv 1) (by first | rfl | exact nomark _))
 (pss_one (ps_ret (pv 2)))
 pss_nil)))
 (pss_one (ps_ret pe_non))), ?_⟩
    obtain ⟨a, pn, pf, fs, rfl, h1, h2, h3, h4⟩ := run_get hx
    refine ⟨_, rfl, _, _, 1, _, rfl, rfl, h1, atI_nat (j := 1) rfl, pf, rfl, ⟨_, h3⟩, for_tup (K := K) (a := pf) (xs := fs) (fun i σ H' => H' = H ∧ (∃ v, σ = [some (.ref a), some (.int n), v]) ∧ (r.2.take i).find? (fun f => f.1 == n) = none) ⟨rfl, ⟨none, rfl⟩, by simp⟩ (fun i σ H' _ ⟨e, _⟩ => by rw [e]; exact h3) ?_ ?_⟩
    · rintro i y σ H' hi ⟨rfl, ⟨v, rfl⟩, hf⟩
      obtain ⟨d, hd, rd⟩ := h4.get' hi
      rw [List.getElem?_map] at hd
      obtain ⟨f, hf2, rfl⟩ := Option.map_eq_some_iff.mp hd
      obtain ⟨b, rfl, g⟩ := fall_get rd
      have et : r.2.take (i + 1) = r.2.take i ++ [f] := by rw [List.take_add_one, hf2]; rfl
      refine ⟨_, rfl, _, _, 0, _, rfl, rfl, g, atI_nat (j := 0) rfl, _, rfl, rfl, _, rfl, ?_⟩
      rw [dint]
      by_cases e : f.1 = n
      · rw [decide_eq_true e]
        refine iteT ⟨_, rfl, ks f _ ?_ rd⟩
        unfold fallOf
        have : r.2 = r.2.take (i + 1) ++ r.2.drop (i + 1) := (List.take_append_drop ..).symm
        rw [this, List.find?_append, et, List.find?_append, hf]
        simp [e]
      · rw [decide_eq_false e]
        refine iteF ⟨rfl, ⟨_, rfl⟩, ?_⟩
        rw [et, List.find?_append, hf]
        simp [e]
    · rintro σ H' ⟨rfl, ⟨v, rfl⟩, hf⟩
      refine kn ?_
      have hl := h4.len
      rw [List.length_map] at hl
      rw [hl, List.take_length] at hf
      exact hf
def sp_is_up (K : PySem.W.Frag) : Sp := fun vs H Q _ => ∃ (r : Rn) (h k : Nat) (x : V), vs = [x, .int h, .int k] ∧ Rp K H (eR r) x ∧ Q (.bl (isUp r h k)) H
abbrev N_is_up : List Str := ["run", "hand", "rounds", "fall"]
theorem sc_is_up : FnScope N_is_up ["run", "hand", "rounds"] (defScope s_is_up) := ⟨rfl, rfl, rfl, by decide +kernel, rfl, by decide +kernel, by decide +kernel⟩
theorem ok_is_up (T : Txt P w K mg base) : Ok P w K mg base "is_up" (1 + 1) ["run", "hand", "rounds"] (sp_is_up K) := by
  refine Ok.of T.f_is_up sc_is_up (fun _ _ _ _ _ _ us hl => match us, hl with | [_, _, _], _ => rfl) (fun vs H Q E h => ?_) (fun f cdv A outer s H vs Q E hr h => ?_)
  · obtain ⟨r, n, k, x, rfl, hx, kq⟩ := h
    rfl
  · obtain ⟨r, n, k, x, rfl, hx, kq⟩ := h
    refine ⟨_, (pss_cons (ps_set (i := 3) sc_is_up.nd rfl (by first | exact Or.inl rfl | exact Or.inr rfl) (pc (ok_fall_of T) hr (pa_cons (pv 0) (pa_cons (pv 1) pa_nil))))
 (pss_one (ps_ret (pe_or (pe_cmp (pc_isN (pv 3))) (pe_one (pe_cmpR op_gt (pe_ix (ixT (K := K) rfl) (pv 3) pe_int (fun _ _ => rfl)) (pv 2) (by first | rfl | exact nomark _))))))), ?_⟩
    refine ⟨_, rfl, _, rfl, r, n, _, rfl, hx, fun e => ?_, fun f y e hy => ?_⟩
    · refine ⟨_, rfl, true, rfl, iteT ?_⟩
      have : isUp r n k = true := by unfold isUp; rw [e]
      rw [this] at kq
      exact kq
    · obtain ⟨b, rfl, g⟩ := fall_get hy
      refine ⟨_, rfl, false, rfl, iteF ⟨_, rfl, _, _, 1, _, rfl, rfl, g, atI_nat (j := 1) rfl, _, rfl, _, _, rfl, rfl, ?_⟩⟩
      have : isUp r n k = decide ((k : Int) < (f.2.1 : Int)) := by unfold isUp; rw [e]; simp
      rw [this] at kq
      exact kq
def sp_who_is_up (K : PySem.W.Frag) : Sp := fun vs H Q _ => ∃ (r : Rn) (k : Nat) (x : V), vs = [x, .int k] ∧ Rp K H (eR r) x ∧ r.1.length ≤ 1000 ∧ ∀ p H', H p = none → Ex H H' → H' p = some (.lst ((whoUp r k).map fun h => V.int (h : Nat))) → Q (.ref p) H'
abbrev N_who_is_up : List Str := ["run", "rounds", "hand"]
theorem sc_who_is_up : FnScope N_who_is_up ["run", "rounds"] (defScope s_who_is_up) := ⟨rfl, rfl, rfl, by decide +kernel, rfl, by decide +kernel, by decide +kernel⟩
theorem ok_who_is_up (T : Txt P w K mg base) : Ok P w K mg base "who_is_up" (2 + 1) ["run", "rounds"] (sp_who_is_up K) := by
  refine Ok.of T.f_who_is_up sc_who_is_up (fun _ _ _ _ _ _ us hl => match us, hl with | [_, _], _ => rfl) (fun vs H Q E h => ?_) (fun f cdv A outer s H vs Q E hr h => ?_)
  · obtain ⟨r, k, x, rfl, hx, hn, kq⟩ := h
    rfl
  · obtain ⟨r, k, x, rfl, hx, hn, kq⟩ := h
    refine ⟨_, (pss_one (ps_ret (pe_lc (own := [("hand", 2)]) rfl sc_who_is_up.nd (pi_range1 (by rfl) T.n_range (pa_cons (pc (ok_many_hands T) hr (pa_cons (pv 0) pa_nil)) pa_nil)) (blkOk_by (N := N_who_is_up) (sc := defScope s_who_is_up) (own := [("hand", 2)]) (by decide +kernel)) (fun _ _ _ _ _ => (pg_name (i := 2) sc_who_is_up.nd rfl (by first | exact Or.inl rfl | exact Or.inr rfl))) (fun _ _ _ _ _ => (pts_one (pt_val (pc (ok_is_up T) hr (pa_cons (pv 0) (pa_cons (pv 2) (pa_cons (pv 1) pa_nil))))))) (fun _ _ _ _ _ => (pv 2))))), ?_⟩
    refine ⟨_, rfl, r, _, rfl, hx, (r.1.length : Nat), rfl, by omega, by omega, fun Dl hD => ?_⟩
    refine lc_range (lo := 0) (n := r.1.length) (fun i H' => Ex H H' ∧ H' Dl = some (.lst (((List.range i).filter fun h => isUp r h k).map fun h => V.int (h : Nat)))) ⟨Ex.new hD, upd_same⟩ (fun i H' hi ⟨p1, p2⟩ => ?_) (fun H' ⟨p1, p2⟩ => kq Dl H' hD p1 p2)
    rw [Int.zero_add]
    refine ⟨rfl, ⟨_, rfl, _, rfl, _, rfl, r, i, k, _, rfl, hx.up p1, _, rfl, ?_⟩⟩
    have e := filter_range_succ (fun h => isUp r h k) i
    cases hb : isUp r i k with
    | true =>
      refine iteT ⟨_, rfl, _, p2, ?_, p1.mut hD, ?_⟩
      · exact sz_lt (by rw [List.length_map]; have := List.length_filter_le (fun h => isUp r h k) (List.range i); rw [List.length_range] at this; omega)
      · rw [upd_same, e]
        simp [hb]
    | false =>
      refine iteF ⟨p1, ?_⟩
      rw [p2, e]
      simp [hb]
end
end RF

set_option Elab.async false
set_option linter.all false
set_option maxRecDepth 100000
set_option maxHeartbeats 4000000
namespace RF
open PySem PySem.Spec PyProof.Rows L2 Evl RM
section
variable {K : PySem.W.Frag} {H : Hp}
theorem catA_go {a b : Addr} {xs ys : List V} {Q : VK} (hx : SqT K H a xs) (hy : SqT K H b ys) (hl : xs.length + ys.length ≤ 1000) (k : ∀ p H2, Ex H H2 → SqT K H2 p (xs ++ ys) → Q (.ref p) H2) : rCatA K (.ref a) (.ref b) H Q :=
  ⟨a, b, xs, ys, rfl, rfl, hx, hy, sz_of (by omega), fun e => k b H (Ex.refl H) (by rw [e]; exact hy), fun _ e => k a H (Ex.refl H) (by rw [e, List.append_nil]; exact hx), fun _ _ p hp => k p _ (Ex.new hp) (st_of upd_same)⟩
theorem slA_go {a : Addr} {xs : List V} {lo hi : Option Int} {Q : VK} (hx : SqT K H a xs) (k : ∀ p H2, Ex H H2 → SqT K H2 p (cutV xs lo hi) → Q (.ref p) H2) : rSlA K (.ref a) lo hi H Q :=
  ⟨a, xs, rfl, hx, fun e => k a H (Ex.refl H) (by
    have : cutV xs lo hi = xs := by unfold cutV; rw [e.1, e.2]; simp
    rw [this]; exact hx), fun _ p hp => k p _ (Ex.new hp) (st_of upd_same)⟩
theorem cutV_to (xs : List V) (n : Nat) : cutV xs none (some (n : Int)) = xs.take n := by
  unfold cutV
  rw [HT.sIx_none, HT.sIx_nat]
  simp [List.take_eq_take_iff]
theorem cutV_from (xs : List V) (n : Nat) : cutV xs (some (n : Int)) none = xs.drop n := by
  unfold cutV
  rw [HT.sIx_none, HT.sIx_nat]
  by_cases h : n ≤ xs.length
  · rw [Nat.min_eq_left h, List.take_of_length_le (by rw [List.length_drop]; omega)]
  · rw [Nat.min_eq_right (by omega), List.drop_length, List.drop_of_length_le (by omega)]; simp
theorem RpL.perm {ys xs : List V} (h : ys.Perm xs) : ∀ l : List Fall, RpL K H (l.map eF) xs → ∃ zs : List Fall, zs.Perm l ∧ RpL K H (zs.map eF) ys := by
  induction h with
  | nil => intro l hl; cases l with
    | nil => exact ⟨[], .refl _, hl⟩
    | cons a t =>
      obtain ⟨x, r, e, _⟩ := RpL.cons_iff.mp hl
      cases e
  | cons x h ih => intro l hl; cases l with
    | nil => cases RpL.nil_iff.mp hl
    | cons a t =>
      obtain ⟨y, r, e, g1, g2⟩ := RpL.cons_iff.mp hl
      cases e
      obtain ⟨zs, z1, z2⟩ := ih t g2
      exact ⟨a :: zs, z1.cons a, .cons g1 z2⟩
  | swap x y l0 => intro l hl; cases l with
    | nil => cases RpL.nil_iff.mp hl
    | cons a t =>
      obtain ⟨y1, r, e, g1, g2⟩ := RpL.cons_iff.mp hl
      cases e
      cases t with
      | nil => cases RpL.nil_iff.mp g2
      | cons b t =>
        obtain ⟨y2, r, e, g3, g4⟩ := RpL.cons_iff.mp g2
        cases e
        exact ⟨b :: a :: t, .swap a b t, .cons g3 (.cons g1 g4)⟩
  | trans h1 h2 ih1 ih2 => intro l hl
                           obtain ⟨zs, z1, z2⟩ := ih2 l hl
                           obtain ⟨ws, w1, w2⟩ := ih1 zs z2
                           exact ⟨ws, w1.trans z1, w2⟩
theorem RpL.mem {l : List D} {xs : List V} (h : RpL K H l xs) {x : V} (hx : x ∈ xs) : ∃ d ∈ l, Rp K H d x := by
  obtain ⟨i, hi⟩ := List.mem_iff_getElem?.mp hx
  obtain ⟨d, h1, h2⟩ := h.get' hi
  exact ⟨d, List.mem_of_getElem? h1, h2⟩
/-- falls in code order are falls in the order of their hands -/
theorem pair_srt : ∀ {zs : List Fall} {ys : List V}, RpL K H (zs.map eF) ys → (∀ f ∈ zs, f.1 < 32 ∧ f.2.1 < 32 ∧ f.2.2 < 32) → zs.Pairwise (fun f g => f.1 ≠ g.1) →
    ys.Pairwise (fun x y => ∀ n m, TupI K H x n → TupI K H y m → TS.code 32 n ≤ TS.code 32 m) → Srt zs
  | [], _, _, _, _, _ => List.Pairwise.nil
  | f :: t, ys, h, hb, hn, hp => by
    obtain ⟨x, r, rfl, g1, g2⟩ := RpL.cons_iff.mp h
    obtain ⟨p1, p2⟩ := List.pairwise_cons.mp hp
    obtain ⟨n1, n2⟩ := List.pairwise_cons.mp hn
    refine List.pairwise_cons.mpr ⟨fun g hg => ?_, pair_srt g2 (fun f hf => hb f (List.mem_cons_of_mem _ hf)) n2 p2⟩
    obtain ⟨i, hi⟩ := List.mem_iff_getElem?.mp hg
    obtain ⟨y, y1, y2⟩ := g2.get (i := i) (d := eF g) (by rw [List.getElem?_map, hi]; rfl)
    obtain ⟨a, rfl, ha⟩ := fall_get g1
    obtain ⟨b, rfl, hb'⟩ := fall_get y2
    have c := p1 _ (List.mem_of_getElem? y1) [f.1, f.2.1, f.2.2] [g.1, g.2.1, g.2.2] ⟨a, rfl, ha⟩ ⟨b, rfl, hb'⟩
    have b1 := hb f List.mem_cons_self
    have b2 := hb g (List.mem_cons_of_mem _ hg)
    have ne := n1 g hg
    have e1 : TS.code 32 [(f.1 : Int), f.2.1, f.2.2] = (f.1 : Int) * 1024 + ((f.2.1 : Int) * 32 + ((f.2.2 : Int) * 1 + 0)) := rfl
    have e2 : TS.code 32 [(g.1 : Int), g.2.1, g.2.2] = (g.1 : Int) * 1024 + ((g.2.1 : Int) * 32 + ((g.2.2 : Int) * 1 + 0)) := rfl
    rw [e1, e2] at c
    omega
end
theorem valid_b {r : Rn} (v : Valid r) : ∀ f ∈ r.2, f.1 < 32 ∧ f.2.1 < 32 ∧ f.2.2 < 32 := fun f hf => by
  obtain ⟨h1, h2, h3, h4, _⟩ := v.fin f hf
  have := v.hi
  have : 2 ^ r.1.length ≤ 2 ^ 4 := Nat.pow_le_pow_right (by decide) v.hi
  omega
theorem falls_len {r : Rn} (v : Valid r) : r.2.length ≤ 4 := by
  have hs := v.sr
  have : ∀ (n : Nat) (l : List Fall), Srt l → (∀ f ∈ l, f.1 < n) → l.length ≤ n := by
    intro n
    induction n with
    | zero => intro l _ h; cases l with
      | nil => exact Nat.le_refl _
      | cons a t => have := h a List.mem_cons_self; omega
    | succ n ih =>
      intro l hl h
      have e : (l.filter fun f => f.1 != n).length ≤ n := ih _ (hl.filter _) fun f hf => by
        have h1 := h f (List.mem_filter.mp hf).1
        have h2 := (List.mem_filter.mp hf).2
        simp at h2
        omega
      cases q : fallOf (([] : List Int), l) n with
      | none =>
        have := without_none q
        have e2 : l.filter (fun f => f.1 != n) = l := congrArg Prod.snd this
        rw [e2] at e
        omega
      | some f =>
        have := len_without (r := (([] : List Int), l)) hl q
        have e2 : (without (([] : List Int), l) n).2.length = (l.filter fun f => f.1 != n).length := rfl
        have e3 : ((([] : List Int), l) : Rn).2.length = l.length := rfl
        omega
  have := this r.1.length r.2 hs fun f hf => (v.fin f hf).1
  have := v.hi
  omega
section
variable {P : Program} {w : World} {K : PySem.W.Frag} {mg : Str → Option Value} {base : Heap}
def sp_without_fall (K : PySem.W.Frag) : Sp := fun vs H Q _ => ∃ (r : Rn) (h : Nat) (x : V), vs = [x, .int h] ∧ Rp K H (eR r) x ∧ Valid r ∧ ∀ y H', Ex H H' → Rp K H' (eR (without r h)) y → Q y H'
abbrev N_without_fall : List Str := ["run", "hand", "fall"]
theorem sc_without_fall : FnScope N_without_fall ["run", "hand"] (defScope s_without_fall) := ⟨rfl, rfl, rfl, by decide +kernel, rfl, by decide +kernel, by decide +kernel⟩
theorem ok_without_fall (T : Txt P w K mg base) : Ok P w K mg base "without_fall" (0 + 1) ["run", "hand"] (sp_without_fall K) := by
  refine Ok.of T.f_without_fall sc_without_fall (fun _ _ _ _ _ _ us hl => match us, hl with | [_, _], _ => rfl) (fun vs H Q E h => ?_) (fun f cdv A outer s H vs Q E hr h => ?_)
  · obtain ⟨r, n, x, rfl, hx, hv, kq⟩ := h
    rfl
  · obtain ⟨r, n, x, rfl, hx, hv, kq⟩ := h
    refine ⟨_, (pss_one (ps_ret (peTup (pa_cons (pe_ix (ixT (K := K) rfl) (pv 0) pe_int (fun _ _ => rfl)) (pa_cons (pe_callTy (cTupOf (K := K) rfl) (by rfl) T.n_tuple bt_tuple (pa_cons (pe_lc (own := [("fall", 2)]) rfl sc_without_fall.nd (piT (K := K) rfl (pe_ix (ixT (K := K) rfl) (pv 0) pe_int (fun _ _ => rfl))) (blkOk_by (N := N_without_fall) (sc := defScope s_without_fall) (own := [("fall", 2)]) (by decide +kernel)) (fun _ _ _ _ _ => (pg_name (i := 2) sc_without_fall.nd rfl (by first | exact Or.inl rfl | exact Or.inr rfl))) (fun _ _ _ _ _ => (pts_one (pt_cmpR op_ne (pe_ix (ixT (K := K) rfl) (pv 2) pe_int (fun _ _ => rfl)) (pv 1) (by first | rfl | exact nomark _)))) (fun _ _ _ _ _ => (pv 2))) pa_nil)) pa_nil))))), ?_⟩
    obtain ⟨a, pn, pf, fs, rfl, h1, h2, h3, h4⟩ := run_get hx
    have hl := h4.len
    rw [List.length_map] at hl
    have hl4 := falls_len hv
    refine ⟨_, rfl, _, _, 0, _, rfl, rfl, h1, atI_nat (j := 0) rfl, _, rfl, _, _, 1, _, rfl, rfl, h1, atI_nat (j := 1) rfl, pf, rfl, ⟨_, h3⟩, fun Dl hD => ?_⟩
    refine lc_tup (K := K) (a := pf) (xs := fs) (fun i H' => Ex H H' ∧ ∃ acc, H' Dl = some (.lst acc) ∧ RpL K H' (((r.2.take i).filter fun f => f.1 != n).map eF) acc ∧ acc.length ≤ i) ⟨Ex.new hD, _, upd_same, .nil, Nat.le_refl _⟩ (fun i H' _ ⟨p1, _⟩ => ex_t p1 h3) (fun i y H' hi ⟨p1, acc, p2, p3, p4⟩ => ?_) (fun H' ⟨p1, acc, p2, p3, p4⟩ => ?_)
    · obtain ⟨d, hd, rd⟩ := h4.get' hi
      rw [List.getElem?_map] at hd
      obtain ⟨f, hf2, rfl⟩ := Option.map_eq_some_iff.mp hd
      obtain ⟨b, rfl, g⟩ := fall_get rd
      have hil : i < fs.length := (List.getElem?_eq_some_iff.mp hi).1
      have et : r.2.take (i + 1) = r.2.take i ++ [f] := by rw [List.take_add_one, hf2]; rfl
      refine ⟨rfl, ⟨_, rfl, _, _, 0, _, rfl, rfl, ex_t p1 g, atI_nat (j := 0) rfl, _, rfl, rfl, _, rfl, ?_⟩⟩
      rw [dint]
      by_cases e : f.1 = n
      · rw [decide_eq_true e]
        refine iteF ⟨p1, acc, p2, ?_, by omega⟩
        rw [et, List.filter_append]
        simpa [e] using p3
      · rw [decide_eq_false e]
        refine iteT ⟨_, rfl, acc, p2, sz_lt (by omega), p1.mut hD, _, upd_same, ?_, by simp; omega⟩
        rw [et, List.filter_append, List.map_append]
        have : ([f].filter fun f => f.1 != n) = [f] := by simp [e]
        rw [this]
        exact (p3.upT (ExT.lst p2)).snoc ((rd.up p1).upT (ExT.lst p2))
    · rw [hl, List.take_length] at p3
      refine ⟨Dl, acc, rfl, .inl ⟨.inl (.inl p2), fun l H2 hl2 e2 g2 => ⟨by show 2 ≤ 1000; decide, fun p H3 hp e3 g3 => ?_⟩⟩⟩
      have e := (p1.trans e2).trans e3
      exact kq _ _ e (run_mk (st_of g3) (ex_t e h2) (ex_t e3 (st_of g2)) (p3.up (e2.trans e3)))
def sp_with_fall (K : PySem.W.Frag) : Sp := fun vs H Q _ => ∃ (r : Rn) (h a m : Nat) (x : V), vs = [x, .int h, .int a, .int m] ∧ Rp K H (eR r) x ∧ Valid r ∧ h < r.1.length ∧ 1 ≤ a ∧ a ≤ 5 ∧ m < 2 ^ r.1.length ∧ ∀ y H', Ex H H' → Rp K H' (eR (withF r h a m)) y → Q y H'
abbrev N_with_fall : List Str := ["run", "hand", "at", "reached", "rest"]
theorem sc_with_fall : FnScope N_with_fall ["run", "hand", "at", "reached"] (defScope s_with_fall) := ⟨rfl, rfl, rfl, by decide +kernel, rfl, by decide +kernel, by decide +kernel⟩
theorem ok_with_fall (T : Txt P w K mg base) : Ok P w K mg base "with_fall" (1 + 1) ["run", "hand", "at", "reached"] (sp_with_fall K) := by
  refine Ok.of T.f_with_fall sc_with_fall (fun _ _ _ _ _ _ us hl => match us, hl with | [_, _, _, _], _ => rfl) (fun vs H Q E h => ?_) (fun f cdv A outer s H vs Q E hr h => ?_)
  · obtain ⟨r, n, at', m, x, rfl, hx, hv, hn, ha1, ha5, hm, kq⟩ := h
    rfl
  · obtain ⟨r, n, at', m, x, rfl, hx, hv, hn, ha1, ha5, hm, kq⟩ := h
    refine ⟨_, (pss_cons (ps_set (i := 4) sc_with_fall.nd rfl (by first | exact Or.inl rfl | exact Or.inr rfl) (pc (ok_without_fall T) hr (pa_cons (pv 0) (pa_cons (pv 1) pa_nil))))
 (pss_one (ps_ret (peTup (pa_cons (pe_ix (ixT (K := K) rfl) (pv 0) pe_int (fun _ _ => rfl)) (pa_cons (pe_callTy (cTupOf (K := K) rfl) (by rfl) T.n_tuple bt_tuple (pa_cons (pe_callB (cSort (K := K) rfl) (by rfl) T.n_sorted bt_sorted (pa_cons (pe_op opCatL (pe_callTy (cListOf (K := K) rfl) (by rfl) T.n_list bt_list (pa_cons (pe_ix (ixT (K := K) rfl) (pv 4) pe_int (fun _ _ => rfl)) pa_nil)) (peLst (pa_cons (peTup (pa_cons (pv 1) (pa_cons (pv 2) (pa_cons (pv 3) pa_nil)))) pa_nil))) pa_nil)) pa_nil)) pa_nil)))))), ?_⟩
    refine ⟨_, rfl, _, rfl, r, n, _, rfl, hx, hv, fun y H1 e1 hy => ?_⟩
    obtain ⟨a, pn, pf, fs, rfl, h1, h2, h3, h4⟩ := run_get hx
    obtain ⟨a', pn', pf', fs', rfl, g1, g2, g3, g4⟩ := run_get hy
    have hvw := hv.without n
    have hl := g4.len
    rw [List.length_map] at hl
    have hl4 := falls_len hvw
    have hn4 := hv.hi
    have hp : 2 ^ r.1.length ≤ 2 ^ 4 := Nat.pow_le_pow_right (by decide) hv.hi
    -- run[0]; rest[1]; list(..)
    refine ⟨_, rfl, _, _, 0, _, rfl, rfl, ex_t e1 h1, atI_nat (j := 0) rfl, _, rfl, _, _, 1, _, rfl, rfl, g1, atI_nat (j := 1) rfl, pf', fs', rfl, .inr g3, fun l H2 hl0 e2 l2' => ?_⟩
    -- [(hand, at, reached)]
    refine ⟨_, rfl, _, rfl, _, rfl, by show 3 ≤ 1000; decide, fun t H3 ht e3 t3 => ⟨by show 1 ≤ 1000; decide, fun l2 H4 hl2 e4 l4 => ?_⟩⟩
    refine ⟨l, l2, fs', [.ref t], rfl, rfl, e4 _ _ (e3 _ _ l2'), l4, by simp; omega, fun p H5 hp0 e5 p5 => ?_⟩
    have e25 := ((e2.trans e3).trans e4).trans e5
    have rp : RpL K H5 (((without r n).2 ++ [(n, at', m)]).map eF) (fs' ++ [V.ref t]) := by
      rw [List.map_append]
      exact (g4.up e25).snoc (fall_mk (f := (n, at', m)) (st_of (e5 _ _ (e4 _ _ t3))))
    have bnd : ∀ f ∈ (without r n).2 ++ [(n, at', m)], f.1 < 32 ∧ f.2.1 < 32 ∧ f.2.2 < 32 := fun f hf => by
      rcases List.mem_append.mp hf with hf | hf
      · exact valid_b hvw f hf
      · rw [List.mem_singleton.mp hf]
        refine ⟨?_, ?_, ?_⟩ <;> simp only <;> omega
    refine ⟨p, _, rfl, .inl (.inl p5), by simp; omega, fun x hx => ?_, fun ys q H6 perm pw hq e6 q6 => ?_⟩
    · obtain ⟨d, hd, rd⟩ := rp.mem hx
      obtain ⟨f, hf, rfl⟩ := List.mem_map.mp hd
      obtain ⟨b, rfl, g⟩ := fall_get rd
      refine ⟨[f.1, f.2.1, f.2.2], ⟨b, rfl, g⟩, rfl, fun z hz => ?_⟩
      have := bnd f hf
      simp only [List.mem_cons, List.not_mem_nil, or_false] at hz
      rcases hz with e | e | e <;> subst e <;> constructor <;> omega
    · obtain ⟨zs, z1, z2⟩ := RpL.perm perm _ rp
      have zn : zs.Pairwise fun f g => f.1 ≠ g.1 := by
        refine (z1.pairwise_iff (fun h => h.symm)).mpr ?_
        rw [List.pairwise_append]
        refine ⟨(srt_without hv.sr n).imp fun h => by omega, by simp, fun f hf g hg => ?_⟩
        rw [List.mem_singleton.mp hg]
        have := (List.mem_filter.mp hf).2
        simpa using this
      have zsrt : Srt zs := pair_srt z2 (fun f hf => bnd f (z1.mem_iff.mp hf)) zn pw
      have ez : zs = (withF r n at' m).2 := srt_ext zsrt (srt_withF hv.sr n at' m) fun f => by
        rw [z1.mem_iff]
        show f ∈ _ ↔ f ∈ ins _ _
        rw [ins_mem, List.mem_append, List.mem_singleton]
        exact Or.comm
      refine ⟨q, ys, rfl, .inl ⟨.inl (.inl q6), fun u H7 hu e7 u7 => ⟨by show 2 ≤ 1000; decide, fun v H8 hv0 e8 v8 => ?_⟩⟩⟩
      have eA := (((e1.trans e25).trans e6).trans e7).trans e8
      rw [ez] at z2
      exact kq _ _ eA (run_mk (r := withF r n at' m) (st_of v8) (ex_t eA h2) (ex_t e8 (st_of u7)) (z2.up ((e6.trans e7).trans e8)))
def sp_with_number (K : PySem.W.Frag) : Sp := fun vs H Q _ => ∃ (r : Rn) (h : Nat) (n : Int) (x : V), vs = [x, .int h, .int n] ∧ Rp K H (eR r) x ∧ Valid r ∧ h < r.1.length ∧ ∀ y H', Ex H H' → Rp K H' (eR (withN r h n)) y → Q y H'
abbrev N_with_number : List Str := ["run", "hand", "number"]
theorem sc_with_number : FnScope N_with_number ["run", "hand", "number"] (defScope s_with_number) := ⟨rfl, rfl, rfl, by decide +kernel, rfl, by decide +kernel, by decide +kernel⟩
theorem ok_with_number (T : Txt P w K mg base) : Ok P w K mg base "with_number" (0 + 1) ["run", "hand", "number"] (sp_with_number K) := by
  refine Ok.of T.f_with_number sc_with_number (fun _ _ _ _ _ _ us hl => match us, hl with | [_, _, _], _ => rfl) (fun vs H Q E h => ?_) (fun f cdv A outer s H vs Q E hr h => ?_)
  · obtain ⟨r, n, z, x, rfl, hx, hv, hn, kq⟩ := h
    rfl
  · obtain ⟨r, n, z, x, rfl, hx, hv, hn, kq⟩ := h
    refine ⟨_, (pss_one (ps_ret (peTup (pa_cons (pe_op (opCatA (K := K) rfl) (pe_op (opCatA (K := K) rfl) (pe_slice (slAK (K := K) rfl) (pe_ix (ixT (K := K) rfl) (pv 0) pe_int (fun _ _ => rfl)) po_none (po_some (pv 1))) (peTup (pa_cons (pv 2) pa_nil))) (pe_slice (slAK (K := K) rfl) (pe_ix (ixT (K := K) rfl) (pv 0) pe_int (fun _ _ => rfl)) (po_some (pe_op op_add (pv 1) pe_int)) po_none)) (pa_cons (pe_ix (ixT (K := K) rfl) (pv 0) pe_int (fun _ _ => rfl)) pa_nil))))), ?_⟩
    obtain ⟨a, pn, pf, fs, rfl, h1, h2, h3, h4⟩ := run_get hx
    have hi := hv.hi
    refine ⟨_, rfl, _, _, 0, _, rfl, rfl, h1, atI_nat (j := 0) rfl, _, rfl, _, rfl, slA_go h2 fun p1 H1 e1 s1 => ?_⟩
    rw [cutV_to] at s1
    refine ⟨_, rfl, by show 1 ≤ 1000; decide, fun t H2 ht e2 t2 => ?_⟩
    refine catA_go (ex_t e2 s1) (st_of t2) (by simp; omega) fun p2 H3 e3 s2 => ?_
    have e13 := (e1.trans e2).trans e3
    refine ⟨_, rfl, _, _, 0, _, rfl, rfl, ex_t e13 h1, atI_nat (j := 0) rfl, _, rfl, _, _, rfl, rfl, _, rfl, ?_⟩
    have ec : ((n : Int) + 1) = ((n + 1 : Nat) : Int) := by omega
    dsimp only [tNoPart]
    rw [ec]
    refine slA_go (ex_t e13 h2) fun p3 H4 e4 s3 => ?_
    rw [cutV_from] at s3
    refine catA_go (ex_t e4 s2) s3 (by simp; omega) fun p4 H5 e5 s4 => ?_
    have e15 := (e13.trans e4).trans e5
    refine ⟨_, rfl, _, _, 1, _, rfl, rfl, ex_t e15 h1, atI_nat (j := 1) rfl, by show 2 ≤ 1000; decide, fun u H6 hu e6 u6 => ?_⟩
    have e16 := e15.trans e6
    have es : (r.1.map V.int).take n ++ [V.int z] ++ (r.1.map V.int).drop (n + 1) = (withN r n z).1.map V.int := by
      show _ = (r.1.set n z).map V.int
      rw [List.map_set, List.set_eq_take_append_cons_drop, if_pos (by rw [List.length_map]; exact hn)]
      simp
    rw [es] at s4
    exact kq _ _ e16 (run_mk (r := withN r n z) (st_of u6) (ex_t e6 s4) (ex_t e16 h3) (h4.up e16))
def sp_comes (K : PySem.W.Frag) : Sp := fun vs H Q _ => ∃ (r : Rn) (b t k : Nat) (x : V), vs = [x, .int b, .int t, .int k] ∧ Rp K H (eR r) x ∧ Q (.bl (comes r b t k)) H
abbrev N_comes : List Str := ["run", "by", "to", "at", "fall"]
theorem sc_comes : FnScope N_comes ["run", "by", "to", "at"] (defScope s_comes) := ⟨rfl, rfl, rfl, by decide +kernel, rfl, by decide +kernel, by decide +kernel⟩
theorem ok_comes (T : Txt P w K mg base) : Ok P w K mg base "comes" (2 + 1) ["run", "by", "to", "at"] (sp_comes K) := by
  refine Ok.of T.f_comes sc_comes (fun _ _ _ _ _ _ us hl => match us, hl with | [_, _, _, _], _ => rfl) (fun vs H Q E h => ?_) (fun f cdv A outer s H vs Q E hr h => ?_)
  · obtain ⟨r, b, t, k, x, rfl, hx, kq⟩ := h
    rfl
  · obtain ⟨r, b, t, k, x, rfl, hx, kq⟩ := h
    refine ⟨_, (pss_cons (ps_if (PW.pt (pw_or (pt_cmpR op_eq (pv 1) (pv 2) (by first | rfl | exact nomark _)) (pw_or1 (pt_not (pt_val (pc (ok_is_up T) hr (pa_cons (pv 0) (pa_cons (pv 2) (pa_cons (pv 3) pa_nil)))))))))
 (pss_one (ps_ret pe_bl))
 pss_nil)
 (pss_cons (ps_set (i := 4) sc_comes.nd rfl (by first | exact Or.inl rfl | exact Or.inr rfl) (pc (ok_fall_of T) hr (pa_cons (pv 0) (pa_cons (pv 1) pa_nil))))
 (pss_cons (ps_if (PW.pt (pw_or (pt_cmp (pc_isN (pv 4))) (pw_or1 (pt_cmpR op_gt (pe_ix (ixT (K := K) rfl) (pv 4) pe_int (fun _ _ => rfl)) (pv 3) (by first | rfl | exact nomark _)))))
 (pss_one (ps_ret pe_bl))
 pss_nil)
 (pss_one (ps_ret (pe_and (pe_cmpR op_eq (pe_ix (ixT (K := K) rfl) (pv 4) pe_int (fun _ _ => rfl)) (pv 3) (by first | rfl | exact nomark _)) (pe_one (pc (ok_has_hand T) hr (pa_cons (pe_ix (ixT (K := K) rfl) (pv 4) pe_int (fun _ _ => rfl)) (pa_cons (pv 2) pa_nil)))))))))), ?_⟩
    refine ⟨_, rfl, _, rfl, rfl, _, rfl, ?_⟩
    rw [dint]
    by_cases e : b = t
    · rw [decide_eq_true e]
      refine iteT (iteT ?_)
      have : comes r b t k = false := by unfold comes; rw [if_pos (.inl e)]
      rw [this] at kq
      exact kq
    rw [decide_eq_false e]
    refine iteF ⟨_, rfl, _, rfl, _, rfl, r, t, k, _, rfl, hx, _, rfl, ?_⟩
    cases hu : isUp r t k with
    | false =>
      refine iteT ?_
      have : comes r b t k = false := by unfold comes; rw [if_pos (.inr hu)]
      rw [this] at kq
      exact kq
    | true =>
      refine iteF ⟨_, rfl, _, rfl, r, b, _, rfl, hx, fun e0 => ?_, fun f y e0 hy => ?_⟩
      · refine ⟨_, rfl, _, rfl, iteT (iteT ?_)⟩
        have : comes r b t k = true := by unfold comes; rw [if_neg (by simp [e, hu]), e0]
        rw [this] at kq
        exact kq
      · obtain ⟨c, rfl, g⟩ := fall_get hy
        have hc : comes r b t k = if k < f.2.1 then true else decide (f.2.1 = k) && hasH f.2.2 t := by unfold comes; rw [if_neg (by simp [e, hu]), e0]
        refine ⟨_, rfl, _, rfl, iteF ⟨_, rfl, _, _, 1, _, rfl, rfl, g, atI_nat (j := 1) rfl, _, rfl, _, _, rfl, rfl, _, rfl, ?_⟩⟩
        by_cases h2 : k < f.2.1
        · rw [decide_eq_true (show (k : Int) < (f.2.1 : Nat) by omega)]
          rw [if_pos h2] at hc
          rw [hc] at kq
          exact iteT kq
        · rw [decide_eq_false (show ¬ (k : Int) < (f.2.1 : Nat) by omega)]
          rw [if_neg h2] at hc
          refine iteF ⟨_, rfl, _, _, 1, _, rfl, rfl, g, atI_nat (j := 1) rfl, _, rfl, rfl, _, rfl, ?_⟩
          rw [dint]
          by_cases h3 : f.2.1 = k
          · rw [decide_eq_true h3]
            rw [decide_eq_true h3, Bool.true_and] at hc
            rw [hc] at kq
            exact iteT ⟨_, rfl, _, _, 2, _, rfl, rfl, g, atI_nat (j := 2) rfl, _, rfl, _, _, rfl, kq⟩
          · rw [decide_eq_false h3]
            rw [decide_eq_false h3, Bool.false_and] at hc
            rw [hc] at kq
            exact iteF kq
def sp_keeps (K : PySem.W.Frag) : Sp := fun vs H Q _ => ∃ (r : Rn) (b : Nat) (x : V), vs = [x, .int b] ∧ Rp K H (eR r) x ∧ b + 2 ≤ r.1.length ∧ r.2.length ≤ b ∧ Q (.bl true) H
abbrev N_keeps : List Str := ["run", "bound"]
theorem sc_keeps : FnScope N_keeps ["run", "bound"] (defScope s_keeps) := ⟨rfl, rfl, rfl, by decide +kernel, rfl, by decide +kernel, by decide +kernel⟩
theorem ok_keeps (T : Txt P w K mg base) : Ok P w K mg base "keeps" (1 + 1) ["run", "bound"] (sp_keeps K) := by
  refine Ok.of T.f_keeps sc_keeps (fun _ _ _ _ _ _ us hl => match us, hl with | [_, _], _ => rfl) (fun vs H Q E h => ?_) (fun f cdv A outer s H vs Q E hr h => ?_)
  · obtain ⟨r, b, x, rfl, hx, h1, h2, kq⟩ := h
    rfl
  · obtain ⟨r, b, x, rfl, hx, h1, h2, kq⟩ := h
    refine ⟨_, (pss_one (ps_ret (pe_and (pc (ok_is_whole T) hr (pa_cons (pv 1) pa_nil)) (pe_and (pe_chain op_le op_le pe_int (pv 1) (pe_op op_sub (pc (ok_many_hands T) hr (pa_cons (pv 0) pa_nil)) pe_int)) (pe_one (pe_cmpR op_le (pe_callB (cLen (K := K) rfl) (by rfl) T.n_len bt_len (pa_cons (pe_ix (ixT (K := K) rfl) (pv 0) pe_int (fun _ _ => rfl)) pa_nil)) (pv 1) (by first | rfl | exact nomark _))))))), ?_⟩
    obtain ⟨a, pn, pf, fs, rfl, g1, g2, g3, g4⟩ := run_get hx
    have hl := g4.len
    rw [List.length_map] at hl
    refine ⟨_, rfl, _, rfl, true, rfl, iteT ?_⟩
    refine ⟨_, rfl, _, _, rfl, rfl, true, dt (by omega), iteT ⟨_, rfl, r, _, rfl, hx, _, _, rfl, rfl, _, _, rfl, rfl, true, dt (by omega), iteT ?_⟩⟩
    refine ⟨_, rfl, _, _, 1, _, rfl, rfl, g1, atI_nat (j := 1) rfl, pf, fs, rfl, .inr g3, _, rfl, _, _, rfl, rfl, qt (Q := Q) (by omega) kq⟩
end
end RF

set_option Elab.async false
set_option linter.all false
set_option maxRecDepth 100000
set_option maxHeartbeats 4000000
namespace RF
open PySem PySem.Spec PyProof.Rows L2 Evl RM
section
variable {K : PySem.W.Frag} {H : Hp}
theorem tyx_tup {a : Addr} {xs : List V} (h : SqT K H a xs) : TyX K H (.ref a) (.type "tuple") := by
  rcases h with (h | ⟨o, h⟩) | ⟨o, its, n, h1, h2, _⟩
  · exact .base (.tup h)
  · exact .fTuple h
  · exact .kTuple h1 h2
end
section
variable {P : Program} {w : World} {K : PySem.W.Frag} {mg : Str → Option Value} {base : Heap}
def sp_is_number (K : PySem.W.Frag) : Sp := fun vs H Q _ => ∃ (i : Int), vs = [.int i] ∧ i.natAbs < 10 ^ 60 ∧ Q (.bl true) H
abbrev N_is_number : List Str := ["thing"]
theorem sc_is_number : FnScope N_is_number ["thing"] (defScope s_is_number) := ⟨rfl, rfl, rfl, by decide +kernel, rfl, by decide +kernel, by decide +kernel⟩
theorem ok_is_number (T : Txt P w K mg base) : Ok P w K mg base "is_number" (1 + 1) ["thing"] (sp_is_number K) := by
  refine Ok.of T.f_is_number sc_is_number (fun _ _ _ _ _ _ us hl => match us, hl with | [_], _ => rfl) (fun vs H Q E h => ?_) (fun f cdv A outer s H vs Q E hr h => ?_)
  · obtain ⟨i, rfl, hi, kq⟩ := h
    rfl
  · obtain ⟨i, rfl, hi, kq⟩ := h
    refine ⟨_, (pss_one (ps_ret (pe_and (pc (ok_is_whole T) hr (pa_cons (pv 0) pa_nil)) (pe_one (pe_cmpR op_lt (pe_callB call_abs (by rfl) T.n_abs bt_abs (pa_cons (pv 0) pa_nil)) (pe_op op_pow pe_int pe_int) (by first | rfl | exact nomark _)))))), ?_⟩
    refine ⟨_, rfl, i, rfl, true, rfl, iteT ⟨_, rfl, i, rfl, _, _, rfl, rfl, ⟨by decide, by decide, by decide⟩, _, _, rfl, rfl, qt (Q := Q) ?_ kq⟩⟩
    show (if i < 0 then -i else i) < (10 : Int) ^ 60
    split <;> omega
def sp_are_numbers (K : PySem.W.Frag) : Sp := fun vs H Q _ => ∃ (ns : List Int) (x : V), vs = [x] ∧ Rp K H (.tup (ns.map .int)) x ∧ 2 ≤ ns.length ∧ ns.length ≤ 5 ∧ (∀ n ∈ ns, n.natAbs < 10 ^ 60) ∧ Q (.bl true) H
abbrev N_are_numbers : List Str := ["thing", "number"]
theorem sc_are_numbers : FnScope N_are_numbers ["thing"] (defScope s_are_numbers) := ⟨rfl, rfl, rfl, by decide +kernel, rfl, by decide +kernel, by decide +kernel⟩
theorem ok_are_numbers (T : Txt P w K mg base) : Ok P w K mg base "are_numbers" (2 + 1) ["thing"] (sp_are_numbers K) := by
  refine Ok.of T.f_are_numbers sc_are_numbers (fun _ _ _ _ _ _ us hl => match us, hl with | [_], _ => rfl) (fun vs H Q E h => ?_) (fun f cdv A outer s H vs Q E hr h => ?_)
  · obtain ⟨ns, x, rfl, hx, h2, h5, hn, kq⟩ := h
    rfl
  · obtain ⟨ns, x, rfl, hx, h2, h5, hn, kq⟩ := h
    refine ⟨_, (pss_cons (ps_if (PW.pt (pw_or (pt_not (pt_val (pe_callB (cIsi (K := K) rfl) (by rfl) T.n_isinstance bt_isinstance (pa_cons (pv 0) (pa_cons (pe_bltn (v := .ty "tuple") (by rfl) T.n_tuple bt_tuple rfl) pa_nil))))) (pw_or1 (pt_not (pt_chain op_le op_le pe_int (pe_callB (cLen (K := K) rfl) (by rfl) T.n_len bt_len (pa_cons (pv 0) pa_nil)) (pe_gl T.c_MOST_HANDS rfl))))))
 (pss_one (ps_ret pe_bl))
 pss_nil)
 (pss_cons (ps_for PassesOwn.never rfl (piT (K := K) rfl (pv 0)) (pg_name (i := 1) sc_are_numbers.nd rfl (by first | exact Or.inl rfl | exact Or.inr rfl))
 (pss_one (ps_if (pt_not (pt_val (pc (ok_is_number T) hr (pa_cons (pv 1) pa_nil))))
 (pss_one (ps_ret pe_bl))
 pss_nil)))
 (pss_one (ps_ret pe_bl)))), ?_⟩
    obtain ⟨a, xs, rfl, s1, s2⟩ := Rp.tup_iff.mp hx
    have e := RpL.of_ints s2
    subst e
    refine ⟨_, rfl, _, _, _, _, true, rfl, .ty _, tyx_tup s1, kit_ty (by decide +kernel), _, rfl, iteF ?_⟩
    refine ⟨_, rfl, a, _, rfl, .inr s1, _, _, rfl, rfl, true, dt (by rw [List.length_map]; omega), iteT ⟨_, _, rfl, rfl, true, dt (by rw [List.length_map]; omega), iteF ?_⟩⟩
    refine ⟨_, rfl, a, rfl, ⟨_, s1⟩, for_tup (K := K) (a := a) (xs := ns.map V.int) (fun i σ H' => H' = H ∧ ∃ v, σ = [some (.ref a), v]) ⟨rfl, none, rfl⟩ (fun i σ H' _ ⟨e, _⟩ => by rw [e]; exact s1) ?_ ?_⟩
    · rintro i y σ H' hi ⟨rfl, v, rfl⟩
      rw [List.getElem?_map] at hi
      obtain ⟨z, hz, rfl⟩ := Option.map_eq_some_iff.mp hi
      exact ⟨_, rfl, z, rfl, hn z (List.mem_of_getElem? hz), _, rfl, iteF ⟨rfl, _, rfl⟩⟩
    · rintro σ H' ⟨rfl, v, rfl⟩
      exact kq
def sp_is_fall (K : PySem.W.Frag) : Sp := fun vs H Q _ => ∃ (f : Fall) (n : Nat) (x : V), vs = [x, .int n] ∧ Rp K H (eF f) x ∧ n ≤ 5 ∧ f.1 < n ∧ 1 ≤ f.2.1 ∧ f.2.1 ≤ 5 ∧ f.2.2 < 2 ^ n ∧ f.2.2.testBit f.1 = false ∧ Q (.bl true) H
abbrev N_is_fall : List Str := ["thing", "many", "hand", "at", "reached"]
theorem sc_is_fall : FnScope N_is_fall ["thing", "many"] (defScope s_is_fall) := ⟨rfl, rfl, rfl, by decide +kernel, rfl, by decide +kernel, by decide +kernel⟩
theorem ok_is_fall (T : Txt P w K mg base) : Ok P w K mg base "is_fall" (1 + 1) ["thing", "many"] (sp_is_fall K) := by
  refine Ok.of T.f_is_fall sc_is_fall (fun _ _ _ _ _ _ us hl => match us, hl with | [_, _], _ => rfl) (fun vs H Q E h => ?_) (fun f cdv A outer s H vs Q E hr h => ?_)
  · obtain ⟨f', n, x, rfl, hx, hn, h1, h2, h3, h4, h5, kq⟩ := h
    rfl
  · obtain ⟨f', n, x, rfl, hx, hn, h1, h2, h3, h4, h5, kq⟩ := h
    refine ⟨_, (pss_cons (ps_if (PW.pt (pw_or (pt_not (pt_val (pe_callB (cIsi (K := K) rfl) (by rfl) T.n_isinstance bt_isinstance (pa_cons (pv 0) (pa_cons (pe_bltn (v := .ty "tuple") (by rfl) T.n_tuple bt_tuple rfl) pa_nil))))) (pw_or1 (pt_cmpR op_ne (pe_callB (cLen (K := K) rfl) (by rfl) T.n_len bt_len (pa_cons (pv 0) pa_nil)) pe_int (by first | rfl | exact nomark _)))))
 (pss_one (ps_ret pe_bl))
 pss_nil)
 (pss_cons (ps_asg (pv 0) (pg_tup rfl (pgs_cons (pg_name (i := 2) sc_is_fall.nd rfl (by first | exact Or.inl rfl | exact Or.inr rfl)) (pgs_cons (pg_name (i := 3) sc_is_fall.nd rfl (by first | exact Or.inl rfl | exact Or.inr rfl)) (pgs_cons (pg_name (i := 4) sc_is_fall.nd rfl (by first | exact Or.inl rfl | exact Or.inr rfl)) pgs_nil)))))
 (pss_cons (ps_if (PW.pt (pw_or (pt_not (pt_val (pc (ok_is_whole T) hr (pa_cons (pv 2) pa_nil)))) (pw_or (pt_not (pt_val (pc (ok_is_whole T) hr (pa_cons (pv 3) pa_nil)))) (pw_or1 (pt_not (pt_val (pc (ok_is_whole T) hr (pa_cons (pv 4) pa_nil))))))))
 (pss_one (ps_ret pe_bl))
 pss_nil)
 (pss_cons (ps_if (PW.pt (pw_or (pt_not (pt_chain op_le op_lt pe_int (pv 2) (pv 1))) (pw_or1 (pt_not (pt_chain op_le op_le pe_int (pv 3) (pe_gl T.c_MOST_ROUNDS rfl))))))
 (pss_one (ps_ret pe_bl))
 pss_nil)
 (pss_one (ps_ret (pe_and (pe_chain op_le op_lt pe_int (pv 4) (pe_op op_shl pe_int (pv 1))) (pe_one (pe_not (pc (ok_has_hand T) hr (pa_cons (pv 4) (pa_cons (pv 2) pa_nil)))))))))))), ?_⟩
    obtain ⟨a, rfl, g⟩ := fall_get hx
    refine ⟨_, rfl, _, _, _, _, true, rfl, .ty _, tyx_tup g, kit_ty (by decide +kernel), _, rfl, iteF ?_⟩
    refine ⟨_, rfl, a, _, rfl, .inr g, rfl, _, rfl, iteF ?_⟩
    refine ⟨_, rfl, a, _, rfl, g, rfl, _, _, rfl, _, _, rfl, _, _, rfl, rfl, ?_⟩
    refine ⟨_, rfl, _, rfl, _, rfl, iteF ⟨_, rfl, _, rfl, _, rfl, iteF ⟨_, rfl, _, rfl, _, rfl, iteF ?_⟩⟩⟩
    refine ⟨_, rfl, _, _, rfl, rfl, true, dt (Int.natCast_nonneg _), iteT ⟨_, rfl, _, _, rfl, rfl, true, dt (by omega), iteF ?_⟩⟩
    refine ⟨_, rfl, _, _, rfl, rfl, true, dt (by omega), iteT ⟨_, _, rfl, rfl, true, dt (by omega), iteF ?_⟩⟩
    refine ⟨_, rfl, _, _, rfl, rfl, true, dt (Int.natCast_nonneg _), iteT ⟨_, rfl, _, _, rfl, rfl, ⟨Int.natCast_nonneg _, by omega, by decide⟩, _, _, rfl, rfl, true, dt ?_, iteT ?_⟩⟩
    · rw [Int.one_mul, Int.toNat_natCast]
      exact_mod_cast h4
    refine ⟨_, rfl, _, rfl, _, _, rfl, _, rfl, ?_⟩
    show Q (.bl (!f'.2.2.testBit f'.1)) H
    rw [h5]
    exact kq
def sp_is_run (K : PySem.W.Frag) : Sp := fun vs H Q _ => ∃ (r : Rn) (x : V), vs = [x] ∧ Rp K H (eR r) x ∧ Valid r ∧ Q (.bl true) H
abbrev N_is_run : List Str := ["thing", "numbers", "falls", "last", "fall"]
theorem sc_is_run : FnScope N_is_run ["thing"] (defScope s_is_run) := ⟨rfl, rfl, rfl, by decide +kernel, rfl, by decide +kernel, by decide +kernel⟩
theorem ok_is_run (T : Txt P w K mg base) : Ok P w K mg base "is_run" (3 + 1) ["thing"] (sp_is_run K) := by
  refine Ok.of T.f_is_run sc_is_run (fun _ _ _ _ _ _ us hl => match us, hl with | [_], _ => rfl) (fun vs H Q E h => ?_) (fun f cdv A outer s H vs Q E hr h => ?_)
  · obtain ⟨r, x, rfl, hx, hv, kq⟩ := h
    rfl
  · obtain ⟨r, x, rfl, hx, hv, kq⟩ := h
    refine ⟨_, (pss_cons (ps_if (PW.pt (pw_or (pt_not (pt_val (pe_callB (cIsi (K := K) rfl) (by rfl) T.n_isinstance bt_isinstance (pa_cons (pv 0) (pa_cons (pe_bltn (v := .ty "tuple") (by rfl) T.n_tuple bt_tuple rfl) pa_nil))))) (pw_or1 (pt_cmpR op_ne (pe_callB (cLen (K := K) rfl) (by rfl) T.n_len bt_len (pa_cons (pv 0) pa_nil)) pe_int (by first | rfl | exact nomark _)))))
 (pss_one (ps_ret pe_bl))
 pss_nil)
 (pss_cons (ps_asg (pv 0) (pg_tup rfl (pgs_cons (pg_name (i := 1) sc_is_run.nd rfl (by first | exact Or.inl rfl | exact Or.inr rfl)) (pgs_cons (pg_name (i := 2) sc_is_run.nd rfl (by first | exact Or.inl rfl | exact Or.inr rfl)) pgs_nil))))
 (pss_cons (ps_if (PW.pt (pw_or (pt_not (pt_val (pc (ok_are_numbers T) hr (pa_cons (pv 1) pa_nil)))) (pw_or1 (pt_not (pt_val (pe_callB (cIsi (K := K) rfl) (by rfl) T.n_isinstance bt_isinstance (pa_cons (pv 2) (pa_cons (pe_bltn (v := .ty "tuple") (by rfl) T.n_tuple bt_tuple rfl) pa_nil))))))))
 (pss_one (ps_ret pe_bl))
 pss_nil)
 (pss_cons (ps_set (i := 3) sc_is_run.nd rfl (by first | exact Or.inl rfl | exact Or.inr rfl) (pe_un un_neg pe_int))
 (pss_cons (ps_for PassesOwn.never rfl (piT (K := K) rfl (pv 2)) (pg_name (i := 4) sc_is_run.nd rfl (by first | exact Or.inl rfl | exact Or.inr rfl))
 (pss_cons (ps_if (PW.pt (pw_or (pt_not (pt_val (pc (ok_is_fall T) hr (pa_cons (pv 4) (pa_cons (pe_callB (cLen (K := K) rfl) (by rfl) T.n_len bt_len (pa_cons (pv 1) pa_nil)) pa_nil))))) (pw_or1 (pt_cmpR op_le (pe_ix (ixT (K := K) rfl) (pv 4) pe_int (fun _ _ => rfl)) (pv 3) (by first | rfl | exact nomark _)))))
 (pss_one (ps_ret pe_bl))
 pss_nil)
 (pss_one (ps_set (i := 3) sc_is_run.nd rfl (by first | exact Or.inl rfl | exact Or.inr rfl) (pe_ix (ixT (K := K) rfl) (pv 4) pe_int (fun _ _ => rfl))))))
 (pss_one (ps_ret pe_bl))))))), ?_⟩
    obtain ⟨a, pn, pf, fs, rfl, h1, h2, h3, h4⟩ := run_get hx
    have hi := hv.hi
    have hlo := hv.lo
    refine ⟨_, rfl, _, _, _, _, true, rfl, .ty _, tyx_tup h1, kit_ty (by decide +kernel), _, rfl, iteF ?_⟩
    refine ⟨_, rfl, a, _, rfl, .inr h1, rfl, _, rfl, iteF ?_⟩
    refine ⟨_, rfl, a, _, rfl, h1, rfl, _, _, rfl, _, _, rfl, rfl, ?_⟩
    refine ⟨_, rfl, r.1, _, rfl, .tup h2 (RpL.ints _), by omega, by omega, hv.num, _, rfl, iteF ?_⟩
    refine ⟨_, rfl, _, _, _, _, true, rfl, .ty _, tyx_tup h3, kit_ty (by decide +kernel), _, rfl, iteF ?_⟩
    refine ⟨1, rfl, _, rfl, pf, rfl, ⟨_, h3⟩, for_tup (K := K) (a := pf) (xs := fs) (fun i σ H' => H' = H ∧ ∃ (l : Int) (v : Option V), σ = [some (.ref a), some (.ref pn), some (.ref pf), some (.int l), v] ∧ ∀ f ∈ r.2.drop i, l < (f.1 : Int)) ⟨rfl, -1, none, rfl, fun f _ => by omega⟩ (fun i σ H' _ ⟨e, _⟩ => by rw [e]; exact h3) ?_ ?_⟩
    · rintro i y σ H' hi' ⟨rfl, l, v, rfl, hl⟩
      obtain ⟨d, hd, rd⟩ := h4.get' hi'
      rw [List.getElem?_map] at hd
      obtain ⟨f, hf2, rfl⟩ := Option.map_eq_some_iff.mp hd
      obtain ⟨b, rfl, g⟩ := fall_get rd
      obtain ⟨q1, q2, q3, q4, q5⟩ := hv.fin f (List.mem_of_getElem? hf2)
      have ed : r.2.drop i = f :: r.2.drop (i + 1) := by
        obtain ⟨hlt, he⟩ := List.getElem?_eq_some_iff.mp hf2
        rw [← he]; exact List.drop_eq_getElem_cons hlt
      have lf := hl f (by rw [ed]; exact List.mem_cons_self)
      refine ⟨_, rfl, _, rfl, pn, _, rfl, .inr h2, f, r.1.length, _, ?_, rd, by omega, q1, q2, q3, q4, q5, _, rfl, iteF ?_⟩
      · rw [List.length_map] <;> rfl
      refine ⟨_, rfl, _, _, 0, _, rfl, rfl, g, atI_nat (j := 0) rfl, _, rfl, _, _, rfl, rfl, false, df (by omega), iteF ?_⟩
      refine ⟨_, rfl, _, _, 0, _, rfl, rfl, g, atI_nat (j := 0) rfl, rfl, _, some (.ref b), rfl, fun x hx => ?_⟩
      have hp : Srt (r.2.drop i) := List.Pairwise.sublist (List.drop_sublist i r.2) hv.sr
      rw [ed] at hp
      have := (List.pairwise_cons.mp hp).1 x hx
      omega
    · rintro σ H' ⟨rfl, l, v, rfl, _⟩
      exact kq
/-! ### views -/
def eO {α : Type} (e : α → D) : Option α → D
  | none => .non
  | some v => e v
def eV : {k : Nat} → Vw k → D
  | 0, v => .tup [.int v.1, .int v.2]
  | _ + 1, v => .tup [.int v.1, .tup (v.2.map (eO eV))]
def lv {k : Nat} (l : List (Option (Vw k))) : List D := l.map (eO eV)
def sp_next_view (K : PySem.W.Frag) : Sp := fun vs H Q _ => ∃ (k : Nat) (r : Rn) (vw : List (Option (Vw k))) (h a : Nat) (x : V) (p : Addr), vs = [x, .ref p, .int h, .int a] ∧ Rp K H (eR r) x ∧ LD K H p (lv vw) ∧ vw.length = r.1.length ∧ r.1.length ≤ 5 ∧ ∀ y H', Ex H H' → Rp K H' (eO eV (nextView r vw h a)) y → Q y H'
abbrev N_next_view : List Str := ["run", "views", "hand", "at", "parts", "other"]
theorem sc_next_view : FnScope N_next_view ["run", "views", "hand", "at"] (defScope s_next_view) := ⟨rfl, rfl, rfl, by decide +kernel, rfl, by decide +kernel, by decide +kernel⟩
theorem ok_next_view (T : Txt P w K mg base) : Ok P w K mg base "next_view" (3 + 1) ["run", "views", "hand", "at"] (sp_next_view K) := by
  refine Ok.of T.f_next_view sc_next_view (fun _ _ _ _ _ _ us hl => match us, hl with | [_, _, _, _], _ => rfl) (fun vs H Q E h => ?_) (fun f cdv A outer s H vs Q E hr h => ?_)
  · obtain ⟨k, r, vw, n, at', x, p, rfl, hx, hp, hl, h5, kq⟩ := h
    rfl
  · obtain ⟨k, r, vw, n, at', x, p, rfl, hx, hp, hl, h5, kq⟩ := h
    refine ⟨_, (pss_cons (ps_if (pt_not (pt_val (pc (ok_is_up T) hr (pa_cons (pv 0) (pa_cons (pv 2) (pa_cons (pv 3) pa_nil))))))
 (pss_one (ps_ret pe_non))
 pss_nil)
 (pss_cons (ps_set (i := 4) sc_next_view.nd rfl (by first | exact Or.inl rfl | exact Or.inr rfl) (peLst pa_nil))
 (pss_cons (ps_for PassesOwn.never rfl (pi_range1 (by rfl) T.n_range (pa_cons (pc (ok_many_hands T) hr (pa_cons (pv 0) pa_nil)) pa_nil)) (pg_name (i := 5) sc_next_view.nd rfl (by first | exact Or.inl rfl | exact Or.inr rfl))
 (pss_one (ps_if (PW.pt (pw_or (pt_cmpR op_eq (pv 5) (pv 2) (by first | rfl | exact nomark _)) (pw_or1 (pt_val (pc (ok_comes T) hr (pa_cons (pv 0) (pa_cons (pv 5) (pa_cons (pv 2) (pa_cons (pv 3) pa_nil)))))))))
 (pss_one (ps_expr (pe_bm PySem.F.plainAttrs_list PySem.F.slot_list_append PySem.F.type_list_append mt_append (pv 4) (pa_cons (pe_ix (ixL (K := K) rfl) (pv 1) (pv 5) (fun _ _ => rfl)) pa_nil))))
 (pss_one (ps_expr (pe_bm PySem.F.plainAttrs_list PySem.F.slot_list_append PySem.F.type_list_append mt_append (pv 4) (pa_cons pe_non pa_nil)))))))
 (pss_one (ps_ret (peTup (pa_cons (pv 2) (pa_cons (pe_callTy (cTupOf (K := K) rfl) (by rfl) T.n_tuple bt_tuple (pa_cons (pv 4) pa_nil)) pa_nil)))))))), ?_⟩
    refine ⟨_, rfl, _, rfl, _, rfl, r, n, at', _, rfl, hx, _, rfl, ?_⟩
    cases hu : isUp r n at' with
    | false =>
      have : nextView r vw n at' = none := by unfold nextView; rw [if_neg (by rw [hu]; decide)]
      rw [this] at kq
      exact iteT (kq _ _ (Ex.refl H) .non)
    | true =>
    have hnv : nextView r vw n at' = some (n, (List.range r.1.length).map fun o => if o = n ∨ comes r o n at' = true then (vw[o]?).getD none else none) := if_pos hu
    rw [hnv] at kq
    refine iteF ⟨by show 0 ≤ 1000; decide, fun l H1 hl1 e1 g1 => ?_⟩
    obtain ⟨xs, px, rx⟩ := hp
    have npl : p ≠ l := ne_of_none px hl1
    refine ⟨_, rfl, r, _, rfl, hx.up e1, (r.1.length : Nat), rfl, by omega, by omega, for_range (lo := 0) (n := r.1.length) (fun i σ H' => Ex H H' ∧ (∃ v, σ = [some x, some (.ref p), some (.int n), some (.int at'), some (.ref l), v]) ∧ ∃ ys, H' l = some (.lst ys) ∧ ys.length = i ∧ RpL K H' (lv ((List.range i).map fun o => if o = n ∨ comes r o n at' = true then (vw[o]?).getD none else none)) ys) ⟨e1, ⟨none, rfl⟩, [], g1, rfl, .nil⟩ ?_ ?_⟩
    · rintro i σ H' hi ⟨e2, ⟨v, rfl⟩, ys, g2, gl, g3⟩
      rw [Int.zero_add]
      obtain ⟨d, hd⟩ : ∃ o, vw[i]? = some o := ⟨_, List.getElem?_eq_getElem (by omega)⟩
      obtain ⟨y, hy, ry⟩ := rx.get (i := i) (d := eO eV d) (by unfold lv; rw [List.getElem?_map, hd]; rfl)
      have last : ∀ z, Rp K H' (eO eV (if i = n ∨ comes r i n at' = true then (vw[i]?).getD none else none)) z → RpL K (L2.upd H' l (.lst (ys ++ [z]))) (lv ((List.range (i + 1)).map fun o => if o = n ∨ comes r o n at' = true then (vw[o]?).getD none else none)) (ys ++ [z]) := fun z hz => by
        unfold lv at g3 ⊢
        rw [List.range_succ, List.map_append, List.map_append]
        exact (g3.upT (ExT.lst g2)).snoc (hz.upT (ExT.lst g2))
      have yes : (i = n ∨ comes r i n at' = true) → Rp K H' (eO eV (if i = n ∨ comes r i n at' = true then (vw[i]?).getD none else none)) y := fun c => by
        rw [if_pos c, hd]; exact ry.up e2
      have no : ¬ (i = n ∨ comes r i n at' = true) → Rp K H' (eO eV (if i = n ∨ comes r i n at' = true then (vw[i]?).getD none else none)) .non := fun c => by
        rw [if_neg c]; exact .non
      have ne : H l = none := hl1
      refine ⟨_, rfl, _, rfl, rfl, _, rfl, ?_⟩
      rw [dint]
      by_cases c : i = n
      · rw [decide_eq_true c]
        refine iteT (iteT ⟨_, rfl, .inl ⟨rfl, _, SqL.of g2⟩, _, rfl, _, rfl, _, _, i, _, rfl, rfl, SqL.of (e2 _ _ px), atI_nat hy, _, _, _, rfl, rfl, g2, sz_lt (by omega), ?_⟩)
        exact ⟨e2.mut ne, ⟨_, rfl⟩, _, upd_same, by simp [gl], last y (yes (.inl c))⟩
      rw [decide_eq_false c]
      refine iteF ⟨_, rfl, _, rfl, _, rfl, _, rfl, r, i, n, at', _, rfl, hx.up e2, _, rfl, ?_⟩
      by_cases c2 : comes r i n at' = true
      · refine ifT c2 ⟨_, rfl, .inl ⟨rfl, _, SqL.of g2⟩, _, rfl, _, rfl, _, _, i, _, rfl, rfl, SqL.of (e2 _ _ px), atI_nat hy, _, _, _, rfl, rfl, g2, sz_lt (by omega), ?_⟩
        exact ⟨e2.mut ne, ⟨_, rfl⟩, _, upd_same, by simp [gl], last y (yes (.inr c2))⟩
      · refine ifF (by simpa using c2) ⟨_, rfl, .inl ⟨rfl, _, SqL.of g2⟩, _, _, _, rfl, rfl, g2, sz_lt (by omega), ?_⟩
        exact ⟨e2.mut ne, ⟨_, rfl⟩, _, upd_same, by simp [gl], last .non (no (by simp [c, c2]))⟩
    · rintro σ H' ⟨e2, ⟨v, rfl⟩, ys, g2, gl, g3⟩
      refine ⟨_, rfl, _, rfl, l, ys, rfl, .inl ⟨SqL.of g2, fun t H3 ht e3 t3 => ⟨by show 2 ≤ 1000; decide, fun u H4 hu4 e4 u4 => ?_⟩⟩⟩
      refine kq _ _ ((e2.trans e3).trans e4) ?_
      show Rp K H4 (.tup [.int n, .tup (lv _)]) _
      exact .tup (st_of u4) (.cons (.int _) (.one (.tup (ex_t e4 (st_of t3)) (g3.up (e3.trans e4)))))
end
end RF

set_option Elab.async false
set_option linter.all false
set_option maxRecDepth 100000
set_option maxHeartbeats 4000000
namespace RF
open PySem PySem.Spec PyProof.Rows L2 Evl RM
theorem views_len (r : Rn) : ∀ k, (views r k).length = r.1.length
  | 0 => by unfold views; rw [List.length_map, List.length_range]
  | k + 1 => by unfold views; rw [List.length_map, List.length_range]
section
variable {P : Program} {w : World} {K : PySem.W.Frag} {mg : Str → Option Value} {base : Heap}
def sp_views_of (K : PySem.W.Frag) : Sp := fun vs H Q _ => ∃ (r : Rn) (k : Nat) (x : V), vs = [x, .int k] ∧ Rp K H (eR r) x ∧ Valid r ∧ k ≤ 10 ∧ ∀ p H', H p = none → Ex H H' → LD K H' p (lv (views r k)) → Q (.ref p) H'
abbrev N_views_of : List Str := ["run", "rounds", "views", "hand", "at"]
theorem sc_views_of : FnScope N_views_of ["run", "rounds"] (defScope s_views_of) := ⟨rfl, rfl, rfl, by decide +kernel, rfl, by decide +kernel, by decide +kernel⟩
theorem ok_views_of (T : Txt P w K mg base) : Ok P w K mg base "views_of" (4 + 1) ["run", "rounds"] (sp_views_of K) := by
  refine Ok.of T.f_views_of sc_views_of (fun _ _ _ _ _ _ us hl => match us, hl with | [_, _], _ => rfl) (fun vs H Q E h => ?_) (fun f cdv A outer s H vs Q E hr h => ?_)
  · obtain ⟨r, k, x, rfl, hx, hv, hk, kq⟩ := h
    rfl
  · obtain ⟨r, k, x, rfl, hx, hv, hk, kq⟩ := h
    refine ⟨_, (pss_cons (ps_set (i := 2) sc_views_of.nd rfl (by first | exact Or.inl rfl | exact Or.inr rfl) (pe_lc (own := [("hand", 3)]) rfl sc_views_of.nd (pi_range1 (by rfl) T.n_range (pa_cons (pc (ok_many_hands T) hr (pa_cons (pv 0) pa_nil)) pa_nil)) (blkOk_by (N := N_views_of) (sc := defScope s_views_of) (own := [("hand", 3)]) (by decide +kernel)) (fun _ _ _ _ _ => (pg_name (i := 3) sc_views_of.nd rfl (by first | exact Or.inl rfl | exact Or.inr rfl))) (fun _ _ _ _ _ => pts_nil) (fun _ _ _ _ _ => (peTup (pa_cons (pv 3) (pa_cons (pe_ix (ixT (K := K) rfl) (pe_ix (ixT (K := K) rfl) (pv 0) pe_int (fun _ _ => rfl)) (pv 3) (fun _ _ => rfl)) pa_nil))))))
 (pss_cons (ps_for PassesOwn.never rfl (pi_range2 (by rfl) T.n_range (pa_cons pe_int (pa_cons (pe_op op_add (pv 1) pe_int) pa_nil))) (pg_name (i := 4) sc_views_of.nd rfl (by first | exact Or.inl rfl | exact Or.inr rfl))
 (pss_one (ps_set (i := 2) sc_views_of.nd rfl (by first | exact Or.inl rfl | exact Or.inr rfl) (pe_lc (own := [("hand", 3)]) rfl sc_views_of.nd (pi_range1 (by rfl) T.n_range (pa_cons (pc (ok_many_hands T) hr (pa_cons (pv 0) pa_nil)) pa_nil)) (blkOk_by (N := N_views_of) (sc := defScope s_views_of) (own := [("hand", 3)]) (by decide +kernel)) (fun _ _ _ _ _ => (pg_name (i := 3) sc_views_of.nd rfl (by first | exact Or.inl rfl | exact Or.inr rfl))) (fun _ _ _ _ _ => pts_nil) (fun _ _ _ _ _ => (pc (ok_next_view T) hr (pa_cons (pv 0) (pa_cons (pv 2) (pa_cons (pv 3) (pa_cons (pv 4) pa_nil))))))))))
 (pss_one (ps_ret (pv 2))))), ?_⟩
    have h4 := hv.hi
    obtain ⟨a, pn, pf, fs, rfl, h1, h2, h3, hf⟩ := run_get hx
    refine ⟨_, rfl, r, _, rfl, hx, (r.1.length : Nat), rfl, by omega, by omega, fun Dl hD => ?_⟩
    refine lc_range (lo := 0) (n := r.1.length) (fun i H' => Ex H H' ∧ ∃ acc, H' Dl = some (.lst acc) ∧ acc.length = i ∧ RpL K H' (lv (k := 0) ((List.range i).map fun h => some (h, r.1.getD h 0))) acc) ⟨Ex.new hD, [], upd_same, rfl, .nil⟩ (fun i H' hi ⟨p1, acc, p2, p3, p4⟩ => ?_) (fun H' ⟨p1, acc, p2, p3, p4⟩ => ?_)
    · rw [Int.zero_add]
      have hg : r.1[i]? = some (r.1.getD i 0) := by rw [List.getD_eq_getElem?_getD, List.getElem?_eq_getElem hi]; rfl
      refine ⟨rfl, _, rfl, _, rfl, _, _, 0, _, rfl, rfl, ex_t p1 h1, atI_nat (j := 0) rfl, _, rfl, _, _, i, _, rfl, rfl, ex_t p1 h2, atI_nat (j := i) (v := V.int (r.1.getD i 0)) (by rw [List.getElem?_map, hg]; rfl), by show 2 ≤ 1000; decide, fun t H3 ht e3 t3 => ?_⟩
      refine ⟨acc, e3 _ _ p2, sz_lt (by omega), (p1.trans e3).mut hD, _, upd_same, by simp [p3], ?_⟩
      unfold lv at p4 ⊢
      rw [List.range_succ, List.map_append, List.map_append]
      have e5 : ExT H3 (L2.upd H3 Dl (.lst (acc ++ [V.ref t]))) := ExT.lst (e3 _ _ p2)
      refine ((p4.up e3).upT e5).snoc ?_
      exact .tup (e5.sqt (st_of t3)) (.cons (.int _) (.one (.int _)))
    · have hD0 : LD K H' Dl (lv (views r 0)) := ⟨acc, p2, p4⟩
      refine ⟨_, rfl, _, _, rfl, rfl, 1, _, rfl, ⟨by omega, by omega, by omega, by omega⟩, for_range (lo := 1) (n := ((k : Int) + 1 - 1).toNat) (fun i σ H2 => Ex H H2 ∧ ∃ (p : Addr) (v : Option V), σ = [some (.ref a), some (.int k), some (.ref p), none, v] ∧ H p = none ∧ LD K H2 p (lv (views r i))) ⟨p1, Dl, none, rfl, hD, hD0⟩ ?_ ?_⟩
      · rintro i σ H2 hi ⟨q1, p, v, rfl, pn', hp⟩
        have q2 := hx.up q1
        refine ⟨_, rfl, r, _, rfl, q2, (r.1.length : Nat), rfl, by omega, by omega, fun D2 hD2 => ?_⟩
        have np : p ≠ D2 := by
          obtain ⟨_, z, _⟩ := hp
          exact ne_of_none z hD2
        have hD20 := fresh_back q1 hD2
        refine lc_range (lo := 0) (n := r.1.length) (fun j H' => Ex H2 H' ∧ ∃ acc, H' D2 = some (.lst acc) ∧ acc.length = j ∧ RpL K H' (lv (k := i + 1) ((List.range j).map fun h => nextView r (views r i) h (i + 1))) acc) ⟨Ex.new hD2, [], upd_same, rfl, .nil⟩ (fun j H' hj ⟨p1, acc, p2, p3, p4⟩ => ?_) (fun H' ⟨p1, acc, p2, p3, p4⟩ => ?_)
        · rw [Int.zero_add]
          have ei : (1 : Int) + (i : Int) = ((i + 1 : Nat) : Int) := by omega
          rw [ei]
          refine ⟨rfl, _, rfl, _, rfl, _, rfl, _, rfl, i, r, views r i, j, i + 1, _, p, rfl, q2.up p1, hp.up p1, views_len r i, by omega, fun y H3 e3 hy => ?_⟩
          refine ⟨acc, e3 _ _ p2, sz_lt (by omega), (p1.trans e3).mut hD2, _, upd_same, by simp [p3], ?_⟩
          unfold lv at p4 ⊢
          rw [List.range_succ, List.map_append, List.map_append]
          have e5 : ExT H3 (L2.upd H3 D2 (.lst (acc ++ [y]))) := ExT.lst (e3 _ _ p2)
          exact ((p4.up e3).upT e5).snoc (hy.upT e5)
        · exact ⟨q1.trans p1, D2, _, rfl, hD20, acc, p2, p4⟩
      · rintro σ H2 ⟨q1, p, v, rfl, pn', hp⟩
        have ek : ((k : Int) + 1 - 1).toNat = k := by omega
        rw [ek] at hp
        exact ⟨_, rfl, kq p H2 pn' q1 hp⟩
end
end RF

set_option Elab.async false
set_option linter.all false
set_option maxRecDepth 100000
set_option maxHeartbeats 4000000
/-! enumerate(tuple) -/
namespace RFE
open PySem PySem.Spec PyProof.Rows L2
open Sem (wp)
set_option maxRecDepth 100000
theorem meets_enumerate_newT (l : Addr) (items : Array Value) :
    Meets (Builtin.«enumerate.__new__» ⟨[.type "enumerate", .ref l], []⟩) (fun _ R s => s.heap.IsTuple l items ∧
      R (.ok (.ret (.ref (s.heap.push { cls := .type "tuple_iterator", data := .fields #[.ref l, .int 0 0] }).objs.size)))
        { s with heap := (s.heap.push { cls := .type "tuple_iterator", data := .fields #[.ref l, .int 0 0] }).push { cls := .type "enumerate", data := .fields #[.none, .bool false, .ref s.heap.objs.size, rawInt 0, .none, .none] } }) :=
  .of_wp fun prog w A R s h => by
    obtain ⟨hp, g, d, tk, os⟩ := s; obtain ⟨hL, h⟩ := h
    have hsub := sub_enumerate
    obtain ⟨o, hl, hc, n, hd⟩ := id hL
    have hL : Heap.IsTuple (Shared.heap ⟨hp, g, d, tk, os⟩) l items := hL
    wp_walk using AutoSeq1.wpAny_loadPart' hl
    refine wpAny_stack_any fun st => wpAny_pure ?_
    split
    · rename_i c _ _ _ _ _
      cases (c == Value.type "enumerate")
      · wp_walk using AutoSeq1.wpAny_loadPart' hl, wpAny_pyIter_tuple hL
        exact ⟨_, rfl, h⟩
      · wp_walk using AutoSeq1.wpAny_loadPart' hl, wpAny_pyIter_tuple hL
        exact ⟨_, rfl, h⟩
    · wp_walk using AutoSeq1.wpAny_loadPart' hl, wpAny_pyIter_tuple hL
      exact ⟨_, rfl, h⟩
section
variable {prog : Program} {w : World} {A : Around} {E : Value → Shared → Prop} {s : Shared}
theorem call_enumerate_tuple {l : Addr} {items : Array Value} {Q : Value → Shared → Prop} (hL : s.heap.IsTuple l items)
    (h : ∀ h', IsEnum h' (s.heap.objs.size + 1) s.heap.objs.size 0 .none → h'.IsTupleIter s.heap.objs.size l 0 → h'.objs.size = s.heap.objs.size + 2 →
      (∀ b o, s.heap.get? b = some o → h'.get? b = some o) → Q (.ref (s.heap.objs.size + 1)) { s with heap := h' }) :
    wpAny (model prog w) A (call (.type "enumerate") [.ref l]) Q E s := by
  refine callType_new F.called_enumerate (by decide) (F.typeCall_enumerate_1 _) (F.newCall_enumerate_1 _) (fun obj => F.args_object_init_2 obj _) F.entry_enumerate_new
    (meets_enumerate_newT l items) ⟨hL, ?_⟩
  have hz : (s.heap.push { cls := .type "tuple_iterator", data := .fields #[.ref l, .int 0 0] }).objs.size = s.heap.objs.size + 1 := Heap.size_push ..
  show _ ∧ _
  rw [hz]
  have he : IsEnum ((s.heap.push { cls := .type "tuple_iterator", data := .fields #[.ref l, .int 0 0] }).push
      { cls := .type "enumerate", data := .fields #[.none, .bool false, .ref s.heap.objs.size, rawInt 0, .none, .none] }) (s.heap.objs.size + 1) s.heap.objs.size 0 .none := by
    have := Heap.get?_push_size (s.heap.push { cls := .type "tuple_iterator", data := .fields #[.ref l, .int 0 0] })
      (o := { cls := .type "enumerate", data := .fields #[.none, .bool false, .ref s.heap.objs.size, rawInt 0, .none, .none] }) rfl
    rw [hz] at this; exact this
  refine ⟨⟨_, he, rfl⟩, h _ he ⟨_, Heap.get?_push_of_some _ (Heap.get?_push_size _ rfl), rfl, rfl⟩ (by rw [Heap.size_push, hz]) fun b o x => Heap.get?_push_of_some _ (Heap.get?_push_of_some _ x)⟩
end
/-- the tuple at a, each item in a new pair -/
def IteT (K : PySem.W.Frag) (a : Addr) : It :=
  ⟨fun i H => ∃ (xs : List V) (x : V), SqT K H a xs ∧ xs[i]? = some x, fun i H v H' => ∃ T x, v = .ref T ∧ H T = none ∧ H' = upd H T (.tup [.int (i : Nat), x]) ∧ ∀ xs, SqT K H a xs → xs[i]? = some x, fun i H => ∃ xs : List V, SqT K H a xs ∧ xs.length = i⟩
theorem turn_enumT {P : Program} {w : World} {K : PySem.W.Frag} {elts : List Expr} {kk : Nat} {tpos : Pos} (a e it : Addr) (hai : a ≠ it) (hae : e ≠ a) :
    Turn P w K (.Tuple elts kk tpos) (IteT K a) [e, it] e (fun i h => (∃ old, IsEnum h e it ((i : Nat) : Int) old) ∧ h.IsTupleIter it a i ∧ e ≠ it) where
  mem := by simp
  obj := fun i h st b hb => by
    obtain ⟨⟨old, he⟩, ⟨o, ho, hc, hd⟩, _⟩ := st
    have e' : b = e ∨ b = it := by simpa using hb
    rcases e' with z | z
    · rw [z]; exact ⟨_, he, fun v q => nomatch q⟩
    · rw [z]; exact ⟨o, ho, fun v q => by rw [hd] at q; cases q⟩
  keep := fun i h h' st k => let ⟨⟨old, he⟩, hi, hne⟩ := st; ⟨⟨old, k e (by simp) _ he⟩, hi.at fun o q => k it (by simp) o q, hne⟩
  item := by
    intro X hP hw hK hc i pins s σ H E I hf st hg
    subst hP hw hK
    obtain ⟨⟨old, he⟩, hit, hne⟩ := st
    obtain ⟨xs, x, hq, hx⟩ := hg
    obtain ⟨its, rv, p, hz⟩ := I.tuple hq
    obtain ⟨u, hu, ru⟩ := rv.get hx
    have hel : e < s.heap.objs.size := Heap.lt_size he
    have hil : it < s.heap.objs.size := by obtain ⟨_, q, _⟩ := hit; exact Heap.lt_size q
    have hxa : its.toArray[i]? = some u := by simpa using hu
    have hlt : i < its.toArray.size := (Array.getElem?_eq_some_iff.mp hxa).1
    have D := Draws.tuple (prog := X.prog) (w := X.w) (A := X.A.in1) (I.ok.hd hc) it a hai its.toArray
    have pp : s.heap.IsTuple a its.toArray := p
    refine wpAny_pyNext_enum_itemD D he ⟨hit, pp⟩ hlt hne (fun z => ?_) fun x' h' tk hP ho hst' hT hsz hk => ?_
    · rcases List.mem_cons.mp z with q | q
      · exact hne q
      · exact hae (List.mem_singleton.mp q)
    obtain ⟨hit', _⟩ := hst'
    have ex : x' = u := by rw [hxa] at hP; exact (Option.some.inj hP).symm
    subst ex
    refine ⟨_, rfl, wpAny_letOwnedTupleGo_enum (s := { s with heap := h', toks := tk + 1 }) ho fun h'' he' sb => ?_⟩
    have hT2 : h''.get? s.heap.objs.size = some { cls := .type "tuple", data := .seq #[.int i tk, x'] } := (sb.2 _ (Nat.ne_of_gt hel)).trans hT
    have new : ObjOk X.prog X.w (upd H s.heap.objs.size (.tup [.int (i : Nat), x])) h'' s.heap.objs.size (.tup [.int (i : Nat), x]) :=
      ⟨by show 2 ≤ sizeLine; decide, [.int i tk, x'], .cons ⟨_, rfl⟩ (.cons ru .nil), ⟨_, hT2, rfl, _, rfl⟩⟩
    have I1 : Inv X pins σ (upd H s.heap.objs.size (.tup [.int (i : Nat), x])) { s with heap := h'', toks := tk + 1 } :=
      I.turnedNew (ch := [e, it]) (fun b ob hb q => (sb.2 b (fun z => hb (by simp [z]))).trans (hk b ob (fun z => hb (by simp [z])) (fun z => hb (by simp [z])) q)) hf (Nat.le_refl _) new
    refine ⟨.ref s.heap.objs.size, _, I1, rfl, ⟨_, x, rfl, I.hok.fresh (Nat.le_refl _), rfl, fun ys hy => by rw [I.tuple_inj hy hq]; exact hx⟩, ⟨⟨x', ?_⟩, hit'.at fun o q => (sb.2 it (Ne.symm hne)).trans q, hne⟩, fun b hb => ?_⟩
    · have e1 : ((i + 1 : Nat) : Int) = (i : Int) + 1 := by omega
      rw [e1]; exact he'
    · have hb' : b < s.heap.objs.size := by
        have e' : b = e ∨ b = it := by simpa using hb
        rcases e' with z | z
        · rw [z]; exact hel
        · rw [z]; exact hil
      rw [upd_ne (Nat.ne_of_lt hb')]
      exact (hf b hb).1
  done := by
    intro X hP hw hK hc i pins s σ H E I hf st hg
    subst hP hw hK
    obtain ⟨⟨old, he⟩, hit, hne⟩ := st
    obtain ⟨xs, hq, hx⟩ := hg
    obtain ⟨its, rv, p, hz⟩ := I.tuple hq
    obtain ⟨f0, f1, f2, f3, f4, f5⟩ := hf it (by simp)
    have hl := rv.length
    have D := Draws.tuple (prog := X.prog) (w := X.w) (A := X.A.in1) (I.ok.hd hc) it a hai its.toArray
    have ei : i = its.toArray.size := by simp; omega
    rw [ei] at hit
    exact wpAny_pyNext_enum_endD D he ⟨hit, p⟩ fun h' eb => ⟨rfl, I.turned (t' := s.toks) (fun b o hb q => eb b o hb q) f0 f1 f3 f4 f5⟩
  self := fun A i s Q E st h => let ⟨⟨_, he⟩, _⟩ := st; wpAny_pyIter_enum he h
def iEnumT (K : PySem.W.Frag) (ta : TA) : TI := fun σ H R => ta σ H fun vs H1 => ∃ a xs, vs = [.ref a] ∧ SqT K H1 a xs ∧ R (IteT K a) H1
theorem pi_enumT {X : Cx} {K : PySem.W.Frag} {e : Expr} {ta : TA} {p pos tpos : Pos} {elts : List Expr} {kk : Nat} (hK : X.K = K) (hg : Gl X "enumerate") (hm : X.mg "enumerate" = none) (ha : PA X [e] ta) (hs : starEach [e] X.env = [(false, eval e X.env)] := by rfl) :
    PI X (.Tuple elts kk tpos) (.Call (.Name "enumerate" p) [e] [] pos) (iEnumT K ta) := by
  subst hK
  refine ⟨fun pins s σ H R I h => ?_⟩
  refine Call_ (ld_blt I hg hm boot_enumerate (PyProof.Rows.callWith_type1 (thn (ha.run pos pins s σ H _ I h) fun us s1 ⟨vs, H1, I1, r1, q1⟩ => ?_) hs rfl))
  obtain ⟨a, xs, ex, hq, q⟩ := q1
  subst ex
  cases r1 with
  | cons r rr =>
    cases rr
    cases r
    obtain ⟨its, rv, p', hz⟩ := I1.tuple hq
    have pl : a < s1.heap.objs.size := p'.lt
    refine call_enumerate_tuple p' fun h' he hit hsz hk => wpAny_pyIter_enum he ?_
    have I2 : Inv X pins σ H1 { s1 with heap := h' } := I1.kept (t' := s1.toks) hk
    refine ⟨s1.heap.objs.size + 1, [s1.heap.objs.size + 1, s1.heap.objs.size], _, _, H1, rfl, I2, turn_enumT a (s1.heap.objs.size + 1) s1.heap.objs.size (Nat.ne_of_lt pl) (Nat.ne_of_gt (Nat.lt_succ_of_lt pl)), ⟨⟨.none, he⟩, hit, Nat.succ_ne_self _⟩, fun b hb => ?_, q⟩
    have e' : b = s1.heap.objs.size + 1 ∨ b = s1.heap.objs.size := by simpa using hb
    have hle : s1.heap.objs.size ≤ b := by
      rcases e' with z | z
      · rw [z]; exact Nat.le_add_right _ _
      · rw [z]; exact Nat.le_refl _
    exact I1.fpOk hle (I1.hok.fresh hle)
theorem walk_enumT {K : PySem.W.Frag} {a : Addr} {xs : List V} : Walk (IteT K a) xs.length (fun H => SqT K H a xs) (YPair (fun i => some (.int (i : Nat))) (fun i => xs[i]?)) := by
  refine ⟨fun i _ hi q => ⟨xs, xs[i], q, by simp [hi]⟩, fun _ q => ⟨xs, q, rfl⟩, fun i H v H' _ q y => ?_⟩
  obtain ⟨T, x, h1, h2, h3, h4⟩ := y
  exact ⟨T, .int (i : Nat), x, h1, h2, h3, rfl, h4 xs q⟩
end RFE

set_option Elab.async false
set_option linter.all false
set_option maxRecDepth 100000
set_option maxHeartbeats 4000000
/-! data as PyData; None not in a tuple -/
namespace RF
open PySem PySem.Spec PyProof.Rows L2 Evl
mutual
def toPD : D → PyData
  | .non => .none
  | .bl b => .bool b
  | .int i => .int i
  | .str s => .str s
  | .tup l => .tuple (toPDs l)
def toPDs : List D → List PyData
  | [] => []
  | d :: l => toPD d :: toPDs l
end
section
variable {K : PySem.W.Frag} {H : Hp}
mutual
theorem Rp.dp : ∀ (d : D) (v : V), Rp K H d v → Dp K H v (toPD d)
  | .non, v, h => by rw [Rp.non_iff.mp h]; exact .non
  | .bl b, v, h => by rw [Rp.bl_iff.mp h]; exact .bl b
  | .int i, v, h => by rw [Rp.int_iff.mp h]; exact .int i
  | .str s, v, h => by rw [Rp.str_iff.mp h]; exact .str s
  | .tup l, v, h => by
    obtain ⟨a, xs, e, h1, h2⟩ := Rp.tup_iff.mp h
    rw [e]
    show Dp K H _ (.tuple (toPDs l))
    exact .tup h1 (RpL.dp l xs h2)
theorem RpL.dp : ∀ (l : List D) (xs : List V), RpL K H l xs → DpAll K H xs (toPDs l)
  | [], xs, h => by rw [RpL.nil_iff.mp h]; exact .nil
  | d :: l, xs, h => by
    obtain ⟨x, r, e, h1, h2⟩ := RpL.cons_iff.mp h
    rw [e]
    exact .cons (Rp.dp d x h1) (RpL.dp l r h2)
end
end
mutual
/-- no text in it -/
def noS : D → Bool
  | .str _ => false
  | .tup l => noSs l
  | _ => true
def noSs : List D → Bool
  | [] => true
  | d :: l => noS d && noSs l
end
theorem noSs_iff : ∀ {l : List D}, noSs l = true ↔ ∀ d ∈ l, noS d = true
  | [] => by simp [noSs]
  | d :: l => by
    show (noS d && noSs l) = true ↔ _
    rw [Bool.and_eq_true, noSs_iff (l := l)]
    simp
mutual
theorem toPD_lay : ∀ d : D, noS d = true → (toPD d).canLay0 = true
  | .non, _ => rfl
  | .bl _, _ => rfl
  | .int _, _ => rfl
  | .str _, h => by cases h
  | .tup l, h => toPDs_lay l h
theorem toPDs_lay : ∀ l : List D, noSs l = true → PyData.canLayAll0 (toPDs l) = true
  | [], _ => rfl
  | d :: l, h => by
    have h' : (noS d && noSs l) = true := h
    obtain ⟨h1, h2⟩ := Bool.and_eq_true_iff.mp h'
    show ((toPD d).canLay0 && PyData.canLayAll0 (toPDs l)) = true
    rw [toPD_lay d h1, toPDs_lay l h2]; rfl
end
def isNonD : D → Bool
  | .non => true
  | _ => false
theorem toPD_eqv_non (d : D) : PyData.eqv (toPD d) .none = isNonD d := by
  cases d <;> simp [toPD, PyData.eqv, isNonD]
theorem isNone_d {K : PySem.W.Frag} {H : Hp} {d : D} {v : V} {u : Value} (h : Rp K H d v) (r : RelV v u) : PySem.Numpy.isNone u = isNonD d := by
  cases d with
  | non => rw [Rp.non_iff.mp h] at r; cases r; rfl
  | bl b => rw [Rp.bl_iff.mp h] at r; cases r; rfl
  | int i => rw [Rp.int_iff.mp h] at r; obtain ⟨t, rfl⟩ := r; rfl
  | str s => rw [Rp.str_iff.mp h] at r; obtain ⟨t, rfl⟩ := r; rfl
  | tup l => obtain ⟨a, xs, e, _⟩ := Rp.tup_iff.mp h; rw [e] at r; cases r; rfl
theorem any_none {K : PySem.W.Frag} {H : Hp} : ∀ {l : List D} {xs : List V} {us : List Value}, RpL K H l xs → Vals xs us → us.any PySem.Numpy.isNone = l.any isNonD
  | [], xs, us, h, r => by rw [RpL.nil_iff.mp h] at r; cases r; rfl
  | d :: l, xs, us, h, r => by
    obtain ⟨x, y, e, h1, h2⟩ := RpL.cons_iff.mp h
    rw [e] at r
    cases r with
    | cons r1 r2 => rw [List.any_cons, List.any_cons, isNone_d h1 r1, any_none h2 r2]
def rNoneNT (K : PySem.W.Frag) : R2 := fun x y H Q => ∃ p xs l, x = .non ∧ y = .ref p ∧ SqT K H p xs ∧ RpL K H l xs ∧ noSs l = true ∧ Q (.bl (!l.any isNonD)) H
theorem opNoneNT {X : Cx} {K : PySem.W.Frag} (hK : X.K = K) (hu : X.A.units + 64 < cLine) : OpR X (compareOp .NotIn) (rNoneNT K) := by
  subst hK
  intro pins s σ H x y v u Q I rx ry h
  obtain ⟨p, xs, l, rfl, rfl, hq, f, ns, q⟩ := h
  cases rx
  cases ry
  obtain ⟨its, rv, hl, _⟩ := I.tuple hq
  have hu1 : X.A.in1.units < cLine := by show X.A.units + 1 < cLine; omega
  refine SeqAt.notIn_tupleAt PySem.Numpy.isNone hl (fun z hz => ?_) ⟨.bl _, H, I, rfl, ?_⟩
  · obtain ⟨i, hi⟩ := List.mem_iff_getElem?.mp (show z ∈ its by simpa using hz)
    obtain ⟨y, hy, ry⟩ : ∃ y, xs[i]? = some y ∧ RelV y z := by
      have hlen := rv.length
      have hi' := (List.getElem?_eq_some_iff.mp hi).1
      have e : xs[i]? = some (xs[i]'(by omega)) := List.getElem?_eq_getElem (by omega)
      obtain ⟨u, h1, h2⟩ := rv.get e
      rw [hi] at h1
      cases h1
      exact ⟨_, e, h2⟩
    obtain ⟨d, hd, rd⟩ := f.get' hy
    rw [isNone_d rd ry, ← toPD_eqv_non]
    obtain ⟨as, r1⟩ := Dp.reads I (toPD d) y z (rd.dp) ry
    obtain ⟨bs, r2⟩ := Dp.reads I .none .non .none .non rfl
    refine SeqAt.eqAt_reads (toPD d) .none X.A.in1 s z .none as bs r1 r2 (toPD_lay d (noSs_iff.mp ns d (List.mem_of_getElem? hd))) rfl ?_
    have : (PyData.none).depth = 0 := by first | rfl | simp [PyData.depth]
    rw [this, Nat.min_zero]
    exact hu1
  · rw [show its.toArray.any PySem.Numpy.isNone = its.any PySem.Numpy.isNone by simp, any_none f rv]
    exact q
end RF

set_option Elab.async false
set_option linter.all false
set_option maxRecDepth 100000
set_option maxHeartbeats 4000000
/-! d.items() of a dict with int keys and int values, sorted -/
namespace RF
open PySem PySem.Spec PyProof.Rows L2 Evl
/-- a dict from ints to ints -/
def eB (d : List (Nat × Int)) : List (Key × V) := d.map fun p => (Sum.inl (p.1 : Int), V.int p.2)
def ePr (p : Nat × Int) : D := .tup [.int p.1, .int p.2]
section
variable {X : Cx}
def rItemsK : V → List V → Hp → VK → Prop := fun x xs H Q => ∃ (a : Addr) (kvs : List (Key × V)), x = .ref a ∧ xs = [] ∧ H a = some (.dK kvs) ∧ ∀ p H', H p = none → Ex H H' → H' p = some (L2.DX.itemsO p a) → Q (.ref p) H'
theorem mt_itemsK : MtR X "dict.items" rItemsK := by
  intro pins s σ H x xs v us Q I rx rxs h
  obtain ⟨a, kvs, rfl, rfl, ha, q⟩ := h
  cases rx
  cases rxs
  obtain ⟨z, hd, vs, kv, o, es, ep, ho, hx, hdat, _⟩ := (show ObjOk X.prog X.w H s.heap a (.dK kvs) from I.hok a _ ha)
  refine DT.callItems (es := es) (ep := ep) hd ⟨o, ho, hx, hdat⟩ ?_
  have hf : H s.heap.objs.size = none := I.hok.fresh (Nat.le_refl _)
  exact ⟨.ref s.heap.objs.size, upd H s.heap.objs.size (L2.DX.itemsO s.heap.objs.size a), I.laid (t' := s.toks) (fun b u e => Heap.get?_push_of_some _ e) (Nat.le_refl _) (L2.DX.itemsO_ok (Heap.get?_push_size _ rfl)), rfl, q _ _ hf (Ex.new hf) upd_same⟩
def rSortItK (K : PySem.W.Frag) : List V → Hp → VK → Prop := fun vs H Q => ∃ (p a : Addr) (d : List (Nat × Int)), vs = [.ref p] ∧ H p = some (L2.DX.itemsO p a) ∧ H a = some (.dK (eB d)) ∧ d.length ≤ 1000 ∧
  ∀ (H' : Hp) (l : Addr) (ps : List (Nat × Int)), Ex H H' → H l = none → ps.Perm d → LD K H' l (ps.map ePr) → Q (.ref l) H'
theorem pairs_at {P : Program} {w : World} : ∀ {d : List (Nat × Int)} {vs : List (Key × Value)} {es : List DictEntry}, KV (eB d) vs → Pairs (mixKind P w) es vs →
    es.length = d.length ∧ ∀ (j : Nat) (e : DictEntry), es[j]? = some e → ∃ (p : Nat × Int) (t u : Tok), d[j]? = some p ∧ e.key = .int (p.1 : Int) t ∧ e.val = .int p.2 u
  | [], vs, es, kv, pr => by
    cases kv
    cases pr
    exact ⟨rfl, fun j e h => by simp at h⟩
  | p :: d, vs, es, kv, pr => by
    cases kv with
    | cons k1 k2 =>
      cases pr with
      | cons p1 p2 p3 =>
        obtain ⟨h1, h2⟩ := pairs_at (d := d) k2 p3
        refine ⟨by simp [h1], fun j e he => ?_⟩
        cases j with
        | zero =>
          have ee := Option.some.inj he
          obtain ⟨k3, k4⟩ := k1
          rename_i q _ e0 _
          have ee : e0 = e := ee
          subst ee
          obtain ⟨t, hk⟩ : ∃ t, e0.key = .int (p.1 : Int) t := by
            have hk : keyIs q.1 e0.key = true := p1
            rw [← k3] at hk
            exact Value.isInt_shape hk
          have hk4 := k4
          obtain ⟨u, hu⟩ := k4
          exact ⟨p, t, u, rfl, hk, p2.trans hu⟩
        | succ j =>
          obtain ⟨r, t, u, e1, e2, e3⟩ := h2 j e he
          exact ⟨r, t, u, e1, e2, e3⟩
theorem cr_sortedItemsK {K : PySem.W.Frag} (hc : X.calm = true) : CallR X (.builtin "sorted") (rSortItK K) := by
  intro pins s σ H xs us Q I r h
  obtain ⟨p, a, ds, rfl, hp, ha, hl, q⟩ := h
  obtain rfl := Vals.ref1 r
  have view : s.heap.IsItemsView p a := (show ObjOk X.prog X.w H s.heap p (L2.DX.itemsO p a) from I.hok p _ hp).1
  obtain ⟨z, hd, vs, kv, o, es, ep, ho, hx, hdat, _, hpr, _⟩ := (show ObjOk X.prog X.w H s.heap a (.dK (eB ds)) from I.hok a _ ha)
  obtain ⟨l1, l2⟩ := pairs_at kv hpr
  have l3 : es.size = ds.length := by rw [← Array.length_toList]; exact l1
  have hh : X.A.handled = none := I.ok.hd hc
  refine DT.sortedI (es := es) (ep := ep) hh view ⟨o, ho, hx, hdat⟩ (by rw [sizeLine_eq]; omega) fun h' tk as hk hlt hl' hG => ?_
  have lak : as.length = ds.length := by omega
  have nd : as.Nodup := List.Pairwise.imp (fun h => Nat.ne_of_lt h) hG.rise
  have pr : ∀ (j : Nat) (b : Addr), as[j]? = some b → ∃ (e : Nat × Int) (t u : Tok), ds[j]? = some e ∧ h'.get? b = some { cls := .type "tuple", data := .seq #[Value.int e.1 t, Value.int e.2 u] } := by
    intro j b hj
    obtain ⟨en, he, hg⟩ := hG.pairs j b hj
    obtain ⟨e, t, u, h1, h2, h3⟩ := l2 j en (by rw [Array.getElem?_toList]; exact he)
    exact ⟨e, t, u, h1, by rw [hg, h2, h3]⟩
  have hob : (h'.push { cls := .type "list", data := .seq (as.map Value.ref).toArray }).get? h'.objs.size = some (seqObj "list" (as.map Value.ref).toArray 0) := Heap.get?_push_size _ rfl
  have kb : ∀ b o, s.heap.get? b = some o → (h'.push { cls := .type "list", data := .seq (as.map Value.ref).toArray }).get? b = some o := fun b o e => Heap.get?_push_of_some _ (hk b o e)
  have ne0 : ∀ b o, h'.get? b = some o → b ≠ h'.objs.size := fun b o e => Nat.ne_of_lt (Heap.lt_size e)
  generalize hh2 : h'.push { cls := .type "list", data := .seq (as.map Value.ref).toArray } = h2 at hob kb ⊢
  have ka : ∀ b o, h'.get? b = some o → h2.get? b = some o := fun b o e => by rw [← hh2]; exact Heap.get?_push_of_some _ e
  refine wpAny_call_entry PyProof.Rows.slot_list_sort ⟨_, hob, rfl⟩ PyProof.Rows.entry_list_sort
    (Srt.list_sort_any (s := { s with heap := h2, toks := tk }) hob (by rw [List.length_map, sizeLine_eq]; omega) (fun h2' => Srt.pairs_sortable (s := { s with heap := h2, toks := tk }) (by omega) (fun v hv => ?_) fun o e => ?_) fun out hpm => ⟨.none, rfl, ?_⟩) (PyProof.Rows.args_list_sort _)
  · obtain ⟨b, hb, rfl⟩ := List.mem_map.mp hv
    obtain ⟨j, hj⟩ := List.mem_iff_getElem?.mp hb
    obtain ⟨e, t, u, he, hg⟩ := pr j b hj
    exact ⟨e.1, e.2, b, _, t, u, 0, rfl, ka _ _ hg, rfl, rfl⟩
  · have e' : some o = some (seqObj "list" (as.map Value.ref).toArray 0) := e.symm.trans hob
    cases e'
    intro c
    exact absurd (Value.type.inj c) (by decide)
  · show EP X pins σ Q (.ref h'.objs.size) { s with heap := sortedHeap h2 h'.objs.size (as.map Value.ref) out.toArray, toks := tk }
    -- the new order, of addresses with their pairs
    obtain ⟨zs, pz, ez⟩ := perm_lift (fun z : Addr × Nat × Int => Value.ref z.1) hpm (as.zip ds) (by
      rw [show (fun z : Addr × Nat × Int => Value.ref z.1) = Value.ref ∘ Prod.fst from rfl, ← List.map_map, List.map_fst_zip (by rw [lak]; exact Nat.le_refl _)])
    have idx : ∀ z ∈ zs, ∃ j : Nat, as[j]? = some z.1 ∧ ds[j]? = some z.2 := by
      intro z' hz'
      obtain ⟨j, hj⟩ := List.mem_iff_getElem?.mp (pz.mem_iff.mp hz')
      exact ⟨j, List.getElem?_zip_eq_some.mp hj⟩
    have hperm : (zs.map (·.2)).Perm ds := by
      have e := pz.map (·.2)
      have m2 : (as.zip ds).map (·.2) = ds := List.map_snd_zip (by rw [lak]; exact Nat.le_refl _)
      rw [m2] at e
      exact e
    have kF : ∀ b o, b ≠ h'.objs.size → h2.get? b = some o → (sortedHeap h2 h'.objs.size (as.map Value.ref) out.toArray).get? b = some o := fun b o hb e => (PyProof.Rows.sortedHeap_old hb (Heap.lt_size e)).trans e
    have kS : ∀ b o, s.heap.get? b = some o → (sortedHeap h2 h'.objs.size (as.map Value.ref) out.toArray).get? b = some o := fun b o e => kF b o (ne0 _ _ (hk b o e)) (kb b o e)
    obtain ⟨eF, heF⟩ := PyProof.Rows.sortedHeap_at (vs := as.map Value.ref) (out := out.toArray) hob
    have I1 : Inv X pins σ H { s with heap := sortedHeap h2 h'.objs.size (as.map Value.ref) out.toArray, toks := tk } := I.kept (t' := tk) kS
    have hn0 : H h'.objs.size = none := I.hok.fresh (Nat.le_of_lt hlt)
    have hlen : (zs.map fun z => V.ref z.1).length ≤ sizeLine := by
      have e := hperm.length_eq
      rw [List.length_map] at e
      rw [List.length_map, sizeLine_eq]
      omega
    have rv : Vals (zs.map fun z => V.ref z.1) out.toArray.toList := by
      rw [List.toList_toArray, ← ez]
      exact L2.vals_maps (fun z : Addr × Nat × Int => V.ref z.1) (fun z => Value.ref z.1) zs fun _ _ => rfl
    have I2 : Inv X pins σ (upd H h'.objs.size (.lst (zs.map fun z => V.ref z.1))) { s with heap := sortedHeap h2 h'.objs.size (as.map Value.ref) out.toArray, toks := tk } :=
      I1.take (h' := sortedHeap h2 h'.objs.size (as.map Value.ref) out.toArray) (t' := tk) (fun b ob _ e => e) (I.fpOk (Nat.le_of_lt hlt) hn0) ⟨hlen, out.toArray.toList, eF, rv, heF⟩
    obtain ⟨H2, I3, g, qt⟩ := L2.DX.takeT (P := fun b vs => ∃ (j : Nat) (e : Nat × Int), as[j]? = some b ∧ ds[j]? = some e ∧ vs = [.int e.1, .int e.2]) I as _ I2 nd fun b hb => by
      obtain ⟨j, hj⟩ := List.mem_iff_getElem?.mp hb
      obtain ⟨e, t, u, he, hg⟩ := pr j b hj
      have hbl : s.heap.objs.size ≤ b := Nat.le_of_lt (hG.above b hb)
      refine ⟨hbl, ?_, [.int e.1, .int e.2], ⟨j, e, hj, he, rfl⟩, fun H3 => ⟨(by rw [sizeLine_eq]; show 2 ≤ 16777216; omega), [Value.int e.1 t, Value.int e.2 u], .cons ⟨_, rfl⟩ (.cons ⟨_, rfl⟩ .nil), ⟨_, kF _ _ (ne0 _ _ hg) (ka _ _ hg), rfl, 0, rfl⟩⟩⟩
      rw [upd_ne (ne0 _ _ hg)]
      exact I.hok.fresh hbl
    have gr : Ex H H2 := fun b o e => g b o (by rw [upd_ne (ne_of_none e hn0)]; exact e)
    refine ⟨.ref h'.objs.size, H2, I3, rfl, q H2 h'.objs.size (zs.map (·.2)) gr hn0 hperm ⟨_, g _ _ upd_same, ?_⟩⟩
    have all : ∀ l : List (Addr × Nat × Int), (∀ z ∈ l, z ∈ zs) → RpL K H2 ((l.map (·.2)).map ePr) (l.map fun z => V.ref z.1) := by
      intro l
      induction l with
      | nil => intro _; exact .nil
      | cons z l ih =>
        intro hz
        obtain ⟨i, i1, i2⟩ := idx z (hz z List.mem_cons_self)
        obtain ⟨vs, ⟨j, e, j1, j2, ev⟩, hH⟩ := qt z.1 (List.mem_of_getElem? i1)
        have eij : i = j := (List.getElem?_inj (List.getElem?_eq_some_iff.mp i1).1 nd).mp (i1.trans j1.symm)
        subst eij
        have ee : e = z.2 := Option.some.inj (j2.symm.trans i2)
        rw [ev, ee] at hH
        exact .cons (.tup (st_of hH) (.cons (.int _) (.one (.int _)))) (ih fun z hz' => hz z (List.mem_cons_of_mem _ hz'))
    exact all zs fun _ h => h
end
end RF

set_option Elab.async false
set_option linter.all false
set_option maxRecDepth 100000
set_option maxHeartbeats 4000000
/-! list(reversed(list)) -/
namespace RFR
open PySem PySem.Spec PyProof.Rows L2 RT
section
variable {prog : Program} {w : World} {A : Around} {E : Value → Shared → Prop} {s : Shared}
theorem list_init_rev {R : Result → Shared → Prop} {it l S : Addr} {items : Array Value} (hh : A.handled = none) (hit : s.heap.IsRevIter it l ((items.size : Int) - 1)) (hl : s.heap.IsList l items) (hne : l ≠ it) (hn : items.size ≤ sizeLine) (hSi : S ≠ it) (hSl : S ≠ l)
    (hS : s.heap.get? S = some { cls := .type "list", data := .seq #[] })
    (hR : ∀ (h' : Heap) (tk : Nat) (acc : Array Value) (c' : Nat), (∀ b o, b ≠ it → b ≠ S → s.heap.get? b = some o → h'.get? b = some o) → h'.get? S = some { cls := .type "list", dict := none, data := .seq acc c', slots := #[] } →
      ItemsOf (fun i v => items[items.size - 1 - i]? = some v) acc items.size → R (.ok (.ret .none)) { s with heap := h', toks := tk }) :
    wpAny (model prog w) A.in1 (Builtin.«list.__init__» ⟨[.ref S, .ref it], []⟩)
      (fun fin s' => match fin with | .done f => R (.ok f) s' | .again c' => c'.quiet = true ∧ codeAny (model prog w) A c' R s') (fun e s' => R (.error e) s') s := by
  have W := (Walks.listRev (prog := prog) (w := w) (A := A.in1) hh it l hne items).toS
  have hSf : S ∉ [it, l] := by simp only [List.mem_cons, List.not_mem_nil, or_false, not_or]; exact ⟨hSi, hSl⟩
  show wpAny _ A.in1 (do let old ← Builtin.List.listItems (.ref S); Builtin.List.listUpdate (.ref S) (fun _ => #[]); letGo old.toList.reverse; Builtin.List.listExtendWith (.ref S) (.ref it) .none) _ _ s
  refine wpAny_bind ?_
  unfold Builtin.List.listItems
  refine wpAny_bind (wpAny_seqItems hS rfl (wpAny_pure ?_))
  show wpAny _ A.in1 (updateSeq S (fun _ => #[]) >>= fun _ => letGo (#[] : Array Value).toList.reverse >>= fun _ => Builtin.List.listExtendWith (.ref S) (.ref it) .none) _ _ s
  refine wpAny_bind (wpAny_updateSeq hS rfl ?_)
  have hS₂ := Heap.get?_update_self (Obj.mapSeq (fun _ => (#[] : Array Value))) hS rfl
  have oth : ∀ b o, b ≠ S → s.heap.get? b = some o → (s.heap.update S (Obj.mapSeq (fun _ => (#[] : Array Value)))).get? b = some o :=
    fun b o hb e => (Heap.get?_update_other _ _ (Ne.symm hb)).trans e
  refine wpAny_bind (wpAny_letGo ?_)
  have hit1 : (s.heap.update S (Obj.mapSeq (fun _ => (#[] : Array Value)))).IsRevIter it l ((items.size : Int) - 1) := hit.at fun o e => oth it o (Ne.symm hSi) e
  have hl1 : (s.heap.update S (Obj.mapSeq (fun _ => (#[] : Array Value)))).IsList l items := by
    obtain ⟨o, ho, r⟩ := hl
    exact ⟨o, oth l o (Ne.symm hSl) ho, r⟩
  generalize hg : (s.heap.update S (Obj.mapSeq (fun _ => (#[] : Array Value)))) = h1 at hit1 hl1 hS₂ oth
  have hT : ({ s with heap := h1 } : Shared).TypeIs (.ref it) "list_reverseiterator" := Heap.IsRevIter.typeIs (s := { s with heap := h1 }) hit1
  have hsr : Builtin.List.listSameRef (.ref S) (.ref it) = false := by simp [Builtin.List.listSameRef, hSi]
  unfold Builtin.List.listExtendWith
  refine wpAny_bind (wpAny_typeOf hT ?_)
  rw [if_neg (by rw [hsr]; decide)]
  refine wpAny_bind (wpAny_pyIter_revIter (s := { s with heap := h1 }) hit1 ?_)
  refine wpAny_bind (wpAny_holding ?_)
  unfold Builtin.List.listLengthHint
  refine wpAny_bind (wpAny_specialOf hT nolen_lri ?_)
  show wpAny _ A.in1 (specialOf (Value.ref it) (Str.ofString "__length_hint__") >>= _) _ _ _
  refine wpAny_bind (wpAny_specialOf hT hint_lri ?_)
  generalize hid : ("list_reverseiterator.__length_hint__" : String) = id0
  wp_delta
  rw [show splitId id0 = some ("list_reverseiterator", "__length_hint__") from by subst hid; decide +kernel]
  subst hid
  refine wpAny_bind (wpAny_isInstance (b := true) hT (by rw [isSubtype_type]; kernel_rfl) ?_)
  refine wpAny_pure ?_
  rw [if_neg (by decide)]
  have e0 : ((items.size : Nat) : Int) - 1 - ((0 : Nat) : Int) = (items.size : Int) - 1 := by omega
  refine wpAny_pure ⟨plainId_quiet F.plain_extend_loop _, codeAny_extend_loopS W hn _ hSf _ items.size 0 _ _ _ rfl (Nat.zero_le _) ⟨Nat.zero_le _, by rw [e0]; exact hit1, hl1⟩ hS₂ (ItemsOf.nil _) fun s' acc' c' hm hS' hacc => ?_⟩
  rw [Moved.eq_with hm]
  refine hR s'.heap s'.toks acc' c' (fun b o hb hbS e => hm.heap b o (fun hmem => ?_) (oth b o hbS e)) hS' hacc
  rcases List.mem_cons.mp hmem with e' | hmem
  · exact hbS e'
  · exact hb (List.mem_singleton.mp hmem)
theorem call_list_rev {it l : Addr} {items : Array Value} {Q : Value → Shared → Prop} (hh : A.handled = none) (hit : s.heap.IsRevIter it l ((items.size : Int) - 1)) (hl : s.heap.IsList l items) (hne : l ≠ it) (hn : items.size ≤ sizeLine)
    (hQ : ∀ (h' : Heap) (tk : Nat) (acc : Array Value) (c' : Nat), (∀ b o, b ≠ it → s.heap.get? b = some o → h'.get? b = some o) → h'.get? s.heap.objs.size = some { cls := .type "list", dict := none, data := .seq acc c', slots := #[] } →
      ItemsOf (fun i v => items[items.size - 1 - i]? = some v) acc items.size → Q (.ref s.heap.objs.size) { s with heap := h', toks := tk }) :
    wpAny (model prog w) A (call (.type "list") [.ref it]) Q E s := by
  obtain ⟨oi, hoi, _⟩ := id hit
  obtain ⟨ol, hol, _⟩ := id hl
  have hSi : s.heap.objs.size ≠ it := Nat.ne_of_gt (Heap.lt_size hoi)
  have hSl : s.heap.objs.size ≠ l := Nat.ne_of_gt (Heap.lt_size hol)
  refine callType_codes (Q₁ := fun obj s₁ => obj = .ref s.heap.objs.size ∧ s₁ = { s with heap := s.heap.push { cls := .type "list", data := .seq #[] } }) F.called_list (F.typeCall_list_1 _) F.entry_list_init
    (code_list_new _ ⟨rfl, rfl⟩) fun obj s₁ h₁ => ?_
  obtain ⟨rfl, rfl⟩ := h₁
  have hS : (s.heap.push { cls := .type "list", data := .seq #[] }).get? s.heap.objs.size = some { cls := .type "list", data := .seq #[] } := Heap.get?_push_size _ rfl
  refine ⟨⟨_, hS, rfl⟩, F.args_list_init_2 _ _, list_init_rev (A := A.in1) hh (hit.at fun o e => Heap.get?_push_of_some _ e) (hl.push _) hne hn hSi hSl hS fun h' tk acc c' hk hS' hacc => ?_⟩
  exact ⟨rfl, hQ h' tk acc c' (fun b o hb e => hk b o hb (fun z => absurd (Heap.lt_size e) (by rw [z]; exact Nat.lt_irrefl _)) (Heap.get?_push_of_some _ e)) hS' hacc⟩
end
/-- list(reversed(x)), x a list: a new list -/
def tListRev (K : PySem.W.Frag) (te : TE) : TE := fun σ H Q => te σ H fun v H1 => ∃ (a : Addr) (xs : List V), v = .ref a ∧ SqL K H1 a xs ∧ ∀ q H2, H1 q = none → Evl.Ex H1 H2 → H2 q = some (.lst xs.reverse) → Q (.ref q) H2
theorem pe_listRev {X : Cx} {K : PySem.W.Frag} (hK : X.K = K) {e : Expr} {te : TE} {p p2 pos pos2 : Pos} (hc : X.calm = true) (hg : Gl X "list") (hm : X.mg "list" = none) (hg2 : Gl X "reversed") (hm2 : X.mg "reversed" = none) (he : PE X e te)
    (hs : starEach [e] X.env = (false, eval e X.env) :: starEach [] X.env := by rfl)
    (hs2 : starEach [.Call (.Name "reversed" p2) [e] [] pos2] X.env = (false, eval (.Call (.Name "reversed" p2) [e] [] pos2) X.env) :: starEach [] X.env := by rfl) :
    PE X (.Call (.Name "list" p) [.Call (.Name "reversed" p2) [e] [] pos2] [] pos) (tListRev K te) := by
  subst hK
  refine ⟨fun pins s σ H Q I h => ?_⟩
  refine Call_ (ld_blt I hg hm PyProof.Rows.boot_list (PyProof.Rows.callWith_type1 (args_cons (Call_ (ld_blt I hg2 hm2 PyProof.Rows.boot_reversed (PyProof.Rows.callWith_type1 (args_cons (thn (he.run pins s σ H _ I h) fun u s1 ⟨v, H1, I1, r1, q1⟩ => args_nil ?_) hs) hs rfl))) hs2) hs2 rfl))
  obtain ⟨a, xs, ev, hq, q⟩ := q1
  subst ev
  obtain rfl : u = Value.ref a := r1
  obtain ⟨its, rv, p', hz⟩ := I1.list hq
  refine call_reversed_list p'.isList (args_nil ?_)
  have k0 : ∀ b o, s1.heap.get? b = some o → (s1.heap.push (revObj a ((its.toArray.size : Int) - 1))).get? b = some o := fun b o e => Heap.get?_push_of_some _ e
  have I2 : Inv X pins σ H1 { s1 with heap := s1.heap.push (revObj a ((its.toArray.size : Int) - 1)) } := I1.kept (t' := s1.toks) k0
  obtain ⟨f0, f1, f2, f3, f4, f5⟩ := I1.fpOk (H' := H1) (b := s1.heap.objs.size) (Nat.le_refl _) (I1.hok.fresh (Nat.le_refl _))
  have hl := p'.isList
  obtain ⟨ol, hol, _⟩ := id hl
  have hne : a ≠ s1.heap.objs.size := Nat.ne_of_lt (Heap.lt_size hol)
  have hn : its.toArray.size ≤ sizeLine := by rw [List.size_toArray, ← rv.length]; exact hz
  refine call_list_rev (s := { s1 with heap := s1.heap.push (revObj a ((its.toArray.size : Int) - 1)) }) (I1.ok.hd hc) ⟨_, Heap.get?_push_size _ rfl, rfl, rfl⟩ (hl.push _) hne hn fun h' tk acc c' hk hS hi => ?_
  have hsz : (s1.heap.push (revObj a ((its.toArray.size : Int) - 1))).objs.size = s1.heap.objs.size + 1 := Heap.size_push ..
  have hf1 : H1 (s1.heap.push (revObj a ((its.toArray.size : Int) - 1))).objs.size = none := I2.hok.fresh (Nat.le_refl _)
  have new : ObjOk X.prog X.w (upd H1 (s1.heap.push (revObj a ((its.toArray.size : Int) - 1))).objs.size (.lst xs.reverse)) h' (s1.heap.push (revObj a ((its.toArray.size : Int) - 1))).objs.size (.lst xs.reverse) :=
    ⟨by rw [List.length_reverse]; exact hz, acc.toList, c', vals_rev rv hi, by rw [Array.toArray_toList]; exact hS⟩
  have I3 := I2.turnedNew (h' := h') (t' := tk) (ch := [s1.heap.objs.size]) (fun b o hb e => hk b o (fun z => hb (by rw [z]; exact List.mem_cons_self)) e) (fun b hb => by
    have e : b = s1.heap.objs.size := List.mem_singleton.mp hb
    subst e
    exact I1.fpOk (H' := H1) (Nat.le_refl _) (I1.hok.fresh (Nat.le_refl _))) (Nat.le_refl _) new
  exact ⟨.ref (s1.heap.push (revObj a ((its.toArray.size : Int) - 1))).objs.size, _, I3, rfl, q _ _ hf1 (Evl.Ex.new hf1) upd_same⟩
end RFR

set_option Elab.async false
set_option linter.all false
set_option maxRecDepth 100000
set_option maxHeartbeats 4000000
namespace RF
open PySem PySem.Spec PyProof.Rows L2 Evl RM
theorem pgTup {X : Cx} {K : PySem.W.Frag} {pos : Pos} (hK : X.K = K) {es : List Expr} {k : Nat} {t : TGs} {n : Nat} (hc : X.calm = true) (h : PGs X es t)
    (hn : (assignEach es X.env).length = n := by rfl) (hst : (assignEach es X.env).findIdx? (·.1) = none := by rfl) : PG X (.Tuple es k pos) (gTup K n t) := by
  subst hK
  exact pg_tup hc h hn hst
theorem Vw.own_eq {k : Nat} {v : Vw (k + 1)} (h : v.wf) : ∃ w : Vw k, v.2[v.1]? = some (some w) ∧ Vw.own v = w ∧ w.wf := by
  obtain ⟨_, ⟨w, hw⟩, h3⟩ := h
  refine ⟨w, hw, ?_, h3 w (List.mem_of_getElem? hw)⟩
  unfold Vw.own
  rw [hw]
  rfl
theorem iter_succ (f : AV → AV) : ∀ n a, iter f (n + 1) a = f (iter f n a)
  | 0, _ => rfl
  | n + 1, a => iter_succ f n (f a)
theorem iter_lvl : ∀ i k (v : Vw k), i ≤ k → (iter down i ⟨k, v⟩).1 = k - i
  | 0, _, _, _ => rfl
  | i + 1, 0, _, h => absurd h (by omega)
  | i + 1, k + 1, v, h => by
    show (iter down i ⟨k, Vw.own v⟩).1 = _
    rw [iter_lvl i k _ (by omega)]
    omega
theorem iter_wf : ∀ i k (v : Vw k), v.wf → (iter down i ⟨k, v⟩).2.wf
  | 0, _, _, h => h
  | i + 1, 0, v, h => iter_wf i 0 v h
  | i + 1, k + 1, v, h => by
    obtain ⟨w, _, e, hw⟩ := Vw.own_eq h
    show (iter down i ⟨k, Vw.own v⟩).2.wf
    rw [e]
    exact iter_wf i k w hw
theorem ownPast_lvl {k : Nat} (v : Vw k) {j : Nat} (h : j ≤ k) : (ownPast ⟨k, v⟩ j).1 = j := by
  unfold ownPast
  rw [iter_lvl _ _ _ (by show k - j ≤ k; omega)]
  show k - (k - j) = j
  omega
theorem ownPast_lvl' {k : Nat} (v : Vw k) (j : Nat) : (ownPast ⟨k, v⟩ j).1 = min j k := by
  by_cases h : j ≤ k
  · rw [ownPast_lvl v h, Nat.min_eq_left h]
  · unfold ownPast
    have : k - j = 0 := by omega
    show (iter down (k - j) ⟨k, v⟩).1 = _
    rw [this, Nat.min_eq_right (by omega)]
    rfl
theorem ownPast_wf {k : Nat} (v : Vw k) (j : Nat) (h : v.wf) : (ownPast ⟨k, v⟩ j).2.wf := iter_wf _ _ _ h
section
variable {K : PySem.W.Frag} {H : Hp}
theorem v0_get {v : Vw 0} {x : V} (h : Rp K H (eV v) x) : ∃ a, x = .ref a ∧ SqT K H a [.int v.1, .int v.2] := by
  unfold eV at h
  obtain ⟨a, xs, rfl, h2, h3⟩ := Rp.tup_iff.mp h
  obtain ⟨x1, r1, rfl, g1, h3⟩ := RpL.cons_iff.mp h3
  obtain ⟨x2, r2, rfl, g2, h3⟩ := RpL.cons_iff.mp h3
  have e := RpL.nil_iff.mp h3
  subst e
  rw [Rp.int_iff.mp g1, Rp.int_iff.mp g2] at h2
  exact ⟨a, rfl, h2⟩
theorem v1_get {k : Nat} {v : Vw (k + 1)} {x : V} (h : Rp K H (eV v) x) : ∃ a b ys, x = .ref a ∧ SqT K H a [.int v.1, .ref b] ∧ SqT K H b ys ∧ RpL K H (lv v.2) ys := by
  unfold eV at h
  obtain ⟨a, xs, rfl, h2, h3⟩ := Rp.tup_iff.mp h
  obtain ⟨x1, r1, rfl, g1, h3⟩ := RpL.cons_iff.mp h3
  obtain ⟨x2, r2, rfl, g2, h3⟩ := RpL.cons_iff.mp h3
  have e := RpL.nil_iff.mp h3
  subst e
  obtain ⟨b, ys, rfl, q2, q3⟩ := Rp.tup_iff.mp g2
  rw [Rp.int_iff.mp g1] at h2
  exact ⟨a, b, ys, rfl, h2, q2, q3⟩
theorem lv_get {k : Nat} {l : List (Option (Vw k))} {ys : List V} {i : Nat} {o : Option (Vw k)} (h : RpL K H (lv l) ys) (e : l[i]? = some o) : ∃ y, ys[i]? = some y ∧ Rp K H (eO eV o) y :=
  h.get (by unfold lv; rw [List.getElem?_map, e]; rfl)
theorem lv_get' {k : Nat} {l : List (Option (Vw k))} {ys : List V} {i : Nat} {y : V} (h : RpL K H (lv l) ys) (e : ys[i]? = some y) : ∃ o, l[i]? = some o ∧ Rp K H (eO eV o) y := by
  obtain ⟨d, hd, rd⟩ := h.get' e
  unfold lv at hd
  rw [List.getElem?_map] at hd
  obtain ⟨f, hf2, rfl⟩ := Option.map_eq_some_iff.mp hd
  exact ⟨f, hf2, rd⟩
theorem lv_len {k : Nat} {l : List (Option (Vw k))} {ys : List V} (h : RpL K H (lv l) ys) : ys.length = l.length := by
  have := h.len
  unfold lv at this
  rw [List.length_map] at this
  exact this
theorem eV_ref {k : Nat} {v : Vw k} {x : V} (h : Rp K H (eV v) x) : ∃ a, x = .ref a := by
  cases k with
  | zero => obtain ⟨a, e, _⟩ := v0_get h; exact ⟨a, e⟩
  | succ k => obtain ⟨a, _, _, e, _⟩ := v1_get h; exact ⟨a, e⟩
end
section
variable {P : Program} {w : World} {K : PySem.W.Frag} {mg : Str → Option Value} {base : Heap}
def sp_rounds_of (K : PySem.W.Frag) : Sp := fun vs H Q _ => ∃ (k : Nat) (v : Vw k) (x : V), vs = [x] ∧ Rp K H (eV v) x ∧ v.wf ∧ Q (.int k) H
abbrev N_rounds_of : List Str := ["view", "many"]
theorem sc_rounds_of : FnScope N_rounds_of ["view"] (defScope s_rounds_of) := ⟨rfl, rfl, rfl, by decide +kernel, rfl, by decide +kernel, by decide +kernel⟩
theorem ok_rounds_of (T : Txt P w K mg base) : Ok P w K mg base "rounds_of" (0 + 1) ["view"] (sp_rounds_of K) := by
  refine Ok.of T.f_rounds_of sc_rounds_of (fun _ _ _ _ _ _ us hl => match us, hl with | [_], _ => rfl) (fun vs H Q E h => ?_) (fun f cdv A outer s H vs Q E hr h => ?_)
  · obtain ⟨k, v, x, rfl, hx, hw, kq⟩ := h
    rfl
  · obtain ⟨k, v, x, rfl, hx, hw, kq⟩ := h
    refine ⟨_, (pss_cons (ps_set (i := 1) sc_rounds_of.nd rfl (by first | exact Or.inl rfl | exact Or.inr rfl) pe_int)
 (pss_cons (ps_while PassesOwn.never (pt_val (pe_callB (cIsi (K := K) rfl) (by rfl) T.n_isinstance bt_isinstance (pa_cons (pe_ix (ixT (K := K) rfl) (pv 0) pe_int (fun _ _ => rfl)) (pa_cons (pe_bltn (v := .ty "tuple") (by rfl) T.n_tuple bt_tuple rfl) pa_nil))))
 (pss_cons (ps_set (i := 0) sc_rounds_of.nd rfl (by first | exact Or.inl rfl | exact Or.inr rfl) (pe_ix (ixT (K := K) rfl) (pe_ix (ixT (K := K) rfl) (pv 0) pe_int (fun _ _ => rfl)) (pe_ix (ixT (K := K) rfl) (pv 0) pe_int (fun _ _ => rfl)) (fun _ _ => rfl)))
 (pss_one (ps_set (i := 1) sc_rounds_of.nd rfl (by first | exact Or.inl rfl | exact Or.inr rfl) (pe_op op_add (pv 1) pe_int)))))
 (pss_one (ps_ret (pv 1))))), ?_⟩
    refine ⟨fun m σ H' => H' = H ∧ ∃ (v' : Vw m) (x' : V), σ = [some x', some (.int ((k - m : Nat) : Int))] ∧ Rp K H (eV v') x' ∧ v'.wf ∧ m ≤ k, ⟨k, rfl, v, x, by rw [Nat.sub_self]; rfl, hx, hw, Nat.le_refl _⟩, ?_⟩
    rintro m σ H' ⟨rfl, v', x', rfl, hx', hw', hm⟩
    cases m with
    | zero =>
      obtain ⟨a, rfl, g⟩ := v0_get hx'
      refine ⟨_, rfl, _, _, 1, _, rfl, rfl, g, atI_nat (j := 1) rfl, _, _, _, _, false, rfl, .ty _, .base (.int _), kit_ty (by decide +kernel), _, rfl, ?_⟩
      exact iteF ⟨_, rfl, kq⟩
    | succ m =>
      obtain ⟨a, b, ys, rfl, g1, g2, g3⟩ := v1_get hx'
      obtain ⟨w', e1, e2, e3⟩ := Vw.own_eq hw'
      obtain ⟨y, hy, ry⟩ := lv_get g3 e1
      refine ⟨_, rfl, _, _, 1, _, rfl, rfl, g1, atI_nat (j := 1) rfl, _, _, _, _, true, rfl, .ty _, tyx_tup g2, kit_ty (by decide +kernel), _, rfl, ?_⟩
      refine iteT ⟨fun σ' H2 => H2 = H' ∧ ∃ (v' : Vw m) (x' : V), σ' = [some x', some (.int ((k - m : Nat) : Int))] ∧ Rp K H' (eV v') x' ∧ v'.wf ∧ m ≤ k, fun σ' H2 q => ⟨m, Nat.lt_succ_self m, q⟩, ?_⟩
      refine ⟨_, rfl, _, _, 1, _, rfl, rfl, g1, atI_nat (j := 1) rfl, _, rfl, _, _, 0, _, rfl, rfl, g1, atI_nat (j := 0) rfl, _, _, v'.1, _, rfl, rfl, g2, atI_nat hy, ?_⟩
      refine ⟨_, rfl, _, _, rfl, rfl, rfl, w', y, ?_, ry, e3, by omega⟩
      have e : ((k - (m + 1) : Nat) : Int) + 1 = ((k - m : Nat) : Int) := by omega
      show [some y, some (V.int (((k - (m + 1) : Nat) : Int) + 1))] = _
      rw [e]
def sp_own_past (K : PySem.W.Frag) : Sp := fun vs H Q _ => ∃ (k : Nat) (v : Vw k) (r : Nat) (x : V), vs = [x, .int r] ∧ Rp K H (eV v) x ∧ v.wf ∧ k ≤ 1000 ∧ r ≤ 1000 ∧ ∀ y, Rp K H (eV (ownPast ⟨k, v⟩ r).2) y → Q y H
abbrev N_own_past : List Str := ["view", "rounds", "k"]
theorem sc_own_past : FnScope N_own_past ["view", "rounds"] (defScope s_own_past) := ⟨rfl, rfl, rfl, by decide +kernel, rfl, by decide +kernel, by decide +kernel⟩
theorem ok_own_past (T : Txt P w K mg base) : Ok P w K mg base "own_past" (1 + 1) ["view", "rounds"] (sp_own_past K) := by
  refine Ok.of T.f_own_past sc_own_past (fun _ _ _ _ _ _ us hl => match us, hl with | [_, _], _ => rfl) (fun vs H Q E h => ?_) (fun f cdv A outer s H vs Q E hr h => ?_)
  · obtain ⟨k, v, r, x, rfl, hx, hw, hk, hr5, kq⟩ := h
    rfl
  · obtain ⟨k, v, r, x, rfl, hx, hw, hk, hr5, kq⟩ := h
    refine ⟨_, (pss_cons (ps_for PassesOwn.never rfl (pi_range1 (by rfl) T.n_range (pa_cons (pe_op op_sub (pc (ok_rounds_of T) hr (pa_cons (pv 0) pa_nil)) (pv 1)) pa_nil)) (pg_name (i := 2) sc_own_past.nd rfl (by first | exact Or.inl rfl | exact Or.inr rfl))
 (pss_one (ps_set (i := 0) sc_own_past.nd rfl (by first | exact Or.inl rfl | exact Or.inr rfl) (pe_ix (ixT (K := K) rfl) (pe_ix (ixT (K := K) rfl) (pv 0) pe_int (fun _ _ => rfl)) (pe_ix (ixT (K := K) rfl) (pv 0) pe_int (fun _ _ => rfl)) (fun _ _ => rfl)))))
 (pss_one (ps_ret (pv 0)))), ?_⟩
    refine ⟨_, rfl, k, v, x, rfl, hx, hw, _, rfl, _, _, rfl, rfl, _, rfl, by omega, by omega, for_range (lo := 0) (n := ((k : Int) - r).toNat) (fun i σ H' => H' = H ∧ ∃ (x' : V) (o : Option V), σ = [some x', some (.int r), o] ∧ Rp K H (eV (iter down i ⟨k, v⟩).2) x') ⟨rfl, x, none, rfl, hx⟩ ?_ ?_⟩
    · rintro i σ H' hi ⟨rfl, x', o, rfl, hx'⟩
      have hl := iter_lvl i k v (by omega)
      have hwf := iter_wf i k v hw
      have es := iter_succ down i ⟨k, v⟩
      generalize iter down i ⟨k, v⟩ = a at hl hwf hx' es
      obtain ⟨m, va⟩ := a
      cases m with
      | zero => exact absurd hl (by show ¬ 0 = k - i; omega)
      | succ m =>
        obtain ⟨b, c, ys, rfl, g1, g2, g3⟩ := v1_get hx'
        obtain ⟨w', e1, e2, e3⟩ := Vw.own_eq hwf
        obtain ⟨y, hy, ry⟩ := lv_get g3 e1
        refine ⟨_, rfl, _, _, 1, _, rfl, rfl, g1, atI_nat (j := 1) rfl, _, rfl, _, _, 0, _, rfl, rfl, g1, atI_nat (j := 0) rfl, _, _, va.1, _, rfl, rfl, g2, atI_nat hy, ?_⟩
        refine ⟨rfl, y, _, rfl, ?_⟩
        rw [es]
        show Rp K H' (eV (Vw.own va)) y
        rw [e2]
        exact ry
    · rintro σ H' ⟨rfl, x', o, rfl, hx'⟩
      refine ⟨_, rfl, kq x' ?_⟩
      unfold ownPast
      have e : ((k : Int) - r).toNat = k - r := by omega
      rw [e] at hx'
      exact hx'
/-- the beginnings kept: each hand once, few -/
def BdB (d : List (Nat × Int)) : Prop := (d.map (·.1)).Nodup ∧ ∀ p ∈ d, p.1 < 5
theorem nodup_lt : ∀ (n : Nat) (l : List Nat), l.Nodup → (∀ x ∈ l, x < n) → l.length ≤ n
  | 0, l, _, h => by
    cases l with
    | nil => exact Nat.le_refl _
    | cons a t => exact absurd (h a List.mem_cons_self) (by omega)
  | n + 1, l, hd, h => by
    have h2 := nodup_lt n (l.erase n) (hd.erase n) (fun x hx => by
      obtain ⟨h1, h2⟩ := (hd.mem_erase_iff).mp hx
      have := h x h2
      omega)
    rw [List.length_erase] at h2
    split at h2 <;> omega
theorem BdB.len {d : List (Nat × Int)} (h : BdB d) : d.length ≤ 5 := by
  have := nodup_lt 5 _ h.1 (fun x hx => by
    obtain ⟨p, hp, rfl⟩ := List.mem_map.mp hx
    exact h.2 p hp)
  rwa [List.length_map] at this
theorem putB_map (d : List (Nat × Int)) (h : Nat) (n : Int) : (d.map (fun p => if p.1 = h then (p.1, n) else p)).map (·.1) = d.map (·.1) := by
  rw [List.map_map]
  refine List.map_congr_left fun p _ => ?_
  show (if p.1 = h then (p.1, n) else p).1 = p.1
  split <;> rfl
theorem BdB.put {d : List (Nat × Int)} (h : BdB d) {a : Nat} (n : Int) (ha : a < 5) : BdB (putB d a n) := by
  unfold putB
  split
  · refine ⟨by rw [putB_map]; exact h.1, fun p hp => ?_⟩
    obtain ⟨q, hq, rfl⟩ := List.mem_map.mp hp
    show (if q.1 = a then (q.1, n) else q).1 < 5
    split <;> exact h.2 q hq
  · rename_i hn
    refine ⟨?_, fun p hp => ?_⟩
    · rw [List.map_append, List.nodup_append]
      refine ⟨h.1, by simp, fun x hx y hy e => ?_⟩
      simp at hy
      subst hy
      subst e
      obtain ⟨p, hp, e⟩ := List.mem_map.mp hx
      exact hn (List.any_eq_true.mpr ⟨p, hp, by simpa using e⟩)
    · rcases List.mem_append.mp hp with q | q
      · exact h.2 p q
      · rw [List.mem_singleton.mp q]; exact ha
theorem gather_bd : ∀ {k : Nat} (v : Vw k) (d : List (Nat × Int)), v.wf → BdB d → BdB (gather v d)
  | 0, v, d, hw, h => h.put v.2 hw
  | k + 1, v, d, hw, h => by
    have key : ∀ (l : List (Option (Vw k))) (d : List (Nat × Int)), (∀ w, some w ∈ l → w.wf) → BdB d → BdB (l.foldl (fun d o => match o with
      | none => d
      | some w => gather w d) d) := by
      intro l
      induction l with
      | nil => intro d _ h; exact h
      | cons o l ih =>
        intro d hl h
        rw [List.foldl_cons]
        refine ih _ (fun w hw => hl w (List.mem_cons_of_mem _ hw)) ?_
        cases o with
        | none => exact h
        | some w => exact gather_bd w d (hl w List.mem_cons_self) h
    exact key v.2 d hw.2.2 h
theorem eB_put (d : List (Nat × Int)) (h : Nat) (n : Int) : putK (eB d) (Sum.inl (h : Int)) (V.int n) = eB (putB d h n) := by
  unfold putK putB eB
  have e1 : ((d.map fun p => ((Sum.inl (p.1 : Int) : Key), V.int p.2)).any fun kv => decide (kv.1 = Sum.inl (h : Int))) = d.any fun p => p.1 == h := by
    rw [List.any_map]
    congr 1
    funext p
    show decide ((Sum.inl (p.1 : Int) : Key) = Sum.inl (h : Int)) = (p.1 == h)
    by_cases e : p.1 = h
    · subst e; simp
    · rw [decide_eq_false (fun z => e (by injection z with z; omega))]
      simp [e]
  rw [e1]
  by_cases c : (d.any fun p => p.1 == h) = true
  · rw [if_pos c, if_pos c, List.map_map, List.map_map]
    refine List.map_congr_left fun p _ => ?_
    show (if (Sum.inl (p.1 : Int) : Key) = Sum.inl (h : Int) then _ else _) = _
    by_cases e : p.1 = h
    · subst e; simp
    · rw [if_neg (fun z => e (by injection z with z; omega))]
      simp [e]
  · rw [if_neg c, if_neg c, List.map_append]
    rfl
/-- gather at views of k rounds -/
def sp_gather (K : PySem.W.Frag) (k : Nat) : Sp := fun vs H Q _ => ∃ (v : Vw k) (d : List (Nat × Int)) (x : V) (p : Addr), vs = [x, .ref p] ∧ Rp K H (eV v) x ∧ v.wf ∧ BdB d ∧ H p = some (.dK (eB d)) ∧ Q .non (upd H p (.dK (eB (gather v d))))
theorem upd_twice {H : Hp} {p : Addr} {a b : HO} : upd (upd H p a) p b = upd H p b := by
  funext x
  by_cases e : x = p
  · subst e; rw [upd_same, upd_same]
  · rw [upd_ne e, upd_ne e, upd_ne e]
theorem upd_id {H : Hp} {p : Addr} {a : HO} (h : H p = some a) : upd H p a = H := by
  funext x
  by_cases e : x = p
  · subst e; rw [upd_same, h]
  · rw [upd_ne e]
abbrev N_gather : List Str := ["view", "found", "part"]
theorem sc_gather : FnScope N_gather ["view", "found"] (defScope s_gather) := ⟨rfl, rfl, rfl, by decide +kernel, rfl, by decide +kernel, by decide +kernel⟩
theorem ok_gather_0 (T : Txt P w K mg base) : Ok P w K mg base "gather" (0 + 1) ["view", "found"] (sp_gather K 0) := by
  refine Ok.of T.f_gather sc_gather (fun _ _ _ _ _ _ us hl => match us, hl with | [_, _], _ => rfl) (fun vs H Q E h => ?_) (fun f cdv A outer s H vs Q E hr h => ?_)
  · obtain ⟨v, d, x, p, rfl, hx, hw, hb, hp, kq⟩ := h
    rfl
  · obtain ⟨v, d, x, p, rfl, hx, hw, hb, hp, kq⟩ := h
    refine ⟨_, (pss_one (ps_if (pt_val (pe_callB (cIsi (K := K) rfl) (by rfl) T.n_isinstance bt_isinstance (pa_cons (pe_ix (ixT (K := K) rfl) (pv 0) pe_int (fun _ _ => rfl)) (pa_cons (pe_bltn (v := .ty "tuple") (by rfl) T.n_tuple bt_tuple rfl) pa_nil))))
 pss_never
 (pss_one (ps_dput (hu_of hr) (pv 1) (pe_ix (ixT (K := K) rfl) (pv 0) pe_int (fun _ _ => rfl)) (pe_ix (ixT (K := K) rfl) (pv 0) pe_int (fun _ _ => rfl)) rfl)))), ?_⟩
    obtain ⟨a, rfl, g⟩ := v0_get hx
    refine ⟨_, rfl, _, _, 1, _, rfl, rfl, g, atI_nat (j := 1) rfl, _, _, _, _, false, rfl, .ty _, .base (.int _), kit_ty (by decide +kernel), _, rfl, ?_⟩
    refine iteF ⟨_, rfl, _, _, 1, _, rfl, rfl, g, atI_nat (j := 1) rfl, _, rfl, _, rfl, _, _, 0, _, rfl, rfl, g, atI_nat (j := 0) rfl, _, _, rfl, DPut.k (k := Sum.inl (v.1 : Int)) hp ?_, ?_⟩
    · unfold eB; rw [List.length_map, sizeLine_eq]; have := hb.len; omega
    · rw [eB_put]; exact kq
theorem ok_gather_s (k : Nat) (ih : Ok P w K mg base "gather" (k + 1) ["view", "found"] (sp_gather K k)) (T : Txt P w K mg base) : Ok P w K mg base "gather" ((k + 1) + 1) ["view", "found"] (sp_gather K (k + 1)) := by
  refine Ok.of T.f_gather sc_gather (fun _ _ _ _ _ _ us hl => match us, hl with | [_, _], _ => rfl) (fun vs H Q E h => ?_) (fun f cdv A outer s H vs Q E hr h => ?_)
  · obtain ⟨v, d, x, p, rfl, hx, hw, hb, hp, kq⟩ := h
    rfl
  · obtain ⟨v, d, x, p, rfl, hx, hw, hb, hp, kq⟩ := h
    refine ⟨_, (pss_one (ps_if (pt_val (pe_callB (cIsi (K := K) rfl) (by rfl) T.n_isinstance bt_isinstance (pa_cons (pe_ix (ixT (K := K) rfl) (pv 0) pe_int (fun _ _ => rfl)) (pa_cons (pe_bltn (v := .ty "tuple") (by rfl) T.n_tuple bt_tuple rfl) pa_nil))))
 (pss_one (ps_for PassesOwn.never rfl (piT (K := K) rfl (pe_ix (ixT (K := K) rfl) (pv 0) pe_int (fun _ _ => rfl))) (pg_name (i := 2) sc_gather.nd rfl (by first | exact Or.inl rfl | exact Or.inr rfl))
 (pss_one (ps_if (pt_cmp (pc_notN (pv 2)))
 (pss_one (ps_expr (pc (ih) hr (pa_cons (pv 2) (pa_cons (pv 1) pa_nil)) (Nat.le_refl _))))
 pss_nil))))
 (pss_one (ps_dput (hu_of hr) (pv 1) (pe_ix (ixT (K := K) rfl) (pv 0) pe_int (fun _ _ => rfl)) (pe_ix (ixT (K := K) rfl) (pv 0) pe_int (fun _ _ => rfl)) rfl)))), ?_⟩
    obtain ⟨a, b, ys, rfl, g1, g2, g3⟩ := v1_get hx
    have gl := lv_len g3
    have ex : ∀ d', ExT H (upd H p (.dK (eB d'))) := fun d' => ExT.dk hp
    refine ⟨_, rfl, _, _, 1, _, rfl, rfl, g1, atI_nat (j := 1) rfl, _, _, _, _, true, rfl, .ty _, tyx_tup g2, kit_ty (by decide +kernel), _, rfl, ?_⟩
    refine iteT ⟨_, rfl, _, _, 1, _, rfl, rfl, g1, atI_nat (j := 1) rfl, b, rfl, ⟨_, g2⟩, for_tup (K := K) (a := b) (xs := ys) (fun i σ H' => ∃ (o : Option V) (d' : List (Nat × Int)), σ = [some (.ref a), some (.ref p), o] ∧ d' = (v.2.take i).foldl (fun d o => match o with
        | none => d
        | some w => gather w d) d ∧ BdB d' ∧ H' = upd H p (.dK (eB d'))) ⟨none, d, rfl, rfl, hb, (upd_id hp).symm⟩ ?_ ?_ ?_⟩
    · rintro i σ H' _ ⟨o, d', rfl, e, hb', rfl⟩
      exact (ex d').sqt g2
    · rintro i y σ H' hi ⟨o, d', rfl, e, hb', rfl⟩
      obtain ⟨f, hf, rf⟩ := lv_get' g3 hi
      have et : v.2.take (i + 1) = v.2.take i ++ [f] := by
        rw [List.take_succ, hf]; rfl
      cases f with
      | none =>
        have ey : y = .non := Rp.non_iff.mp rf
        subst ey
        refine ⟨_, rfl, _, rfl, iteF ⟨_, d', rfl, ?_, hb', rfl⟩⟩
        rw [et, List.foldl_append, ← e]
        rfl
      | some w' =>
        obtain ⟨c, rfl⟩ := eV_ref rf
        have hw' := hw.2.2 w' (List.mem_of_getElem? hf)
        refine ⟨_, rfl, _, rfl, iteT ⟨_, rfl, _, rfl, w', d', _, p, rfl, rf.upT (ex d'), hw', hb', upd_same, ?_⟩⟩
        refine ⟨_, gather w' d', rfl, ?_, gather_bd w' d' hw' hb', upd_twice⟩
        rw [et, List.foldl_append, ← e]
        rfl
    · rintro σ H' ⟨o, d', rfl, e, hb', rfl⟩
      rw [gl, List.take_length] at e
      have e2 : d' = gather v d := e
      rw [e2]
      exact kq
theorem ok_gather (T : Txt P w K mg base) : ∀ k, Ok P w K mg base "gather" (k + 1) ["view", "found"] (sp_gather K k)
  | 0 => ok_gather_0 T
  | k + 1 => ok_gather_s k (ok_gather T k) T
def sp_known (K : PySem.W.Frag) : Sp := fun vs H Q _ => ∃ (k : Nat) (v : Vw k) (x : V), vs = [x] ∧ Rp K H (eV v) x ∧ v.wf ∧ k ≤ 2 ∧ ∀ (l : Addr) (H' : Hp) (ps : List (Nat × Int)), H l = none → Ex H H' → ps.Perm (gather v []) → LD K H' l (ps.map ePr) → Q (.ref l) H'
abbrev N_known : List Str := ["view", "found"]
theorem sc_known : FnScope N_known ["view"] (defScope s_known) := ⟨rfl, rfl, rfl, by decide +kernel, rfl, by decide +kernel, by decide +kernel⟩
theorem ok_known (T : Txt P w K mg base) : Ok P w K mg base "known" (3 + 1) ["view"] (sp_known K) := by
  refine Ok.of T.f_known sc_known (fun _ _ _ _ _ _ us hl => match us, hl with | [_], _ => rfl) (fun vs H Q E h => ?_) (fun f cdv A outer s H vs Q E hr h => ?_)
  · obtain ⟨k, v, x, rfl, hx, hw, hk, kq⟩ := h
    rfl
  · obtain ⟨k, v, x, rfl, hx, hw, hk, kq⟩ := h
    refine ⟨_, (pss_cons (ps_set (i := 1) sc_known.nd rfl (by first | exact Or.inl rfl | exact Or.inr rfl) pe_dnewK)
 (pss_cons (ps_expr (pc (((ok_gather T k).up (show k + 1 ≤ 3 by omega))) hr (pa_cons (pv 0) (pa_cons (pv 1) pa_nil))))
 (pss_one (ps_ret (pe_callB (cr_sortedItemsK (K := K) rfl) (by rfl) T.n_sorted bt_sorted (pa_cons (pe_bm0 PySem.F.plainAttrs_dict PySem.F.slot_dict_items PySem.F.type_dict_items mt_itemsK (pv 1)) pa_nil)))))), ?_⟩
    intro p hp
    have e1 := Ex.new (o := .dK []) hp
    refine ⟨_, rfl, _, rfl, v, [], _, p, rfl, hx.up e1, hw, ⟨List.nodup_nil, fun _ h => absurd h List.not_mem_nil⟩, upd_same, ?_⟩
    rw [upd_twice]
    have e2 := Ex.new (o := .dK (eB (gather v []))) hp
    have hb := gather_bd v [] hw ⟨List.nodup_nil, fun _ h => absurd h List.not_mem_nil⟩
    refine ⟨_, rfl, .inr (.inr (.inl ⟨rfl, .inl ⟨_, upd_same⟩⟩)), p, _, rfl, rfl, upd_same, fun i H1 hi e3 g3 => ?_⟩
    refine ⟨i, p, gather v [], rfl, g3, e3 _ _ upd_same, by have := hb.len; omega, fun H2 l ps e4 hl pm hL => ?_⟩
    have e5 := (e2.trans e3).trans e4
    exact kq l H2 ps (fresh_back (e2.trans e3) hl) e5 pm hL
theorem minL_le : ∀ (l : List Int) (m : Int), m ∈ l → (∀ y ∈ l, m ≤ y) → minL l = m
  | [], m, h, _ => absurd h List.not_mem_nil
  | [a], m, h, _ => by simp at h; exact h.symm
  | a :: b :: l, m, h, hl => by
    show min a (minL (b :: l)) = m
    have key : ∀ (l : List Int) (a : Int), (∃ x ∈ a :: l, minL (a :: l) = x) ∧ ∀ x ∈ a :: l, minL (a :: l) ≤ x := by
      intro l
      induction l with
      | nil => intro a; exact ⟨⟨a, List.mem_cons_self, rfl⟩, fun x hx => by simp at hx; rw [hx]; exact Int.le_refl _⟩
      | cons b l ih =>
        intro a
        obtain ⟨⟨x, hx, e⟩, h2⟩ := ih b
        constructor
        · by_cases c : a ≤ minL (b :: l)
          · exact ⟨a, List.mem_cons_self, Int.min_eq_left c⟩
          · exact ⟨x, List.mem_cons_of_mem _ hx, (Int.min_eq_right (by omega)).trans e⟩
        · intro y hy
          rcases List.mem_cons.mp hy with q | q
          · rw [q]; exact Int.min_le_left _ _
          · exact Int.le_trans (Int.min_le_right _ _) (h2 y q)
    obtain ⟨⟨x, hx, e⟩, h2⟩ := key (b :: l) a
    have h3 := h2 m h
    have h4 := hl x hx
    have e' : min a (minL (b :: l)) = x := e
    have h3' : min a (minL (b :: l)) ≤ m := h3
    omega
theorem gather_ne : ∀ {k : Nat} (v : Vw k) (d : List (Nat × Int)), v.wf → 0 < (gather v d).length := by
  have hp : ∀ (d : List (Nat × Int)) a n, 0 < (putB d a n).length ∧ d.length ≤ (putB d a n).length := by
    intro d a n
    unfold putB
    split
    · rename_i h
      rw [List.length_map]
      refine ⟨?_, Nat.le_refl _⟩
      cases d with
      | nil => simp at h
      | cons => simp
    · simp
  have mono : ∀ {k : Nat} (v : Vw k) (d : List (Nat × Int)), d.length ≤ (gather v d).length := by
    intro k
    induction k with
    | zero => intro v d; exact (hp d _ _).2
    | succ k ih =>
      intro v d
      have key : ∀ (l : List (Option (Vw k))) (d : List (Nat × Int)), d.length ≤ (l.foldl (fun d o => match o with
        | none => d
        | some w => gather w d) d).length := by
        intro l
        induction l with
        | nil => intro d; exact Nat.le_refl _
        | cons o l ih2 =>
          intro d
          rw [List.foldl_cons]
          cases o with
          | none => exact ih2 d
          | some w => exact Nat.le_trans (ih w d) (ih2 _)
      exact key v.2 d
  intro k
  induction k with
  | zero => intro v d _; exact (hp d _ _).1
  | succ k ih =>
    intro v d hw
    obtain ⟨_, ⟨w, hv⟩, h3⟩ := hw
    have hm := List.mem_of_getElem? hv
    have key : ∀ (l : List (Option (Vw k))) (d : List (Nat × Int)), (some w ∈ l ∨ 0 < d.length) → 0 < (l.foldl (fun d o => match o with
      | none => d
      | some w => gather w d) d).length := by
      intro l
      induction l with
      | nil => intro d h; rcases h with h | h; exact absurd h List.not_mem_nil; exact h
      | cons o l ih2 =>
        intro d h
        rw [List.foldl_cons]
        refine ih2 _ ?_
        cases o with
        | none => rcases h with h | h; exact .inl (by simpa using h); exact .inr h
        | some u =>
          rcases h with h | h
          · rcases List.mem_cons.mp h with q | q
            · cases q
              exact .inr (ih w d (h3 w hm))
            · exact .inl q
          · exact .inr (Nat.lt_of_lt_of_le h (mono u d))
    exact key v.2 d (.inl hm)
theorem pr_get {K : PySem.W.Frag} {H : Hp} {p : Nat × Int} {x : V} (h : Rp K H (ePr p) x) : ∃ a, x = .ref a ∧ SqT K H a [.int p.1, .int p.2] := by
  unfold ePr at h
  obtain ⟨a, xs, rfl, h2, h3⟩ := Rp.tup_iff.mp h
  obtain ⟨x1, r1, rfl, g1, h3⟩ := RpL.cons_iff.mp h3
  obtain ⟨x2, r2, rfl, g2, h3⟩ := RpL.cons_iff.mp h3
  have e := RpL.nil_iff.mp h3
  subst e
  rw [Rp.int_iff.mp g1, Rp.int_iff.mp g2] at h2
  exact ⟨a, rfl, h2⟩
def sp_least_known (K : PySem.W.Frag) : Sp := fun vs H Q _ => ∃ (k : Nat) (v : Vw k) (x : V), vs = [x] ∧ Rp K H (eV v) x ∧ v.wf ∧ k ≤ 2 ∧ ∀ H', Ex H H' → Q (.int (least ⟨k, v⟩)) H'
abbrev N_least_known : List Str := ["view", "pair"]
theorem sc_least_known : FnScope N_least_known ["view"] (defScope s_least_known) := ⟨rfl, rfl, rfl, by decide +kernel, rfl, by decide +kernel, by decide +kernel⟩
theorem ok_least_known (T : Txt P w K mg base) : Ok P w K mg base "least_known" (4 + 1) ["view"] (sp_least_known K) := by
  refine Ok.of T.f_least_known sc_least_known (fun _ _ _ _ _ _ us hl => match us, hl with | [_], _ => rfl) (fun vs H Q E h => ?_) (fun f cdv A outer s H vs Q E hr h => ?_)
  · obtain ⟨k, v, x, rfl, hx, hw, hk, kq⟩ := h
    rfl
  · obtain ⟨k, v, x, rfl, hx, hw, hk, kq⟩ := h
    refine ⟨_, (pss_one (ps_ret (pe_callB (cMin (K := K) rfl rfl) (by rfl) T.n_min bt_min (pa_cons (pe_lc (own := [("pair", 1)]) rfl sc_least_known.nd (piL (K := K) rfl (pc (ok_known T) hr (pa_cons (pv 0) pa_nil))) (blkOk_by (N := N_least_known) (sc := defScope s_least_known) (own := [("pair", 1)]) (by decide +kernel)) (fun _ _ _ _ _ => (pg_name (i := 1) sc_least_known.nd rfl (by first | exact Or.inl rfl | exact Or.inr rfl))) (fun _ _ _ _ _ => pts_nil) (fun _ _ _ _ _ => (pe_ix (ixT (K := K) rfl) (pv 1) pe_int (fun _ _ => rfl)))) pa_nil)))), ?_⟩
    refine ⟨_, rfl, k, v, x, rfl, hx, hw, hk, fun l H1 ps hl e1 pm hL => ?_⟩
    obtain ⟨xs, px, rx⟩ := hL
    have lx : xs.length = ps.length := by have := rx.len; rwa [List.length_map] at this
    refine ⟨l, rfl, ⟨xs, SqL.of px⟩, fun Dl hD => ?_⟩
    refine lc_list (K := K) (a := l) (xs := xs) (fun i H' => Ex H1 H' ∧ H' Dl = some (.lst ((ps.take i).map fun p => V.int p.2))) ⟨Ex.new hD, upd_same⟩ (fun i H' _ ⟨e, _⟩ => SqL.of (e _ _ px)) (fun i y H' hi ⟨e2, g2⟩ => ?_) (fun H' ⟨e2, g2⟩ => ?_)
    · obtain ⟨d, hd, rd⟩ := rx.get' hi
      rw [List.getElem?_map] at hd
      obtain ⟨p, hp, rfl⟩ := Option.map_eq_some_iff.mp hd
      obtain ⟨b, rfl, g⟩ := pr_get (rd.up e2)
      have hl5 : ps.length ≤ 5 := by
        have := (gather_bd v [] hw ⟨List.nodup_nil, fun _ h => absurd h List.not_mem_nil⟩).len
        rw [pm.length_eq]; exact this
      refine ⟨rfl, _, rfl, _, _, 1, _, rfl, rfl, g, atI_nat (j := 1) rfl, _, g2, sz_lt (by rw [List.length_map, List.length_take]; omega), e2.mut hD, ?_⟩
      rw [upd_same, List.take_add_one, hp, List.map_append]
      rfl
    · rw [lx, List.take_length] at g2
      have eN : (ps.map fun p => V.int p.2) = (ps.map (·.2)).map V.int := by rw [List.map_map]; rfl
      rw [eN] at g2
      refine ⟨Dl, ps.map (·.2), rfl, SqL.of g2, ?_, fun m hm hmin => ?_⟩
      · rw [List.length_map, pm.length_eq]; exact gather_ne v [] hw
      · have e : least ⟨k, v⟩ = m := by
          unfold least
          refine minL_le _ m ?_ ?_
          · exact (pm.map (·.2)).mem_iff.mp hm
          · intro y hy
            exact hmin y ((pm.map (·.2)).mem_iff.mpr hy)
        rw [← e]
        exact kq H' (e1.trans e2)
def sp_heard_of (K : PySem.W.Frag) : Sp := fun vs H Q _ => ∃ (k : Nat) (v : Vw (k + 1)) (x : V), vs = [x] ∧ Rp K H (eV v) x ∧ v.wf ∧ ∀ H', Ex H H' → Q (.int (heard v)) H'
abbrev N_heard_of : List Str := ["view", "hand", "part"]
theorem sc_heard_of : FnScope N_heard_of ["view"] (defScope s_heard_of) := ⟨rfl, rfl, rfl, by decide +kernel, rfl, by decide +kernel, by decide +kernel⟩
theorem ok_heard_of (T : Txt P w K mg base) : Ok P w K mg base "heard_of" (1 + 1) ["view"] (sp_heard_of K) := by
  refine Ok.of T.f_heard_of sc_heard_of (fun _ _ _ _ _ _ us hl => match us, hl with | [_], _ => rfl) (fun vs H Q E h => ?_) (fun f cdv A outer s H vs Q E hr h => ?_)
  · obtain ⟨k, v, x, rfl, hx, hw, kq⟩ := h
    rfl
  · obtain ⟨k, v, x, rfl, hx, hw, kq⟩ := h
    refine ⟨_, (pss_one (ps_ret (pc (ok_mask_of T) hr (pa_cons (pe_lc (own := [("hand", 1), ("part", 2)]) rfl sc_heard_of.nd (RFE.pi_enumT (K := K) rfl (by rfl) T.n_enumerate (pa_cons (pe_ix (ixT (K := K) rfl) (pv 0) pe_int (fun _ _ => rfl)) pa_nil)) (blkOk_by (N := N_heard_of) (sc := defScope s_heard_of) (own := [("hand", 1), ("part", 2)]) (by decide +kernel)) (fun _ _ _ _ _ => (pgTup (K := K) (n := 2) rfl rfl (pgs_cons (pg_name (i := 1) sc_heard_of.nd rfl (by first | exact Or.inl rfl | exact Or.inr rfl)) (pgs_cons (pg_name (i := 2) sc_heard_of.nd rfl (by first | exact Or.inl rfl | exact Or.inr rfl)) pgs_nil)))) (fun _ _ _ _ _ => (pts_one (pt_cmp (pc_notN (pv 2))))) (fun _ _ _ _ _ => (pv 1))) pa_nil)))), ?_⟩
    obtain ⟨a, b, ys, rfl, g1, g2, g3⟩ := v1_get hx
    have gl := lv_len g3
    have h5 := hw.1
    refine ⟨_, rfl, _, _, 1, _, rfl, rfl, g1, atI_nat (j := 1) rfl, b, ys, rfl, g2, fun Dl hD => ?_⟩
    refine lc_it RFE.walk_enumT (fun i H' => Ex H H' ∧ H' Dl = some (.lst (((List.range i).filter fun j => ((v.2[j]?).getD none).isSome).map fun h => V.int (h : Nat)))) ⟨Ex.new hD, upd_same⟩ (fun i H' _ ⟨e, _⟩ => ex_t e g2) (fun i y H' H'' hi ⟨e1, p1⟩ hy => ?_) (fun H' ⟨e1, p1⟩ => ?_)
    · obtain ⟨T2, x1, x2, rfl, hT, rfl, e2, e3⟩ := hy
      have e2' : x1 = .int (i : Nat) := (Option.some.inj e2).symm
      subst e2'
      obtain ⟨f, hf, rf⟩ := lv_get' g3 e3
      have e4 := Ex.new (o := .tup [V.int (i : Nat), x2]) hT
      have neD : Dl ≠ T2 := ne_of_none p1 hT
      have eD : (upd H' T2 (.tup [V.int (i : Nat), x2])) Dl = some (.lst (((List.range i).filter fun j => ((v.2[j]?).getD none).isSome).map fun h => V.int (h : Nat))) := e4 _ _ p1
      refine ⟨T2, _, rfl, st_of upd_same, rfl, _, _, rfl, _, _, rfl, rfl, rfl, _, rfl, _, rfl, ?_⟩
      cases f with
      | none =>
        have ey : x2 = .non := Rp.non_iff.mp rf
        subst ey
        refine iteF ⟨e1.trans e4, ?_⟩
        rw [filter_range_succ, hf]
        simpa using eD
      | some w' =>
        obtain ⟨c, rfl⟩ := eV_ref rf
        refine iteT ⟨_, rfl, _, eD, sz_lt (by rw [List.length_map]; have := List.length_filter_le (fun j => ((v.2[j]?).getD none).isSome) (List.range i); rw [List.length_range] at this; omega), (e1.trans e4).mut hD, ?_⟩
        rw [upd_same, filter_range_succ, hf]
        simp
    · refine ⟨Dl, _, rfl, SqL.of (xs := ((List.range ys.length).filter fun j => ((v.2[j]?).getD none).isSome).map fun h => V.int (h : Nat)) p1, fun h hh => ?_, ?_⟩
      · have := List.mem_range.mp (List.mem_filter.mp hh).1
        omega
      · rw [gl]
        exact kq H' e1
def sp_is_clean (K : PySem.W.Frag) : Sp := fun vs H Q _ => ∃ (k : Nat) (v : Vw k) (x : V), vs = [x] ∧ Rp K H (eV v) x ∧ v.wf ∧ k ≤ 10 ∧ ∀ H', Ex H H' → Q (.bl (isClean ⟨k, v⟩)) H'
abbrev N_is_clean : List Str := ["view", "rounds"]
theorem sc_is_clean : FnScope N_is_clean ["view"] (defScope s_is_clean) := ⟨rfl, rfl, rfl, by decide +kernel, rfl, by decide +kernel, by decide +kernel⟩
theorem ok_is_clean (T : Txt P w K mg base) : Ok P w K mg base "is_clean" (2 + 1) ["view"] (sp_is_clean K) := by
  refine Ok.of T.f_is_clean sc_is_clean (fun _ _ _ _ _ _ us hl => match us, hl with | [_], _ => rfl) (fun vs H Q E h => ?_) (fun f cdv A outer s H vs Q E hr h => ?_)
  · obtain ⟨k, v, x, rfl, hx, hw, hk, kq⟩ := h
    rfl
  · obtain ⟨k, v, x, rfl, hx, hw, hk, kq⟩ := h
    refine ⟨_, (pss_cons (ps_set (i := 1) sc_is_clean.nd rfl (by first | exact Or.inl rfl | exact Or.inr rfl) (pc (ok_rounds_of T) hr (pa_cons (pv 0) pa_nil)))
 (pss_cons (ps_if (pt_cmpR op_eq (pv 1) pe_int (by first | rfl | exact nomark _))
 (pss_one (ps_ret pe_bl))
 pss_nil)
 (pss_cons (ps_if (pt_cmpR op_eq (pv 1) pe_int (by first | rfl | exact nomark _))
 (pss_one (ps_ret (pe_cmpR (opNoneNT (K := K) rfl hr.units) pe_non (pe_ix (ixT (K := K) rfl) (pv 0) pe_int (fun _ _ => rfl)) (by first | rfl | exact nomark _))))
 pss_nil)
 (pss_one (ps_ret (pe_cmpR op_eq (pc (ok_heard_of T) hr (pa_cons (pv 0) pa_nil)) (pc (ok_heard_of T) hr (pa_cons (pe_ix (ixT (K := K) rfl) (pe_ix (ixT (K := K) rfl) (pv 0) pe_int (fun _ _ => rfl)) (pe_ix (ixT (K := K) rfl) (pv 0) pe_int (fun _ _ => rfl)) (fun _ _ => rfl)) pa_nil)) (by first | rfl | exact nomark _))))))), ?_⟩
    refine ⟨_, rfl, k, v, x, rfl, hx, hw, _, rfl, ?_⟩
    match k, v, hx, hw, hk, kq with
    | 0, v, hx, hw, hk, kq => exact ⟨rfl, true, dt rfl, iteT (kq H (Ex.refl H))⟩
    | 1, v, hx, hw, hk, kq =>
      obtain ⟨a, b, ys, rfl, g1, g2, g3⟩ := v1_get hx
      refine ⟨rfl, false, df (by decide), iteF ⟨_, rfl, rfl, true, dt rfl, iteT ⟨_, rfl, _, _, 1, _, rfl, rfl, g1, atI_nat (j := 1) rfl, b, ys, lv v.2, rfl, rfl, g2, g3, ?_, ?_⟩⟩⟩
      · have : ∀ l : List (Option (Vw 0)), noSs (lv l) = true := by
          intro l
          induction l with
          | nil => rfl
          | cons o l ih =>
            show (noS (eO eV o) && noSs (lv l)) = true
            rw [ih]
            cases o <;> rfl
        exact this _
      · have : ∀ l : List (Option (Vw 0)), (!(lv l).any isNonD) = l.all (·.isSome) := by
          intro l
          induction l with
          | nil => rfl
          | cons o l ih =>
            show (!(isNonD (eO eV o) || (lv l).any isNonD)) = (o.isSome && l.all (·.isSome))
            rw [Bool.not_or, ih]
            cases o <;> rfl
        rw [this]
        exact kq H (Ex.refl H)
    | k + 2, v, hx, hw, hk, kq =>
      obtain ⟨a, b, ys, rfl, g1, g2, g3⟩ := v1_get hx
      obtain ⟨w', e1, e2, e3⟩ := Vw.own_eq hw
      obtain ⟨y, hy, ry⟩ := lv_get g3 e1
      refine ⟨rfl, false, df (by intro z; injection z with z; omega), iteF ⟨_, rfl, rfl, false, df (by intro z; injection z with z; omega), iteF ?_⟩⟩
      refine ⟨_, rfl, k + 1, v, _, rfl, hx, hw, fun H1 x1 => ?_⟩
      refine ⟨_, rfl, _, _, 1, _, rfl, rfl, ex_t x1 g1, atI_nat (j := 1) rfl, _, rfl, _, _, 0, _, rfl, rfl, ex_t x1 g1, atI_nat (j := 0) rfl, _, _, v.1, _, rfl, rfl, ex_t x1 g2, atI_nat hy, ?_⟩
      refine ⟨k, w', y, rfl, ry.up x1, e3, fun H2 x2 => ⟨rfl, ?_⟩⟩
      have e : decide (V.int (heard v : Int) = V.int (heard w' : Int)) = isClean ⟨k + 2, v⟩ := by
        rw [dint, ← e2]
        rfl
      show Q (.bl (decide (V.int (heard v : Int) = V.int (heard w' : Int)))) H2
      rw [e]
      exact kq H2 (x1.trans x2)
def sp_lacks_in (K : PySem.W.Frag) (k : Nat) : Sp := fun vs H Q _ => ∃ (v : Vw k) (r : Nat) (x : V), vs = [x, .int k, .int r] ∧ Rp K H (eV v) x ∧ v.wf ∧ ∀ H', Ex H H' → Q (.int (lacks v r)) H'
abbrev N_lacks_in : List Str := ["view", "deep", "rounds", "mask", "hand", "part"]
theorem sc_lacks_in : FnScope N_lacks_in ["view", "deep", "rounds"] (defScope s_lacks_in) := ⟨rfl, rfl, rfl, by decide +kernel, rfl, by decide +kernel, by decide +kernel⟩
theorem ok_lacks_0 (T : Txt P w K mg base) : Ok P w K mg base "lacks_in" (1 + 1) ["view", "deep", "rounds"] (sp_lacks_in K 0) := by
  refine Ok.of T.f_lacks_in sc_lacks_in (fun _ _ _ _ _ _ us hl => match us, hl with | [_, _, _], _ => rfl) (fun vs H Q E h => ?_) (fun f cdv A outer s H vs Q E hr h => ?_)
  · obtain ⟨v, r, x, rfl, hx, hw, kq⟩ := h
    rfl
  · obtain ⟨v, r, x, rfl, hx, hw, kq⟩ := h
    refine ⟨_, (pss_cons (ps_if (pt_cmpR op_eq (pv 1) pe_int (by first | rfl | exact nomark _))
 (pss_one (ps_ret pe_int))
 pss_nil)
 (pss_cons (ps_set (i := 3) sc_lacks_in.nd rfl (by first | exact Or.inl rfl | exact Or.inr rfl) pe_int)
 (pss_cons ps_never
 (pss_one (ps_ret (pv 3)))))), ?_⟩
    exact ⟨_, rfl, rfl, true, dt rfl, iteT (kq H (Ex.refl H))⟩
theorem ok_lacks_s (k : Nat) (ih : Ok P w K mg base "lacks_in" (k + 1 + 1) ["view", "deep", "rounds"] (sp_lacks_in K k)) (T : Txt P w K mg base) : Ok P w K mg base "lacks_in" ((k + 1 + 1) + 1) ["view", "deep", "rounds"] (sp_lacks_in K (k + 1)) := by
  refine Ok.of T.f_lacks_in sc_lacks_in (fun _ _ _ _ _ _ us hl => match us, hl with | [_, _, _], _ => rfl) (fun vs H Q E h => ?_) (fun f cdv A outer s H vs Q E hr h => ?_)
  · obtain ⟨v, r, x, rfl, hx, hw, kq⟩ := h
    rfl
  · obtain ⟨v, r, x, rfl, hx, hw, kq⟩ := h
    refine ⟨_, (pss_cons (ps_if (pt_cmpR op_eq (pv 1) pe_int (by first | rfl | exact nomark _))
 (pss_one (ps_ret pe_int))
 pss_nil)
 (pss_cons (ps_set (i := 3) sc_lacks_in.nd rfl (by first | exact Or.inl rfl | exact Or.inr rfl) pe_int)
 (pss_cons (ps_for PassesOwn.never rfl (RFE.pi_enumT (K := K) rfl (by rfl) T.n_enumerate (pa_cons (pe_ix (ixT (K := K) rfl) (pv 0) pe_int (fun _ _ => rfl)) pa_nil)) (pgTup (K := K) (n := 2) rfl rfl (pgs_cons (pg_name (i := 4) sc_lacks_in.nd rfl (by first | exact Or.inl rfl | exact Or.inr rfl)) (pgs_cons (pg_name (i := 5) sc_lacks_in.nd rfl (by first | exact Or.inl rfl | exact Or.inr rfl)) pgs_nil)))
 (pss_one (ps_if (pt_cmp (pc_notN (pv 5)))
 (pss_one (ps_set (i := 3) sc_lacks_in.nd rfl (by first | exact Or.inl rfl | exact Or.inr rfl) (pe_op op_or (pv 3) (pc (ih) hr (pa_cons (pv 5) (pa_cons (pe_op op_sub (pv 1) pe_int) (pa_cons (pv 2) pa_nil))) (Nat.le_refl _)))))
 (pss_one (ps_if (pt_cmpR op_le (pv 1) (pv 2) (by first | rfl | exact nomark _))
 (pss_one (ps_set (i := 3) sc_lacks_in.nd rfl (by first | exact Or.inl rfl | exact Or.inr rfl) (pe_op op_or (pv 3) (pc (ok_mask_of T) hr (pa_cons (peLst (pa_cons (pv 4) pa_nil)) pa_nil) (by omega)))))
 pss_nil)))))
 (pss_one (ps_ret (pv 3)))))), ?_⟩
    obtain ⟨a, b, ys, rfl, g1, g2, g3⟩ := v1_get hx
    have gl := lv_len g3
    have h5 := hw.1
    refine ⟨_, rfl, rfl, false, df (by intro z; injection z with z; omega), iteF ?_⟩
    refine ⟨_, rfl, _, _, 1, _, rfl, rfl, g1, atI_nat (j := 1) rfl, b, ys, rfl, g2, ?_⟩
    refine for_it RFE.walk_enumT (fun i σ H' => Ex H H' ∧ ∃ (o1 o2 : Option V), σ = [some (.ref a), some (.int ((k + 1 : Nat) : Int)), some (.int r), some (.int (((List.range i).foldl (fun m i => match (v.2[i]?).getD none with
        | some w => m ||| lacks w r
        | none => if k + 1 ≤ r then m ||| maskOf [i] else m) 0 : Nat) : Int)), o1, o2]) ⟨Ex.refl H, none, none, rfl⟩ (fun i σ H' _ ⟨e, _⟩ => ex_t e g2) ?_ ?_
    · rintro i y σ H' H'' hi ⟨e1, o1, o2, rfl⟩ hy
      obtain ⟨T2, x1, x2, rfl, hT, rfl, e2, e3⟩ := hy
      have e2' : x1 = .int (i : Nat) := (Option.some.inj e2).symm
      subst e2'
      obtain ⟨f, hf, rf⟩ := lv_get' g3 e3
      have e4 := Ex.new (o := .tup [V.int (i : Nat), x2]) hT
      refine ⟨T2, _, rfl, st_of upd_same, rfl, _, _, rfl, _, _, rfl, rfl, _, rfl, _, rfl, ?_⟩
      rw [List.range_succ, List.foldl_append, List.foldl_cons, List.foldl_nil, hf, Option.getD_some]
      generalize (List.range i).foldl _ 0 = m
      cases f with
      | none =>
        have ey : x2 = .non := Rp.non_iff.mp rf
        subst ey
        refine iteF ⟨_, rfl, _, rfl, _, _, rfl, rfl, ?_⟩
        by_cases c : k + 1 ≤ r
        · refine ⟨true, dt (by omega), iteT ⟨_, rfl, _, rfl, by show 1 ≤ 1000; decide, fun l H2 hl e5 gl2 => ⟨l, [i], rfl, SqL.of gl2, fun h hh => by rw [List.mem_singleton.mp hh]; omega, ?_⟩⟩⟩
          rw [if_pos c]
          refine ⟨_, _, rfl, rfl, (e1.trans e4).trans e5, some (.int (i : Nat)), some .non, ?_⟩
          show [some (V.ref a), some (V.int ((k + 1 : Nat) : Int)), some (V.int r), some (V.int (Builtin.bitOr (m : Int) (maskOf [i] : Int))), some (V.int (i : Nat)), some V.non] = _
          rw [bitOr_nat]
        · refine ⟨false, df (by omega), iteF ?_⟩
          rw [if_neg c]
          exact ⟨e1.trans e4, _, _, rfl⟩
      | some w' =>
        obtain ⟨c, rfl⟩ := eV_ref rf
        have hw' := hw.2.2 w' (List.mem_of_getElem? hf)
        refine iteT ⟨_, rfl, _, rfl, _, rfl, _, _, rfl, rfl, _, rfl, w', r, _, ?_, rf.up (e1.trans e4), hw', fun H2 e5 => ?_⟩
        · have : ((k + 1 : Nat) : Int) - 1 = (k : Int) := by omega
          show [V.ref c, V.int (((k + 1 : Nat) : Int) - 1), V.int r] = _
          rw [this]
        refine ⟨_, _, rfl, rfl, (e1.trans e4).trans e5, some (.int (i : Nat)), some (.ref c), ?_⟩
        show [some (V.ref a), some (V.int ((k + 1 : Nat) : Int)), some (V.int r), some (V.int (Builtin.bitOr (m : Int) (lacks w' r : Int))), some (V.int (i : Nat)), some (V.ref c)] = _
        rw [bitOr_nat]
    · rintro σ H' ⟨e1, o1, o2, rfl⟩
      rw [gl]
      exact ⟨_, rfl, kq H' e1⟩
theorem ok_lacks (T : Txt P w K mg base) : ∀ k, Ok P w K mg base "lacks_in" (k + 1 + 1) ["view", "deep", "rounds"] (sp_lacks_in K k)
  | 0 => ok_lacks_0 T
  | k + 1 => ok_lacks_s k (ok_lacks T k) T
def sp_lacking (K : PySem.W.Frag) : Sp := fun vs H Q _ => ∃ (k : Nat) (v : Vw k) (r : Nat) (x : V), vs = [x, .int r] ∧ Rp K H (eV v) x ∧ v.wf ∧ k ≤ 2 ∧ ∀ H', Ex H H' → Q (.int (lacking ⟨k, v⟩ r)) H'
abbrev N_lacking : List Str := ["view", "rounds"]
theorem sc_lacking : FnScope N_lacking ["view", "rounds"] (defScope s_lacking) := ⟨rfl, rfl, rfl, by decide +kernel, rfl, by decide +kernel, by decide +kernel⟩
theorem ok_lacking (T : Txt P w K mg base) : Ok P w K mg base "lacking" (4 + 1) ["view", "rounds"] (sp_lacking K) := by
  refine Ok.of T.f_lacking sc_lacking (fun _ _ _ _ _ _ us hl => match us, hl with | [_, _], _ => rfl) (fun vs H Q E h => ?_) (fun f cdv A outer s H vs Q E hr h => ?_)
  · obtain ⟨k, v, r, x, rfl, hx, hw, hk, kq⟩ := h
    rfl
  · obtain ⟨k, v, r, x, rfl, hx, hw, hk, kq⟩ := h
    refine ⟨_, (pss_one (ps_ret (pc (((ok_lacks T k).up (show k + 1 + 1 ≤ 4 by omega))) hr (pa_cons (pv 0) (pa_cons (pc (ok_rounds_of T) hr (pa_cons (pv 0) pa_nil)) (pa_cons (pv 1) pa_nil)))))), ?_⟩
    exact ⟨_, rfl, _, rfl, k, v, x, rfl, hx, hw, _, rfl, v, r, x, rfl, hx, hw, kq⟩
end
end RF

set_option Elab.async false
set_option linter.all false
set_option maxRecDepth 100000
set_option maxHeartbeats 4000000
namespace RF
open PySem PySem.Spec PyProof.Rows L2 Evl RM
def oi : Option Int → V
  | none => .non
  | some n => .int n
theorem rule_plain {k : Nat} (b : Nat) (v : Vw k) : RM.rule .plain b ⟨k, v⟩ = if b < k then some (least ⟨k, v⟩) else none := rfl
theorem rule_soon {k : Nat} (b : Nat) (v : Vw k) : RM.rule .soon b ⟨k, v⟩ = if b < k ∨ isClean ⟨k, v⟩ = true then some (least ⟨k, v⟩) else none := rfl
theorem rule_sure {k : Nat} (b : Nat) (v : Vw k) : RM.rule .sure b ⟨k, v⟩ = if b < k ∨ ((List.range (k - 1)).any fun i => isClean (ownPast ⟨k, v⟩ (i + 1))) = true then some (least ⟨k, v⟩) else none := rfl
theorem rule_together {k : Nat} (b : Nat) (v : Vw k) : RM.rule .together b ⟨k, v⟩ = if b < k + wasteSeen ⟨k, v⟩ then some (least ⟨k, v⟩) else none := rfl
section
variable {P : Program} {w : World} {K : PySem.W.Frag} {mg : Str → Option Value} {base : Heap}
def sp_plain (K : PySem.W.Frag) : Sp := fun vs H Q _ => ∃ (k : Nat) (v : Vw k) (b : Nat) (x : V), vs = [x, .int b] ∧ Rp K H (eV v) x ∧ v.wf ∧ k ≤ 2 ∧ ∀ H', Ex H H' → Q (oi (RM.rule .plain b ⟨k, v⟩)) H'
abbrev N_plain : List Str := ["view", "bound"]
theorem sc_plain : FnScope N_plain ["view", "bound"] (defScope s_plain) := ⟨rfl, rfl, rfl, by decide +kernel, rfl, by decide +kernel, by decide +kernel⟩
theorem ok_plain (T : Txt P w K mg base) : Ok P w K mg base "plain" (5 + 1) ["view", "bound"] (sp_plain K) := by
  refine Ok.of T.f_plain sc_plain (fun _ _ _ _ _ _ us hl => match us, hl with | [_, _], _ => rfl) (fun vs H Q E h => ?_) (fun f cdv A outer s H vs Q E hr h => ?_)
  · obtain ⟨k, v, b, x, rfl, hx, hw, hk, kq⟩ := h
    rfl
  · obtain ⟨k, v, b, x, rfl, hx, hw, hk, kq⟩ := h
    refine ⟨_, (pss_cons (ps_if (pt_cmpR op_gt (pc (ok_rounds_of T) hr (pa_cons (pv 0) pa_nil)) (pv 1) (by first | rfl | exact nomark _))
 (pss_one (ps_ret (pc (ok_least_known T) hr (pa_cons (pv 0) pa_nil))))
 pss_nil)
 (pss_one (ps_ret pe_non))), ?_⟩
    refine ⟨_, rfl, k, v, x, rfl, hx, hw, _, rfl, _, _, rfl, rfl, ?_⟩
    rw [rule_plain] at kq
    by_cases c : b < k
    · rw [if_pos c] at kq
      exact ⟨true, dt (by omega), iteT ⟨_, rfl, k, v, x, rfl, hx, hw, hk, kq⟩⟩
    · rw [if_neg c] at kq
      exact ⟨false, df (by omega), iteF (kq H (Ex.refl H))⟩
def sp_soon (K : PySem.W.Frag) : Sp := fun vs H Q _ => ∃ (k : Nat) (v : Vw k) (b : Nat) (x : V), vs = [x, .int b] ∧ Rp K H (eV v) x ∧ v.wf ∧ k ≤ 2 ∧ ∀ H', Ex H H' → Q (oi (RM.rule .soon b ⟨k, v⟩)) H'
abbrev N_soon : List Str := ["view", "bound"]
theorem sc_soon : FnScope N_soon ["view", "bound"] (defScope s_soon) := ⟨rfl, rfl, rfl, by decide +kernel, rfl, by decide +kernel, by decide +kernel⟩
theorem ok_soon (T : Txt P w K mg base) : Ok P w K mg base "soon" (5 + 1) ["view", "bound"] (sp_soon K) := by
  refine Ok.of T.f_soon sc_soon (fun _ _ _ _ _ _ us hl => match us, hl with | [_, _], _ => rfl) (fun vs H Q E h => ?_) (fun f cdv A outer s H vs Q E hr h => ?_)
  · obtain ⟨k, v, b, x, rfl, hx, hw, hk, kq⟩ := h
    rfl
  · obtain ⟨k, v, b, x, rfl, hx, hw, hk, kq⟩ := h
    refine ⟨_, (pss_cons (ps_if (PW.pt (pw_or (pt_cmpR op_gt (pc (ok_rounds_of T) hr (pa_cons (pv 0) pa_nil)) (pv 1) (by first | rfl | exact nomark _)) (pw_or1 (pt_val (pc (ok_is_clean T) hr (pa_cons (pv 0) pa_nil))))))
 (pss_one (ps_ret (pc (ok_least_known T) hr (pa_cons (pv 0) pa_nil))))
 pss_nil)
 (pss_one (ps_ret pe_non))), ?_⟩
    refine ⟨_, rfl, k, v, x, rfl, hx, hw, _, rfl, _, _, rfl, rfl, ?_⟩
    rw [rule_soon] at kq
    by_cases c : b < k
    · rw [if_pos (.inl c)] at kq
      exact ⟨true, dt (by omega), iteT (iteT ⟨_, rfl, k, v, x, rfl, hx, hw, hk, kq⟩)⟩
    · refine ⟨false, df (by omega), iteF ⟨_, rfl, k, v, x, rfl, hx, hw, by omega, fun H1 e1 => ⟨_, rfl, ?_⟩⟩⟩
      by_cases d : isClean ⟨k, v⟩ = true
      · rw [if_pos (.inr d)] at kq
        exact ifT d ⟨_, rfl, k, v, x, rfl, hx.up e1, hw, hk, fun H2 e2 => kq H2 (e1.trans e2)⟩
      · rw [if_neg (fun z => z.elim c d)] at kq
        exact ifF (by simpa using d) (kq H1 e1)
def sp_sure (K : PySem.W.Frag) : Sp := fun vs H Q _ => ∃ (k : Nat) (v : Vw k) (b : Nat) (x : V), vs = [x, .int b] ∧ Rp K H (eV v) x ∧ v.wf ∧ k ≤ 2 ∧ ∀ H', Ex H H' → Q (oi (RM.rule .sure b ⟨k, v⟩)) H'
abbrev N_sure : List Str := ["view", "bound", "k"]
theorem sc_sure : FnScope N_sure ["view", "bound"] (defScope s_sure) := ⟨rfl, rfl, rfl, by decide +kernel, rfl, by decide +kernel, by decide +kernel⟩
theorem ok_sure (T : Txt P w K mg base) : Ok P w K mg base "sure" (5 + 1) ["view", "bound"] (sp_sure K) := by
  refine Ok.of T.f_sure sc_sure (fun _ _ _ _ _ _ us hl => match us, hl with | [_, _], _ => rfl) (fun vs H Q E h => ?_) (fun f cdv A outer s H vs Q E hr h => ?_)
  · obtain ⟨k, v, b, x, rfl, hx, hw, hk, kq⟩ := h
    rfl
  · obtain ⟨k, v, b, x, rfl, hx, hw, hk, kq⟩ := h
    refine ⟨_, (pss_cons (ps_if (pt_cmpR op_gt (pc (ok_rounds_of T) hr (pa_cons (pv 0) pa_nil)) (pv 1) (by first | rfl | exact nomark _))
 (pss_one (ps_ret (pc (ok_least_known T) hr (pa_cons (pv 0) pa_nil))))
 pss_nil)
 (pss_cons (ps_for PassesOwn.never rfl (pi_range2 (by rfl) T.n_range (pa_cons pe_int (pa_cons (pc (ok_rounds_of T) hr (pa_cons (pv 0) pa_nil)) pa_nil))) (pg_name (i := 2) sc_sure.nd rfl (by first | exact Or.inl rfl | exact Or.inr rfl))
 (pss_one (ps_if (pt_val (pc (ok_is_clean T) hr (pa_cons (pc (ok_own_past T) hr (pa_cons (pv 0) (pa_cons (pv 2) pa_nil))) pa_nil)))
 (pss_one (ps_ret (pc (ok_least_known T) hr (pa_cons (pv 0) pa_nil))))
 pss_nil)))
 (pss_one (ps_ret pe_non)))), ?_⟩
    refine ⟨_, rfl, k, v, x, rfl, hx, hw, _, rfl, _, _, rfl, rfl, ?_⟩
    rw [rule_sure] at kq
    by_cases c : b < k
    · rw [if_pos (.inl c)] at kq
      exact ⟨true, dt (by omega), iteT ⟨_, rfl, k, v, x, rfl, hx, hw, hk, kq⟩⟩
    · refine ⟨false, df (by omega), iteF ⟨_, rfl, k, v, x, rfl, hx, hw, 1, _, rfl, ⟨by omega, by omega, by omega, by omega⟩, for_range (lo := 1) (n := ((k : Int) - 1).toNat) (fun i σ H' => Ex H H' ∧ (∃ o, σ = [some x, some (.int b), o]) ∧ ∀ j < i, isClean (ownPast ⟨k, v⟩ (j + 1)) = false) ⟨Ex.refl H, ⟨none, rfl⟩, fun j hj => absurd hj (by omega)⟩ ?_ ?_⟩⟩
      · rintro i σ H' hi ⟨e1, ⟨o, rfl⟩, hc⟩
        have hl := ownPast_lvl v (j := i + 1) (by omega)
        have hwf := ownPast_wf v (i + 1) hw
        refine ⟨_, rfl, _, rfl, k, v, i + 1, x, ?_, hx.up e1, hw, by omega, by omega, fun y ry => ?_⟩
        · have : (1 : Int) + (i : Int) = ((i + 1 : Nat) : Int) := by omega
          show [x, V.int (1 + (i : Int))] = _
          rw [this]
        have hcm : ∀ a : AV, ownPast ⟨k, v⟩ (i + 1) = a → ∃ (k' : Nat) (v' : Vw k'), ownPast ⟨k, v⟩ (i + 1) = ⟨k', v'⟩ := fun a _ => ⟨(ownPast ⟨k, v⟩ (i + 1)).1, (ownPast ⟨k, v⟩ (i + 1)).2, rfl⟩
        obtain ⟨k', v', ea⟩ := hcm _ rfl
        rw [ea] at hl hwf ry
        have hl' : k' = i + 1 := hl
        refine ⟨k', v', y, rfl, ry, hwf, by omega, fun H1 e2 => ⟨_, rfl, ?_⟩⟩
        by_cases d : isClean ⟨k', v'⟩ = true
        · rw [if_pos (.inr (List.any_eq_true.mpr ⟨i, List.mem_range.mpr (show i < k - 1 by omega), by rw [ea]; exact d⟩))] at kq
          exact ifT d ⟨_, rfl, k, v, x, rfl, (hx.up e1).up e2, hw, hk, fun H2 e3 => kq H2 ((e1.trans e2).trans e3)⟩
        · refine ifF (by simpa using d) ⟨e1.trans e2, ⟨some (.int (1 + (i : Int))), rfl⟩, fun j hj => ?_⟩
          by_cases q : j < i
          · exact hc j q
          · have : j = i := by omega
            subst this
            rw [ea]
            simpa using d
      · rintro σ H' ⟨e1, ⟨o, rfl⟩, hc⟩
        rw [if_neg (fun z => z.elim c fun q => by
          obtain ⟨i, hi, h⟩ := List.any_eq_true.mp q
          have hi' : i < k - 1 := List.mem_range.mp hi
          have := hc i (by omega)
          rw [this] at h
          cases h)] at kq
        exact kq H' e1
theorem max_nat (a b c : Nat) : (if (b : Int) - (c : Int) > (a : Int) then (b : Int) - (c : Int) else (a : Int)) = ((max a (b - c) : Nat) : Int) := by
  split <;> omega
def sp_waste_seen (K : PySem.W.Frag) : Sp := fun vs H Q _ => ∃ (k : Nat) (v : Vw k) (x : V), vs = [x] ∧ Rp K H (eV v) x ∧ v.wf ∧ k ≤ 2 ∧ ∀ H', Ex H H' → Q (.int (wasteSeen ⟨k, v⟩)) H'
abbrev N_waste_seen : List Str := ["view", "most", "k"]
theorem sc_waste_seen : FnScope N_waste_seen ["view"] (defScope s_waste_seen) := ⟨rfl, rfl, rfl, by decide +kernel, rfl, by decide +kernel, by decide +kernel⟩
theorem ok_waste_seen (T : Txt P w K mg base) : Ok P w K mg base "waste_seen" (5 + 1) ["view"] (sp_waste_seen K) := by
  refine Ok.of T.f_waste_seen sc_waste_seen (fun _ _ _ _ _ _ us hl => match us, hl with | [_], _ => rfl) (fun vs H Q E h => ?_) (fun f cdv A outer s H vs Q E hr h => ?_)
  · obtain ⟨k, v, x, rfl, hx, hw, hk, kq⟩ := h
    rfl
  · obtain ⟨k, v, x, rfl, hx, hw, hk, kq⟩ := h
    refine ⟨_, (pss_cons (ps_set (i := 1) sc_waste_seen.nd rfl (by first | exact Or.inl rfl | exact Or.inr rfl) pe_int)
 (pss_cons (ps_for PassesOwn.never rfl (pi_range2 (by rfl) T.n_range (pa_cons pe_int (pa_cons (pc (ok_rounds_of T) hr (pa_cons (pv 0) pa_nil)) pa_nil))) (pg_name (i := 2) sc_waste_seen.nd rfl (by first | exact Or.inl rfl | exact Or.inr rfl))
 (pss_one (ps_set (i := 1) sc_waste_seen.nd rfl (by first | exact Or.inl rfl | exact Or.inr rfl) (pe_callB (call_max2 rfl) (by rfl) T.n_max bt_max (pa_cons (pv 1) (pa_cons (pe_op op_sub (pe_callB (cLen (K := K) rfl) (by rfl) T.n_len bt_len (pa_cons (pc (ok_hands_in T) hr (pa_cons (pc (ok_lacking T) hr (pa_cons (pv 0) (pa_cons (pv 2) pa_nil))) pa_nil)) pa_nil)) (pv 2)) pa_nil))))))
 (pss_one (ps_ret (pv 1))))), ?_⟩
    refine ⟨_, rfl, k, v, x, rfl, hx, hw, 1, _, rfl, ⟨by omega, by omega, by omega, by omega⟩, for_range (lo := 1) (n := ((k : Int) - 1).toNat) (fun i σ H' => Ex H H' ∧ ∃ o, σ = [some x, some (.int (((List.range i).foldl (fun m i => max m ((handsIn (lacking ⟨k, v⟩ (i + 1))).length - (i + 1))) 0 : Nat) : Int)), o]) ⟨Ex.refl H, none, rfl⟩ ?_ ?_⟩
    · rintro i σ H' hi ⟨e1, o, rfl⟩
      have ei : (1 : Int) + (i : Int) = ((i + 1 : Nat) : Int) := by omega
      rw [List.range_succ, List.foldl_append, List.foldl_cons, List.foldl_nil]
      generalize (List.range i).foldl _ 0 = m
      rw [ei]
      refine ⟨_, rfl, _, rfl, _, rfl, k, v, i + 1, x, rfl, hx.up e1, hw, hk, fun H1 e2 => ⟨_, rfl, fun p H2 hp e3 g => ⟨p, _, rfl, .inl (SqL.of g), _, rfl, _, _, rfl, rfl, _, _, rfl, e1.trans (e2.trans e3), some (.int ((i + 1 : Nat) : Int)), ?_⟩⟩⟩
      rw [List.length_map]
      show [some x, some (V.int (if ((handsIn (lacking ⟨k, v⟩ (i + 1))).length : Int) - ((i + 1 : Nat) : Int) > (m : Int) then ((handsIn (lacking ⟨k, v⟩ (i + 1))).length : Int) - ((i + 1 : Nat) : Int) else (m : Int))), some (V.int ((i + 1 : Nat) : Int))] = _
      rw [max_nat]
    · rintro σ H' ⟨e1, o, rfl⟩
      have e : ((k : Int) - 1).toNat = k - 1 := by omega
      rw [e]
      exact ⟨_, rfl, kq H' e1⟩
def sp_together (K : PySem.W.Frag) : Sp := fun vs H Q _ => ∃ (k : Nat) (v : Vw k) (b : Nat) (x : V), vs = [x, .int b] ∧ Rp K H (eV v) x ∧ v.wf ∧ k ≤ 2 ∧ ∀ H', Ex H H' → Q (oi (RM.rule .together b ⟨k, v⟩)) H'
abbrev N_together : List Str := ["view", "bound"]
theorem sc_together : FnScope N_together ["view", "bound"] (defScope s_together) := ⟨rfl, rfl, rfl, by decide +kernel, rfl, by decide +kernel, by decide +kernel⟩
theorem ok_together (T : Txt P w K mg base) : Ok P w K mg base "together" (6 + 1) ["view", "bound"] (sp_together K) := by
  refine Ok.of T.f_together sc_together (fun _ _ _ _ _ _ us hl => match us, hl with | [_, _], _ => rfl) (fun vs H Q E h => ?_) (fun f cdv A outer s H vs Q E hr h => ?_)
  · obtain ⟨k, v, b, x, rfl, hx, hw, hk, kq⟩ := h
    rfl
  · obtain ⟨k, v, b, x, rfl, hx, hw, hk, kq⟩ := h
    refine ⟨_, (pss_cons (ps_if (pt_cmpR op_gt (pe_op op_add (pc (ok_rounds_of T) hr (pa_cons (pv 0) pa_nil)) (pc (ok_waste_seen T) hr (pa_cons (pv 0) pa_nil))) (pv 1) (by first | rfl | exact nomark _))
 (pss_one (ps_ret (pc (ok_least_known T) hr (pa_cons (pv 0) pa_nil))))
 pss_nil)
 (pss_one (ps_ret pe_non))), ?_⟩
    refine ⟨_, rfl, k, v, x, rfl, hx, hw, _, rfl, k, v, x, rfl, hx, hw, hk, fun H1 e1 => ⟨_, _, rfl, rfl, _, rfl, _, _, rfl, rfl, ?_⟩⟩
    rw [rule_together] at kq
    by_cases c : b < k + wasteSeen ⟨k, v⟩
    · rw [if_pos c] at kq
      exact ⟨true, dt (by omega), iteT ⟨_, rfl, k, v, x, rfl, hx.up e1, hw, hk, fun H2 e2 => kq H2 (e1.trans e2)⟩⟩
    · rw [if_neg c] at kq
      exact ⟨false, df (by omega), iteF (kq H1 e1)⟩
def foundF (r : Rn) (k : Nat) (m : Nat) (f : Fall) : Nat := if maskOf (whoUp r k) ≠ 0 ∧ f.2.1 < k then m ||| maskOf [f.1]
    else if f.2.1 = k ∧ maskOf (whoUp r k) &&& f.2.2 ≠ maskOf (whoUp r k) then m ||| maskOf [f.1] else m
def sp_found_out (K : PySem.W.Frag) : Sp := fun vs H Q _ => ∃ (r : Rn) (k : Nat) (x : V), vs = [x, .int k] ∧ Rp K H (eR r) x ∧ Valid r ∧ ∀ H', Ex H H' → Q (.int (foundOut r k)) H'
abbrev N_found_out : List Str := ["run", "rounds", "there", "mask", "hand", "at", "reached"]
theorem sc_found_out : FnScope N_found_out ["run", "rounds"] (defScope s_found_out) := ⟨rfl, rfl, rfl, by decide +kernel, rfl, by decide +kernel, by decide +kernel⟩
theorem ok_found_out (T : Txt P w K mg base) : Ok P w K mg base "found_out" (4 + 1) ["run", "rounds"] (sp_found_out K) := by
  refine Ok.of T.f_found_out sc_found_out (fun _ _ _ _ _ _ us hl => match us, hl with | [_, _], _ => rfl) (fun vs H Q E h => ?_) (fun f cdv A outer s H vs Q E hr h => ?_)
  · obtain ⟨r, k, x, rfl, hx, hv, kq⟩ := h
    rfl
  · obtain ⟨r, k, x, rfl, hx, hv, kq⟩ := h
    refine ⟨_, (pss_cons (ps_set (i := 2) sc_found_out.nd rfl (by first | exact Or.inl rfl | exact Or.inr rfl) (pc (ok_mask_of T) hr (pa_cons (pc (ok_who_is_up T) hr (pa_cons (pv 0) (pa_cons (pv 1) pa_nil))) pa_nil)))
 (pss_cons (ps_set (i := 3) sc_found_out.nd rfl (by first | exact Or.inl rfl | exact Or.inr rfl) pe_int)
 (pss_cons (ps_for PassesOwn.never rfl (piT (K := K) rfl (pe_ix (ixT (K := K) rfl) (pv 0) pe_int (fun _ _ => rfl))) (pgTup (K := K) (n := 3) rfl rfl (pgs_cons (pg_name (i := 4) sc_found_out.nd rfl (by first | exact Or.inl rfl | exact Or.inr rfl)) (pgs_cons (pg_name (i := 5) sc_found_out.nd rfl (by first | exact Or.inl rfl | exact Or.inr rfl)) (pgs_cons (pg_name (i := 6) sc_found_out.nd rfl (by first | exact Or.inl rfl | exact Or.inr rfl)) pgs_nil))))
 (pss_one (ps_if (PW.pt (pw_and (pt_cmpR op_ne (pv 2) pe_int (by first | rfl | exact nomark _)) (pw_and1 (pt_cmpR op_lt (pv 5) (pv 1) (by first | rfl | exact nomark _)))))
 (pss_one (ps_set (i := 3) sc_found_out.nd rfl (by first | exact Or.inl rfl | exact Or.inr rfl) (pe_op op_or (pv 3) (pc (ok_mask_of T) hr (pa_cons (peLst (pa_cons (pv 4) pa_nil)) pa_nil)))))
 (pss_one (ps_if (PW.pt (pw_and (pt_cmpR op_eq (pv 5) (pv 1) (by first | rfl | exact nomark _)) (pw_and1 (pt_cmpR op_ne (pe_op op_and (pv 2) (pv 6)) (pv 2) (by first | rfl | exact nomark _)))))
 (pss_one (ps_set (i := 3) sc_found_out.nd rfl (by first | exact Or.inl rfl | exact Or.inr rfl) (pe_op op_or (pv 3) (pc (ok_mask_of T) hr (pa_cons (peLst (pa_cons (pv 4) pa_nil)) pa_nil)))))
 pss_nil)))))
 (pss_one (ps_ret (pv 3)))))), ?_⟩
    obtain ⟨a, pn, pf, fs, rfl, g1, g2, g3, g4⟩ := run_get hx
    have hi := hv.hi
    have fl := g4.len
    rw [List.length_map] at fl
    refine ⟨_, rfl, _, rfl, r, k, _, rfl, hx, by omega, fun p H1 hp e1 gp => ⟨p, _, rfl, SqL.of gp, fun h hh => ?_, ?_⟩⟩
    · have := List.mem_range.mp (List.mem_filter.mp hh).1
      omega
    refine ⟨_, rfl, _, _, 1, _, rfl, rfl, ex_t e1 g1, atI_nat (j := 1) rfl, pf, rfl, ⟨_, ex_t e1 g3⟩, for_tup (K := K) (a := pf) (xs := fs) (fun i σ H' => Ex H H' ∧ ∃ o1 o2 o3, σ = [some (.ref a), some (.int k), some (.int (maskOf (whoUp r k) : Nat)), some (.int ((r.2.take i).foldl (foundF r k) 0 : Nat)), o1, o2, o3]) ⟨e1, none, none, none, rfl⟩ (fun i σ H' _ ⟨e, _⟩ => ex_t e g3) ?_ ?_⟩
    · rintro i y σ H' hi' ⟨e2, o1, o2, o3, rfl⟩
      obtain ⟨d, hd, rd⟩ := g4.get' hi'
      rw [List.getElem?_map] at hd
      obtain ⟨f', hf2, rfl⟩ := Option.map_eq_some_iff.mp hd
      obtain ⟨b, rfl, g⟩ := fall_get (rd.up e2)
      have hfin := hv.fin f' (List.mem_of_getElem? hf2)
      rw [List.take_add_one, hf2, Option.toList_some, List.foldl_append, List.foldl_cons, List.foldl_nil]
      generalize (r.2.take i).foldl (foundF r k) 0 = m
      have e0 : ∀ n : Nat, (!decide (V.int (n : Int) = V.int 0)) = decide (n ≠ 0) := fun n => dnint n 0
      have mk : ∀ (H2 : Hp), Ex H H2 → ∀ m' : Nat, foundF r k m f' = m' → Ex H H2 ∧ ∃ o1 o2 o3, ([some (V.ref a), some (V.int k), some (V.int (maskOf (whoUp r k) : Nat)), some (V.int (m' : Nat)), some (V.int f'.1), some (V.int f'.2.1), some (V.int f'.2.2)] : List (Option V)) = [some (.ref a), some (.int k), some (.int (maskOf (whoUp r k) : Nat)), some (.int (foundF r k m f' : Nat)), o1, o2, o3] := fun H2 e m' q => ⟨e, _, _, _, by rw [q]⟩
      have mb : ∀ (H2 : Hp), Ex H H2 → foundF r k m f' = m ||| maskOf [f'.1] → Ex H H2 ∧ ∃ o1 o2 o3, ([some (V.ref a), some (V.int k), some (V.int (maskOf (whoUp r k) : Nat)), some (V.int (Builtin.bitOr (m : Int) (maskOf [f'.1] : Int))), some (V.int f'.1), some (V.int f'.2.1), some (V.int f'.2.2)] : List (Option V)) = [some (.ref a), some (.int k), some (.int (maskOf (whoUp r k) : Nat)), some (.int (foundF r k m f' : Nat)), o1, o2, o3] := fun H2 e q => ⟨e, _, _, _, by rw [q, bitOr_nat]⟩
      refine ⟨b, _, rfl, g, rfl, _, _, rfl, _, _, rfl, _, _, rfl, rfl, _, rfl, rfl, _, rfl, ?_⟩
      rw [e0]
      have second : ¬ (maskOf (whoUp r k) ≠ 0 ∧ f'.2.1 < k) → (foundF r k m f' = if f'.2.1 = k ∧ maskOf (whoUp r k) &&& f'.2.2 ≠ maskOf (whoUp r k) then m ||| maskOf [f'.1] else m) := fun c => by unfold foundF; rw [if_neg c]
      by_cases c1 : maskOf (whoUp r k) ≠ 0
      · rw [decide_eq_true c1]
        refine iteT ⟨_, rfl, _, rfl, _, _, rfl, rfl, ?_⟩
        by_cases c2 : f'.2.1 < k
        · refine ⟨true, dt (by omega), iteT ⟨_, rfl, _, rfl, by show 1 ≤ 1000; decide, fun l H2 hl e5 gl2 => ⟨l, [f'.1], rfl, SqL.of gl2, fun h hh => by rw [List.mem_singleton.mp hh]; omega, ?_⟩⟩⟩
          exact ⟨_, _, rfl, rfl, mb H2 (e2.trans e5) (by unfold foundF; rw [if_pos ⟨c1, c2⟩])⟩
        · have sc := second (fun z => c2 z.2)
          refine ⟨false, df (by omega), iteF ⟨_, rfl, _, rfl, rfl, _, rfl, ?_⟩⟩
          rw [dint]
          by_cases c3 : f'.2.1 = k
          · rw [decide_eq_true c3]
            refine iteT ⟨_, rfl, _, rfl, _, _, rfl, rfl, _, rfl, rfl, ?_⟩
            show ∃ b, V.bl (!decide (V.int (Builtin.bitAnd ((maskOf (whoUp r k) : Nat) : Int) (f'.2.2 : Int)) = V.int (maskOf (whoUp r k) : Nat))) = V.bl b ∧ _
            rw [bitAnd_nat, dnint]
            by_cases c4 : maskOf (whoUp r k) &&& f'.2.2 ≠ maskOf (whoUp r k)
            · refine ⟨true, dt c4, iteT ⟨_, rfl, _, rfl, by show 1 ≤ 1000; decide, fun l H2 hl e5 gl2 => ⟨l, [f'.1], rfl, SqL.of gl2, fun h hh => by rw [List.mem_singleton.mp hh]; omega, ?_⟩⟩⟩
              exact ⟨_, _, rfl, rfl, mb H2 (e2.trans e5) (by rw [sc, if_pos ⟨c3, c4⟩])⟩
            · refine ⟨false, df c4, iteF ?_⟩
              exact mk _ e2 _ (by rw [sc, if_neg (fun z => c4 z.2)])
          · rw [decide_eq_false c3]
            refine iteF (iteF ?_)
            exact mk _ e2 _ (by rw [sc, if_neg (fun z => c3 z.1)])
      · have sc := second (fun z => c1 z.1)
        rw [decide_eq_false c1]
        refine iteF (iteF ⟨_, rfl, _, rfl, rfl, _, rfl, ?_⟩)
        rw [dint]
        by_cases c3 : f'.2.1 = k
        · rw [decide_eq_true c3]
          refine iteT ⟨_, rfl, _, rfl, _, _, rfl, rfl, _, rfl, rfl, ?_⟩
          show ∃ b, V.bl (!decide (V.int (Builtin.bitAnd ((maskOf (whoUp r k) : Nat) : Int) (f'.2.2 : Int)) = V.int (maskOf (whoUp r k) : Nat))) = V.bl b ∧ _
          rw [bitAnd_nat, dnint]
          by_cases c4 : maskOf (whoUp r k) &&& f'.2.2 ≠ maskOf (whoUp r k)
          · refine ⟨true, dt c4, iteT ⟨_, rfl, _, rfl, by show 1 ≤ 1000; decide, fun l H2 hl e5 gl2 => ⟨l, [f'.1], rfl, SqL.of gl2, fun h hh => by rw [List.mem_singleton.mp hh]; omega, ?_⟩⟩⟩
            exact ⟨_, _, rfl, rfl, mb H2 (e2.trans e5) (by rw [sc, if_pos ⟨c3, c4⟩])⟩
          · refine ⟨false, df c4, iteF ?_⟩
            exact mk _ e2 _ (by rw [sc, if_neg (fun z => c4 z.2)])
        · rw [decide_eq_false c3]
          refine iteF (iteF ?_)
          exact mk _ e2 _ (by rw [sc, if_neg (fun z => c3 z.1)])
    · rintro σ H' ⟨e2, o1, o2, o3, rfl⟩
      rw [fl, List.take_length]
      exact ⟨_, rfl, kq H' e2⟩
def sp_waste_of (K : PySem.W.Frag) : Sp := fun vs H Q _ => ∃ (r : Rn) (x : V), vs = [x] ∧ Rp K H (eR r) x ∧ Valid r ∧ ∀ H', Ex H H' → Q (.int (wasteOf r)) H'
abbrev N_waste_of : List Str := ["run", "most", "k"]
theorem sc_waste_of : FnScope N_waste_of ["run"] (defScope s_waste_of) := ⟨rfl, rfl, rfl, by decide +kernel, rfl, by decide +kernel, by decide +kernel⟩
theorem ok_waste_of (T : Txt P w K mg base) : Ok P w K mg base "waste_of" (5 + 1) ["run"] (sp_waste_of K) := by
  refine Ok.of T.f_waste_of sc_waste_of (fun _ _ _ _ _ _ us hl => match us, hl with | [_], _ => rfl) (fun vs H Q E h => ?_) (fun f cdv A outer s H vs Q E hr h => ?_)
  · obtain ⟨r, x, rfl, hx, hv, kq⟩ := h
    rfl
  · obtain ⟨r, x, rfl, hx, hv, kq⟩ := h
    refine ⟨_, (pss_cons (ps_set (i := 1) sc_waste_of.nd rfl (by first | exact Or.inl rfl | exact Or.inr rfl) pe_int)
 (pss_cons (ps_for PassesOwn.never rfl (pi_range2 (by rfl) T.n_range (pa_cons pe_int (pa_cons (pe_op op_add (pe_gl T.c_LAST rfl) pe_int) pa_nil))) (pg_name (i := 2) sc_waste_of.nd rfl (by first | exact Or.inl rfl | exact Or.inr rfl))
 (pss_one (ps_set (i := 1) sc_waste_of.nd rfl (by first | exact Or.inl rfl | exact Or.inr rfl) (pe_callB (call_max2 rfl) (by rfl) T.n_max bt_max (pa_cons (pv 1) (pa_cons (pe_op op_sub (pe_callB (cLen (K := K) rfl) (by rfl) T.n_len bt_len (pa_cons (pc (ok_hands_in T) hr (pa_cons (pc (ok_found_out T) hr (pa_cons (pv 0) (pa_cons (pv 2) pa_nil))) pa_nil)) pa_nil)) (pv 2)) pa_nil))))))
 (pss_one (ps_ret (pv 1))))), ?_⟩
    refine ⟨_, _, rfl, rfl, 1, _, rfl, ⟨by omega, by omega, by omega, by omega⟩, for_range (lo := 1) (n := ((5 : Int) + 1 - 1).toNat) (fun i σ H' => Ex H H' ∧ ∃ o, σ = [some x, some (.int (((List.range i).foldl (fun m i => max m ((handsIn (foundOut r (i + 1))).length - (i + 1))) 0 : Nat) : Int)), o]) ⟨Ex.refl H, none, rfl⟩ ?_ ?_⟩
    · rintro i σ H' hi ⟨e1, o, rfl⟩
      have ei : (1 : Int) + (i : Int) = ((i + 1 : Nat) : Int) := by omega
      rw [List.range_succ, List.foldl_append, List.foldl_cons, List.foldl_nil]
      generalize (List.range i).foldl _ 0 = m
      rw [ei]
      refine ⟨_, rfl, _, rfl, _, rfl, r, i + 1, x, rfl, hx.up e1, hv, fun H1 e2 => ⟨_, rfl, fun p H2 hp e3 g => ⟨p, _, rfl, .inl (SqL.of g), _, rfl, _, _, rfl, rfl, _, _, rfl, e1.trans (e2.trans e3), some (.int ((i + 1 : Nat) : Int)), ?_⟩⟩⟩
      rw [List.length_map]
      show [some x, some (V.int (if ((handsIn (foundOut r (i + 1))).length : Int) - ((i + 1 : Nat) : Int) > (m : Int) then ((handsIn (foundOut r (i + 1))).length : Int) - ((i + 1 : Nat) : Int) else (m : Int))), some (V.int ((i + 1 : Nat) : Int))] = _
      rw [max_nat]
    · rintro σ H' ⟨e1, o, rfl⟩
      exact ⟨_, rfl, kq H' e1⟩
def sp_closing_round (K : PySem.W.Frag) : Sp := fun vs H Q _ => ∃ (r : Rn) (b : Nat) (x : V), vs = [x, .int b] ∧ Rp K H (eR r) x ∧ Valid r ∧ b + 2 ≤ r.1.length ∧ r.2.length ≤ b ∧ ∀ H', Ex H H' → Q (.int ((b : Int) + 1 - (wasteOf r : Int))) H'
abbrev N_closing_round : List Str := ["run", "bound"]
theorem sc_closing_round : FnScope N_closing_round ["run", "bound"] (defScope s_closing_round) := ⟨rfl, rfl, rfl, by decide +kernel, rfl, by decide +kernel, by decide +kernel⟩
theorem ok_closing_round (T : Txt P w K mg base) : Ok P w K mg base "closing_round" (6 + 1) ["run", "bound"] (sp_closing_round K) := by
  refine Ok.of T.f_closing_round sc_closing_round (fun _ _ _ _ _ _ us hl => match us, hl with | [_, _], _ => rfl) (fun vs H Q E h => ?_) (fun f cdv A outer s H vs Q E hr h => ?_)
  · obtain ⟨r, b, x, rfl, hx, hv, h1, h2, kq⟩ := h
    rfl
  · obtain ⟨r, b, x, rfl, hx, hv, h1, h2, kq⟩ := h
    refine ⟨_, (pss_cons (ps_if (pt_not (pt_val (pc (ok_keeps T) hr (pa_cons (pv 0) (pa_cons (pv 1) pa_nil)))))
 pss_never
 pss_nil)
 (pss_one (ps_ret (pe_op op_sub (pe_op op_add (pv 1) pe_int) (pc (ok_waste_of T) hr (pa_cons (pv 0) pa_nil)))))), ?_⟩
    exact ⟨_, rfl, _, rfl, r, b, x, rfl, hx, h1, h2, _, rfl, iteF ⟨_, rfl, _, _, rfl, rfl, _, rfl, r, x, rfl, hx, hv, fun H1 e1 => ⟨_, _, rfl, rfl, kq H1 e1⟩⟩⟩
def sp_is_open (K : PySem.W.Frag) : Sp := fun vs H Q _ => ∃ (r : Rn) (b k : Nat) (x : V), vs = [x, .int b, .int k] ∧ Rp K H (eR r) x ∧ Valid r ∧ b + 2 ≤ r.1.length ∧ r.2.length ≤ b ∧ k + wasteOf r ≤ b ∧ ∀ H', Ex H H' → Q (.bl true) H'
abbrev N_is_open : List Str := ["run", "bound", "rounds"]
theorem sc_is_open : FnScope N_is_open ["run", "bound", "rounds"] (defScope s_is_open) := ⟨rfl, rfl, rfl, by decide +kernel, rfl, by decide +kernel, by decide +kernel⟩
theorem ok_is_open (T : Txt P w K mg base) : Ok P w K mg base "is_open" (7 + 1) ["run", "bound", "rounds"] (sp_is_open K) := by
  refine Ok.of T.f_is_open sc_is_open (fun _ _ _ _ _ _ us hl => match us, hl with | [_, _, _], _ => rfl) (fun vs H Q E h => ?_) (fun f cdv A outer s H vs Q E hr h => ?_)
  · obtain ⟨r, b, k, x, rfl, hx, hv, h1, h2, h3, kq⟩ := h
    rfl
  · obtain ⟨r, b, k, x, rfl, hx, hv, h1, h2, h3, kq⟩ := h
    refine ⟨_, (pss_one (ps_ret (pe_cmpR op_lt (pv 2) (pc (ok_closing_round T) hr (pa_cons (pv 0) (pa_cons (pv 1) pa_nil))) (by first | rfl | exact nomark _)))), ?_⟩
    exact ⟨_, rfl, _, rfl, _, rfl, r, b, x, rfl, hx, hv, h1, h2, fun H1 e1 => ⟨_, _, rfl, rfl, qt (Q := Q) (by omega) (kq H1 e1)⟩⟩
def sp_standing (K : PySem.W.Frag) : Sp := fun vs H Q _ => ∃ (r : Rn) (h : Nat) (x : V), vs = [x, .int h] ∧ Rp K H (eR r) x ∧ Valid r ∧ ∀ p H', H p = none → Ex H H' → H' p = some (.lst ((standing r h).map fun h => V.int (h : Nat))) → Q (.ref p) H'
abbrev N_standing : List Str := ["run", "hand", "one"]
theorem sc_standing : FnScope N_standing ["run", "hand"] (defScope s_standing) := ⟨rfl, rfl, rfl, by decide +kernel, rfl, by decide +kernel, by decide +kernel⟩
theorem ok_standing (T : Txt P w K mg base) : Ok P w K mg base "standing" (2 + 1) ["run", "hand"] (sp_standing K) := by
  refine Ok.of T.f_standing sc_standing (fun _ _ _ _ _ _ us hl => match us, hl with | [_, _], _ => rfl) (fun vs H Q E h => ?_) (fun f cdv A outer s H vs Q E hr h => ?_)
  · obtain ⟨r, h, x, rfl, hx, hv, kq⟩ := h
    rfl
  · obtain ⟨r, h, x, rfl, hx, hv, kq⟩ := h
    refine ⟨_, (pss_one (ps_ret (pe_lc (own := [("one", 2)]) rfl sc_standing.nd (pi_range1 (by rfl) T.n_range (pa_cons (pc (ok_many_hands T) hr (pa_cons (pv 0) pa_nil)) pa_nil)) (blkOk_by (N := N_standing) (sc := defScope s_standing) (own := [("one", 2)]) (by decide +kernel)) (fun _ _ _ _ _ => (pg_name (i := 2) sc_standing.nd rfl (by first | exact Or.inl rfl | exact Or.inr rfl))) (fun _ _ _ _ _ => (pts_one (PW.pt (pw_and (pt_cmpR op_ne (pv 2) (pv 1) (by first | rfl | exact nomark _)) (pw_and1 (pt_cmp (pc_isN (pc (ok_fall_of T) hr (pa_cons (pv 0) (pa_cons (pv 2) pa_nil)))))))))) (fun _ _ _ _ _ => (pv 2))))), ?_⟩
    have hi := hv.hi
    refine ⟨_, rfl, r, x, rfl, hx, (r.1.length : Nat), rfl, by omega, by omega, fun Dl hD => ?_⟩
    refine lc_range (lo := 0) (n := r.1.length) (fun i H' => Ex H H' ∧ H' Dl = some (.lst (((List.range i).filter fun o => decide (o ≠ h) && (fallOf r o).isNone).map fun h => V.int (h : Nat)))) ⟨Ex.new hD, upd_same⟩ (fun i H' hi' ⟨p1, p2⟩ => ?_) (fun H' ⟨p1, p2⟩ => ?_)
    · rw [Int.zero_add]
      have small : (((List.range i).filter fun o => decide (o ≠ h) && (fallOf r o).isNone).map fun h => V.int (h : Nat)).length ≤ 1000 := by
        rw [List.length_map]
        have := List.length_filter_le (fun o => decide (o ≠ h) && (fallOf r o).isNone) (List.range i)
        rw [List.length_range] at this
        omega
      refine ⟨rfl, _, rfl, _, rfl, rfl, _, rfl, ?_⟩
      rw [dnint]
      rw [filter_range_succ]
      by_cases c1 : i ≠ h
      · rw [decide_eq_true c1]
        refine iteT ⟨_, rfl, _, rfl, r, i, x, rfl, hx.up p1, fun hn => ?_, fun f y hf ry => ?_⟩
        · refine ⟨_, rfl, iteT ⟨_, rfl, _, p2, sz_lt (by omega), p1.mut hD, ?_⟩⟩
          rw [upd_same, hn]
          simp
        · obtain ⟨c, rfl, _⟩ := fall_get ry
          refine ⟨_, rfl, iteF ⟨p1, ?_⟩⟩
          rw [p2, hf]
          simp
      · rw [decide_eq_false c1]
        refine iteF (iteF ⟨p1, ?_⟩)
        rw [p2]
        simp
    · exact kq Dl H' hD p1 p2
end
end RF

set_option Elab.async false
set_option linter.all false
set_option maxRecDepth 100000
set_option maxHeartbeats 4000000
/-! Functions that a def makes and gives back: the captured cells are known from then on. -/
namespace RC
open PySem PySem.Spec PyProof.Rows L2 LamX NdefX Evl
/-- the cell at c holds v -/
def CellO (v : V) (c : Addr) : HO := .ext fun h => ∃ u, RelV v u ∧ h.IsCell c (some u)
/-- the object at f is the lambda with the words F and the body e -/
def LamO (f : Addr) (F : NF) (e : Expr) : HO := .ext fun h => ∃ (pm ctv : Value), h.get? f = some (PySem.W.kla_obj F.name F.qual F.params e F.scope F.cl pm F.c ctv)
/-- either kind -/
def FobO (f : Addr) (F : NF) : Option Expr → HO
  | none => FnO f F
  | some e => LamO f F e
theorem cellO_ok {P : Program} {w : World} {H : Hp} {h : Heap} {c : Addr} {v : V} (q : ∃ u, RelV v u ∧ h.IsCell c (some u)) : ObjOk P w H h c (CellO v c) := by
  obtain ⟨u, r, o, ho, hd⟩ := q
  exact ⟨⟨u, r, o, ho, hd⟩, ⟨o, ho⟩, fun h1 h2 ⟨u, r, o, ho, hd⟩ st => ⟨u, r, o, st _ ho, hd⟩⟩
theorem cellO_at {P : Program} {w : World} {H : Hp} {h : Heap} {c : Addr} {v : V} (hok : HOk P w H h) (e : H c = some (CellO v c)) : ∃ u, RelV v u ∧ h.IsCell c (some u) := by
  obtain ⟨z, _, _⟩ := hok c _ e
  exact z
theorem lamO_at {P : Program} {w : World} {H : Hp} {h : Heap} {f : Addr} {F : NF} {b : Expr} (hok : HOk P w H h) (e : H f = some (LamO f F b)) : ∃ (pm ctv : Value), h.get? f = some (PySem.W.kla_obj F.name F.qual F.params b F.scope F.cl pm F.c ctv) := by
  obtain ⟨z, _, _⟩ := hok f _ e
  exact z
theorem lamO_ne {f : Addr} {F : NF} {e : Expr} (ps : Array Value) : LamO f F e ≠ .tbl ps := fun z => by
  unfold LamO at z
  cases z
theorem cellO_ne {c : Addr} {v : V} (ps : Array Value) : CellO v c ≠ .tbl ps := fun z => by
  unfold CellO at z
  cases z
/-! ### heaps less some cells -/
def minus (H : Hp) (cs : List Addr) : Hp := fun b => if b ∈ cs then none else H b
def plus (H H' : Hp) (cs : List Addr) : Hp := fun b => if b ∈ cs then H b else H' b
theorem minus_in {H : Hp} {cs : List Addr} {b : Addr} (h : b ∈ cs) : minus H cs b = none := if_pos h
theorem minus_out {H : Hp} {cs : List Addr} {b : Addr} (h : b ∉ cs) : minus H cs b = H b := if_neg h
theorem plus_in {H H' : Hp} {cs : List Addr} {b : Addr} (h : b ∈ cs) : plus H H' cs b = H b := if_pos h
theorem plus_out {H H' : Hp} {cs : List Addr} {b : Addr} (h : b ∉ cs) : plus H H' cs b = H' b := if_neg h
/-- all of cs are cells -/
def Cells (H : Hp) (cs : List Addr) : Prop := ∀ c ∈ cs, ∃ v, H c = some (CellO v c)
theorem minus_some {H : Hp} {cs : List Addr} {b : Addr} {o : HO} (e : minus H cs b = some o) : b ∉ cs ∧ H b = some o := by
  by_cases h : b ∈ cs
  · rw [minus_in h] at e; cases e
  · rw [minus_out h] at e; exact ⟨h, e⟩
theorem Cells.keep {H : Hp} {cs : List Addr} (C : Cells H cs) {b : Addr} {o : HO} (e : H b = some o) (n : ∀ v, o ≠ CellO v b) : minus H cs b = some o := by
  rw [minus_out fun h => ?_]
  · exact e
  · obtain ⟨v, hv⟩ := C b h
    rw [e] at hv
    exact n v (Option.some.inj hv)
theorem hok_minus {P : Program} {w : World} {H : Hp} {h : Heap} {cs : List Addr} (C : Cells H cs) (hok : HOk P w H h) : HOk P w (minus H cs) h := fun b o e => by
  obtain ⟨_, e'⟩ := minus_some e
  refine (hok b o e').stay (fun _ _ _ q => q) (fun d q => C.keep q fun v z => by unfold CellO at z; cases z) fun d xs q => C.keep q fun v z => by unfold CellO at z; cases z
theorem env0_minus {P : Program} {w : World} {K : PySem.W.Frag} {mg : Str → Option Value} {base : Heap} {A : Around} {outer : List Env} {s : Shared} {H : Hp} {cs : List Addr} (C : Cells H cs) (e0 : Env0 P w K mg base A outer s H) : Env0 P w K mg base A outer s (minus H cs) := by
  have nn : ∀ b, H b = none → minus H cs b = none := fun b e => by
    by_cases h : b ∈ cs
    · exact minus_in h
    · rw [minus_out h]; exact e
  exact ⟨e0.frames, e0.mod, fun b o e => ⟨(e0.bs b o e).1, nn b (e0.bs b o e).2⟩, e0.bsz, e0.funs, fun b hb => nn b (e0.frf b hb), hok_minus C e0.hok, e0.bare⟩
/-- a call's end, the cells known again -/
theorem ce_plus {P : Program} {w : World} {outer : List Env} {s s' : Shared} {H : Hp} {cs : List Addr} {Q : VK} {u : Value} (C : Cells H cs) (hok : HOk P w H s.heap) (frf : ∀ b ∈ frs outer, H b = none) (h : CE outer P w (minus H cs) s (fun v H' => Q v (plus H H' cs)) u s') : CE outer P w H s Q u s' := by
  obtain ⟨v, H', os, bare, un, hok', r, q⟩ := h
  have at_ : ∀ c ∈ cs, ∃ o, s.heap.get? c = some o ∧ minus H cs c = none ∧ c ∉ frs outer := fun c hc => by
    obtain ⟨x, hx⟩ := C c hc
    obtain ⟨u, _, o, ho, _⟩ := cellO_at hok hx
    exact ⟨o, ho, minus_in hc, fun z => by rw [frf c z] at hx; cases hx⟩
  have out : ∀ b o, H b = some o → (∀ v, o ≠ CellO v b) → b ∉ cs := fun b o e n z => by
    obtain ⟨v, hv⟩ := C b z
    rw [e] at hv
    exact n v (Option.some.inj hv)
  refine ⟨v, plus H H' cs, os, bare, ⟨fun b o e n nf nx => ?_, fun b o e n nf nx => ?_, fun b o e n nx => ?_, un.there, fun b xs e => ?_, fun b o u e => ?_, fun b ps e => ?_⟩, ?_, r, q⟩
  · have hb : b ∉ cs := fun z => by
      obtain ⟨v, hv⟩ := C b z
      rw [n] at hv; cases hv
    exact un.keep b o e (by rw [minus_out hb]; exact n) nf nx
  · rw [frf b nf] at n
    have hb : b ∉ cs := fun z => by
      obtain ⟨v, hv⟩ := C b z
      rw [frf b nf] at hv; cases hv
    exact un.slot b o e (by rw [minus_out hb]; exact frf b nf) nf nx
  · have hb : b ∉ cs := fun z => by
      obtain ⟨v, hv⟩ := C b z
      rw [n] at hv; cases hv
    rw [plus_out hb]
    exact un.free b o e (by rw [minus_out hb]; exact n) nx
  · have hb := out b _ e fun v z => by unfold CellO at z; cases z
    rw [plus_out hb]
    exact un.tups b xs (by rw [minus_out hb]; exact e)
  · have hb := out b _ e fun v z => by unfold CellO at z; cases z
    rw [plus_out hb]
    exact un.frzs b o u (by rw [minus_out hb]; exact e)
  · have hb := out b _ e fun v z => by unfold CellO at z; cases z
    obtain ⟨more, hm⟩ := un.tbls b ps (by rw [minus_out hb]; exact e)
    exact ⟨more, by rw [plus_out hb]; exact hm⟩
  · intro b o e
    by_cases hb : b ∈ cs
    · rw [plus_in hb] at e
      obtain ⟨v, hv⟩ := C b hb
      rw [hv] at e
      cases e
      obtain ⟨u, r, ob, ho, hd⟩ := cellO_at hok hv
      obtain ⟨o, ho', n, nf⟩ := at_ b hb
      rw [ho] at ho'
      cases ho'
      exact cellO_ok ⟨u, r, ob, un.keep b ob ho n nf (by simp), hd⟩
    · rw [plus_out hb] at e
      have fresh : ∀ d o, H' d = some o → d ∉ cs := fun d o q z => by
        obtain ⟨ob, ho, n, _⟩ := at_ d z
        rw [un.free d ob ho n (by simp)] at q
        cases q
      exact (hok' b o e).stay (fun _ _ _ q => q) (fun d q => by rw [plus_out (fresh d _ q)]; exact q) fun d xs q => by rw [plus_out (fresh d _ q)]; exact q
/-! ### a made function that can be called -/
/-- what is known of it in H: its object, its code, what its cells hold -/
structure CloAt (H : Hp) (f : Addr) (F : NF) (oe : Option Expr) (fr : List Str) (vals : List V) : Prop where
  fn : H f = some (FobO f F oe)
  code : H F.c = some (CodeO F.c F.qual)
  len : vals.length = fr.length
  inj : ∀ x y c, F.cl.lookup x = some c → F.cl.lookup y = some c → x = y
  all : ∀ p ∈ F.cl, ∃ v, H p.2 = some (CellO v p.2)
  has : ∀ (i : Nat) (y : Str), fr[i]? = some y → ∃ c v, F.cl.lookup y = some c ∧ vals[i]? = some v ∧ H c = some (CellO v c)
theorem CloAt.ext {H H' : Hp} {f : Addr} {F : NF} {oe : Option Expr} {fr : List Str} {vals : List V} (c : CloAt H f F oe fr vals) (e : ExtN H H') : CloAt H' f F oe fr vals := by
  refine ⟨e _ _ c.fn ?_, e _ _ c.code fun ps => codeO_ne ps, c.len, c.inj, fun p hp => ?_, fun i y hy => ?_⟩
  · intro ps
    cases oe with
    | none => exact fnO_ne ps
    | some b => exact lamO_ne ps
  · obtain ⟨v, hv⟩ := c.all p hp
    exact ⟨v, e _ _ hv fun ps => cellO_ne ps⟩
  · obtain ⟨a, v, h1, h2, h3⟩ := c.has i y hy
    exact ⟨a, v, h1, h2, e _ _ h3 fun ps => cellO_ne ps⟩
def csOf (F : NF) : List Addr := F.cl.map (·.2)
theorem CloAt.cells {H : Hp} {f : Addr} {F : NF} {oe : Option Expr} {fr : List Str} {vals : List V} (c : CloAt H f F oe fr vals) : Cells H (csOf F) := fun a ha => by
  obtain ⟨p, hp, rfl⟩ := List.mem_map.mp ha
  exact c.all p hp
theorem CloAt.cellsAt {P : Program} {w : World} {H : Hp} {h : Heap} {f : Addr} {F : NF} {oe : Option Expr} {fr : List Str} {vals : List V} (c : CloAt H f F oe fr vals) (hok : HOk P w H h) : CellsAt F.cl fr (vals.map some) h (minus H (csOf F)) := by
  have inn : ∀ y a, F.cl.lookup y = some a → a ∈ csOf F := fun y a e => List.mem_map.mpr ⟨(y, a), PySem.mem_of_lookup e, rfl⟩
  refine ⟨by rw [List.length_map]; exact c.len, fun y a e => ⟨minus_in (inn y a e), ?_⟩, c.inj, fun i y hy => ?_⟩
  · obtain ⟨v, hv⟩ := c.all _ (PySem.mem_of_lookup e)
    obtain ⟨u, _, q⟩ := cellO_at hok hv
    exact ⟨some u, q⟩
  · obtain ⟨a, v, h1, h2, h3⟩ := c.has i y hy
    refine ⟨a, h1, fun v' e => ?_⟩
    rw [List.getElem?_map, h2] at e
    have ev : v = v' := Option.some.inj (Option.some.inj e)
    subst ev
    exact cellO_at hok h3
/-- the promise of a made function, of either kind -/
structure COk (P : Program) (w : World) (K : PySem.W.Frag) (mg : Str → Option Value) (base : Heap) (k : Nat) (f : Addr) (F : NF) (oe : Option Expr) (ps fr : List Str) (sp : List (Option V) → Sp) : Prop where
  len : ∀ ws vs H Q E, sp ws vs H Q E → vs.length = ps.length
  run : ∀ (A : Around) (outer : List Env) (s : Shared) (H : Hp) (us : List Value) (vs : List V) (ws : List (Option V)) (Q : VK) (E : XK), Room k A → Env0 P w K mg base A outer s H → H f = some (FobO f F oe) → H F.c = some (CodeO F.c F.qual) →
    CellsAt F.cl fr ws s.heap H → Vals vs us → sp ws vs H Q E → codeAny (model P w) A (.call (.ref f) ⟨us, []⟩) (CR CX0 outer P w H s Q E) s
section
variable {P : Program} {w : World} {K : PySem.W.Frag} {mg : Str → Option Value} {base : Heap} {N ps fr : List Str} {F : NF} {f : Addr} {k j : Nat} {sp sp' : List (Option V) → Sp}
theorem COk.mono {oe : Option Expr} (o : COk P w K mg base j f F oe ps fr sp) (h : j ≤ k) : COk P w K mg base k f F oe ps fr sp := ⟨o.len, fun A outer s H us vs ws Q E hr => o.run A outer s H us vs ws Q E (hr.mono h)⟩
theorem cok_of (o : NOk P w K mg base CX0 k f F ps fr sp) : COk P w K mg base k f F none ps fr sp := ⟨o.len, o.run⟩
/-- a lambda by its body -/
theorem cok_lam {body : Expr} (S : NScope N ps fr F.scope) (hb : ∀ (pm ctv : Value) (us : List Value), us.length = ps.length → bindArgs (PySem.W.kla_fn F.name F.qual F.params body F.scope F.cl pm (.ref F.c) ctv) ⟨us, []⟩ = pure (ps.zip us)) (len : ∀ ws vs H Q E, sp ws vs H Q E → vs.length = ps.length)
    (hbody : ∀ (A : Around) (outer : List Env) (s : Shared) (H : Hp) (vs : List V) (ws : List (Option V)) (Q : VK) (E : XK), Room k (A.deeper (envF F f s.heap.objs.size)) → ws.length = fr.length → sp ws vs H Q E →
      ∃ t, PE (ncx CX0 P w K mg base N F f A outer s H E) body t ∧ t (startF N vs ws) H Q) :
    COk P w K mg base (k + 1) f F (some body) ps fr sp := by
  refine ⟨len, fun A outer s H us vs ws Q E hr e0 hf hc C r hsp => ?_⟩
  have hl := len _ _ _ _ _ hsp
  have lim : s.heap.NoLimit := e0.mod.nolimit.keeps fun b o e => (e0.bs b o e).1
  obtain ⟨pm, ctv, ho⟩ := lamO_at e0.hok (show H f = some (LamO f F body) from hf)
  refine PySem.W.kla_callFunE hr.depth ho rfl S.co S.gen rfl (codeO_at e0.hok hc) ?_
  rw [hb pm ctv us (by rw [← r.length]; exact hl)]
  refine wpAny_pure (wpAny_newFunctionEnv S.nocell (fun ⟨n, _⟩ hy => S.par n (List.of_mem_zip hy).1) (fun h₁ hns hsb => ⟨lim.fresh _ hsb, ?_⟩) S.kind)
  show codeAny _ _ (.expr body (envF F f s.heap.objs.size)) _ _
  have kp : ∀ b o, s.heap.get? b = some o → h₁.get? b = some o := fun b o e => hsb.extBut b o (Nat.ne_of_lt (Heap.lt_size e)) (Heap.get?_push_of_some _ e)
  obtain ⟨t, ht, hq⟩ := hbody A outer s H vs ws Q E (hr.deeper _) C.len hsp
  have I : Inv (ncx CX0 P w K mg base N F f A outer s H E) [] (startF N vs ws) H { s with heap := h₁, toks := s.toks + (ps.zip us).length } := inv_startN S hr.hd e0 hl r C hns kp
  refine PySem.W.kla_codeExpr (wpAny_mono (ht.run [] _ (startF N vs ws) H Q I hq) (fun v s' hs => ?_) fun e s' hs => hs)
  obtain ⟨x, H', J, rv, q⟩ := hs
  exact ⟨x, H', J.os, J.bare, J.base, J.hok, rv, q⟩
end
/-- x(..), x a name that holds a made function -/
def tClo (K : PySem.W.Frag) (i : Nat) (G : Hp → Addr → Sp → Prop) (t : TA) : TE := fun σ H Q => ∃ f, σ[i]? = some (some (.ref f)) ∧ (∃ sp, G H f sp) ∧ t σ H fun vs H1 => ∃ sp, G H1 f sp ∧ sp vs H1 Q fun _ _ _ => False
/-- what G tells of f lets it be called -/
def Callable (P : Program) (w : World) (K : PySem.W.Frag) (mg : Str → Option Value) (base : Heap) (k : Nat) (G : Hp → Addr → Sp → Prop) : Prop :=
  ∀ H f sp, G H f sp → ∃ (F : NF) (oe : Option Expr) (ps fr : List Str) (vals : List V) (sp2 : List (Option V) → Sp), CloAt H f F oe fr vals ∧ COk P w K mg base k f F oe ps fr sp2 ∧
    ∀ vs Q, sp vs H Q (fun _ _ _ => False) → sp2 (vals.map some) vs (minus H (csOf F)) (fun v H' => Q v (plus H H' (csOf F))) (fun _ _ _ => False)
section
variable {X : Cx}
theorem cloAt_fn {P : Program} {w : World} {H : Hp} {h : Heap} {f : Addr} {F : NF} {oe : Option Expr} (hok : HOk P w H h) (e : H f = some (FobO f F oe)) : ∃ (od : Option Addr) (fd : FuncData) (sl : Array (Option Value)), h.get? f = some (⟨.type "function", od, .func fd, sl⟩ : Obj) := by
  cases oe with
  | none =>
    obtain ⟨od, sl, doc, pm, ctv, ho⟩ := fnO_at hok e
    exact ⟨_, _, _, ho⟩
  | some b =>
    obtain ⟨pm, ctv, ho⟩ := lamO_at hok e
    exact ⟨_, _, _, ho⟩
theorem pe_clo {K : PySem.W.Frag} {G : Hp → Addr → Sp → Prop} {k j i : Nat} {x : Str} {e : Expr} {es : List Expr} {t : TA} {p pos : Pos} (hG : Callable X.prog X.w X.K X.mg X.base k G) (hr : Room j X.A) (hk : k ≤ j) (hx : Passes CX0 X fun _ _ _ => False) (hN : X.N[i]? = some x) (hv : Vis X.env.scope x) (ha : PA X (e :: es) t)
    (hd : (x == ("__debug__" : Str)) = false := by decide) (hcd : (x == ("__classdict__" : Str)) = false := by decide)
    (he : starEach (e :: es) X.env = (false, eval e X.env) :: starEach es X.env := by rfl) (hpl : (backTo pos (starEach es X.env)).any (·.1) = false := by rfl) :
    PE X (.Call (.Name x p) (e :: es) [] pos) (tClo K i G t) := by
  refine ⟨fun pins s σ H Q I h => ?_⟩
  obtain ⟨f, hs, ⟨sp0, g0⟩, ht⟩ := h
  refine wpAny_Call_Name_kw (thn ((pe_var (pos := p) hN hv hd hcd).run pins s σ H (fun v H1 => v = .ref f ∧ H1 = H) I ⟨.ref f, hs, rfl, rfl⟩) fun u s1 ⟨v, H1, I1, r1, q1⟩ => ?_)
  obtain ⟨ev, eH⟩ := q1
  subst ev
  rw [eH] at I1
  obtain rfl : u = Value.ref f := r1
  have fnAt : ∀ {s : Shared} {H : Hp} {sp : Sp}, Inv X pins σ H s → G H f sp → PySem.W.FnAt f s.heap := fun {s H sp} I g => by
    obtain ⟨F, oe, ps, fr, vals, sp2, c, _, _⟩ := hG H f sp g
    obtain ⟨od, fd, sl, ho⟩ := cloAt_fn I.hok c.fn
    exact ⟨_, od, fd, sl, ho⟩
  refine PySem.W.callWith_F (first := []) (fnAt I1 g0) (thn (ha.run pos pins s1 σ H _ I1 ht) fun us s2 ⟨vs, H2, I2, r, sp, g, q⟩ => ⟨fnAt I2 g, ?_⟩) he hpl
  show wpAny _ _ (call (.ref f) us) _ _ _
  obtain ⟨F, oe, ps, fr, vals, sp2, c, o, tr⟩ := hG H2 f sp g
  have hm : ∀ b ob, H2 b = some ob → (∀ v, ob ≠ CellO v b) → minus H2 (csOf F) b = some ob := fun b ob e n => c.cells.keep e n
  have nf : ∀ v, FobO f F oe ≠ CellO v f := fun v z => by
    have h1 := c.fn
    rw [z] at h1
    obtain ⟨_, _, ob, ho, hd⟩ := cellO_at I2.hok h1
    obtain ⟨_, _, _, ho'⟩ := cloAt_fn I2.hok c.fn
    rw [ho] at ho'
    cases ho'
    cases hd
  have nc : ∀ v, CodeO F.c F.qual ≠ CellO v F.c := fun v z => by
    have h1 := c.code
    rw [z] at h1
    obtain ⟨_, _, ob, ho, hd⟩ := cellO_at I2.hok h1
    obtain ⟨_, oc, _, _, e1, ho', hd', _⟩ := codeO_at I2.hok c.code
    cases e1
    rw [ho] at ho'
    cases ho'
    rw [hd] at hd'
    cases hd'
  have e0 := I2.env0
  refine wpAny_call (codeAny_mono (o.run X.A X.stack s2 (minus H2 (csOf F)) us vs (vals.map some) (fun v H' => Q v (plus H2 H' (csOf F))) (fun _ _ _ => False) (hr.mono hk) (env0_minus c.cells e0) (hm _ _ c.fn nf) (hm _ _ c.code nc) (c.cellsAt I2.hok) r (tr vs Q q)) fun r' s' hq => ?_)
  cases r' with
  | error er => exact (show False from hq).elim
  | ok fl =>
    cases fl with
    | ret u => exact I2.after (ce_plus c.cells I2.hok e0.frf hq)
    | next => exact False.elim hq
    | brk => exact False.elim hq
    | cont => exact False.elim hq
end
end RC

set_option Elab.async false
set_option linter.all false
set_option maxRecDepth 100000
set_option maxHeartbeats 4000000
/-! Defs that make a function and give it back. -/
namespace RC
open PySem PySem.Spec PyProof.Rows L2 LamX NdefX Evl
section
variable {X : Cx} {pins : List (Addr × Obj)} {σ : L2.St} {H : Hp} {s : Shared}
theorem inv_lam {F : NF} {b : Expr} {o : Obj} {t' : Nat} {pm ctv : Value} (I : Inv X pins σ H s) (ho : o = PySem.W.kla_obj F.name F.qual F.params b F.scope F.cl pm F.c ctv) :
    Inv X pins σ (upd H s.heap.objs.size (LamO s.heap.objs.size F b)) { s with heap := s.heap.push o, toks := t' } := by
  subst ho
  refine I.laid (a := s.heap.objs.size) (fun b u e => Heap.get?_push_of_some _ e) (Nat.le_refl _) ?_
  have e : (s.heap.push (PySem.W.kla_obj F.name F.qual F.params b F.scope F.cl pm F.c ctv)).get? s.heap.objs.size = some (PySem.W.kla_obj F.name F.qual F.params b F.scope F.cl pm F.c ctv) := Heap.get?_push_size _ rfl
  exact ⟨⟨pm, ctv, e⟩, ⟨_, e⟩, fun h1 h2 ⟨p, t, z⟩ st => ⟨p, t, st _ z⟩⟩
/-- a lambda is made: its code object is new, or found in the table -/
theorem lam_make {T : List NTab} {nm : Nat → Nat → Str} {c P : Addr} {params : Arguments} {body : Expr} {scope : Scope} {pos : Pos} {E : Value → Shared → Prop} {Q : Value → Shared → Prop} (I : Inv X pins σ H s) (TB : TabB X.base X.mg c P) (hcode : X.env.code = .ref c)
    (hm : (P, nm) ∈ T) (hn : nm pos.line pos.col = X.env.qual ++ "<lambda>") (hu : ∀ p ∈ T, p.1 = P → p.2 = nm) (hT : TabsN T H) (hdef : defaultsOf params X.env = ([], [])) (hfree : ∀ y ∈ scope.names, y.2 = .free → ∃ c, X.env.cells.lookup y.1 = some c)
    (h : ∀ (f c' : Addr) (H1 : Hp) (s' : Shared), Inv X pins σ H1 s' → ExtN H H1 → TabsN T H1 → H f = none → H1 f = some (LamO f ⟨"<lambda>", X.env.qual ++ "<lambda>", params, [], scope, cloFrom X.env.cells scope.names [], c'⟩ body) → H1 c' = some (CodeO c' (X.env.qual ++ "<lambda>")) → Q (.ref f) s') :
    wpAny (model X.prog X.w) X.A (eval (.Lambda params body scope pos) X.env) Q E s := by
  obtain ⟨ps, hP, ht, ha⟩ := (show TabN H P nm from hT _ hm)
  refine PySem.W.kla_eval hdef ?_
  have bP : s.heap.BuiltinsAt X.mg P := TB.bm.keeps I.bk
  have hP' : s.heap.get? P = some { cls := .none, data := .fields ps } := I.hok P _ hP
  cases hc : codeAmong pos ps.toList with
  | none =>
    refine PySem.W.kla_makeFunction (mg := X.mg) (c := c) (P := P) (ps := ps) (closure_ok hfree) I.ok.glob (I.mod.glob.keeps I.bk) hcode (TB.code.keeps I.bk) hP' ht hc TB.gP bP fun c' ctv h' tk hx hge hlt hrec htb => ?_
    obtain ⟨c2, oc, vs, t, e2, hoc, hd, hv⟩ := hrec
    cases e2
    have nC : H c' = none := I.hok.fresh hge
    have I1 := inv_table (t' := tk) (more := #[rawInt pos.line, rawInt pos.col, .ref c']) (h' := h') I hP (fun b o hb e => hx b o hb e) htb hge ⟨oc, vs, t, hoc, hd, hv⟩
    have hE : ExtN H (upd (upd H P (.tbl (ps ++ #[rawInt pos.line, rawInt pos.col, .ref c']))) c' (CodeO c' (X.env.qual ++ "<lambda>"))) := fun b o e n => by
      rw [upd_ne (ne_of_none e nC), upd_ne (fun z => n ps (Option.some.inj (e.symm.trans (by rw [z]; exact hP))))]
      exact e
    have eL : (ps ++ #[rawInt pos.line, rawInt pos.col, .ref c']).toList = ps.toList ++ [rawInt pos.line, rawInt pos.col, .ref c'] := by simp
    have T1 : TabsN T (upd (upd H P (.tbl (ps ++ #[rawInt pos.line, rawInt pos.col, .ref c']))) c' (CodeO c' (X.env.qual ++ "<lambda>"))) := fun p hp => by
      by_cases hb : p.1 = P
      · rw [hu p hp hb, hb]
        refine ⟨_, by rw [upd_ne (ne_of_none hP nC), upd_same], by rw [eL]; exact PySem.TriplesOk_snoc _ _ _ _ ht, fun p' cv hcv => ?_⟩
        rw [eL] at hcv
        rcases among_app2 _ ht hcv with z | ⟨z, z1, z2⟩
        · obtain ⟨c0, e1, e2⟩ := ha p' cv z
          exact ⟨c0, e1, hE _ _ e2 codeO_ne⟩
        · refine ⟨c', z, ?_⟩
          rw [← z1, ← z2, hn]
          exact upd_same
      · obtain ⟨ps', a1, a2, a3⟩ := hT p hp
        refine ⟨ps', by rw [upd_ne (ne_of_none a1 nC), upd_ne hb]; exact a1, a2, fun p' cv hcv => ?_⟩
        obtain ⟨c0, e1, e2⟩ := a3 p' cv hcv
        exact ⟨c0, e1, hE _ _ e2 codeO_ne⟩
    have nF := I1.hok.fresh (Nat.le_refl _)
    have I2 := inv_lam (F := ⟨"<lambda>", X.env.qual ++ "<lambda>", params, [], scope, cloFrom X.env.cells scope.names [], c'⟩) (b := body) (t' := tk) (pm := (X.mg "__name__").getD .none) (ctv := ctv) I1 rfl
    refine h h'.objs.size c' _ _ I2 (fun b o e n => ?_) (T1.ext fun b o e => ?_) (I.hok.fresh (Nat.le_trans hge (Nat.le_of_lt hlt))) upd_same ?_
    · have e1 := hE b o e n
      exact (upd_ne (ne_of_none e1 nF)).trans e1
    · exact (upd_ne (ne_of_none e nF)).trans e
    · exact (upd_ne (Nat.ne_of_lt hlt)).trans upd_same
  | some cv =>
    obtain ⟨c', e, hco⟩ := ha pos cv hc
    subst e
    rw [hn] at hco
    refine PySem.W.kla_makeFunctionHit (mg := X.mg) (c := c) (P := P) (ps := ps) (closure_ok hfree) I.ok.glob (I.mod.glob.keeps I.bk) hcode (TB.code.keeps I.bk) hP' ht hc bP fun ctv h' tk hx hsz => ?_
    have I1 : Inv X pins σ H { s with heap := h', toks := tk } := I.kept hx
    have nF : H h'.objs.size = none := I1.hok.fresh (Nat.le_refl _)
    have I2 := inv_lam (F := ⟨"<lambda>", X.env.qual ++ "<lambda>", params, [], scope, cloFrom X.env.cells scope.names [], c'⟩) (b := body) (t' := tk) (pm := (X.mg "__name__").getD .none) (ctv := ctv) I1 rfl
    refine h h'.objs.size c' _ _ I2 (fun b o e n => ?_) (hT.ext fun b o e => ?_) nF upd_same ?_
    · exact (upd_ne (ne_of_none e nF)).trans e
    · exact (upd_ne (ne_of_none e nF)).trans e
    · exact (upd_ne (ne_of_none hco nF)).trans hco
end
/-! ### bodies that end with a return, the slots told -/
abbrev TR := (V → L2.St → Hp → Prop) → L2.St → Hp → Prop
structure RS (X : Cx) (b : List Stmt) (t : TR) : Prop where
  run : ∀ (s : Shared) (σ : L2.St) (H : Hp) (Q : V → L2.St → Hp → Prop), Inv X [] σ H s → t Q σ H →
    wpAny (model X.prog X.w) X.A (execs b X.env) (fun fl s' => ∃ u v σ' H', fl = .ret u ∧ Inv X [] σ' H' s' ∧ RelV v u ∧ Q v σ' H') X.xe s
section
variable {X : Cx} {pos : Pos}
theorem rs_if {c : Expr} {a rest : List Stmt} {tc : TT} {ta tb : TR} (hc : PT X c tc) (ha : RS X a ta) (hb : RS X rest tb) : RS X (.If c a [] pos :: rest) (fun Q σ H => tc σ H fun b H1 => if b = true then ta Q σ H1 else tb Q σ H1) := by
  refine ⟨fun s σ H Q I h => ?_⟩
  refine wpAny_execs_cons (wpAny_If (thn (hc.run [] s σ H _ I h) fun d s1 ⟨H1, I1, q1⟩ => ?_))
  cases d with
  | true =>
    refine thn (ha.run s1 σ H1 Q I1 q1) fun fl s2 q => ?_
    obtain ⟨u, v, σ', H', rfl, q⟩ := q
    exact ⟨u, v, σ', H', rfl, q⟩
  | false => exact wpAny_execs_nil (hb.run s1 σ H1 Q I1 q1)
theorem rs_cons {st : Stmt} {rest : List Stmt} {t : TS} {tb : TR} (hs : PS X st t) (hb : RS X rest tb) : RS X (st :: rest) (fun Q σ H => t { nx := fun σ' H' => tb Q σ' H', rt := fun _ _ => False } σ H) := by
  refine ⟨fun s σ H Q I h => ?_⟩
  refine wpAny_execs_cons (thn (hs.run [] s σ H _ I h) fun f s1 q => ?_)
  cases f with
  | next =>
    obtain ⟨σ', H', I', q⟩ := q
    exact hb.run s1 σ' H' Q I' q
  | ret v => obtain ⟨_, _, _, _, _, q⟩ := q; exact q.elim
  | brk => obtain ⟨_, _, _, q⟩ := q; exact (show False from q).elim
  | cont => obtain ⟨_, _, _, q⟩ := q; exact (show False from q).elim
theorem rs_ret {e : Expr} {te : TE} (he : PE X e te) : RS X [.Return (some e) pos] (fun Q σ H => te σ H fun v H' => Q v σ H') := by
  refine ⟨fun s σ H Q I h => ?_⟩
  refine wpAny_execs_cons (wpAny_Return_some (thn (he.run [] s σ H _ I h) fun v s1 ⟨x, H1, I1, r1, q1⟩ => ?_))
  exact ⟨v, x, σ, H1, rfl, I1, r1, q1⟩
theorem rs_lam {T : List NTab} {nm : Nat → Nat → Str} {c P : Addr} {params : Arguments} {body : Expr} {scope : Scope} {lpos : Pos} (TB : TabB X.base X.mg c P) (hcode : X.env.code = .ref c)
    (hm : (P, nm) ∈ T) (hn : nm lpos.line lpos.col = X.env.qual ++ "<lambda>") (hu : ∀ p ∈ T, p.1 = P → p.2 = nm) (hdef : defaultsOf params X.env = ([], [])) (hfree : ∀ y ∈ scope.names, y.2 = .free → X.env.scope.names.lookup y.1 = some .cell ∨ X.env.scope.names.lookup y.1 = some .free) :
    RS X [.Return (some (.Lambda params body scope lpos)) pos] (fun Q σ H => TabsN T H ∧ ∀ (f c' : Addr) (H1 : Hp), ExtN H H1 → TabsN T H1 → H f = none → H1 f = some (LamO f ⟨"<lambda>", X.env.qual ++ "<lambda>", params, [], scope, cloFrom X.env.cells scope.names [], c'⟩ body) → H1 c' = some (CodeO c' (X.env.qual ++ "<lambda>")) → Q (.ref f) σ H1) := by
  refine ⟨fun s σ H Q I ⟨hT, h⟩ => ?_⟩
  have hfr : ∀ y ∈ scope.names, y.2 = .free → ∃ c, X.env.cells.lookup y.1 = some c := fun y hy e => (hfree y hy e).elim (fun z => I.ok.has _ (.inl z)) fun z => I.ok.has _ (.inr z)
  refine wpAny_execs_cons (wpAny_Return_some (lam_make I TB hcode hm hn hu hT hdef hfr fun f c' H1 s' I1 eN T1 f0 f1 c1 => ?_))
  exact ⟨.ref f, .ref f, σ, H1, rfl, I1, rfl, h f c' H1 eN T1 f0 f1 c1⟩
end
/-! ### the end: the cells are known from now on -/
/-- H with what is known of the cells of cs: those of the names fr, by the slots js -/
def withCells (H : Hp) (g : Addr → Option V) : Hp := fun b => match g b with
  | some v => some (CellO v b)
  | none => H b
theorem withCells_some {H : Hp} {g : Addr → Option V} {b : Addr} {v : V} (e : g b = some v) : withCells H g b = some (CellO v b) := by
  unfold withCells; rw [e]
theorem withCells_none {H : Hp} {g : Addr → Option V} {b : Addr} (e : g b = none) : withCells H g b = H b := by
  unfold withCells; rw [e]
theorem ce_cells {X : Cx} {σ : L2.St} {H' : Hp} {s' : Shared} {Q : VK} {v : V} {u : Value} {g : Addr → Option V} (I : Inv X [] σ H' s') (hex : X.ex = [])
    (hg : ∀ c x, g c = some x → X.s_0.heap.objs.size ≤ c ∧ H' c = none ∧ ∃ w, RelV x w ∧ s'.heap.IsCell c (some w)) (hok0 : HOk X.prog X.w X.H_0 X.s_0.heap) (r : RelV v u) (q : Q v (withCells H' g)) :
    CE X.outer X.prog X.w X.H_0 X.s_0 Q u s' := by
  have un : Un (frs X.outer) [] X.H_0 H' X.s_0.heap s'.heap := by
    have b := I.base
    rw [hex] at b
    exact b
  have old : ∀ b, b < X.s_0.heap.objs.size → g b = none := fun b hb => by
    cases e : g b with
    | none => rfl
    | some x => exact absurd (hg b x e).1 (by omega)
  have oldH : ∀ b o, X.H_0 b = some o → g b = none := fun b o e => old b (hok0 b o e).lt
  refine ⟨v, withCells H' g, I.os, I.bare, ⟨un.keep, un.slot, fun b o e n nx => ?_, un.there, fun b xs e => ?_, fun b o w e => ?_, fun b ps e => ?_⟩, fun b o e => ?_, r, q⟩
  · rw [withCells_none (old b (Heap.lt_size e))]
    exact un.free b o e n nx
  · rw [withCells_none (oldH b _ e)]
    exact un.tups b xs e
  · rw [withCells_none (oldH b _ e)]
    exact un.frzs b o w e
  · obtain ⟨more, hm⟩ := un.tbls b ps e
    exact ⟨more, by rw [withCells_none (oldH b _ e)]; exact hm⟩
  · cases eg : g b with
    | some x =>
      rw [withCells_some eg] at e
      cases e
      exact cellO_ok (hg b x eg).2.2
    | none =>
      rw [withCells_none eg] at e
      have nn : ∀ d o, H' d = some o → g d = none := fun d o q => by
        cases ed : g d with
        | none => rfl
        | some x => rw [(hg d x ed).2.1] at q; cases q
      exact (I.hok b o e).stay (fun _ _ _ q => q) (fun d q => by rw [withCells_none (nn d _ q)]; exact q) fun d xs q => by rw [withCells_none (nn d _ q)]; exact q
end RC
namespace RC
open PySem PySem.Spec PyProof.Rows L2 LamX NdefX Evl
/-! ### what the maker's cells hold -/
def gOf (cells : List (Str × Addr)) (fr : List Str) (vals : List V) (c : Addr) : Option V := ((fr.zip vals).find? fun p => decide (cells.lookup p.1 = some c)).map (·.2)
theorem gOf_some {cells : List (Str × Addr)} {fr : List Str} {vals : List V} {c : Addr} {v : V} (e : gOf cells fr vals c = some v) : ∃ (i : Nat) (y : Str), fr[i]? = some y ∧ vals[i]? = some v ∧ cells.lookup y = some c := by
  unfold gOf at e
  obtain ⟨p, hp, rfl⟩ := Option.map_eq_some_iff.mp e
  have h1 := List.find?_some hp
  obtain ⟨i, hi⟩ := List.mem_iff_getElem?.mp (List.mem_of_find?_eq_some hp)
  obtain ⟨h2, h3⟩ := List.getElem?_zip_eq_some.mp hi
  exact ⟨i, p.1, h2, h3, of_decide_eq_true h1⟩
theorem zip_nodup : ∀ {fr : List Str} {vals : List V} {i : Nat} {y : Str} {v w : V}, fr.Nodup → fr[i]? = some y → vals[i]? = some v → (y, w) ∈ fr.zip vals → v = w
  | [], _, _, _, _, _, _, h, _, _ => by simp at h
  | _ :: _, [], _, _, _, _, _, _, h, _ => by simp at h
  | a :: fr, x :: vals, 0, y, v, w, nd, h1, h2, h3 => by
    simp at h1 h2
    subst h1
    subst h2
    rw [List.zip_cons_cons] at h3
    rcases List.mem_cons.mp h3 with e | e
    · cases e; rfl
    · exact absurd (List.of_mem_zip e).1 (List.nodup_cons.mp nd).1
  | a :: fr, x :: vals, i + 1, y, v, w, nd, h1, h2, h3 => by
    rw [List.getElem?_cons_succ] at h1 h2
    rw [List.zip_cons_cons] at h3
    rcases List.mem_cons.mp h3 with e | e
    · cases e
      exact absurd (List.mem_of_getElem? h1) (List.nodup_cons.mp nd).1
    · exact zip_nodup (List.nodup_cons.mp nd).2 h1 h2 e
theorem gOf_at {cells : List (Str × Addr)} {fr : List Str} {vals : List V} {c : Addr} {i : Nat} {y : Str} {v : V} (inj : ∀ x y c, cells.lookup x = some c → cells.lookup y = some c → x = y) (nd : fr.Nodup) (h1 : fr[i]? = some y) (h2 : vals[i]? = some v) (h3 : cells.lookup y = some c) : gOf cells fr vals c = some v := by
  unfold gOf
  cases e : (fr.zip vals).find? fun p => decide (cells.lookup p.1 = some c) with
  | none =>
    have hz : (fr.zip vals)[i]? = some (y, v) := List.getElem?_zip_eq_some.mpr ⟨h1, h2⟩
    have := List.find?_eq_none.mp e _ (List.mem_of_getElem? hz)
    exact absurd (decide_eq_true h3) this
  | some p =>
    obtain ⟨a, w⟩ := p
    have e1 : cells.lookup a = some c := by
      have h0 := List.find?_some e
      exact of_decide_eq_true h0
    have ea := inj a y c e1 h3
    subst ea
    have := zip_nodup nd h1 h2 (List.mem_of_find?_eq_some e)
    rw [this] <;> rfl
/-- behind the maker's end: what was made can be called, the cells are known -/
theorem clo_made {X : Cx} {σ : L2.St} {H : Hp} {s : Shared} {nsc : Scope} {fr : List Str} {js : List Nat} {vals : List V} {f : Addr} {F : NF} {oe : Option Expr} (I : Inv X [] σ H s) (hnd : ndefB X.env.scope nsc fr = true) (hin : ∀ y ∈ nsc.names, y.2 = .free → y.1 ∈ fr)
    (hcell : ∀ y ∈ fr, X.env.scope.names.lookup y = some .cell) (hfn : ∀ y ∈ fr, X.fn y = true) (nd : fr.Nodup) (hjs : js.map (fun j => X.N[j]?) = fr.map some) (hv : js.map (fun j => σ[j]?) = vals.map fun v => some (some v)) (hcl : F.cl = cloFrom X.env.cells nsc.names [])
    (hf : H f = some (FobO f F oe)) (hc : H F.c = some (CodeO F.c F.qual)) :
    (∀ c x, gOf X.env.cells fr vals c = some x → X.s_0.heap.objs.size ≤ c ∧ H c = none ∧ ∃ w, RelV x w ∧ s.heap.IsCell c (some w)) ∧ (∀ b o, H b = some o → withCells H (gOf X.env.cells fr vals) b = some o) ∧ CloAt (withCells H (gOf X.env.cells fr vals)) f F oe fr vals := by
  have hfree : ∀ y ∈ nsc.names, y.2 = .free → ∃ c, X.env.cells.lookup y.1 = some c := fun y hy e => (ndef_free hnd y hy e).elim (fun z => I.ok.has _ (.inl z)) fun z => I.ok.has _ (.inr z)
  have l1 : js.length = fr.length := by
    have q := congrArg List.length hjs
    simpa using q
  have l2 : js.length = vals.length := by
    have q := congrArg List.length hv
    simpa using q
  have good : ∀ c x, gOf X.env.cells fr vals c = some x → X.s_0.heap.objs.size ≤ c ∧ H c = none ∧ ∃ w, RelV x w ∧ s.heap.IsCell c (some w) := fun c x e => by
    obtain ⟨i, y, h1, h2, h3⟩ := gOf_some e
    have hy := List.mem_of_getElem? h1
    refine ⟨I.ok.cab y c (hfn y hy) h3, I.freeC y c h3, ?_⟩
    obtain ⟨j, hj⟩ : ∃ j, js[i]? = some j := ⟨_, List.getElem?_eq_getElem (by rw [l1]; exact (List.getElem?_eq_some_iff.mp h1).1)⟩
    have e1 : X.N[j]? = some y := by
      have q := congrArg (fun l => l[i]?) hjs
      simp only [List.getElem?_map, hj, h1, Option.map_some] at q
      exact Option.some.inj q
    have e2 : σ[j]? = some (some x) := by
      have q := congrArg (fun l => l[i]?) hv
      simp only [List.getElem?_map, hj, h2, Option.map_some] at q
      exact Option.some.inj q
    obtain ⟨m, hn, hl⟩ := I.loc
    obtain ⟨u, r, l⟩ := hl j y x e1 e2 (.inr (.inl (hcell y hy)))
    rcases l with ⟨z, _⟩ | ⟨_, a', ha', hq⟩
    · have z' : X.env.scope.names.lookup y = some .local := z
      rw [hcell y hy] at z'
      cases z'
    · rw [h3] at ha'
      cases ha'
      exact ⟨u, r, hq⟩
  have up : ∀ b o, H b = some o → withCells H (gOf X.env.cells fr vals) b = some o := fun b o e => by
    cases eg : gOf X.env.cells fr vals b with
    | some x => rw [(good b x eg).2.1] at e; cases e
    | none => rw [withCells_none eg]; exact e
  have at_ : ∀ (i : Nat) (y : Str), fr[i]? = some y → ∃ c v, F.cl.lookup y = some c ∧ vals[i]? = some v ∧ withCells H (gOf X.env.cells fr vals) c = some (CellO v c) := fun i y hy => by
    obtain ⟨c, hc⟩ := I.ok.has y (.inl (hcell y (List.mem_of_getElem? hy)))
    obtain ⟨v, hv'⟩ : ∃ v, vals[i]? = some v := ⟨_, List.getElem?_eq_getElem (by rw [← l2, l1]; exact (List.getElem?_eq_some_iff.mp hy).1)⟩
    refine ⟨c, v, ?_, hv', withCells_some (gOf_at I.ok.inj nd hy hv' hc)⟩
    rw [hcl]
    exact clo_has hfree (ndef_fr hnd y (List.mem_of_getElem? hy)) hc
  refine ⟨good, up, up _ _ hf, up _ _ hc, by rw [← l2, l1], fun x y c h1 h2 => ?_, fun p hp => ?_, at_⟩
  · rw [hcl] at h1 h2
    exact I.ok.inj x y c (clo_cm hfree h1) (clo_cm hfree h2)
  · rw [hcl] at hp
    obtain ⟨y, c⟩ := p
    rcases cloFrom_mem hp with hm | ⟨h1, h2⟩
    · cases hm
    · obtain ⟨c1, hc1⟩ := hfree _ h1 rfl
      have hc1 : X.env.cells.lookup y = some c1 := hc1
      have e2 : c = c1 := by
        have h2 : c = (X.env.cells.lookup y).getD 0 := h2
        rw [h2, hc1] <;> rfl
      subst e2
      obtain ⟨i, hi⟩ := List.mem_iff_getElem?.mp (hin _ h1 rfl)
      obtain ⟨c', v, _, hv', _⟩ := at_ i y hi
      exact ⟨v, withCells_some (gOf_at I.ok.inj nd hi hv' hc1)⟩
/-! ### the rule -/
/-- where the def st stands, with its code object -/
def AtC (K : PySem.W.Frag) (mg : Str → Option Value) (x : Str) (st : Stmt) (c : Addr) : Prop := ∃ f fd, mg x = some (.ref f) ∧ FunD K x x (defArgs st) (defBody st) (defScope st) [] [] f fd ∧ fd.code = .ref c
section
variable {P : Program} {w : World} {K : PySem.W.Frag} {mg : Str → Option Value} {base : Heap}
theorem mk_of {x : Str} {st : Stmt} {N ps : List Str} {k : Nat} {sp : Sp} {c : Addr} (F : AtC K mg x st c) (S : FnScope N ps (defScope st))
    (hbind : ∀ (kV doc pm : Value) (an : Option Addr) (cdv ct : Value) (us : List Value), us.length = ps.length → bindArgs (PySem.W.fnOf x x (defArgs st) (defBody st) (defScope st) .none kV doc pm an cdv ct) ⟨us, []⟩ = pure (ps.zip us))
    (len : ∀ vs H Q E, sp vs H Q E → vs.length = ps.length)
    (hbody : ∀ (f : Addr) (A : Around) (outer : List Env) (s : Shared) (H : Hp) (vs : List V) (Q : VK) (E : XK), Room k (A.deeper (envOfC x (defScope st) s.heap.objs.size f (.ref c))) → sp vs H Q E →
      ∃ t, RS (cxOf CX0 P w K mg base N x (defScope st) f (.ref c) A outer s H E) (defBody st) t ∧ t (fun v σ' H' => ∀ s', Inv (cxOf CX0 P w K mg base N x (defScope st) f (.ref c) A outer s H E) [] σ' H' s' →
        ∃ g : Addr → Option V, (∀ c x, g c = some x → s.heap.objs.size ≤ c ∧ H' c = none ∧ ∃ w, RelV x w ∧ s'.heap.IsCell c (some w)) ∧ Q v (withCells H' g)) (start N vs) H) : RF.Ok P w K mg base x (k + 1) ps sp := by
  obtain ⟨f, fd, hm, F, hcode⟩ := F
  have F0 := F
  obtain ⟨oc, od, dV, kV, doc, pm, an, cdv, ct, osl, rfl, lk, hcd, _, _⟩ := F.ex
  have ecd : cdv = .ref c := hcode
  subst ecd
  refine ⟨⟨f, _, ⟨len, fun A outer s H args us vs Q E hr e0 hb r hsp => ?_⟩, hm, F0.kp, F0.bindsN hbind⟩⟩
  have hl := len _ _ _ _ hsp
  have KX : K.In s.heap := e0.mod.kin.keeps fun b o e => (e0.bs b o e).1
  have lim : s.heap.NoLimit := e0.mod.nolimit.keeps fun b o e => (e0.bs b o e).1
  have hkind : ∀ y ∈ ps.zip us, (defScope st).names.lookup y.1 = some .local ∨ ((defScope st).names.lookup y.1 = some .cell ∧ ((cellsFrom (s.heap.objs.size + 1) (defScope st).names []).lookup y.1).isSome = true) := fun ⟨n, v⟩ hy => by
    rcases S.par n (List.of_mem_zip hy).1 with q | q
    · exact .inl q
    · exact .inr ⟨q, PySem.W.cellsFrom_some _ _ _ (.inl q)⟩
  refine codeAny_call_function hr.depth (KX _ _ lk) rfl S.co S.gen rfl (PySem.W.codeRec_of KX hcd) (hb _ _ _ _ ?_)
  refine wpAny_newFunctionEnv_cells S.kind hkind fun env he s1 x => ?_
  subst he
  refine ⟨lim.keeps x.toInCall.keep, codeAny_func ?_⟩
  obtain ⟨t, ht, hq⟩ := hbody f A outer s H vs Q E (hr.deeper _) hsp
  have I := inv_start (CX := CX0) (P := P) (w := w) (K := K) (mg := mg) (base := base) (N := N) (E := E) S hr.hd e0 hl r x
  refine wpAny_mono (ht.run s1 (start N vs) H _ I hq) (fun fl s' hs => ?_) fun e s' hs => hs
  obtain ⟨u, v, σ', H', rfl, J, rv, q⟩ := hs
  obtain ⟨g, hg, q⟩ := q s' J
  exact ce_cells J rfl hg e0.hok rv q
end
end RC

set_option Elab.async false
set_option linter.all false
set_option maxRecDepth 100000
set_option maxHeartbeats 4000000
namespace RF
open PySem PySem.Spec PyProof.Rows L2 Evl RM RC LamX NdefX
/-! ### the rules as functions -/
def wdS : Word → Str
  | .plain => "plain"
  | .soon => "soon"
  | .sure => "sure"
  | .together => "together"
def wdI : Word → Nat
  | .plain => 0
  | .soon => 1
  | .sure => 2
  | .together => 3
def noE : Expr := .Name "x" ⟨0, 0, 0, 0⟩
def lamE : Stmt → Expr
  | .Return (some e) _ => e
  | .If _ (.Return (some e) _ :: _) _ _ => e
  | _ => noE
def lamA : Expr → Arguments
  | .Lambda p _ _ _ => p
  | _ => defArgs (.Pass ⟨0, 0, 0, 0⟩)
def lamB : Expr → Expr
  | .Lambda _ b _ _ => b
  | _ => noE
def lamSc : Expr → Scope
  | .Lambda _ _ s _ => s
  | _ => defScope (.Pass ⟨0, 0, 0, 0⟩)
def rl (w : Word) : Expr := lamE ((defBody s_rule_by).getD (wdI w) (.Pass ⟨0, 0, 0, 0⟩))
def lr : Stmt := (defBody s_law_rule).getD 0 (.Pass ⟨0, 0, 0, 0⟩)
def sp_rule (K : PySem.W.Frag) (wd : Word) (b : Nat) : Sp := fun vs H Q _ => ∃ (k : Nat) (v : Vw k) (x : V), vs = [x] ∧ Rp K H (eV v) x ∧ v.wf ∧ k ≤ 2 ∧ ∀ H', Ex H H' → Q (oi (RM.rule wd b ⟨k, v⟩)) H'
abbrev Fl (wd : Word) (q : Str) (cl : List (Str × Addr)) (c' : Addr) : NF := ⟨"<lambda>", q, lamA (rl wd), [], lamSc (rl wd), cl, c'⟩
abbrev Fd (q : Str) (cl : List (Str × Addr)) (c' : Addr) : NF := ⟨"_law_told_here", q, defArgs lr, defBody lr, defScope lr, cl, c'⟩
/-- f is the rule wd with the bound b -/
def RuleF (H : Hp) (f : Addr) (wd : Word) (b : Nat) : Prop := (∃ q cl c', CloAt H f (Fl wd q cl c') (some (lamB (rl wd))) ["bound"] [.int b]) ∨ (∃ q cl c', CloAt H f (Fd q cl c') none ["_law_word", "_law_bound"] [.str (wdS wd), .int b])
theorem RuleF.ext {H H' : Hp} {f : Addr} {wd : Word} {b : Nat} (h : RuleF H f wd b) (e : ExtN H H') : RuleF H' f wd b := by
  rcases h with ⟨q, cl, c', h⟩ | ⟨q, cl, c', h⟩
  · exact .inl ⟨q, cl, c', h.ext e⟩
  · exact .inr ⟨q, cl, c', h.ext e⟩
theorem extN_of {H H' : Hp} (e : Ex H H') : ExtN H H' := fun b o h _ => e b o h
theorem RuleF.up {H H' : Hp} {f : Addr} {wd : Word} {b : Nat} (h : RuleF H f wd b) (e : Ex H H') : RuleF H' f wd b := h.ext (extN_of e)
def GRule (K : PySem.W.Frag) (H : Hp) (f : Addr) (sp : Sp) : Prop := ∃ wd b, RuleF H f wd b ∧ sp = sp_rule K wd b
theorem exT_minus {H : Hp} {cs : List Addr} (C : Cells H cs) : ExT H (minus H cs) := fun a xs h => by
  rcases h with h | ⟨u, h⟩
  · exact .inl (C.keep h fun v z => by unfold CellO at z; cases z)
  · exact .inr ⟨u, C.keep h fun v z => by unfold CellO at z; cases z⟩
theorem ex_plus {H H' : Hp} {cs : List Addr} (e : Ex (minus H cs) H') : Ex H (plus H H' cs) := fun b o h => by
  by_cases hb : b ∈ cs
  · rw [plus_in hb]; exact h
  · rw [plus_out hb]; exact e b o (by rw [minus_out hb]; exact h)
theorem sp_rule_minus {K : PySem.W.Frag} {wd : Word} {b : Nat} {vs : List V} {H : Hp} {Q : VK} {E : XK} {cs : List Addr} (C : Cells H cs) (h : sp_rule K wd b vs H Q E) : sp_rule K wd b vs (minus H cs) (fun v H' => Q v (plus H H' cs)) E := by
  obtain ⟨k, v, x, e, hx, hw, hk, q⟩ := h
  exact ⟨k, v, x, e, hx.upT (exT_minus C), hw, hk, fun H' e => q _ (ex_plus e)⟩
abbrev N_lam : List Str := ["view", "bound"]
abbrev N_told : List Str := ["_law_view", "_law_word", "_law_bound"]
section
variable {P : Program} {w : World} {K : PySem.W.Frag} {mg : Str → Option Value} {base : Heap}
theorem lam_sc (wd : Word) : NScope N_lam ["view"] ["bound"] (lamSc (rl wd)) := nscope_by (by cases wd <;> decide +kernel)
theorem cok_rl (T : Txt P w K mg base) (wd : Word) (b : Nat) (f : Addr) (q : Str) (cl : List (Str × Addr)) (c' : Addr) : COk P w K mg base (7 + 1) f (Fl wd q cl c') (some (lamB (rl wd))) ["view"] ["bound"] (fun ws vs H Q E => ws = [some (.int b)] ∧ sp_rule K wd b vs H Q E) := by
  refine cok_lam (N := N_lam) (lam_sc wd) (fun _ _ us hl => ?_) (fun ws vs H Q E h => ?_) (fun A outer s H vs ws Q E hr hl h => ?_)
  · cases wd <;> exact match us, hl with | [_], _ => rfl
  · obtain ⟨_, k, v, x, rfl, _⟩ := h
    rfl
  · obtain ⟨rfl, k, v, x, rfl, hx, hw, hk, kq⟩ := h
    cases wd
    · exact ⟨_, pc (ok_plain T) hr (pa_cons (pv 0) (pa_cons (pv 1) pa_nil)), _, rfl, _, rfl, k, v, b, x, rfl, hx, hw, hk, kq⟩
    · exact ⟨_, pc (ok_soon T) hr (pa_cons (pv 0) (pa_cons (pv 1) pa_nil)), _, rfl, _, rfl, k, v, b, x, rfl, hx, hw, hk, kq⟩
    · exact ⟨_, pc (ok_sure T) hr (pa_cons (pv 0) (pa_cons (pv 1) pa_nil)), _, rfl, _, rfl, k, v, b, x, rfl, hx, hw, hk, kq⟩
    · exact ⟨_, pc (ok_together T) hr (pa_cons (pv 0) (pa_cons (pv 1) pa_nil)), _, rfl, _, rfl, k, v, b, x, rfl, hx, hw, hk, kq⟩
theorem told_sc : NScope N_told ["_law_view"] ["_law_word", "_law_bound"] (defScope lr) := nscope_by (by decide +kernel)
theorem nok_lr (T : Txt P w K mg base) (wd : Word) (b : Nat) (f : Addr) (q : Str) (cl : List (Str × Addr)) (c' : Addr) : NOk P w K mg base CX0 (7 + 1) f (Fd q cl c') ["_law_view"] ["_law_word", "_law_bound"] (fun ws vs H Q E => ws = [some (.str (wdS wd)), some (.int b)] ∧ sp_rule K wd b vs H Q E) := by
  refine nok_of (N := N_told) told_sc (fun _ _ _ us hl => ?_) (fun ws vs H Q E h => ?_) (fun A outer s H vs ws Q E hr hf hc hl h => ?_)
  · exact match us, hl with | [_], _ => rfl
  · obtain ⟨_, k, v, x, rfl, _⟩ := h
    rfl
  · obtain ⟨rfl, k, v, x, rfl, hx, hw, hk, kq⟩ := h
    refine ⟨_, pss_cons (ps_if (pt_cmpR op_eq (pv 1) pe_str (by first | rfl | exact nomark _)) (pss_one (ps_ret (pc (ok_plain T) hr (pa_cons (pv 0) (pa_cons (pv 2) pa_nil))))) pss_nil)
      (pss_cons (ps_if (pt_cmpR op_eq (pv 1) pe_str (by first | rfl | exact nomark _)) (pss_one (ps_ret (pc (ok_soon T) hr (pa_cons (pv 0) (pa_cons (pv 2) pa_nil))))) pss_nil)
      (pss_cons (ps_if (pt_cmpR op_eq (pv 1) pe_str (by first | rfl | exact nomark _)) (pss_one (ps_ret (pc (ok_sure T) hr (pa_cons (pv 0) (pa_cons (pv 2) pa_nil))))) pss_nil)
      (pss_one (ps_ret (pc (ok_together T) hr (pa_cons (pv 0) (pa_cons (pv 2) pa_nil))))))), ?_⟩
    cases wd
    · exact ⟨_, rfl, rfl, true, rfl, iteT ⟨_, rfl, _, rfl, k, v, b, x, rfl, hx, hw, hk, kq⟩⟩
    · exact ⟨_, rfl, rfl, false, rfl, iteF ⟨_, rfl, rfl, true, rfl, iteT ⟨_, rfl, _, rfl, k, v, b, x, rfl, hx, hw, hk, kq⟩⟩⟩
    · exact ⟨_, rfl, rfl, false, rfl, iteF ⟨_, rfl, rfl, false, rfl, iteF ⟨_, rfl, rfl, true, rfl, iteT ⟨_, rfl, _, rfl, k, v, b, x, rfl, hx, hw, hk, kq⟩⟩⟩⟩
    · exact ⟨_, rfl, rfl, false, rfl, iteF ⟨_, rfl, rfl, false, rfl, iteF ⟨_, rfl, rfl, false, rfl, iteF ⟨_, rfl, _, rfl, k, v, b, x, rfl, hx, hw, hk, kq⟩⟩⟩⟩
theorem callRule (T : Txt P w K mg base) : Callable P w K mg base (7 + 1) (GRule K) := by
  rintro H f sp ⟨wd, b, h, rfl⟩
  rcases h with ⟨q, cl, c', h⟩ | ⟨q, cl, c', h⟩
  · exact ⟨_, _, _, _, _, _, h, cok_rl T wd b f q cl c', fun vs Q hq => ⟨rfl, sp_rule_minus h.cells hq⟩⟩
  · exact ⟨_, _, _, _, _, _, h, cok_of (nok_lr T wd b f q cl c'), fun vs Q hq => ⟨rfl, sp_rule_minus h.cells hq⟩⟩
/-! ### the makers -/
structure Tbs (K : PySem.W.Frag) (mg : Str → Option Value) (base : Heap) (c1 P1 c2 P2 : Addr) : Prop where
  at1 : AtC K mg "rule_by" s_rule_by c1
  at2 : AtC K mg "_law_rule" s_law_rule c2
  tb1 : TabB base mg c1 P1
  tb2 : TabB base mg c2 P2
  ne : P1 ≠ P2
def nm1 : Nat → Nat → Str := fun _ _ => "rule_by.<locals>.<lambda>"
def nm2 : Nat → Nat → Str := fun _ _ => "_law_rule.<locals>._law_told_here"
abbrev Tl (P1 P2 : Addr) : List NTab := [(P1, nm1), (P2, nm2)]
def sp_rule_by (P1 P2 : Addr) : Sp := fun vs H Q _ => ∃ (wd : Word) (b : Nat), vs = [.str (wdS wd), .int b] ∧ TabsN (Tl P1 P2) H ∧ ∀ f H', ExtN H H' → TabsN (Tl P1 P2) H' → RuleF H' f wd b → Q (.ref f) H'
abbrev N_rule_by : List Str := ["word", "bound"]
theorem sc_rule_by : FnScope N_rule_by ["word", "bound"] (defScope s_rule_by) := ⟨rfl, rfl, rfl, by decide +kernel, rfl, by decide +kernel, by decide +kernel⟩
variable {c1 P1 c2 P2 : Addr}
theorem nd1 (wd : Word) : ndefB (defScope s_rule_by) (lamSc (rl wd)) ["bound"] = true := by cases wd <;> decide +kernel
theorem cl1 : ∀ y ∈ (["bound"] : List Str), (defScope s_rule_by).names.lookup y = some .cell := by decide +kernel
theorem nd2 : ndefB (defScope s_law_rule) (defScope lr) ["_law_word", "_law_bound"] = true := by decide +kernel
theorem cl2 : ∀ y ∈ (["_law_word", "_law_bound"] : List Str), (defScope s_law_rule).names.lookup y = some .cell := by decide +kernel
theorem ok_rule_by (T : Txt P w K mg base) (B : Tbs K mg base c1 P1 c2 P2) : Ok P w K mg base "rule_by" (0 + 1) ["word", "bound"] (sp_rule_by P1 P2) := by
  refine mk_of B.at1 sc_rule_by (fun _ _ _ _ _ _ us hl => match us, hl with | [_, _], _ => rfl) (fun vs H Q E h => ?_) (fun f A outer s H vs Q E hr h => ?_)
  · obtain ⟨wd, b, rfl, _⟩ := h
    rfl
  · obtain ⟨wd, b, rfl, hT, kq⟩ := h
    have hu : ∀ p ∈ Tl P1 P2, p.1 = P1 → p.2 = nm1 := fun p hp e => by
      rcases List.mem_cons.mp hp with z | z
      · rw [z]
      · rw [List.mem_singleton.mp z] at e
        exact absurd e.symm B.ne
    have fin : ∀ (wd : Word) (f' c' : Addr) (H1 : Hp) (σ : L2.St), σ = [some (.str (wdS wd)), some (.int b)] → ExtN H H1 → TabsN (Tl P1 P2) H1 → (∀ f H', ExtN H H' → TabsN (Tl P1 P2) H' → RuleF H' f wd b → Q (.ref f) H') →
        H1 f' = some (LamO f' (Fl wd ((cxOf CX0 P w K mg base N_rule_by "rule_by" (defScope s_rule_by) f (.ref c1) A outer s H E).env.qual ++ "<lambda>") (cloFrom (cxOf CX0 P w K mg base N_rule_by "rule_by" (defScope s_rule_by) f (.ref c1) A outer s H E).env.cells (lamSc (rl wd)).names []) c') (lamB (rl wd))) →
        H1 c' = some (CodeO c' ((cxOf CX0 P w K mg base N_rule_by "rule_by" (defScope s_rule_by) f (.ref c1) A outer s H E).env.qual ++ "<lambda>")) →
        ∀ s', Inv (cxOf CX0 P w K mg base N_rule_by "rule_by" (defScope s_rule_by) f (.ref c1) A outer s H E) [] σ H1 s' → ∃ g : Addr → Option V, (∀ c x, g c = some x → s.heap.objs.size ≤ c ∧ H1 c = none ∧ ∃ w, RelV x w ∧ s'.heap.IsCell c (some w)) ∧ Q (.ref f') (withCells H1 g) := by
      intro wd f' c' H1 σ eσ eN T1 kq hf hc s' I
      subst eσ
      obtain ⟨g1, g2, g3⟩ := clo_made (nsc := lamSc (rl wd)) (fr := ["bound"]) (js := [1]) (vals := [.int b]) (f := f') (F := Fl wd _ _ c') (oe := some (lamB (rl wd))) I (nd1 wd) (by cases wd <;> decide +kernel) cl1 (fun _ _ => rfl) (by decide) rfl rfl rfl hf hc
      exact ⟨_, g1, kq f' _ (eN.trans (ExtN.of g2)) (T1.ext g2) (.inl ⟨_, _, _, g3⟩)⟩
    have lam : ∀ wd, rl wd = .Lambda (lamA (rl wd)) (lamB (rl wd)) (lamSc (rl wd)) (match rl wd with | .Lambda _ _ _ p => p | _ => ⟨0, 0, 0, 0⟩) := fun wd => by cases wd <;> rfl
    refine ⟨_, rs_if (pt_cmpR op_eq (pv 0) pe_str (by first | rfl | exact nomark _)) (rs_lam (T := Tl P1 P2) (nm := nm1) B.tb1 rfl (.head _) rfl hu rfl (ndef_free (nd1 .plain)))
      (rs_if (pt_cmpR op_eq (pv 0) pe_str (by first | rfl | exact nomark _)) (rs_lam (T := Tl P1 P2) (nm := nm1) B.tb1 rfl (.head _) rfl hu rfl (ndef_free (nd1 .soon)))
      (rs_if (pt_cmpR op_eq (pv 0) pe_str (by first | rfl | exact nomark _)) (rs_lam (T := Tl P1 P2) (nm := nm1) B.tb1 rfl (.head _) rfl hu rfl (ndef_free (nd1 .sure)))
      (rs_lam (T := Tl P1 P2) (nm := nm1) B.tb1 rfl (.head _) rfl hu rfl (ndef_free (nd1 .together))))), ?_⟩
    cases wd
    · exact ⟨_, rfl, rfl, true, rfl, iteT ⟨hT, fun f' c' H1 eN T1 _ hf hc => fin .plain f' c' H1 _ rfl eN T1 kq hf hc⟩⟩
    · exact ⟨_, rfl, rfl, false, rfl, iteF ⟨_, rfl, rfl, true, rfl, iteT ⟨hT, fun f' c' H1 eN T1 _ hf hc => fin .soon f' c' H1 _ rfl eN T1 kq hf hc⟩⟩⟩
    · exact ⟨_, rfl, rfl, false, rfl, iteF ⟨_, rfl, rfl, false, rfl, iteF ⟨_, rfl, rfl, true, rfl, iteT ⟨hT, fun f' c' H1 eN T1 _ hf hc => fin .sure f' c' H1 _ rfl eN T1 kq hf hc⟩⟩⟩⟩
    · exact ⟨_, rfl, rfl, false, rfl, iteF ⟨_, rfl, rfl, false, rfl, iteF ⟨_, rfl, rfl, false, rfl, iteF ⟨hT, fun f' c' H1 eN T1 _ hf hc => fin .together f' c' H1 _ rfl eN T1 kq hf hc⟩⟩⟩⟩
abbrev N_law_rule : List Str := ["_law_word", "_law_bound", "_law_told_here"]
theorem sc_law_rule : FnScope N_law_rule ["_law_word", "_law_bound"] (defScope s_law_rule) := ⟨rfl, rfl, rfl, by decide +kernel, rfl, by decide +kernel, by decide +kernel⟩
theorem ok_law_rule (T : Txt P w K mg base) (B : Tbs K mg base c1 P1 c2 P2) : Ok P w K mg base "_law_rule" (0 + 1) ["_law_word", "_law_bound"] (sp_rule_by P1 P2) := by
  refine mk_of B.at2 sc_law_rule (fun _ _ _ _ _ _ us hl => match us, hl with | [_, _], _ => rfl) (fun vs H Q E h => ?_) (fun f A outer s H vs Q E hr h => ?_)
  · obtain ⟨wd, b, rfl, _⟩ := h
    rfl
  · obtain ⟨wd, b, rfl, hT, kq⟩ := h
    have hu : ∀ p ∈ Tl P1 P2, p.1 = P2 → p.2 = nm2 := fun p hp e => by
      rcases List.mem_cons.mp hp with z | z
      · rw [z] at e
        exact absurd e B.ne
      · rw [List.mem_singleton.mp z]
    refine ⟨_, rs_cons (ps_ndefS (st := lr) (i := 2) (T := Tl P1 P2) (nm := nm2) (name := "_law_told_here") (pos := match lr with | .FunctionDef _ _ _ _ _ _ _ _ _ p => p | _ => ⟨0, 0, 0, 0⟩) rfl B.tb2 rfl (.tail _ (.head _)) rfl hu (ndef_free nd2) rfl rfl rfl sc_law_rule.nd rfl (by first | exact Or.inl rfl | exact Or.inr rfl) (by first | exact Or.inl rfl | exact Or.inr rfl)) (rs_ret (pv 2)), ?_⟩
    refine ⟨hT, fun f' c' H1 eN T1 _ hf hc => ⟨_, rfl, fun s' I => ?_⟩⟩
    obtain ⟨g1, g2, g3⟩ := clo_made (nsc := defScope lr) (fr := ["_law_word", "_law_bound"]) (js := [0, 1]) (vals := [.str (wdS wd), .int b]) (f := f') (F := Fd _ _ c') (oe := none) I nd2 (by decide +kernel) cl2 (fun _ _ => rfl) (by decide) rfl rfl rfl hf hc
    exact ⟨_, g1, kq f' _ (eN.trans (ExtN.of g2)) (T1.ext g2) (.inr ⟨_, _, _, g3⟩)⟩
end
end RF

set_option Elab.async false
set_option linter.all false
namespace RF
open RM
theorem isUp_mono {r : Rn} {h j k : Nat} (hjk : j ≤ k) (u : isUp r h k = true) : isUp r h j = true := by
  unfold isUp at u ⊢
  split
  · rfl
  · rename_i f e
    rw [e] at u
    have := of_decide_eq_true u
    exact decide_eq_true (by omega)
theorem views_succ (r : Rn) (k : Nat) : views r (k + 1) = (List.range r.1.length).map fun h => nextView r (views r k) h (k + 1) := rfl
theorem views_some {r : Rn} : ∀ (k h : Nat), h < r.1.length → isUp r h k = true → ∃ v, (views r k)[h]? = some (some v)
  | 0, h, hh, _ => ⟨(h, r.1.getD h 0), by unfold views; rw [List.getElem?_map, List.getElem?_range hh]; rfl⟩
  | k + 1, h, hh, u => by
    refine ⟨(h, (List.range r.1.length).map fun o => if o = h ∨ comes r o h (k + 1) = true then ((views r k)[o]?).getD none else none), ?_⟩
    rw [views_succ, List.getElem?_map, List.getElem?_range hh]
    show some (nextView r (views r k) h (k + 1)) = _
    unfold nextView
    rw [if_pos u]
theorem views_get {r : Rn} {k h : Nat} {v : Vw (k + 1)} (e : (views r (k + 1))[h]? = some (some v)) : h < r.1.length ∧ isUp r h (k + 1) = true ∧ v = (h, (List.range r.1.length).map fun o => if o = h ∨ comes r o h (k + 1) = true then ((views r k)[o]?).getD none else none) := by
  rw [views_succ, List.getElem?_map] at e
  obtain ⟨x, hx, e⟩ := Option.map_eq_some_iff.mp e
  have hlt : h < r.1.length := by
    have := (List.getElem?_eq_some_iff.mp hx).1
    rwa [List.length_range] at this
  rw [List.getElem?_range hlt] at hx
  cases hx
  unfold nextView at e
  by_cases u : isUp r h (k + 1) = true
  · rw [if_pos u] at e
    exact ⟨hlt, u, (Option.some.inj e).symm⟩
  · rw [if_neg u] at e
    cases e
theorem views_get0 {r : Rn} {h : Nat} {v : Vw 0} (e : (views r 0)[h]? = some (some v)) : h < r.1.length ∧ v = (h, r.1.getD h 0) := by
  unfold views at e
  rw [List.getElem?_map] at e
  obtain ⟨x, hx, e⟩ := Option.map_eq_some_iff.mp e
  have hlt : h < r.1.length := by
    have := (List.getElem?_eq_some_iff.mp hx).1
    rwa [List.length_range] at this
  rw [List.getElem?_range hlt] at hx
  cases hx
  exact ⟨hlt, (Option.some.inj e).symm⟩
theorem views_wf {r : Rn} (hi : r.1.length ≤ 5) : ∀ (k h : Nat) (v : Vw k), (views r k)[h]? = some (some v) → v.wf ∧ Vw.hand v = h
  | 0, h, v, e => by
    obtain ⟨h1, rfl⟩ := views_get0 e
    exact ⟨show h < 5 by omega, rfl⟩
  | k + 1, h, v, e => by
    obtain ⟨h1, h2, rfl⟩ := views_get e
    refine ⟨⟨?_, ?_, fun w hw => ?_⟩, rfl⟩
    · show ((List.range r.1.length).map _).length ≤ 5
      rw [List.length_map, List.length_range]; exact hi
    · obtain ⟨w, hw⟩ := views_some k h h1 (isUp_mono (Nat.le_succ k) h2)
      refine ⟨w, ?_⟩
      show ((List.range r.1.length).map _)[h]? = _
      rw [List.getElem?_map, List.getElem?_range h1]
      show some (if h = h ∨ _ then _ else _) = _
      rw [if_pos (.inl rfl), hw]
      rfl
    · obtain ⟨o, ho, e⟩ := List.mem_map.mp hw
      split at e
      · cases eo : (views r k)[o]? with
        | none => rw [eo] at e; cases e
        | some z =>
          rw [eo] at e
          have e : z = some w := e
          subst e
          exact (views_wf hi k o w eo).1
      · cases e
theorem viewAt_eq {r : Rn} {k h : Nat} {v : Vw k} (e : (views r k)[h]? = some (some v)) : viewAt r k h = v := by
  unfold viewAt
  rw [e]
  rfl
theorem whoUp_mem {r : Rn} {k h : Nat} : h ∈ whoUp r k ↔ h < r.1.length ∧ isUp r h k = true := by
  unfold whoUp
  rw [List.mem_filter, List.mem_range]
end RF

set_option Elab.async false
set_option linter.all false
set_option maxRecDepth 100000
set_option maxHeartbeats 4000000
namespace RF
open PySem PySem.Spec PyProof.Rows L2 Evl RM RC
def eC : Option (Nat × Int) → D
  | none => .non
  | some (j, n) => .tup [.int j, .int n]
def oD : Option Int → D
  | none => .non
  | some n => .int n
def eT (t : Nat × Option Int) : D := .tup [.int t.1, oD t.2]
section
variable {K : PySem.W.Frag} {H : Hp}
theorem oD_rp (o : Option Int) : Rp K H (oD o) (oi o) := by
  cases o with
  | none => exact .non
  | some n => exact .int n
theorem oD_iff {o : Option Int} {v : V} (h : Rp K H (oD o) v) : v = oi o := by
  cases o with
  | none => exact Rp.non_iff.mp h
  | some n => exact Rp.int_iff.mp h
theorem eT_get {t : Nat × Option Int} {x : V} (h : Rp K H (eT t) x) : ∃ a, x = .ref a ∧ SqT K H a [.int t.1, oi t.2] := by
  unfold eT at h
  obtain ⟨a, xs, rfl, h2, h3⟩ := Rp.tup_iff.mp h
  obtain ⟨x1, r1, rfl, g1, h3⟩ := RpL.cons_iff.mp h3
  obtain ⟨x2, r2, rfl, g2, h3⟩ := RpL.cons_iff.mp h3
  have e := RpL.nil_iff.mp h3
  subst e
  rw [Rp.int_iff.mp g1, oD_iff g2] at h2
  exact ⟨a, rfl, h2⟩
theorem eT_mk {t : Nat × Option Int} {a : Addr} (h : SqT K H a [.int t.1, oi t.2]) : Rp K H (eT t) (.ref a) := .tup h (.cons (.int _) (.one (oD_rp _)))
theorem oi_eq (a b : Option Int) : decide (oi a = oi b) = decide (a = b) := by
  cases a <;> cases b <;> simp [oi]
/-- all but l stays -/
def ExB (l : Addr) (H H' : Hp) : Prop := ∀ b o, b ≠ l → H b = some o → H' b = some o
theorem ExB.refl (l : Addr) (H : Hp) : ExB l H H := fun _ _ _ h => h
theorem ExB.trans {l : Addr} {H H1 H2 : Hp} (a : ExB l H H1) (b : ExB l H1 H2) : ExB l H H2 := fun c o n h => b c o n (a c o n h)
theorem ExB.of {l : Addr} {H H' : Hp} (e : Ex H H') : ExB l H H' := fun b o _ h => e b o h
theorem ExB.set {l : Addr} {H : Hp} {o : HO} : ExB l H (upd H l o) := fun b u n h => by rw [upd_ne n]; exact h
theorem ExB.ex {l : Addr} {H H2 H' : Hp} (e : Ex H H2) (n : H l = none) (b : ExB l H2 H') : Ex H H' := fun c o h => b c o (ne_of_none h n) (e c o h)
theorem ExB.exT {l : Addr} {H H' : Hp} {ys : List V} (hl : H l = some (.lst ys)) (b : ExB l H H') : ExT H H' := fun a xs h => by
  rcases h with h | ⟨u, h⟩
  · exact .inl (b _ _ (fun z => by rw [z, hl] at h; cases h) h)
  · exact .inr ⟨u, b _ _ (fun z => by rw [z, hl] at h; cases h) h⟩
theorem oi_scal (a b : Option Int) : scal (oi a) (oi b) = true := by
  cases a <;> cases b <;> rfl
end
section
variable {P : Program} {w : World} {K : PySem.W.Frag} {mg : Str → Option Value} {base : Heap}
theorem choice_none {f : AV → Option Int} {a : AV} : ∀ (n k : Nat), (∀ j < n, f (ownPast a (k + j)) = none) → choiceFrom f a k n = none
  | 0, _, _ => rfl
  | n + 1, k, h => by
    unfold choiceFrom
    rw [show f (ownPast a k) = none from h 0 (by omega)]
    exact choice_none n (k + 1) fun j hj => by
      have := h (j + 1) (by omega)
      rwa [show k + (j + 1) = k + 1 + j by omega] at this
theorem choice_some {f : AV → Option Int} {a : AV} {x : Int} : ∀ (n k i : Nat), i < n → (∀ j < i, f (ownPast a (k + j)) = none) → f (ownPast a (k + i)) = some x → choiceFrom f a k n = some (k + i, x)
  | 0, _, _, h, _, _ => absurd h (by omega)
  | n + 1, k, 0, _, _, h => by
    unfold choiceFrom
    rw [show f (ownPast a k) = some x from h]
    rfl
  | n + 1, k, i + 1, h1, h2, h3 => by
    unfold choiceFrom
    rw [show f (ownPast a k) = none from h2 0 (by omega)]
    have := choice_some (f := f) (a := a) (x := x) n (k + 1) i (by omega) (fun j hj => by
      have := h2 (j + 1) (by omega)
      rwa [show k + (j + 1) = k + 1 + j by omega] at this) (by rwa [show k + 1 + i = k + (i + 1) by omega])
    show choiceFrom f a (k + 1) n = _
    rw [this, show k + 1 + i = k + (i + 1) by omega]
def sp_choice_by (K : PySem.W.Frag) : Sp := fun vs H Q _ => ∃ (k : Nat) (v : Vw k) (x : V) (f : Addr) (wd : Word) (b : Nat), vs = [.ref f, x] ∧ RuleF H f wd b ∧ Rp K H (eV v) x ∧ v.wf ∧ k ≤ 2 ∧ ∀ y H', Ex H H' → Rp K H' (eC (choiceBy (RM.rule wd b) ⟨k, v⟩)) y → Q y H'
abbrev N_choice_by : List Str := ["rule", "view", "k", "number"]
theorem sc_choice_by : FnScope N_choice_by ["rule", "view"] (defScope s_choice_by) := ⟨rfl, rfl, rfl, by decide +kernel, rfl, by decide +kernel, by decide +kernel⟩
theorem ok_choice_by (T : Txt P w K mg base) : Ok P w K mg base "choice_by" (8 + 1) ["rule", "view"] (sp_choice_by K) := by
  refine Ok.of T.f_choice_by sc_choice_by (fun _ _ _ _ _ _ us hl => match us, hl with | [_, _], _ => rfl) (fun vs H Q E h => ?_) (fun f cdv A outer s H vs Q E hr h => ?_)
  · obtain ⟨k, v, x, fa, wd, b, rfl, hf, hx, hw, hk, kq⟩ := h
    rfl
  · obtain ⟨k, v, x, fa, wd, b, rfl, hf, hx, hw, hk, kq⟩ := h
    refine ⟨_, (pss_cons (ps_for PassesOwn.never rfl (pi_range1 (by rfl) T.n_range (pa_cons (pe_op op_add (pc (ok_rounds_of T) hr (pa_cons (pv 1) pa_nil)) pe_int) pa_nil)) (pg_name (i := 2) sc_choice_by.nd rfl (by first | exact Or.inl rfl | exact Or.inr rfl))
 (pss_cons (ps_set (i := 3) sc_choice_by.nd rfl (by first | exact Or.inl rfl | exact Or.inr rfl) (pe_clo (K := K) (G := GRule K) (i := 0) (callRule T) hr (by decide) pass0 rfl (.inl rfl) (pa_cons (pc (ok_own_past T) hr (pa_cons (pv 1) (pa_cons (pv 2) pa_nil))) pa_nil)))
 (pss_one (ps_if (pt_cmp (pc_notN (pv 3)))
 (pss_one (ps_ret (peTup (pa_cons (pv 2) (pa_cons (pv 3) pa_nil)))))
 pss_nil))))
 (pss_one (ps_ret pe_non))), ?_⟩
    refine ⟨_, rfl, k, v, x, rfl, hx, hw, _, _, rfl, rfl, _, rfl, by omega, by omega, ?_⟩
    refine for_range (lo := 0) (n := ((k : Int) + 1).toNat) (fun i σ H' => Ex H H' ∧ (∃ o1 o2, σ = [some (.ref fa), some x, o1, o2]) ∧ ∀ j < i, RM.rule wd b (ownPast ⟨k, v⟩ j) = none) ⟨Ex.refl H, ⟨none, none, rfl⟩, fun j hj => absurd hj (by omega)⟩ ?_ ?_
    · rintro i σ H' hi ⟨e1, ⟨o1, o2, rfl⟩, hc⟩
      rw [Int.zero_add]
      have hl := ownPast_lvl v (j := i) (by omega)
      have hwf := ownPast_wf v i hw
      refine ⟨fa, rfl, ⟨_, wd, b, hf.up e1, rfl⟩, _, rfl, _, rfl, k, v, i, x, rfl, hx.up e1, hw, by omega, by omega, fun y ry => ⟨sp_rule K wd b, ⟨wd, b, hf.up e1, rfl⟩, ?_⟩⟩
      obtain ⟨k', v', ea⟩ : ∃ (k' : Nat) (v' : Vw k'), ownPast ⟨k, v⟩ i = ⟨k', v'⟩ := ⟨_, _, rfl⟩
      rw [ea] at hl hwf ry
      have hl' : k' = i := hl
      refine ⟨k', v', y, rfl, ry, hwf, by omega, fun H1 e2 => ⟨_, rfl, ?_⟩⟩
      cases er : RM.rule wd b ⟨k', v'⟩ with
      | none =>
        refine ⟨_, rfl, iteF ⟨e1.trans e2, ⟨_, _, rfl⟩, fun j hj => ?_⟩⟩
        by_cases q : j < i
        · exact hc j q
        · have : j = i := by omega
          subst this
          rw [ea]
          exact er
      | some n =>
        refine ⟨_, rfl, iteT ⟨_, rfl, _, rfl, by show 2 ≤ 1000; decide, fun p H2 hp e3 g => ?_⟩⟩
        refine kq _ H2 ((e1.trans e2).trans e3) ?_
        have : choiceBy (RM.rule wd b) ⟨k, v⟩ = some (0 + i, n) := choice_some (k + 1) 0 i (by omega) (fun j hj => by rw [Nat.zero_add]; exact hc j hj) (by rw [Nat.zero_add, ea]; exact er)
        rw [this, Nat.zero_add]
        exact .tup (st_of g) (.cons (.int _) (.one (.int _)))
    · rintro σ H' ⟨e1, ⟨o1, o2, rfl⟩, hc⟩
      have : choiceBy (RM.rule wd b) ⟨k, v⟩ = none := choice_none (k + 1) 0 fun j hj => by rw [Nat.zero_add]; exact hc j (by omega)
      rw [this] at kq
      exact kq _ H' e1 .non
theorem told_view {r : Rn} {k h : Nat} (hv : Valid r) (hh : h ∈ whoUp r k) : (views r k)[h]? = some (some (viewAt r k h)) ∧ (viewAt r k h).wf := by
  obtain ⟨h1, h2⟩ := whoUp_mem.mp hh
  obtain ⟨v, e⟩ := views_some k h h1 h2
  rw [viewAt_eq e]
  have := hv.hi
  exact ⟨e, (views_wf (by omega) k h v e).1⟩
def sp_told_by (K : PySem.W.Frag) : Sp := fun vs H Q _ => ∃ (r : Rn) (k : Nat) (x : V) (f : Addr) (wd : Word) (b : Nat), vs = [.ref f, x, .int k] ∧ RuleF H f wd b ∧ Rp K H (eR r) x ∧ Valid r ∧ k ≤ 2 ∧ ∀ p H', H p = none → Ex H H' → LD K H' p ((toldBy (RM.rule wd b) r k).map eT) → Q (.ref p) H'
abbrev N_told_by : List Str := ["rule", "run", "rounds", "views", "found", "hand", "choice"]
theorem sc_told_by : FnScope N_told_by ["rule", "run", "rounds"] (defScope s_told_by) := ⟨rfl, rfl, rfl, by decide +kernel, rfl, by decide +kernel, by decide +kernel⟩
theorem ok_told_by (T : Txt P w K mg base) : Ok P w K mg base "told_by" (9 + 1) ["rule", "run", "rounds"] (sp_told_by K) := by
  refine Ok.of T.f_told_by sc_told_by (fun _ _ _ _ _ _ us hl => match us, hl with | [_, _, _], _ => rfl) (fun vs H Q E h => ?_) (fun f cdv A outer s H vs Q E hr h => ?_)
  · obtain ⟨r, k, x, fa, wd, b, rfl, hf, hx, hv, hk, kq⟩ := h
    rfl
  · obtain ⟨r, k, x, fa, wd, b, rfl, hf, hx, hv, hk, kq⟩ := h
    refine ⟨_, (pss_cons (ps_set (i := 3) sc_told_by.nd rfl (by first | exact Or.inl rfl | exact Or.inr rfl) (pc (ok_views_of T) hr (pa_cons (pv 1) (pa_cons (pv 2) pa_nil))))
 (pss_cons (ps_set (i := 4) sc_told_by.nd rfl (by first | exact Or.inl rfl | exact Or.inr rfl) (peLst pa_nil))
 (pss_cons (ps_for PassesOwn.never rfl (piL (K := K) rfl (pc (ok_who_is_up T) hr (pa_cons (pv 1) (pa_cons (pv 2) pa_nil)))) (pg_name (i := 5) sc_told_by.nd rfl (by first | exact Or.inl rfl | exact Or.inr rfl))
 (pss_cons (ps_set (i := 6) sc_told_by.nd rfl (by first | exact Or.inl rfl | exact Or.inr rfl) (pc (ok_choice_by T) hr (pa_cons (pv 0) (pa_cons (pe_ix (ixL (K := K) rfl) (pv 3) (pv 5) (fun _ _ => rfl)) pa_nil))))
 (pss_one (ps_if (pt_cmp (pc_isN (pv 6)))
 (pss_one (ps_expr (pe_bm PySem.F.plainAttrs_list PySem.F.slot_list_append PySem.F.type_list_append mt_append (pv 4) (pa_cons (peTup (pa_cons (pv 5) (pa_cons pe_non pa_nil))) pa_nil))))
 (pss_one (ps_expr (pe_bm PySem.F.plainAttrs_list PySem.F.slot_list_append PySem.F.type_list_append mt_append (pv 4) (pa_cons (peTup (pa_cons (pv 5) (pa_cons (pe_ix (ixT (K := K) rfl) (pv 6) pe_int (fun _ _ => rfl)) pa_nil))) pa_nil))))))))
 (pss_one (ps_ret (pv 4)))))), ?_⟩
    have hi := hv.hi
    refine ⟨_, rfl, _, rfl, r, k, x, rfl, hx, hv, by omega, fun p H1 hp e1 hL => ?_⟩
    refine ⟨by show 0 ≤ 1000; decide, fun l H2 hl e2 g2 => ?_⟩
    refine ⟨_, rfl, _, rfl, r, k, x, rfl, (hx.up e1).up e2, by omega, fun q H3 hq e3 g3 => ⟨q, rfl, ⟨_, SqL.of g3⟩, ?_⟩⟩
    have e12 := e1.trans e2
    have pl : ∃ xs, H1 p = some (.lst xs) ∧ RpL K H1 (lv (views r k)) xs := hL
    obtain ⟨xs, px, rx⟩ := pl
    have e13 := e12.trans e3
    have nl : H l = none := fresh_back e1 hl
    have wl : (whoUp r k).length ≤ 4 := by
      unfold whoUp
      have := List.length_filter_le (fun h => isUp r h k) (List.range r.1.length)
      rw [List.length_range] at this
      omega
    have l2 : H3 l = some (.lst []) := e3 _ _ g2
    have nlp : p ≠ l := ne_of_none px hl
    have nlq : q ≠ l := fun z => by rw [← z] at g2; rw [g2] at hq; cases hq
    refine for_list (K := K) (a := q) (xs := (whoUp r k).map fun h => V.int (h : Nat)) (fun i σ H' => ExB l H3 H' ∧ (∃ o1 o2, σ = [some (.ref fa), some x, some (.int k), some (.ref p), some (.ref l), o1, o2]) ∧ LD K H' l (((whoUp r k).take i).map fun h => eT (h, toldAt (RM.rule wd b) r k h))) ⟨ExB.refl l H3, ⟨none, none, rfl⟩, [], l2, .nil⟩ (fun i σ H' _ ⟨f1, _⟩ => SqL.of (f1 _ _ nlq g3)) ?_ ?_
    · rintro i y σ H' hi' ⟨f1, ⟨o1, o2, rfl⟩, ys, f4, f5⟩
      rw [List.getElem?_map] at hi'
      obtain ⟨h, hh, rfl⟩ := Option.map_eq_some_iff.mp hi'
      have hmem := List.mem_of_getElem? hh
      obtain ⟨ev, wv⟩ := told_view hv hmem
      have ex := f1.ex e13 nl
      obtain ⟨z, hz, rz⟩ := lv_get rx ev
      have px' : H' p = some (.lst xs) := f1 _ _ nlp (e3 _ _ (e2 _ _ px))
      have rz' : Rp K H' (eV (viewAt r k h)) z := (rz.up (e2.trans e3)).upT (f1.exT l2)
      have yl : ys.length ≤ 4 := by
        have := f5.len
        rw [List.length_map, List.length_take] at this
        omega
      have tk : (whoUp r k).take (i + 1) = (whoUp r k).take i ++ [h] := by rw [List.take_add_one, hh]; rfl
      rw [tk, List.map_append]
      refine ⟨_, rfl, _, rfl, _, rfl, _, _, h, _, rfl, rfl, SqL.of px', atI_nat hz, k, viewAt r k h, z, fa, wd, b, rfl, hf.up ex, rz', wv, hk, fun c H4 e4 rc => ?_⟩
      have f4' := e4 _ _ f4
      have eq : eT (h, toldAt (RM.rule wd b) r k h) = .tup [.int h, oD ((choiceBy (RM.rule wd b) ⟨k, viewAt r k h⟩).map (·.2))] := rfl
      cases ec : choiceBy (RM.rule wd b) ⟨k, viewAt r k h⟩ with
      | none =>
        rw [ec] at rc eq
        have ey : c = .non := Rp.non_iff.mp rc
        subst ey
        refine ⟨_, rfl, _, rfl, iteT ⟨_, rfl, .inl ⟨rfl, _, SqL.of f4'⟩, _, rfl, by show 2 ≤ 1000; decide, fun t H5 ht e5 g5 => ⟨l, ys, _, rfl, rfl, e5 _ _ f4', sz_lt (by omega), ?_⟩⟩⟩
        refine ⟨f1.trans ((ExB.of e4).trans ((ExB.of e5).trans ExB.set)), ⟨some (.int h), some .non, rfl⟩, _, upd_same, ?_⟩
        have e45 := (e4.trans e5)
        refine RpL.snoc ((f5.up e45).upT (ExT.lst (e5 _ _ f4'))) ?_
        show Rp K _ (eT (h, toldAt (RM.rule wd b) r k h)) _
        rw [eq]
        exact Rp.upT (.tup (st_of g5) (.cons (.int _) (.one .non))) (ExT.lst (e5 _ _ f4'))
      | some jn =>
        obtain ⟨j, n⟩ := jn
        rw [ec] at rc eq
        obtain ⟨ca, cs, rfl, c1, c2⟩ := Rp.tup_iff.mp rc
        have c2' : RpL K H4 ([(j : Int), n].map D.int) cs := c2
        have ecs := RpL.of_ints c2'
        subst ecs
        refine ⟨_, rfl, _, rfl, iteF ⟨_, rfl, .inl ⟨rfl, _, SqL.of f4'⟩, _, rfl, _, rfl, _, _, 1, _, rfl, rfl, c1, atI_nat (j := 1) rfl, by show 2 ≤ 1000; decide, fun t H5 ht e5 g5 => ⟨l, ys, _, rfl, rfl, e5 _ _ f4', sz_lt (by omega), ?_⟩⟩⟩
        refine ⟨f1.trans ((ExB.of e4).trans ((ExB.of e5).trans ExB.set)), ⟨some (.int h), some (.ref ca), rfl⟩, _, upd_same, ?_⟩
        have e45 := (e4.trans e5)
        refine RpL.snoc ((f5.up e45).upT (ExT.lst (e5 _ _ f4'))) ?_
        show Rp K _ (eT (h, toldAt (RM.rule wd b) r k h)) _
        rw [eq]
        exact Rp.upT (.tup (st_of g5) (.cons (.int _) (.one (.int _)))) (ExT.lst (e5 _ _ f4'))
    · rintro σ H' ⟨f1, ⟨o1, o2, rfl⟩, f4⟩
      rw [List.length_map, List.take_length] at f4
      refine ⟨_, rfl, kq l H' nl (f1.ex e13 nl) ?_⟩
      unfold toldBy
      rw [List.map_map]
      exact f4
def sp_torn_in (K : PySem.W.Frag) : Sp := fun vs H Q _ => ∃ (p : Addr) (t0 : Nat × Option Int) (ts : List (Nat × Option Int)) (r : Rn) (x : V), vs = [.ref p, x] ∧ LD K H p ((t0 :: ts).map eT) ∧ Rp K H (eR r) x ∧ ((∀ t ∈ ts, t.2 = t0.2) → Q .non H) ∧ ∀ t ∈ ts, t.2 ≠ t0.2 → ∀ y H', Ex H H' → Rp K H' (.tup [.str "torn", eR r, .int t0.1, .int t.1]) y → Q y H'
abbrev N_torn_in : List Str := ["told", "run", "hand", "number"]
theorem sc_torn_in : FnScope N_torn_in ["told", "run"] (defScope s_torn_in) := ⟨rfl, rfl, rfl, by decide +kernel, rfl, by decide +kernel, by decide +kernel⟩
theorem ok_torn_in (T : Txt P w K mg base) : Ok P w K mg base "torn_in" (0 + 1) ["told", "run"] (sp_torn_in K) := by
  refine Ok.of T.f_torn_in sc_torn_in (fun _ _ _ _ _ _ us hl => match us, hl with | [_, _], _ => rfl) (fun vs H Q E h => ?_) (fun f cdv A outer s H vs Q E hr h => ?_)
  · obtain ⟨p, t0, ts, r, x, rfl, hL, hx, kn, kt⟩ := h
    rfl
  · obtain ⟨p, t0, ts, r, x, rfl, hL, hx, kn, kt⟩ := h
    refine ⟨_, (pss_cons (ps_for PassesOwn.never rfl (piL (K := K) rfl (pv 0)) (pgTup (K := K) (n := 2) rfl rfl (pgs_cons (pg_name (i := 2) sc_torn_in.nd rfl (by first | exact Or.inl rfl | exact Or.inr rfl)) (pgs_cons (pg_name (i := 3) sc_torn_in.nd rfl (by first | exact Or.inl rfl | exact Or.inr rfl)) pgs_nil)))
 (pss_one (ps_if (pt_cmpR op_ne (pv 3) (pe_ix (ixT (K := K) rfl) (pe_ix (ixL (K := K) rfl) (pv 0) pe_int (fun _ _ => rfl)) pe_int (fun _ _ => rfl)) (by first | rfl | exact nomark _))
 (pss_one (ps_ret (peTup (pa_cons pe_str (pa_cons (pv 1) (pa_cons (pe_ix (ixT (K := K) rfl) (pe_ix (ixL (K := K) rfl) (pv 0) pe_int (fun _ _ => rfl)) pe_int (fun _ _ => rfl)) (pa_cons (pv 2) pa_nil)))))))
 pss_nil)))
 (pss_one (ps_ret pe_non))), ?_⟩
    obtain ⟨xs, px, rx⟩ := hL
    have lx : xs.length = ts.length + 1 := by have := rx.len; rwa [List.length_map, List.length_cons] at this
    obtain ⟨x0, hx0, r0⟩ := rx.get (i := 0) (d := eT t0) (by rw [List.map_cons]; rfl)
    obtain ⟨a0, rfl, s0⟩ := eT_get r0
    refine ⟨_, rfl, p, rfl, ⟨_, SqL.of px⟩, for_list (K := K) (a := p) (xs := xs) (fun i σ H' => H' = H ∧ (∃ o1 o2, σ = [some (.ref p), some x, o1, o2]) ∧ ∀ t ∈ (t0 :: ts).take i, t.2 = t0.2) ⟨rfl, ⟨none, none, rfl⟩, fun t h => absurd h List.not_mem_nil⟩ (fun i σ H' _ ⟨e, _⟩ => by rw [e]; exact SqL.of px) ?_ ?_⟩
    · rintro i y σ H' hi ⟨rfl, ⟨o1, o2, rfl⟩, hc⟩
      obtain ⟨d, hd, rd⟩ := rx.get' hi
      rw [List.getElem?_map] at hd
      obtain ⟨t, ht, rfl⟩ := Option.map_eq_some_iff.mp hd
      obtain ⟨a, rfl, g⟩ := eT_get rd
      refine ⟨a, _, rfl, g, rfl, _, _, rfl, _, _, rfl, rfl, ?_⟩
      refine ⟨_, rfl, _, rfl, _, _, 0, _, rfl, rfl, SqL.of px, atI_nat (j := 0) hx0, _, _, 1, _, rfl, rfl, s0, atI_nat (j := 1) rfl, oi_scal _ _, ?_⟩
      rw [oi_eq]
      by_cases c : t.2 = t0.2
      · refine ⟨false, by rw [decide_eq_true c]; rfl, iteF ⟨rfl, ⟨_, _, rfl⟩, fun u hu => ?_⟩⟩
        rw [List.take_add_one, ht] at hu
        rcases List.mem_append.mp hu with q | q
        · exact hc u q
        · rw [show u = t by simpa using q]; exact c
      · refine ⟨true, by rw [decide_eq_false c]; rfl, iteT ⟨_, rfl, _, rfl, _, _, 0, _, rfl, rfl, SqL.of px, atI_nat (j := 0) hx0, _, _, 0, _, rfl, rfl, s0, atI_nat (j := 0) rfl, _, rfl, by show 4 ≤ 1000; decide, fun q H1 hq e1 g1 => ?_⟩⟩
        have hm : t ∈ ts := by
          rcases List.mem_cons.mp (List.mem_of_getElem? ht) with z | z
          · rw [z] at c; exact absurd rfl c
          · exact z
        exact kt t hm c _ H1 e1 (.tup (st_of g1) (.cons (.str _) (.cons (hx.up e1) (.cons (.int _) (.one (.int _))))))
    · rintro σ H' ⟨rfl, ⟨o1, o2, rfl⟩, hc⟩
      refine kn fun t ht => hc t ?_
      rw [lx, List.take_of_length_le (by rw [List.length_cons]; omega)]
      exact List.mem_cons_of_mem _ ht
/-- what the law is told of a hand -/
def eL (t : Bool × Option Int) : D := .tup [.bl t.1, oD t.2]
def lawTold (f : AV → Option Int) (r : Rn) (k : Nat) : List (Bool × Option Int) := (List.range r.1.length).map fun h => if isUp r h k = true then (true, toldAt f r k h) else (false, none)
theorem views_none {r : Rn} {k h : Nat} (hh : h < r.1.length) (hu : ¬ isUp r h (k + 1) = true) : (views r (k + 1))[h]? = some none := by
  rw [views_succ, List.getElem?_map, List.getElem?_range hh]
  show some (nextView r (views r k) h (k + 1)) = _
  unfold nextView
  rw [if_neg hu]
theorem isUp_zero {r : Rn} (hv : Valid r) (h : Nat) : isUp r h 0 = true := by
  unfold isUp
  split
  · rfl
  · rename_i f e
    have := (hv.fin f (fallOf_in e)).2.1
    exact decide_eq_true (by omega)
theorem views_at {r : Rn} (hv : Valid r) {k h : Nat} (hh : h < r.1.length) : (views r k)[h]? = some (if isUp r h k = true then some (viewAt r k h) else none) := by
  by_cases u : isUp r h k = true
  · rw [if_pos u]
    exact (told_view hv (whoUp_mem.mpr ⟨hh, u⟩)).1
  · rw [if_neg u]
    cases k with
    | zero => exact absurd (isUp_zero hv h) u
    | succ k => exact views_none hh u
def sp_law_told (K : PySem.W.Frag) : Sp := fun vs H Q _ => ∃ (r : Rn) (k : Nat) (x : V) (f : Addr) (wd : Word) (b : Nat), vs = [.ref f, x, .int k] ∧ RuleF H f wd b ∧ Rp K H (eR r) x ∧ Valid r ∧ k ≤ 2 ∧ ∀ p H', H p = none → Ex H H' → LD K H' p ((lawTold (RM.rule wd b) r k).map eL) → Q (.ref p) H'
abbrev N_law_told : List Str := ["_law_rule_here", "_law_run_here", "_law_rounds", "_law_found", "_law_view", "_law_choice", "_law_number_here"]
theorem sc_law_told : FnScope N_law_told ["_law_rule_here", "_law_run_here", "_law_rounds"] (defScope s_law_told) := ⟨rfl, rfl, rfl, by decide +kernel, rfl, by decide +kernel, by decide +kernel⟩
theorem ok_law_told (T : Txt P w K mg base) : Ok P w K mg base "_law_told" (9 + 1) ["_law_rule_here", "_law_run_here", "_law_rounds"] (sp_law_told K) := by
  refine Ok.of T.f_law_told sc_law_told (fun _ _ _ _ _ _ us hl => match us, hl with | [_, _, _], _ => rfl) (fun vs H Q E h => ?_) (fun f cdv A outer s H vs Q E hr h => ?_)
  · obtain ⟨r, k, x, fa, wd, b, rfl, hf, hx, hv, hk, kq⟩ := h
    rfl
  · obtain ⟨r, k, x, fa, wd, b, rfl, hf, hx, hv, hk, kq⟩ := h
    refine ⟨_, (pss_cons (ps_set (i := 3) sc_law_told.nd rfl (by first | exact Or.inl rfl | exact Or.inr rfl) (peLst pa_nil))
 (pss_cons (ps_for PassesOwn.never rfl (piL (K := K) rfl (pc (ok_views_of T) hr (pa_cons (pv 1) (pa_cons (pv 2) pa_nil)))) (pg_name (i := 4) sc_law_told.nd rfl (by first | exact Or.inl rfl | exact Or.inr rfl))
 (pss_one (ps_if (pt_cmp (pc_isN (pv 4)))
 (pss_one (ps_expr (pe_bm PySem.F.plainAttrs_list PySem.F.slot_list_append PySem.F.type_list_append mt_append (pv 3) (pa_cons (peTup (pa_cons pe_bl (pa_cons pe_non pa_nil))) pa_nil))))
 (pss_cons (ps_set (i := 5) sc_law_told.nd rfl (by first | exact Or.inl rfl | exact Or.inr rfl) (pc (ok_choice_by T) hr (pa_cons (pv 0) (pa_cons (pv 4) pa_nil))))
 (pss_cons (ps_set (i := 6) sc_law_told.nd rfl (by first | exact Or.inl rfl | exact Or.inr rfl) pe_non)
 (pss_cons (ps_if (pt_cmp (pc_notN (pv 5)))
 (pss_one (ps_set (i := 6) sc_law_told.nd rfl (by first | exact Or.inl rfl | exact Or.inr rfl) (pe_ix (ixT (K := K) rfl) (pv 5) pe_int (fun _ _ => rfl))))
 pss_nil)
 (pss_one (ps_expr (pe_bm PySem.F.plainAttrs_list PySem.F.slot_list_append PySem.F.type_list_append mt_append (pv 3) (pa_cons (peTup (pa_cons pe_bl (pa_cons (pv 6) pa_nil))) pa_nil))))))))))
 (pss_one (ps_ret (pv 3))))), ?_⟩
    have hi := hv.hi
    refine ⟨by show 0 ≤ 1000; decide, fun l H2 hl e2 g2 => ?_⟩
    refine ⟨_, rfl, _, rfl, r, k, x, rfl, hx.up e2, hv, by omega, fun q H3 hq e3 hL => ?_⟩
    obtain ⟨xs, px, rx⟩ := hL
    have lx := lv_len rx
    rw [views_len] at lx
    have e13 := e2.trans e3
    have l2 : H3 l = some (.lst []) := e3 _ _ g2
    have nlq : q ≠ l := fun z => by rw [← z] at g2; rw [g2] at hq; cases hq
    refine ⟨q, rfl, ⟨_, SqL.of px⟩, for_list (K := K) (a := q) (xs := xs) (fun i σ H' => ExB l H3 H' ∧ (∃ o1 o2 o3, σ = [some (.ref fa), some x, some (.int k), some (.ref l), o1, o2, o3]) ∧ LD K H' l ((((List.range r.1.length).map fun h => if isUp r h k = true then (true, toldAt (RM.rule wd b) r k h) else (false, none)).take i).map eL)) ⟨ExB.refl l H3, ⟨none, none, none, rfl⟩, [], l2, .nil⟩ (fun i σ H' _ ⟨f1, _⟩ => SqL.of (f1 _ _ nlq px)) ?_ ?_⟩
    · rintro i y σ H' hi' ⟨f1, ⟨o1, o2, o3, rfl⟩, ys, f4, f5⟩
      have hlt : i < r.1.length := by have := (List.getElem?_eq_some_iff.mp hi').1; omega
      obtain ⟨o, ho, ro⟩ := lv_get' rx hi'
      rw [views_at hv hlt] at ho
      have eo := (Option.some.inj ho).symm
      have ex := f1.ex e13 hl
      have yl : ys.length ≤ 4 := by
        have := f5.len
        rw [List.length_map, List.length_take, List.length_map, List.length_range] at this
        omega
      have ro' := ro.upT (f1.exT l2)
      have tk : ((List.range r.1.length).map fun h => if isUp r h k = true then (true, toldAt (RM.rule wd b) r k h) else (false, none)).take (i + 1) = ((List.range r.1.length).map fun h => if isUp r h k = true then (true, toldAt (RM.rule wd b) r k h) else (false, none)).take i ++ [if isUp r i k = true then (true, toldAt (RM.rule wd b) r k i) else (false, none)] := by
        rw [List.take_add_one, List.getElem?_map, List.getElem?_range hlt] <;> rfl
      rw [tk, List.map_append]
      by_cases u : isUp r i k = true
      · rw [if_pos u] at eo
        rw [if_pos u]
        subst eo
        obtain ⟨ca, rfl⟩ := eV_ref ro'
        have wv := (told_view hv (whoUp_mem.mpr ⟨hlt, u⟩)).2
        refine ⟨_, rfl, _, rfl, iteF ⟨_, rfl, _, rfl, k, viewAt r k i, _, fa, wd, b, rfl, hf.up ex, ro', wv, hk, fun c H4 e4 rc => ?_⟩⟩
        have f4' := e4 _ _ f4
        have eq : eL (true, toldAt (RM.rule wd b) r k i) = .tup [.bl true, oD ((choiceBy (RM.rule wd b) ⟨k, viewAt r k i⟩).map (·.2))] := rfl
        show _
        cases ec : choiceBy (RM.rule wd b) ⟨k, viewAt r k i⟩ with
        | none =>
          rw [ec] at rc eq
          have ey : c = .non := Rp.non_iff.mp rc
          subst ey
          refine ⟨_, rfl, _, rfl, iteF ⟨_, rfl, .inl ⟨rfl, _, SqL.of f4'⟩, _, rfl, by show 2 ≤ 1000; decide, fun t H5 ht e5 g5 => ⟨l, ys, _, rfl, rfl, e5 _ _ f4', sz_lt (by omega), ?_⟩⟩⟩
          refine ⟨f1.trans ((ExB.of e4).trans ((ExB.of e5).trans ExB.set)), ⟨some (.ref ca), some .non, some .non, rfl⟩, _, upd_same, ?_⟩
          have e45 := (e4.trans e5)
          refine RpL.snoc ((f5.up e45).upT (ExT.lst (e5 _ _ f4'))) ?_
          rw [eq]
          exact Rp.upT (.tup (st_of g5) (.cons (.bl _) (.one .non))) (ExT.lst (e5 _ _ f4'))
        | some jn =>
          obtain ⟨j, n⟩ := jn
          rw [ec] at rc eq
          obtain ⟨cb, cs, rfl, c1, c2⟩ := Rp.tup_iff.mp rc
          have c2' : RpL K H4 ([(j : Int), n].map D.int) cs := c2
          have ecs := RpL.of_ints c2'
          subst ecs
          refine ⟨_, rfl, _, rfl, iteT ⟨_, rfl, _, _, 1, _, rfl, rfl, c1, atI_nat (j := 1) rfl, _, rfl, .inl ⟨rfl, _, SqL.of f4'⟩, _, rfl, by show 2 ≤ 1000; decide, fun t H5 ht e5 g5 => ⟨l, ys, _, rfl, rfl, e5 _ _ f4', sz_lt (by omega), ?_⟩⟩⟩
          refine ⟨f1.trans ((ExB.of e4).trans ((ExB.of e5).trans ExB.set)), ⟨some (.ref ca), some (.ref cb), some (.int n), rfl⟩, _, upd_same, ?_⟩
          have e45 := (e4.trans e5)
          refine RpL.snoc ((f5.up e45).upT (ExT.lst (e5 _ _ f4'))) ?_
          rw [eq]
          exact Rp.upT (.tup (st_of g5) (.cons (.bl _) (.one (.int _)))) (ExT.lst (e5 _ _ f4'))
      · rw [if_neg u] at eo
        rw [if_neg u]
        subst eo
        have ey : y = .non := Rp.non_iff.mp ro'
        subst ey
        refine ⟨_, rfl, _, rfl, iteT ⟨_, rfl, .inl ⟨rfl, _, SqL.of f4⟩, by show 2 ≤ 1000; decide, fun t H5 ht e5 g5 => ⟨l, ys, _, rfl, rfl, e5 _ _ f4, sz_lt (by omega), ?_⟩⟩⟩
        refine ⟨f1.trans ((ExB.of e5).trans ExB.set), ⟨some .non, o2, o3, rfl⟩, _, upd_same, ?_⟩
        refine RpL.snoc ((f5.up e5).upT (ExT.lst (e5 _ _ f4))) ?_
        exact Rp.upT (.tup (st_of g5) (.cons (.bl _) (.one .non))) (ExT.lst (e5 _ _ f4))
    · rintro σ H' ⟨f1, ⟨o1, o2, o3, rfl⟩, f4⟩
      rw [lx, List.take_of_length_le (by rw [List.length_map, List.length_range]; exact Nat.le_refl _)] at f4
      exact ⟨_, rfl, kq l H' hl (f1.ex e13 hl) f4⟩
end
end RF

set_option Elab.async false
set_option linter.all false
namespace RF
open RM
/-! ### chains of runs -/
structure Good (n b : Nat) (r : Rn) : Prop where
  v : Valid r
  n : r.1.length = n
  b : r.2.length ≤ b
/-- some hand up in both is told the same -/
def Adj (k : Nat) (r s : Rn) : Prop := ∃ h, h ∈ whoUp r k ∧ h ∈ whoUp s k ∧ viewAt r k h = viewAt s k h
theorem Adj.symm {k : Nat} {r s : Rn} (a : Adj k r s) : Adj k s r := by
  obtain ⟨h, h1, h2, h3⟩ := a
  exact ⟨h, h2, h1, h3.symm⟩
/-- l leads from r to s -/
def Path (n b k : Nat) : List Rn → Rn → Rn → Prop
  | [], _, _ => False
  | [x], r, s => x = r ∧ x = s ∧ Good n b x
  | x :: y :: l, r, s => x = r ∧ Good n b x ∧ Adj k x y ∧ Path n b k (y :: l) y s
section
variable {n b k : Nat}
theorem Path.one {r : Rn} (g : Good n b r) : Path n b k [r] r r := ⟨rfl, rfl, g⟩
theorem Path.cons {x : Rn} {l : List Rn} {y s : Rn} (g : Good n b x) (a : Adj k x y) (p : Path n b k l y s) : Path n b k (x :: l) x s := by
  cases l with
  | nil => exact p.elim
  | cons z l =>
    have ez : z = y := by
      cases l with
      | nil => exact p.1
      | cons _ _ => exact p.1
    subst ez
    exact ⟨rfl, g, a, p⟩
theorem Path.head {l : List Rn} {r s : Rn} (p : Path n b k l r s) : ∃ t, l = r :: t := by
  cases l with
  | nil => exact p.elim
  | cons z l =>
    have ez : z = r := by
      cases l with
      | nil => exact p.1
      | cons _ _ => exact p.1
    subst ez
    exact ⟨l, rfl⟩
theorem Path.last : ∀ {l : List Rn} {r s : Rn}, Path n b k l r s → ∃ t, l = t ++ [s]
  | [], _, _, p => p.elim
  | [x], _, s, p => ⟨[], by rw [p.2.1]; rfl⟩
  | x :: y :: l, r, s, p => by
    obtain ⟨t, ht⟩ := Path.last p.2.2.2
    exact ⟨x :: t, by rw [ht]; rfl⟩
theorem Path.good : ∀ {l : List Rn} {r s : Rn}, Path n b k l r s → ∀ x ∈ l, Good n b x
  | [], _, _, p, _, _ => p.elim
  | [x], _, s, p, y, hy => by
    rw [List.mem_singleton.mp hy]
    exact p.2.2
  | x :: y :: l, r, s, p, z, hz => by
    rcases List.mem_cons.mp hz with e | e
    · rw [e]; exact p.2.1
    · exact Path.good p.2.2.2 z e
/-- two chains whose ends are neighbours -/
theorem Path.app : ∀ {l m : List Rn} {r s t u : Rn}, Path n b k l r s → Adj k s t → Path n b k m t u → Path n b k (l ++ m) r u
  | [], _, _, _, _, _, p, _, _ => p.elim
  | [x], m, r, s, t, u, p, a, q => by
    obtain ⟨rfl, rfl, g⟩ := p
    exact Path.cons g a q
  | x :: y :: l, m, r, s, t, u, p, a, q => by
    obtain ⟨rfl, g, a1, p1⟩ := p
    exact Path.cons g a1 (Path.app p1 a q)
/-- the second goes on where the first ends -/
theorem Path.join {l m : List Rn} {r s u : Rn} (p : Path n b k l r s) (q : Path n b k (s :: m) s u) : Path n b k (l ++ m) r u := by
  cases m with
  | nil =>
    obtain ⟨_, rfl, _⟩ := q
    rw [List.append_nil]
    exact p
  | cons y m => exact Path.app p q.2.2.1 q.2.2.2
theorem Path.snoc {l : List Rn} {r s t : Rn} (p : Path n b k l r s) (a : Adj k s t) (g : Good n b t) : Path n b k (l ++ [t]) r t := Path.app p a (Path.one g)
theorem Path.rev : ∀ {l : List Rn} {r s : Rn}, Path n b k l r s → Path n b k l.reverse s r
  | [], _, _, p => p.elim
  | [x], r, s, p => by
    obtain ⟨rfl, rfl, g⟩ := p
    exact Path.one g
  | x :: y :: l, r, s, p => by
    obtain ⟨rfl, g, a, q⟩ := p
    rw [List.reverse_cons]
    exact Path.snoc (Path.rev q) a.symm g
theorem Path.tail {l : List Rn} {r s : Rn} (p : Path n b k l r s) : l = r :: l.drop 1 := by
  obtain ⟨t, rfl⟩ := p.head
  rfl
theorem Path.pos {l : List Rn} {r s : Rn} (p : Path n b k l r s) : 1 ≤ l.length := by
  obtain ⟨t, rfl⟩ := p.head
  rw [List.length_cons]; omega
theorem Path.join' {l m : List Rn} {r s u : Rn} (p : Path n b k l r s) (q : Path n b k m s u) : Path n b k (l ++ m.drop 1) r u := by
  obtain ⟨t, rfl⟩ := q.head
  exact p.join q
theorem Path.adj : ∀ {l : List Rn} {r s : Rn}, Path n b k l r s → ∀ (i : Nat) (x y : Rn), l[i]? = some x → l[i + 1]? = some y → Adj k x y
  | [], _, _, p, _, _, _, _, _ => p.elim
  | [x], _, s, p, i, _, _, _, h => by simp at h
  | x :: y :: l, r, s, p, 0, u, v, h1, h2 => by
    simp at h1 h2
    subst h1
    subst h2
    exact p.2.2.1
  | x :: y :: l, r, s, p, i + 1, u, v, h1, h2 => Path.adj p.2.2.2 i u v h1 h2
end
/-! ### the same to all but some -/
/-- r and s look the same to x behind j rounds, unless D j x -/
theorem sim {r s : Rn} {k : Nat} {D : Nat → Nat → Prop} (hl : r.1.length = s.1.length) (mono : ∀ j x, D j x → D (j + 1) x) (h0 : ∀ x, x < r.1.length → ¬ D 0 x → r.1.getD x 0 = s.1.getD x 0)
    (up : ∀ j x, j < k → x < r.1.length → ¬ D (j + 1) x → isUp r x (j + 1) = isUp s x (j + 1))
    (cm : ∀ j x o, j < k → x < r.1.length → o < r.1.length → o ≠ x → ¬ D (j + 1) x → isUp r x (j + 1) = true → comes r o x (j + 1) = comes s o x (j + 1) ∧ (comes r o x (j + 1) = true → ¬ D j o)) :
    ∀ j, j ≤ k → ∀ x, x < r.1.length → ¬ D j x → (views r j)[x]? = (views s j)[x]?
  | 0, _, x, hx, nd => by
    show ((List.range r.1.length).map _)[x]? = ((List.range s.1.length).map _)[x]?
    rw [List.getElem?_map, List.getElem?_map, List.getElem?_range hx, List.getElem?_range (by omega)]
    show some (some (x, r.1.getD x 0)) = some (some (x, s.1.getD x 0))
    rw [h0 x hx nd]
  | j + 1, hj, x, hx, nd => by
    have u := up j x (by omega) hx nd
    rw [views_succ, views_succ, List.getElem?_map, List.getElem?_map, List.getElem?_range hx, List.getElem?_range (by omega)]
    show some (nextView r (views r j) x (j + 1)) = some (nextView s (views s j) x (j + 1))
    unfold nextView
    rw [← u]
    by_cases c : isUp r x (j + 1) = true
    · rw [if_pos c, if_pos c, ← hl]
      congr 3
      refine List.map_congr_left fun o ho => ?_
      have ho' := List.mem_range.mp ho
      by_cases e : o = x
      · subst e
        rw [if_pos (.inl rfl), if_pos (.inl rfl), sim hl mono h0 up cm j (by omega) o hx (fun z => nd (mono j o z))]
      · obtain ⟨c1, c2⟩ := cm j x o (by omega) hx ho' e nd c
        rw [← c1]
        by_cases d : comes r o x (j + 1) = true
        · rw [if_pos (.inr d), if_pos (.inr d), sim hl mono h0 up cm j (by omega) o ho' (c2 d)]
        · rw [if_neg (fun z => z.elim e d), if_neg (fun z => z.elim e d)]
    · rw [if_neg c, if_neg c]
theorem adj_of {r s : Rn} {k x : Nat} (hv : Valid r) (hx : x < r.1.length) (hl : r.1.length = s.1.length) (e : (views r k)[x]? = (views s k)[x]?) (u1 : isUp r x k = true) (u2 : isUp s x k = true) : Adj k r s := by
  refine ⟨x, whoUp_mem.mpr ⟨hx, u1⟩, whoUp_mem.mpr ⟨by omega, u2⟩, ?_⟩
  unfold viewAt
  rw [e]
/-! ### a hand that stands -/
theorem isUp_none {r : Rn} {x : Nat} (k : Nat) (h : fallOf r x = none) : isUp r x k = true := by unfold isUp; rw [h]
theorem isUp_some {r : Rn} {x k : Nat} {f : Fall} (h : fallOf r x = some f) : isUp r x k = decide (k < f.2.1) := by unfold isUp; rw [h]
theorem isUp_congr {r s : Rn} {x : Nat} (h : fallOf r x = fallOf s x) (k : Nat) : isUp r x k = isUp s x k := by unfold isUp; rw [h]
/-- what comes, by the sender's fall -/
theorem comes_none {r : Rn} {o x k : Nat} (hne : o ≠ x) (hu : isUp r x k = true) (h : fallOf r o = none) : comes r o x k = true := by
  unfold comes
  rw [if_neg (by rw [hu]; simp [hne]), h]
theorem comes_some {r : Rn} {o x k : Nat} {f : Fall} (hne : o ≠ x) (hu : isUp r x k = true) (h : fallOf r o = some f) : comes r o x k = if k < f.2.1 then true else decide (f.2.1 = k) && hasH f.2.2 x := by
  unfold comes
  rw [if_neg (by rw [hu]; simp [hne]), h]
theorem comes_congr {r s : Rn} {o x k : Nat} (h1 : fallOf r o = fallOf s o) (h2 : isUp r x k = isUp s x k) : comes r o x k = comes s o x k := by
  unfold comes
  rw [h1, h2]
/-- two hands at least stand, m falls: any two in mind, one more stands -/
theorem stand_ex {r : Rn} {n : Nat} (hn : r.1.length = n) (l : List Nat) (h : r.2.length + l.length < n) : ∃ x, x < n ∧ x ∉ l ∧ fallOf r x = none := by
  have hlen : (l ++ r.2.map (·.1)).length < n := by rw [List.length_append, List.length_map]; omega
  have key : ∀ (m : Nat) (l : List Nat), l.length < m → ∃ x, x < m ∧ x ∉ l := by
    intro m
    induction m with
    | zero => intro l h; omega
    | succ m ih =>
      intro l h
      by_cases c : m ∈ l
      · obtain ⟨x, h1, h2⟩ := ih (l.erase m) (by rw [List.length_erase, if_pos c]; have := List.length_pos_of_mem c; omega)
        refine ⟨x, by omega, fun z => ?_⟩
        exact h2 ((List.mem_erase_of_ne (by omega)).mpr z)
      · exact ⟨m, by omega, c⟩
  obtain ⟨x, h1, h2⟩ := key n _ hlen
  refine ⟨x, h1, fun z => h2 (List.mem_append_left _ z), fallOf_none.mpr fun f hf e => h2 (List.mem_append_right _ (List.mem_map.mpr ⟨f, hf, e⟩))⟩
end RF

set_option Elab.async false
set_option linter.all false
namespace RF
open RM
/-- the hands of U fall silent behind round a, one way or the other -/
theorem adj_off {r s : Rn} {a k : Nat} {U : Nat → Prop} (hv : Valid r) (hn : r.1 = s.1) (off : ∀ x, ¬ U x → fallOf r x = fallOf s x) (a1 : 1 ≤ a) (ak : a ≤ k)
    (hr : ∀ o, U o → ∃ m, fallOf r o = some (o, a, m) ∧ ∀ x, x < r.1.length → ¬ U x → isUp r x a = true → hasH m x = true)
    (hs : ∀ o, U o → (fallOf s o = none ∧ a = k) ∨ fallOf s o = some (o, a + 1, 0)) (hex : ∃ x, x < r.1.length ∧ ¬ U x ∧ isUp r x k = true) : Adj k r s := by
  classical
  obtain ⟨x, hx, nu, u⟩ := hex
  have u2 : isUp s x k = true := by rw [← isUp_congr (off x nu) k]; exact u
  refine adj_of hv hx (by rw [hn]) ?_ u u2
  have upU : ∀ x, U x → ∀ j, j < a → isUp r x j = true ∧ isUp s x j = true := fun x ux j hj => by
    obtain ⟨m, hm, _⟩ := hr x ux
    refine ⟨by rw [isUp_some hm]; exact decide_eq_true hj, ?_⟩
    rcases hs x ux with ⟨z, _⟩ | z
    · exact isUp_none j z
    · rw [isUp_some z]; exact decide_eq_true (by show j < a + 1; omega)
  refine sim (D := fun j x => U x ∧ a ≤ j) (by rw [hn]) (fun j x h => ⟨h.1, by omega⟩) (fun x _ _ => by rw [hn]) (fun j x hj hx nd => ?_) (fun j x o hj hx ho hne nd u => ?_) k (Nat.le_refl _) x hx (fun z => nu z.1)
  · by_cases ux : U x
    · have hja : j + 1 < a := by
        by_cases c : a ≤ j + 1
        · exact absurd ⟨ux, c⟩ nd
        · omega
      rw [(upU x ux _ hja).1, (upU x ux _ hja).2]
    · exact isUp_congr (off x ux) _
  · have us : isUp s x (j + 1) = true := by
      by_cases ux : U x
      · have hja : j + 1 < a := by
          by_cases c : a ≤ j + 1
          · exact absurd ⟨ux, c⟩ nd
          · omega
        exact (upU x ux _ hja).2
      · rw [← isUp_congr (off x ux)]; exact u
    by_cases uo : U o
    · obtain ⟨m, hm, hreach⟩ := hr o uo
      rw [comes_some hne u hm]
      by_cases c1 : j + 1 < a
      · rw [if_pos c1]
        refine ⟨?_, fun _ z => by have := z.2; omega⟩
        rcases hs o uo with ⟨z, _⟩ | z
        · rw [comes_none hne us z]
        · rw [comes_some hne us z, if_pos (by show j + 1 < a + 1; omega)]
      · rw [if_neg c1]
        by_cases c2 : a = j + 1
        · have nux : ¬ U x := fun z => nd ⟨z, by omega⟩
          have e1 : hasH m x = true := hreach x hx nux (by rw [c2]; exact u)
          refine ⟨?_, fun _ z => by have := z.2; omega⟩
          have e2 : (decide (a = j + 1) && hasH m x) = true := by rw [e1, decide_eq_true c2]; rfl
          show (decide (a = j + 1) && hasH m x) = _
          rw [e2]
          rcases hs o uo with ⟨z, _⟩ | z
          · rw [comes_none hne us z]
          · rw [comes_some hne us z, if_pos (by show j + 1 < a + 1; omega)]
        · have e2 : (decide (a = j + 1) && hasH m x) = false := by rw [decide_eq_false c2]; rfl
          show (decide (a = j + 1) && hasH m x) = _ ∧ ((decide (a = j + 1) && hasH m x) = true → _)
          rw [e2]
          refine ⟨?_, fun z => by cases z⟩
          rcases hs o uo with ⟨z, z2⟩ | z
          · omega
          · rw [comes_some hne us z, if_neg (by show ¬ j + 1 < a + 1; omega)]
            show false = (decide (a + 1 = j + 1) && hasH 0 x)
            have : hasH 0 x = false := Nat.zero_testBit x
            rw [this, Bool.and_false]
    · exact ⟨comes_congr (off o uo) (by rw [u, us]), fun _ z => uo z.1⟩
/-- the hand h reaches y or not, y silent from then on -/
theorem adj_reach {r s : Rn} {a k h y m1 m2 : Nat} (hv : Valid r) (hn : r.1 = s.1) (off : ∀ x, x ≠ h → fallOf r x = fallOf s x) (a1 : 1 ≤ a) (ak : a ≤ k) (hr : fallOf r h = some (h, a, m1)) (hs : fallOf s h = some (h, a, m2)) (hm : ∀ x, x ≠ y → hasH m1 x = hasH m2 x) (hy : y ≠ h)
    (sil : a = k ∨ fallOf r y = some (y, a + 1, 0)) (hex : ∃ x, x < r.1.length ∧ x ≠ y ∧ isUp r x k = true) : Adj k r s := by
  obtain ⟨x, hx, nu, u⟩ := hex
  have upE : ∀ x j, isUp r x j = isUp s x j := fun x j => by
    by_cases e : x = h
    · rw [e, isUp_some hr, isUp_some hs]
    · exact isUp_congr (off x e) j
  refine adj_of hv hx (by rw [hn]) ?_ u (by rw [← upE]; exact u)
  refine sim (D := fun j x => x = y ∧ a ≤ j) (by rw [hn]) (fun j x h => ⟨h.1, by omega⟩) (fun x _ _ => by rw [hn]) (fun j x _ _ _ => upE x _) (fun j x o hj hx ho hne nd u => ?_) k (Nat.le_refl _) x hx (fun z => nu z.1)
  have us : isUp s x (j + 1) = true := by rw [← upE]; exact u
  by_cases eo : o = h
  · subst eo
    rw [comes_some hne u hr, comes_some hne us hs]
    refine ⟨?_, fun _ z => hy z.1.symm⟩
    by_cases c1 : j + 1 < a
    · rw [if_pos c1, if_pos c1]
    · rw [if_neg c1, if_neg c1]
      by_cases c2 : a = j + 1
      · show (decide (a = j + 1) && hasH m1 x) = (decide (a = j + 1) && hasH m2 x)
        rw [hm x (fun z => nd ⟨z, by omega⟩)]
      · show (decide (a = j + 1) && hasH m1 x) = (decide (a = j + 1) && hasH m2 x)
        rw [decide_eq_false c2]
        rfl
  · refine ⟨comes_congr (off o eo) (by rw [u, us]), fun c z => ?_⟩
    obtain ⟨rfl, z2⟩ := z
    rcases sil with e | e
    · omega
    · rw [comes_some hne u e, if_neg (by show ¬ j + 1 < a + 1; omega)] at c
      have h0 : hasH 0 x = false := Nat.zero_testBit x
      have c' : (decide (a + 1 = j + 1) && hasH 0 x) = true := c
      rw [h0, Bool.and_false] at c'
      cases c'
/-- later falls left out -/
theorem adj_later {r : Rn} {n k : Nat} (hv : Valid r) (hex : ∃ x, x < r.1.length ∧ isUp r x k = true) (hf : ∀ x, fallOf (withoutLater r k) x = match fallOf r x with
    | some f => if f.2.1 ≤ k then some f else none
    | none => none) : Adj k r (withoutLater r k) := by
  obtain ⟨x, hx, u⟩ := hex
  have upE : ∀ x j, j ≤ k → isUp r x j = isUp (withoutLater r k) x j := fun x j hj => by
    have h := hf x
    cases e : fallOf r x with
    | none =>
      rw [e] at h
      rw [isUp_none j e, isUp_none j h]
    | some f =>
      rw [e] at h
      by_cases c : f.2.1 ≤ k
      · have h : fallOf (withoutLater r k) x = some f := h.trans (if_pos c)
        rw [isUp_some e, isUp_some h]
      · have h : fallOf (withoutLater r k) x = none := h.trans (if_neg c)
        rw [isUp_some e, isUp_none j h]
        exact decide_eq_true (by omega)
  refine adj_of hv hx rfl ?_ u (by rw [← upE x k (Nat.le_refl _)]; exact u)
  refine sim (r := r) (s := withoutLater r k) (D := fun _ _ => False) rfl (fun _ _ h => h) (fun _ _ _ => rfl) (fun j x hj _ _ => upE x (j + 1) (by omega)) (fun j x o hj hx ho hne nd u => ⟨?_, fun _ z => z⟩) k (Nat.le_refl _) x hx (fun z => z)
  have us : isUp (withoutLater r k) x (j + 1) = true := by rw [← upE x (j + 1) (by omega)]; exact u
  have h := hf o
  cases e : fallOf r o with
  | none =>
    rw [e] at h
    rw [comes_none hne u e, comes_none hne us h]
  | some f =>
    rw [e] at h
    by_cases c : f.2.1 ≤ k
    · have h : fallOf (withoutLater r k) o = some f := h.trans (if_pos c)
      rw [comes_some hne u e, comes_some hne us h]
    · have h : fallOf (withoutLater r k) o = none := h.trans (if_neg c)
      rw [comes_some hne u e, comes_none hne us h, if_pos (show j + 1 < f.2.1 by omega)]
/-- a silent hand's number -/
theorem adj_number {r s : Rn} {k h : Nat} (hv : Valid r) (hl : r.1.length = s.1.length) (hn : ∀ x, x ≠ h → r.1.getD x 0 = s.1.getD x 0) (hf : ∀ x, fallOf r x = fallOf s x) (sil : k = 0 ∨ fallOf r h = some (h, 1, 0)) (hex : ∃ x, x < r.1.length ∧ x ≠ h ∧ isUp r x k = true) : Adj k r s := by
  obtain ⟨x, hx, nu, u⟩ := hex
  refine adj_of hv hx hl ?_ u (by rw [← isUp_congr (hf x)]; exact u)
  refine sim (D := fun _ x => x = h) hl (fun _ _ h => h) (fun x _ e => hn x e) (fun j x _ _ _ => isUp_congr (hf x) _) (fun j x o hj hx ho hne nd u => ⟨comes_congr (hf o) (isUp_congr (hf x) _), fun c z => ?_⟩) k (Nat.le_refl _) x hx nu
  subst z
  rcases sil with e | e
  · omega
  · rw [comes_some hne u e, if_neg (by show ¬ j + 1 < 1; omega)] at c
    have h0 : hasH 0 x = false := Nat.zero_testBit x
    have c' : (decide (1 = j + 1) && hasH 0 x) = true := c
    rw [h0, Bool.and_false] at c'
    cases c'
/-! ### hushing -/
def endOf (r : Rn) (h a k : Nat) : Rn := if a ≤ k then withF r h a 0 else r
structure Pre (n b k : Nat) (r : Rn) (h a : Nat) : Prop where
  g : Good n b r
  hn : h < n
  fr : fallOf r h = none
  a1 : 1 ≤ a
  ak : a ≤ k + 1
  le : ∀ f ∈ r.2, f.2.1 ≤ a
  cnt : r.2.length + (k + 1 - a) ≤ b
  bn : b + 2 ≤ n
  k4 : k ≤ 4
theorem bit0 (x : Nat) : Nat.testBit 0 x = false := Nat.zero_testBit x
theorem withF_mem {r : Rn} {h a m : Nat} {f : Fall} (hf : f ∈ (withF r h a m).2) : f = (h, a, m) ∨ (f ∈ r.2 ∧ f.1 ≠ h) := by
  rcases (ins_mem _ _ _).mp hf with e | e
  · exact .inl e
  · obtain ⟨e1, e2⟩ := List.mem_filter.mp e
    exact .inr ⟨e1, by simpa using e2⟩
theorem len_withF_none {r : Rn} {h a m : Nat} (hf : fallOf r h = none) : (withF r h a m).2.length = r.2.length + 1 := by
  rw [len_withF, without_none hf]
theorem standing_mem {r : Rn} {h o : Nat} : o ∈ standing r h ↔ o < r.1.length ∧ o ≠ h ∧ fallOf r o = none := by
  unfold standing
  rw [List.mem_filter, List.mem_range]
  simp [Bool.and_eq_true]
theorem standing_nodup (r : Rn) (h : Nat) : (standing r h).Nodup := List.Pairwise.filter _ List.nodup_range
theorem standing_len {n b : Nat} {r : Rn} (g : Good n b r) {h : Nat} (hh : h < n) : (standing r h).length ≤ 3 := by
  have h4 := g.v.hi
  have hn := g.n
  have : (h :: standing r h).length ≤ n := nodup_lt n _ (List.nodup_cons.mpr ⟨fun z => (standing_mem.mp z).2.1 rfl, standing_nodup r h⟩) fun x hx => by
    rcases List.mem_cons.mp hx with e | e
    · rw [e]; exact hh
    · have := (standing_mem.mp e).1; omega
  rw [List.length_cons] at this
  omega
section
variable {n b k : Nat} {r : Rn} {h a : Nat}
theorem Pre.mask' (p : Pre n b k r h a) (ak : a ≤ k) {ls : List Nat} (hl : ∀ x ∈ ls, x < r.1.length ∧ x ≠ h) : Good n b (withF r h a (maskOf ls)) := by
  have hn := p.g.n
  have hk := p.k4
  have hc := p.cnt
  refine ⟨p.g.v.withF (by rw [hn]; exact p.hn) p.a1 (by omega) (maskOf_lt fun x hx => (hl x hx).1) ?_, hn, ?_⟩
  · rw [maskOf_bit]
    exact decide_eq_false fun z => (hl h z).2 rfl
  · rw [len_withF_none p.fr]; omega
theorem Pre.fall (p : Pre n b k r h a) (m x : Nat) : fallOf (withF r h a m) x = if x = h then some (h, a, m) else fallOf r x := fallOf_withF p.g.v.sr h a m x
/-- what is hushed next -/
theorem Pre.next' (p : Pre n b k r h a) (ak : a ≤ k) {ls : List Nat} (hl : ∀ x ∈ ls, x < r.1.length ∧ x ≠ h) {y : Nat} (hy : y ∈ standing r h) : Pre n b k (withF r h a (maskOf ls)) y (a + 1) := by
  obtain ⟨h1, h2, h3⟩ := standing_mem.mp hy
  have hc := p.cnt
  refine ⟨p.mask' ak hl, by have := p.g.n; omega, by rw [p.fall, if_neg h2]; exact h3, by omega, by omega, fun f hf => ?_, ?_, p.bn, p.k4⟩
  · rcases withF_mem hf with e | ⟨e, _⟩
    · rw [e]; show a ≤ a + 1; omega
    · have := p.le f e; omega
  · rw [len_withF_none p.fr]; omega
theorem Pre.down (p : Pre n b k r h a) (ak : a ≤ k) : Pre n b k r h (a + 1) := by
  have hc := p.cnt
  exact ⟨p.g, p.hn, p.fr, by omega, by omega, fun f hf => by have := p.le f hf; omega, by omega, p.bn, p.k4⟩
theorem Pre.end_fall (p : Pre n b k r h a) (x : Nat) : fallOf (endOf r h a k) x = if x = h ∧ a ≤ k then some (h, a, 0) else fallOf r x := by
  unfold endOf
  by_cases c : a ≤ k
  · rw [if_pos c, p.fall]
    by_cases e : x = h
    · rw [if_pos e, if_pos ⟨e, c⟩]
    · rw [if_neg e, if_neg (fun z => e z.1)]
  · rw [if_neg c, if_neg (fun z => c z.2)]
theorem end_num (r : Rn) (h a k : Nat) : (endOf r h a k).1 = r.1 := by
  unfold endOf
  split <;> rfl
theorem Pre.end_good (p : Pre n b k r h a) : Good n b (endOf r h a k) := by
  unfold endOf
  split
  · rename_i c
    have := p.mask' c (ls := []) (fun _ z => absurd z List.not_mem_nil)
    exact this
  · exact p.g
/-- others stand -/
theorem Pre.others (p : Pre n b k r h a) (ak : a ≤ k) : ∃ x, x < n ∧ x ≠ h ∧ fallOf r x = none := by
  have hc := p.cnt
  have hb := p.bn
  obtain ⟨x, h1, h2, h3⟩ := stand_ex p.g.n [h] (by rw [List.length_singleton]; omega)
  exact ⟨x, h1, fun z => h2 (by rw [z]; exact List.mem_cons_self), h3⟩
theorem Pre.others2 (p : Pre n b k r h a) (ak : a ≤ k) (y : Nat) : ∃ x, x < n ∧ x ≠ h ∧ x ≠ y ∧ fallOf r x = none := by
  have hc := p.cnt
  have hb := p.bn
  obtain ⟨x, h1, h2, h3⟩ := stand_ex p.g.n [h, y] (by show r.2.length + 2 < n; omega)
  exact ⟨x, h1, fun z => h2 (by rw [z]; exact List.mem_cons_self), fun z => h2 (by rw [z]; simp), h3⟩
/-- to fall a round later, or to fall and reach all -/
theorem Pre.first' (p : Pre n b k r h a) (ak : a ≤ k) {ls : List Nat} (hl : ∀ x ∈ ls, x < r.1.length ∧ x ≠ h) (all : ∀ x ∈ standing r h, x ∈ ls) : Adj k (withF r h a (maskOf ls)) (endOf r h (a + 1) k) := by
  have g := p.mask' ak hl
  refine adj_off (U := (· = h)) g.v (by rw [end_num]; rfl) (fun x nx => ?_) p.a1 ak (fun o uo => ⟨maskOf ls, ?_, fun x hx nx u => ?_⟩) (fun o uo => ?_) ?_
  · rw [p.fall, if_neg nx, (p.down ak).end_fall, if_neg (fun z => nx z.1)]
  · rw [p.fall, if_pos uo, uo]
  · unfold hasH
    rw [maskOf_bit]
    refine decide_eq_true (all x (standing_mem.mpr ⟨hx, nx, ?_⟩))
    rw [isUp_congr (s := r) (by rw [p.fall, if_neg nx])] at u
    cases e : fallOf r x with
    | none => rfl
    | some f =>
      rw [isUp_some e] at u
      have := of_decide_eq_true u
      have := p.le f (fallOf_in e)
      omega
  · rw [(p.down ak).end_fall]
    by_cases c : a + 1 ≤ k
    · exact .inr (by rw [if_pos ⟨uo, c⟩, uo])
    · exact .inl ⟨by rw [if_neg (fun z => c z.2), uo]; exact p.fr, by omega⟩
  · obtain ⟨x, h1, h2, h3⟩ := p.others ak
    exact ⟨x, by rw [g.n]; exact h1, h2, isUp_none k (by rw [p.fall, if_neg h2]; exact h3)⟩
/-- to reach y, silent from then on, or not -/
theorem Pre.step' (p : Pre n b k r h a) (ak : a ≤ k) {l1 l2 : List Nat} (hl1 : ∀ x ∈ l1, x < r.1.length ∧ x ≠ h) (hl2 : ∀ x ∈ l2, x < r.1.length ∧ x ≠ h) {y : Nat} (hy : y ∈ standing r h) (hd : ∀ x, x ≠ y → (x ∈ l1 ↔ x ∈ l2)) :
    Adj k (endOf (withF r h a (maskOf l1)) y (a + 1) k) (endOf (withF r h a (maskOf l2)) y (a + 1) k) := by
  have q1 := p.next' ak hl1 hy
  have q2 := p.next' ak hl2 hy
  obtain ⟨h1, h2, h3⟩ := standing_mem.mp hy
  refine adj_reach (h := h) (y := y) (m1 := maskOf l1) (m2 := maskOf l2) q1.end_good.v (by rw [end_num, end_num]; rfl) (fun x hx => ?_) p.a1 ak ?_ ?_ (fun x hx => ?_) h2 ?_ ?_
  · rw [q1.end_fall, q2.end_fall, p.fall, p.fall, if_neg hx, if_neg hx]
  · rw [q1.end_fall, if_neg (fun z => h2 z.1.symm), p.fall, if_pos rfl]
  · rw [q2.end_fall, if_neg (fun z => h2 z.1.symm), p.fall, if_pos rfl]
  · unfold hasH
    rw [maskOf_bit, maskOf_bit]
    exact decide_eq_decide.mpr (hd x hx)
  · by_cases c : a + 1 ≤ k
    · exact .inr (by rw [q1.end_fall, if_pos ⟨rfl, c⟩])
    · exact .inl (by omega)
  · obtain ⟨x, e1, e2, e3, e4⟩ := p.others2 ak y
    refine ⟨x, by rw [q1.end_good.n]; exact e1, e3, isUp_none k ?_⟩
    rw [q1.end_fall, if_neg (fun z => e3 z.1), p.fall, if_neg e2]
    exact e4
theorem st2 {ls : List Nat} (hl : ∀ x ∈ ls, x ∈ standing r h) : ∀ x ∈ ls, x < r.1.length ∧ x ≠ h := fun x hx => ⟨(standing_mem.mp (hl x hx)).1, (standing_mem.mp (hl x hx)).2.1⟩
theorem Pre.mask (p : Pre n b k r h a) (ak : a ≤ k) {ls : List Nat} (hl : ∀ x ∈ ls, x ∈ standing r h) : Good n b (withF r h a (maskOf ls)) := p.mask' ak (st2 hl)
theorem Pre.next (p : Pre n b k r h a) (ak : a ≤ k) {ls : List Nat} (hl : ∀ x ∈ ls, x ∈ standing r h) {y : Nat} (hy : y ∈ standing r h) : Pre n b k (withF r h a (maskOf ls)) y (a + 1) := p.next' ak (st2 hl) hy
theorem Pre.first (p : Pre n b k r h a) (ak : a ≤ k) {ls : List Nat} (hl : ∀ x ∈ ls, x ∈ standing r h) (all : ∀ x ∈ standing r h, x ∈ ls) : Adj k (withF r h a (maskOf ls)) (endOf r h (a + 1) k) := p.first' ak (st2 hl) all
theorem Pre.step (p : Pre n b k r h a) (ak : a ≤ k) {l1 l2 : List Nat} (hl1 : ∀ x ∈ l1, x ∈ standing r h) (hl2 : ∀ x ∈ l2, x ∈ standing r h) {y : Nat} (hy : y ∈ standing r h) (hd : ∀ x, x ≠ y → (x ∈ l1 ↔ x ∈ l2)) :
    Adj k (endOf (withF r h a (maskOf l1)) y (a + 1) k) (endOf (withF r h a (maskOf l2)) y (a + 1) k) := p.step' ak (st2 hl1) (st2 hl2) hy hd
end
/-! ### healing -/
theorem fallOf_filter {r : Rn} (h : Srt r.2) (p : Fall → Bool) (x : Nat) : fallOf (r.1, r.2.filter p) x = (fallOf r x).filter p := by
  refine opt_ext fun f => ?_
  rw [fallOf_some (r := (r.1, r.2.filter p)) (h.filter p)]
  show f ∈ r.2.filter p ∧ f.1 = x ↔ _
  rw [List.mem_filter, Option.filter_eq_some_iff, fallOf_some h]
  constructor
  · rintro ⟨⟨h1, h2⟩, h3⟩; exact ⟨⟨h1, h3⟩, h2⟩
  · rintro ⟨⟨h1, h3⟩, h2⟩; exact ⟨⟨h1, h2⟩, h3⟩
theorem valid_filt {r : Rn} (v : Valid r) (p : Fall → Bool) : Valid (r.1, r.2.filter p) := ⟨v.lo, v.hi, v.num, v.srt.filter p, fun f hf => v.fin f (List.mem_filter.mp hf).1⟩
theorem Good.filt {n b : Nat} {r : Rn} (g : Good n b r) (p : Fall → Bool) : Good n b (r.1, r.2.filter p) := ⟨valid_filt g.v p, g.n, Nat.le_trans (List.length_filter_le _ _) g.b⟩
theorem Good.later {n b : Nat} {r : Rn} (g : Good n b r) (k : Nat) : Good n b (withoutLater r k) := g.filt _
theorem later_later {r : Rn} {a j : Nat} (h : a ≤ j) : withoutLater (withoutLater r j) a = withoutLater r a := by
  unfold withoutLater
  simp only
  congr 1
  rw [List.filter_filter]
  refine List.filter_congr fun f _ => ?_
  by_cases c : f.2.1 ≤ a
  · rw [decide_eq_true c, decide_eq_true (show f.2.1 ≤ j by omega)]; rfl
  · rw [decide_eq_false c]; rfl
theorem later_le {r : Rn} {k : Nat} (h : ∀ f ∈ r.2, f.2.1 ≤ k) : withoutLater r k = r := by
  unfold withoutLater
  rw [List.filter_eq_self.mpr fun f hf => decide_eq_true (h f hf)]
theorem adj_first {n b k : Nat} {r : Rn} (g : Good n b r) (hb : b + 2 ≤ n) : Adj k r (withoutLater r k) := by
  have hg := g.b
  refine adj_later (n := n) g.v ?_ fun x => ?_
  · obtain ⟨x, h1, _, h3⟩ := stand_ex g.n [] (by show r.2.length + 0 < n; omega)
    exact ⟨x, by rw [g.n]; exact h1, isUp_none k h3⟩
  · have e := fallOf_filter g.v.sr (fun f => decide (f.2.1 ≤ k)) x
    rw [show withoutLater r k = (r.1, r.2.filter fun f => decide (f.2.1 ≤ k)) from rfl, e]
    cases fallOf r x with
    | none => rfl
    | some f =>
      show (Option.filter _ (some f)) = if f.2.1 ≤ k then some f else none
      rw [Option.filter_some]
      by_cases c : f.2.1 ≤ k
      · rw [if_pos c, if_pos (decide_eq_true c)]
      · rw [if_neg c, if_neg (by simpa using c)]
end RF

set_option Elab.async false
set_option linter.all false
set_option maxRecDepth 100000
set_option maxHeartbeats 4000000
namespace RF
open PySem PySem.Spec PyProof.Rows L2 Evl RM RC
section
variable {K : PySem.W.Frag} {H : Hp}
/-- runs in a list -/
abbrev LR (K : PySem.W.Frag) (H : Hp) (p : Addr) (l : List Rn) : Prop := LD K H p (l.map eR)
theorem LR.app {p : Addr} {l : List Rn} {r : Rn} {v : V} {xs : List V} (h : H p = some (.lst xs)) (g : RpL K H (l.map eR) xs) (rv : Rp K H (eR r) v) : LR K (upd H p (.lst (xs ++ [v]))) p (l ++ [r]) := by
  refine ⟨_, upd_same, ?_⟩
  rw [List.map_append]
  exact (g.upT (ExT.lst h)).snoc (rv.upT (ExT.lst h))
theorem LR.cat {p : Addr} {l m : List Rn} {xs ys : List V} (h : H p = some (.lst xs)) (g : RpL K H (l.map eR) xs) (g2 : RpL K H (m.map eR) ys) : LR K (upd H p (.lst (xs ++ ys))) p (l ++ m) := by
  refine ⟨_, upd_same, ?_⟩
  rw [List.map_append]
  exact (g.upT (ExT.lst h)).app (g2.upT (ExT.lst h))
theorem LR.len {l : List Rn} {xs : List V} (g : RpL K H (l.map eR) xs) : xs.length = l.length := by
  have := g.len
  rwa [List.length_map] at this
/-- path.extend(m[1:]), path.extend(m) -/
theorem ext_go {p q : Addr} {l m : List Rn} {Q : VK} (hp : LR K H p l) (hq : LR K H q m) (sz : l.length + m.length ≤ 100000) (k : ∀ o, LR K (upd H p o) p (l ++ m) → (∃ xs, H p = some (.lst xs)) → Q .non (upd H p o)) : rExtend (.ref p) [.ref q] H Q := by
  obtain ⟨xs, h1, g1⟩ := hp
  obtain ⟨ys, h2, g2⟩ := hq
  have z : xs.length + ys.length ≤ 100000 := by rw [LR.len g1, LR.len g2]; exact sz
  exact ⟨p, q, xs, ys, rfl, rfl, h1, h2, sz_of z, k _ (LR.cat h1 g1 g2) ⟨xs, h1⟩⟩
theorem sl1_go {a : Addr} {m : List Rn} {Q : VK} (h : LR K H a m) (k : ∀ p H', H p = none → Ex H H' → LR K H' p (m.drop 1) → Q (.ref p) H') : rSlF K (.ref a) (some 1) none H Q := by
  obtain ⟨xs, h1, g1⟩ := h
  refine ⟨a, xs, rfl, SqL.of h1, fun p H' hp e g => k p H' hp e ⟨_, g, ?_⟩⟩
  have e1 : cutV xs (some 1) none = xs.drop 1 := cutV_from xs 1
  rw [e1, List.map_drop]
  exact (g1.drop 1).up e
theorem rev_go {q : Addr} {m : List Rn} {xs : List V} {H' : Hp} (g1 : RpL K H (m.map eR) xs) (e : Ex H H') (g : H' q = some (.lst xs.reverse)) : LR K H' q m.reverse := by
  refine ⟨_, g, ?_⟩
  rw [List.map_reverse]
  exact g1.rev.up e
theorem LR.refs {p : Addr} {l : List Rn} (h : LR K H p l) : ∃ xs, H p = some (.lst xs) := by
  obtain ⟨xs, h1, _⟩ := h
  exact ⟨xs, h1⟩
theorem LR.keep {p q : Addr} {l : List Rn} {o : HO} (h : LR K H p l) (n : p ≠ q) (hq : ∃ xs, H q = some (.lst xs)) : LR K (upd H q o) p l := by
  obtain ⟨ys, hq⟩ := hq
  exact LD.upT h (ExT.lst hq) (upd_ne n)
end
theorem ne_nil_dp {K : PySem.W.Frag} {H : Hp} {q t : Addr} (ls : List Nat) (h : H q = some (.lst (ls.map fun h => V.int (h : Nat)))) (ht : H t = some (.lst [])) {Q : VK} (k : Q (.bl (decide (ls ≠ []))) H) : rNeD K (.ref q) (.ref t) H Q := by
  have all : ∀ l : List Nat, DpAll K H (l.map fun h => V.int (h : Nat)) (l.map fun h => PyData.int (h : Nat)) := by
    intro l
    induction l with
    | nil => exact .nil
    | cons a l ih => exact .cons (.int _) ih
  have lay : ∀ l : List Nat, PyData.canLayAll0 (l.map fun h => PyData.int (h : Nat)) = true := by
    intro l
    induction l with
    | nil => rfl
    | cons a l ih =>
      rw [List.map_cons]
      show (PyData.canLay0 (.int a) && PyData.canLayAll0 _) = true
      rw [ih]
      rfl
  have dep : ∀ l : List Nat, PyData.depthAll (l.map fun h => PyData.int (h : Nat)) = 0 := by
    intro l
    induction l with
    | nil => rfl
    | cons a l ih =>
      rw [List.map_cons]
      show max (PyData.depth (.int a)) (PyData.depthAll _) = 0
      rw [ih]
      rfl
  refine ⟨.list (ls.map fun h => PyData.int (h : Nat)), .list [], .lst (SqL.of h) (all ls), .lst (SqL.of ht) .nil, ?_, rfl, ?_⟩
  · show (PyData.canLayAll0 _ && decide (PyData.depthAll _ + 1 ≤ 64)) = true
    rw [lay, dep]
    rfl
  · have e : (!PyData.eqv (.list (ls.map fun h => PyData.int (h : Nat))) (.list [])) = decide (ls ≠ []) := by
      cases ls with
      | nil => rfl
      | cons a l => rfl
    rw [e]
    exact k
def Lh : Nat → Nat
  | 0 => 1
  | m + 1 => 7 * Lh m + 1
theorem Lh_le (m : Nat) (h : m ≤ 3) : Lh m ≤ 400 := by
  rcases Nat.lt_or_ge m 2 with z | z
  · rcases Nat.lt_or_ge m 1 with y | y
    · rw [show m = 0 by omega]; decide
    · rw [show m = 1 by omega]; decide
  · rcases Nat.lt_or_ge m 3 with y | y
    · rw [show m = 2 by omega]; decide
    · rw [show m = 3 by omega]; decide
section
variable {P : Program} {w : World} {K : PySem.W.Frag} {mg : Str → Option Value} {base : Heap}
def sp_hushed (K : PySem.W.Frag) (m : Nat) : Sp := fun vs H Q _ => ∃ (n b k : Nat) (r : Rn) (h a : Nat) (x : V), vs = [x, .int h, .int a, .int k] ∧ Rp K H (eR r) x ∧ Pre n b k r h a ∧ k + 1 = a + m ∧
  ∀ p H' l, H p = none → Ex H H' → LR K H' p l → Path n b k l r (endOf r h a k) → l.length ≤ Lh m → Q (.ref p) H'
abbrev N_hushed : List Str := ["run", "hand", "at", "rounds", "path", "left", "now", "one", "less"]
theorem sc_hushed : FnScope N_hushed ["run", "hand", "at", "rounds"] (defScope s_hushed) := ⟨rfl, rfl, rfl, by decide +kernel, rfl, by decide +kernel, by decide +kernel⟩
theorem ok_hushed_0 (T : Txt P w K mg base) : Ok P w K mg base "hushed" (4 + 1) ["run", "hand", "at", "rounds"] (sp_hushed K 0) := by
  refine Ok.of T.f_hushed sc_hushed (fun _ _ _ _ _ _ us hl => match us, hl with | [_, _, _, _], _ => rfl) (fun vs H Q E h => ?_) (fun f cdv A outer s H vs Q E hr h => ?_)
  · obtain ⟨n, b, k, r, h, a, x, rfl, hx, hp, hm, kq⟩ := h
    rfl
  · obtain ⟨n, b, k, r, h, a, x, rfl, hx, hp, hm, kq⟩ := h
    refine ⟨_, (pss_cons (ps_if (pt_cmpR op_gt (pv 2) (pv 3) (by first | rfl | exact nomark _))
 (pss_one (ps_ret (peLst (pa_cons (pv 0) pa_nil))))
 pss_nil)
 (pss_cons ps_never
 (pss_cons ps_never
 (pss_cons ps_never
 (pss_cons ps_never
 (pss_cons ps_never
 (pss_one ps_never))))))), ?_⟩
    have ek : k + 1 = a := hm
    refine ⟨_, rfl, _, rfl, _, _, rfl, rfl, true, dt (by omega), iteT ⟨_, rfl, by show 1 ≤ 1000; decide, fun p H' hp0 e g => ?_⟩⟩
    have ee : endOf r h a k = r := by unfold endOf; rw [if_neg (by omega)]
    rw [ee] at kq
    exact kq p H' [r] hp0 e ⟨_, g, .one (hx.up e)⟩ (Path.one hp.g) (Nat.le_refl _)
theorem ok_hushed_s (m : Nat) (ih : Ok P w K mg base "hushed" (m + 5) ["run", "hand", "at", "rounds"] (sp_hushed K m)) (hm2 : m ≤ 3) (T : Txt P w K mg base) : Ok P w K mg base "hushed" ((m + 5) + 1) ["run", "hand", "at", "rounds"] (sp_hushed K (m + 1)) := by
  refine Ok.of T.f_hushed sc_hushed (fun _ _ _ _ _ _ us hl => match us, hl with | [_, _, _, _], _ => rfl) (fun vs H Q E h => ?_) (fun f cdv A outer s H vs Q E hr h => ?_)
  · obtain ⟨n, b, k, r, h, a, x, rfl, hx, hp, hm, kq⟩ := h
    rfl
  · obtain ⟨n, b, k, r, h, a, x, rfl, hx, hp, hm, kq⟩ := h
    refine ⟨_, (pss_cons (ps_if (pt_cmpR op_gt (pv 2) (pv 3) (by first | rfl | exact nomark _))
 (pss_one (ps_ret (peLst (pa_cons (pv 0) pa_nil))))
 pss_nil)
 (pss_cons (ps_set (i := 4) sc_hushed.nd rfl (by first | exact Or.inl rfl | exact Or.inr rfl) (pc (ih) hr (pa_cons (pv 0) (pa_cons (pv 1) (pa_cons (pe_op op_add (pv 2) pe_int) (pa_cons (pv 3) pa_nil)))) (Nat.le_refl _)))
 (pss_cons (ps_set (i := 5) sc_hushed.nd rfl (by first | exact Or.inl rfl | exact Or.inr rfl) (pc (ok_standing T) hr (pa_cons (pv 0) (pa_cons (pv 1) pa_nil)) (by omega)))
 (pss_cons (ps_set (i := 6) sc_hushed.nd rfl (by first | exact Or.inl rfl | exact Or.inr rfl) (pc (ok_with_fall T) hr (pa_cons (pv 0) (pa_cons (pv 1) (pa_cons (pv 2) (pa_cons (pc (ok_mask_of T) hr (pa_cons (pv 5) pa_nil) (by omega)) pa_nil)))) (by omega)))
 (pss_cons (ps_expr (pe_bm PySem.F.plainAttrs_list PySem.F.slot_list_append PySem.F.type_list_append mt_append (pv 4) (pa_cons (pv 6) pa_nil)))
 (pss_cons (ps_while PassesOwn.never (pt_cmpR (opNeD (K := K) rfl hr.units) (pv 5) (peLst pa_nil) (by first | rfl | exact nomark _))
 (pss_cons (ps_set (i := 7) sc_hushed.nd rfl (by first | exact Or.inl rfl | exact Or.inr rfl) (pe_bm0 PySem.F.plainAttrs_list PySem.F.slot_list_pop PySem.F.type_list_pop mt_pop (pv 5)))
 (pss_cons (ps_set (i := 8) sc_hushed.nd rfl (by first | exact Or.inl rfl | exact Or.inr rfl) (pc (ok_with_fall T) hr (pa_cons (pv 0) (pa_cons (pv 1) (pa_cons (pv 2) (pa_cons (pc (ok_mask_of T) hr (pa_cons (pv 5) pa_nil) (by omega)) pa_nil)))) (by omega)))
 (pss_cons (ps_expr (pe_bm PySem.F.plainAttrs_list PySem.F.slot_list_extend PySem.F.type_list_extend mt_extend (pv 4) (pa_cons (pe_slice (slLK (K := K) rfl) (pc (ih) hr (pa_cons (pv 6) (pa_cons (pv 7) (pa_cons (pe_op op_add (pv 2) pe_int) (pa_cons (pv 3) pa_nil)))) (Nat.le_refl _)) (po_some pe_int) po_none) pa_nil)))
 (pss_cons (ps_expr (pe_bm PySem.F.plainAttrs_list PySem.F.slot_list_extend PySem.F.type_list_extend mt_extend (pv 4) (pa_cons (RFR.pe_listRev (K := K) rfl rfl (by rfl) T.n_list (by rfl) T.n_reversed (pc (ih) hr (pa_cons (pv 8) (pa_cons (pv 7) (pa_cons (pe_op op_add (pv 2) pe_int) (pa_cons (pv 3) pa_nil)))) (Nat.le_refl _))) pa_nil)))
 (pss_one (ps_set (i := 6) sc_hushed.nd rfl (by first | exact Or.inl rfl | exact Or.inr rfl) (pv 8))))))))
 (pss_one (ps_ret (pv 4))))))))), ?_⟩
    have ak : a ≤ k := by omega
    have h4 := hp.k4
    have hn := hp.g.n
    have hv4 := hp.g.v.hi
    have hLm := Lh_le m hm2
    have ea : (a : Int) + 1 = ((a + 1 : Nat) : Int) := by omega
    refine ⟨_, rfl, _, rfl, _, _, rfl, rfl, false, df (by omega), iteF ?_⟩
    refine ⟨_, rfl, _, rfl, _, rfl, _, _, rfl, rfl, _, rfl, n, b, k, r, h, a + 1, x, ?_, hx, hp.down ak, by omega, fun p H1 l hp0 e1 lr pth ll => ?_⟩
    · show [x, V.int h, V.int ((a : Int) + 1), V.int k] = _
      rw [ea]
    refine ⟨_, rfl, _, rfl, r, h, x, rfl, hx.up e1, hp.g.v, fun q H2 hq0 e2 gq => ?_⟩
    have e12 := e1.trans e2
    have hst : ∀ y ∈ standing r h, y ≤ 1000 := fun y hy => by have := (standing_mem.mp hy).1; omega
    have lst := standing_len hp.g hp.hn
    refine ⟨_, rfl, _, rfl, _, rfl, _, rfl, q, standing r h, rfl, SqL.of gq, hst, r, h, a, maskOf (standing r h), x, rfl, hx.up e12, hp.g.v, by rw [hn]; exact hp.hn, hp.a1, by omega, maskOf_lt fun y hy => (standing_mem.mp hy).1, fun nowv H3 e3 hnow => ?_⟩
    have e13 := e12.trans e3
    have nqp : p ≠ q := fun z => by
      obtain ⟨xs, h1, _⟩ := lr
      rw [← z, h1] at hq0
      cases hq0
    obtain ⟨xs, px, rx⟩ : LR K H3 p l := lr.up (e2.trans e3)
    have lxs := LR.len rx
    refine ⟨_, rfl, .inl ⟨rfl, _, SqL.of px⟩, _, rfl, p, xs, nowv, rfl, rfl, px, sz_lt (by omega), ?_⟩
    have hqn : H q = none := fresh_back e1 hq0
    have all0 : ∀ y ∈ standing r h, y ∈ standing r h := fun _ z => z
    have g0 := hp.mask ak all0
    refine ⟨fun m' σ H' => ∃ (ls : List Nat) (l' : List Rn) (nv : V) (o1 o2 : Option V), m' = ls.length ∧ σ = [some x, some (.int h), some (.int a), some (.int k), some (.ref p), some (.ref q), some nv, o1, o2] ∧ Ex H H' ∧ LR K H' p l' ∧ H' q = some (.lst (ls.map fun h => V.int (h : Nat))) ∧ Rp K H' (eR (withF r h a (maskOf ls))) nv ∧
      Path n b k l' r (withF r h a (maskOf ls)) ∧ (∀ y ∈ ls, y ∈ standing r h) ∧ ls.Nodup ∧ l'.length + ls.length * (2 * Lh m) ≤ 7 * Lh m + 1, ⟨(standing r h).length, standing r h, l ++ [withF r h a (maskOf (standing r h))], nowv, none, none, rfl, rfl, e13.mut hp0, LR.app px rx hnow, ?_, hnow.upT (ExT.lst px), ?_, all0, standing_nodup r h, ?_⟩, ?_⟩
    · rw [upd_ne nqp.symm]; exact e3 _ _ gq
    · exact Path.snoc pth (hp.first ak all0 all0).symm g0
    · rw [List.length_append, List.length_singleton]
      have := Nat.mul_le_mul_right (2 * Lh m) lst
      omega
    rintro m' σ H' ⟨ls, l', nv, o1, o2, rfl, rfl, f1, f2, f3, f4, f5, f6, f7, f8⟩
    refine ⟨_, rfl, by show 0 ≤ 1000; decide, fun t H4 ht e4 gt => ne_nil_dp ls (e4 _ _ f3) gt ⟨_, rfl, ?_⟩⟩
    rcases List.eq_nil_or_concat ls with e | ⟨l2, y, e⟩
    · subst e
      rw [decide_eq_false (by simp)]
      refine iteF ⟨_, rfl, ?_⟩
      have ee : endOf r h a k = withF r h a 0 := by unfold endOf; rw [if_pos ak]
      rw [ee] at kq
      exact kq p H4 l' hp0 (f1.trans e4) (f2.up e4) f5 (by show _ ≤ 7 * Lh m + 1; simp at f8; omega)
    · have e' : ls = l2 ++ [y] := by rw [e]; simp
      clear e
      subst e'
      rw [decide_eq_true (by simp)]
      have hy := f6 y (by simp)
      have hl2 : ∀ z ∈ l2, z ∈ standing r h := fun z hz => f6 z (List.mem_append_left _ hz)
      have nd2 : l2.Nodup := (List.nodup_append.mp f7).1
      have ny : y ∉ l2 := fun hz => (List.nodup_append.mp f7).2.2 y hz y (by simp) rfl
      refine iteT ⟨fun σ' H'' => ∃ (ls : List Nat) (l' : List Rn) (nv : V) (o1 o2 : Option V), l2.length = ls.length ∧ σ' = [some x, some (.int h), some (.int a), some (.int k), some (.ref p), some (.ref q), some nv, o1, o2] ∧ Ex H H'' ∧ LR K H'' p l' ∧ H'' q = some (.lst (ls.map fun h => V.int (h : Nat))) ∧ Rp K H'' (eR (withF r h a (maskOf ls))) nv ∧
        Path n b k l' r (withF r h a (maskOf ls)) ∧ (∀ y ∈ ls, y ∈ standing r h) ∧ ls.Nodup ∧ l'.length + ls.length * (2 * Lh m) ≤ 7 * Lh m + 1, fun σ' H'' z => ⟨l2.length, by rw [List.length_append]; simp, z⟩, ?_⟩
      have gq4 := e4 _ _ f3
      rw [List.map_append, List.map_singleton] at gq4
      refine ⟨_, rfl, .inl ⟨rfl, _, SqL.of gq4⟩, q, _, .int y, rfl, rfl, gq4, by simp, ?_⟩
      have edl : (l2.map (fun h => V.int (h : Nat)) ++ [V.int (y : Nat)]).dropLast = l2.map fun h => V.int (h : Nat) := by simp
      rw [edl]
      have f14 := f1.trans e4
      have x5 : Ex H (upd H4 q (.lst (l2.map fun h => V.int (h : Nat)))) := f14.mut hqn
      have t5 : ExT H4 (upd H4 q (.lst (l2.map fun h => V.int (h : Nat)))) := ExT.lst gq4
      have lr5 : LR K (upd H4 q (.lst (l2.map fun h => V.int (h : Nat)))) p l' := LR.keep (LD.up f2 e4) nqp ⟨_, gq4⟩
      have nv5 := (f4.up e4).upT t5
      have q5 : (upd H4 q (.lst (l2.map fun h => V.int (h : Nat)))) q = some (.lst (l2.map fun h => V.int (h : Nat))) := upd_same
      generalize upd H4 q (.lst (l2.map fun h => V.int (h : Nat))) = H5 at x5 lr5 nv5 q5
      refine ⟨_, rfl, _, rfl, _, rfl, _, rfl, q, l2, rfl, SqL.of q5, fun z hz => hst z (hl2 z hz), r, h, a, maskOf l2, x, rfl, hx.up x5, hp.g.v, by rw [hn]; exact hp.hn, hp.a1, by omega, maskOf_lt fun z hz => (standing_mem.mp (hl2 z hz)).1, fun lv H6 e6 hless => ?_⟩
      have lr6 : LR K H6 p l' := lr5.up e6
      obtain ⟨xs6, px6⟩ := lr6.refs
      refine ⟨_, rfl, .inl ⟨rfl, _, SqL.of px6⟩, _, rfl, _, rfl, _, rfl, _, _, rfl, rfl, _, rfl, n, b, k, withF r h a (maskOf (l2 ++ [y])), y, a + 1, nv, ?_, nv5.up e6, hp.next ak f6 hy, by omega, fun p7 H7 m7 hp7 e7 lr7 pth7 ll7 => ⟨_, rfl, ?_⟩⟩
      · show [nv, V.int (y : Nat), V.int ((a : Int) + 1), V.int k] = _
        rw [ea]
      dsimp only [tNoPart]
      refine sl1_go lr7 fun p8 H8 hp8 e8 lr8 => ?_
      have c8 : l'.length + (m7.drop 1).length ≤ 100000 := by
        rw [List.length_drop]; omega
      dsimp only [tNil]
      refine ext_go ((lr6.up e7).up e8) lr8 c8 fun o lr9 hr9 => ?_
      have x9 : Ex H (upd H8 p o) := (((x5.trans e6).trans e7).trans e8).mut hp0
      have t9 : ExT H8 (upd H8 p o) := by
        obtain ⟨ys, hr9⟩ := hr9
        exact ExT.lst hr9
      have lv9 := ((hless.up e7).up e8).upT t9
      have q9 : (upd H8 p o) q = some (.lst (l2.map fun h => V.int (h : Nat))) := by
        rw [upd_ne nqp.symm]
        exact e8 _ _ (e7 _ _ (e6 _ _ q5))
      generalize upd H8 p o = H9 at x9 lr9 lv9 q9
      obtain ⟨xs9, px9⟩ := lr9.refs
      refine ⟨_, rfl, .inl ⟨rfl, _, SqL.of px9⟩, _, rfl, _, rfl, _, rfl, _, _, rfl, rfl, _, rfl, n, b, k, withF r h a (maskOf l2), y, a + 1, lv, ?_, lv9, hp.next ak hl2 hy, by omega, fun p10 H10 m10 hp10 e10 lr10 pth10 ll10 => ?_⟩
      · show [lv, V.int (y : Nat), V.int ((a : Int) + 1), V.int k] = _
        rw [ea]
      obtain ⟨xs10, px10, rx10⟩ := lr10
      refine ⟨p10, xs10, rfl, SqL.of px10, fun p11 H11 hp11 e11 g11 => ?_⟩
      have lr11 := rev_go rx10 e11 g11
      have l7 : (m7.drop 1).length ≤ Lh m - 1 := by rw [List.length_drop]; omega
      have p7 := pth7.pos
      have c11 : (l' ++ m7.drop 1).length + m10.reverse.length ≤ 100000 := by
        rw [List.length_append, List.length_reverse]; omega
      dsimp only [tNil]
      refine ext_go ((lr9.up e10).up e11) lr11 c11 fun o lr12 hr12 => ?_
      have t12 : ExT H11 (upd H11 p o) := by
        obtain ⟨ys, hr12⟩ := hr12
        exact ExT.lst hr12
      refine ⟨_, rfl, l2, l' ++ m7.drop 1 ++ m10.reverse, lv, some (.int y), some lv, rfl, rfl, ((x9.trans e10).trans e11).mut hp0, lr12, ?_, ((lv9.up e10).up e11).upT t12, ?_, hl2, nd2, ?_⟩
      · rw [upd_ne nqp.symm]
        exact e11 _ _ (e10 _ _ q9)
      · refine Path.app (f5.join' pth7) (hp.step ak f6 hl2 hy fun z hz => ?_) pth10.rev
        simp [hz]
      · rw [List.length_append, List.length_append, List.length_reverse]
        rw [List.length_append, List.length_singleton, Nat.add_mul, Nat.one_mul] at f8
        omega
theorem ok_hushed (T : Txt P w K mg base) : ∀ m, m ≤ 3 → Ok P w K mg base "hushed" (m + 5) ["run", "hand", "at", "rounds"] (sp_hushed K m)
  | 0, _ => ok_hushed_0 T
  | m + 1, h => ok_hushed_s m (ok_hushed T m (by omega)) (by omega) T
end
end RF

set_option Elab.async false
set_option linter.all false
namespace RF
open RM
theorem withF_twice {r : Rn} (hs : Srt r.2) (h a m a' m' : Nat) : withF (withF r h a m) h a' m' = withF r h a' m' := by
  refine run_ext (srt_withF (srt_withF hs h a m) h a' m') (srt_withF hs h a' m') rfl fun x => ?_
  rw [fallOf_withF (srt_withF hs h a m), fallOf_withF hs, fallOf_withF hs]
  by_cases e : x = h
  · rw [if_pos e, if_pos e]
  · rw [if_neg e, if_neg e, if_neg e]
theorem without_withF {r : Rn} (hs : Srt r.2) {h : Nat} (hn : fallOf r h = none) (a m : Nat) : RM.without (withF r h a m) h = r := by
  refine run_ext (srt_without (srt_withF hs h a m) h) hs rfl fun x => ?_
  rw [fallOf_without (srt_withF hs h a m), fallOf_withF hs]
  by_cases e : x = h
  · rw [if_pos e, e, hn]
  · rw [if_neg e, if_neg e]
theorem withF_back {r : Rn} (hs : Srt r.2) {h a m : Nat} (hf : fallOf r h = some (h, a, m)) : withF (RM.without r h) h a m = r := by
  refine run_ext (srt_withF (srt_without hs h) h a m) hs rfl fun x => ?_
  rw [fallOf_withF (srt_without hs h), fallOf_without hs]
  by_cases e : x = h
  · rw [if_pos e, e, hf]
  · rw [if_neg e, if_neg e]
theorem fallOf_self {r : Rn} {x : Nat} {f : Fall} (h : fallOf r x = some f) : fallOf r x = some (x, f.2.1, f.2.2) := by
  have := fallOf_hand h
  rw [h, ← this]
theorem fallsAt_mem {r : Rn} {a : Nat} {f : Fall} : f ∈ fallsAt r a ↔ f ∈ r.2 ∧ f.2.1 = a := by
  unfold fallsAt
  rw [List.mem_filter]
  simp
theorem unseen_mem {r : Rn} (hs : Srt r.2) {a h : Nat} : h ∈ unseen r a ↔ ∃ m, fallOf r h = some (h, a, m) ∧ ∀ o ∈ whoUp r a, o ∈ handsIn m := by
  unfold unseen
  rw [List.mem_map]
  constructor
  · rintro ⟨f, hf, rfl⟩
    obtain ⟨h1, h2⟩ := List.mem_filter.mp hf
    obtain ⟨h3, h4⟩ := fallsAt_mem.mp h1
    refine ⟨f.2.2, ?_, fun o ho => of_decide_eq_true (List.all_eq_true.mp h2 o ho)⟩
    rw [← h4]
    exact (fallOf_some hs).mpr ⟨h3, rfl⟩
  · rintro ⟨m, h1, h2⟩
    refine ⟨(h, a, m), List.mem_filter.mpr ⟨fallsAt_mem.mpr ⟨fallOf_in h1, rfl⟩, ?_⟩, rfl⟩
    exact List.all_eq_true.mpr fun o ho => decide_eq_true (h2 o ho)
theorem unseen_nodup {r : Rn} (hs : Srt r.2) (a : Nat) : (unseen r a).Nodup := by
  unfold unseen fallsAt
  rw [List.filter_filter]
  have : Srt (r.2.filter fun x => (whoUp r a).all (fun o => decide (o ∈ handsIn x.2.2)) && (x.2.1 == a)) := hs.filter _
  exact List.pairwise_map.mpr (List.Pairwise.imp (fun h => by omega) this)
/-! ### putting off -/
def putFalls (r : Rn) (a k : Nat) (l : List Nat) (x : Nat) : Option Fall := if x ∈ l then (if a < k then some (x, a + 1, 0) else none) else fallOf r x
theorem putOff1_srt {r : Rn} (hs : Srt r.2) (a k h : Nat) : Srt (putOff1 a k r h).2 := by
  unfold putOff1
  split
  · exact srt_withF (srt_without hs h) h _ _
  · exact srt_without hs h
theorem putOff_falls (a k : Nat) : ∀ (l : List Nat) (r : Rn), Srt r.2 → Srt (l.foldl (putOff1 a k) r).2 ∧ (l.foldl (putOff1 a k) r).1 = r.1 ∧ ∀ x, fallOf (l.foldl (putOff1 a k) r) x = putFalls r a k l x
  | [], r, hs => ⟨hs, rfl, fun x => by unfold putFalls; rw [if_neg List.not_mem_nil]; rfl⟩
  | h :: l, r, hs => by
    obtain ⟨h1, h2, h3⟩ := putOff_falls a k l (putOff1 a k r h) (putOff1_srt hs a k h)
    refine ⟨h1, ?_, fun x => ?_⟩
    · rw [List.foldl_cons, h2]
      unfold putOff1
      split <;> rfl
    · rw [List.foldl_cons, h3]
      unfold putFalls
      by_cases e : x ∈ l
      · rw [if_pos e, if_pos (List.mem_cons_of_mem _ e)]
      · rw [if_neg e]
        have hh : fallOf (putOff1 a k r h) x = if x = h then (if a < k then some (h, a + 1, 0) else none) else fallOf r x := by
          unfold putOff1
          by_cases c : a < k
          · rw [if_pos c, if_pos c, fallOf_withF (srt_without hs h), fallOf_without hs]
            by_cases z : x = h
            · rw [if_pos z, if_pos z]
            · rw [if_neg z, if_neg z, if_neg z]
          · rw [if_neg c, if_neg c, fallOf_without hs]
        rw [hh]
        by_cases z : x = h
        · subst z
          rw [if_pos rfl, if_pos List.mem_cons_self]
        · rw [if_neg z, if_neg (fun y => (List.mem_cons.mp y).elim z e)]
theorem putOff_fall {r : Rn} (hs : Srt r.2) (a k x : Nat) : fallOf (putOff r a k) x = putFalls r a k (unseen r a) x := (putOff_falls a k (unseen r a) r hs).2.2 x
theorem putOff_srt {r : Rn} (hs : Srt r.2) (a k : Nat) : Srt (putOff r a k).2 := (putOff_falls a k (unseen r a) r hs).1
theorem putOff_num {r : Rn} (hs : Srt r.2) (a k : Nat) : (putOff r a k).1 = r.1 := (putOff_falls a k (unseen r a) r hs).2.1
theorem putOff1_ok {n b a k h : Nat} {r : Rn} (g : Good n b r) (hf : ∃ f, fallOf r h = some f) (hh : h < n) (ha : a + 1 ≤ 5) : Good n b (putOff1 a k r h) := by
  obtain ⟨f, hf⟩ := hf
  have h1 := len_without g.v.sr hf
  have hb := g.b
  have gw : Good n b (RM.without r h) := ⟨g.v.without h, g.n, by omega⟩
  unfold putOff1
  split
  · refine ⟨(gw.v).withF (by rw [gw.n]; exact hh) (by omega) ha (Nat.two_pow_pos _) (bit0 _), gw.n, ?_⟩
    rw [len_withF, without_none (by rw [fallOf_without g.v.sr, if_pos rfl])]
    omega
  · exact gw
theorem putOff_ok {n b a k : Nat} (ha : a + 1 ≤ 5) : ∀ (l : List Nat) (r : Rn), l.Nodup → Good n b r → (∀ h ∈ l, ∃ f, fallOf r h = some f) → Good n b (l.foldl (putOff1 a k) r)
  | [], r, _, g, _ => g
  | h :: l, r, nd, g, hl => by
    obtain ⟨f, hf⟩ := hl h List.mem_cons_self
    have hh : h < n := by
      have := (g.v.fin f (fallOf_in hf)).1
      rw [fallOf_hand hf, g.n] at this
      exact this
    rw [List.foldl_cons]
    refine putOff_ok ha l _ (List.nodup_cons.mp nd).2 (putOff1_ok g ⟨f, hf⟩ hh ha) fun x hx => ?_
    obtain ⟨u, hu⟩ := hl x (List.mem_cons_of_mem _ hx)
    have ne : x ≠ h := fun z => (List.nodup_cons.mp nd).1 (by rw [← z]; exact hx)
    refine ⟨u, ?_⟩
    have := (putOff_falls a k [h] r g.v.sr).2.2 x
    rw [List.foldl_cons, List.foldl_nil] at this
    rw [this]
    unfold putFalls
    rw [if_neg (by simpa using ne)]
    exact hu
theorem adj_put {n b k a : Nat} {r : Rn} (g : Good n b r) (hb : b + 2 ≤ n) (a1 : 1 ≤ a) (ak : a ≤ k) : Adj k r (putOff r a k) := by
  have hs := g.v.sr
  have h4 := g.v.hi
  refine adj_off (U := fun x => x ∈ unseen r a) g.v (putOff_num hs a k).symm (fun x nx => ?_) a1 ak (fun o uo => ?_) (fun o uo => ?_) ?_
  · rw [putOff_fall hs]; unfold putFalls; rw [if_neg nx]
  · obtain ⟨m, h1, h2⟩ := (unseen_mem hs).mp uo
    refine ⟨m, h1, fun x hx _ u => ?_⟩
    exact (handsIn_mem.mp (h2 x (whoUp_mem.mpr ⟨hx, u⟩))).2
  · rw [putOff_fall hs]
    unfold putFalls
    rw [if_pos uo]
    by_cases c : a < k
    · rw [if_pos c]; exact .inr rfl
    · rw [if_neg c]; exact .inl ⟨rfl, by omega⟩
  · have hg := g.b
    obtain ⟨x, h1, _, h3⟩ := stand_ex g.n [] (by show r.2.length + 0 < n; omega)
    refine ⟨x, by rw [g.n]; exact h1, fun z => ?_, isUp_none k h3⟩
    obtain ⟨m, hm, _⟩ := (unseen_mem hs).mp z
    rw [h3] at hm
    cases hm
end RF

set_option Elab.async false
set_option linter.all false
set_option maxRecDepth 100000
set_option maxHeartbeats 4000000
namespace RF
open PySem PySem.Spec PyProof.Rows L2 Evl RM RC
/-- the run when the first i hands have been looked at -/
def latI (r : Rn) (k i : Nat) : Rn := (r.1, r.2.filter fun f => decide (f.2.1 ≤ k) || decide (i ≤ f.1))
theorem latI_0 (r : Rn) (k : Nat) : latI r k 0 = r := by
  unfold latI
  rw [List.filter_eq_self.mpr fun f _ => by simp]
theorem latI_n {r : Rn} (hv : Valid r) (k : Nat) : latI r k r.1.length = withoutLater r k := by
  unfold latI RM.withoutLater
  congr 1
  refine List.filter_congr fun f hf => ?_
  have := (hv.fin f hf).1
  rw [decide_eq_false (show ¬ r.1.length ≤ f.1 by omega), Bool.or_false]
theorem latI_s {r : Rn} (hv : Valid r) (k i : Nat) : latI r k (i + 1) = match fallOf (latI r k i) i with
    | some f => if k < f.2.1 then RM.without (latI r k i) i else latI r k i
    | none => latI r k i := by
  have e1 : RM.without (latI r k i) i = latI r k (i + 1) ∨ True := .inr trivial
  have key : ∀ f ∈ r.2, f.1 ≠ i → ((decide (f.2.1 ≤ k) || decide (i + 1 ≤ f.1)) = (decide (f.2.1 ≤ k) || decide (i ≤ f.1))) := fun f _ hne => by
    congr 1
    exact decide_eq_decide.mpr (by omega)
  have same : (∀ f ∈ r.2, f.1 = i → f.2.1 ≤ k) → latI r k (i + 1) = latI r k i := fun h => by
    unfold latI
    congr 1
    refine List.filter_congr fun f hf => ?_
    by_cases e : f.1 = i
    · rw [decide_eq_true (h f hf e)]; rfl
    · exact key f hf e
  have ff := fallOf_filter hv.sr (fun f => decide (f.2.1 ≤ k) || decide (i ≤ f.1)) i
  have ff' : fallOf (latI r k i) i = (fallOf r i).filter fun f => decide (f.2.1 ≤ k) || decide (i ≤ f.1) := ff
  rw [ff']
  cases e : fallOf r i with
  | none =>
    refine same fun f hf e2 => ?_
    exact absurd e2 (fallOf_none.mp e f hf)
  | some f =>
    obtain ⟨h1, h2⟩ := (fallOf_some hv.sr).mp e
    rw [Option.filter_some, if_pos (by rw [h2]; simp)]
    show _ = if k < f.2.1 then _ else _
    by_cases c : k < f.2.1
    · rw [if_pos c]
      unfold latI RM.without
      congr 1
      rw [List.filter_filter]
      refine List.filter_congr fun g hg => ?_
      by_cases e2 : g.1 = i
      · have : g = f := by
          have := (fallOf_some hv.sr).mpr ⟨hg, e2⟩
          rw [e] at this
          exact (Option.some.inj this).symm
        subst this
        rw [decide_eq_false (show ¬ g.2.1 ≤ k by omega), decide_eq_false (show ¬ i + 1 ≤ g.1 by omega), h2]
        simp
      · rw [key g hg e2]
        simp [e2]
    · rw [if_neg c]
      refine same fun g hg e2 => ?_
      have : g = f := by
        have := (fallOf_some hv.sr).mpr ⟨hg, e2⟩
        rw [e] at this
        exact (Option.some.inj this).symm
      subst this
      omega
section
variable {P : Program} {w : World} {K : PySem.W.Frag} {mg : Str → Option Value} {base : Heap}
def sp_without_later (K : PySem.W.Frag) : Sp := fun vs H Q _ => ∃ (r : Rn) (k : Nat) (x : V), vs = [x, .int k] ∧ Rp K H (eR r) x ∧ Valid r ∧ ∀ y H', Ex H H' → Rp K H' (eR (withoutLater r k)) y → Q y H'
abbrev N_without_later : List Str := ["run", "rounds", "hand", "fall"]
theorem sc_without_later : FnScope N_without_later ["run", "rounds"] (defScope s_without_later) := ⟨rfl, rfl, rfl, by decide +kernel, rfl, by decide +kernel, by decide +kernel⟩
theorem ok_without_later (T : Txt P w K mg base) : Ok P w K mg base "without_later" (2 + 1) ["run", "rounds"] (sp_without_later K) := by
  refine Ok.of T.f_without_later sc_without_later (fun _ _ _ _ _ _ us hl => match us, hl with | [_, _], _ => rfl) (fun vs H Q E h => ?_) (fun f cdv A outer s H vs Q E hr h => ?_)
  · obtain ⟨r, k, x, rfl, hx, hv, kq⟩ := h
    rfl
  · obtain ⟨r, k, x, rfl, hx, hv, kq⟩ := h
    refine ⟨_, (pss_cons (ps_for PassesOwn.never rfl (pi_range1 (by rfl) T.n_range (pa_cons (pc (ok_many_hands T) hr (pa_cons (pv 0) pa_nil)) pa_nil)) (pg_name (i := 2) sc_without_later.nd rfl (by first | exact Or.inl rfl | exact Or.inr rfl))
 (pss_cons (ps_set (i := 3) sc_without_later.nd rfl (by first | exact Or.inl rfl | exact Or.inr rfl) (pc (ok_fall_of T) hr (pa_cons (pv 0) (pa_cons (pv 2) pa_nil))))
 (pss_one (ps_if (PW.pt (pw_and (pt_cmp (pc_notN (pv 3))) (pw_and1 (pt_cmpR op_gt (pe_ix (ixT (K := K) rfl) (pv 3) pe_int (fun _ _ => rfl)) (pv 1) (by first | rfl | exact nomark _)))))
 (pss_one (ps_set (i := 0) sc_without_later.nd rfl (by first | exact Or.inl rfl | exact Or.inr rfl) (pc (ok_without_fall T) hr (pa_cons (pv 0) (pa_cons (pv 2) pa_nil)))))
 pss_nil))))
 (pss_one (ps_ret (pv 0)))), ?_⟩
    have hi := hv.hi
    refine ⟨_, rfl, r, x, rfl, hx, _, rfl, by omega, by omega, for_range (lo := 0) (n := r.1.length) (fun i σ H' => Ex H H' ∧ ∃ x' o1 o2, σ = [some x', some (.int k), o1, o2] ∧ Rp K H' (eR (latI r k i)) x') ⟨Ex.refl H, x, none, none, rfl, by rw [latI_0]; exact hx⟩ ?_ ?_⟩
    · rintro i σ H' hi' ⟨e1, x', o1, o2, rfl, hx'⟩
      rw [Int.zero_add]
      have hs := latI_s hv k i
      refine ⟨_, rfl, _, rfl, latI r k i, i, x', rfl, hx', fun hn => ?_, fun f y hf ry => ?_⟩
      · rw [hn] at hs
        refine ⟨_, rfl, _, rfl, iteF (iteF ⟨e1, x', _, _, rfl, by rw [hs]; exact hx'⟩)⟩
      · rw [hf] at hs
        obtain ⟨c, rfl, g⟩ := fall_get ry
        refine ⟨_, rfl, _, rfl, iteT ⟨_, rfl, _, _, 1, _, rfl, rfl, g, atI_nat (j := 1) rfl, _, rfl, _, _, rfl, rfl, ?_⟩⟩
        by_cases q : k < f.2.1
        · have hs : latI r k (i + 1) = RM.without (latI r k i) i := hs.trans (if_pos q)
          refine ⟨true, dt (by omega), iteT ⟨_, rfl, _, rfl, latI r k i, i, x', rfl, hx', valid_filt hv _, fun y H1 e2 hy => ⟨e1.trans e2, y, some (.int i), some (.ref c), rfl, by rw [hs]; exact hy⟩⟩⟩
        · have hs : latI r k (i + 1) = latI r k i := hs.trans (if_neg q)
          exact ⟨false, df (by omega), iteF ⟨e1, x', _, _, rfl, by rw [hs]; exact hx'⟩⟩
    · rintro σ H' ⟨e1, x', o1, o2, rfl, hx'⟩
      rw [latI_n hv] at hx'
      exact ⟨_, rfl, kq x' H' e1 hx'⟩
def sp_falls_of_round (K : PySem.W.Frag) : Sp := fun vs H Q _ => ∃ (r : Rn) (a : Nat) (x : V), vs = [x, .int a] ∧ Rp K H (eR r) x ∧ Valid r ∧ ∀ p H', H p = none → Ex H H' → LD K H' p ((fallsAt r a).map eF) → Q (.ref p) H'
abbrev N_falls_of_round : List Str := ["run", "at", "fall"]
theorem sc_falls_of_round : FnScope N_falls_of_round ["run", "at"] (defScope s_falls_of_round) := ⟨rfl, rfl, rfl, by decide +kernel, rfl, by decide +kernel, by decide +kernel⟩
theorem ok_falls_of_round (T : Txt P w K mg base) : Ok P w K mg base "falls_of_round" (0 + 1) ["run", "at"] (sp_falls_of_round K) := by
  refine Ok.of T.f_falls_of_round sc_falls_of_round (fun _ _ _ _ _ _ us hl => match us, hl with | [_, _], _ => rfl) (fun vs H Q E h => ?_) (fun f cdv A outer s H vs Q E hr h => ?_)
  · obtain ⟨r, a, x, rfl, hx, hv, kq⟩ := h
    rfl
  · obtain ⟨r, a, x, rfl, hx, hv, kq⟩ := h
    refine ⟨_, (pss_one (ps_ret (pe_lc (own := [("fall", 2)]) rfl sc_falls_of_round.nd (piT (K := K) rfl (pe_ix (ixT (K := K) rfl) (pv 0) pe_int (fun _ _ => rfl))) (blkOk_by (N := N_falls_of_round) (sc := defScope s_falls_of_round) (own := [("fall", 2)]) (by decide +kernel)) (fun _ _ _ _ _ => (pg_name (i := 2) sc_falls_of_round.nd rfl (by first | exact Or.inl rfl | exact Or.inr rfl))) (fun _ _ _ _ _ => (pts_one (pt_cmpR op_eq (pe_ix (ixT (K := K) rfl) (pv 2) pe_int (fun _ _ => rfl)) (pv 1) (by first | rfl | exact nomark _)))) (fun _ _ _ _ _ => (pv 2))))), ?_⟩
    obtain ⟨b, pn, pf, fs, rfl, g1, g2, g3, g4⟩ := run_get hx
    have fl := falls_len hv
    have gl := g4.len
    rw [List.length_map] at gl
    refine ⟨_, rfl, _, _, 1, _, rfl, rfl, g1, atI_nat (j := 1) rfl, pf, rfl, ⟨_, g3⟩, fun Dl hD => ?_⟩
    refine lc_tup (K := K) (a := pf) (xs := fs) (fun i H' => Ex H H' ∧ ∃ acc, H' Dl = some (.lst acc) ∧ acc.length ≤ i ∧ RpL K H' (((r.2.take i).filter fun f => f.2.1 == a).map eF) acc) ⟨Ex.new hD, [], upd_same, Nat.le_refl _, .nil⟩ (fun i H' _ ⟨e, _⟩ => ex_t e g3) (fun i y H' hi ⟨e1, acc, p1, p2, p3⟩ => ?_) (fun H' ⟨e1, acc, p1, p2, p3⟩ => ?_)
    · obtain ⟨d, hd, rd⟩ := g4.get' hi
      rw [List.getElem?_map] at hd
      obtain ⟨f', hf, rfl⟩ := Option.map_eq_some_iff.mp hd
      obtain ⟨c, rfl, g⟩ := fall_get (rd.up e1)
      have hlt := (List.getElem?_eq_some_iff.mp hi).1
      rw [List.take_add_one, hf, Option.toList_some, List.filter_append]
      refine ⟨rfl, _, rfl, _, _, 1, _, rfl, rfl, g, atI_nat (j := 1) rfl, _, rfl, rfl, _, rfl, ?_⟩
      rw [dint]
      by_cases q : f'.2.1 = a
      · rw [decide_eq_true q]
        refine iteT ⟨_, rfl, acc, p1, sz_lt (by omega), e1.mut hD, _, upd_same, by simp; omega, ?_⟩
        have : [f'].filter (fun f => f.2.1 == a) = [f'] := by simp [q]
        rw [this, List.map_append]
        exact (p3.upT (ExT.lst p1)).snoc ((rd.up e1).upT (ExT.lst p1))
      · rw [decide_eq_false q]
        refine iteF ⟨e1, acc, p1, by omega, ?_⟩
        have : [f'].filter (fun f => f.2.1 == a) = [] := by simp [q]
        rw [this, List.append_nil]
        exact p3
    · refine kq Dl H' hD e1 ⟨acc, p1, ?_⟩
      rw [gl, List.take_length] at p3
      exact p3
theorem inV_nat (x : Nat) : ∀ l : List Nat, inV (.int (x : Nat)) (l.map fun h => V.int (h : Nat)) = decide (x ∈ l) := by
  intro l
  induction l with
  | nil => rfl
  | cons a l ih =>
    show (eqV (.int (a : Nat)) (.int (x : Nat)) || inV (.int (x : Nat)) (l.map fun h => V.int (h : Nat))) = _
    rw [ih]
    have e : eqV (.int (a : Nat)) (.int (x : Nat)) = decide (x = a) := by
      show ((a : Int) == (x : Int)) = _
      by_cases h : x = a
      · subst h; rw [decide_eq_true rfl]; exact beq_self_eq_true _
      · rw [decide_eq_false h]
        exact beq_eq_false_iff_ne.mpr (by omega)
    rw [e]
    simp
theorem flat_nat : ∀ l : List Nat, (l.map fun h => V.int (h : Nat)).all flatV = true := by
  intro l
  induction l with
  | nil => rfl
  | cons a l ih => exact ih
def sp_unseen (K : PySem.W.Frag) : Sp := fun vs H Q _ => ∃ (r : Rn) (a : Nat) (x : V), vs = [x, .int a] ∧ Rp K H (eR r) x ∧ Valid r ∧ ∀ p H', H p = none → Ex H H' → H' p = some (.lst ((unseen r a).map fun h => V.int (h : Nat))) → Q (.ref p) H'
abbrev N_unseen : List Str := ["run", "at", "up", "found", "fall", "heard", "one"]
theorem sc_unseen : FnScope N_unseen ["run", "at"] (defScope s_unseen) := ⟨rfl, rfl, rfl, by decide +kernel, rfl, by decide +kernel, by decide +kernel⟩
theorem ok_unseen (T : Txt P w K mg base) : Ok P w K mg base "unseen" (4 + 1) ["run", "at"] (sp_unseen K) := by
  refine Ok.of T.f_unseen sc_unseen (fun _ _ _ _ _ _ us hl => match us, hl with | [_, _], _ => rfl) (fun vs H Q E h => ?_) (fun f cdv A outer s H vs Q E hr h => ?_)
  · obtain ⟨r, a, x, rfl, hx, hv, kq⟩ := h
    rfl
  · obtain ⟨r, a, x, rfl, hx, hv, kq⟩ := h
    refine ⟨_, (pss_cons (ps_set (i := 2) sc_unseen.nd rfl (by first | exact Or.inl rfl | exact Or.inr rfl) (pc (ok_who_is_up T) hr (pa_cons (pv 0) (pa_cons (pv 1) pa_nil))))
 (pss_cons (ps_set (i := 3) sc_unseen.nd rfl (by first | exact Or.inl rfl | exact Or.inr rfl) (peLst pa_nil))
 (pss_cons (ps_for PassesOwn.never rfl (piL (K := K) rfl (pc (ok_falls_of_round T) hr (pa_cons (pv 0) (pa_cons (pv 1) pa_nil)))) (pg_name (i := 4) sc_unseen.nd rfl (by first | exact Or.inl rfl | exact Or.inr rfl))
 (pss_cons (ps_set (i := 5) sc_unseen.nd rfl (by first | exact Or.inl rfl | exact Or.inr rfl) (pc (ok_hands_in T) hr (pa_cons (pe_ix (ixT (K := K) rfl) (pv 4) pe_int (fun _ _ => rfl)) pa_nil)))
 (pss_one (ps_if (pt_cmpR op_eq (pe_callB (cLen (K := K) rfl) (by rfl) T.n_len bt_len (pa_cons (pe_lc (own := [("one", 6)]) rfl sc_unseen.nd (piL (K := K) rfl (pv 2)) (blkOk_by (N := N_unseen) (sc := defScope s_unseen) (own := [("one", 6)]) (by decide +kernel)) (fun _ _ _ _ _ => (pg_name (i := 6) sc_unseen.nd rfl (by first | exact Or.inl rfl | exact Or.inr rfl))) (fun _ _ _ _ _ => (pts_one (pt_cmpR (opNotInS (K := K) rfl) (pv 6) (pv 5) (by first | rfl | exact nomark _)))) (fun _ _ _ _ _ => (pv 6))) pa_nil)) pe_int (by first | rfl | exact nomark _))
 (pss_one (ps_expr (pe_bm PySem.F.plainAttrs_list PySem.F.slot_list_append PySem.F.type_list_append mt_append (pv 3) (pa_cons (pe_ix (ixT (K := K) rfl) (pv 4) pe_int (fun _ _ => rfl)) pa_nil))))
 pss_nil))))
 (pss_one (ps_ret (pv 3)))))), ?_⟩
    have hi := hv.hi
    refine ⟨_, rfl, _, rfl, r, a, x, rfl, hx, by omega, fun p H1 hp e1 gp => ?_⟩
    refine ⟨by show 0 ≤ 1000; decide, fun l H2 hl e2 g2 => ?_⟩
    have e12 := e1.trans e2
    refine ⟨_, rfl, _, rfl, r, a, x, rfl, hx.up e12, hv, fun q H3 hq e3 hL => ⟨q, rfl, ?_⟩⟩
    obtain ⟨fs, pq, rq⟩ := hL
    have e13 := e12.trans e3
    have nl : H l = none := fresh_back e1 hl
    have l2 : H3 l = some (.lst []) := e3 _ _ g2
    have nlp : p ≠ l := ne_of_none gp hl
    have nlq : q ≠ l := fun z => by rw [← z] at g2; rw [g2] at hq; cases hq
    have ql := rq.len
    have fal : (fallsAt r a).length ≤ 4 := by
      have h1 := falls_len hv
      have h2 : (fallsAt r a).length ≤ r.2.length := List.length_filter_le _ _
      omega
    rw [List.length_map] at ql
    refine ⟨⟨_, SqL.of pq⟩, for_list (K := K) (a := q) (xs := fs) (fun i σ H' => ExB l H3 H' ∧ (∃ o1 o2 o3, σ = [some x, some (.int a), some (.ref p), some (.ref l), o1, o2, o3]) ∧ H' l = some (.lst (((((fallsAt r a).take i).filter fun f => (whoUp r a).all fun o => decide (o ∈ handsIn f.2.2)).map (·.1)).map fun h => V.int (h : Nat)))) ⟨ExB.refl l H3, ⟨none, none, none, rfl⟩, l2⟩ (fun i σ H' _ ⟨f1, _⟩ => SqL.of (f1 _ _ nlq pq)) ?_ ?_⟩
    · rintro i y σ H' hi' ⟨f1, ⟨o1, o2, o3, rfl⟩, f4⟩
      obtain ⟨d, hd, rd⟩ := rq.get' hi'
      rw [List.getElem?_map] at hd
      obtain ⟨f', hf, rfl⟩ := Option.map_eq_some_iff.mp hd
      have rd' := rd.upT (f1.exT l2)
      obtain ⟨c, rfl, g⟩ := fall_get rd'
      have hlt := (List.getElem?_eq_some_iff.mp hi').1
      have tk : ((fallsAt r a).take (i + 1)) = (fallsAt r a).take i ++ [f'] := by rw [List.take_add_one, hf]; rfl
      rw [tk, List.filter_append]
      have small : (((((fallsAt r a).take i).filter fun f => (whoUp r a).all fun o => decide (o ∈ handsIn f.2.2)).map (·.1)).map fun h => V.int (h : Nat)).length ≤ 4 := by
        rw [List.length_map, List.length_map]
        refine Nat.le_trans (List.length_filter_le _ _) ?_
        rw [List.length_take]; omega
      generalize ((fallsAt r a).take i).filter (fun f => (whoUp r a).all fun o => decide (o ∈ handsIn f.2.2)) = acc at f4 small ⊢
      refine ⟨_, rfl, _, _, 2, _, rfl, rfl, g, atI_nat (j := 2) rfl, f'.2.2, rfl, fun hq2 H4 hhq e4 g4 => ?_⟩
      have gp4 : H4 p = some (.lst ((whoUp r a).map fun h => V.int (h : Nat))) := e4 _ _ (f1 _ _ nlp (e3 _ _ (e2 _ _ gp)))
      refine ⟨_, rfl, p, rfl, ⟨_, SqL.of gp4⟩, fun Dl hD => ?_⟩
      have nDp : Dl ≠ p := (ne_of_none gp4 hD).symm
      refine lc_list (K := K) (a := p) (xs := (whoUp r a).map fun h => V.int (h : Nat)) (fun j H' => Ex H4 H' ∧ H' Dl = some (.lst ((((whoUp r a).take j).filter fun o => !decide (o ∈ handsIn f'.2.2)).map fun h => V.int (h : Nat)))) ⟨Ex.new hD, upd_same⟩ (fun j H' _ ⟨e, _⟩ => SqL.of (e _ _ gp4)) (fun j z H' hj ⟨e5, p5⟩ => ?_) (fun H' ⟨e5, p5⟩ => ?_)
      · rw [List.getElem?_map] at hj
        obtain ⟨u, hu, rfl⟩ := Option.map_eq_some_iff.mp hj
        have tk2 : (whoUp r a).take (j + 1) = (whoUp r a).take j ++ [u] := by rw [List.take_add_one, hu]; rfl
        rw [tk2, List.filter_append]
        have small2 : ((((whoUp r a).take j).filter fun o => !decide (o ∈ handsIn f'.2.2)).map fun h => V.int (h : Nat)).length ≤ 4 := by
          rw [List.length_map]
          refine Nat.le_trans (List.length_filter_le _ _) ?_
          rw [List.length_take]
          have : (whoUp r a).length ≤ r.1.length := by
            unfold whoUp
            have := List.length_filter_le (fun h => isUp r h a) (List.range r.1.length)
            rwa [List.length_range] at this
          omega
        refine ⟨rfl, _, rfl, _, rfl, hq2, _, rfl, .inl (SqL.of (e5 _ _ g4)), rfl, flat_nat _, ?_⟩
        rw [inV_nat]
        refine ⟨!decide (u ∈ handsIn f'.2.2), rfl, ?_⟩
        by_cases c : u ∈ handsIn f'.2.2
        · rw [decide_eq_true c]
          refine iteF ⟨e5, ?_⟩
          rw [p5]
          simp [c]
        · rw [decide_eq_false c]
          refine iteT ⟨_, rfl, _, p5, sz_lt (by omega), e5.mut hD, ?_⟩
          rw [upd_same]
          simp [c]
      · rw [List.length_map, List.take_length] at p5
        have e4D : ExB l H3 H' := f1.trans (ExB.of (e4.trans e5))
        have f4' := e5 _ _ (e4 _ _ f4)
        refine ⟨Dl, _, rfl, .inl (SqL.of p5), rfl, ?_⟩
        rw [List.length_map]
        have hall : ((whoUp r a).all fun o => decide (o ∈ handsIn f'.2.2)) = decide (((whoUp r a).filter fun o => !decide (o ∈ handsIn f'.2.2)).length = 0) := by
          rw [Bool.eq_iff_iff, decide_eq_true_eq, List.length_eq_zero_iff, List.filter_eq_nil_iff, List.all_eq_true]
          simp
        refine ⟨decide (((whoUp r a).filter fun o => !decide (o ∈ handsIn f'.2.2)).length = 0), ?_, ?_⟩
        · exact congrArg V.bl (dint _ 0)
        by_cases cq : ((whoUp r a).filter fun o => !decide (o ∈ handsIn f'.2.2)).length = 0
        · rw [decide_eq_true cq] at hall ⊢
          refine iteT ⟨_, rfl, .inl ⟨rfl, _, SqL.of f4'⟩, _, rfl, _, _, 0, _, rfl, rfl, ex_t (e4.trans e5) g, atI_nat (j := 0) rfl, l, _, _, rfl, rfl, f4', sz_lt (by omega), ?_⟩
          refine ⟨e4D.trans ExB.set, ⟨some (.ref c), some (.ref hq2), o3, rfl⟩, ?_⟩
          rw [upd_same]
          simp [hall]
        · rw [decide_eq_false cq] at hall ⊢
          refine iteF ⟨e4D, ⟨_, _, _, rfl⟩, ?_⟩
          rw [f4']
          simp [hall]
    · rintro σ H' ⟨f1, ⟨o1, o2, o3, rfl⟩, f4⟩
      rw [ql, List.take_length] at f4
      exact ⟨_, rfl, kq l H' nl (f1.ex e13 nl) f4⟩
def sp_put_off (K : PySem.W.Frag) : Sp := fun vs H Q _ => ∃ (n b : Nat) (r : Rn) (a k : Nat) (x : V), vs = [x, .int a, .int k] ∧ Rp K H (eR r) x ∧ Good n b r ∧ a + 1 ≤ 5 ∧ ∀ y H', Ex H H' → Rp K H' (eR (putOff r a k)) y → Q y H'
abbrev N_put_off : List Str := ["run", "at", "rounds", "hand"]
theorem sc_put_off : FnScope N_put_off ["run", "at", "rounds"] (defScope s_put_off) := ⟨rfl, rfl, rfl, by decide +kernel, rfl, by decide +kernel, by decide +kernel⟩
theorem ok_put_off (T : Txt P w K mg base) : Ok P w K mg base "put_off" (5 + 1) ["run", "at", "rounds"] (sp_put_off K) := by
  refine Ok.of T.f_put_off sc_put_off (fun _ _ _ _ _ _ us hl => match us, hl with | [_, _, _], _ => rfl) (fun vs H Q E h => ?_) (fun f cdv A outer s H vs Q E hr h => ?_)
  · obtain ⟨n, b, r, a, k, x, rfl, hx, hg, ha5, kq⟩ := h
    rfl
  · obtain ⟨n, b, r, a, k, x, rfl, hx, hg, ha5, kq⟩ := h
    refine ⟨_, (pss_cons (ps_for PassesOwn.never rfl (piL (K := K) rfl (pc (ok_unseen T) hr (pa_cons (pv 0) (pa_cons (pv 1) pa_nil)))) (pg_name (i := 3) sc_put_off.nd rfl (by first | exact Or.inl rfl | exact Or.inr rfl))
 (pss_cons (ps_set (i := 0) sc_put_off.nd rfl (by first | exact Or.inl rfl | exact Or.inr rfl) (pc (ok_without_fall T) hr (pa_cons (pv 0) (pa_cons (pv 3) pa_nil))))
 (pss_one (ps_if (pt_cmpR op_lt (pv 1) (pv 2) (by first | rfl | exact nomark _))
 (pss_one (ps_set (i := 0) sc_put_off.nd rfl (by first | exact Or.inl rfl | exact Or.inr rfl) (pc (ok_with_fall T) hr (pa_cons (pv 0) (pa_cons (pv 3) (pa_cons (pe_op op_add (pv 1) pe_int) (pa_cons pe_int pa_nil)))))))
 pss_nil))))
 (pss_one (ps_ret (pv 0)))), ?_⟩
    have hs := hg.v.sr
    refine ⟨_, rfl, _, rfl, r, a, x, rfl, hx, hg.v, fun p H1 hp e1 gp => ⟨p, rfl, ⟨_, SqL.of gp⟩, ?_⟩⟩
    have hf : ∀ h ∈ unseen r a, ∃ f, fallOf r h = some f := fun h hh => by
      obtain ⟨m, hm, _⟩ := (unseen_mem hs).mp hh
      exact ⟨_, hm⟩
    refine for_list (K := K) (a := p) (xs := (unseen r a).map fun h => V.int (h : Nat)) (fun i σ H' => Ex H1 H' ∧ ∃ x' o1, σ = [some x', some (.int a), some (.int k), o1] ∧ Rp K H' (eR (((unseen r a).take i).foldl (putOff1 a k) r)) x') ⟨Ex.refl H1, x, none, rfl, hx.up e1⟩ (fun i σ H' _ ⟨e, _⟩ => SqL.of (e _ _ gp)) ?_ ?_
    · rintro i y σ H' hi' ⟨e2, x', o1, rfl, hx'⟩
      rw [List.getElem?_map] at hi'
      obtain ⟨h, hh, rfl⟩ := Option.map_eq_some_iff.mp hi'
      have hm := List.mem_of_getElem? hh
      have nd := unseen_nodup hs a
      have gi := putOff_ok (k := k) ha5 ((unseen r a).take i) r (nd.sublist (List.take_sublist i _)) hg fun x hx => hf x (List.mem_of_mem_take hx)
      have tk : (unseen r a).take (i + 1) = (unseen r a).take i ++ [h] := by rw [List.take_add_one, hh]; rfl
      rw [tk, List.foldl_append, List.foldl_cons, List.foldl_nil]
      obtain ⟨f, hf1⟩ := hf h hm
      have hn : h < n := by
        have := (hg.v.fin f (fallOf_in hf1)).1
        rw [fallOf_hand hf1, hg.n] at this
        exact this
      generalize ((unseen r a).take i).foldl (putOff1 a k) r = ri at gi hx' ⊢
      refine ⟨_, rfl, _, rfl, ri, h, x', rfl, hx', gi.v, fun y H2 e3 hy => ?_⟩
      refine ⟨_, rfl, _, rfl, _, _, rfl, rfl, ?_⟩
      by_cases c : a < k
      · refine ⟨true, dt (by omega), iteT ⟨_, rfl, _, rfl, _, rfl, _, _, rfl, rfl, RM.without ri h, h, a + 1, 0, y, ?_, hy, gi.v.without h, ?_, by omega, ha5, Nat.two_pow_pos _, fun z H3 e4 hz => ⟨(e2.trans e3).trans e4, z, some (.int h), rfl, ?_⟩⟩⟩
        · have : (a : Int) + 1 = ((a + 1 : Nat) : Int) := by omega
          show [y, V.int (h : Nat), V.int ((a : Int) + 1), V.int 0] = _
          rw [this]
          rfl
        · show h < ri.1.length
          rw [gi.n]; exact hn
        · unfold putOff1
          rw [if_pos c]
          exact hz
      · refine ⟨false, df (by omega), iteF ⟨e2.trans e3, y, some (.int h), rfl, ?_⟩⟩
        unfold putOff1
        rw [if_neg c]
        exact hy
    · rintro σ H' ⟨e2, x', o1, rfl, hx'⟩
      rw [List.length_map, List.take_length] at hx'
      exact ⟨_, rfl, kq x' H' (e1.trans e2) hx'⟩
end
end RF

set_option Elab.async false
set_option linter.all false
set_option maxRecDepth 100000
set_option maxHeartbeats 4000000
namespace RF
open PySem PySem.Spec PyProof.Rows L2 Evl RM RC
theorem standing_without {r : Rn} (hs : Srt r.2) (h : Nat) : standing (RM.without r h) h = standing r h := by
  unfold standing
  refine List.filter_congr fun o _ => ?_
  by_cases e : o = h
  · subst e; simp
  · rw [fallOf_without hs, if_neg e]
theorem handsIn_lt {m n x : Nat} (hm : m < 2 ^ n) (hx : x ∈ handsIn m) : x < n := by
  have hb := (handsIn_mem.mp hx).2
  by_cases c : x < n
  · exact c
  · have : m < 2 ^ x := Nat.lt_of_lt_of_le hm (Nat.pow_le_pow_right (by decide) (by omega))
    rw [Nat.testBit_lt_two_pow this] at hb
    cases hb
theorem handsIn_len (m : Nat) : (handsIn m).length ≤ 5 := by
  unfold handsIn
  have := List.length_filter_le (hasH m) (List.range 5)
  rwa [List.length_range] at this
theorem Lh1 (m : Nat) (h : m ≤ 1) : Lh m ≤ 8 ∧ 1 ≤ Lh m := by
  rcases Nat.lt_or_ge m 1 with z | z
  · rw [show m = 0 by omega]; decide
  · rw [show m = 1 by omega]; decide
theorem Lh2 (m : Nat) (h : m ≤ 2) : Lh m ≤ 57 ∧ 1 ≤ Lh m := by
  rcases Nat.lt_or_ge m 2 with z | z
  · have := Lh1 m (by omega); omega
  · rw [show m = 2 by omega]; decide
section
variable {P : Program} {w : World} {K : PySem.W.Frag} {mg : Str → Option Value} {base : Heap}
def sp_given_back (K : PySem.W.Frag) : Sp := fun vs H Q _ => ∃ (n b k : Nat) (r : Rn) (h a m : Nat) (x y : V), vs = [x, y, .int k] ∧ Rp K H (eR r) x ∧ Rp K H (eF (h, a, m)) y ∧ Good n b r ∧ Pre n b k (RM.without r h) h a ∧ fallOf r h = some (h, a, m) ∧ a ≤ k ∧ k ≤ 2 ∧ ∀ p H' l, H p = none → Ex H H' → LR K H' p l → Path n b k l r (RM.without r h) → l.length ≤ 57 → Q (.ref p) H'
abbrev N_given_back : List Str := ["run", "fall", "rounds", "hand", "at", "reached", "now", "path", "heard", "one", "more"]
theorem sc_given_back : FnScope N_given_back ["run", "fall", "rounds"] (defScope s_given_back) := ⟨rfl, rfl, rfl, by decide +kernel, rfl, by decide +kernel, by decide +kernel⟩
theorem ok_given_back (T : Txt P w K mg base) : Ok P w K mg base "given_back" (8 + 1) ["run", "fall", "rounds"] (sp_given_back K) := by
  refine Ok.of T.f_given_back sc_given_back (fun _ _ _ _ _ _ us hl => match us, hl with | [_, _, _], _ => rfl) (fun vs H Q E h => ?_) (fun f cdv A outer s H vs Q E hr h => ?_)
  · obtain ⟨n, b, k, r, h, a, m, x, y, rfl, hx, hy, hg, hp, hf, ak, hk2, kq⟩ := h
    rfl
  · obtain ⟨n, b, k, r, h, a, m, x, y, rfl, hx, hy, hg, hp, hf, ak, hk2, kq⟩ := h
    refine ⟨_, (pss_cons (ps_asg (pv 1) (pgTup (K := K) (n := 3) rfl rfl (pgs_cons (pg_name (i := 3) sc_given_back.nd rfl (by first | exact Or.inl rfl | exact Or.inr rfl)) (pgs_cons (pg_name (i := 4) sc_given_back.nd rfl (by first | exact Or.inl rfl | exact Or.inr rfl)) (pgs_cons (pg_name (i := 5) sc_given_back.nd rfl (by first | exact Or.inl rfl | exact Or.inr rfl)) pgs_nil)))))
 (pss_cons (ps_set (i := 6) sc_given_back.nd rfl (by first | exact Or.inl rfl | exact Or.inr rfl) (pv 0))
 (pss_cons (ps_set (i := 7) sc_given_back.nd rfl (by first | exact Or.inl rfl | exact Or.inr rfl) (peLst (pa_cons (pv 0) pa_nil)))
 (pss_cons (ps_set (i := 8) sc_given_back.nd rfl (by first | exact Or.inl rfl | exact Or.inr rfl) (pc (ok_hands_in T) hr (pa_cons (pv 5) pa_nil)))
 (pss_cons (ps_for PassesOwn.never rfl (piL (K := K) rfl (pc (ok_standing T) hr (pa_cons (pv 0) (pa_cons (pv 3) pa_nil)))) (pg_name (i := 9) sc_given_back.nd rfl (by first | exact Or.inl rfl | exact Or.inr rfl))
 (pss_one (ps_if (pt_cmpR (opNotInS (K := K) rfl) (pv 9) (pv 8) (by first | rfl | exact nomark _))
 (pss_cons (ps_expr (pe_bm PySem.F.plainAttrs_list PySem.F.slot_list_append PySem.F.type_list_append mt_append (pv 8) (pa_cons (pv 9) pa_nil)))
 (pss_cons (ps_set (i := 10) sc_given_back.nd rfl (by first | exact Or.inl rfl | exact Or.inr rfl) (pc (ok_with_fall T) hr (pa_cons (pv 6) (pa_cons (pv 3) (pa_cons (pv 4) (pa_cons (pc (ok_mask_of T) hr (pa_cons (pv 8) pa_nil)) pa_nil))))))
 (pss_cons (ps_expr (pe_bm PySem.F.plainAttrs_list PySem.F.slot_list_extend PySem.F.type_list_extend mt_extend (pv 7) (pa_cons (pe_slice (slLK (K := K) rfl) (pc (((ok_hushed T (k - a) (by have := hp.a1; omega)).up (show k - a + 5 ≤ 8 by have := hp.a1; omega))) hr (pa_cons (pv 6) (pa_cons (pv 9) (pa_cons (pe_op op_add (pv 4) pe_int) (pa_cons (pv 2) pa_nil))))) (po_some pe_int) po_none) pa_nil)))
 (pss_cons (ps_expr (pe_bm PySem.F.plainAttrs_list PySem.F.slot_list_extend PySem.F.type_list_extend mt_extend (pv 7) (pa_cons (RFR.pe_listRev (K := K) rfl rfl (by rfl) T.n_list (by rfl) T.n_reversed (pc (((ok_hushed T (k - a) (by have := hp.a1; omega)).up (show k - a + 5 ≤ 8 by have := hp.a1; omega))) hr (pa_cons (pv 10) (pa_cons (pv 9) (pa_cons (pe_op op_add (pv 4) pe_int) (pa_cons (pv 2) pa_nil)))))) pa_nil)))
 (pss_one (ps_set (i := 6) sc_given_back.nd rfl (by first | exact Or.inl rfl | exact Or.inr rfl) (pv 10)))))))
 pss_nil)))
 (pss_cons (ps_expr (pe_bm PySem.F.plainAttrs_list PySem.F.slot_list_extend PySem.F.type_list_extend mt_extend (pv 7) (pa_cons (RFR.pe_listRev (K := K) rfl rfl (by rfl) T.n_list (by rfl) T.n_reversed (pc (((ok_hushed T (k - a) (by have := hp.a1; omega)).up (show k - a + 5 ≤ 8 by have := hp.a1; omega))) hr (pa_cons (pc (ok_without_fall T) hr (pa_cons (pv 6) (pa_cons (pv 3) pa_nil))) (pa_cons (pv 3) (pa_cons (pe_op op_add (pv 4) pe_int) (pa_cons (pv 2) pa_nil)))))) pa_nil)))
 (pss_one (ps_ret (pv 7))))))))), ?_⟩
    have a1 := hp.a1
    have h4 := hg.v.hi
    have hn := hg.n
    have hs := hg.v.sr
    have hnn := hp.g.n
    have hs0 := hp.g.v.sr
    obtain ⟨hL1, hL2⟩ := Lh1 (k - a) (by omega)
    have ea : (a : Int) + 1 = ((a + 1 : Nat) : Int) := by omega
    have lst := standing_len hp.g hp.hn
    rw [standing_without hs] at lst
    have fin := hg.v.fin _ (fallOf_in hf)
    have hm32 : m < 32 := by
      have h1 : m < 2 ^ r.1.length := fin.2.2.2.1
      have h2 : 2 ^ r.1.length ≤ 2 ^ 4 := Nat.pow_le_pow_right (by decide) h4
      omega
    have em : maskOf (handsIn m) = m := maskOf_handsIn hm32
    have hd0 : ∀ z ∈ handsIn m, z < (RM.without r h).1.length ∧ z ≠ h := fun z hz => by
      refine ⟨handsIn_lt fin.2.2.2.1 hz, fun e => ?_⟩
      have h1 := (handsIn_mem.mp hz).2
      have h2 : m.testBit h = false := fin.2.2.2.2
      rw [e, h2] at h1
      cases h1
    have er : withF (RM.without r h) h a m = r := withF_back hs hf
    obtain ⟨yb, rfl, gy⟩ := fall_get hy
    refine ⟨_, rfl, yb, _, rfl, gy, rfl, _, _, rfl, _, _, rfl, _, _, rfl, rfl, ?_⟩
    refine ⟨_, rfl, _, rfl, by show 1 ≤ 1000; decide, fun p H1 hp0 e1 g1 => ?_⟩
    refine ⟨_, rfl, m, rfl, fun q H2 hq0 e2 g2 => ?_⟩
    have e12 := e1.trans e2
    refine ⟨_, rfl, _, rfl, r, h, x, rfl, hx.up e12, hg.v, fun s H3 hs0' e3 g3 => ?_⟩
    have e13 := e12.trans e3
    have npq : p ≠ q := ne_of_none g1 hq0
    have nps : p ≠ s := ne_of_none (e2 _ _ g1) hs0'
    have nqs : q ≠ s := ne_of_none g2 hs0'
    have hqn : H q = none := fresh_back e1 hq0
    refine ⟨s, rfl, ⟨_, SqL.of g3⟩, for_list (K := K) (a := s) (xs := (standing r h).map fun h => V.int (h : Nat)) (fun i σ H' => ∃ (hd : List Nat) (l : List Rn) (nv : V) (o1 o2 : Option V), σ = [some x, some (.ref yb), some (.int k), some (.int h), some (.int a), some (.int m), some nv, some (.ref p), some (.ref q), o1, o2] ∧ Ex H H' ∧ LR K H' p l ∧ H' q = some (.lst (hd.map fun h => V.int (h : Nat))) ∧ Rp K H' (eR (withF (RM.without r h) h a (maskOf hd))) nv ∧
      H' s = some (.lst ((standing r h).map fun h => V.int (h : Nat))) ∧ Path n b k l r (withF (RM.without r h) h a (maskOf hd)) ∧ (∀ z ∈ hd, z < (RM.without r h).1.length ∧ z ≠ h) ∧ (∀ z ∈ (standing r h).take i, z ∈ hd) ∧ hd.length ≤ 5 + i ∧ l.length ≤ 1 + i * (2 * Lh (k - a))) ⟨handsIn m, [r], x, none, none, rfl, e13, ⟨_, e3 _ _ (e2 _ _ g1), .one (hx.up e13)⟩, e3 _ _ g2, by rw [em, er]; exact hx.up e13, g3, by rw [em, er]; exact Path.one hg, hd0, fun z hz => absurd hz List.not_mem_nil, handsIn_len m, by rw [List.length_singleton]; omega⟩ (fun i σ H' _ ⟨_, _, _, _, _, _, _, _, _, _, g, _⟩ => SqL.of g) ?_ ?_⟩
    · rintro i z σ H' hi' ⟨hd, l, nv, o1, o2, rfl, f1, f2, f3, f4, f5, f6, f7, f8, f9, f10⟩
      rw [List.getElem?_map] at hi'
      obtain ⟨one, hh, rfl⟩ := Option.map_eq_some_iff.mp hi'
      have hm1 := List.mem_of_getElem? hh
      have hlt := (List.getElem?_eq_some_iff.mp hh).1
      have hst : one ∈ standing (RM.without r h) h := by rw [standing_without hs]; exact hm1
      obtain ⟨s1, s2, s3⟩ := standing_mem.mp hst
      have tk : (standing r h).take (i + 1) = (standing r h).take i ++ [one] := by rw [List.take_add_one, hh]; rfl
      have hml : i * (2 * Lh (k - a)) ≤ 3 * (2 * Lh (k - a)) := Nat.mul_le_mul_right _ (by omega)
      have hi1 : (i + 1) * (2 * Lh (k - a)) = i * (2 * Lh (k - a)) + 2 * Lh (k - a) := by rw [Nat.add_mul, Nat.one_mul]
      refine ⟨_, rfl, _, rfl, q, _, rfl, .inl (SqL.of f3), rfl, flat_nat _, ?_⟩
      rw [inV_nat]
      refine ⟨!decide (one ∈ hd), rfl, ?_⟩
      by_cases c : one ∈ hd
      · rw [decide_eq_true c]
        refine iteF ⟨hd, l, nv, some (.int one), o2, rfl, f1, f2, f3, f4, f5, f6, f7, fun z hz => ?_, by omega, by omega⟩
        rw [tk] at hz
        rcases List.mem_append.mp hz with e | e
        · exact f8 z e
        · rw [List.mem_singleton.mp e]; exact c
      · rw [decide_eq_false c]
        have hd' : ∀ z ∈ hd ++ [one], z < (RM.without r h).1.length ∧ z ≠ h := fun z hz => by
          rcases List.mem_append.mp hz with e | e
          · exact f7 z e
          · rw [List.mem_singleton.mp e]; exact ⟨s1, s2⟩
        refine iteT ⟨_, rfl, .inl ⟨rfl, _, SqL.of f3⟩, _, rfl, q, _, _, rfl, rfl, f3, sz_lt (by rw [List.length_map]; omega), ?_⟩
        have x5 : Ex H (upd H' q (.lst (hd.map (fun h => V.int (h : Nat)) ++ [V.int (one : Nat)]))) := f1.mut hqn
        have t5 : ExT H' (upd H' q (.lst (hd.map (fun h => V.int (h : Nat)) ++ [V.int (one : Nat)]))) := ExT.lst f3
        have lr5 : LR K (upd H' q (.lst (hd.map (fun h => V.int (h : Nat)) ++ [V.int (one : Nat)]))) p l := LR.keep f2 npq ⟨_, f3⟩
        have nv5 := f4.upT t5
        have s5 : (upd H' q (.lst (hd.map (fun h => V.int (h : Nat)) ++ [V.int (one : Nat)]))) s = some (.lst ((standing r h).map fun h => V.int (h : Nat))) := by
          rw [upd_ne nqs.symm]; exact f5
        have q5 : (upd H' q (.lst (hd.map (fun h => V.int (h : Nat)) ++ [V.int (one : Nat)]))) q = some (.lst ((hd ++ [one]).map fun h => V.int (h : Nat))) := by
          rw [upd_same, List.map_append]; rfl
        generalize upd H' q (.lst (hd.map (fun h => V.int (h : Nat)) ++ [V.int (one : Nat)])) = H5 at x5 lr5 nv5 s5 q5
        have gnow := hp.mask' ak f7
        refine ⟨_, rfl, _, rfl, _, rfl, _, rfl, q, hd ++ [one], rfl, SqL.of q5, fun z hz => by have := (hd' z hz).1; omega, withF (RM.without r h) h a (maskOf hd), h, a, maskOf (hd ++ [one]), nv, rfl, nv5, gnow.v, by rw [gnow.n]; exact hp.hn, a1, by omega, ?_, fun mv H6 e6 hmore => ?_⟩
        · exact maskOf_lt fun z hz => (hd' z hz).1
        rw [withF_twice hs0] at hmore
        have lr6 : LR K H6 p l := lr5.up e6
        obtain ⟨xs6, px6⟩ := lr6.refs
        refine ⟨_, rfl, .inl ⟨rfl, _, SqL.of px6⟩, _, rfl, _, rfl, _, rfl, _, _, rfl, rfl, _, rfl, n, b, k, withF (RM.without r h) h a (maskOf hd), one, a + 1, nv, ?_, nv5.up e6, hp.next' ak f7 hst, by omega, fun p7 H7 m7 hp7 e7 lr7 pth7 ll7 => ⟨_, rfl, ?_⟩⟩
        · show [nv, V.int (one : Nat), V.int ((a : Int) + 1), V.int k] = _
          rw [ea]
        dsimp only [tNoPart]
        refine sl1_go lr7 fun p8 H8 hp8 e8 lr8 => ?_
        have c8 : l.length + (m7.drop 1).length ≤ 100000 := by
          rw [List.length_drop]; omega
        dsimp only [tNil]
        refine ext_go ((lr6.up e7).up e8) lr8 c8 fun o lr9 hr9 => ?_
        have x9 : Ex H (upd H8 p o) := (((x5.trans e6).trans e7).trans e8).mut hp0
        have t9 : ExT H8 (upd H8 p o) := by
          obtain ⟨ys, hr9⟩ := hr9
          exact ExT.lst hr9
        have mv9 := ((hmore.up e7).up e8).upT t9
        have q9 : (upd H8 p o) q = some (.lst ((hd ++ [one]).map fun h => V.int (h : Nat))) := by
          rw [upd_ne npq.symm]
          exact e8 _ _ (e7 _ _ (e6 _ _ q5))
        have s9 : (upd H8 p o) s = some (.lst ((standing r h).map fun h => V.int (h : Nat))) := by
          rw [upd_ne nps.symm]
          exact e8 _ _ (e7 _ _ (e6 _ _ s5))
        generalize upd H8 p o = H9 at x9 lr9 mv9 q9 s9
        obtain ⟨xs9, px9⟩ := lr9.refs
        refine ⟨_, rfl, .inl ⟨rfl, _, SqL.of px9⟩, _, rfl, _, rfl, _, rfl, _, _, rfl, rfl, _, rfl, n, b, k, withF (RM.without r h) h a (maskOf (hd ++ [one])), one, a + 1, mv, ?_, mv9, hp.next' ak hd' hst, by omega, fun p10 H10 m10 hp10 e10 lr10 pth10 ll10 => ?_⟩
        · show [mv, V.int (one : Nat), V.int ((a : Int) + 1), V.int k] = _
          rw [ea]
        obtain ⟨xs10, px10, rx10⟩ := lr10
        refine ⟨p10, xs10, rfl, SqL.of px10, fun p11 H11 hp11 e11 g11 => ?_⟩
        have lr11 := rev_go rx10 e11 g11
        have l7 : (m7.drop 1).length ≤ Lh (k - a) - 1 := by rw [List.length_drop]; omega
        have c11 : (l ++ m7.drop 1).length + m10.reverse.length ≤ 100000 := by
          rw [List.length_append, List.length_reverse]; omega
        dsimp only [tNil]
        refine ext_go ((lr9.up e10).up e11) lr11 c11 fun o lr12 hr12 => ?_
        have t12 : ExT H11 (upd H11 p o) := by
          obtain ⟨ys, hr12⟩ := hr12
          exact ExT.lst hr12
        refine ⟨_, rfl, hd ++ [one], l ++ m7.drop 1 ++ m10.reverse, mv, some (.int one), some mv, rfl, ((x9.trans e10).trans e11).mut hp0, lr12, ?_, ((mv9.up e10).up e11).upT t12, ?_, ?_, hd', fun z hz => ?_, by rw [List.length_append, List.length_singleton]; omega, ?_⟩
        · rw [upd_ne npq.symm]
          exact e11 _ _ (e10 _ _ q9)
        · rw [upd_ne nps.symm]
          exact e11 _ _ (e10 _ _ s9)
        · refine Path.app (f6.join' pth7) (hp.step' ak f7 hd' hst fun z hz => ?_) pth10.rev
          simp [hz]
        · rw [tk] at hz
          rcases List.mem_append.mp hz with e | e
          · exact List.mem_append_left _ (f8 z e)
          · exact List.mem_append_right _ e
        · rw [List.length_append, List.length_append, List.length_reverse]
          omega
    · rintro σ H' ⟨hd, l, nv, o1, o2, rfl, f1, f2, f3, f4, f5, f6, f7, f8, f9, f10⟩
      rw [List.length_map, List.take_length] at f8
      rw [List.length_map] at f10
      have gnow := hp.mask' ak f7
      obtain ⟨xs2, px2⟩ := f2.refs
      have hml : (standing r h).length * (2 * Lh (k - a)) ≤ 3 * (2 * Lh (k - a)) := Nat.mul_le_mul_right _ lst
      have ew : RM.without (withF (RM.without r h) h a (maskOf hd)) h = RM.without r h := without_withF hs0 (by rw [fallOf_without hs, if_pos rfl]) a _
      refine ⟨_, rfl, .inl ⟨rfl, _, SqL.of px2⟩, _, rfl, _, rfl, withF (RM.without r h) h a (maskOf hd), h, nv, rfl, f4, gnow.v, fun wv H6 e6 hwv => ?_⟩
      rw [ew] at hwv
      refine ⟨_, rfl, _, rfl, _, _, rfl, rfl, _, rfl, n, b, k, RM.without r h, h, a + 1, wv, ?_, hwv, hp.down ak, by omega, fun p10 H10 m10 hp10 e10 lr10 pth10 ll10 => ?_⟩
      · show [wv, V.int (h : Nat), V.int ((a : Int) + 1), V.int k] = _
        rw [ea]
      obtain ⟨xs10, px10, rx10⟩ := lr10
      refine ⟨p10, xs10, rfl, SqL.of px10, fun p11 H11 hp11 e11 g11 => ?_⟩
      have lr11 := rev_go rx10 e11 g11
      have c11 : l.length + m10.reverse.length ≤ 100000 := by
        rw [List.length_reverse]; omega
      dsimp only [tNil]
      refine ext_go (((LD.up f2 e6).up e10).up e11) lr11 c11 fun o lr12 hr12 => ?_
      refine ⟨_, rfl, kq p _ _ hp0 (((f1.trans e6).trans e10).trans e11 |>.mut hp0) lr12 ?_ ?_⟩
      · refine Path.app f6 (hp.first' ak f7 fun z hz => f8 z ?_) pth10.rev
        rw [standing_without hs] at hz
        exact hz
      · rw [List.length_append, List.length_reverse]
        omega
end
end RF

set_option Elab.async false
set_option linter.all false
namespace RF
open RM
/-- falls taken away, hand by hand -/
def dropAll (r : Rn) (l : List Nat) : Rn := l.foldl (fun r h => RM.without r h) r
theorem dropAll_falls : ∀ (l : List Nat) (r : Rn), Srt r.2 → Srt (dropAll r l).2 ∧ (dropAll r l).1 = r.1 ∧ (∀ x, fallOf (dropAll r l) x = if x ∈ l then none else fallOf r x) ∧ (dropAll r l).2.length ≤ r.2.length
  | [], r, hs => ⟨hs, rfl, fun x => by rw [if_neg List.not_mem_nil]; rfl, Nat.le_refl _⟩
  | h :: l, r, hs => by
    obtain ⟨h1, h2, h3, h4⟩ := dropAll_falls l (RM.without r h) (srt_without hs h)
    refine ⟨h1, h2, fun x => ?_, Nat.le_trans h4 (len_without_le r h)⟩
    show fallOf (dropAll (RM.without r h) l) x = _
    rw [h3, fallOf_without hs]
    by_cases e : x ∈ l
    · rw [if_pos e, if_pos (List.mem_cons_of_mem _ e)]
    · rw [if_neg e]
      by_cases z : x = h
      · subst z
        rw [if_pos rfl, if_pos List.mem_cons_self]
      · rw [if_neg z, if_neg (fun y => (List.mem_cons.mp y).elim z e)]
theorem dropAll_snoc (r : Rn) (l : List Nat) (h : Nat) : dropAll r (l ++ [h]) = RM.without (dropAll r l) h := by
  unfold dropAll
  rw [List.foldl_append]
  rfl
theorem dropAll_mem : ∀ (l : List Nat) (r : Rn) (f : Fall), f ∈ (dropAll r l).2 → f ∈ r.2
  | [], _, _, h => h
  | x :: l, r, f, h => (List.mem_filter.mp (dropAll_mem l (RM.without r x) f h)).1
theorem Good.drop {n b : Nat} {r : Rn} (g : Good n b r) (l : List Nat) : Good n b (dropAll r l) := by
  obtain ⟨h1, h2, h3, h4⟩ := dropAll_falls l r g.v.sr
  have : ∀ (l : List Nat) (r : Rn), Valid r → Valid (dropAll r l) := by
    intro l
    induction l with
    | nil => intro r h; exact h
    | cons a l ih => intro r h; exact ih _ (h.without a)
  exact ⟨this l r g.v, by rw [h2]; exact g.n, Nat.le_trans h4 g.b⟩
/-- a fall of round a that all who are up have heard -/
def unsP (r : Rn) (a : Nat) (f : Fall) : Bool := (f.2.1 == a) && (whoUp r a).all fun o => decide (o ∈ handsIn f.2.2)
theorem unseen_eq (r : Rn) (a : Nat) : unseen r a = (r.2.filter (unsP r a)).map (·.1) := by
  unfold unseen fallsAt unsP
  rw [List.filter_filter]
  congr 1
  refine List.filter_congr fun f _ => ?_
  rw [Bool.and_comm]
/-- the run without them -/
def seen (r : Rn) (a : Nat) : Rn := (r.1, r.2.filter fun f => !unsP r a f)
theorem filter_two {α : Type} (p : α → Bool) : ∀ l : List α, (l.filter p).length + (l.filter fun x => !p x).length = l.length
  | [] => rfl
  | x :: l => by
    have ih := filter_two p l
    cases e : p x with
    | true =>
      rw [List.filter_cons_of_pos e, List.filter_cons_of_neg (by rw [e]; decide), List.length_cons, List.length_cons]
      omega
    | false =>
      rw [List.filter_cons_of_neg (by rw [e]; decide), List.filter_cons_of_pos (by rw [e]; rfl), List.length_cons, List.length_cons]
      omega
theorem seen_len (r : Rn) (a : Nat) : (seen r a).2.length + (unseen r a).length = r.2.length := by
  rw [unseen_eq, List.length_map]
  have := filter_two (unsP r a) r.2
  show (r.2.filter fun f => !unsP r a f).length + _ = _
  omega
theorem seen_fall {r : Rn} (hs : Srt r.2) (a x : Nat) : fallOf (seen r a) x = if x ∈ unseen r a then none else fallOf r x := by
  have e := fallOf_filter hs (fun f => !unsP r a f) x
  have e' : fallOf (seen r a) x = (fallOf r x).filter fun f => !unsP r a f := e
  rw [e']
  cases ef : fallOf r x with
  | none => simp
  | some f =>
    obtain ⟨h1, h2⟩ := (fallOf_some hs).mp ef
    rw [Option.filter_some]
    by_cases c : unsP r a f = true
    · have : x ∈ unseen r a := by
        rw [unseen_eq]
        exact List.mem_map.mpr ⟨f, List.mem_filter.mpr ⟨h1, c⟩, h2⟩
      rw [if_pos this, if_neg (by simp [c])]
    · have : x ∉ unseen r a := fun z => by
        rw [unseen_eq] at z
        obtain ⟨g, hg, e⟩ := List.mem_map.mp z
        obtain ⟨g1, g2⟩ := List.mem_filter.mp hg
        have := (fallOf_some hs).mpr ⟨g1, e⟩
        rw [ef] at this
        cases this
        exact c g2
      rw [if_neg this, if_pos (by simp [c])]
theorem Good.seen {n b : Nat} {r : Rn} (g : Good n b r) (a : Nat) : Good n b (seen r a) := g.filt _
/-- put off and taken away -/
theorem put_drop {r : Rn} (hs : Srt r.2) (a k : Nat) : dropAll (putOff r a k) (unseen r a) = seen r a := by
  obtain ⟨h1, h2, h3, _⟩ := dropAll_falls (unseen r a) (putOff r a k) (putOff_srt hs a k)
  refine run_ext h1 (hs.filter _) (by rw [h2, putOff_num hs]; rfl) fun x => ?_
  rw [h3, seen_fall hs]
  by_cases e : x ∈ unseen r a
  · rw [if_pos e, if_pos e]
  · rw [if_neg e, if_neg e, putOff_fall hs]
    unfold putFalls
    rw [if_neg e]
theorem put_seen {r : Rn} (hs : Srt r.2) {a k : Nat} (h : ¬ a < k) : putOff r a k = seen r a := by
  refine run_ext (putOff_srt hs a k) (hs.filter _) (putOff_num hs a k) fun x => ?_
  rw [putOff_fall hs, seen_fall hs]
  unfold putFalls
  by_cases e : x ∈ unseen r a
  · rw [if_pos e, if_pos e, if_neg h]
  · rw [if_neg e, if_neg e]
theorem seen_nil {r : Rn} {a : Nat} (hs : Srt r.2) (h : unseen r a = []) : seen r a = r := by
  refine run_ext (hs.filter _) hs rfl fun x => ?_
  rw [seen_fall hs, h, if_neg List.not_mem_nil]
/-- the falls of round a given back -/
theorem back_all {r : Rn} (hs : Srt r.2) {a : Nat} (a1 : 1 ≤ a) (hle : ∀ f ∈ r.2, f.2.1 ≤ a) : dropAll (seen r a) ((fallsAt (seen r a) a).map (·.1)) = withoutLater r (a - 1) := by
  have hs1 : Srt (seen r a).2 := hs.filter _
  obtain ⟨h1, h2, h3, _⟩ := dropAll_falls ((fallsAt (seen r a) a).map (·.1)) (seen r a) hs1
  refine run_ext h1 (hs.filter _) h2 fun x => ?_
  have e := fallOf_filter hs (fun f => decide (f.2.1 ≤ a - 1)) x
  have e' : fallOf (withoutLater r (a - 1)) x = (fallOf r x).filter fun f => decide (f.2.1 ≤ a - 1) := e
  rw [h3, e']
  have e2 := seen_fall hs a x
  by_cases c : x ∈ unseen r a
  · rw [if_pos c] at e2
    obtain ⟨m, hm, _⟩ := (unseen_mem hs).mp c
    have e3 : (Option.filter (fun f : Fall => decide (f.2.1 ≤ a - 1)) (some (x, a, m))) = none := by
      rw [Option.filter_some, if_neg (by simp; omega)]
    rw [hm, e3, e2]
    split <;> rfl
  · rw [if_neg c] at e2
    cases ef : fallOf r x with
    | none =>
      rw [ef] at e2
      rw [e2]
      simp
    | some f =>
      obtain ⟨g1, g2⟩ := (fallOf_some hs).mp ef
      have hf := hle f g1
      rw [ef] at e2
      obtain ⟨q1, q2⟩ := (fallOf_some hs1).mp e2
      by_cases d : f.2.1 = a
      · rw [if_pos (List.mem_map.mpr ⟨f, fallsAt_mem.mpr ⟨q1, d⟩, q2⟩), Option.filter_some, if_neg (by simp; omega)]
      · rw [if_neg (fun z => by
          obtain ⟨g, hg, e3⟩ := List.mem_map.mp z
          obtain ⟨k1, k2⟩ := fallsAt_mem.mp hg
          have := (fallOf_some hs1).mpr ⟨k1, e3⟩
          rw [e2] at this
          cases this
          exact d k2), e2, Option.filter_some, if_pos (decide_eq_true (by omega))]
theorem fallsAt_nodup {r : Rn} (hs : Srt r.2) (a : Nat) : ((fallsAt r a).map (·.1)).Nodup := by
  have : Srt (fallsAt r a) := hs.filter _
  exact List.pairwise_map.mpr (List.Pairwise.imp (fun h => by omega) this)
theorem take_nodup {α : Type} {l : List α} {i : Nat} {x : α} (nd : l.Nodup) (h : l[i]? = some x) : x ∉ l.take i := fun hm => by
  obtain ⟨j, hj⟩ := List.mem_iff_getElem?.mp hm
  have hlt : j < i := by
    have := (List.getElem?_eq_some_iff.mp hj).1
    rw [List.length_take] at this
    omega
  rw [List.getElem?_take_of_lt hlt] at hj
  have := (List.getElem?_inj (List.getElem?_eq_some_iff.mp hj).1 nd).mp (hj.trans h.symm)
  omega
end RF

set_option Elab.async false
set_option linter.all false
set_option maxRecDepth 100000
set_option maxHeartbeats 4000000
namespace RF
open PySem PySem.Spec PyProof.Rows L2 Evl RM RC
/-- what stands behind a statement, said in between -/
def tCut (t : TS) : TS := fun D σ H => ∃ M : L2.St → Hp → Prop, t { D with nx := M } σ H ∧ ∀ σ' H', M σ' H' → D.nx σ' H'
theorem ps_cut {X : Cx} {st : Stmt} {t : TS} (h : PS X st t) : PS X st (tCut t) := by
  refine ⟨fun pins s σ H D I hq => ?_⟩
  obtain ⟨M, h1, h2⟩ := hq
  refine thn (h.run pins s σ H _ I h1) fun f s' q => ?_
  cases f with
  | next =>
    obtain ⟨σ', H', I', q⟩ := q
    exact ⟨σ', H', I', h2 σ' H' q⟩
  | ret v => exact q
  | brk => exact q
  | cont => exact q
theorem LR.last {K : PySem.W.Frag} {H : Hp} {p : Addr} {l t : List Rn} {s : Rn} (h : LR K H p l) (e : l = t ++ [s]) : ∃ ys v, H p = some (.lst (ys ++ [v])) ∧ Rp K H (eR s) v := by
  subst e
  obtain ⟨xs, h1, h2⟩ := h
  rw [List.map_append] at h2
  have hl := h2.len
  rw [List.length_append, List.map_singleton, List.length_singleton] at hl
  rcases List.eq_nil_or_concat xs with e | ⟨ys, v, e⟩
  · rw [e] at hl
    simp at hl
  · have e' : xs = ys ++ [v] := by rw [e]; simp
    subst e'
    refine ⟨ys, v, h1, ?_⟩
    rw [List.length_append, List.length_singleton] at hl
    obtain ⟨x, hx, rx⟩ := h2.get (i := ys.length) (d := eR s) (by rw [List.getElem?_append_right (by omega)]; rw [show ys.length - (t.map eR).length = 0 by omega]; rfl)
    simp at hx
    rw [hx]; exact rx
section
variable {P : Program} {w : World} {K : PySem.W.Frag} {mg : Str → Option Value} {base : Heap}
def sp_healed_round (K : PySem.W.Frag) : Sp := fun vs H Q _ => ∃ (n b k : Nat) (r : Rn) (a : Nat) (x : V), vs = [x, .int a, .int k] ∧ Rp K H (eR r) x ∧ Good n b r ∧ b + 2 ≤ n ∧ 1 ≤ a ∧ a ≤ k ∧ k ≤ 2 ∧ (∀ f ∈ r.2, f.2.1 ≤ a) ∧ r.2.length + (k - a) ≤ b + 1 ∧ r.2.length + (k - a) ≤ b + (unseen r a).length ∧ ∀ p H' l, H p = none → Ex H H' → LR K H' p l → Path n b k l r (withoutLater r (a - 1)) → l.length ≤ 300 → Q (.ref p) H'
abbrev N_healed_round : List Str := ["run", "at", "rounds", "path", "hands", "hand", "rest", "fall"]
theorem sc_healed_round : FnScope N_healed_round ["run", "at", "rounds"] (defScope s_healed_round) := ⟨rfl, rfl, rfl, by decide +kernel, rfl, by decide +kernel, by decide +kernel⟩
theorem ok_healed_round (T : Txt P w K mg base) : Ok P w K mg base "healed_round" (9 + 1) ["run", "at", "rounds"] (sp_healed_round K) := by
  refine Ok.of T.f_healed_round sc_healed_round (fun _ _ _ _ _ _ us hl => match us, hl with | [_, _, _], _ => rfl) (fun vs H Q E h => ?_) (fun f cdv A outer s H vs Q E hr h => ?_)
  · obtain ⟨n, b, k, r, a, x, rfl, hx, hg, bn, a1, ak, hk2, hle, hc1, hc2, kq⟩ := h
    rfl
  · obtain ⟨n, b, k, r, a, x, rfl, hx, hg, bn, a1, ak, hk2, hle, hc1, hc2, kq⟩ := h
    refine ⟨_, (pss_cons (ps_set (i := 3) sc_healed_round.nd rfl (by first | exact Or.inl rfl | exact Or.inr rfl) (peLst (pa_cons (pv 0) pa_nil)))
 (pss_cons (ps_set (i := 4) sc_healed_round.nd rfl (by first | exact Or.inl rfl | exact Or.inr rfl) (pc (ok_unseen T) hr (pa_cons (pv 0) (pa_cons (pv 1) pa_nil))))
 (pss_cons (ps_cut (ps_if (pt_cmpR (opNeD (K := K) rfl hr.units) (pv 4) (peLst pa_nil) (by first | rfl | exact nomark _))
 (pss_cons (ps_expr (pe_bm PySem.F.plainAttrs_list PySem.F.slot_list_append PySem.F.type_list_append mt_append (pv 3) (pa_cons (pc (ok_put_off T) hr (pa_cons (pv 0) (pa_cons (pv 1) (pa_cons (pv 2) pa_nil)))) pa_nil)))
 (pss_one (ps_if (pt_cmpR op_lt (pv 1) (pv 2) (by first | rfl | exact nomark _))
 (pss_one (ps_for PassesOwn.never rfl (piL (K := K) rfl (pv 4)) (pg_name (i := 5) sc_healed_round.nd rfl (by first | exact Or.inl rfl | exact Or.inr rfl))
 (pss_cons (ps_set (i := 6) sc_healed_round.nd rfl (by first | exact Or.inl rfl | exact Or.inr rfl) (pc (ok_without_fall T) hr (pa_cons (pe_ix (ixL (K := K) rfl) (pv 3) (pe_un un_neg pe_int) (fun _ _ => rfl)) (pa_cons (pv 5) pa_nil))))
 (pss_one (ps_expr (pe_bm PySem.F.plainAttrs_list PySem.F.slot_list_extend PySem.F.type_list_extend mt_extend (pv 3) (pa_cons (pe_slice (slLK (K := K) rfl) (RFR.pe_listRev (K := K) rfl rfl (by rfl) T.n_list (by rfl) T.n_reversed (pc (((ok_hushed T (k - a) (by omega)).up (show k - a + 5 ≤ 8 by omega))) hr (pa_cons (pv 6) (pa_cons (pv 5) (pa_cons (pe_op op_add (pv 1) pe_int) (pa_cons (pv 2) pa_nil)))))) (po_some pe_int) po_none) pa_nil)))))))
 pss_nil)))
 pss_nil))
 (pss_cons (ps_for PassesOwn.never rfl (piL (K := K) rfl (pc (ok_falls_of_round T) hr (pa_cons (pe_ix (ixL (K := K) rfl) (pv 3) (pe_un un_neg pe_int) (fun _ _ => rfl)) (pa_cons (pv 1) pa_nil)))) (pg_name (i := 7) sc_healed_round.nd rfl (by first | exact Or.inl rfl | exact Or.inr rfl))
 (pss_one (ps_expr (pe_bm PySem.F.plainAttrs_list PySem.F.slot_list_extend PySem.F.type_list_extend mt_extend (pv 3) (pa_cons (pe_slice (slLK (K := K) rfl) (pc (ok_given_back T) hr (pa_cons (pe_ix (ixL (K := K) rfl) (pv 3) (pe_un un_neg pe_int) (fun _ _ => rfl)) (pa_cons (pv 7) (pa_cons (pv 2) pa_nil)))) (po_some pe_int) po_none) pa_nil)))))
 (pss_one (ps_ret (pv 3))))))), ?_⟩
    have h4 := hg.v.hi
    have hn := hg.n
    have hs := hg.v.sr
    obtain ⟨hL1, hL2⟩ := Lh1 (k - a) (by omega)
    have ea : (a : Int) + 1 = ((a + 1 : Nat) : Int) := by omega
    have ulen : (unseen r a).length ≤ 4 := by
      have h1 := falls_len hg.v
      have h2 := seen_len r a
      omega
    have hsm := hg.seen a
    have apl : Adj k r (putOff r a k) := adj_put hg bn a1 ak
    have gput : Good n b (putOff r a k) := putOff_ok (by omega) (unseen r a) r (unseen_nodup hs a) hg fun h hh => by
      obtain ⟨m, hm, _⟩ := (unseen_mem hs).mp hh
      exact ⟨_, hm⟩
    have lput : (putOff r a k).2.length ≤ r.2.length := (putOff_ok (n := n) (b := r.2.length) (by omega) (unseen r a) r (unseen_nodup hs a) ⟨hg.v, hg.n, Nat.le_refl _⟩ fun h hh => by
      obtain ⟨m, hm, _⟩ := (unseen_mem hs).mp hh
      exact ⟨_, hm⟩).b
    refine ⟨_, rfl, by show 1 ≤ 1000; decide, fun p H1 hp0 e1 g1 => ?_⟩
    refine ⟨_, rfl, _, rfl, r, a, x, rfl, hx.up e1, hg.v, fun q H2 hq0 e2 g2 => ?_⟩
    have e12 := e1.trans e2
    have npq : p ≠ q := ne_of_none g1 hq0
    refine ⟨fun σ' H' => ∃ (l : List Rn) (o5 o6 : Option V), σ' = [some x, some (.int a), some (.int k), some (.ref p), some (.ref q), o5, o6, none] ∧ Ex H H' ∧ LR K H' p l ∧ Path n b k l r (seen r a) ∧ l.length ≤ 40, ?_, ?_⟩
    · refine ⟨_, rfl, by show 0 ≤ 1000; decide, fun t H3 ht e3 gt => ne_nil_dp (unseen r a) (e3 _ _ g2) gt ⟨_, rfl, ?_⟩⟩
      have e13 := e12.trans e3
      have g13 : LR K H3 p [r] := ⟨_, e3 _ _ (e2 _ _ g1), .one (hx.up e13)⟩
      by_cases hu : unseen r a = []
      · rw [decide_eq_false (fun z => z hu)]
        exact iteF ⟨[r], none, none, rfl, e13, g13, by rw [seen_nil hs hu]; exact Path.one hg, by rw [List.length_singleton]; omega⟩
      · rw [decide_eq_true hu]
        obtain ⟨xs, px, rx⟩ := g13
        refine iteT ⟨_, rfl, .inl ⟨rfl, _, SqL.of px⟩, _, rfl, _, rfl, _, rfl, n, b, r, a, k, x, rfl, hx.up e13, hg, by omega, fun pv H4 e4 hpv => ?_⟩
        have px4 := e4 _ _ px
        have lxs := LR.len rx
        refine ⟨p, xs, pv, rfl, rfl, px4, sz_lt (by rw [lxs, List.length_singleton]; omega), ?_⟩
        have x5 : Ex H (upd H4 p (.lst (xs ++ [pv]))) := (e13.trans e4).mut hp0
        have lr5 : LR K (upd H4 p (.lst (xs ++ [pv]))) p ([r] ++ [putOff r a k]) := LR.app px4 (rx.up e4) hpv
        have q5 : (upd H4 p (.lst (xs ++ [pv]))) q = some (.lst ((unseen r a).map fun h => V.int (h : Nat))) := by
          rw [upd_ne npq.symm]; exact e4 _ _ (e3 _ _ g2)
        generalize upd H4 p (.lst (xs ++ [pv])) = H5 at x5 lr5 q5
        refine ⟨_, rfl, _, rfl, _, _, rfl, rfl, ?_⟩
        by_cases c : a < k
        · refine ⟨true, dt (by omega), iteT ⟨_, rfl, q, rfl, ⟨_, SqL.of q5⟩, for_list (K := K) (a := q) (xs := (unseen r a).map fun h => V.int (h : Nat)) (fun i σ H' => ∃ (l : List Rn) (o5 o6 : Option V), σ = [some x, some (.int a), some (.int k), some (.ref p), some (.ref q), o5, o6, none] ∧ Ex H H' ∧ LR K H' p l ∧ H' q = some (.lst ((unseen r a).map fun h => V.int (h : Nat))) ∧ Path n b k l r (dropAll (putOff r a k) ((unseen r a).take i)) ∧ l.length ≤ 2 + i * 8) ⟨_, none, none, rfl, x5, lr5, q5, Path.snoc (Path.one hg) apl gput, by show 2 ≤ 2 + 0 * 8; omega⟩ (fun i σ H' _ ⟨_, _, _, _, _, _, g, _⟩ => SqL.of g) ?_ ?_⟩⟩
          · rintro i z σ H' hi' ⟨l, o5, o6, rfl, f1, f2, f3, f4, f5⟩
            rw [List.getElem?_map] at hi'
            obtain ⟨h, hh, rfl⟩ := Option.map_eq_some_iff.mp hi'
            have hm := List.mem_of_getElem? hh
            have hlt := (List.getElem?_eq_some_iff.mp hh).1
            have nd := unseen_nodup hs a
            have ntk := take_nodup nd hh
            have tk : (unseen r a).take (i + 1) = (unseen r a).take i ++ [h] := by rw [List.take_add_one, hh]; rfl
            have gd := gput.drop ((unseen r a).take i)
            obtain ⟨d1, d2, d3, d4⟩ := dropAll_falls ((unseen r a).take i) (putOff r a k) (putOff_srt hs a k)
            have ds := dropAll_snoc (putOff r a k) ((unseen r a).take i) h
            have hfall : fallOf (dropAll (putOff r a k) ((unseen r a).take i)) h = some (h, a + 1, 0) := by
              rw [d3, if_neg ntk, putOff_fall hs]
              unfold putFalls
              rw [if_pos hm, if_pos c]
            have dmem := dropAll_mem ((unseen r a).take i) (putOff r a k)
            have hhn : h < n := by
              have := (gd.v.fin _ (fallOf_in hfall)).1
              rw [gd.n] at this
              exact this
            rw [tk, ds]
            generalize dropAll (putOff r a k) ((unseen r a).take i) = pi at gd d1 d2 d3 d4 hfall dmem f4 ⊢
            have wl := len_without d1 hfall
            have pre : Pre n b k (RM.without pi h) h (a + 1) := by
              refine ⟨⟨gd.v.without h, gd.n, by have := gd.b; omega⟩, hhn, by rw [fallOf_without d1, if_pos rfl], by omega, by omega, fun f hf => ?_, by omega, bn, by omega⟩
              have h1 := dmem f (List.mem_filter.mp hf).1
              have h2 := (fallOf_some (putOff_srt hs a k)).mpr ⟨h1, rfl⟩
              rw [putOff_fall hs] at h2
              unfold putFalls at h2
              rw [if_pos c] at h2
              split at h2
              · have := Option.some.inj h2
                rw [← this]
                exact Nat.le_refl _
              · have := hle f (fallOf_in h2)
                omega
            have eend : endOf (RM.without pi h) h (a + 1) k = pi := by
              unfold endOf
              rw [if_pos (by omega), withF_back d1 hfall]
            obtain ⟨t, et⟩ := f4.last
            obtain ⟨ys, v, py, rv⟩ := f2.last et
            refine ⟨_, rfl, 1, rfl, _, _, _, _, rfl, rfl, SqL.of py, atI_last ys v, _, rfl, pi, h, v, rfl, rv, gd.v, fun wv H6 e6 hwv => ?_⟩
            have py6 := e6 _ _ py
            refine ⟨_, rfl, .inl ⟨rfl, _, SqL.of py6⟩, _, rfl, _, rfl, _, rfl, _, _, rfl, rfl, _, rfl, n, b, k, RM.without pi h, h, a + 1, wv, ?_, hwv, pre, by omega, fun p10 H10 m10 hp10 e10 lr10 pth10 ll10 => ?_⟩
            · show [wv, V.int (h : Nat), V.int ((a : Int) + 1), V.int k] = _
              rw [ea]
            rw [eend] at pth10
            obtain ⟨xs10, px10, rx10⟩ := lr10
            refine ⟨p10, xs10, rfl, SqL.of px10, fun p11 H11 hp11 e11 g11 => ⟨_, rfl, ?_⟩⟩
            have lr11 := rev_go rx10 e11 g11
            dsimp only [tNoPart]
            refine sl1_go lr11 fun p12 H12 hp12 e12 lr12 => ?_
            have hm8 : i * 8 ≤ 4 * 8 := Nat.mul_le_mul_right 8 (by omega)
            have c11 : l.length + (m10.reverse.drop 1).length ≤ 100000 := by
              rw [List.length_drop, List.length_reverse]; omega
            dsimp only [tNil]
            refine ext_go ((((LD.up f2 e6).up e10).up e11).up e12) lr12 c11 fun o lr13 hr13 => ?_
            refine ⟨l ++ m10.reverse.drop 1, _, _, rfl, ((((f1.trans e6).trans e10).trans e11).trans e12).mut hp0, lr13, ?_, f4.join' pth10.rev, ?_⟩
            · rw [upd_ne npq.symm]
              exact e12 _ _ (e11 _ _ (e10 _ _ (e6 _ _ f3)))
            · rw [List.length_append, List.length_drop, List.length_reverse]
              omega
          · rintro σ H' ⟨l, o5, o6, rfl, f1, f2, f3, f4, f5⟩
            rw [List.length_map, List.take_length, put_drop hs] at f4
            rw [List.length_map] at f5
            exact ⟨l, o5, o6, rfl, f1, f2, f4, by omega⟩
        · refine ⟨false, df (by omega), iteF ⟨_, none, none, rfl, x5, lr5, ?_, by show 2 ≤ 40; omega⟩⟩
          have := Path.snoc (Path.one hg) apl gput
          rw [put_seen hs c] at this ⊢
          exact this
    · rintro σ' H' ⟨l, o5, o6, rfl, f1, f2, f3, f4⟩
      obtain ⟨t, et⟩ := f3.last
      obtain ⟨ys, v, py, rv⟩ := f2.last et
      refine ⟨_, rfl, 1, rfl, _, _, _, _, rfl, rfl, SqL.of py, atI_last ys v, _, rfl, seen r a, a, v, rfl, rv, hsm.v, fun s H4 hs4 e4 hL => ⟨s, rfl, ?_⟩⟩
      obtain ⟨fs, pf, rf⟩ := hL
      have fl := rf.len
      rw [List.length_map] at fl
      have fal : (fallsAt (seen r a) a).length ≤ 4 := by
        have h1 := falls_len hsm.v
        have h2 : (fallsAt (seen r a) a).length ≤ (seen r a).2.length := List.length_filter_le _ _
        omega
      have nps : p ≠ s := ne_of_none py hs4
      have hs1 := hsm.v.sr
      refine ⟨⟨_, SqL.of pf⟩, for_list (K := K) (a := s) (xs := fs) (fun i σ H' => ∃ (l : List Rn) (o7 : Option V), σ = [some x, some (.int a), some (.int k), some (.ref p), some (.ref q), o5, o6, o7] ∧ Ex H H' ∧ ExB p H4 H' ∧ LR K H' p l ∧ Path n b k l r (dropAll (seen r a) (((fallsAt (seen r a) a).map (·.1)).take i)) ∧ l.length ≤ 40 + i * 57) ⟨l, none, rfl, f1.trans e4, ExB.refl p H4, LD.up f2 e4, f3, by omega⟩ (fun i σ H' _ ⟨_, _, _, _, g, _⟩ => SqL.of (g _ _ nps.symm pf)) ?_ ?_⟩
      · rintro i z σ H' hi' ⟨l, o7, rfl, q1, q2, q3, q4, q5⟩
        obtain ⟨d, hd, rd⟩ := rf.get' hi'
        rw [List.getElem?_map] at hd
        obtain ⟨f', hf, rfl⟩ := Option.map_eq_some_iff.mp hd
        have hlt := (List.getElem?_eq_some_iff.mp hf).1
        obtain ⟨mem1, ata⟩ := fallsAt_mem.mp (List.mem_of_getElem? hf)
        have nd := fallsAt_nodup hs1 a
        have hi1 : ((fallsAt (seen r a) a).map (·.1))[i]? = some f'.1 := by rw [List.getElem?_map, hf]; rfl
        have ntk := take_nodup nd hi1
        have tk : ((fallsAt (seen r a) a).map (·.1)).take (i + 1) = ((fallsAt (seen r a) a).map (·.1)).take i ++ [f'.1] := by rw [List.take_add_one, hi1]; rfl
        have gd := hsm.drop (((fallsAt (seen r a) a).map (·.1)).take i)
        obtain ⟨d1, d2, d3, d4⟩ := dropAll_falls (((fallsAt (seen r a) a).map (·.1)).take i) (seen r a) hs1
        have ds := dropAll_snoc (seen r a) (((fallsAt (seen r a) a).map (·.1)).take i) f'.1
        have hfall : fallOf (dropAll (seen r a) (((fallsAt (seen r a) a).map (·.1)).take i)) f'.1 = some (f'.1, a, f'.2.2) := by
          rw [d3, if_neg ntk, (fallOf_some hs1).mpr ⟨mem1, rfl⟩, ← ata]
        have dmem := dropAll_mem (((fallsAt (seen r a) a).map (·.1)).take i) (seen r a)
        have hhn : f'.1 < n := by
          have := (gd.v.fin _ (fallOf_in hfall)).1
          rw [gd.n] at this
          exact this
        have sl := seen_len r a
        rw [tk, ds]
        generalize dropAll (seen r a) (((fallsAt (seen r a) a).map (·.1)).take i) = pi at gd d1 d2 d3 d4 hfall dmem q4 ⊢
        have wl := len_without d1 hfall
        have pre : Pre n b k (RM.without pi f'.1) f'.1 a := by
          refine ⟨⟨gd.v.without f'.1, gd.n, by have := gd.b; omega⟩, hhn, by rw [fallOf_without d1, if_pos rfl], a1, by omega, fun f hf => ?_, by omega, bn, by omega⟩
          have h1 := dmem f (List.mem_filter.mp hf).1
          exact hle f (List.mem_filter.mp h1).1
        have rd' : Rp K H' (eF (f'.1, a, f'.2.2)) z := by
          have e0 : f' = (f'.1, a, f'.2.2) := by rw [← ata]
          rw [← e0]
          obtain ⟨c, rfl, g⟩ := fall_get rd
          have py4 := e4 _ _ py
          exact rd.upT (q2.exT py4)
        obtain ⟨t2, et2⟩ := q4.last
        obtain ⟨ys2, v2, py2, rv2⟩ := q3.last et2
        refine ⟨_, rfl, .inl ⟨rfl, _, SqL.of py2⟩, _, rfl, 1, rfl, _, _, _, _, rfl, rfl, SqL.of py2, atI_last ys2 v2, _, rfl, _, rfl, n, b, k, pi, f'.1, a, f'.2.2, v2, z, rfl, rv2, rd', gd, pre, hfall, ak, hk2, fun p10 H10 m10 hp10 e10 lr10 pth10 ll10 => ⟨_, rfl, ?_⟩⟩
        dsimp only [tNoPart]
        refine sl1_go lr10 fun p11 H11 hp11 e11 lr11 => ?_
        have hm57 : i * 57 ≤ 4 * 57 := Nat.mul_le_mul_right 57 (by omega)
        have c11 : l.length + (m10.drop 1).length ≤ 100000 := by
          rw [List.length_drop]; omega
        dsimp only [tNil]
        refine ext_go ((LD.up q3 e10).up e11) lr11 c11 fun o lr13 hr13 => ?_
        refine ⟨l ++ m10.drop 1, some z, rfl, ((q1.trans e10).trans e11).mut hp0, q2.trans ((ExB.of (e10.trans e11)).trans ExB.set), lr13, q4.join' pth10, ?_⟩
        rw [List.length_append, List.length_drop]
        omega
      · rintro σ H' ⟨l, o7, rfl, q1, q2, q3, q4, q5⟩
        rw [fl, List.take_of_length_le (by rw [List.length_map]; exact Nat.le_refl _), back_all hs a1 hle] at q4
        exact ⟨_, rfl, kq p H' l hp0 q1 q3 q4 (by omega)⟩
end
end RF

set_option Elab.async false
set_option linter.all false
namespace RF
open RM
theorem nodup_sub : ∀ {l m : List Nat}, l.Nodup → (∀ x ∈ l, x ∈ m) → l.length ≤ m.length
  | [], _, _, _ => Nat.zero_le _
  | a :: l, m, nd, h => by
    have ha := h a List.mem_cons_self
    have := nodup_sub (l := l) (m := m.erase a) (List.nodup_cons.mp nd).2 fun x hx => by
      have ne : x ≠ a := fun z => (List.nodup_cons.mp nd).1 (by rw [← z]; exact hx)
      exact (List.mem_erase_of_ne ne).mpr (h x (List.mem_cons_of_mem _ hx))
    rw [List.length_erase, if_pos ha] at this
    have := List.length_pos_of_mem ha
    rw [List.length_cons]
    omega
/-- a fall counts as found out behind k rounds -/
def foundC (r : Rn) (k : Nat) (f : Fall) : Prop := (maskOf (whoUp r k) ≠ 0 ∧ f.2.1 < k) ∨ (f.2.1 = k ∧ maskOf (whoUp r k) &&& f.2.2 ≠ maskOf (whoUp r k))
theorem foundF_bit (r : Rn) (k m : Nat) (f : Fall) (x : Nat) : (foundF r k m f).testBit x = true ↔ m.testBit x = true ∨ (f.1 = x ∧ foundC r k f) := by
  have key : ∀ b : Nat, (m ||| maskOf [f.1]).testBit x = true ↔ m.testBit x = true ∨ f.1 = x := fun _ => by
    rw [Nat.testBit_or, maskOf_bit, Bool.or_eq_true, decide_eq_true_eq, List.mem_singleton]
    exact or_congr Iff.rfl ⟨fun h => h.symm, fun h => h.symm⟩
  unfold foundF foundC
  by_cases c1 : maskOf (whoUp r k) ≠ 0 ∧ f.2.1 < k
  · rw [if_pos c1, key 0]
    constructor
    · rintro (h | h); exact .inl h; exact .inr ⟨h, .inl c1⟩
    · rintro (h | h); exact .inl h; exact .inr h.1
  · rw [if_neg c1]
    by_cases c2 : f.2.1 = k ∧ maskOf (whoUp r k) &&& f.2.2 ≠ maskOf (whoUp r k)
    · rw [if_pos c2, key 0]
      constructor
      · rintro (h | h); exact .inl h; exact .inr ⟨h, .inr c2⟩
      · rintro (h | h); exact .inl h; exact .inr h.1
    · rw [if_neg c2]
      constructor
      · intro h; exact .inl h
      · rintro (h | ⟨_, h | h⟩); exact h; exact absurd h c1; exact absurd h c2
theorem found_fold (r : Rn) (k : Nat) : ∀ (l : List Fall) (m x : Nat), (l.foldl (foundF r k) m).testBit x = true ↔ m.testBit x = true ∨ ∃ f ∈ l, f.1 = x ∧ foundC r k f
  | [], m, x => by simp
  | f :: l, m, x => by
    rw [List.foldl_cons, found_fold r k l, foundF_bit]
    constructor
    · rintro ((h | h) | ⟨g, hg, h⟩)
      · exact .inl h
      · exact .inr ⟨f, List.mem_cons_self, h⟩
      · exact .inr ⟨g, List.mem_cons_of_mem _ hg, h⟩
    · rintro (h | ⟨g, hg, h⟩)
      · exact .inl (.inl h)
      · rcases List.mem_cons.mp hg with e | e
        · subst e; exact .inl (.inr h)
        · exact .inr ⟨g, e, h⟩
theorem found_bit (r : Rn) (k x : Nat) : (foundOut r k).testBit x = true ↔ ∃ f ∈ r.2, f.1 = x ∧ foundC r k f := by
  have e : foundOut r k = r.2.foldl (foundF r k) 0 := rfl
  rw [e, found_fold]
  simp
theorem max_fold (g : Nat → Nat) : ∀ (l : List Nat) (m : Nat), m ≤ l.foldl (fun m i => max m (g i)) m ∧ (∀ i ∈ l, g i ≤ l.foldl (fun m i => max m (g i)) m) ∧ ∀ B, m ≤ B → (∀ i ∈ l, g i ≤ B) → l.foldl (fun m i => max m (g i)) m ≤ B
  | [], m => ⟨Nat.le_refl _, fun i h => absurd h List.not_mem_nil, fun B h _ => h⟩
  | a :: l, m => by
    obtain ⟨h1, h2, h3⟩ := max_fold g l (max m (g a))
    refine ⟨Nat.le_trans (Nat.le_max_left _ _) h1, fun i hi => ?_, fun B hB hl => h3 B (Nat.max_le.mpr ⟨hB, hl a List.mem_cons_self⟩) fun i hi => hl i (List.mem_cons_of_mem _ hi)⟩
    rcases List.mem_cons.mp hi with e | e
    · rw [e]; exact Nat.le_trans (Nat.le_max_right _ _) h1
    · exact h2 i e
theorem waste_ge (r : Rn) {a : Nat} (a1 : 1 ≤ a) (a5 : a ≤ 5) : (handsIn (foundOut r a)).length ≤ wasteOf r + a := by
  have h := (max_fold (fun i => (handsIn (foundOut r (i + 1))).length - (i + 1)) (List.range 5) 0).2.1 (a - 1) (List.mem_range.mpr (by omega))
  have e : wasteOf r = (List.range 5).foldl (fun m i => max m ((handsIn (foundOut r (i + 1))).length - (i + 1))) 0 := rfl
  rw [← e] at h
  have h' : (handsIn (foundOut r (a - 1 + 1))).length - (a - 1 + 1) ≤ wasteOf r := h
  rw [show a - 1 + 1 = a by omega] at h'
  omega
theorem waste_le {r : Rn} {b : Nat} (hb : r.2.length ≤ b) : wasteOf r ≤ b := by
  refine (max_fold (fun i => (handsIn (foundOut r (i + 1))).length - (i + 1)) (List.range 5) 0).2.2 b (Nat.zero_le _) fun i _ => ?_
  have : (handsIn (foundOut r (i + 1))).length ≤ (r.2.map (·.1)).length := nodup_sub (List.Pairwise.filter _ List.nodup_range) fun x hx => by
    obtain ⟨f, hf, e, _⟩ := (found_bit r (i + 1) x).mp (handsIn_mem.mp hx).2
    exact List.mem_map.mpr ⟨f, hf, e⟩
  rw [List.length_map] at this
  show (handsIn (foundOut r (i + 1))).length - (i + 1) ≤ b
  omega
theorem later_up {r : Rn} (hs : Srt r.2) (a x : Nat) : isUp (withoutLater r a) x a = isUp r x a := by
  have e := fallOf_filter hs (fun f => decide (f.2.1 ≤ a)) x
  have e' : fallOf (withoutLater r a) x = (fallOf r x).filter fun f => decide (f.2.1 ≤ a) := e
  cases ef : fallOf r x with
  | none =>
    rw [ef] at e'
    rw [isUp_none a ef, isUp_none a e']
  | some f =>
    rw [ef, Option.filter_some] at e'
    by_cases c : f.2.1 ≤ a
    · rw [if_pos (decide_eq_true c)] at e'
      rw [isUp_some ef, isUp_some e']
    · rw [if_neg (by simpa using c)] at e'
      rw [isUp_some ef, isUp_none a e']
      exact (decide_eq_true (by omega)).symm
theorem later_who {r : Rn} (hs : Srt r.2) (a : Nat) : whoUp (withoutLater r a) a = whoUp r a := by
  unfold whoUp
  refine List.filter_congr fun x _ => later_up hs a x
theorem seen_found {n b a : Nat} {r : Rn} (g : Good n b r) (bn : b + 2 ≤ n) : (seen (withoutLater r a) a).2.length ≤ (handsIn (foundOut r a)).length := by
  have hs := g.v.sr
  have h4 := g.v.hi
  have hw : maskOf (whoUp r a) ≠ 0 := by
    have hb := g.b
    obtain ⟨x, h1, _, h3⟩ := stand_ex g.n [] (by show r.2.length + 0 < n; omega)
    intro z
    have := maskOf_bit (whoUp r a) x
    rw [z, bit0] at this
    exact of_decide_eq_false this.symm (whoUp_mem.mpr ⟨by rw [g.n]; exact h1, isUp_none a h3⟩)
  have nd : ((seen (withoutLater r a) a).2.map (·.1)).Nodup := by
    have : Srt (seen (withoutLater r a) a).2 := (hs.filter _).filter _
    exact List.pairwise_map.mpr (List.Pairwise.imp (fun h => by omega) this)
  have := nodup_sub nd (m := handsIn (foundOut r a)) fun x hx => by
    obtain ⟨f, hf, rfl⟩ := List.mem_map.mp hx
    obtain ⟨h1, h2⟩ := List.mem_filter.mp hf
    obtain ⟨h3, h5⟩ := List.mem_filter.mp h1
    have hle := of_decide_eq_true h5
    have hlt := (g.v.fin f h3).1
    refine handsIn_mem.mpr ⟨by omega, (found_bit r a f.1).mpr ⟨f, h3, rfl, ?_⟩⟩
    by_cases c : f.2.1 = a
    · refine .inr ⟨c, fun z => ?_⟩
      have hn : unsP (withoutLater r a) a f = false := by simpa using h2
      unfold unsP at hn
      rw [later_who hs, c, beq_self_eq_true, Bool.true_and, List.all_eq_false] at hn
      obtain ⟨o, ho, hno⟩ := hn
      have hno : o ∉ handsIn f.2.2 := by simpa using hno
      have hob := (whoUp_mem.mp ho).1
      have b1 : (maskOf (whoUp r a)).testBit o = true := by rw [maskOf_bit]; exact decide_eq_true ho
      rw [← z, Nat.testBit_and] at b1
      have b2 : f.2.2.testBit o = true := by
        rw [Bool.and_eq_true] at b1
        exact b1.2
      exact hno (handsIn_mem.mpr ⟨by omega, b2⟩)
    · exact .inl ⟨hw, by omega⟩
  rwa [List.length_map] at this
theorem heal_c2 {n b a k : Nat} {r : Rn} (g : Good n b r) (bn : b + 2 ≤ n) (a1 : 1 ≤ a) (ak : a ≤ k) (k5 : k ≤ 5) (hw : k + wasteOf r ≤ b) : (withoutLater r a).2.length + (k - a) ≤ b + (unseen (withoutLater r a) a).length := by
  have h1 := seen_len (withoutLater r a) a
  have h2 := seen_found (a := a) g bn
  have h3 := waste_ge r a1 (by omega)
  omega
theorem later_0 {r : Rn} (hv : Valid r) : withoutLater r 0 = (r.1, []) := by
  unfold withoutLater
  congr 1
  refine List.filter_eq_nil_iff.mpr fun f hf => ?_
  have := (hv.fin f hf).2.1
  simp
  omega
end RF

set_option Elab.async false
set_option linter.all false
set_option maxRecDepth 100000
set_option maxHeartbeats 4000000
namespace RF
open PySem PySem.Spec PyProof.Rows L2 Evl RM RC
/-! ### runs told apart -/
theorem pd_ints : ∀ l : List Int, toPDs (l.map D.int) = l.map PyData.int
  | [] => rfl
  | a :: l => by
    show toPD (.int a) :: toPDs (l.map D.int) = _
    rw [pd_ints l]
    rfl
theorem eqv_int (a b : Int) : PyData.eqv (.int a) (.int b) = (a == b) := rfl
theorem eqv_ints : ∀ l m : List Int, PyData.eqvAll (l.map PyData.int) (m.map PyData.int) = true → l = m
  | [], [], _ => rfl
  | [], _ :: _, h => by cases h
  | _ :: _, [], h => by cases h
  | a :: l, b :: m, h => by
    have h' : ((a == b) && PyData.eqvAll (l.map PyData.int) (m.map PyData.int)) = true := h
    rw [Bool.and_eq_true] at h'
    rw [beq_iff_eq.mp h'.1, eqv_ints l m h'.2]
theorem pd_fall (f : Fall) : toPD (eF f) = .tuple ([(f.1 : Int), f.2.1, f.2.2].map PyData.int) := rfl
theorem eqv_tup (l m : List PyData) : PyData.eqv (.tuple l) (.tuple m) = PyData.eqvAll l m := rfl
theorem eqv_fall {f g : Fall} (h : PyData.eqv (toPD (eF f)) (toPD (eF g)) = true) : f = g := by
  rw [pd_fall, pd_fall, eqv_tup] at h
  have e := eqv_ints _ _ h
  injection e with e1 e
  injection e with e2 e
  injection e with e3 _
  obtain ⟨a, b, c⟩ := f
  obtain ⟨a', b', c'⟩ := g
  have e1 : (a : Int) = a' := e1
  have e2 : (b : Int) = b' := e2
  have e3 : (c : Int) = c' := e3
  rw [show a = a' by omega, show b = b' by omega, show c = c' by omega]
theorem eqv_falls : ∀ l m : List Fall, PyData.eqvAll (toPDs (l.map eF)) (toPDs (m.map eF)) = true → l = m
  | [], [], _ => rfl
  | [], _ :: _, h => by cases h
  | _ :: _, [], h => by cases h
  | a :: l, b :: m, h => by
    have h' : (PyData.eqv (toPD (eF a)) (toPD (eF b)) && PyData.eqvAll (toPDs (l.map eF)) (toPDs (m.map eF))) = true := h
    rw [Bool.and_eq_true] at h'
    rw [eqv_fall h'.1, eqv_falls l m h'.2]
theorem eqv_run {r s : Rn} (h : PyData.eqv (toPD (eR r)) (toPD (eR s)) = true) : r = s := by
  have h' : (PyData.eqvAll (toPDs (r.1.map D.int)) (toPDs (s.1.map D.int)) && (PyData.eqvAll (toPDs (r.2.map eF)) (toPDs (s.2.map eF)) && true)) = true := h
  rw [Bool.and_true, Bool.and_eq_true, pd_ints, pd_ints] at h'
  obtain ⟨a, b⟩ := r
  obtain ⟨c, d⟩ := s
  rw [show a = c from eqv_ints _ _ h'.1, show b = d from eqv_falls _ _ h'.2]
theorem lay_ints : ∀ l : List Int, PyData.canLayAll0 (l.map PyData.int) = true ∧ PyData.depthAll (l.map PyData.int) = 0
  | [] => ⟨rfl, rfl⟩
  | a :: l => by
    obtain ⟨h1, h2⟩ := lay_ints l
    refine ⟨?_, ?_⟩
    · show (true && PyData.canLayAll0 (l.map PyData.int)) = true
      rw [h1]; rfl
    · show max 0 (PyData.depthAll (l.map PyData.int)) = 0
      rw [h2]; rfl
theorem lay_falls : ∀ l : List Fall, PyData.canLayAll0 (toPDs (l.map eF)) = true ∧ PyData.depthAll (toPDs (l.map eF)) ≤ 1
  | [] => ⟨rfl, by decide⟩
  | a :: l => by
    obtain ⟨h1, h2⟩ := lay_falls l
    obtain ⟨g1, g2⟩ := lay_ints [(a.1 : Int), a.2.1, a.2.2]
    refine ⟨?_, ?_⟩
    · show (PyData.canLayAll0 ([(a.1 : Int), a.2.1, a.2.2].map PyData.int) && PyData.canLayAll0 (toPDs (l.map eF))) = true
      rw [h1, g1]; rfl
    · show max (PyData.depthAll ([(a.1 : Int), a.2.1, a.2.2].map PyData.int) + 1) (PyData.depthAll (toPDs (l.map eF))) ≤ 1
      rw [g2]
      exact Nat.max_le.mpr ⟨Nat.le_refl _, h2⟩
theorem shaped_run (r : Rn) : SeqAt.shaped (toPD (eR r)) = true := by
  obtain ⟨h1, h2⟩ := lay_ints r.1
  obtain ⟨g1, g2⟩ := lay_falls r.2
  show ((PyData.canLayAll0 (toPDs (r.1.map D.int)) && (PyData.canLayAll0 (toPDs (r.2.map eF)) && true)) && decide (max (PyData.depthAll (toPDs (r.1.map D.int)) + 1) (max (PyData.depthAll (toPDs (r.2.map eF)) + 1) 0) + 1 ≤ 64)) = true
  rw [pd_ints, h1, g1, h2, decide_eq_true (show max (0 + 1) (max (PyData.depthAll (toPDs (r.2.map eF)) + 1) 0) + 1 ≤ 64 by omega)]
  rfl
theorem ne_run_go {K : PySem.W.Frag} {H : Hp} {r s : Rn} {x y : V} {Q : VK} (hx : Rp K H (eR r) x) (hy : Rp K H (eR s) y) (k1 : r = s → Q (.bl false) H) (k2 : Q (.bl true) H) : rNeD K x y H Q := by
  refine ⟨_, _, Rp.dp _ _ hx, Rp.dp _ _ hy, shaped_run r, shaped_run s, ?_⟩
  cases e : PyData.eqv (toPD (eR r)) (toPD (eR s)) with
  | true => exact k1 (eqv_run e)
  | false => exact k2
section
variable {P : Program} {w : World} {K : PySem.W.Frag} {mg : Str → Option Value} {base : Heap}
def sp_healed (K : PySem.W.Frag) : Sp := fun vs H Q _ => ∃ (n b k : Nat) (r : Rn) (x : V), vs = [x, .int b, .int k] ∧ Rp K H (eR r) x ∧ Good n b r ∧ b + 2 ≤ n ∧ k ≤ 2 ∧ k + wasteOf r ≤ b ∧ ∀ p H' l, H p = none → Ex H H' → LR K H' p l → Path n b k l r (r.1, []) → l.length ≤ 602 → Q (.ref p) H'
abbrev N_healed : List Str := ["run", "bound", "rounds", "path", "first", "at"]
theorem sc_healed : FnScope N_healed ["run", "bound", "rounds"] (defScope s_healed) := ⟨rfl, rfl, rfl, by decide +kernel, rfl, by decide +kernel, by decide +kernel⟩
theorem ok_healed (T : Txt P w K mg base) : Ok P w K mg base "healed" (10 + 1) ["run", "bound", "rounds"] (sp_healed K) := by
  refine Ok.of T.f_healed sc_healed (fun _ _ _ _ _ _ us hl => match us, hl with | [_, _, _], _ => rfl) (fun vs H Q E h => ?_) (fun f cdv A outer s H vs Q E hr h => ?_)
  · obtain ⟨n, b, k, r, x, rfl, hx, hg, bn, hk2, hw, kq⟩ := h
    rfl
  · obtain ⟨n, b, k, r, x, rfl, hx, hg, bn, hk2, hw, kq⟩ := h
    refine ⟨_, (pss_cons (ps_set (i := 3) sc_healed.nd rfl (by first | exact Or.inl rfl | exact Or.inr rfl) (peLst (pa_cons (pv 0) pa_nil)))
 (pss_cons (ps_set (i := 4) sc_healed.nd rfl (by first | exact Or.inl rfl | exact Or.inr rfl) (pc (ok_without_later T) hr (pa_cons (pv 0) (pa_cons (pv 2) pa_nil))))
 (pss_cons (ps_cut (ps_if (pt_cmpR (opNeD (K := K) rfl hr.units) (pv 4) (pv 0) (by first | rfl | exact nomark _))
 (pss_one (ps_expr (pe_bm PySem.F.plainAttrs_list PySem.F.slot_list_append PySem.F.type_list_append mt_append (pv 3) (pa_cons (pv 4) pa_nil))))
 pss_nil))
 (pss_cons (ps_for PassesOwn.never rfl (pi_revR (by rfl) T.n_reversed (prg_2 (by rfl) T.n_range pe_int (pe_op op_add (pv 2) pe_int))) (pg_name (i := 5) sc_healed.nd rfl (by first | exact Or.inl rfl | exact Or.inr rfl))
 (pss_one (ps_expr (pe_bm PySem.F.plainAttrs_list PySem.F.slot_list_extend PySem.F.type_list_extend mt_extend (pv 3) (pa_cons (pe_slice (slLK (K := K) rfl) (pc (ok_healed_round T) hr (pa_cons (pe_ix (ixL (K := K) rfl) (pv 3) (pe_un un_neg pe_int) (fun _ _ => rfl)) (pa_cons (pv 5) (pa_cons (pv 2) pa_nil)))) (po_some pe_int) po_none) pa_nil)))))
 (pss_one (ps_ret (pv 3))))))), ?_⟩
    refine ⟨_, rfl, by show 1 ≤ 1000; decide, fun p H1 hp0 e1 g1 => ?_⟩
    refine ⟨_, rfl, _, rfl, r, k, x, rfl, hx.up e1, hg.v, fun fv H2 e2 hfv => ?_⟩
    have e12 := e1.trans e2
    refine ⟨fun σ' H' => ∃ (l : List Rn), σ' = [some x, some (.int b), some (.int k), some (.ref p), some fv, none] ∧ Ex H H' ∧ LR K H' p l ∧ Path n b k l r (withoutLater r k) ∧ l.length ≤ 2, ?_, ?_⟩
    · refine ⟨_, rfl, _, rfl, ne_run_go hfv (hx.up e12) (fun e => ⟨_, rfl, iteF ⟨[r], rfl, e12, ⟨_, e2 _ _ g1, .one (hx.up e12)⟩, by rw [e]; exact Path.one hg, by rw [List.length_singleton]; omega⟩⟩) ⟨_, rfl, iteT ?_⟩⟩
      have rx : RpL K H2 ([r].map eR) [x] := .one (hx.up e12)
      have px := e2 _ _ g1
      refine ⟨_, rfl, .inl ⟨rfl, _, SqL.of px⟩, _, rfl, p, [x], fv, rfl, rfl, px, sz_lt (by show 1 < 100000; omega), ?_⟩
      exact ⟨[r] ++ [withoutLater r k], rfl, e12.mut hp0, LR.app px rx hfv, Path.snoc (Path.one hg) (adj_first hg bn) (hg.later k), Nat.le_refl _⟩
    · rintro σ' H' ⟨l, rfl, f1, f2, f3, f4⟩
      have etn : ((k : Int) + 1 - 1).toNat = k := by omega
      refine ⟨_, rfl, _, _, rfl, rfl, 1, _, rfl, rfl, by omega, by omega, by omega, by omega, for_rangeC (lo := 1 + ((((k : Int) + 1 - 1).toNat : Nat) : Int) - 1) (c := -1) (n := ((k : Int) + 1 - 1).toNat) (fun i σ H'' => ∃ (l : List Rn) (o : Option V), σ = [some x, some (.int b), some (.int k), some (.ref p), some fv, o] ∧ Ex H H'' ∧ LR K H'' p l ∧ Path n b k l r (withoutLater r (k - i)) ∧ l.length ≤ 2 + i * 300) ⟨l, none, rfl, f1, f2, f3, by omega⟩ ?_ ?_⟩
      · rintro i σ H3 hi ⟨l, o, rfl, q1, q2, q3, q4⟩
        rw [etn] at hi ⊢
        have ev : (1 + ((k : Nat) : Int) - 1 + ((i : Nat) : Int) * (-1)) = ((k - i : Nat) : Int) := by omega
        rw [ev]
        obtain ⟨t, et⟩ := q3.last
        obtain ⟨ys, v, py, rv⟩ := q2.last et
        have hgl := hg.later (k - i)
        have lle : (withoutLater r (k - i)).2.length ≤ r.2.length := List.length_filter_le _ _
        have hb := hg.b
        refine ⟨_, rfl, .inl ⟨rfl, _, SqL.of py⟩, _, rfl, 1, rfl, _, _, _, _, rfl, rfl, SqL.of py, atI_last ys v, _, rfl, _, rfl, n, b, k, withoutLater r (k - i), k - i, v, rfl, rv, hgl, bn, by omega, by omega, hk2, fun f hf => of_decide_eq_true (List.mem_filter.mp hf).2, by omega, heal_c2 hg bn (by omega) (by omega) (by omega) hw, fun p10 H10 m10 hp10 e10 lr10 pth10 ll10 => ⟨_, rfl, ?_⟩⟩
        dsimp only [tNoPart]
        refine sl1_go lr10 fun p11 H11 hp11 e11 lr11 => ?_
        have hm3 : i * 300 ≤ 2 * 300 := Nat.mul_le_mul_right 300 (by omega)
        have c11 : l.length + (m10.drop 1).length ≤ 100000 := by
          rw [List.length_drop]; omega
        dsimp only [tNil]
        refine ext_go ((LD.up q2 e10).up e11) lr11 c11 fun o lr13 hr13 => ?_
        refine ⟨l ++ m10.drop 1, some (.int ((k - i : Nat) : Int)), rfl, ((q1.trans e10).trans e11).mut hp0, lr13, ?_, ?_⟩
        · rw [later_later (by omega)] at pth10
          exact q3.join' pth10
        · rw [List.length_append, List.length_drop]
          omega
      · rintro σ H3 ⟨l, o, rfl, q1, q2, q3, q4⟩
        rw [etn] at q3 q4
        rw [Nat.sub_self, later_0 hg.v] at q3
        exact ⟨_, rfl, kq p H3 l hp0 q1 q2 q3 (by omega)⟩
theorem cur_set {ns0 ns : List Int} {i : Nat} {z : Int} (hl : ns.length = ns0.length) (hz : ns[i]? = some z) : (ns.take i ++ ns0.drop i).set i z = ns.take (i + 1) ++ ns0.drop (i + 1) := by
  have hi := (List.getElem?_eq_some_iff.mp hz).1
  rw [List.set_append_right _ _ (by rw [List.length_take]; omega), List.length_take, Nat.min_eq_left (by omega), Nat.sub_self, List.take_add_one, hz, Option.toList_some, List.append_assoc]
  congr 1
  rw [List.drop_eq_getElem_cons (show i < ns0.length by omega)]
  rfl
def sp_renumbered (K : PySem.W.Frag) : Sp := fun vs H Q _ => ∃ (n b k : Nat) (ns0 ns : List Int) (x y : V), vs = [x, y, .int k] ∧ Rp K H (eR (ns0, [])) x ∧ Rp K H (.tup (ns.map .int)) y ∧ Good n b (ns0, []) ∧ ns.length = n ∧ (∀ z ∈ ns, z.natAbs < 10 ^ 60) ∧ k ≤ b ∧ b + 2 ≤ n ∧ k ≤ 2 ∧ ∀ p H' l, H p = none → Ex H H' → LR K H' p l → Path n b k l (ns0, []) (ns, []) → l.length ≤ 460 → Q (.ref p) H'
abbrev N_renumbered : List Str := ["run", "numbers", "rounds", "path", "hand", "now", "more"]
theorem sc_renumbered : FnScope N_renumbered ["run", "numbers", "rounds"] (defScope s_renumbered) := ⟨rfl, rfl, rfl, by decide +kernel, rfl, by decide +kernel, by decide +kernel⟩
theorem ok_renumbered (T : Txt P w K mg base) : Ok P w K mg base "renumbered" (8 + 1) ["run", "numbers", "rounds"] (sp_renumbered K) := by
  refine Ok.of T.f_renumbered sc_renumbered (fun _ _ _ _ _ _ us hl => match us, hl with | [_, _, _], _ => rfl) (fun vs H Q E h => ?_) (fun f cdv A outer s H vs Q E hr h => ?_)
  · obtain ⟨n, b, k, ns0, ns, x, y, rfl, hx, hy, hg, hn2, hnum, hkb, bn, hk2, kq⟩ := h
    rfl
  · obtain ⟨n, b, k, ns0, ns, x, y, rfl, hx, hy, hg, hn2, hnum, hkb, bn, hk2, kq⟩ := h
    refine ⟨_, (pss_cons (ps_set (i := 3) sc_renumbered.nd rfl (by first | exact Or.inl rfl | exact Or.inr rfl) (peLst (pa_cons (pv 0) pa_nil)))
 (pss_cons (ps_for PassesOwn.never rfl (pi_range1 (by rfl) T.n_range (pa_cons (pc (ok_many_hands T) hr (pa_cons (pv 0) pa_nil)) pa_nil)) (pg_name (i := 4) sc_renumbered.nd rfl (by first | exact Or.inl rfl | exact Or.inr rfl))
 (pss_cons (ps_set (i := 5) sc_renumbered.nd rfl (by first | exact Or.inl rfl | exact Or.inr rfl) (pe_ix (ixL (K := K) rfl) (pv 3) (pe_un un_neg pe_int) (fun _ _ => rfl)))
 (pss_one (ps_if (pt_cmpR op_ne (pe_ix (ixT (K := K) rfl) (pe_ix (ixT (K := K) rfl) (pv 5) pe_int (fun _ _ => rfl)) (pv 4) (fun _ _ => rfl)) (pe_ix (ixT (K := K) rfl) (pv 1) (pv 4) (fun _ _ => rfl)) (by first | rfl | exact nomark _))
 (pss_cons (ps_set (i := 6) sc_renumbered.nd rfl (by first | exact Or.inl rfl | exact Or.inr rfl) (pc (ok_with_number T) hr (pa_cons (pv 5) (pa_cons (pv 4) (pa_cons (pe_ix (ixT (K := K) rfl) (pv 1) (pv 4) (fun _ _ => rfl)) pa_nil)))))
 (pss_cons (ps_expr (pe_bm PySem.F.plainAttrs_list PySem.F.slot_list_extend PySem.F.type_list_extend mt_extend (pv 3) (pa_cons (pe_slice (slLK (K := K) rfl) (pc (((ok_hushed T k (by omega)).up (show k + 5 ≤ 8 by omega))) hr (pa_cons (pv 5) (pa_cons (pv 4) (pa_cons pe_int (pa_cons (pv 2) pa_nil))))) (po_some pe_int) po_none) pa_nil)))
 (pss_one (ps_expr (pe_bm PySem.F.plainAttrs_list PySem.F.slot_list_extend PySem.F.type_list_extend mt_extend (pv 3) (pa_cons (RFR.pe_listRev (K := K) rfl rfl (by rfl) T.n_list (by rfl) T.n_reversed (pc (((ok_hushed T k (by omega)).up (show k + 5 ≤ 8 by omega))) hr (pa_cons (pv 6) (pa_cons (pv 4) (pa_cons pe_int (pa_cons (pv 2) pa_nil)))))) pa_nil))))))
 pss_nil))))
 (pss_one (ps_ret (pv 3))))), ?_⟩
    have h4 := hg.v.hi
    have hn0 : ns0.length = n := hg.n
    have h4' : ns0.length ≤ 4 := h4
    obtain ⟨hL1, hL2⟩ := Lh2 k hk2
    refine ⟨_, rfl, by show 1 ≤ 1000; decide, fun p H1 hp0 e1 g1 => ?_⟩
    obtain ⟨ya, yxs, rfl, yt, yr⟩ := Rp.tup_iff.mp hy
    have ey := RpL.of_ints yr
    subst ey
    refine ⟨_, rfl, (ns0, []), x, rfl, hx.up e1, _, rfl, by show -(2 ^ 62) ≤ ((ns0.length : Nat) : Int); omega, by show ((ns0.length : Nat) : Int) < 2 ^ 62; omega, for_range (lo := 0) (n := ns0.length) (fun i σ H' => ∃ (l : List Rn) (o5 o6 o7 : Option V), σ = [some x, some (.ref ya), some (.int k), some (.ref p), o5, o6, o7] ∧ Ex H H' ∧ LR K H' p l ∧ Path n b k l (ns0, []) (ns.take i ++ ns0.drop i, []) ∧ l.length ≤ 1 + i * 114) ⟨[(ns0, [])], none, none, none, rfl, e1, ⟨_, g1, .one (hx.up e1)⟩, Path.one hg, by rw [List.length_singleton]; omega⟩ ?_ ?_⟩
    · rintro i σ H2 hi ⟨l, o5, o6, o7, rfl, q1, q2, q3, q4⟩
      rw [Int.zero_add]
      obtain ⟨t, et⟩ := q3.last
      obtain ⟨ys, v, py, rv⟩ := q2.last et
      have gcur := q3.good (ns.take i ++ ns0.drop i, []) (by rw [et]; exact List.mem_append_right _ List.mem_cons_self)
      obtain ⟨z, hz⟩ : ∃ z, ns[i]? = some z := ⟨_, List.getElem?_eq_getElem (by omega)⟩
      obtain ⟨z0, hz0⟩ : ∃ z, ns0[i]? = some z := ⟨_, List.getElem?_eq_getElem hi⟩
      have hcur : (ns.take i ++ ns0.drop i)[i]? = some z0 := by
        rw [List.getElem?_append_right (by rw [List.length_take]; omega), List.length_take, Nat.min_eq_left (by omega), Nat.sub_self, List.getElem?_drop]
        exact hz0
      have hset := cur_set (ns0 := ns0) (ns := ns) (by omega) hz
      have hm := hi
      have hi114 : i * 114 ≤ 4 * 114 := Nat.mul_le_mul_right 114 (by omega)
      generalize hc : ns.take i ++ ns0.drop i = cur at hcur q3 hset gcur et rv
      obtain ⟨a, pn, pf, fs, rfl, h1, h2, h3, h5⟩ := run_get rv
      refine ⟨_, rfl, 1, rfl, _, _, _, _, rfl, rfl, SqL.of py, atI_last ys _, ?_⟩
      refine ⟨_, rfl, _, _, 0, _, rfl, rfl, h1, atI_nat (j := 0) rfl, _, rfl, _, _, i, .int z0, rfl, rfl, h2, atI_nat (by rw [List.getElem?_map, hcur]; rfl), _, rfl, _, rfl, _, _, i, .int z, rfl, rfl, ex_t q1 yt, atI_nat (by rw [List.getElem?_map, hz]; rfl), rfl, ?_⟩
      have hne : (!decide (V.int z0 = V.int z)) = decide (z0 ≠ z) := by
        rw [dec_int]
        by_cases e : z0 = z
        · subst e; simp
        · rw [decide_eq_true e, beq_eq_false_iff_ne.mpr e]; rfl
      rw [hne]
      refine ⟨_, rfl, ?_⟩
      by_cases c : z0 ≠ z
      · rw [decide_eq_true c]
        refine iteT ⟨_, rfl, _, rfl, _, rfl, _, rfl, _, _, i, .int z, rfl, rfl, ex_t q1 yt, atI_nat (by rw [List.getElem?_map, hz]; rfl), (cur, []), i, z, _, rfl, rv, gcur.v, ?_, fun mv H6 e6 hmv => ?_⟩
        · show i < cur.length
          exact (List.getElem?_eq_some_iff.mp hcur).1
        have emore : withN (cur, []) i z = (ns.take (i + 1) ++ ns0.drop (i + 1), []) := by
          show (cur.set i z, ([] : List Fall)) = _
          rw [hset]
        have vmore := gcur.v.withN (x := i) (hnum z (List.mem_of_getElem? hz))
        rw [emore] at hmv vmore
        have lmore : (ns.take (i + 1) ++ ns0.drop (i + 1)).length = n := by
          rw [← hset, List.length_set]; exact gcur.n
        have gmore : Good n b (ns.take (i + 1) ++ ns0.drop (i + 1), []) := ⟨vmore, lmore, Nat.zero_le _⟩
        have pre : ∀ ms : List Int, Good n b (ms, []) → Pre n b k (ms, []) i 1 := fun ms g => ⟨g, by omega, rfl, by omega, by omega, fun f hf => absurd hf List.not_mem_nil, by show 0 + (k + 1 - 1) ≤ b; omega, bn, by omega⟩
        have py6 := e6 _ _ py
        refine ⟨_, rfl, .inl ⟨rfl, _, SqL.of py6⟩, _, rfl, _, rfl, _, rfl, n, b, k, (cur, []), i, 1, _, rfl, rv.up e6, pre _ gcur, by omega, fun p7 H7 m7 hp7 e7 lr7 pth7 ll7 => ⟨_, rfl, ?_⟩⟩
        dsimp only [tNoPart]
        refine sl1_go lr7 fun p8 H8 hp8 e8 lr8 => ?_
        have p7' := pth7.pos
        have c8 : l.length + (m7.drop 1).length ≤ 100000 := by
          rw [List.length_drop]; omega
        dsimp only [tNil]
        refine ext_go (((LD.up q2 e6).up e7).up e8) lr8 c8 fun o lr9 hr9 => ?_
        have x9 : Ex H (upd H8 p o) := (((q1.trans e6).trans e7).trans e8).mut hp0
        have t9 : ExT H8 (upd H8 p o) := by
          obtain ⟨ys, hr9⟩ := hr9
          exact ExT.lst hr9
        have mv9 := ((hmv.up e7).up e8).upT t9
        generalize upd H8 p o = H9 at x9 lr9 mv9
        obtain ⟨xs9, px9⟩ := lr9.refs
        refine ⟨_, rfl, .inl ⟨rfl, _, SqL.of px9⟩, _, rfl, _, rfl, _, rfl, n, b, k, (ns.take (i + 1) ++ ns0.drop (i + 1), []), i, 1, mv, rfl, mv9, pre _ gmore, by omega, fun p10 H10 m10 hp10 e10 lr10 pth10 ll10 => ?_⟩
        obtain ⟨xs10, px10, rx10⟩ := lr10
        refine ⟨p10, xs10, rfl, SqL.of px10, fun p11 H11 hp11 e11 g11 => ?_⟩
        have lr11 := rev_go rx10 e11 g11
        have c11 : (l ++ m7.drop 1).length + m10.reverse.length ≤ 100000 := by
          rw [List.length_append, List.length_reverse, List.length_drop]; omega
        dsimp only [tNil]
        refine ext_go ((lr9.up e10).up e11) lr11 c11 fun o lr12 hr12 => ?_
        have hi1 : (i + 1) * 114 = i * 114 + 114 := by rw [Nat.add_mul, Nat.one_mul]
        refine ⟨l ++ m7.drop 1 ++ m10.reverse, some (.int (i : Nat)), some (.ref a), some mv, rfl, ((x9.trans e10).trans e11).mut hp0, lr12, ?_, ?_⟩
        · refine Path.app (q3.join' pth7) ?_ pth10.rev
          have p1 := pre _ gcur
          have p2 := pre _ gmore
          refine adj_number (h := i) p1.end_good.v (by rw [end_num, end_num, show (cur, ([] : List Fall)).1.length = n from gcur.n]; exact lmore.symm) (fun u hu => ?_) (fun u => ?_) ?_ ?_
          · rw [end_num, end_num]
            show cur.getD u 0 = (ns.take (i + 1) ++ ns0.drop (i + 1)).getD u 0
            rw [← hset, List.getD_eq_getElem?_getD, List.getD_eq_getElem?_getD, List.getElem?_set_ne (Ne.symm hu)]
          · rw [p1.end_fall, p2.end_fall]
            rfl
          · by_cases k0 : k = 0
            · exact .inl k0
            · exact .inr (by rw [p1.end_fall, if_pos ⟨rfl, by omega⟩])
          · obtain ⟨u, u1, u2, u3⟩ := stand_ex (r := (cur, [])) gcur.n [i] (by show 0 + 1 < n; omega)
            refine ⟨u, by rw [end_num, gcur.n]; exact u1, fun z => u2 (by rw [z]; simp), isUp_none k ?_⟩
            rw [p1.end_fall, if_neg (fun z => u2 (by rw [z.1]; simp))]
            exact u3
        · rw [List.length_append, List.length_append, List.length_reverse, List.length_drop]
          omega
      · rw [decide_eq_false c]
        have e : z0 = z := Decidable.not_not.mp c
        have hsame : cur = ns.take (i + 1) ++ ns0.drop (i + 1) := by
          rw [← hset]
          refine List.ext_getElem? fun j => ?_
          by_cases ej : i = j
          · subst ej
            rw [List.getElem?_set_self (List.getElem?_eq_some_iff.mp hcur).1, hcur, e]
          · rw [List.getElem?_set_ne ej]
        refine iteF ⟨l, _, _, _, rfl, q1, q2, ?_, by omega⟩
        rw [← hsame]
        exact q3
    · rintro σ H2 ⟨l, o5, o6, o7, rfl, q1, q2, q3, q4⟩
      rw [List.take_of_length_le (by omega), List.drop_length, List.append_nil] at q3
      exact ⟨_, rfl, kq p H2 l hp0 q1 q2 q3 (by omega)⟩
def sp_chain_of (K : PySem.W.Frag) : Sp := fun vs H Q _ => ∃ (n b k : Nat) (r : Rn) (ns : List Int) (x y : V), vs = [x, .int b, .int k, y] ∧ Rp K H (eR r) x ∧ Rp K H (.tup (ns.map .int)) y ∧ Good n b r ∧ ns.length = n ∧ (∀ z ∈ ns, z.natAbs < 10 ^ 60) ∧ b + 2 ≤ n ∧ k ≤ 2 ∧ k + wasteOf r ≤ b ∧ ∀ p H' l, H p = none → Ex H H' → LR K H' p l → Path n b k l r (ns, []) → l.length ≤ 1100 → Q (.ref p) H'
abbrev N_chain_of : List Str := ["run", "bound", "rounds", "numbers", "path"]
theorem sc_chain_of : FnScope N_chain_of ["run", "bound", "rounds", "numbers"] (defScope s_chain_of) := ⟨rfl, rfl, rfl, by decide +kernel, rfl, by decide +kernel, by decide +kernel⟩
theorem ok_chain_of (T : Txt P w K mg base) : Ok P w K mg base "chain_of" (11 + 1) ["run", "bound", "rounds", "numbers"] (sp_chain_of K) := by
  refine Ok.of T.f_chain_of sc_chain_of (fun _ _ _ _ _ _ us hl => match us, hl with | [_, _, _, _], _ => rfl) (fun vs H Q E h => ?_) (fun f cdv A outer s H vs Q E hr h => ?_)
  · obtain ⟨n, b, k, r, ns, x, y, rfl, hx, hy, hg, hn2, hnum, bn, hk2, hw, kq⟩ := h
    rfl
  · obtain ⟨n, b, k, r, ns, x, y, rfl, hx, hy, hg, hn2, hnum, bn, hk2, hw, kq⟩ := h
    refine ⟨_, (pss_cons (ps_if (pt_not (pt_val (pc (ok_keeps T) hr (pa_cons (pv 0) (pa_cons (pv 1) pa_nil)))))
 pss_never
 pss_nil)
 (pss_cons (ps_if (PW.pt (pw_or (pt_not (pt_val (pc (ok_is_run T) hr (pa_cons (peTup (pa_cons (pv 3) (pa_cons (peTup pa_nil) pa_nil))) pa_nil)))) (pw_or1 (pt_cmpR op_ne (pe_callB (cLen (K := K) rfl) (by rfl) T.n_len bt_len (pa_cons (pv 3) pa_nil)) (pc (ok_many_hands T) hr (pa_cons (pv 0) pa_nil)) (by first | rfl | exact nomark _)))))
 pss_never
 pss_nil)
 (pss_cons (ps_if (pt_not (pt_val (pc (ok_is_open T) hr (pa_cons (pv 0) (pa_cons (pv 1) (pa_cons (pv 2) pa_nil))))))
 pss_never
 pss_nil)
 (pss_cons (ps_set (i := 4) sc_chain_of.nd rfl (by first | exact Or.inl rfl | exact Or.inr rfl) (pc (ok_healed T) hr (pa_cons (pv 0) (pa_cons (pv 1) (pa_cons (pv 2) pa_nil)))))
 (pss_cons (ps_expr (pe_bm PySem.F.plainAttrs_list PySem.F.slot_list_extend PySem.F.type_list_extend mt_extend (pv 4) (pa_cons (pe_slice (slLK (K := K) rfl) (pc (ok_renumbered T) hr (pa_cons (pe_ix (ixL (K := K) rfl) (pv 4) (pe_un un_neg pe_int) (fun _ _ => rfl)) (pa_cons (pv 3) (pa_cons (pv 2) pa_nil)))) (po_some pe_int) po_none) pa_nil)))
 (pss_one (ps_ret (pv 4)))))))), ?_⟩
    have h4 := hg.v.hi
    have hlo := hg.v.lo
    have hn := hg.n
    have hb := hg.b
    have hvn : Valid (ns, []) := ⟨by show 2 ≤ ns.length; omega, by show ns.length ≤ 4; omega, hnum, List.Pairwise.nil, fun f hf => absurd hf List.not_mem_nil⟩
    refine ⟨_, rfl, _, rfl, r, b, x, rfl, hx, by omega, hb, _, rfl, iteF ?_⟩
    refine ⟨_, rfl, by show 0 ≤ 1000; decide, fun t H1 ht e1 g1 => ⟨by show 2 ≤ 1000; decide, fun u H2 hu e2 g2 => ?_⟩⟩
    have e12 := e1.trans e2
    obtain ⟨ya, yxs, rfl, yt, yr⟩ := Rp.tup_iff.mp hy
    have ly := yr.len
    rw [List.length_map] at ly
    refine ⟨(ns, []), _, rfl, ?_, hvn, _, rfl, iteF ⟨_, rfl, ya, yxs, rfl, .inr (ex_t e12 yt), _, rfl, r, x, rfl, hx.up e12, rfl, ?_⟩⟩
    · exact .tup (st_of g2) (.cons (hy.up e12) (.one (.tup (st_of (e2 _ _ g1)) .nil)))
    have hne : (!decide (V.int (yxs.length : Nat) = V.int (r.1.length : Nat))) = false := by
      rw [ly, hn2, hn]
      simp
    refine ⟨false, congrArg V.bl hne, iteF ?_⟩
    refine ⟨_, rfl, _, rfl, _, rfl, r, b, k, x, rfl, hx.up e12, hg.v, by omega, hb, hw, fun H3 e3 => ⟨_, rfl, iteF ?_⟩⟩
    have e13 := e12.trans e3
    refine ⟨_, rfl, _, rfl, _, rfl, n, b, k, r, x, rfl, hx.up e13, hg, bn, hk2, hw, fun p H4 l hp0 e4 lr4 pth4 ll4 => ?_⟩
    obtain ⟨t2, et⟩ := pth4.last
    obtain ⟨ys, v, py, rv⟩ := lr4.last et
    have gl := pth4.good (r.1, []) (by rw [et]; exact List.mem_append_right _ List.mem_cons_self)
    refine ⟨_, rfl, .inl ⟨rfl, _, SqL.of py⟩, _, rfl, 1, rfl, _, _, _, _, rfl, rfl, SqL.of py, atI_last ys v, _, rfl, _, rfl, n, b, k, r.1, ns, v, _, rfl, rv, (hy.up e13).up e4, gl, hn2, hnum, by omega, bn, hk2, fun p10 H10 m10 hp10 e10 lr10 pth10 ll10 => ⟨_, rfl, ?_⟩⟩
    dsimp only [tNoPart]
    refine sl1_go lr10 fun p11 H11 hp11 e11 lr11 => ?_
    have c11 : l.length + (m10.drop 1).length ≤ 100000 := by
      rw [List.length_drop]; omega
    dsimp only [tNil]
    refine ext_go ((LD.up lr4 e10).up e11) lr11 c11 fun o lr13 hr13 => ?_
    have hpH : H p = none := fresh_back e13 hp0
    refine ⟨_, rfl, kq p _ _ hpH ((((e13.trans e4).trans e10).trans e11).mut hpH) lr13 (pth4.join' pth10) ?_⟩
    rw [List.length_append, List.length_drop]
    omega
end
end RF

set_option Elab.async false
set_option linter.all false
set_option maxRecDepth 100000
set_option maxHeartbeats 4000000
namespace RF
open PySem PySem.Spec PyProof.Rows L2 Evl RM RC
/-! ### what a search finds -/
def BreakOK (f : AV → Option Int) (n b k : Nat) (d : D) : Prop :=
  (∃ (r : Rn) (h0 h1 : Nat), d = .tup [.str "torn", eR r, .int h0, .int h1] ∧ Good n b r ∧ h0 < h1 ∧ h0 ∈ whoUp r k ∧ h1 ∈ whoUp r k ∧ toldAt f r k h0 ≠ toldAt f r k h1) ∨
  (∃ (r : Rn) (h0 : Nat) (c m : Int), d = .tup [.str "strange", eR r, .int h0] ∧ Good n b r ∧ h0 ∈ whoUp r k ∧ r.1 = List.replicate n c ∧ toldAt f r k h0 = some m ∧ m ≠ c)
def rSubE : R2 := fun x y H Q => ∃ i j z, x = .int i ∧ y = .int j ∧ i - j = z ∧ Q (.int z) H
theorem opSubE {X : Cx} : OpR X (binaryOp .Sub) rSubE := by
  intro pins s σ H x y v u Q I rx ry q
  obtain ⟨i, j, z, h1, h2, h3, k⟩ := q
  subst h3
  exact op_sub pins s σ H x y v u Q I rx ry ⟨i, j, h1, h2, k⟩
def rDivE : R2 := fun x y H Q => ∃ i j z, x = .int i ∧ y = .int j ∧ CDiv i j ∧ i / j = z ∧ Q (.int z) H
theorem opDivE {X : Cx} : OpR X (binaryOp .FloorDiv) rDivE := by
  intro pins s σ H x y v u Q I rx ry q
  obtain ⟨i, j, z, h1, h2, h3, h4, k⟩ := q
  subst h4
  exact op_fdiv pins s σ H x y v u Q I rx ry ⟨i, j, h1, h2, h3, k⟩
theorem eT_last {K : PySem.W.Frag} {H : Hp} {q : Addr} {t0 : Nat × Option Int} {ts : List (Nat × Option Int)} (h : LD K H q ((t0 :: ts).map eT)) : ∃ xs a, H q = some (.lst (.ref a :: xs)) ∧ SqT K H a [.int t0.1, oi t0.2] := by
  obtain ⟨xs, h1, h2⟩ := h
  rw [List.map_cons] at h2
  obtain ⟨x, r, rfl, g1, g2⟩ := RpL.cons_iff.mp h2
  obtain ⟨a, rfl, g⟩ := eT_get g1
  exact ⟨r, a, h1, g⟩
theorem who_cons {n b : Nat} {r : Rn} (g : Good n b r) (bn : b + 2 ≤ n) (k : Nat) : ∃ h0 hs, whoUp r k = h0 :: hs ∧ ∀ h ∈ hs, h0 < h := by
  have hb := g.b
  obtain ⟨x, h1, _, h3⟩ := stand_ex g.n [] (by show r.2.length + 0 < n; omega)
  have hx : x ∈ whoUp r k := whoUp_mem.mpr ⟨by rw [g.n]; exact h1, isUp_none k h3⟩
  have hp : (whoUp r k).Pairwise (· < ·) := List.Pairwise.filter _ List.pairwise_lt_range
  cases e : whoUp r k with
  | nil => rw [e] at hx; exact absurd hx List.not_mem_nil
  | cons a l =>
    rw [e] at hp
    exact ⟨a, l, rfl, fun h hh => (List.pairwise_cons.mp hp).1 h hh⟩
theorem adj_told {k : Nat} {r s : Rn} (a : Adj k r s) (f : AV → Option Int) : ∃ h, h ∈ whoUp r k ∧ h ∈ whoUp s k ∧ toldAt f r k h = toldAt f s k h := by
  obtain ⟨h, h1, h2, h3⟩ := a
  refine ⟨h, h1, h2, ?_⟩
  unfold toldAt
  rw [h3]
section
variable {P : Program} {w : World} {K : PySem.W.Frag} {mg : Str → Option Value} {base : Heap}
def sp_halved (K : PySem.W.Frag) : Sp := fun vs H Q _ => ∃ (n b k b' : Nat) (wd : Word) (f : Addr) (p : Addr) (l : List Rn) (r s : Rn) (num c : Int), vs = [.ref f, .ref p, .int k, .int num] ∧ RuleF H f wd b' ∧ LR K H p l ∧ Path n b k l r s ∧ (∀ h ∈ whoUp r k, toldAt (RM.rule wd b') r k h = some num) ∧ s.1 = List.replicate n c ∧ c ≠ num ∧ k ≤ 2 ∧ b + 2 ≤ n ∧ l.length ≤ 10000 ∧ ∀ y H' d, Ex H H' → Rp K H' d y → BreakOK (RM.rule wd b') n b k d → Q y H'
abbrev N_halved : List Str := ["rule", "path", "rounds", "number", "low", "high", "told", "tear", "amid"]
theorem sc_halved : FnScope N_halved ["rule", "path", "rounds", "number"] (defScope s_halved) := ⟨rfl, rfl, rfl, by decide +kernel, rfl, by decide +kernel, by decide +kernel⟩
theorem ok_halved (T : Txt P w K mg base) : Ok P w K mg base "halved" (10 + 1) ["rule", "path", "rounds", "number"] (sp_halved K) := by
  refine Ok.of T.f_halved sc_halved (fun _ _ _ _ _ _ us hl => match us, hl with | [_, _, _, _], _ => rfl) (fun vs H Q E h => ?_) (fun f cdv A outer s H vs Q E hr h => ?_)
  · obtain ⟨n, b, k, b', wd, fa, p, l, r, s, num, c, rfl, hf, hL, hP, hr0, hs0, hcn, hk2, bn, hl, kq⟩ := h
    rfl
  · obtain ⟨n, b, k, b', wd, fa, p, l, r, s, num, c, rfl, hf, hL, hP, hr0, hs0, hcn, hk2, bn, hl, kq⟩ := h
    refine ⟨_, (pss_cons (ps_set (i := 4) sc_halved.nd rfl (by first | exact Or.inl rfl | exact Or.inr rfl) pe_int)
 (pss_cons (ps_set (i := 5) sc_halved.nd rfl (by first | exact Or.inl rfl | exact Or.inr rfl) (pe_op opSubE (pe_callB (cLen (K := K) rfl) (by rfl) T.n_len bt_len (pa_cons (pv 1) pa_nil)) pe_int))
 (pss_cons (ps_set (i := 6) sc_halved.nd rfl (by first | exact Or.inl rfl | exact Or.inr rfl) (pc (ok_told_by T) hr (pa_cons (pv 0) (pa_cons (pe_ix (ixL (K := K) rfl) (pv 1) (pv 5) (fun _ _ => rfl)) (pa_cons (pv 2) pa_nil)))))
 (pss_cons (ps_cut (ps_set (i := 7) sc_halved.nd rfl (by first | exact Or.inl rfl | exact Or.inr rfl) (pc (ok_torn_in T) hr (pa_cons (pv 6) (pa_cons (pe_ix (ixL (K := K) rfl) (pv 1) (pv 5) (fun _ _ => rfl)) pa_nil)))))
 (pss_cons (ps_cut (ps_if (PW.pt (pw_and (pt_cmp (pc_isN (pv 7))) (pw_and1 (pt_cmpR op_eq (pe_ix (ixT (K := K) rfl) (pe_ix (ixL (K := K) rfl) (pv 6) pe_int (fun _ _ => rfl)) pe_int (fun _ _ => rfl)) (pv 3) (by first | rfl | exact nomark _)))))
 (pss_one (ps_ret (peTup (pa_cons pe_str (pa_cons (pe_ix (ixL (K := K) rfl) (pv 1) (pv 5) (fun _ _ => rfl)) (pa_cons (pe_ix (ixT (K := K) rfl) (pe_ix (ixL (K := K) rfl) (pv 6) pe_int (fun _ _ => rfl)) pe_int (fun _ _ => rfl)) pa_nil))))))
 pss_nil))
 (pss_cons (ps_while PassesOwn.never (PW.pt (pw_and (pt_cmp (pc_isN (pv 7))) (pw_and1 (pt_cmpR op_gt (pe_op op_sub (pv 5) (pv 4)) pe_int (by first | rfl | exact nomark _)))))
 (pss_cons (ps_set (i := 8) sc_halved.nd rfl (by first | exact Or.inl rfl | exact Or.inr rfl) (pe_op opDivE (pe_op op_add (pv 4) (pv 5)) pe_int))
 (pss_cons (ps_set (i := 6) sc_halved.nd rfl (by first | exact Or.inl rfl | exact Or.inr rfl) (pc (ok_told_by T) hr (pa_cons (pv 0) (pa_cons (pe_ix (ixL (K := K) rfl) (pv 1) (pv 8) (fun _ _ => rfl)) (pa_cons (pv 2) pa_nil)))))
 (pss_cons (ps_set (i := 7) sc_halved.nd rfl (by first | exact Or.inl rfl | exact Or.inr rfl) (pc (ok_torn_in T) hr (pa_cons (pv 6) (pa_cons (pe_ix (ixL (K := K) rfl) (pv 1) (pv 8) (fun _ _ => rfl)) pa_nil))))
 (pss_one (ps_if (pt_cmpR op_eq (pe_ix (ixT (K := K) rfl) (pe_ix (ixL (K := K) rfl) (pv 6) pe_int (fun _ _ => rfl)) pe_int (fun _ _ => rfl)) (pv 3) (by first | rfl | exact nomark _))
 (pss_one (ps_set (i := 4) sc_halved.nd rfl (by first | exact Or.inl rfl | exact Or.inr rfl) (pv 8)))
 (pss_one (ps_set (i := 5) sc_halved.nd rfl (by first | exact Or.inl rfl | exact Or.inr rfl) (pv 8)))))))))
 (pss_one (ps_ret (pv 7))))))))), ?_⟩
    obtain ⟨t, et⟩ := hP.last
    have lpos := hP.pos
    obtain ⟨xs, px, rx⟩ := hL
    have lx := LR.len rx
    have at_ : ∀ i x, l[i]? = some x → ∃ v, xs[i]? = some v ∧ Rp K H (eR x) v := fun i x e => rx.get (by rw [List.getElem?_map, e]; rfl)
    have hlast : l[l.length - 1]? = some s := by rw [et]; simp
    have ehi : ((xs.length : Nat) : Int) - 1 = ((l.length - 1 : Nat) : Int) := by omega
    obtain ⟨sv, hsv, rsv⟩ := at_ _ _ hlast
    have gs : Good n b s := hP.good s (List.mem_of_getElem? hlast)
    refine ⟨_, rfl, p, xs, rfl, .inl (SqL.of px), _, _, _, rfl, rfl, ehi, ?_⟩
    -- what torn_in makes of a run's list
    have hd0 : ∀ x, Good n b x → ∃ h0 hs, whoUp x k = h0 :: hs ∧ (∀ h ∈ hs, h0 < h) := fun x g => who_cons g bn k
    have tor : ∀ x h0 hs h, Good n b x → whoUp x k = h0 :: hs → h ∈ hs → h0 < h → toldAt (RM.rule wd b') x k h ≠ toldAt (RM.rule wd b') x k h0 → BreakOK (RM.rule wd b') n b k (.tup [.str "torn", eR x, .int h0, .int h]) := fun x h0 hs h g e hh lt ne =>
      .inl ⟨x, h0, h, rfl, g, lt, by rw [e]; exact List.mem_cons_self, by rw [e]; exact List.mem_cons_of_mem _ hh, fun z => ne z.symm⟩
    obtain ⟨h0, hs, ew, ehs⟩ := hd0 s gs
    refine ⟨_, rfl, _, rfl, _, rfl, _, _, _, sv, rfl, rfl, SqL.of px, atI_nat hsv, _, rfl, s, k, sv, fa, wd, b', rfl, hf, rsv, gs.v, hk2, fun q H1 hq e1 lq => ?_⟩
    have etold : ∀ x h0 hs, whoUp x k = h0 :: hs → toldBy (RM.rule wd b') x k = (h0, toldAt (RM.rule wd b') x k h0) :: hs.map fun h => (h, toldAt (RM.rule wd b') x k h) := fun x h0 hs e => by
      unfold toldBy
      rw [e]
      rfl
    have sx1 := e1 _ _ px
    -- the whole of what stands in the slots behind a look
    have look : ∀ (x : Rn) (v : V) (H1 : Hp) (q : Addr) (Q2 : VK), Good n b x → Rp K H1 (eR x) v → LD K H1 q ((toldBy (RM.rule wd b') x k).map eT) →
        ((∀ o, (∀ h ∈ whoUp x k, toldAt (RM.rule wd b') x k h = o) → Q2 .non H1) ∧ ∀ y H2 d, Ex H1 H2 → Rp K H2 d y → BreakOK (RM.rule wd b') n b k d → (∃ a, y = .ref a) → Q2 y H2) → sp_torn_in K [.ref q, v] H1 Q2 E0 := by
      intro x v H1 q Q2 g rv lq kk
      obtain ⟨h0, hs, ew, ehs⟩ := hd0 x g
      rw [etold x h0 hs ew] at lq
      refine ⟨q, _, _, x, v, rfl, lq, rv, fun hall => kk.1 (toldAt (RM.rule wd b') x k h0) fun h hh => ?_, fun t ht hne y H2 e ry => ?_⟩
      · rw [ew] at hh
        rcases List.mem_cons.mp hh with z | z
        · rw [z]
        · exact hall (h, toldAt (RM.rule wd b') x k h) (List.mem_map.mpr ⟨h, z, rfl⟩)
      · obtain ⟨h, hh, rfl⟩ := List.mem_map.mp ht
        obtain ⟨ya, _, rfl, _⟩ := Rp.tup_iff.mp ry
        exact kk.2 _ H2 _ e ry (tor x h0 hs h g ew hh (ehs h hh) hne) ⟨ya, rfl⟩
    have lq' := lq
    rw [etold s h0 hs ew] at lq'
    have h0mem : h0 ∈ whoUp s k := by rw [ew]; exact List.mem_cons_self
    obtain ⟨xs1, a1, g1, t1⟩ := eT_last lq'
    refine ⟨fun σ' H' => ∃ (tv : V), σ' = [some (.ref fa), some (.ref p), some (.int k), some (.int num), some (.int ((0 : Nat) : Int)), some (.int ((l.length - 1 : Nat) : Int)), some (.ref q), some tv, none] ∧ Ex H1 H' ∧ ((∃ d a, tv = .ref a ∧ Rp K H' d tv ∧ BreakOK (RM.rule wd b') n b k d) ∨ (tv = .non ∧ ∃ o, ∀ h ∈ whoUp s k, toldAt (RM.rule wd b') s k h = o)), ?_, ?_⟩
    · refine ⟨_, rfl, _, rfl, _, rfl, _, _, _, sv, rfl, rfl, SqL.of sx1, atI_nat hsv, ?_⟩
      dsimp only [tNil]
      refine look s sv H1 q _ gs (rsv.up e1) lq ⟨fun o ho => ?_, fun y H2 d e2 ry bk ⟨ya, ey⟩ => ?_⟩
      · exact ⟨.non, rfl, Ex.refl H1, .inr ⟨rfl, o, ho⟩⟩
      · exact ⟨y, rfl, e2, .inl ⟨d, ya, ey, ry, bk⟩⟩
    rintro σ1 H2 ⟨tv, rfl, e2, htv⟩
    have e12 := e1.trans e2
    refine ⟨fun σ' H' => ∃ (tv : V), σ' = [some (.ref fa), some (.ref p), some (.int k), some (.int num), some (.int ((0 : Nat) : Int)), some (.int ((l.length - 1 : Nat) : Int)), some (.ref q), some tv, none] ∧ Ex H H' ∧ ((∃ d a, tv = .ref a ∧ Rp K H' d tv ∧ BreakOK (RM.rule wd b') n b k d) ∨ (tv = .non ∧ 0 < l.length - 1 ∧ ∃ o, o ≠ some num ∧ ∀ h ∈ whoUp s k, toldAt (RM.rule wd b') s k h = o)), ?_, ?_⟩
    · rcases htv with ⟨d, ya, rfl, ry, bk⟩ | ⟨rfl, o, ho⟩
      · exact ⟨_, rfl, _, rfl, iteF (iteF ⟨_, rfl, e12, .inl ⟨d, ya, rfl, ry, bk⟩⟩)⟩
      have g12 := e2 _ _ g1
      have t12 := ex_t e2 t1
      refine ⟨_, rfl, _, rfl, iteT ⟨_, rfl, _, _, 0, _, rfl, rfl, SqL.of g12, atI_nat (j := 0) rfl, _, _, 1, _, rfl, rfl, t12, atI_nat (j := 1) rfl, _, rfl, oi_scal _ (some num), ?_⟩⟩
      have e0 : toldAt (RM.rule wd b') s k h0 = o := ho h0 h0mem
      refine ⟨decide (o = some num), ?_, ?_⟩
      · show V.bl (decide (oi (toldAt (RM.rule wd b') s k h0) = oi (some num))) = _
        rw [oi_eq, e0]
      by_cases co : o = some num
      · rw [decide_eq_true co]
        refine iteT ⟨_, rfl, _, rfl, _, _, _, sv, rfl, rfl, SqL.of (e12 _ _ px), atI_nat hsv, _, rfl, _, _, 0, _, rfl, rfl, SqL.of g12, atI_nat (j := 0) rfl, _, _, 0, _, rfl, rfl, t12, atI_nat (j := 0) rfl, by show 3 ≤ 1000; decide, fun u H5 hu e5 g5 => ?_⟩
        refine kq _ H5 (.tup [.str "strange", eR s, .int h0]) (e12.trans e5) (.tup (st_of g5) (.cons (.str _) (.cons ((rsv.up e12).up e5) (.one (.int _))))) (.inr ⟨s, h0, c, num, rfl, gs, h0mem, hs0, by rw [e0, co], Ne.symm hcn⟩)
      · rw [decide_eq_false co]
        refine iteF ⟨.non, rfl, e12, .inr ⟨rfl, ?_, o, co, ho⟩⟩
        by_cases l1 : l.length = 1
        · obtain ⟨t2, et2⟩ := hP.head
          have : s = r := by
            rw [et2] at hlast l1
            simp at l1
            subst l1
            simp at hlast
            exact hlast.symm
          rw [this] at h0mem e0
          rw [hr0 h0 h0mem] at e0
          exact absurd e0.symm co
        · omega
    rintro σ2 H3 ⟨tv, rfl, e3, htv⟩
    have hfirst : l[0]? = some r := by
      obtain ⟨t2, et2⟩ := hP.head
      rw [et2]; rfl
    refine ⟨fun m σ H' => ∃ (lo hi : Nat) (q : Addr) (tv : V) (am : Option V), m = hi - lo ∧ σ = [some (.ref fa), some (.ref p), some (.int k), some (.int num), some (.int (lo : Nat)), some (.int (hi : Nat)), some (.ref q), some tv, am] ∧ Ex H H' ∧ ((∃ d a, tv = .ref a ∧ Rp K H' d tv ∧ BreakOK (RM.rule wd b') n b k d) ∨ (tv = .non ∧ lo < hi ∧ ∃ xl xh o, l[lo]? = some xl ∧ l[hi]? = some xh ∧ (∀ h ∈ whoUp xl k, toldAt (RM.rule wd b') xl k h = some num) ∧ o ≠ some num ∧ ∀ h ∈ whoUp xh k, toldAt (RM.rule wd b') xh k h = o)), ⟨l.length - 1, 0, l.length - 1, q, tv, none, rfl, rfl, e3, ?_⟩, ?_⟩
    · rcases htv with h | ⟨h1, h2, o, h3, h4⟩
      · exact .inl h
      · exact .inr ⟨h1, h2, r, s, o, hfirst, hlast, hr0, h3, h4⟩
    rintro m σ H4 ⟨lo, hi, q4, tv4, am, rfl, rfl, e4, h4⟩
    rcases h4 with ⟨d, ya, rfl, ry, bk⟩ | ⟨rfl, hlh, xl, xh, o, hxl, hxh, hal, ho, hah⟩
    · exact ⟨_, rfl, _, rfl, iteF (iteF ⟨_, rfl, kq _ H4 d e4 ry bk⟩)⟩
    refine ⟨_, rfl, _, rfl, iteT ⟨_, rfl, _, rfl, _, _, rfl, rfl, _, _, rfl, rfl, ?_⟩⟩
    by_cases cw : hi - lo > 1
    · refine ⟨true, dt (by omega), iteT ?_⟩
      have hhl := (List.getElem?_eq_some_iff.mp hxh).1
      obtain ⟨xa, hxa⟩ : ∃ x, l[(lo + hi) / 2]? = some x := ⟨_, List.getElem?_eq_getElem (by omega)⟩
      obtain ⟨va, hva, rva⟩ := at_ _ _ hxa
      have ga : Good n b xa := hP.good xa (List.mem_of_getElem? hxa)
      refine ⟨fun σ' H'' => ∃ m' , m' < hi - lo ∧ ∃ (lo hi : Nat) (q : Addr) (tv : V) (am : Option V), m' = hi - lo ∧ σ' = [some (.ref fa), some (.ref p), some (.int k), some (.int num), some (.int (lo : Nat)), some (.int (hi : Nat)), some (.ref q), some tv, am] ∧ Ex H H'' ∧ ((∃ d a, tv = .ref a ∧ Rp K H'' d tv ∧ BreakOK (RM.rule wd b') n b k d) ∨ (tv = .non ∧ lo < hi ∧ ∃ xl xh o, l[lo]? = some xl ∧ l[hi]? = some xh ∧ (∀ h ∈ whoUp xl k, toldAt (RM.rule wd b') xl k h = some num) ∧ o ≠ some num ∧ ∀ h ∈ whoUp xh k, toldAt (RM.rule wd b') xh k h = o)), fun σ' H'' z => z, ?_⟩
      have pa4 : H4 p = some (.lst xs) := e4 _ _ px
      refine ⟨_, rfl, _, rfl, _, _, rfl, rfl, _, _, (((lo + hi) / 2 : Nat) : Int), rfl, rfl, ⟨by decide, by decide⟩, by omega, ?_⟩
      refine ⟨_, rfl, _, rfl, _, rfl, _, _, _, va, rfl, rfl, SqL.of pa4, atI_nat hva, _, rfl, xa, k, va, fa, wd, b', rfl, hf.up e4, rva.up e4, ga.v, hk2, fun q5 H5 hq5 e5 lq5 => ?_⟩
      have lq5' := lq5
      obtain ⟨ha, has, ewa, ehas⟩ := hd0 xa ga
      rw [etold xa ha has ewa] at lq5'
      have hamem : ha ∈ whoUp xa k := by rw [ewa]; exact List.mem_cons_self
      obtain ⟨xs5, a5, g5, t5⟩ := eT_last lq5'
      have e45 := e4.trans e5
      refine ⟨_, rfl, _, rfl, _, rfl, _, _, _, va, rfl, rfl, SqL.of (e5 _ _ pa4), atI_nat hva, ?_⟩
      dsimp only [tNil]
      have fin : ∀ (tv : V) (H6 : Hp), Ex H5 H6 → ((∃ d a, tv = .ref a ∧ Rp K H6 d tv ∧ BreakOK (RM.rule wd b') n b k d) ∨ (tv = .non ∧ ∃ o, ∀ h ∈ whoUp xa k, toldAt (RM.rule wd b') xa k h = o)) → H6 q5 = some (.lst (.ref a5 :: xs5)) ∧ SqT K H6 a5 [.int ha, oi (toldAt (RM.rule wd b') xa k ha)] := fun tv H6 e6 _ => ⟨e6 _ _ g5, ex_t e6 t5⟩
      refine look xa va H5 q5 _ ga ((rva.up e4).up e5) lq5 ⟨fun o' ho' => ?_, fun y H6 d e6 ry bk ⟨ya, ey⟩ => ?_⟩
      · refine ⟨_, rfl, _, _, 0, _, rfl, rfl, SqL.of g5, atI_nat (j := 0) rfl, _, _, 1, _, rfl, rfl, t5, atI_nat (j := 1) rfl, _, rfl, oi_scal _ (some num), ?_⟩
        have e0 : toldAt (RM.rule wd b') xa k ha = o' := ho' ha hamem
        refine ⟨decide (o' = some num), ?_, ?_⟩
        · show V.bl (decide (oi (toldAt (RM.rule wd b') xa k ha) = oi (some num))) = _
          rw [oi_eq, e0]
        by_cases co : o' = some num
        · rw [decide_eq_true co]
          subst co
          exact iteT ⟨_, rfl, hi - (lo + hi) / 2, by omega, (lo + hi) / 2, hi, q5, .non, some (.int (((lo + hi) / 2 : Nat) : Int)), rfl, rfl, e45, .inr ⟨rfl, by omega, xa, xh, o, hxa, hxh, ho', ho, hah⟩⟩
        · rw [decide_eq_false co]
          exact iteF ⟨_, rfl, (lo + hi) / 2 - lo, by omega, lo, (lo + hi) / 2, q5, .non, some (.int (((lo + hi) / 2 : Nat) : Int)), rfl, rfl, e45, .inr ⟨rfl, by omega, xl, xa, o', hxl, hxa, hal, co, ho'⟩⟩
      · subst ey
        have g56 := e6 _ _ g5
        have t56 := ex_t e6 t5
        refine ⟨_, rfl, _, _, 0, _, rfl, rfl, SqL.of g56, atI_nat (j := 0) rfl, _, _, 1, _, rfl, rfl, t56, atI_nat (j := 1) rfl, _, rfl, oi_scal _ (some num), ?_⟩
        refine ⟨decide (toldAt (RM.rule wd b') xa k ha = some num), ?_, ?_⟩
        · show V.bl (decide (oi (toldAt (RM.rule wd b') xa k ha) = oi (some num))) = _
          rw [oi_eq]
        by_cases co : toldAt (RM.rule wd b') xa k ha = some num
        · rw [decide_eq_true co]
          exact iteT ⟨_, rfl, hi - (lo + hi) / 2, by omega, (lo + hi) / 2, hi, q5, .ref ya, some (.int (((lo + hi) / 2 : Nat) : Int)), rfl, rfl, e45.trans e6, .inl ⟨d, ya, rfl, ry, bk⟩⟩
        · rw [decide_eq_false co]
          exact iteF ⟨_, rfl, (lo + hi) / 2 - lo, by omega, lo, (lo + hi) / 2, q5, .ref ya, some (.int (((lo + hi) / 2 : Nat) : Int)), rfl, rfl, e45.trans e6, .inl ⟨d, ya, rfl, ry, bk⟩⟩
    · have eh : hi = lo + 1 := by omega
      subst eh
      obtain ⟨h, m1, m2, m3⟩ := adj_told (hP.adj lo xl xh hxl hxh) (RM.rule wd b')
      rw [hal h m1, hah h m2] at m3
      exact absurd m3.symm ho
end
end RF

set_option Elab.async false
set_option linter.all false
set_option maxRecDepth 100000
set_option maxHeartbeats 4000000
namespace RF
open PySem PySem.Spec PyProof.Rows L2 Evl RM RC
section
variable {P : Program} {w : World} {K : PySem.W.Frag} {mg : Str → Option Value} {base : Heap}
def sp_broken (K : PySem.W.Frag) : Sp := fun vs H Q _ => ∃ (n b k : Nat) (wd : Word) (f : Addr) (r : Rn) (x : V), vs = [.ref f, x, .int b, .int k] ∧ RuleF H f wd b ∧ Rp K H (eR r) x ∧ Good n b r ∧ b + 2 ≤ n ∧ k ≤ 2 ∧ k + wasteOf r ≤ b ∧ ((∀ h ∈ whoUp r k, toldAt (RM.rule wd b) r k h = none) → ∀ H', Ex H H' → Q .non H') ∧ ∀ y H' d, Ex H H' → (∃ h ∈ whoUp r k, toldAt (RM.rule wd b) r k h ≠ none) → Rp K H' d y → BreakOK (RM.rule wd b) n b k d → Q y H'
abbrev N_broken : List Str := ["rule", "run", "bound", "rounds", "told", "tear", "number"]
theorem sc_broken : FnScope N_broken ["rule", "run", "bound", "rounds"] (defScope s_broken) := ⟨rfl, rfl, rfl, by decide +kernel, rfl, by decide +kernel, by decide +kernel⟩
theorem ok_broken (T : Txt P w K mg base) : Ok P w K mg base "broken" (12 + 1) ["rule", "run", "bound", "rounds"] (sp_broken K) := by
  refine Ok.of T.f_broken sc_broken (fun _ _ _ _ _ _ us hl => match us, hl with | [_, _, _, _], _ => rfl) (fun vs H Q E h => ?_) (fun f cdv A outer s H vs Q E hr h => ?_)
  · obtain ⟨n, b, k, wd, fa, r, x, rfl, hf, hx, hg, bn, hk2, hw, kn, kb⟩ := h
    rfl
  · obtain ⟨n, b, k, wd, fa, r, x, rfl, hf, hx, hg, bn, hk2, hw, kn, kb⟩ := h
    refine ⟨_, (pss_cons (ps_if (pt_not (pt_val (pc (ok_keeps T) hr (pa_cons (pv 1) (pa_cons (pv 2) pa_nil)))))
 pss_never
 pss_nil)
 (pss_cons (ps_if (pt_not (pt_val (pc (ok_is_open T) hr (pa_cons (pv 1) (pa_cons (pv 2) (pa_cons (pv 3) pa_nil))))))
 pss_never
 pss_nil)
 (pss_cons (ps_set (i := 4) sc_broken.nd rfl (by first | exact Or.inl rfl | exact Or.inr rfl) (pc (ok_told_by T) hr (pa_cons (pv 0) (pa_cons (pv 1) (pa_cons (pv 3) pa_nil)))))
 (pss_cons (ps_set (i := 5) sc_broken.nd rfl (by first | exact Or.inl rfl | exact Or.inr rfl) (pc (ok_torn_in T) hr (pa_cons (pv 4) (pa_cons (pv 1) pa_nil))))
 (pss_cons (ps_set (i := 6) sc_broken.nd rfl (by first | exact Or.inl rfl | exact Or.inr rfl) (pe_ix (ixT (K := K) rfl) (pe_ix (ixL (K := K) rfl) (pv 4) pe_int (fun _ _ => rfl)) pe_int (fun _ _ => rfl)))
 (pss_cons (ps_if (PW.pt (pw_or (pt_cmp (pc_notN (pv 5))) (pw_or1 (pt_cmp (pc_isN (pv 6))))))
 (pss_one (ps_ret (pv 5)))
 pss_nil)
 (pss_one (ps_ret (pc (ok_halved T) hr (pa_cons (pv 0) (pa_cons (pc (ok_chain_of T) hr (pa_cons (pv 1) (pa_cons (pv 2) (pa_cons (pv 3) (pa_cons (pe_op (opRepT (K := K) rfl) (peTup (pa_cons (pe_callTy call_int1 (by rfl) T.n_int bt_int (pa_cons (pe_cmpR op_eq (pv 6) pe_int (by first | rfl | exact nomark _)) pa_nil)) pa_nil)) (pc (ok_many_hands T) hr (pa_cons (pv 1) pa_nil))) pa_nil))))) (pa_cons (pv 3) (pa_cons (pv 6) pa_nil))))))))))))), ?_⟩
    have h4 := hg.v.hi
    have hn := hg.n
    have hb := hg.b
    refine ⟨_, rfl, _, rfl, r, b, x, rfl, hx, by omega, hb, _, rfl, iteF ?_⟩
    refine ⟨_, rfl, _, rfl, _, rfl, r, b, k, x, rfl, hx, hg.v, by omega, hb, hw, fun H1 e1 => ⟨_, rfl, iteF ?_⟩⟩
    refine ⟨_, rfl, _, rfl, _, rfl, r, k, x, fa, wd, b, rfl, hf.up e1, hx.up e1, hg.v, hk2, fun q H2 hq e2 lq => ?_⟩
    have e12 := e1.trans e2
    obtain ⟨h0, hs, ew, ehs⟩ := who_cons hg bn k
    have h0mem : h0 ∈ whoUp r k := by rw [ew]; exact List.mem_cons_self
    have etold : toldBy (RM.rule wd b) r k = (h0, toldAt (RM.rule wd b) r k h0) :: hs.map fun h => (h, toldAt (RM.rule wd b) r k h) := by
      unfold toldBy
      rw [ew]
      rfl
    rw [etold] at lq
    obtain ⟨xs1, a1, g1, t1⟩ := eT_last lq
    refine ⟨_, rfl, _, rfl, q, _, _, r, x, rfl, lq, hx.up e12, fun hall => ?_, fun t ht hne y H3 e3 ry => ?_⟩
    · have all : ∀ h ∈ whoUp r k, toldAt (RM.rule wd b) r k h = toldAt (RM.rule wd b) r k h0 := fun h hh => by
        rw [ew] at hh
        rcases List.mem_cons.mp hh with z | z
        · rw [z]
        · exact hall (h, toldAt (RM.rule wd b) r k h) (List.mem_map.mpr ⟨h, z, rfl⟩)
      refine ⟨_, rfl, _, _, 0, _, rfl, rfl, SqL.of g1, atI_nat (j := 0) rfl, _, _, 1, _, rfl, rfl, t1, atI_nat (j := 1) rfl, ?_⟩
      refine ⟨_, rfl, _, rfl, iteF ?_⟩
      cases eo : toldAt (RM.rule wd b) r k h0 with
      | none =>
        refine ⟨_, rfl, _, rfl, iteT ⟨_, rfl, kn (fun h hh => by rw [all h hh, eo]) H2 e12⟩⟩
      | some num =>
        refine ⟨_, rfl, _, rfl, iteF ?_⟩
        refine ⟨_, rfl, _, rfl, _, rfl, _, rfl, _, rfl, rfl, .inr ⟨decide (num = 0), ?_, by show 1 ≤ 1000; decide, fun t2 H3 ht2 e3 g3 => ?_⟩⟩
        · show [V.bl (decide (V.int num = V.int 0))] = _
          rw [dec_int]
          by_cases z : num = 0
          · subst z; rfl
          · rw [decide_eq_false z, beq_eq_false_iff_ne.mpr z]
        have e13 := e12.trans e3
        have hlo := hg.v.lo
        refine ⟨_, rfl, r, x, rfl, hx.up e13, t2, r.1.length, _, rfl, rfl, st_of g3, by simp, by omega, by omega, by show 1 ≤ 1000; decide, fun u hu => ?_⟩
        have e4 : Ex H3 (upd H3 u (.tup (List.replicate ((r.1.length : Nat) : Int).toNat [V.int (if decide (num = 0) = true then 1 else 0)]).flatten)) := Ex.new hu
        have g4 : (upd H3 u (.tup (List.replicate ((r.1.length : Nat) : Int).toNat [V.int (if decide (num = 0) = true then 1 else 0)]).flatten)) u = some (.tup ((List.replicate n (if decide (num = 0) = true then (1 : Int) else 0)).map V.int)) := by
          rw [upd_same, Int.toNat_natCast, hn]
          congr 2
          rw [List.map_replicate]
          have : ∀ (m : Nat) (v : V), (List.replicate m [v]).flatten = List.replicate m v := by
            intro m v
            induction m with
            | zero => rfl
            | succ m ih => rw [List.replicate_succ, List.flatten_cons, ih]; rfl
          exact this _ _
        generalize upd H3 u (.tup (List.replicate ((r.1.length : Nat) : Int).toNat [V.int (if decide (num = 0) = true then 1 else 0)]).flatten) = H4 at e4 g4
        have e14 := e13.trans e4
        have hcb : ∀ z ∈ List.replicate n (if decide (num = 0) = true then (1 : Int) else 0), z.natAbs < 10 ^ 60 := fun z hz => by
          rw [(List.mem_replicate.mp hz).2]
          split <;> decide
        refine ⟨n, b, k, r, List.replicate n (if decide (num = 0) = true then (1 : Int) else 0), x, _, rfl, hx.up e14, .tup (st_of g4) (RpL.ints _), hg, List.length_replicate, hcb, bn, hk2, hw, fun p H5 l hp e5 lr pth ll => ?_⟩
        refine ⟨_, rfl, _, rfl, n, b, k, b, wd, fa, p, l, r, _, num, (if decide (num = 0) = true then (1 : Int) else 0), rfl, hf.up (e14.trans e5), lr, pth, fun h hh => by rw [all h hh, eo], rfl, ?_, hk2, bn, by omega, fun y H6 d e6 ry bk => kb y H6 d ((e14.trans e5).trans e6) ⟨h0, h0mem, by rw [eo]; simp⟩ ry bk⟩
        by_cases z : num = 0
        · rw [decide_eq_true z, z]; decide
        · rw [decide_eq_false z]
          exact fun y => z y.symm
    · obtain ⟨h, hh, rfl⟩ := List.mem_map.mp ht
      obtain ⟨ya, _, rfl, _⟩ := Rp.tup_iff.mp ry
      refine ⟨_, rfl, _, _, 0, _, rfl, rfl, SqL.of (e3 _ _ g1), atI_nat (j := 0) rfl, _, _, 1, _, rfl, rfl, ex_t e3 t1, atI_nat (j := 1) rfl, ?_⟩
      refine ⟨_, rfl, _, rfl, iteT (iteT ⟨_, rfl, ?_⟩)⟩
      refine kb _ H3 _ (e12.trans e3) ?_ ry (.inl ⟨r, h0, h, rfl, hg, ehs h hh, h0mem, by rw [ew]; exact List.mem_cons_of_mem _ hh, fun z => hne z.symm⟩)
      by_cases z : toldAt (RM.rule wd b) r k h0 = none
      · exact ⟨h, by rw [ew]; exact List.mem_cons_of_mem _ hh, fun y => hne (y.trans z.symm)⟩
      · exact ⟨h0, h0mem, z⟩
end
end RF

set_option Elab.async false
set_option linter.all false
set_option maxRecDepth 100000
namespace RF
open PySem PySem.Spec PyProof.Rows L2 Evl RM TL NumText
/-- a number's text -/
abbrev zS (i : Int) : Str := Str.ofString (toString i)
def zL (i : Int) : List Nat := if i < 0 then 45 :: numL i.natAbs else numL i.natAbs
theorem tl_z (i : Int) : tl (zS i) = zL i := by
  unfold zL
  by_cases h : i < 0
  · rw [if_pos h]
    obtain ⟨m, rfl⟩ : ∃ m : Nat, i = Int.negSucc m := ⟨i.natAbs - 1, by omega⟩
    have e : toString (Int.negSucc m) = "-" ++ toString (((m + 1 : Nat) : Int)) := rfl
    unfold zS
    rw [e]
    have e2 := tl_num (m + 1)
    rw [tl_ofString] at e2 ⊢
    rw [String.toList_append, List.map_append, e2]
    rfl
  · rw [if_neg h]
    obtain ⟨m, rfl⟩ : ∃ m : Nat, i = (m : Int) := ⟨i.toNat, by omega⟩
    exact tl_num m
theorem z_len {i : Int} (h : i.natAbs < 10 ^ 60) : (numL i.natAbs).length ≤ 60 := numL_len (by decide) h
theorem zL_len {i : Int} (h : i.natAbs < 10 ^ 60) : (zL i).length ≤ 61 := by
  have := z_len h
  unfold zL
  split
  · rw [List.length_cons]; omega
  · omega
theorem z_int {i : Int} (h : i.natAbs < 10 ^ 60) : intText? (zS i) = some i := by
  have hl := z_len h
  by_cases c : i < 0
  · have e := tl_z i
    unfold zL at e
    rw [if_pos c] at e
    have := intText_neg (x := zS i) (cs := numL i.natAbs) e (numL_digits _) (numL_ne _) (by rw [len_tl, e, List.length_cons]; omega)
    rw [this, numL_val]
    congr 1
    omega
  · have e := tl_z i
    unfold zL at e
    rw [if_neg c] at e
    have := intText_digits (x := zS i) (by rw [show (zS i).cps.toList = numL i.natAbs from e]; exact numL_digits _) (by rw [show (zS i).cps.toList = numL i.natAbs from e]; exact numL_ne _) (by rw [len_tl, e]; omega)
    rw [this, show (zS i).cps.toList = numL i.natAbs from e, numL_val]
    congr 1
    omega
theorem z_log {i : Int} (h : i.natAbs < 10 ^ 60) : i.natAbs.log2 < 1920 := by
  by_cases z : i.natAbs = 0
  · rw [z]; decide
  · refine (Nat.log2_lt z).mpr (Nat.lt_of_lt_of_le h ?_)
    calc 10 ^ 60 ≤ 16 ^ 60 := Nat.pow_le_pow_left (by decide) 60
      _ = 2 ^ 240 := by rw [show (16 : Nat) = 2 ^ 4 from rfl, ← Nat.pow_mul]
      _ ≤ 2 ^ 1920 := Nat.pow_le_pow_right (by decide) (by decide)
theorem n_log {i : Nat} (h : i < 1000000) : ((i : Int)).natAbs.log2 < 1920 := z_log (by
  rw [Int.natAbs_natCast]
  exact Nat.lt_of_lt_of_le h (by decide))
theorem z_free {i : Int} {s : Nat} (h : s < 45 ∨ (45 < s ∧ s < 48) ∨ 57 < s) : s ∉ zL i := by
  unfold zL
  have hn : s ∉ numL i.natAbs := numL_free (by omega)
  split
  · intro z
    rcases List.mem_cons.mp z with e | e
    · omega
    · exact hn e
  · exact hn
/-- the first figure is a nought only of nought -/
theorem numL_head {n : Nat} (h : 0 < n) : ∀ c r, numL n = c :: r → c ≠ 48 := by
  induction n using Nat.strongRecOn with
  | _ n ih =>
    intro c r e
    by_cases c10 : n < 10
    · rw [numL_lt c10] at e
      injection e with e1 _
      omega
    · rw [numL_step (by omega)] at e
      cases en : numL (n / 10) with
      | nil => exact absurd en (numL_ne _)
      | cons d t =>
        rw [en] at e
        injection e with e1 _
        rw [← e1]
        exact ih (n / 10) (by omega) (by omega) d t en
theorem numL_0 : numL 0 = [48] := numL_lt (by decide)
/-! ### a fall's text -/
def showF (f : Fall) : Str := zS f.1 ++ "@" ++ zS f.2.1 ++ ">" ++ Str.join "" ((handsIn f.2.2).map fun h => zS (h : Nat))
def wordsR (r : Rn) : List Str := (r.1.map zS) ++ [("/" : Str)] ++ r.2.map showF
def showR (r : Rn) : Str := Str.join " " (wordsR r)
theorem joinL_nil : ∀ l : List (List Nat), joinL [] l = l.flatten
  | [] => rfl
  | [p] => by simp [joinL]
  | p :: q :: r => by
    show p ++ ([] ++ joinL [] (q :: r)) = _
    rw [joinL_nil (q :: r)]
    rfl
theorem hands_text (m : Nat) : tl (Str.join "" ((handsIn m).map fun h => zS (h : Nat))) = (handsIn m).map fun h => 48 + h := by
  rw [tl_join, show tl ("" : Str) = [] from rfl, joinL_nil, List.map_map]
  have : ∀ l : List Nat, (∀ h ∈ l, h < 10) → (l.map (tl ∘ fun h => zS (h : Nat))).flatten = l.map fun h => 48 + h := by
    intro l
    induction l with
    | nil => intro _; rfl
    | cons a l ih =>
      intro h
      rw [List.map_cons, List.flatten_cons, ih fun x hx => h x (List.mem_cons_of_mem _ hx)]
      show tl (zS (a : Nat)) ++ _ = _
      rw [show tl (zS (a : Nat)) = numL a from tl_num a, numL_lt (h a List.mem_cons_self)]
      rfl
  exact this _ fun h hh => by have := (handsIn_mem.mp hh).1; omega
theorem tl_showF {f : Fall} (h1 : f.1 < 10) (h2 : f.2.1 < 10) : tl (showF f) = (48 + f.1) :: 64 :: (48 + f.2.1) :: 62 :: ((handsIn f.2.2).map fun h => 48 + h) := by
  unfold showF
  rw [tl_append, tl_append, tl_append, tl_append, hands_text, show tl (zS (f.1 : Nat)) = numL f.1 from tl_num f.1, show tl (zS (f.2.1 : Nat)) = numL f.2.1 from tl_num f.2.1, numL_lt h1, numL_lt h2]
  rfl
theorem handsIn5 (m : Nat) : ∀ h ∈ handsIn m, h < 5 := fun h hh => (handsIn_mem.mp hh).1
theorem valid_small {r : Rn} (v : Valid r) : ∀ f ∈ r.2, f.1 < 10 ∧ f.2.1 < 10 ∧ f.2.2 < 32 := fun f hf => by
  have h := v.fin f hf
  have h4 := v.hi
  have h2 : 2 ^ r.1.length ≤ 2 ^ 4 := Nat.pow_le_pow_right (by decide) h4
  omega
theorem words_ok {r : Rn} (v : Valid r) : ∀ w ∈ wordsR r, 32 ∉ tl w ∧ (tl w).length ≤ 61 := fun w hw => by
  unfold wordsR at hw
  rw [List.append_assoc] at hw
  rcases List.mem_append.mp hw with h | h
  · obtain ⟨i, hi, rfl⟩ := List.mem_map.mp h
    rw [tl_z]
    exact ⟨z_free (by omega), zL_len (v.num i hi)⟩
  rcases List.mem_append.mp h with h | h
  · rw [List.mem_singleton.mp h]
    exact ⟨by decide, by decide⟩
  · obtain ⟨f, hf, rfl⟩ := List.mem_map.mp h
    obtain ⟨h1, h2, h3⟩ := valid_small v f hf
    rw [tl_showF h1 h2]
    refine ⟨fun z => ?_, ?_⟩
    · simp only [List.mem_cons, List.mem_map] at z
      rcases z with z | z | z | z | ⟨a, _, z⟩ <;> omega
    · have := handsIn_len f.2.2
      simp only [List.length_cons, List.length_map]
      omega
theorem split_show {r : Rn} (v : Valid r) : Txt.split (showR r) " " = wordsR r := by
  unfold showR
  rw [← join_eq]
  exact split_join (s := 32) (S := []) rfl (by decide +kernel) (by unfold wordsR; simp) fun p hp => (words_ok v p hp).1
theorem joinL_len : ∀ (l : List (List Nat)) (B : Nat), (∀ p ∈ l, p.length ≤ B) → (joinL [32] l).length ≤ l.length * (B + 1)
  | [], _, _ => by simp [joinL]
  | [p], B, h => by
    have := h p List.mem_cons_self
    show p.length ≤ 1 * (B + 1)
    omega
  | p :: q :: r, B, h => by
    have h1 := h p List.mem_cons_self
    have h2 := joinL_len (q :: r) B fun x hx => h x (List.mem_cons_of_mem _ hx)
    show (p ++ ([32] ++ joinL [32] (q :: r))).length ≤ _
    rw [List.length_append, List.length_append, List.length_singleton, List.length_cons, Nat.add_mul]
    omega
theorem show_len {r : Rn} (v : Valid r) (hf : r.2.length ≤ 4) : (showR r).length ≤ 1000 := by
  rw [len_tl]
  unfold showR
  rw [tl_join, show tl (" " : Str) = [32] from rfl]
  have h1 := joinL_len ((wordsR r).map tl) 61 fun p hp => by
    obtain ⟨w, hw, rfl⟩ := List.mem_map.mp hp
    exact (words_ok v w hw).2
  have h2 : ((wordsR r).map tl).length ≤ 9 := by
    unfold wordsR
    have := v.hi
    simp only [List.length_map, List.length_append, List.length_singleton]
    omega
  have := Nat.mul_le_mul_right 62 h2
  omega
theorem words_slash {r : Rn} : ("/" : Str) ∈ wordsR r := by unfold wordsR; simp
theorem z_ne_slash (i : Int) : zS i ≠ ("/" : Str) := fun h => by
  have e := congrArg tl h
  rw [tl_z] at e
  have h1 : (47 : Nat) ∈ zL i := by rw [e]; decide
  exact z_free (by omega) h1
end RF

set_option Elab.async false
set_option linter.all false
set_option maxRecDepth 100000
set_option maxHeartbeats 4000000
namespace RF
open PySem PySem.Spec PyProof.Rows L2 Evl RM RC TL
theorem z_small {n : Nat} (h : n < 10) : (zS (n : Nat)).length = 1 := by
  rw [len_tl, show tl (zS (n : Nat)) = numL n from tl_num n, numL_lt h]
  rfl
theorem len_app (a b : Str) : (a ++ b).length = a.length + b.length := by
  rw [len_tl, len_tl, len_tl, tl_append, List.length_append]
theorem join_hands_len (m : Nat) : (Str.join "" ((handsIn m).map fun h => zS (h : Nat))).length ≤ 5 := by
  rw [len_tl, hands_text, List.length_map]
  exact handsIn_len m
theorem strs_len {l : List Str} {B n : Nat} (h : ∀ x ∈ l, x.length ≤ B) (hn : l.length ≤ n) : (l.map (·.length)).sum ≤ n * B := by
  have : ∀ l : List Str, (∀ x ∈ l, x.length ≤ B) → (l.map (·.length)).sum ≤ l.length * B := by
    intro l
    induction l with
    | nil => intro _; simp
    | cons a l ih =>
      intro h
      have h1 := ih fun x hx => h x (List.mem_cons_of_mem _ hx)
      have h2 := h a List.mem_cons_self
      rw [List.map_cons, List.sum_cons, List.length_cons, Nat.add_mul]
      omega
  exact Nat.le_trans (this l h) (Nat.mul_le_mul_right B hn)
theorem words_len {r : Rn} (v : Valid r) (hf : r.2.length ≤ 4) : (wordsR r).length ≤ 9 ∧ ((wordsR r).map (·.length)).sum + (wordsR r).length * (" " : Str).length ≤ 1000 := by
  have h1 : (wordsR r).length ≤ 9 := by
    unfold wordsR
    have := v.hi
    simp only [List.length_map, List.length_append, List.length_singleton]
    omega
  have h2 := strs_len (l := wordsR r) (B := 61) (fun x hx => by rw [len_tl]; exact (words_ok v x hx).2) h1
  have h3 : (" " : Str).length = 1 := by decide +kernel
  rw [h3]
  omega
section
variable {P : Program} {w : World} {K : PySem.W.Frag} {mg : Str → Option Value} {base : Heap}
def sp_show_fall (K : PySem.W.Frag) : Sp := fun vs H Q _ => ∃ (f : Fall) (x : V), vs = [x] ∧ Rp K H (eF f) x ∧ f.1 < 10 ∧ f.2.1 < 10 ∧ ∀ H', Ex H H' → Q (.str (showF f)) H'
abbrev N_show_fall : List Str := ["fall", "hand", "at", "reached", "other"]
theorem sc_show_fall : FnScope N_show_fall ["fall"] (defScope s_show_fall) := ⟨rfl, rfl, rfl, by decide +kernel, rfl, by decide +kernel, by decide +kernel⟩
theorem ok_show_fall (T : Txt P w K mg base) : Ok P w K mg base "show_fall" (2 + 1) ["fall"] (sp_show_fall K) := by
  refine Ok.of T.f_show_fall sc_show_fall (fun _ _ _ _ _ _ us hl => match us, hl with | [_], _ => rfl) (fun vs H Q E h => ?_) (fun f cdv A outer s H vs Q E hr h => ?_)
  · obtain ⟨f', x, rfl, hx, h1, h2, kq⟩ := h
    rfl
  · obtain ⟨f', x, rfl, hx, h1, h2, kq⟩ := h
    refine ⟨_, (pss_cons (ps_asg (pv 0) (pgTup (K := K) (n := 3) rfl rfl (pgs_cons (pg_name (i := 1) sc_show_fall.nd rfl (by first | exact Or.inl rfl | exact Or.inr rfl)) (pgs_cons (pg_name (i := 2) sc_show_fall.nd rfl (by first | exact Or.inl rfl | exact Or.inr rfl)) (pgs_cons (pg_name (i := 3) sc_show_fall.nd rfl (by first | exact Or.inl rfl | exact Or.inr rfl)) pgs_nil)))))
 (pss_one (ps_ret (pe_op op_add_str (pe_op op_add_str (pe_op op_add_str (pe_op op_add_str (pe_callTy call_str_int (by rfl) T.n_str bt_str (pa_cons (pv 1) pa_nil)) pe_str) (pe_callTy call_str_int (by rfl) T.n_str bt_str (pa_cons (pv 2) pa_nil))) pe_str) (pe_join pe_str (pe_lc (own := [("other", 4)]) rfl sc_show_fall.nd (piL (K := K) rfl (pc (ok_hands_in T) hr (pa_cons (pv 3) pa_nil))) (blkOk_by (N := N_show_fall) (sc := defScope s_show_fall) (own := [("other", 4)]) (by decide +kernel)) (fun _ _ _ _ _ => (pg_name (i := 4) sc_show_fall.nd rfl (by first | exact Or.inl rfl | exact Or.inr rfl))) (fun _ _ _ _ _ => pts_nil) (fun _ _ _ _ _ => (pe_callTy call_str_int (by rfl) T.n_str bt_str (pa_cons (pv 4) pa_nil))))))))), ?_⟩
    obtain ⟨a, rfl, g⟩ := fall_get hx
    refine ⟨_, rfl, a, _, rfl, g, rfl, _, _, rfl, _, _, rfl, _, _, rfl, rfl, ?_⟩
    refine ⟨_, rfl, _, rfl, n_log (by omega), _, _, rfl, rfl, sz_of (by show (zS (f'.1 : Nat)).length + 1 ≤ 100000; rw [z_small h1]; omega), ?_⟩
    refine ⟨_, rfl, _, rfl, n_log (by omega), _, _, rfl, rfl, sz_of (by show (zS (f'.1 : Nat) ++ "@").length + (zS (f'.2.1 : Nat)).length ≤ 100000; rw [len_app, z_small h1, z_small h2]; show 1 + 1 + 1 ≤ 100000; omega), ?_⟩
    refine ⟨_, _, rfl, rfl, sz_of (by show (zS (f'.1 : Nat) ++ "@" ++ zS (f'.2.1 : Nat)).length + 1 ≤ 100000; rw [len_app, len_app, z_small h1, z_small h2]; show 1 + 1 + 1 + 1 ≤ 100000; omega), ?_⟩
    refine ⟨⟨_, rfl⟩, _, rfl, f'.2.2, rfl, fun p H1 hp e1 gp => ⟨p, rfl, ⟨_, SqL.of gp⟩, fun Dl hD => ?_⟩⟩
    refine lc_list (K := K) (a := p) (xs := (handsIn f'.2.2).map fun h => V.int (h : Nat)) (fun i H' => Ex H1 H' ∧ H' Dl = some (.lst ((((handsIn f'.2.2).take i).map fun h => zS (h : Nat)).map V.str))) ⟨Ex.new hD, upd_same⟩ (fun i H' _ ⟨e, _⟩ => SqL.of (e _ _ gp)) (fun i y H' hi ⟨e2, g2⟩ => ?_) (fun H' ⟨e2, g2⟩ => ?_)
    · rw [List.getElem?_map] at hi
      obtain ⟨h, hh, rfl⟩ := Option.map_eq_some_iff.mp hi
      have h5 := handsIn5 _ h (List.mem_of_getElem? hh)
      have hl := handsIn_len f'.2.2
      refine ⟨rfl, _, rfl, _, rfl, n_log (by omega), _, g2, sz_lt (by rw [List.length_map, List.length_map, List.length_take]; omega), e2.mut hD, ?_⟩
      rw [upd_same, List.take_add_one, hh, Option.toList_some, List.map_append, List.map_append]
      rfl
    · rw [List.length_map, List.take_length] at g2
      have hl := join_hands_len f'.2.2
      refine ⟨_, Dl, (handsIn f'.2.2).map fun h => zS (h : Nat), rfl, rfl, .inl (SqL.of g2), ?_, ?_⟩
      · have h1 := strs_len (l := (handsIn f'.2.2).map fun h => zS (h : Nat)) (B := 1) (n := 5) (fun x hx => by
          obtain ⟨h, hh, rfl⟩ := List.mem_map.mp hx
          have h5 := handsIn5 _ h hh
          rw [z_small (by omega)]
          exact Nat.le_refl _) (by rw [List.length_map]; exact handsIn_len _)
        have h2 : ("" : Str).length = 0 := by decide +kernel
        rw [h2]
        omega
      · refine ⟨_, _, rfl, rfl, sz_of ?_, ?_⟩
        · show (zS (f'.1 : Nat) ++ "@" ++ zS (f'.2.1 : Nat) ++ ">").length + (Txt.join "" _).length ≤ 100000
          rw [join_eq, len_app, len_app, len_app, z_small h1, z_small h2]
          show 1 + 1 + 1 + 1 + _ ≤ 100000
          omega
        · have := kq H' (e1.trans e2)
          show Q (.str (zS (f'.1 : Nat) ++ "@" ++ zS (f'.2.1 : Nat) ++ ">" ++ Txt.join "" ((handsIn f'.2.2).map fun h => zS (h : Nat)))) H'
          rw [join_eq]
          exact this
def sp_show_run (K : PySem.W.Frag) : Sp := fun vs H Q _ => ∃ (r : Rn) (x : V), vs = [x] ∧ Rp K H (eR r) x ∧ Valid r ∧ ∀ H', Ex H H' → Q (.str (showR r)) H'
abbrev N_show_run : List Str := ["run", "words", "number", "fall"]
theorem sc_show_run : FnScope N_show_run ["run"] (defScope s_show_run) := ⟨rfl, rfl, rfl, by decide +kernel, rfl, by decide +kernel, by decide +kernel⟩
theorem ok_show_run (T : Txt P w K mg base) : Ok P w K mg base "show_run" (3 + 1) ["run"] (sp_show_run K) := by
  refine Ok.of T.f_show_run sc_show_run (fun _ _ _ _ _ _ us hl => match us, hl with | [_], _ => rfl) (fun vs H Q E h => ?_) (fun f cdv A outer s H vs Q E hr h => ?_)
  · obtain ⟨r, x, rfl, hx, hv, kq⟩ := h
    rfl
  · obtain ⟨r, x, rfl, hx, hv, kq⟩ := h
    refine ⟨_, (pss_cons (ps_set (i := 1) sc_show_run.nd rfl (by first | exact Or.inl rfl | exact Or.inr rfl) (pe_op opCatL (pe_op opCatL (pe_lc (own := [("number", 2)]) rfl sc_show_run.nd (piT (K := K) rfl (pe_ix (ixT (K := K) rfl) (pv 0) pe_int (fun _ _ => rfl))) (blkOk_by (N := N_show_run) (sc := defScope s_show_run) (own := [("number", 2)]) (by decide +kernel)) (fun _ _ _ _ _ => (pg_name (i := 2) sc_show_run.nd rfl (by first | exact Or.inl rfl | exact Or.inr rfl))) (fun _ _ _ _ _ => pts_nil) (fun _ _ _ _ _ => (pe_callTy call_str_int (by rfl) T.n_str bt_str (pa_cons (pv 2) pa_nil)))) (peLst (pa_cons pe_str pa_nil))) (pe_lc (own := [("fall", 3)]) rfl sc_show_run.nd (piT (K := K) rfl (pe_ix (ixT (K := K) rfl) (pv 0) pe_int (fun _ _ => rfl))) (blkOk_by (N := N_show_run) (sc := defScope s_show_run) (own := [("fall", 3)]) (by decide +kernel)) (fun _ _ _ _ _ => (pg_name (i := 3) sc_show_run.nd rfl (by first | exact Or.inl rfl | exact Or.inr rfl))) (fun _ _ _ _ _ => pts_nil) (fun _ _ _ _ _ => (pc (ok_show_fall T) hr (pa_cons (pv 3) pa_nil))))))
 (pss_one (ps_ret (pe_join pe_str (pv 1))))), ?_⟩
    have h4 := hv.hi
    have fl4 := falls_len hv
    obtain ⟨a, pn, pf, fs, rfl, h1, h2, h3, h5⟩ := run_get hx
    have fl := h5.len
    rw [List.length_map] at fl
    refine ⟨_, rfl, _, _, 0, _, rfl, rfl, h1, atI_nat (j := 0) rfl, pn, rfl, ⟨_, h2⟩, fun D1 hD1 => ?_⟩
    refine lc_tup (K := K) (a := pn) (xs := r.1.map V.int) (fun i H' => Ex H H' ∧ H' D1 = some (.lst (((r.1.take i).map zS).map V.str))) ⟨Ex.new hD1, upd_same⟩ (fun i H' _ ⟨e, _⟩ => ex_t e h2) (fun i y H' hi ⟨e2, g2⟩ => ?_) (fun H1 ⟨e1, g1⟩ => ?_)
    · rw [List.getElem?_map] at hi
      obtain ⟨z, hz, rfl⟩ := Option.map_eq_some_iff.mp hi
      have hzl := hv.num z (List.mem_of_getElem? hz)
      refine ⟨rfl, _, rfl, _, rfl, z_log hzl, _, g2, sz_lt (by rw [List.length_map, List.length_map, List.length_take]; omega), e2.mut hD1, ?_⟩
      rw [upd_same, List.take_add_one, hz, Option.toList_some, List.map_append, List.map_append]
      rfl
    rw [List.length_map, List.take_length] at g1
    refine ⟨by show 1 ≤ 1000; decide, fun l2 H2 hl2 e2 g2 => ?_⟩
    refine ⟨D1, l2, _, _, rfl, rfl, e2 _ _ g1, g2, by simp; omega, fun p3 H3 hp3 e3 g3 => ?_⟩
    have e13 := (e1.trans e2).trans e3
    refine ⟨_, rfl, _, _, 1, _, rfl, rfl, ex_t e13 h1, atI_nat (j := 1) rfl, pf, rfl, ⟨_, ex_t e13 h3⟩, fun D4 hD4 => ?_⟩
    refine lc_tup (K := K) (a := pf) (xs := fs) (fun i H' => Ex H3 H' ∧ H' D4 = some (.lst (((r.2.take i).map showF).map V.str))) ⟨Ex.new hD4, upd_same⟩ (fun i H' _ ⟨e, _⟩ => ex_t (e13.trans e) h3) (fun i y H' hi ⟨e4, g4⟩ => ?_) (fun H4 ⟨e4, g4⟩ => ?_)
    · obtain ⟨d, hd, rd⟩ := h5.get' hi
      rw [List.getElem?_map] at hd
      obtain ⟨f', hf, rfl⟩ := Option.map_eq_some_iff.mp hd
      obtain ⟨q1, q2, q3⟩ := valid_small hv f' (List.mem_of_getElem? hf)
      refine ⟨rfl, _, rfl, f', y, rfl, rd.up (e13.trans e4), q1, q2, fun H5 e5 => ?_⟩
      refine ⟨_, e5 _ _ g4, sz_lt (by rw [List.length_map, List.length_map, List.length_take]; omega), (e4.trans e5).mut hD4, ?_⟩
      rw [upd_same, List.take_add_one, hf, Option.toList_some, List.map_append, List.map_append]
      rfl
    rw [fl, List.take_length] at g4
    refine ⟨p3, D4, _, _, rfl, rfl, e4 _ _ g3, g4, by simp; omega, fun p5 H5 hp5 e5 g5 => ?_⟩
    have hw : (List.map V.str (List.map zS r.1) ++ [V.str "/"] ++ List.map V.str (List.map showF r.2)) = (wordsR r).map V.str := by
      unfold wordsR
      rw [List.map_append, List.map_append]
      rfl
    rw [hw] at g5
    obtain ⟨w1, w2⟩ := words_len hv fl4
    refine ⟨⟨_, rfl⟩, _, rfl, _, p5, wordsR r, rfl, rfl, .inl (SqL.of g5), by omega, ?_⟩
    have := kq H5 ((e13.trans e4).trans e5)
    show Q (.str (Txt.join " " (wordsR r))) H5
    rw [join_eq]
    exact this
theorem cutS_to (z : Str) (n : Nat) : tl (cutS z none (some (n : Int))) = (tl z).take n := by
  show ((tl z).drop (HT.sIx z.length 0 none)).take (HT.sIx z.length z.length (some (n : Int)) - HT.sIx z.length 0 none) = _
  rw [HT.sIx_none, HT.sIx_nat, List.drop_zero, Nat.sub_zero]
  rw [List.take_eq_take_iff, len_tl]
  omega
theorem cutS_from (z : Str) (n : Nat) : tl (cutS z (some (n : Int)) none) = (tl z).drop n := by
  show ((tl z).drop (HT.sIx z.length 0 (some (n : Int)))).take (HT.sIx z.length z.length none - HT.sIx z.length 0 (some (n : Int))) = _
  rw [HT.sIx_none, HT.sIx_nat, len_tl]
  by_cases h : n ≤ (tl z).length
  · rw [Nat.min_eq_left h, List.take_of_length_le (by rw [List.length_drop]; omega)]
  · rw [Nat.min_eq_right (by omega), List.drop_length, List.drop_of_length_le (by omega)]; simp
theorem str_eq (a b : Str) : decide (V.str a = V.str b) = decide (tl a = tl b) := by
  by_cases h : a = b
  · subst h; simp
  · rw [decide_eq_false (fun z => h (by injection z)), decide_eq_false (fun z => h (ext_tl z))]
/-- the figures of a number's text -/
theorem zL_cases (i : Int) : (i < 0 ∧ zL i = 45 :: numL i.natAbs) ∨ (0 ≤ i ∧ zL i = numL i.natAbs) := by
  unfold zL
  by_cases h : i < 0
  · exact .inl ⟨h, if_pos h⟩
  · exact .inr ⟨by omega, if_neg h⟩
theorem fig_mem {c : Nat} (h : 48 ≤ c ∧ c ≤ 57) : c ∈ ("0123456789" : Str).cps.toList := by
  have e : ("0123456789" : Str).cps.toList = [48, 49, 50, 51, 52, 53, 54, 55, 56, 57] := by decide +kernel
  rw [e]
  simp only [List.mem_cons, List.not_mem_nil, or_false]
  omega
def sp_read_number (K : PySem.W.Frag) : Sp := fun vs H Q _ => ∃ (i : Int), vs = [.str (zS i)] ∧ i.natAbs < 10 ^ 60 ∧ Q (.int i) H
abbrev N_read_number : List Str := ["text", "figures", "sign"]
theorem sc_read_number : FnScope N_read_number ["text"] (defScope s_read_number) := ⟨rfl, rfl, rfl, by decide +kernel, rfl, by decide +kernel, by decide +kernel⟩
theorem ok_read_number (T : Txt P w K mg base) : Ok P w K mg base "read_number" (0 + 1) ["text"] (sp_read_number K) := by
  refine Ok.of T.f_read_number sc_read_number (fun _ _ _ _ _ _ us hl => match us, hl with | [_], _ => rfl) (fun vs H Q E h => ?_) (fun f cdv A outer s H vs Q E hr h => ?_)
  · obtain ⟨i, rfl, hi, kq⟩ := h
    rfl
  · obtain ⟨i, rfl, hi, kq⟩ := h
    refine ⟨_, (pss_cons (ps_set (i := 1) sc_read_number.nd rfl (by first | exact Or.inl rfl | exact Or.inr rfl) (pv 0))
 (pss_cons (ps_cut (ps_if (pt_cmpR op_eq (pe_slice sl_str (pv 0) po_none (po_some pe_int)) pe_str (by first | rfl | exact nomark _))
 (pss_one (ps_set (i := 1) sc_read_number.nd rfl (by first | exact Or.inl rfl | exact Or.inr rfl) (pe_slice sl_str (pv 0) (po_some pe_int) po_none)))
 pss_nil))
 (pss_cons (ps_if (PW.pt (pw_or (pt_cmpR op_eq (pe_callB call_len_str (by rfl) T.n_len bt_len (pa_cons (pv 1) pa_nil)) pe_int (by first | rfl | exact nomark _)) (pw_or1 (pt_cmpR op_gt (pe_callB call_len_str (by rfl) T.n_len bt_len (pa_cons (pv 1) pa_nil)) (pe_gl T.c_MOST_FIGURES rfl) (by first | rfl | exact nomark _)))))
 pss_never
 pss_nil)
 (pss_cons (ps_for PassesOwn.never rfl (pi_str (pv 1)) (pg_name (i := 2) sc_read_number.nd rfl (by first | exact Or.inl rfl | exact Or.inr rfl))
 (pss_one (ps_if (pt_cmpR op_notIn_sign (pv 2) (pe_gl T.c_FIGURES rfl) (by first | rfl | exact nomark _))
 pss_never
 pss_nil)))
 (pss_cons (ps_if (PW.pt (pw_and (pt_cmpR op_eq (pe_ix ix_str (pv 1) pe_int (fun _ _ => rfl)) pe_str (by first | rfl | exact nomark _)) (pw_and1 (pt_cmpR op_gt (pe_callB call_len_str (by rfl) T.n_len bt_len (pa_cons (pv 0) pa_nil)) pe_int (by first | rfl | exact nomark _)))))
 pss_never
 pss_nil)
 (pss_one (ps_ret (pe_callTy call_int_str (by rfl) T.n_int bt_int (pa_cons (pv 0) pa_nil))))))))), ?_⟩
    have hl := z_len hi
    have hL := zL_len hi
    have tz := tl_z i
    have lz : (zS i).length = (zL i).length := by rw [len_tl, tz]
    have mf := numL_digits i.natAbs
    have ne := numL_ne i.natAbs
    have hnc : ∀ c r, numL i.natAbs = c :: r → c = 48 → i = 0 := fun c r e ec => by
      by_cases z : i.natAbs = 0
      · omega
      · exact absurd ec (numL_head (by omega) c r e)
    obtain ⟨c, r, ecr⟩ : ∃ c r, numL i.natAbs = c :: r := by
      cases e : numL i.natAbs with
      | nil => exact absurd e ne
      | cons c r => exact ⟨c, r, rfl⟩
    have hz : i = 0 → (zL i).length = 1 := fun e => by subst e; decide +kernel
    refine ⟨_, rfl, fun σ' H' => H' = H ∧ ∃ figs : Str, σ' = [some (.str (zS i)), some (.str figs), none] ∧ tl figs = numL i.natAbs, ?_, ?_⟩
    · refine ⟨_, rfl, _, rfl, ?_⟩
      refine ⟨zS i, rfl, sz_of (by omega), rfl, ?_⟩
      show ∃ b, V.bl (decide (V.str (cutS (zS i) none (some ((1 : Nat) : Int))) = V.str "-")) = V.bl b ∧ _
      rw [str_eq, cutS_to, tz]
      rcases zL_cases i with ⟨hn, e⟩ | ⟨hn, e⟩
      · refine ⟨true, ?_, iteT ⟨_, rfl, _, rfl, ?_⟩⟩
        · rw [e]; rfl
        · dsimp only [tNoPart]
          refine ⟨zS i, rfl, sz_of (by omega), rfl, cutS (zS i) (some ((1 : Nat) : Int)) none, rfl, ?_⟩
          rw [cutS_from, tz, e]
          rfl
      · refine ⟨false, ?_, iteF ⟨rfl, zS i, rfl, by rw [tz, e]⟩⟩
        have : c ≠ 45 := by have := mf c (by rw [ecr]; exact List.mem_cons_self); omega
        rw [e, ecr]
        refine congrArg V.bl (decide_eq_false fun z => ?_)
        injection z with z1 _
        exact this z1
    · rintro σ' H' ⟨rfl, figs, rfl, tf⟩
      have lf : figs.length = (numL i.natAbs).length := by rw [len_tl, tf]
      have lp : 0 < (numL i.natAbs).length := by rw [ecr, List.length_cons]; omega
      refine ⟨_, rfl, figs, rfl, sz_of (by omega), rfl, false, df (by intro z; injection z with z; omega), iteF ⟨_, rfl, figs, rfl, sz_of (by omega), _, _, rfl, rfl, false, df (by omega), iteF ?_⟩⟩
      refine ⟨_, rfl, figs, rfl, for_it walk_str (fun j σ H'' => H'' = H' ∧ ∃ o, σ = [some (.str (zS i)), some (.str figs), o]) ⟨rfl, none, rfl⟩ (fun _ _ _ _ _ => trivial) ?_ ?_⟩
      · rintro j y σ H1 H2 hj ⟨rfl, o, rfl⟩ hy
        obtain ⟨rfl, cc, hc, rfl⟩ := hy
        have hcm : cc ∈ tl figs := by
          have := Array.mem_of_getElem? hc
          exact Array.mem_toList_iff.mpr this
        rw [tf] at hcm
        refine ⟨_, rfl, cc, _, rfl, rfl, ?_⟩
        refine ⟨false, ?_, iteF ⟨rfl, _, rfl⟩⟩
        rw [decide_eq_true (fig_mem (mf cc hcm))]
        rfl
      · rintro σ H1 ⟨rfl, o, rfl⟩
        have hat : atI figs.cps.toList ((0 : Nat) : Int) = some c := atI_nat (by
          show (tl figs)[0]? = some c
          rw [tf, ecr]
          rfl)
        refine ⟨_, rfl, figs, ((0 : Nat) : Int), c, rfl, rfl, sz_of (by omega), hat, rfl, ?_⟩
        show ∃ b, V.bl (decide (V.str ⟨#[c]⟩ = V.str "0")) = V.bl b ∧ _
        rw [str_eq]
        by_cases c0 : c = 48
        · have i0 := hnc c r ecr c0
          have l1 := hz i0
          refine ⟨true, ?_, iteT ⟨_, rfl, zS i, rfl, sz_of (by omega), _, _, rfl, rfl, false, df (by omega), iteF ?_⟩⟩
          · rw [c0]; rfl
          · exact ⟨_, rfl, _, i, rfl, z_int hi, by omega, kq⟩
        · refine ⟨false, ?_, iteF (iteF ⟨_, rfl, _, i, rfl, z_int hi, by omega, kq⟩)⟩
          refine congrArg V.bl (decide_eq_false fun z => ?_)
          have z' : [c] = [48] := z
          injection z' with z1 _
          exact c0 z1
end
end RF

set_option Elab.async false
set_option linter.all false
set_option maxRecDepth 100000
set_option maxHeartbeats 4000000
namespace RF
open PySem PySem.Spec PyProof.Rows L2 Evl RM RC TL
theorem dig_eq {d : Nat} (h : d < 10) : (⟨#[48 + d]⟩ : Str) = zS (d : Nat) := ext_tl (by
  rw [show tl (zS (d : Nat)) = numL d from tl_num d, numL_lt h])
theorem dig_int {d : Nat} (h : d < 10) : intText? (⟨#[48 + d]⟩ : Str) = some (d : Int) := by
  rw [dig_eq h]
  exact z_int (by rw [Int.natAbs_natCast]; exact Nat.lt_of_lt_of_le h (by decide))
theorem one_len (c : Nat) : (⟨#[c]⟩ : Str).length = 1 := rfl
section
variable {P : Program} {w : World} {K : PySem.W.Frag} {mg : Str → Option Value} {base : Heap}
def sp_read_fall (K : PySem.W.Frag) : Sp := fun vs H Q _ => ∃ (f : Fall), vs = [.str (showF f)] ∧ f.1 < 10 ∧ f.2.1 < 10 ∧ f.2.2 < 32 ∧ ∀ y H', Ex H H' → Rp K H' (eF f) y → Q y H'
abbrev N_read_fall : List Str := ["word", "sign"]
theorem sc_read_fall : FnScope N_read_fall ["word"] (defScope s_read_fall) := ⟨rfl, rfl, rfl, by decide +kernel, rfl, by decide +kernel, by decide +kernel⟩
theorem ok_read_fall (T : Txt P w K mg base) : Ok P w K mg base "read_fall" (1 + 1) ["word"] (sp_read_fall K) := by
  refine Ok.of T.f_read_fall sc_read_fall (fun _ _ _ _ _ _ us hl => match us, hl with | [_], _ => rfl) (fun vs H Q E h => ?_) (fun f cdv A outer s H vs Q E hr h => ?_)
  · obtain ⟨f', rfl, h1, h2, h3, kq⟩ := h
    rfl
  · obtain ⟨f', rfl, h1, h2, h3, kq⟩ := h
    refine ⟨_, (pss_cons (ps_if (PW.pt (pw_or (pt_cmpR op_lt (pe_callB call_len_str (by rfl) T.n_len bt_len (pa_cons (pv 0) pa_nil)) pe_int (by first | rfl | exact nomark _)) (pw_or (pt_cmpR op_ne (pe_ix ix_str (pv 0) pe_int (fun _ _ => rfl)) pe_str (by first | rfl | exact nomark _)) (pw_or1 (pt_cmpR op_ne (pe_ix ix_str (pv 0) pe_int (fun _ _ => rfl)) pe_str (by first | rfl | exact nomark _))))))
 pss_never
 pss_nil)
 (pss_cons (ps_for PassesOwn.never rfl (pi_str (pe_op op_add_str (pe_op op_add_str (pe_ix ix_str (pv 0) pe_int (fun _ _ => rfl)) (pe_ix ix_str (pv 0) pe_int (fun _ _ => rfl))) (pe_slice sl_str (pv 0) (po_some pe_int) po_none))) (pg_name (i := 1) sc_read_fall.nd rfl (by first | exact Or.inl rfl | exact Or.inr rfl))
 (pss_one (ps_if (pt_cmpR op_notIn_sign (pv 1) (pe_gl T.c_FIGURES rfl) (by first | rfl | exact nomark _))
 pss_never
 pss_nil)))
 (pss_one (ps_ret (peTup (pa_cons (pe_callTy call_int_str (by rfl) T.n_int bt_int (pa_cons (pe_ix ix_str (pv 0) pe_int (fun _ _ => rfl)) pa_nil)) (pa_cons (pe_callTy call_int_str (by rfl) T.n_int bt_int (pa_cons (pe_ix ix_str (pv 0) pe_int (fun _ _ => rfl)) pa_nil)) (pa_cons (pc (ok_mask_of T) hr (pa_cons (pe_lc (own := [("sign", 1)]) rfl sc_read_fall.nd (pi_str (pe_slice sl_str (pv 0) (po_some pe_int) po_none)) (blkOk_by (N := N_read_fall) (sc := defScope s_read_fall) (own := [("sign", 1)]) (by decide +kernel)) (fun _ _ _ _ _ => (pg_name (i := 1) sc_read_fall.nd rfl (by first | exact Or.inl rfl | exact Or.inr rfl))) (fun _ _ _ _ _ => pts_nil) (fun _ _ _ _ _ => (pe_callTy call_int_str (by rfl) T.n_int bt_int (pa_cons (pv 1) pa_nil)))) pa_nil)) pa_nil)))))))), ?_⟩
    have tf := tl_showF h1 h2
    have hh := handsIn_len f'.2.2
    have h5 := handsIn5 f'.2.2
    have ll : (showF f').length = 4 + (handsIn f'.2.2).length := by
      rw [len_tl, tf]
      simp only [List.length_cons, List.length_map]
      omega
    have at0 : atI (showF f').cps.toList ((0 : Nat) : Int) = some (48 + f'.1) := atI_nat (by show (tl (showF f'))[0]? = _; rw [tf]; rfl)
    have at1 : atI (showF f').cps.toList ((1 : Nat) : Int) = some 64 := atI_nat (by show (tl (showF f'))[1]? = _; rw [tf]; rfl)
    have at2 : atI (showF f').cps.toList ((2 : Nat) : Int) = some (48 + f'.2.1) := atI_nat (by show (tl (showF f'))[2]? = _; rw [tf]; rfl)
    have at3 : atI (showF f').cps.toList ((3 : Nat) : Int) = some 62 := atI_nat (by show (tl (showF f'))[3]? = _; rw [tf]; rfl)
    have hsz : (showF f').length ≤ 100000 := by omega
    refine ⟨_, rfl, _, rfl, sz_of hsz, _, _, rfl, rfl, false, df (by omega), iteF ?_⟩
    refine ⟨_, rfl, _, ((1 : Nat) : Int), 64, rfl, rfl, sz_of hsz, at1, rfl, false, by decide +kernel, iteF ?_⟩
    refine ⟨_, rfl, _, ((3 : Nat) : Int), 62, rfl, rfl, sz_of hsz, at3, rfl, false, by decide +kernel, iteF ?_⟩
    have t4 : tl (cutS (showF f') (some ((4 : Nat) : Int)) none) = (handsIn f'.2.2).map fun h => 48 + h := by
      rw [cutS_from, tf]
      rfl
    refine ⟨_, rfl, _, ((0 : Nat) : Int), _, rfl, rfl, sz_of hsz, at0, _, rfl, _, ((2 : Nat) : Int), _, rfl, rfl, sz_of hsz, at2, _, _, rfl, rfl, sz_of (by rw [one_len, one_len]; omega), ?_⟩
    refine ⟨_, rfl, _, rfl, _, rfl, sz_of hsz, _, cutS (showF f') (some ((4 : Nat) : Int)) none, rfl, rfl, ?_, ?_⟩
    · have := cutS_length (showF f') (some ((4 : Nat) : Int)) none
      rw [len_app, one_len, one_len]
      exact sz_of (by omega)
    have tall : tl ((⟨#[48 + f'.1]⟩ : Str) ++ ⟨#[48 + f'.2.1]⟩ ++ cutS (showF f') (some ((4 : Nat) : Int)) none) = (48 + f'.1) :: (48 + f'.2.1) :: (handsIn f'.2.2).map fun h => 48 + h := by
      rw [tl_append, tl_append, t4]
      rfl
    refine ⟨_, rfl, ?_⟩
    refine for_it walk_str (fun j σ H'' => H'' = H ∧ ∃ o, σ = [some (.str (showF f')), o]) ⟨rfl, none, rfl⟩ (fun _ _ _ _ _ => trivial) ?_ ?_
    · rintro j y σ H1 H2 hj ⟨rfl, o, rfl⟩ hy
      obtain ⟨rfl, cc, hc, rfl⟩ := hy
      have hcm : cc ∈ tl ((⟨#[48 + f'.1]⟩ : Str) ++ ⟨#[48 + f'.2.1]⟩ ++ cutS (showF f') (some ((4 : Nat) : Int)) none) := by
        have := Array.mem_of_getElem? hc
        exact Array.mem_toList_iff.mpr this
      rw [tall] at hcm
      have hfig : 48 ≤ cc ∧ cc ≤ 57 := by
        simp only [List.mem_cons, List.mem_map] at hcm
        rcases hcm with z | z | ⟨a, ha, z⟩
        · omega
        · omega
        · have := h5 a ha; omega
      refine ⟨_, rfl, cc, _, rfl, rfl, ?_⟩
      refine ⟨false, ?_, iteF ⟨rfl, _, rfl⟩⟩
      rw [decide_eq_true (fig_mem hfig)]
      rfl
    · rintro σ H1 ⟨rfl, o, rfl⟩
      refine ⟨_, rfl, _, ((0 : Nat) : Int), _, rfl, rfl, sz_of hsz, at0, _, _, rfl, dig_int h1, by rw [one_len]; omega, ?_⟩
      refine ⟨_, rfl, _, ((2 : Nat) : Int), _, rfl, rfl, sz_of hsz, at2, _, _, rfl, dig_int h2, by rw [one_len]; omega, ?_⟩
      refine ⟨_, rfl, _, rfl, _, rfl, sz_of hsz, cutS (showF f') (some ((4 : Nat) : Int)) none, rfl, fun Dl hD => ?_⟩
      have csz : (cutS (showF f') (some ((4 : Nat) : Int)) none).cps.size = (handsIn f'.2.2).length := by
        have e : (tl (cutS (showF f') (some ((4 : Nat) : Int)) none)).length = (handsIn f'.2.2).length := by rw [t4, List.length_map]
        rw [← e]
        exact (Array.length_toList).symm
      refine lc_it walk_str (fun i H' => Ex H1 H' ∧ H' Dl = some (.lst (((handsIn f'.2.2).take i).map fun h => V.int (h : Nat)))) ⟨Ex.new hD, upd_same⟩ (fun _ _ _ _ => trivial) (fun i y H' H'' hi ⟨e2, g2⟩ hy => ?_) (fun H' ⟨e2, g2⟩ => ?_)
      · obtain ⟨rfl, cc, hc, rfl⟩ := hy
        have hc' : (tl (cutS (showF f') (some ((4 : Nat) : Int)) none))[i]? = some cc := by
          rw [Array.getElem?_toList]; exact hc
        rw [t4, List.getElem?_map] at hc'
        obtain ⟨h, hh', rfl⟩ := Option.map_eq_some_iff.mp hc'
        have hh5 := h5 h (List.mem_of_getElem? hh')
        refine ⟨rfl, _, rfl, _, _, rfl, dig_int (by omega), by rw [one_len]; omega, _, g2, sz_lt (by rw [List.length_map, List.length_take]; omega), e2.mut hD, ?_⟩
        rw [upd_same, List.take_add_one, hh', Option.toList_some, List.map_append]
        rfl
      · rw [csz, List.take_length] at g2
        refine ⟨Dl, handsIn f'.2.2, rfl, SqL.of g2, fun h hh => by have := h5 h hh; omega, by show 3 ≤ 1000; decide, fun t H3 ht e3 g3 => ?_⟩
        refine kq _ H3 (e2.trans e3) (fall_mk (st_of ?_))
        rw [maskOf_handsIn h3] at g3
        exact g3
theorem slash_pre {r : Rn} (i : Nat) (h : i < r.1.length) : ∃ z ∈ r.1, (wordsR r)[i]? = some (zS z) := by
  obtain ⟨z, hz⟩ : ∃ z, r.1[i]? = some z := ⟨_, List.getElem?_eq_getElem h⟩
  refine ⟨z, List.mem_of_getElem? hz, ?_⟩
  unfold wordsR
  rw [List.append_assoc, List.getElem?_append_left (by rw [List.length_map]; exact h), List.getElem?_map, hz]
  rfl
theorem slash_at (r : Rn) : (wordsR r)[r.1.length]? = some "/" := by
  unfold wordsR
  rw [List.append_assoc, List.getElem?_append_right (by rw [List.length_map]; exact Nat.le_refl _), List.length_map, Nat.sub_self]
  rfl
theorem words_take (r : Rn) : (wordsR r).take r.1.length = r.1.map zS := by
  unfold wordsR
  rw [List.append_assoc, List.take_append_of_le_length (by rw [List.length_map]; exact Nat.le_refl _), List.take_of_length_le (by rw [List.length_map]; exact Nat.le_refl _)]
theorem words_drop (r : Rn) : (wordsR r).drop (r.1.length + 1) = r.2.map showF := by
  unfold wordsR
  have e : (r.1.map zS ++ [("/" : Str)]).length = r.1.length + 1 := by simp
  rw [List.drop_append_of_le_length (by rw [e]; exact Nat.le_refl _), List.drop_of_length_le (by rw [e]; exact Nat.le_refl _), List.nil_append]
theorem flat_str : ∀ l : List Str, (l.map V.str).all flatV = true := by
  intro l
  induction l with
  | nil => rfl
  | cons a l ih => exact ih
theorem eqV_str (a b : Str) : eqV (.str a) (.str b) = decide (a = b) := by
  show (a == b) = _
  by_cases h : a = b
  · subst h; simp
  · rw [decide_eq_false h]; exact beq_eq_false_iff_ne.mpr h
theorem inV_str (x : Str) : ∀ l : List Str, inV (.str x) (l.map V.str) = decide (x ∈ l) := by
  intro l
  induction l with
  | nil => rfl
  | cons a l ih =>
    show (eqV (.str a) (.str x) || inV (.str x) (l.map V.str)) = _
    rw [ih, eqV_str]
    by_cases h : x = a
    · subst h; simp
    · rw [decide_eq_false (Ne.symm h), Bool.false_or]
      exact decide_eq_decide.mpr ⟨fun z => List.mem_cons_of_mem _ z, fun z => (List.mem_cons.mp z).resolve_left h⟩
def sp_read_run (K : PySem.W.Frag) : Sp := fun vs H Q _ => ∃ (r : Rn), vs = [.str (showR r)] ∧ Valid r ∧ ∀ y H', Ex H H' → Rp K H' (eR r) y → Q y H'
abbrev N_read_run : List Str := ["text", "words", "at", "numbers", "word", "falls", "run"]
theorem sc_read_run : FnScope N_read_run ["text"] (defScope s_read_run) := ⟨rfl, rfl, rfl, by decide +kernel, rfl, by decide +kernel, by decide +kernel⟩
theorem ok_read_run (T : Txt P w K mg base) : Ok P w K mg base "read_run" (4 + 1) ["text"] (sp_read_run K) := by
  refine Ok.of T.f_read_run sc_read_run (fun _ _ _ _ _ _ us hl => match us, hl with | [_], _ => rfl) (fun vs H Q E h => ?_) (fun f cdv A outer s H vs Q E hr h => ?_)
  · obtain ⟨r, rfl, hv, kq⟩ := h
    rfl
  · obtain ⟨r, rfl, hv, kq⟩ := h
    refine ⟨_, (pss_cons (ps_set (i := 1) sc_read_run.nd rfl (by first | exact Or.inl rfl | exact Or.inr rfl) (peSplit (pv 0) pe_str))
 (pss_cons (ps_if (pt_cmpR (opNotInS (K := K) rfl) pe_str (pv 1) (by first | rfl | exact nomark _))
 pss_never
 pss_nil)
 (pss_cons (ps_set (i := 2) sc_read_run.nd rfl (by first | exact Or.inl rfl | exact Or.inr rfl) (pe_bm PySem.F.plainAttrs_list PySem.F.slot_list_index PySem.F.type_list_index mt_index (pv 1) (pa_cons pe_str pa_nil)))
 (pss_cons (ps_setLc (i := 3) (own := [("word", 4)]) rfl sc_read_run.nd rfl rfl (sw_true rfl rfl rfl (by decide +kernel)) (piL (K := K) rfl (pe_slice (slLK (K := K) rfl) (pv 1) po_none (po_some (pv 2)))) (blkOk_by (N := N_read_run) (sc := defScope s_read_run) (own := [("word", 4)]) (by decide +kernel)) (fun _ _ _ _ _ => (pg_name (i := 4) sc_read_run.nd rfl (by first | exact Or.inl rfl | exact Or.inr rfl))) (fun _ _ _ _ _ => pts_nil) (fun _ _ _ _ _ => (pc (ok_read_number T) hr (pa_cons (pv 4) pa_nil))))
 (pss_cons (ps_setLc (i := 5) (own := [("word", 4)]) rfl sc_read_run.nd rfl rfl (sw_true rfl rfl rfl (by decide +kernel)) (piL (K := K) rfl (pe_slice (slLK (K := K) rfl) (pv 1) (po_some (pe_op op_add (pv 2) pe_int)) po_none)) (blkOk_by (N := N_read_run) (sc := defScope s_read_run) (own := [("word", 4)]) (by decide +kernel)) (fun _ _ _ _ _ => (pg_name (i := 4) sc_read_run.nd rfl (by first | exact Or.inl rfl | exact Or.inr rfl))) (fun _ _ _ _ _ => pts_nil) (fun _ _ _ _ _ => (pc (ok_read_fall T) hr (pa_cons (pv 4) pa_nil))))
 (pss_cons (ps_set (i := 6) sc_read_run.nd rfl (by first | exact Or.inl rfl | exact Or.inr rfl) (peTup (pa_cons (pe_callTy (cTupOf (K := K) rfl) (by rfl) T.n_tuple bt_tuple (pa_cons (pv 3) pa_nil)) (pa_cons (pe_callTy (cTupOf (K := K) rfl) (by rfl) T.n_tuple bt_tuple (pa_cons (pv 5) pa_nil)) pa_nil))))
 (pss_cons (ps_if (PW.pt (pw_or (pt_not (pt_val (pc (ok_is_run T) hr (pa_cons (pv 6) pa_nil)))) (pw_or1 (pt_cmpR op_ne (pc (ok_show_run T) hr (pa_cons (pv 6) pa_nil)) (pv 0) (by first | rfl | exact nomark _)))))
 pss_never
 pss_nil)
 (pss_one (ps_ret (pv 6)))))))))), ?_⟩
    have h4 := hv.hi
    have fl4 := falls_len hv
    have hlen := show_len hv fl4
    obtain ⟨w1, w2⟩ := words_len hv fl4
    refine ⟨_, rfl, ⟨_, rfl⟩, _, _, rfl, rfl, by decide +kernel, by omega, fun p H1 hp e1 gp => ?_⟩
    rw [split_show hv] at gp
    refine ⟨_, rfl, p, _, rfl, .inl (SqL.of gp), rfl, flat_str _, ?_⟩
    rw [inV_str, decide_eq_true words_slash]
    refine ⟨false, rfl, iteF ?_⟩
    refine ⟨_, rfl, .inl ⟨rfl, _, SqL.of gp⟩, p, _, _, r.1.length, .str "/", rfl, rfl, SqL.of gp, rfl, flat_str _, ?_, ?_, fun m z' hm hz => ?_, ?_⟩
    · rw [List.getElem?_map, slash_at]; rfl
    · rw [eqV_str]; exact decide_eq_true rfl
    · rw [List.getElem?_map] at hz
      obtain ⟨z, _, e⟩ := slash_pre (r := r) m hm
      rw [e] at hz
      have hz : V.str (zS z) = z' := Option.some.inj hz
      rw [← hz, eqV_str]
      exact decide_eq_false (z_ne_slash z)
    have sl1 : ∀ (Q2 : VK), (∀ p2 H2, H1 p2 = none → Ex H1 H2 → H2 p2 = some (.lst ((r.1.map zS).map V.str)) → Q2 (.ref p2) H2) → rSlF K (.ref p) none (some ((r.1.length : Nat) : Int)) H1 Q2 := fun Q2 k => ⟨p, _, rfl, SqL.of gp, fun p2 H2 h1 h2 h3 => k p2 H2 h1 h2 (by rw [h3, cutV_to, ← List.map_take, words_take])⟩
    refine ⟨_, rfl, _, rfl, _, rfl, ?_⟩
    refine sl1 _ fun p2 H2 hp2 e2 g2 => ⟨p2, rfl, ⟨_, SqL.of g2⟩, fun D3 hD3 => ?_⟩
    refine lc_list (K := K) (a := p2) (xs := (r.1.map zS).map V.str) (fun i H' => Ex H2 H' ∧ H' D3 = some (.lst ((r.1.take i).map V.int))) ⟨Ex.new hD3, upd_same⟩ (fun i H' _ ⟨e, _⟩ => SqL.of (e _ _ g2)) (fun i y H' hi ⟨e3, g3⟩ => ?_) (fun H3 ⟨e3, g3⟩ => ?_)
    · rw [List.getElem?_map, List.getElem?_map] at hi
      obtain ⟨x, hx, rfl⟩ := Option.map_eq_some_iff.mp hi
      obtain ⟨z, hz, rfl⟩ := Option.map_eq_some_iff.mp hx
      refine ⟨rfl, _, rfl, z, rfl, hv.num z (List.mem_of_getElem? hz), _, g3, sz_lt (by rw [List.length_map, List.length_take]; omega), e3.mut hD3, ?_⟩
      rw [upd_same, List.take_add_one, hz, Option.toList_some, List.map_append]
      rfl
    rw [List.length_map, List.length_map, List.take_length] at g3
    have e13 := e2.trans e3
    have ej : ((r.1.length : Nat) : Int) + 1 = ((r.1.length + 1 : Nat) : Int) := by omega
    refine ⟨_, rfl, _, rfl, _, _, rfl, rfl, _, rfl, p, _, rfl, SqL.of (e13 _ _ gp), fun p4 H4 hp4 e4 g4 => ?_⟩
    rw [ej, cutV_from, ← List.map_drop, words_drop] at g4
    refine ⟨p4, rfl, ⟨_, SqL.of g4⟩, fun D5 hD5 => ?_⟩
    refine lc_list (K := K) (a := p4) (xs := (r.2.map showF).map V.str) (fun i H' => Ex H4 H' ∧ ∃ acc, H' D5 = some (.lst acc) ∧ acc.length = i ∧ RpL K H' ((r.2.take i).map eF) acc) ⟨Ex.new hD5, [], upd_same, rfl, .nil⟩ (fun i H' _ ⟨e, _⟩ => SqL.of (e _ _ g4)) (fun i y H' hi ⟨e5, acc, g5, l5, r5⟩ => ?_) (fun H5 ⟨e5, acc, g5, l5, r5⟩ => ?_)
    · have hlt := (List.getElem?_eq_some_iff.mp hi).1
      rw [List.length_map, List.length_map] at hlt
      rw [List.getElem?_map, List.getElem?_map] at hi
      obtain ⟨x, hx, rfl⟩ := Option.map_eq_some_iff.mp hi
      obtain ⟨f', hf, rfl⟩ := Option.map_eq_some_iff.mp hx
      obtain ⟨q1, q2, q3⟩ := valid_small hv f' (List.mem_of_getElem? hf)
      refine ⟨rfl, _, rfl, f', rfl, q1, q2, q3, fun y H6 e6 hy => ⟨acc, e6 _ _ g5, sz_lt (by omega), (e5.trans e6).mut hD5, _, upd_same, by simp [l5], ?_⟩⟩
      rw [List.take_add_one, hf, Option.toList_some, List.map_append]
      exact ((r5.up e6).upT (ExT.lst (e6 _ _ g5))).snoc (hy.upT (ExT.lst (e6 _ _ g5)))
    rw [List.length_map, List.length_map] at l5
    rw [List.length_map, List.length_map, List.take_length] at r5
    have e35 := e4.trans e5
    refine ⟨_, rfl, D3, _, rfl, .inl ⟨SqL.of (e35 _ _ g3), fun u H6 hu e6 g6 => ?_⟩⟩
    refine ⟨_, rfl, D5, acc, rfl, .inl ⟨SqL.of (e6 _ _ g5), fun u2 H7 hu2 e7 g7 => ⟨by show 2 ≤ 1000; decide, fun u3 H8 hu3 e8 g8 => ?_⟩⟩⟩
    have e78 := e7.trans e8
    have hr : Rp K H8 (eR r) (.ref u3) := run_mk (st_of g8) (st_of (e78 _ _ g6)) (st_of (e8 _ _ g7)) ((r5.up e6).up e78)
    have eall := ((((e1.trans e13).trans e35).trans e6).trans e78)
    refine ⟨_, rfl, r, _, rfl, hr, hv, _, rfl, iteF ⟨_, rfl, r, _, rfl, hr, hv, fun H9 e9 => ⟨_, rfl, rfl, false, ?_, iteF ⟨_, rfl, kq _ H9 (eall.trans e9) (hr.up e9)⟩⟩⟩⟩
    show V.bl (!decide (V.str (showR r) = V.str (showR r))) = _
    simp
end
end RF

set_option Elab.async false
set_option linter.all false
set_option maxRecDepth 100000
set_option maxHeartbeats 4000000
namespace RF
open PySem PySem.Spec PyProof.Rows L2 Evl RM RC TL
theorem let_mem {c : Nat} (h : 97 ≤ c ∧ c ≤ 122) : c ∈ ("abcdefghijklmnopqrstuvwxyz" : Str).cps.toList := by
  have e : ("abcdefghijklmnopqrstuvwxyz" : Str).cps.toList = (List.range 26).map (97 + ·) := by decide +kernel
  rw [e]
  exact List.mem_map.mpr ⟨c - 97, List.mem_range.mpr (by omega), by omega⟩
section
variable {P : Program} {w : World} {K : PySem.W.Frag} {mg : Str → Option Value} {base : Heap}
def sp_is_word (K : PySem.W.Frag) : Sp := fun vs H Q _ => ∃ (c : Nat), vs = [.str ⟨#[c]⟩] ∧ 97 ≤ c ∧ c ≤ 122 ∧ ∀ H', Ex H H' → Q (.bl true) H'
abbrev N_is_word : List Str := ["word", "sign"]
theorem sc_is_word : FnScope N_is_word ["word"] (defScope s_is_word) := ⟨rfl, rfl, rfl, by decide +kernel, rfl, by decide +kernel, by decide +kernel⟩
theorem ok_is_word (T : Txt P w K mg base) : Ok P w K mg base "is_word" (0 + 1) ["word"] (sp_is_word K) := by
  refine Ok.of T.f_is_word sc_is_word (fun _ _ _ _ _ _ us hl => match us, hl with | [_], _ => rfl) (fun vs H Q E h => ?_) (fun f cdv A outer s H vs Q E hr h => ?_)
  · obtain ⟨c, rfl, h1, h2, kq⟩ := h
    rfl
  · obtain ⟨c, rfl, h1, h2, kq⟩ := h
    refine ⟨_, (pss_one (ps_ret (pe_and (pe_chain op_le op_le pe_int (pe_callB call_len_str (by rfl) T.n_len bt_len (pa_cons (pv 0) pa_nil)) pe_int) (pe_one (pe_cmpR op_eq (pe_callB (cLen (K := K) rfl) (by rfl) T.n_len bt_len (pa_cons (pe_lc (own := [("sign", 1)]) rfl sc_is_word.nd (pi_str (pv 0)) (blkOk_by (N := N_is_word) (sc := defScope s_is_word) (own := [("sign", 1)]) (by decide +kernel)) (fun _ _ _ _ _ => (pg_name (i := 1) sc_is_word.nd rfl (by first | exact Or.inl rfl | exact Or.inr rfl))) (fun _ _ _ _ _ => (pts_one (pt_cmpR op_notIn_sign (pv 1) (pe_gl T.c_LETTERS rfl) (by first | rfl | exact nomark _)))) (fun _ _ _ _ _ => (pv 1))) pa_nil)) pe_int (by first | rfl | exact nomark _)))))), ?_⟩
    refine ⟨_, rfl, _, rfl, sz_of (by rw [one_len]; omega), _, _, rfl, rfl, true, dt (by rw [one_len]; decide), iteT ⟨_, _, rfl, rfl, true, dt (by rw [one_len]; decide), iteT ?_⟩⟩
    refine ⟨_, rfl, _, rfl, fun Dl hD => ?_⟩
    refine lc_it walk_str (fun i H' => Ex H H' ∧ H' Dl = some (.lst [])) ⟨Ex.new hD, upd_same⟩ (fun _ _ _ _ => trivial) (fun i y H' H'' hi ⟨e2, g2⟩ hy => ?_) (fun H' ⟨e2, g2⟩ => ?_)
    · obtain ⟨rfl, cc, hc, rfl⟩ := hy
      have hcm : cc ∈ tl (⟨#[c]⟩ : Str) := Array.mem_toList_iff.mpr (Array.mem_of_getElem? hc)
      have hcc : cc = c := by simpa [tl] using hcm
      subst hcc
      refine ⟨rfl, _, rfl, cc, _, rfl, rfl, false, ?_, iteF ⟨e2, g2⟩⟩
      rw [decide_eq_true (let_mem ⟨h1, h2⟩)]
      rfl
    · refine ⟨Dl, [], rfl, .inl (SqL.of g2), rfl, ?_⟩
      have := kq H' e2
      exact this
def sp_is_figure (K : PySem.W.Frag) : Sp := fun vs H Q _ => ∃ (d m : Nat), vs = [.str ⟨#[48 + d]⟩, .int m] ∧ d < 10 ∧ d ≤ m ∧ Q (.bl true) H
abbrev N_is_figure : List Str := ["word", "most"]
theorem sc_is_figure : FnScope N_is_figure ["word", "most"] (defScope s_is_figure) := ⟨rfl, rfl, rfl, by decide +kernel, rfl, by decide +kernel, by decide +kernel⟩
theorem ok_is_figure (T : Txt P w K mg base) : Ok P w K mg base "is_figure" (0 + 1) ["word", "most"] (sp_is_figure K) := by
  refine Ok.of T.f_is_figure sc_is_figure (fun _ _ _ _ _ _ us hl => match us, hl with | [_, _], _ => rfl) (fun vs H Q E h => ?_) (fun f cdv A outer s H vs Q E hr h => ?_)
  · obtain ⟨d, m, rfl, h1, h2, kq⟩ := h
    rfl
  · obtain ⟨d, m, rfl, h1, h2, kq⟩ := h
    refine ⟨_, (pss_one (ps_ret (pe_and (pe_cmpR op_eq (pe_callB call_len_str (by rfl) T.n_len bt_len (pa_cons (pv 0) pa_nil)) pe_int (by first | rfl | exact nomark _)) (pe_and (pe_cmpR op_in_sign (pv 0) pe_str (by first | rfl | exact nomark _)) (pe_one (pe_cmpR op_le (pe_callTy call_int_str (by rfl) T.n_int bt_int (pa_cons (pv 0) pa_nil)) (pv 1) (by first | rfl | exact nomark _))))))), ?_⟩
    refine ⟨_, rfl, _, rfl, sz_of (by rw [one_len]; omega), rfl, true, by rw [one_len]; rfl, iteT ⟨_, rfl, _, _, rfl, rfl, true, ?_, iteT ⟨_, rfl, _, _, rfl, dig_int h1, by rw [one_len]; omega, _, rfl, _, _, rfl, rfl, qt (Q := Q) (by omega) kq⟩⟩⟩
    rw [decide_eq_true (fig_mem (by omega))]
def sp_is_written (K : PySem.W.Frag) : Sp := fun vs H Q _ => ∃ (i : Int), vs = [.str (zS i)] ∧ i.natAbs < 10 ^ 60 ∧ ∀ H', Ex H H' → Q (.bl true) H'
abbrev N_is_written : List Str := ["word", "figures", "sign"]
theorem sc_is_written : FnScope N_is_written ["word"] (defScope s_is_written) := ⟨rfl, rfl, rfl, by decide +kernel, rfl, by decide +kernel, by decide +kernel⟩
theorem ok_is_written (T : Txt P w K mg base) : Ok P w K mg base "is_written" (0 + 1) ["word"] (sp_is_written K) := by
  refine Ok.of T.f_is_written sc_is_written (fun _ _ _ _ _ _ us hl => match us, hl with | [_], _ => rfl) (fun vs H Q E h => ?_) (fun f cdv A outer s H vs Q E hr h => ?_)
  · obtain ⟨i, rfl, hi, kq⟩ := h
    rfl
  · obtain ⟨i, rfl, hi, kq⟩ := h
    refine ⟨_, (pss_cons (ps_set (i := 1) sc_is_written.nd rfl (by first | exact Or.inl rfl | exact Or.inr rfl) (pv 0))
 (pss_cons (ps_cut (ps_if (pt_cmpR op_eq (pe_slice sl_str (pv 0) po_none (po_some pe_int)) pe_str (by first | rfl | exact nomark _))
 (pss_one (ps_set (i := 1) sc_is_written.nd rfl (by first | exact Or.inl rfl | exact Or.inr rfl) (pe_slice sl_str (pv 0) (po_some pe_int) po_none)))
 pss_nil))
 (pss_cons (ps_cut (ps_if (PW.pt (pw_or (pt_not (pt_chain op_le op_le pe_int (pe_callB call_len_str (by rfl) T.n_len bt_len (pa_cons (pv 1) pa_nil)) pe_int)) (pw_or1 (PW.pt (pw_and (pt_cmpR op_eq (pe_ix ix_str (pv 1) pe_int (fun _ _ => rfl)) pe_str (by first | rfl | exact nomark _)) (pw_and1 (pt_cmpR op_gt (pe_callB call_len_str (by rfl) T.n_len bt_len (pa_cons (pv 0) pa_nil)) pe_int (by first | rfl | exact nomark _))))))))
 (pss_one (ps_ret pe_bl))
 pss_nil))
 (pss_one (ps_ret (pe_cmpR op_eq (pe_callB (cLen (K := K) rfl) (by rfl) T.n_len bt_len (pa_cons (pe_lc (own := [("sign", 2)]) rfl sc_is_written.nd (pi_str (pv 1)) (blkOk_by (N := N_is_written) (sc := defScope s_is_written) (own := [("sign", 2)]) (by decide +kernel)) (fun _ _ _ _ _ => (pg_name (i := 2) sc_is_written.nd rfl (by first | exact Or.inl rfl | exact Or.inr rfl))) (fun _ _ _ _ _ => (pts_one (pt_cmpR op_notIn_sign (pv 2) pe_str (by first | rfl | exact nomark _)))) (fun _ _ _ _ _ => (pv 2))) pa_nil)) pe_int (by first | rfl | exact nomark _))))))), ?_⟩
    have hl := z_len hi
    have hL := zL_len hi
    have tz := tl_z i
    have lz : (zS i).length = (zL i).length := by rw [len_tl, tz]
    have mf := numL_digits i.natAbs
    have ne := numL_ne i.natAbs
    have hnc : ∀ c r, numL i.natAbs = c :: r → c = 48 → i = 0 := fun c r e ec => by
      by_cases z : i.natAbs = 0
      · omega
      · exact absurd ec (numL_head (by omega) c r e)
    obtain ⟨c, r, ecr⟩ : ∃ c r, numL i.natAbs = c :: r := by
      cases e : numL i.natAbs with
      | nil => exact absurd e ne
      | cons c r => exact ⟨c, r, rfl⟩
    have hz : i = 0 → (zL i).length = 1 := fun e => by subst e; decide +kernel
    refine ⟨_, rfl, fun σ' H' => H' = H ∧ ∃ figs : Str, σ' = [some (.str (zS i)), some (.str figs), none] ∧ tl figs = numL i.natAbs, ?_, ?_⟩
    · refine ⟨_, rfl, _, rfl, ?_⟩
      refine ⟨zS i, rfl, sz_of (by omega), rfl, ?_⟩
      show ∃ b, V.bl (decide (V.str (cutS (zS i) none (some ((1 : Nat) : Int))) = V.str "-")) = V.bl b ∧ _
      rw [str_eq, cutS_to, tz]
      rcases zL_cases i with ⟨hn, e⟩ | ⟨hn, e⟩
      · refine ⟨true, ?_, iteT ⟨_, rfl, _, rfl, ?_⟩⟩
        · rw [e]; rfl
        · dsimp only [tNoPart]
          refine ⟨zS i, rfl, sz_of (by omega), rfl, cutS (zS i) (some ((1 : Nat) : Int)) none, rfl, ?_⟩
          rw [cutS_from, tz, e]
          rfl
      · refine ⟨false, ?_, iteF ⟨rfl, zS i, rfl, by rw [tz, e]⟩⟩
        have : c ≠ 45 := by have := mf c (by rw [ecr]; exact List.mem_cons_self); omega
        rw [e, ecr]
        refine congrArg V.bl (decide_eq_false fun z => ?_)
        injection z with z1 _
        exact this z1
    · rintro σ' H' ⟨rfl, figs, rfl, tf⟩
      have lf : figs.length = (numL i.natAbs).length := by rw [len_tl, tf]
      have lp : 0 < (numL i.natAbs).length := by rw [ecr, List.length_cons]; omega
      have hat : atI figs.cps.toList ((0 : Nat) : Int) = some c := atI_nat (by
        show (tl figs)[0]? = some c
        rw [tf, ecr]
        rfl)
      -- the figures are all figures
      have fin : ∃ t : Nat, True := ⟨0, trivial⟩
      have last : ∀ (Q2 : VK), Q2 (.bl true) H' → True := fun _ _ => trivial
      refine ⟨fun σ' H2 => H2 = H' ∧ σ' = [some (.str (zS i)), some (.str figs), none], ?_, ?_⟩
      · refine ⟨_, rfl, figs, rfl, sz_of (by omega), _, _, rfl, rfl, true, dt (by omega), iteT ⟨_, _, rfl, rfl, true, dt (by omega), iteF ?_⟩⟩
        refine ⟨_, rfl, figs, ((0 : Nat) : Int), c, rfl, rfl, sz_of (by omega), hat, rfl, ?_⟩
        show ∃ b, V.bl (decide (V.str ⟨#[c]⟩ = V.str "0")) = V.bl b ∧ _
        rw [str_eq]
        by_cases c0 : c = 48
        · have l1 := hz (hnc c r ecr c0)
          refine ⟨true, ?_, iteT ⟨_, rfl, zS i, rfl, sz_of (by omega), _, _, rfl, rfl, false, df (by omega), iteF ⟨rfl, rfl⟩⟩⟩
          rw [c0]; rfl
        · refine ⟨false, ?_, iteF (iteF ⟨rfl, rfl⟩)⟩
          refine congrArg V.bl (decide_eq_false fun z => ?_)
          have z' : [c] = [48] := z
          injection z' with z1 _
          exact c0 z1
      · rintro σ2 H2 ⟨rfl, rfl⟩
        refine ⟨_, rfl, figs, rfl, fun Dl hD => ?_⟩
        refine lc_it walk_str (fun i H' => Ex H2 H' ∧ H' Dl = some (.lst [])) ⟨Ex.new hD, upd_same⟩ (fun _ _ _ _ => trivial) (fun j y H' H'' hi ⟨e2, g2⟩ hy => ?_) (fun H' ⟨e2, g2⟩ => ?_)
        · obtain ⟨rfl, cc, hc, rfl⟩ := hy
          have hcm : cc ∈ tl figs := Array.mem_toList_iff.mpr (Array.mem_of_getElem? hc)
          rw [tf] at hcm
          refine ⟨rfl, _, rfl, cc, _, rfl, rfl, false, ?_, iteF ⟨e2, g2⟩⟩
          rw [decide_eq_true (fig_mem (mf cc hcm))]
          rfl
        · refine ⟨Dl, [], rfl, .inl (SqL.of g2), rfl, ?_⟩
          have := kq H' e2
          exact this
/-- a word that its kind of the row takes -/
def FitOK (w k : Str) : Prop := (k = "name" ∧ ∃ c : Nat, w = ⟨#[c]⟩ ∧ 97 ≤ c ∧ c ≤ 122) ∨ (k = "rule" ∧ ∃ wd, w = wdS wd) ∨ (k = "number" ∧ ∃ i : Int, w = zS i ∧ i.natAbs < 10 ^ 60) ∨ (k = "bound" ∧ ∃ d : Nat, w = ⟨#[48 + d]⟩ ∧ d ≤ 3) ∨ (k = "rounds" ∧ ∃ d : Nat, w = ⟨#[48 + d]⟩ ∧ d ≤ 4)
def sp_fits (K : PySem.W.Frag) : Sp := fun vs H Q _ => ∃ (w k : Str), vs = [.str w, .str k] ∧ FitOK w k ∧ ∀ H', Ex H H' → Q (.bl true) H'
abbrev N_fits : List Str := ["word", "kind", "most"]
theorem sc_fits : FnScope N_fits ["word", "kind"] (defScope s_fits) := ⟨rfl, rfl, rfl, by decide +kernel, rfl, by decide +kernel, by decide +kernel⟩
theorem ok_fits (T : Txt P w K mg base) : Ok P w K mg base "fits" (1 + 1) ["word", "kind"] (sp_fits K) := by
  refine Ok.of T.f_fits sc_fits (fun _ _ _ _ _ _ us hl => match us, hl with | [_, _], _ => rfl) (fun vs H Q E h => ?_) (fun f cdv A outer s H vs Q E hr h => ?_)
  · obtain ⟨w', k, rfl, hf, kq⟩ := h
    rfl
  · obtain ⟨w', k, rfl, hf, kq⟩ := h
    refine ⟨_, (pss_cons (ps_if (pt_cmpR op_eq (pv 1) pe_str (by first | rfl | exact nomark _))
 (pss_one (ps_ret (pc (ok_is_word T) hr (pa_cons (pv 0) pa_nil))))
 pss_nil)
 (pss_cons (ps_if (pt_cmpR op_eq (pv 1) pe_str (by first | rfl | exact nomark _))
 (pss_one (ps_ret (pe_cmpR (opInS (K := K) rfl) (pv 0) (pe_gl T.c_RULES rfl) (by first | rfl | exact nomark _))))
 pss_nil)
 (pss_cons (ps_if (pt_cmpR op_eq (pv 1) pe_str (by first | rfl | exact nomark _))
 (pss_one (ps_ret (pc (ok_is_written T) hr (pa_cons (pv 0) pa_nil))))
 pss_nil)
 (pss_cons (ps_set (i := 2) sc_fits.nd rfl (by first | exact Or.inl rfl | exact Or.inr rfl) pe_int)
 (pss_cons (ps_if (pt_cmpR op_eq (pv 1) pe_str (by first | rfl | exact nomark _))
 (pss_one (ps_set (i := 2) sc_fits.nd rfl (by first | exact Or.inl rfl | exact Or.inr rfl) pe_int))
 pss_nil)
 (pss_one (ps_ret (pc (ok_is_figure T) hr (pa_cons (pv 0) (pa_cons (pv 2) pa_nil)))))))))), ?_⟩
    rcases hf with ⟨rfl, c, rfl, h1, h2⟩ | ⟨rfl, wd, rfl⟩ | ⟨rfl, i, rfl, hi⟩ | ⟨rfl, d, rfl, hd⟩ | ⟨rfl, d, rfl, hd⟩
    · exact ⟨_, rfl, rfl, true, rfl, iteT ⟨_, rfl, c, rfl, h1, h2, kq⟩⟩
    · refine ⟨_, rfl, rfl, false, rfl, iteF ⟨_, rfl, rfl, true, rfl, iteT ⟨_, rfl, _, _, rfl, .inl (T.rules H), rfl, rfl, ?_⟩⟩⟩
      have e : inV (.str (wdS wd)) [.str "plain", .str "soon", .str "sure", .str "together"] = true := by
        have := inV_str (wdS wd) ["plain", "soon", "sure", "together"]
        refine this.trans ?_
        cases wd <;> decide +kernel
      show Q (.bl (inV (.str (wdS wd)) [.str "plain", .str "soon", .str "sure", .str "together"])) H
      rw [e]
      exact kq H (Ex.refl H)
    · exact ⟨_, rfl, rfl, false, rfl, iteF ⟨_, rfl, rfl, false, rfl, iteF ⟨_, rfl, rfl, true, rfl, iteT ⟨_, rfl, i, rfl, hi, kq⟩⟩⟩⟩
    · exact ⟨_, rfl, rfl, false, rfl, iteF ⟨_, rfl, rfl, false, rfl, iteF ⟨_, rfl, rfl, false, rfl, iteF ⟨_, rfl, rfl, true, rfl, iteT ⟨_, rfl, _, rfl, d, 3, rfl, by omega, hd, kq H (Ex.refl H)⟩⟩⟩⟩⟩
    · exact ⟨_, rfl, rfl, false, rfl, iteF ⟨_, rfl, rfl, false, rfl, iteF ⟨_, rfl, rfl, false, rfl, iteF ⟨_, rfl, rfl, false, rfl, iteF ⟨_, rfl, _, rfl, d, 4, rfl, by omega, hd, kq H (Ex.refl H)⟩⟩⟩⟩⟩
def sp_kinds_of (K : PySem.W.Frag) : Sp := fun vs H Q _ => ∃ (w : Str), vs = [.str w] ∧ ((w = "chain" ∧ ∀ p H', H p = none → Ex H H' → H' p = some (.lst [.str "name", .str "bound", .str "rounds", .str "number"]) → Q (.ref p) H') ∨ (w = "break" ∧ ∀ p H', H p = none → Ex H H' → H' p = some (.lst [.str "name", .str "rule", .str "bound", .str "rounds"]) → Q (.ref p) H'))
abbrev N_kinds_of : List Str := ["word"]
theorem sc_kinds_of : FnScope N_kinds_of ["word"] (defScope s_kinds_of) := ⟨rfl, rfl, rfl, by decide +kernel, rfl, by decide +kernel, by decide +kernel⟩
theorem ok_kinds_of (T : Txt P w K mg base) : Ok P w K mg base "kinds_of" (0 + 1) ["word"] (sp_kinds_of K) := by
  refine Ok.of T.f_kinds_of sc_kinds_of (fun _ _ _ _ _ _ us hl => match us, hl with | [_], _ => rfl) (fun vs H Q E h => ?_) (fun f cdv A outer s H vs Q E hr h => ?_)
  · obtain ⟨w', rfl, h⟩ := h
    rfl
  · obtain ⟨w', rfl, h⟩ := h
    refine ⟨_, (pss_cons (ps_if (PW.pt (pw_or (pt_cmpR op_eq (pv 0) pe_str (by first | rfl | exact nomark _)) (pw_or1 (pt_cmpR op_eq (pv 0) pe_str (by first | rfl | exact nomark _)))))
 (pss_one (ps_ret (peLst (pa_cons pe_str pa_nil))))
 pss_nil)
 (pss_cons (ps_if (pt_cmpR op_eq (pv 0) pe_str (by first | rfl | exact nomark _))
 (pss_one (ps_ret (peLst (pa_cons pe_str (pa_cons pe_str pa_nil)))))
 pss_nil)
 (pss_cons (ps_if (pt_cmpR op_eq (pv 0) pe_str (by first | rfl | exact nomark _))
 (pss_one (ps_ret (peLst (pa_cons pe_str (pa_cons pe_str (pa_cons pe_str pa_nil))))))
 pss_nil)
 (pss_cons (ps_if (PW.pt (pw_or (pt_cmpR op_eq (pv 0) pe_str (by first | rfl | exact nomark _)) (pw_or1 (pt_cmpR op_eq (pv 0) pe_str (by first | rfl | exact nomark _)))))
 (pss_one (ps_ret (peLst (pa_cons pe_str (pa_cons pe_str (pa_cons pe_str (pa_cons pe_str pa_nil)))))))
 pss_nil)
 (pss_cons (ps_if (pt_cmpR op_eq (pv 0) pe_str (by first | rfl | exact nomark _))
 (pss_one (ps_ret (peLst (pa_cons pe_str (pa_cons pe_str (pa_cons pe_str pa_nil))))))
 pss_nil)
 (pss_cons (ps_if (pt_cmpR op_eq (pv 0) pe_str (by first | rfl | exact nomark _))
 (pss_one (ps_ret (peLst (pa_cons pe_str (pa_cons pe_str (pa_cons pe_str (pa_cons pe_str pa_nil)))))))
 pss_nil)
 (pss_one (ps_ret pe_non)))))))), ?_⟩
    rcases h with ⟨rfl, kq⟩ | ⟨rfl, kq⟩
    · exact ⟨_, rfl, rfl, false, rfl, iteF ⟨_, rfl, rfl, false, rfl, iteF ⟨_, rfl, rfl, false, rfl, iteF ⟨_, rfl, rfl, false, rfl, iteF ⟨_, rfl, rfl, false, rfl, iteF ⟨_, rfl, rfl, false, rfl, iteF ⟨_, rfl, rfl, false, rfl, iteF ⟨_, rfl, rfl, true, rfl, iteT ⟨by show 4 ≤ 1000; decide, kq⟩⟩⟩⟩⟩⟩⟩⟩⟩
    · exact ⟨_, rfl, rfl, false, rfl, iteF ⟨_, rfl, rfl, false, rfl, iteF ⟨_, rfl, rfl, false, rfl, iteF ⟨_, rfl, rfl, false, rfl, iteF ⟨_, rfl, rfl, false, rfl, iteF ⟨_, rfl, rfl, true, rfl, iteT ⟨by show 4 ≤ 1000; decide, kq⟩⟩⟩⟩⟩⟩⟩
/-- what a search finds, as data, as a text -/
def brkD (kind : Str) (r : Rn) (hs : List Nat) : D := .tup (.str kind :: eR r :: hs.map fun h => .int (h : Nat))
def brkW (kind : Str) (hs : List Nat) : List Str := kind :: hs.map fun h => zS (h : Nat)
def brkS (kind : Str) (r : Rn) (hs : List Nat) : Str := Str.join " " (brkW kind hs) ++ " " ++ showR r
theorem brk_words {kind : Str} {hs : List Nat} (hk : (tl kind).length ≤ 10) (h2 : hs.length ≤ 2) (h4 : ∀ h ∈ hs, h < 10) : ((brkW kind hs).map (·.length)).sum + (brkW kind hs).length * (" " : Str).length ≤ 100 := by
  have h1 : (brkW kind hs).length ≤ 3 := by unfold brkW; rw [List.length_cons, List.length_map]; omega
  have h2 := strs_len (l := brkW kind hs) (B := 10) (fun x hx => by
    rcases List.mem_cons.mp hx with e | e
    · rw [e, len_tl]; exact hk
    · obtain ⟨h, hh, rfl⟩ := List.mem_map.mp e
      rw [z_small (h4 h hh)]; omega) h1
  have h3 : (" " : Str).length = 1 := by decide +kernel
  rw [h3]
  omega
theorem join_len {l : List Str} {B n : Nat} (h : ∀ x ∈ l, (tl x).length ≤ B) (hn : l.length ≤ n) : (Str.join " " l).length ≤ n * (B + 1) := by
  rw [len_tl, tl_join, show tl (" " : Str) = [32] from rfl]
  have h1 := joinL_len (l.map tl) B fun p hp => by
    obtain ⟨w, hw, rfl⟩ := List.mem_map.mp hp
    exact h w hw
  rw [List.length_map] at h1
  exact Nat.le_trans h1 (Nat.mul_le_mul_right _ hn)
def sp_shown_break (K : PySem.W.Frag) : Sp := fun vs H Q _ => ∃ (x : V), vs = [x] ∧ ((x = .non ∧ Q (.str "none") H) ∨ ∃ kind r hs, Rp K H (brkD kind r hs) x ∧ (tl kind).length ≤ 10 ∧ Valid r ∧ hs.length ≤ 2 ∧ (∀ h ∈ hs, h < 10) ∧ ∀ H', Ex H H' → Q (.str (brkS kind r hs)) H')
abbrev N_shown_break : List Str := ["found", "words", "hand"]
theorem sc_shown_break : FnScope N_shown_break ["found"] (defScope s_shown_break) := ⟨rfl, rfl, rfl, by decide +kernel, rfl, by decide +kernel, by decide +kernel⟩
theorem ok_shown_break (T : Txt P w K mg base) : Ok P w K mg base "shown_break" (4 + 1) ["found"] (sp_shown_break K) := by
  refine Ok.of T.f_shown_break sc_shown_break (fun _ _ _ _ _ _ us hl => match us, hl with | [_], _ => rfl) (fun vs H Q E h => ?_) (fun f cdv A outer s H vs Q E hr h => ?_)
  · obtain ⟨x, rfl, h⟩ := h
    rfl
  · obtain ⟨x, rfl, h⟩ := h
    refine ⟨_, (pss_cons (ps_if (pt_cmp (pc_isN (pv 0)))
 (pss_one (ps_ret pe_str))
 pss_nil)
 (pss_cons (ps_set (i := 1) sc_shown_break.nd rfl (by first | exact Or.inl rfl | exact Or.inr rfl) (pe_op opCatL (peLst (pa_cons (pe_ix (ixT (K := K) rfl) (pv 0) pe_int (fun _ _ => rfl)) pa_nil)) (pe_lc (own := [("hand", 2)]) rfl sc_shown_break.nd (piT (K := K) rfl (pe_slice (slAK (K := K) rfl) (pv 0) (po_some pe_int) po_none)) (blkOk_by (N := N_shown_break) (sc := defScope s_shown_break) (own := [("hand", 2)]) (by decide +kernel)) (fun _ _ _ _ _ => (pg_name (i := 2) sc_shown_break.nd rfl (by first | exact Or.inl rfl | exact Or.inr rfl))) (fun _ _ _ _ _ => pts_nil) (fun _ _ _ _ _ => (pe_callTy call_str_int (by rfl) T.n_str bt_str (pa_cons (pv 2) pa_nil))))))
 (pss_one (ps_ret (pe_op op_add_str (pe_op op_add_str (pe_join pe_str (pv 1)) pe_str) (pc (ok_show_run T) hr (pa_cons (pe_ix (ixT (K := K) rfl) (pv 0) pe_int (fun _ _ => rfl)) pa_nil))))))), ?_⟩
    rcases h with ⟨rfl, kq⟩ | ⟨kind, r, hs, hx, hk, hv, hl2, hs10, kq⟩
    · exact ⟨_, rfl, _, rfl, iteT kq⟩
    · have fl4 := falls_len hv
      obtain ⟨a, xs, rfl, h1, h2⟩ := Rp.tup_iff.mp hx
      obtain ⟨x1, r1, rfl, g1, h3⟩ := RpL.cons_iff.mp h2
      obtain ⟨x2, r2, rfl, g2, h5⟩ := RpL.cons_iff.mp h3
      have e1 := Rp.str_iff.mp g1
      subst e1
      have h2' : RpL K H ((hs.map fun h => ((h : Nat) : Int)).map D.int) r2 := by rw [List.map_map]; exact h5
      have e2 := RpL.of_ints h2'
      rw [List.map_map] at e2
      have e2' : r2 = hs.map fun h => V.int (h : Nat) := e2
      subst e2'
      refine ⟨_, rfl, _, rfl, iteF ?_⟩
      refine ⟨_, rfl, _, _, 0, _, rfl, rfl, h1, atI_nat (j := 0) rfl, by show 1 ≤ 1000; decide, fun l1 H1 hl1 e1 gl1 => ?_⟩
      refine ⟨_, rfl, _, rfl, ?_⟩
      dsimp only [tNoPart]
      refine slA_go (ex_t e1 h1) fun p2 H2 e2 s2 => ?_
      have ec : cutV (V.str kind :: x2 :: hs.map fun h => V.int (h : Nat)) (some 2) none = hs.map fun h => V.int (h : Nat) := by
        have := cutV_from (V.str kind :: x2 :: hs.map fun h => V.int (h : Nat)) 2
        exact this
      rw [ec] at s2
      refine ⟨p2, rfl, ⟨_, s2⟩, fun Dl hD => ?_⟩
      refine lc_tup (K := K) (a := p2) (xs := hs.map fun h => V.int (h : Nat)) (fun i H' => Ex H2 H' ∧ H' Dl = some (.lst (((hs.take i).map fun h => zS (h : Nat)).map V.str))) ⟨Ex.new hD, upd_same⟩ (fun i H' _ ⟨e, _⟩ => ex_t e s2) (fun i y H' hi ⟨e3, g3⟩ => ?_) (fun H3 ⟨e3, g3⟩ => ?_)
      · rw [List.getElem?_map] at hi
        obtain ⟨h, hh, rfl⟩ := Option.map_eq_some_iff.mp hi
        have := hs10 h (List.mem_of_getElem? hh)
        refine ⟨rfl, _, rfl, _, rfl, n_log (by omega), _, g3, sz_lt (by rw [List.length_map, List.length_map, List.length_take]; omega), e3.mut hD, ?_⟩
        rw [upd_same, List.take_add_one, hh, Option.toList_some, List.map_append, List.map_append]
        rfl
      · rw [List.length_map, List.take_length] at g3
        refine ⟨l1, Dl, _, _, rfl, rfl, e3 _ _ (e2 _ _ gl1), g3, by simp; omega, fun p4 H4 hp4 e4 g4 => ?_⟩
        have hw : ([V.str kind] ++ (hs.map fun h => zS (h : Nat)).map V.str) = (brkW kind hs).map V.str := rfl
        rw [hw] at g4
        have bw := brk_words hk hl2 hs10
        have e14 := ((e1.trans e2).trans e3).trans e4
        have jl : (Str.join " " (brkW kind hs)).length ≤ 33 := by
          have := join_len (l := brkW kind hs) (B := 10) (n := 3) (fun x hx => by
            rcases List.mem_cons.mp hx with e | e
            · rw [e]; exact hk
            · obtain ⟨h, hh, rfl⟩ := List.mem_map.mp e
              rw [← len_tl, z_small (hs10 h hh)]; omega) (by unfold brkW; rw [List.length_cons, List.length_map]; omega)
          exact this
        have sl := show_len hv fl4
        have sp1 : (" " : Str).length = 1 := by decide +kernel
        refine ⟨⟨_, rfl⟩, _, rfl, _, p4, brkW kind hs, rfl, rfl, .inl (SqL.of g4), by omega, ?_⟩
        refine ⟨_, _, rfl, rfl, ?_, ?_⟩
        · rw [join_eq]; exact sz_of (by rw [sp1]; omega)
        refine ⟨_, rfl, _, _, 1, _, rfl, rfl, ex_t e14 h1, atI_nat (j := 1) rfl, r, x2, rfl, g2.up e14, hv, fun H5 e5 => ?_⟩
        refine ⟨_, _, rfl, rfl, ?_, ?_⟩
        · rw [join_eq]; exact sz_of (by rw [len_app, sp1]; omega)
        · have := kq H5 (e14.trans e5)
          rw [join_eq]
          exact this
end
end RF

set_option Elab.async false
set_option linter.all false
set_option maxRecDepth 100000
set_option maxHeartbeats 4000000
namespace RF
open PySem PySem.Spec PyProof.Rows L2 Evl RM RC TL LamX NdefX
/-! ### methods of the desk -/
structure OkM (P : Program) (w : World) (K : PySem.W.Frag) (mg : Str → Option Value) (base : Heap) (m : Str) (k : Nat) (ps : List Str) (sp : Sp) : Prop where
  ex : ∃ f fd, FnOk P w K mg base CX0 k f fd ps sp ∧ Meth K (He.ga K "Desk") m f ∧ Binds K fd ps []
section
variable {P : Program} {w : World} {K : PySem.W.Frag} {mg : Str → Option Value} {base : Heap}
theorem OkM.of {m q : Str} {st : Stmt} {N ps : List Str} {k : Nat} {sp : Sp} (F : AtM K m q st) (S : FnScope N ps (defScope st))
    (hbind : ∀ (kV doc pm : Value) (an : Option Addr) (cdv ct : Value) (us : List Value), us.length = ps.length → bindArgs (PySem.W.fnOf m q (defArgs st) (defBody st) (defScope st) .none kV doc pm an cdv ct) ⟨us, []⟩ = pure (ps.zip us))
    (len : ∀ vs H Q E, sp vs H Q E → vs.length = ps.length)
    (hbody : ∀ (f : Addr) (cdv : Value) (A : Around) (outer : List Env) (s : Shared) (H : Hp) (vs : List V) (Q : VK) (E : XK), Room k (A.deeper (envOfC q (defScope st) s.heap.objs.size f cdv)) → sp vs H Q E →
      ∃ t, PSs (cxOf CX0 P w K mg base N q (defScope st) f cdv A outer s H E).nox (defBody st) t ∧ t { nx := fun _ H' => Q .non H', rt := Q } (start N vs) H) : OkM P w K mg base m (k + 1) ps sp := by
  obtain ⟨f, fd, hm, F⟩ := F
  refine ⟨f, fd, F.ok S len fun cdv A outer s H vs Q E hr h => ?_, hm, F.bindsN hbind⟩
  obtain ⟨t, h1, h2⟩ := hbody f cdv A outer s H vs Q E hr h
  exact ⟨t, h1.nox, h2⟩
variable {X : Cx}
theorem pm {j k : Nat} {m : Str} {ps : List Str} {sp : Sp} {o e : Expr} {es : List Expr} {ta : TE} {t : TA} {apos pos : Pos} {pl : Sem Bool} (G : OkM X.prog X.w X.K X.mg X.base m k ps sp) (ho : PE X o ta) (hr : Room j X.A) (c : Cls X.K (He.ga X.K "Desk")) (ha : PA X (e :: es) t) (hk : k ≤ j := by decide)
    (hst : starEach (e :: es) X.env = (false, eval e X.env) :: starEach es X.env := by rfl) (hpl : (backTo pos (starEach es X.env)).any (·.1) = false := by rfl)
    (ht : eval (.Call (.Attribute o m apos) (e :: es) [] pos) X.env = (do
      let ov ← eval o X.env
      standAt apos.atName
      let (f, first) ← holding [ov] (getMethod ov m pl)
      callWith pos f first (backTo pos (starEach (e :: es) X.env)) (backToKw pos (keywordEach [] X.env))) := by rfl) :
    PE X (.Call (.Attribute o m apos) (e :: es) [] pos) (tMeth (He.ga X.K "Desk") m sp [] E0 ta t) := by
  refine ⟨fun pins s σ H Q I h => ?_⟩
  obtain ⟨f, fd, F, h1, h3⟩ := G.ex
  exact (pe_meth ho c h1 F (hr.mono hk) h3 .nil pass0 ha hst hpl ht).run pins s σ H Q I h
/-- the desk at d, its dict at kd -/
def DeskAt (K : PySem.W.Frag) (H : Hp) (d kd : Addr) (kvs : List (Key × V)) : Prop := ∃ dx, H d = some (.ins (He.ga K "Desk") dx [("kept_runs", .ref kd)]) ∧ H kd = some (.dK kvs)
theorem DeskAt.up {H H' : Hp} {d kd : Addr} {kvs : List (Key × V)} (h : DeskAt K H d kd kvs) (e : Ex H H') : DeskAt K H' d kd kvs := by
  obtain ⟨dx, h1, h2⟩ := h
  exact ⟨dx, e _ _ h1, e _ _ h2⟩
theorem DeskAt.ext {H H' : Hp} {d kd : Addr} {kvs : List (Key × V)} (h : DeskAt K H d kd kvs) (e : ExtN H H') : DeskAt K H' d kd kvs := by
  obtain ⟨dx, h1, h2⟩ := h
  exact ⟨dx, e _ _ h1 (fun ps z => by cases z), e _ _ h2 fun ps z => by cases z⟩
def rowRun (c : Nat) (r : Rn) : Str := "run " ++ ⟨#[c]⟩ ++ " " ++ showR r
theorem tl_run : tl ("run " : Str) = [114, 117, 110, 32] := by decide +kernel
theorem row_run4 (c : Nat) (r : Rn) : cutS (rowRun c r) (some ((4 : Nat) : Int)) none = ⟨#[c]⟩ ++ " " ++ showR r := ext_tl (by
  rw [cutS_from]
  unfold rowRun
  rw [tl_append, tl_append, tl_append, tl_run, tl_append, tl_append]
  rfl)
theorem row_run0 (c : Nat) (r : Rn) : cutS (rowRun c r) none (some ((4 : Nat) : Int)) = "run " := ext_tl (by
  rw [cutS_to]
  unfold rowRun
  rw [tl_append, tl_append, tl_append, tl_run]
  rfl)
theorem row_len {c : Nat} {r : Rn} (v : Valid r) : (rowRun c r).length ≤ 2000 := by
  have h1 := show_len v (falls_len v)
  unfold rowRun
  rw [len_app, len_app, len_app, one_len, show ("run " : Str).length = 4 from by decide +kernel, show (" " : Str).length = 1 from by decide +kernel]
  omega
theorem part_row {c : Nat} (h : 97 ≤ c) (b : Str) : Txt.partition ((⟨#[c]⟩ : Str) ++ " " ++ b) " " = ((⟨#[c]⟩ : Str), (" " : Str), b) := by
  have hz : 32 ∉ tl (⟨#[c]⟩ : Str) := fun z => by
    have z' : 32 ∈ [c] := z
    have := List.mem_singleton.mp z'
    omega
  exact partition_app (y := " ") (s := 32) (S := []) (a := ⟨#[c]⟩) (b := b) rfl hz
def sp_desk_put_down (K : PySem.W.Frag) : Sp := fun vs H Q _ => ∃ (d kd : Addr) (kvs : List (Key × V)) (c : Nat) (r : Rn), vs = [.ref d, .str (rowRun c r)] ∧ DeskAt K H d kd kvs ∧ kvs.length ≤ 1000 ∧ 97 ≤ c ∧ c ≤ 122 ∧ Valid r ∧ ∀ y H', ExB kd H H' → H' kd = some (.dK (putK kvs (Sum.inr ⟨#[c]⟩) y)) → Rp K H' (eR r) y → Q (.str "ok") H'
abbrev N_desk_put_down : List Str := ["self", "row", "name", "blank", "text"]
theorem sc_desk_put_down : FnScope N_desk_put_down ["self", "row"] (defScope s_desk_put_down) := ⟨rfl, rfl, rfl, by decide +kernel, rfl, by decide +kernel, by decide +kernel⟩
theorem ok_desk_put_down (T : Txt P w K mg base) : OkM P w K mg base "put_down" (5 + 1) ["self", "row"] (sp_desk_put_down K) := by
  refine OkM.of T.f_desk_put_down sc_desk_put_down (fun _ _ _ _ _ _ us hl => match us, hl with | [_, _], _ => rfl) (fun vs H Q E h => ?_) (fun f cdv A outer s H vs Q E hr h => ?_)
  · obtain ⟨d, kd, kvs, c, r, rfl, hd, hkv, h1, h2, hv, kq⟩ := h
    rfl
  · obtain ⟨d, kd, kvs, c, r, rfl, hd, hkv, h1, h2, hv, kq⟩ := h
    refine ⟨_, (pss_cons (ps_asg (pePart (pe_slice sl_str (pv 1) (po_some pe_int) po_none) pe_str) (pgTup (K := K) (n := 3) rfl rfl (pgs_cons (pg_name (i := 2) sc_desk_put_down.nd rfl (by first | exact Or.inl rfl | exact Or.inr rfl)) (pgs_cons (pg_name (i := 3) sc_desk_put_down.nd rfl (by first | exact Or.inl rfl | exact Or.inr rfl)) (pgs_cons (pg_name (i := 4) sc_desk_put_down.nd rfl (by first | exact Or.inl rfl | exact Or.inr rfl)) pgs_nil)))))
 (pss_cons (ps_if (PW.pt (pw_or (pt_cmpR op_eq (pv 3) pe_str (by first | rfl | exact nomark _)) (pw_or1 (pt_not (pt_val (pc (ok_is_word T) hr (pa_cons (pv 2) pa_nil)))))))
 pss_never
 pss_nil)
 (pss_cons (ps_dput (hu_of hr) (pe_fld (pv 0) rfl) (pv 2) (pc (ok_read_run T) hr (pa_cons (pv 4) pa_nil)) rfl)
 (pss_one (ps_ret pe_str))))), ?_⟩
    obtain ⟨dx, g1, g2⟩ := hd
    have hrl := row_len (c := c) hv
    refine ⟨_, rfl, _, rfl, ?_⟩
    dsimp only [tNoPart]
    refine ⟨_, rfl, sz_of (by omega), ⟨_, rfl⟩, ?_⟩
    have e4 : cutS (rowRun c r) (some (4 : Int)) none = ⟨#[c]⟩ ++ " " ++ showR r := row_run4 c r
    rw [e4]
    refine ⟨_, _, rfl, rfl, by decide +kernel, ?_, fun p H1 hp e1 gp => ?_⟩
    · have := cutS_length (rowRun c r) (some ((4 : Nat) : Int)) none
      rw [row_run4] at this
      omega
    have hpart := part_row (c := c) (by omega) (showR r)
    rw [hpart] at gp
    refine ⟨p, _, rfl, st_of gp, rfl, _, _, rfl, _, _, rfl, _, _, rfl, rfl, ?_⟩
    refine ⟨_, rfl, rfl, false, congrArg V.bl (show decide (V.str " " = V.str "") = false from by decide +kernel), iteF ⟨_, rfl, c, rfl, h1, h2, fun H2 e2 => ⟨_, rfl, iteF ?_⟩⟩⟩
    have e12 := e1.trans e2
    refine ⟨_, rfl, r, rfl, hv, fun y H3 e3 hy => ?_⟩
    have e13 := e12.trans e3
    refine ⟨_, rfl, d, _, dx, _, _, rfl, e13 _ _ g1, T.cl, T.noK, rfl, _, rfl, kd, _, rfl, DPut.k (k := Sum.inr ⟨#[c]⟩) (e13 _ _ g2) (sz_lt (by omega)), ?_⟩
    refine kq y _ ((ExB.of e13).trans ExB.set) upd_same (hy.upT (ExT.dk (e13 _ _ g2)))
def sp_desk_run_of (K : PySem.W.Frag) : Sp := fun vs H Q _ => ∃ (d kd : Addr) (kvs : List (Key × V)) (n : Str) (y : V), vs = [.ref d, .str n] ∧ DeskAt K H d kd kvs ∧ valV kvs (Sum.inr n) = some y ∧ Q y H
abbrev N_desk_run_of : List Str := ["self", "name"]
theorem sc_desk_run_of : FnScope N_desk_run_of ["self", "name"] (defScope s_desk_run_of) := ⟨rfl, rfl, rfl, by decide +kernel, rfl, by decide +kernel, by decide +kernel⟩
theorem ok_desk_run_of (T : Txt P w K mg base) : OkM P w K mg base "run_of" (0 + 1) ["self", "name"] (sp_desk_run_of K) := by
  refine OkM.of T.f_desk_run_of sc_desk_run_of (fun _ _ _ _ _ _ us hl => match us, hl with | [_, _], _ => rfl) (fun vs H Q E h => ?_) (fun f cdv A outer s H vs Q E hr h => ?_)
  · obtain ⟨d, kd, kvs, n, y, rfl, hd, hy, kq⟩ := h
    rfl
  · obtain ⟨d, kd, kvs, n, y, rfl, hd, hy, kq⟩ := h
    refine ⟨_, (pss_cons (ps_if (pt_cmp (pc_dnotin (hu_of hr) (pv 1) (pe_fld (pv 0) rfl)))
 pss_never
 pss_nil)
 (pss_one (ps_ret (pe_dget (hu_of hr) (pe_fld (pv 0) rfl) (pv 1) (fun _ _ => rfl))))), ?_⟩
    obtain ⟨dx, g1, g2⟩ := hd
    refine ⟨_, rfl, _, rfl, d, _, dx, _, _, rfl, g1, T.cl, T.noK, rfl, kd, _, rfl, DGet.k (k := Sum.inr n) g2, ?_⟩
    rw [hy]
    refine ⟨_, rfl, iteF ?_⟩
    refine ⟨_, rfl, d, _, dx, _, _, rfl, g1, T.cl, T.noK, rfl, _, rfl, kd, y, rfl, ?_, kq⟩
    rw [← hy]
    exact DGet.k (k := Sum.inr n) g2
end
end RF

set_option Elab.async false
set_option linter.all false
set_option maxRecDepth 100000
set_option maxHeartbeats 2000000
namespace RF
open PySem PySem.Spec PyProof.Rows L2 Evl RM RC TL LamX NdefX
/-- what a search's text says -/
def BrkT (f : AV → Option Int) (n b k : Nat) (kind : Str) (r : Rn) (hs : List Nat) : Prop :=
  Good n b r ∧ ((kind = "torn" ∧ ∃ h0 h1, hs = [h0, h1] ∧ h0 < h1 ∧ h0 ∈ whoUp r k ∧ h1 ∈ whoUp r k ∧ toldAt f r k h0 ≠ toldAt f r k h1) ∨
  (kind = "strange" ∧ ∃ (h0 : Nat) (c m : Int), hs = [h0] ∧ h0 ∈ whoUp r k ∧ r.1 = List.replicate n c ∧ toldAt f r k h0 = some m ∧ m ≠ c))
theorem brk_of {f : AV → Option Int} {n b k : Nat} {d : D} (h : BreakOK f n b k d) : ∃ kind r hs, d = brkD kind r hs ∧ BrkT f n b k kind r hs := by
  rcases h with ⟨r, h0, h1, rfl, g, h⟩ | ⟨r, h0, c, m, rfl, g, h⟩
  · exact ⟨"torn", r, [h0, h1], rfl, g, .inl ⟨rfl, h0, h1, rfl, h⟩⟩
  · exact ⟨"strange", r, [h0], rfl, g, .inr ⟨rfl, h0, c, m, rfl, h⟩⟩
theorem brk_small {f : AV → Option Int} {n b k : Nat} {kind : Str} {r : Rn} {hs : List Nat} (h : BrkT f n b k kind r hs) : (tl kind).length ≤ 10 ∧ Valid r ∧ hs.length ≤ 2 ∧ ∀ h ∈ hs, h < 10 := by
  obtain ⟨g, h⟩ := h
  have h4 := g.v.hi
  rcases h with ⟨rfl, h0, h1, rfl, _, m0, m1, _⟩ | ⟨rfl, h0, c, m, rfl, m0, _⟩
  · refine ⟨by decide +kernel, g.v, Nat.le_refl _, fun h hh => ?_⟩
    have q0 := (whoUp_mem.mp m0).1
    have q1 := (whoUp_mem.mp m1).1
    simp only [List.mem_cons, List.not_mem_nil, or_false] at hh
    omega
  · refine ⟨by decide +kernel, g.v, by show 1 ≤ 2; omega, fun h hh => ?_⟩
    have q0 := (whoUp_mem.mp m0).1
    rw [List.mem_singleton.mp hh]
    omega
/-- what the desk knows by a name -/
structure Kept (K : PySem.W.Frag) (H : Hp) (d kd : Addr) (kvs : List (Key × V)) (c : Nat) (r : Rn) (n b k : Nat) : Prop where
  at_ : DeskAt K H d kd kvs
  lo : 97 ≤ c
  hi : c ≤ 122
  has : ∃ y, valV kvs (Sum.inr ⟨#[c]⟩) = some y ∧ Rp K H (eR r) y
  g : Good n b r
  bn : b + 2 ≤ n
  k2 : k ≤ 2
  w : k + wasteOf r ≤ b
theorem Kept.up {K : PySem.W.Frag} {H H' : Hp} {d kd : Addr} {kvs : List (Key × V)} {c : Nat} {r : Rn} {n b k : Nat} (h : Kept K H d kd kvs c r n b k) (e : Ex H H') : Kept K H' d kd kvs c r n b k := by
  obtain ⟨y, h1, h2⟩ := h.has
  exact ⟨h.at_.up e, h.lo, h.hi, ⟨y, h1, h2.up e⟩, h.g, h.bn, h.k2, h.w⟩
section
variable {P : Program} {w : World} {K : PySem.W.Frag} {mg : Str → Option Value} {base : Heap} {c1 P1 c2 P2 : Addr}
def sp_played (K : PySem.W.Frag) (P1 P2 : Addr) : Sp := fun vs H Q _ => ∃ (d kd : Addr) (kvs : List (Key × V)) (c : Nat) (r : Rn) (n b k : Nat) (p : Addr), vs = [.ref d, .ref p] ∧ Kept K H d kd kvs c r n b k ∧
  ((∃ i : Int, H p = some (.lst [.str "chain", .str ⟨#[c]⟩, .str ⟨#[48 + b]⟩, .str ⟨#[48 + k]⟩, .str (zS i)]) ∧ i.natAbs < 10 ^ 60 ∧ ∀ H' (m : Nat), Ex H H' → 1 ≤ m → m ≤ 1100 → Q (.str (zS (m : Nat))) H') ∨
  (∃ wd, H p = some (.lst [.str "break", .str ⟨#[c]⟩, .str (wdS wd), .str ⟨#[48 + b]⟩, .str ⟨#[48 + k]⟩]) ∧ TabsN (Tl P1 P2) H ∧ ((∀ h ∈ whoUp r k, toldAt (RM.rule wd b) r k h = none) → ∀ H', ExtN H H' → TabsN (Tl P1 P2) H' → Q (.str "none") H') ∧
    ∀ kind r' hs H', ExtN H H' → TabsN (Tl P1 P2) H' → (∃ h ∈ whoUp r k, toldAt (RM.rule wd b) r k h ≠ none) → BrkT (RM.rule wd b) n b k kind r' hs → Q (.str (brkS kind r' hs)) H'))
abbrev N_desk_played : List Str := ["self", "words", "run", "numbers", "bound", "rule"]
theorem sc_desk_played : FnScope N_desk_played ["self", "words"] (defScope s_desk_played) := ⟨rfl, rfl, rfl, by decide +kernel, rfl, by decide +kernel, by decide +kernel⟩
theorem ok_desk_played (B : Tbs K mg base c1 P1 c2 P2) (T : Txt P w K mg base) : OkM P w K mg base "played" (13 + 1) ["self", "words"] (sp_played K P1 P2) := by
  refine OkM.of T.f_desk_played sc_desk_played (fun _ _ _ _ _ _ us hl => match us, hl with | [_, _], _ => rfl) (fun vs H Q E h => ?_) (fun f cdv A outer s H vs Q E hr h => ?_)
  · obtain ⟨d, kd, kvs, c, r, n, b, k, p, rfl, hk, hcase⟩ := h
    rfl
  · obtain ⟨d, kd, kvs, c, r, n, b, k, p, rfl, hk, hcase⟩ := h
    refine ⟨_, (pss_cons (ps_set (i := 2) sc_desk_played.nd rfl (by first | exact Or.inl rfl | exact Or.inr rfl) (pm (ok_desk_run_of T) (pv 0) hr T.cl (pa_cons (pe_ix (ixL (K := K) rfl) (pv 1) pe_int (fun _ _ => rfl)) pa_nil)))
 (pss_cons (ps_if (pt_cmpR op_eq (pe_ix (ixL (K := K) rfl) (pv 1) pe_int (fun _ _ => rfl)) pe_str (by first | rfl | exact nomark _))
 (pss_cons (ps_set (i := 3) sc_desk_played.nd rfl (by first | exact Or.inl rfl | exact Or.inr rfl) (pe_op (opRepT (K := K) rfl) (peTup (pa_cons (pc (ok_read_number T) hr (pa_cons (pe_ix (ixL (K := K) rfl) (pv 1) pe_int (fun _ _ => rfl)) pa_nil)) pa_nil)) (pc (ok_many_hands T) hr (pa_cons (pv 2) pa_nil))))
 (pss_one (ps_ret (pe_callTy call_str_int (by rfl) T.n_str bt_str (pa_cons (pe_callB (cLen (K := K) rfl) (by rfl) T.n_len bt_len (pa_cons (pc (ok_chain_of T) hr (pa_cons (pv 2) (pa_cons (pe_callTy call_int_str (by rfl) T.n_int bt_int (pa_cons (pe_ix (ixL (K := K) rfl) (pv 1) pe_int (fun _ _ => rfl)) pa_nil)) (pa_cons (pe_callTy call_int_str (by rfl) T.n_int bt_int (pa_cons (pe_ix (ixL (K := K) rfl) (pv 1) pe_int (fun _ _ => rfl)) pa_nil)) (pa_cons (pv 3) pa_nil))))) pa_nil)) pa_nil)))))
 pss_nil)
 (pss_cons (ps_set (i := 4) sc_desk_played.nd rfl (by first | exact Or.inl rfl | exact Or.inr rfl) (pe_callTy call_int_str (by rfl) T.n_int bt_int (pa_cons (pe_ix (ixL (K := K) rfl) (pv 1) pe_int (fun _ _ => rfl)) pa_nil)))
 (pss_cons (ps_set (i := 5) sc_desk_played.nd rfl (by first | exact Or.inl rfl | exact Or.inr rfl) (pc (ok_rule_by T B) hr (pa_cons (pe_ix (ixL (K := K) rfl) (pv 1) pe_int (fun _ _ => rfl)) (pa_cons (pv 4) pa_nil))))
 (pss_cons (ps_if (pt_cmpR op_eq (pe_ix (ixL (K := K) rfl) (pv 1) pe_int (fun _ _ => rfl)) pe_str (by first | rfl | exact nomark _))
 pss_never
 pss_nil)
 (pss_one (ps_ret (pc (ok_shown_break T) hr (pa_cons (pc (ok_broken T) hr (pa_cons (pv 5) (pa_cons (pv 2) (pa_cons (pv 4) (pa_cons (pe_callTy call_int_str (by rfl) T.n_int bt_int (pa_cons (pe_ix (ixL (K := K) rfl) (pv 1) pe_int (fun _ _ => rfl)) pa_nil)) pa_nil))))) pa_nil))))))))), ?_⟩
    obtain ⟨y, hy1, hy2⟩ := hk.has
    have hg := hk.g
    have h4 := hg.v.hi
    have hn := hg.n
    have hlo := hg.v.lo
    have bn := hk.bn
    have hk2 := hk.k2
    have hw := hk.w
    obtain ⟨dx, gd1, gd2⟩ := hk.at_
    rcases hcase with ⟨i, gp, hi, kq⟩ | ⟨wd, gp, hT, kn, kb⟩
    · refine ⟨_, rfl, d, dx, _, rfl, gd1, rfl, _, rfl, _, _, 1, _, rfl, rfl, SqL.of gp, atI_nat (j := 1) rfl, d, kd, kvs, _, y, rfl, hk.at_, hy1, ?_⟩
      refine ⟨_, rfl, _, _, 0, _, rfl, rfl, SqL.of gp, atI_nat (j := 0) rfl, rfl, true, rfl, iteT ?_⟩
      refine ⟨_, rfl, _, _, 4, _, rfl, rfl, SqL.of gp, atI_nat (j := 4) rfl, i, rfl, hi, by show 1 ≤ 1000; decide, fun t2 H3 ht2 e3 g3 => ?_⟩
      refine ⟨_, rfl, r, y, rfl, hy2.up e3, t2, r.1.length, _, rfl, rfl, st_of g3, by simp, by omega, by omega, by show 1 ≤ 1000; decide, fun u hu => ?_⟩
      have e4 : Ex H3 (upd H3 u (.tup (List.replicate ((r.1.length : Nat) : Int).toNat [V.int i]).flatten)) := Ex.new hu
      have g4 : (upd H3 u (.tup (List.replicate ((r.1.length : Nat) : Int).toNat [V.int i]).flatten)) u = some (.tup ((List.replicate n i).map V.int)) := by
        rw [upd_same, Int.toNat_natCast, hn]
        congr 2
        rw [List.map_replicate]
        have : ∀ (m : Nat) (v : V), (List.replicate m [v]).flatten = List.replicate m v := by
          intro m v
          induction m with
          | zero => rfl
          | succ m ih => rw [List.replicate_succ, List.flatten_cons, ih]; rfl
        exact this _ _
      generalize upd H3 u (.tup (List.replicate ((r.1.length : Nat) : Int).toNat [V.int i]).flatten) = H4 at e4 g4
      have e34 := e3.trans e4
      have gp4 := e34 _ _ gp
      refine ⟨_, rfl, _, rfl, _, _, 2, _, rfl, rfl, SqL.of gp4, atI_nat (j := 2) rfl, _, _, rfl, dig_int (by omega), by rw [one_len]; omega, ?_⟩
      refine ⟨_, rfl, _, _, 3, _, rfl, rfl, SqL.of gp4, atI_nat (j := 3) rfl, _, _, rfl, dig_int (by omega), by rw [one_len]; omega, ?_⟩
      refine ⟨_, rfl, n, b, k, r, List.replicate n i, y, _, rfl, hy2.up e34, .tup (st_of g4) (RpL.ints _), hg, List.length_replicate, fun z hz => by rw [(List.mem_replicate.mp hz).2]; exact hi, bn, hk2, hw, fun q H5 l hq e5 lr pth ll => ?_⟩
      obtain ⟨xs, px, rx⟩ := lr
      have lx := LR.len rx
      have lp := pth.pos
      refine ⟨q, xs, rfl, .inl (SqL.of px), _, rfl, n_log (by omega), ?_⟩
      have := kq H5 l.length (e34.trans e5) lp ll
      rw [lx]
      exact this
    · refine ⟨_, rfl, d, dx, _, rfl, gd1, rfl, _, rfl, _, _, 1, _, rfl, rfl, SqL.of gp, atI_nat (j := 1) rfl, d, kd, kvs, _, y, rfl, hk.at_, hy1, ?_⟩
      refine ⟨_, rfl, _, _, 0, _, rfl, rfl, SqL.of gp, atI_nat (j := 0) rfl, rfl, false, rfl, iteF ?_⟩
      refine ⟨_, rfl, _, _, 3, _, rfl, rfl, SqL.of gp, atI_nat (j := 3) rfl, _, _, rfl, dig_int (by omega), by rw [one_len]; omega, ?_⟩
      refine ⟨_, rfl, _, _, 2, _, rfl, rfl, SqL.of gp, atI_nat (j := 2) rfl, _, rfl, wd, b, rfl, hT, fun f2 H2 e2 T2 hf2 => ?_⟩
      have gp2 := e2 _ _ gp (fun ps z => by cases z)
      have hy3 : Rp K H2 (eR r) y := hy2.upT fun a xs h => by
        rcases h with h | ⟨u, h⟩
        · exact .inl (e2 _ _ h fun ps z => by cases z)
        · exact .inr ⟨u, e2 _ _ h fun ps z => by cases z⟩
      refine ⟨_, rfl, _, _, 0, _, rfl, rfl, SqL.of gp2, atI_nat (j := 0) rfl, rfl, false, rfl, iteF ?_⟩
      refine ⟨_, rfl, _, rfl, _, rfl, _, rfl, _, _, 4, _, rfl, rfl, SqL.of gp2, atI_nat (j := 4) rfl, _, _, rfl, dig_int (by omega), by rw [one_len]; omega, ?_⟩
      refine ⟨n, b, k, wd, f2, r, y, rfl, hf2, hy3, hg, bn, hk2, hw, fun hall H3 e3 => ⟨.non, rfl, .inl ⟨rfl, kn hall H3 (e2.trans (extN_of e3)) (T2.ext e3)⟩⟩, fun z H3 dd e3 hex rz bk => ?_⟩
      obtain ⟨kind, r', hs, rfl, bt⟩ := brk_of bk
      obtain ⟨s1, s2, s3, s4⟩ := brk_small bt
      exact ⟨z, rfl, .inr ⟨kind, r', hs, rz, s1, s2, s3, s4, fun H4 e4 => kb kind r' hs H4 (e2.trans (extN_of (e3.trans e4))) (T2.ext (e3.trans e4)) hex bt⟩⟩
end
end RF

set_option Elab.async false
set_option linter.all false
set_option maxRecDepth 100000
set_option maxHeartbeats 2000000
namespace RF
open PySem PySem.Spec PyProof.Rows L2 Evl RM RC TL LamX NdefX
def rowChain (c b k : Nat) (i : Int) : Str := "chain " ++ ⟨#[c]⟩ ++ " " ++ zS (b : Nat) ++ " " ++ zS (k : Nat) ++ " " ++ zS i
def rowBreak (c : Nat) (wd : Word) (b k : Nat) : Str := "break " ++ ⟨#[c]⟩ ++ " " ++ wdS wd ++ " " ++ zS (b : Nat) ++ " " ++ zS (k : Nat)
def wsChain (c b k : Nat) (i : Int) : List Str := ["chain", ⟨#[c]⟩, zS (b : Nat), zS (k : Nat), zS i]
def wsBreak (c : Nat) (wd : Word) (b k : Nat) : List Str := ["break", ⟨#[c]⟩, wdS wd, zS (b : Nat), zS (k : Nat)]
theorem chain_join (c b k : Nat) (i : Int) : rowChain c b k i = Str.join " " (wsChain c b k i) := ext_tl (by
  unfold rowChain wsChain
  rw [tl_join]
  simp only [tl_append, List.map_cons, List.map_nil, joinL]
  rw [show tl ("chain " : Str) = tl ("chain" : Str) ++ tl (" " : Str) from by decide +kernel]
  simp only [List.append_assoc])
theorem break_join (c : Nat) (wd : Word) (b k : Nat) : rowBreak c wd b k = Str.join " " (wsBreak c wd b k) := ext_tl (by
  unfold rowBreak wsBreak
  rw [tl_join]
  simp only [tl_append, List.map_cons, List.map_nil, joinL]
  rw [show tl ("break " : Str) = tl ("break" : Str) ++ tl (" " : Str) from by decide +kernel]
  simp only [List.append_assoc])
theorem wd_ok (wd : Word) : 32 ∉ tl (wdS wd) ∧ (tl (wdS wd)).length ≤ 10 := by cases wd <;> decide +kernel
theorem chain_ws {c b k : Nat} {i : Int} (h : 97 ≤ c) (hi : i.natAbs < 10 ^ 60) (hb : b < 10) (hk : k < 10) : ∀ w ∈ wsChain c b k i, 32 ∉ tl w ∧ (tl w).length ≤ 61 := fun w hw => by
  unfold wsChain at hw
  simp only [List.mem_cons, List.not_mem_nil, or_false] at hw
  rcases hw with rfl | rfl | rfl | rfl | rfl
  · decide +kernel
  · refine ⟨fun z => ?_, by show 1 ≤ 61; omega⟩
    have z' : 32 ∈ [c] := z
    have := List.mem_singleton.mp z'
    omega
  · rw [← len_tl, z_small hb, tl_z]
    exact ⟨z_free (by omega), by omega⟩
  · rw [← len_tl, z_small hk, tl_z]
    exact ⟨z_free (by omega), by omega⟩
  · rw [tl_z]
    exact ⟨z_free (by omega), zL_len hi⟩
theorem break_ws {c b k : Nat} {wd : Word} (h : 97 ≤ c) (hb : b < 10) (hk : k < 10) : ∀ w ∈ wsBreak c wd b k, 32 ∉ tl w ∧ (tl w).length ≤ 61 := fun w hw => by
  unfold wsBreak at hw
  simp only [List.mem_cons, List.not_mem_nil, or_false] at hw
  rcases hw with rfl | rfl | rfl | rfl | rfl
  · decide +kernel
  · refine ⟨fun z => ?_, by show 1 ≤ 61; omega⟩
    have z' : 32 ∈ [c] := z
    have := List.mem_singleton.mp z'
    omega
  · exact ⟨(wd_ok wd).1, by have := (wd_ok wd).2; omega⟩
  · rw [← len_tl, z_small hb, tl_z]
    exact ⟨z_free (by omega), by omega⟩
  · rw [← len_tl, z_small hk, tl_z]
    exact ⟨z_free (by omega), by omega⟩
theorem split_ws {ws : List Str} (hne : ws ≠ []) (h : ∀ w ∈ ws, 32 ∉ tl w) : Txt.split (Str.join " " ws) " " = ws := by
  rw [← join_eq]
  exact split_join (s := 32) (S := []) rfl (by decide +kernel) hne h
section
variable {P : Program} {w : World} {K : PySem.W.Frag} {mg : Str → Option Value} {base : Heap} {c1 P1 c2 P2 : Addr}
def sp_say (K : PySem.W.Frag) (P1 P2 : Addr) : Sp := fun vs H Q _ => ∃ (d : Addr) (row : Str), vs = [.ref d, .str row] ∧
  ((∃ (kd : Addr) (kvs : List (Key × V)) (c : Nat) (r : Rn), row = rowRun c r ∧ DeskAt K H d kd kvs ∧ kvs.length ≤ 1000 ∧ 97 ≤ c ∧ c ≤ 122 ∧ Valid r ∧ ∀ y H', ExB kd H H' → H' kd = some (.dK (putK kvs (Sum.inr ⟨#[c]⟩) y)) → Rp K H' (eR r) y → Q (.str "ok") H') ∨
  (∃ (kd : Addr) (kvs : List (Key × V)) (c : Nat) (r : Rn) (n b k : Nat), Kept K H d kd kvs c r n b k ∧
    ((∃ i : Int, row = rowChain c b k i ∧ i.natAbs < 10 ^ 60 ∧ ∀ H' (m : Nat), Ex H H' → 1 ≤ m → m ≤ 1100 → Q (.str (zS (m : Nat))) H') ∨
    (∃ wd, row = rowBreak c wd b k ∧ TabsN (Tl P1 P2) H ∧ ((∀ h ∈ whoUp r k, toldAt (RM.rule wd b) r k h = none) → ∀ H', ExtN H H' → TabsN (Tl P1 P2) H' → Q (.str "none") H') ∧
      ∀ kind r' hs H', ExtN H H' → TabsN (Tl P1 P2) H' → (∃ h ∈ whoUp r k, toldAt (RM.rule wd b) r k h ≠ none) → BrkT (RM.rule wd b) n b k kind r' hs → Q (.str (brkS kind r' hs)) H'))))
abbrev N_desk_say : List Str := ["self", "row", "words", "kinds", "word", "kind"]
theorem sc_desk_say : FnScope N_desk_say ["self", "row"] (defScope s_desk_say) := ⟨rfl, rfl, rfl, by decide +kernel, rfl, by decide +kernel, by decide +kernel⟩
theorem ok_desk_say (B : Tbs K mg base c1 P1 c2 P2) (T : Txt P w K mg base) : OkM P w K mg base "say" (14 + 1) ["self", "row"] (sp_say K P1 P2) := by
  refine OkM.of T.f_desk_say sc_desk_say (fun _ _ _ _ _ _ us hl => match us, hl with | [_, _], _ => rfl) (fun vs H Q E h => ?_) (fun f cdv A outer s H vs Q E hr h => ?_)
  · obtain ⟨d, row, rfl, hcase⟩ := h
    rfl
  · obtain ⟨d, row, rfl, hcase⟩ := h
    refine ⟨_, (pss_cons (ps_if (pt_cmpR op_eq (pe_slice sl_str (pv 1) po_none (po_some pe_int)) pe_str (by first | rfl | exact nomark _))
 (pss_one (ps_ret (pm (ok_desk_put_down T) (pv 0) hr T.cl (pa_cons (pv 1) pa_nil))))
 pss_nil)
 (pss_cons (ps_set (i := 2) sc_desk_say.nd rfl (by first | exact Or.inl rfl | exact Or.inr rfl) (peSplit (pv 1) pe_str))
 (pss_cons (ps_cut (ps_set (i := 3) sc_desk_say.nd rfl (by first | exact Or.inl rfl | exact Or.inr rfl) (pc (ok_kinds_of T) hr (pa_cons (pe_ix (ixL (K := K) rfl) (pv 2) pe_int (fun _ _ => rfl)) pa_nil))))
 (pss_cons (ps_if (PW.pt (pw_or (pt_cmp (pc_isN (pv 3))) (pw_or1 (pt_cmpR op_ne (pe_callB (cLen (K := K) rfl) (by rfl) T.n_len bt_len (pa_cons (pv 2) pa_nil)) (pe_op op_add (pe_callB (cLen (K := K) rfl) (by rfl) T.n_len bt_len (pa_cons (pv 3) pa_nil)) pe_int) (by first | rfl | exact nomark _)))))
 pss_never
 pss_nil)
 (pss_cons (ps_for PassesOwn.never rfl (pi_zip (by rfl) T.n_zip (pa_cons (pe_slice (slLK (K := K) rfl) (pv 2) (po_some pe_int) po_none) (pa_cons (pv 3) pa_nil))) (pgTup (K := K) (n := 2) rfl rfl (pgs_cons (pg_name (i := 4) sc_desk_say.nd rfl (by first | exact Or.inl rfl | exact Or.inr rfl)) (pgs_cons (pg_name (i := 5) sc_desk_say.nd rfl (by first | exact Or.inl rfl | exact Or.inr rfl)) pgs_nil)))
 (pss_one (ps_if (pt_not (pt_val (pc (ok_fits T) hr (pa_cons (pv 4) (pa_cons (pv 5) pa_nil)))))
 pss_never
 pss_nil)))
 (pss_cons (ps_if (pt_cmpR op_eq (pe_ix (ixL (K := K) rfl) (pv 2) pe_int (fun _ _ => rfl)) pe_str (by first | rfl | exact nomark _))
 pss_never
 pss_nil)
 (pss_cons (ps_if (pt_cmpR op_eq (pe_ix (ixL (K := K) rfl) (pv 2) pe_int (fun _ _ => rfl)) pe_str (by first | rfl | exact nomark _))
 pss_never
 pss_nil)
 (pss_cons (ps_if (pt_cmpR op_eq (pe_ix (ixL (K := K) rfl) (pv 2) pe_int (fun _ _ => rfl)) pe_str (by first | rfl | exact nomark _))
 pss_never
 pss_nil)
 (pss_cons (ps_if (PW.pt (pw_or (pt_cmpR op_eq (pe_ix (ixL (K := K) rfl) (pv 2) pe_int (fun _ _ => rfl)) pe_str (by first | rfl | exact nomark _)) (pw_or1 (pt_cmpR op_eq (pe_ix (ixL (K := K) rfl) (pv 2) pe_int (fun _ _ => rfl)) pe_str (by first | rfl | exact nomark _)))))
 pss_never
 pss_nil)
 (pss_one (ps_ret (pm (ok_desk_played B T) (pv 0) hr T.cl (pa_cons (pv 2) pa_nil))))))))))))), ?_⟩
    rcases hcase with ⟨kd, kvs, c, r, rfl, hd, hkl, h1, h2, hv, kq⟩ | ⟨kd, kvs, c, r, n, b, k, hk, hrest⟩
    · have hrl := row_len (c := c) hv
      obtain ⟨dx, gd1, gd2⟩ := hd
      refine ⟨_, rfl, _, rfl, _, rfl, sz_of (by omega), rfl, true, ?_, iteT ⟨_, rfl, d, dx, _, rfl, gd1, rfl, _, rfl, d, kd, kvs, c, r, rfl, ⟨dx, gd1, gd2⟩, hkl, h1, h2, hv, kq⟩⟩
      have e : cutS (rowRun c r) none (some (4 : Int)) = "run " := row_run0 c r
      show V.bl (decide (V.str (cutS (rowRun c r) none (some (4 : Int))) = V.str "run ")) = _
      rw [e]
      simp
    have hgen : ∃ (ws ks : List Str) (w0 : Str), Txt.split row " " = ws ∧ row.length ≤ 1000 ∧ (tl row).take 4 ≠ tl ("run " : Str) ∧ ws.length = 5 ∧ ks.length = 4 ∧ ws[0]? = some w0 ∧
        (∀ (H1 : Hp) (Q2 : VK), (∀ p H', H1 p = none → Ex H1 H' → H' p = some (.lst (ks.map V.str)) → Q2 (.ref p) H') → sp_kinds_of K [.str w0] H1 Q2 E0) ∧ (w0 ≠ "show" ∧ w0 ≠ "waste" ∧ w0 ≠ "close" ∧ w0 ≠ "know" ∧ w0 ≠ "alike") ∧
        (∀ (i : Nat) (u v : Str), (ws.drop 1)[i]? = some u → ks[i]? = some v → FitOK u v) ∧ (∀ q H', Ex H H' → H' q = some (.lst (ws.map V.str)) → sp_played K P1 P2 [.ref d, .ref q] H' Q E0) := by
      have hg := hk.g
      have h4 := hg.v.hi
      have hn := hg.n
      have bn := hk.bn
      have hk2 := hk.k2
      have hlo := hk.lo
      have hhi := hk.hi
      rcases hrest with ⟨i, rfl, hi, kq⟩ | ⟨wd, rfl, hT, kn, kb⟩
      · have hws := chain_ws (c := c) (b := b) (k := k) (i := i) hlo hi (by omega) (by omega)
        have hsp : Txt.split (rowChain c b k i) " " = wsChain c b k i := by
          rw [chain_join]
          exact split_ws (by unfold wsChain; simp) fun w h => (hws w h).1
        refine ⟨wsChain c b k i, ["name", "bound", "rounds", "number"], "chain", hsp, ?_, ?_, rfl, rfl, rfl, fun H1 Q2 k2 => ⟨"chain", rfl, .inl ⟨rfl, k2⟩⟩, by decide +kernel, fun j u v hu hv => ?_, fun q H' e g => ?_⟩
        · rw [chain_join]
          have := join_len (l := wsChain c b k i) (B := 61) (n := 5) (fun w h => (hws w h).2) (Nat.le_refl _)
          omega
        · unfold rowChain
          simp only [tl_append]
          rw [show tl ("chain " : Str) = [99, 104, 97, 105, 110, 32] from by decide +kernel, tl_run]
          simp
        · have hj : j < 4 := (List.getElem?_eq_some_iff.mp hv).1
          match j, hj with
          | 0, _ => cases hu; cases hv; exact .inl ⟨rfl, c, rfl, hlo, hhi⟩
          | 1, _ => cases hu; cases hv; exact .inr (.inr (.inr (.inl ⟨rfl, b, (dig_eq (by omega)).symm, by omega⟩)))
          | 2, _ => cases hu; cases hv; exact .inr (.inr (.inr (.inr ⟨rfl, k, (dig_eq (by omega)).symm, by omega⟩)))
          | 3, _ => cases hu; cases hv; exact .inr (.inr (.inl ⟨rfl, i, rfl, hi⟩))
        · refine ⟨d, kd, kvs, c, r, n, b, k, q, rfl, hk.up e, .inl ⟨i, ?_, hi, fun H'' m e' m1 m2 => kq H'' m (e.trans e') m1 m2⟩⟩
          rw [g]
          unfold wsChain
          rw [← dig_eq (show b < 10 by omega), ← dig_eq (show k < 10 by omega)]
          rfl
      · have hws := break_ws (c := c) (b := b) (k := k) (wd := wd) hlo (by omega) (by omega)
        have hsp : Txt.split (rowBreak c wd b k) " " = wsBreak c wd b k := by
          rw [break_join]
          exact split_ws (by unfold wsBreak; simp) fun w h => (hws w h).1
        refine ⟨wsBreak c wd b k, ["name", "rule", "bound", "rounds"], "break", hsp, ?_, ?_, rfl, rfl, rfl, fun H1 Q2 k2 => ⟨"break", rfl, .inr ⟨rfl, k2⟩⟩, by decide +kernel, fun j u v hu hv => ?_, fun q H' e g => ?_⟩
        · rw [break_join]
          have := join_len (l := wsBreak c wd b k) (B := 61) (n := 5) (fun w h => (hws w h).2) (Nat.le_refl _)
          omega
        · unfold rowBreak
          simp only [tl_append]
          rw [show tl ("break " : Str) = [98, 114, 101, 97, 107, 32] from by decide +kernel, tl_run]
          simp
        · have hj : j < 4 := (List.getElem?_eq_some_iff.mp hv).1
          match j, hj with
          | 0, _ => cases hu; cases hv; exact .inl ⟨rfl, c, rfl, hlo, hhi⟩
          | 1, _ => cases hu; cases hv; exact .inr (.inl ⟨rfl, wd, rfl⟩)
          | 2, _ => cases hu; cases hv; exact .inr (.inr (.inr (.inl ⟨rfl, b, (dig_eq (by omega)).symm, by omega⟩)))
          | 3, _ => cases hu; cases hv; exact .inr (.inr (.inr (.inr ⟨rfl, k, (dig_eq (by omega)).symm, by omega⟩)))
        · refine ⟨d, kd, kvs, c, r, n, b, k, q, rfl, hk.up e, .inr ⟨wd, ?_, hT.ext e, fun hall H'' e' T' => kn hall H'' ((extN_of e).trans e') T', fun kind r' hs H'' e' T' hex bt => kb kind r' hs H'' ((extN_of e).trans e') T' hex bt⟩⟩
          rw [g]
          unfold wsBreak
          rw [← dig_eq (show b < 10 by omega), ← dig_eq (show k < 10 by omega)]
          rfl
    obtain ⟨ws, ks, w0, hsp, hlen, hn4, hw5, hk4, hw0, hkinds, hno, hfit, hplay⟩ := hgen
    refine ⟨_, rfl, _, rfl, _, rfl, sz_of (by omega), rfl, false, ?_, iteF ?_⟩
    · have e : tl (cutS row none (some (4 : Int))) = (tl row).take 4 := cutS_to row 4
      show V.bl (decide (V.str (cutS row none (some (4 : Int))) = V.str "run ")) = _
      rw [str_eq, e, decide_eq_false hn4]
    refine ⟨_, rfl, ⟨_, rfl⟩, _, _, rfl, rfl, by decide +kernel, by omega, fun q H1 hq e1 gq => ?_⟩
    rw [hsp] at gq
    have gw0 : (ws.map V.str)[0]? = some (.str w0) := by rw [List.getElem?_map, hw0]; rfl
    refine ⟨fun σ' H' => ∃ kp, σ' = [some (.ref d), some (.str row), some (.ref q), some (.ref kp), none, none] ∧ Ex H1 H' ∧ H' kp = some (.lst (ks.map V.str)), ?_, ?_⟩
    · refine ⟨_, rfl, _, _, 0, _, rfl, rfl, SqL.of gq, atI_nat (j := 0) gw0, ?_⟩
      dsimp only [tNil]
      exact hkinds H1 _ fun kp H2 hkp e2 gk => ⟨kp, rfl, e2, gk⟩
    rintro σ1 H2 ⟨kp, rfl, e2, gk⟩
    have gq2 := e2 _ _ gq
    refine ⟨_, rfl, _, rfl, iteF ⟨_, rfl, q, _, rfl, .inl (SqL.of gq2), _, rfl, kp, _, rfl, .inl (SqL.of gk), _, _, rfl, rfl, rfl, false, ?_, iteF ?_⟩⟩
    · rw [List.length_map, List.length_map, hw5, hk4]
      rfl
    refine ⟨_, rfl, _, rfl, q, _, rfl, SqL.of gq2, fun sp3 H3 hsp3 e3 g3 => ?_⟩
    have ecut : cutV (ws.map V.str) (some 1) none = (ws.drop 1).map V.str := by
      have := cutV_from (ws.map V.str) 1
      rw [List.map_drop]
      exact this
    rw [ecut] at g3
    have gk3 := e3 _ _ gk
    have e13 := (e1.trans e2).trans e3
    refine ⟨_, rfl, sp3, kp, _, _, rfl, SqL.of g3, SqL.of gk3, ?_⟩
    refine for_it (walk_zip (n := 4) (by rw [List.length_map, List.length_map, List.length_drop, hw5, hk4]; rfl)) (fun i σ H' => Ex H3 H' ∧ ∃ o4 o5, σ = [some (.ref d), some (.str row), some (.ref q), some (.ref kp), o4, o5]) ⟨Ex.refl H3, none, none, rfl⟩ (fun i σ H' _ ⟨e, _⟩ => ⟨SqL.of (e _ _ g3), SqL.of (e _ _ gk3)⟩) ?_ ?_
    · rintro i y σ H' H'' hi ⟨e4, o4, o5, rfl⟩ hy
      obtain ⟨T2, x1, x2, rfl, hT2, rfl, y1, y2⟩ := hy
      have y1' : ((ws.drop 1).map V.str)[i]? = some x1 := y1
      have y2' : (ks.map V.str)[i]? = some x2 := y2
      rw [List.getElem?_map] at y1' y2'
      obtain ⟨u, hu, rfl⟩ := Option.map_eq_some_iff.mp y1'
      obtain ⟨v, hv, rfl⟩ := Option.map_eq_some_iff.mp y2'
      have e5 := Ex.new (o := .tup [V.str u, V.str v]) hT2
      exact ⟨T2, _, rfl, st_of upd_same, rfl, _, _, rfl, _, _, rfl, rfl, _, rfl, _, rfl, u, v, rfl, hfit i u v hu hv, fun H6 e6 => ⟨_, rfl, iteF ⟨(e4.trans e5).trans e6, _, _, rfl⟩⟩⟩
    · rintro σ H' ⟨e4, o4, o5, rfl⟩
      have gq' : H' q = some (.lst (ws.map V.str)) := e4 _ _ (e3 _ _ gq2)
      have neq : ∀ x : Str, w0 ≠ x → V.bl (decide (V.str w0 = V.str x)) = V.bl false := fun x hx => by
        rw [decide_eq_false (fun z => hx (by injection z))]
      obtain ⟨n1, n2, n3, n4, n5⟩ := hno
      refine ⟨_, rfl, _, _, 0, _, rfl, rfl, SqL.of gq', atI_nat (j := 0) gw0, rfl, false, neq _ n1, iteF ?_⟩
      refine ⟨_, rfl, _, _, 0, _, rfl, rfl, SqL.of gq', atI_nat (j := 0) gw0, rfl, false, neq _ n2, iteF ?_⟩
      refine ⟨_, rfl, _, _, 0, _, rfl, rfl, SqL.of gq', atI_nat (j := 0) gw0, rfl, false, neq _ n3, iteF ?_⟩
      refine ⟨_, rfl, _, _, 0, _, rfl, rfl, SqL.of gq', atI_nat (j := 0) gw0, rfl, false, neq _ n4, iteF ⟨_, rfl, _, _, 0, _, rfl, rfl, SqL.of gq', atI_nat (j := 0) gw0, rfl, false, neq _ n5, iteF ?_⟩⟩
      obtain ⟨dx, gd1, gd2⟩ := hk.at_
      have e14 := e13.trans e4
      exact ⟨_, rfl, d, dx, _, rfl, e14 _ _ gd1, rfl, _, rfl, hplay q H' e14 gq'⟩
end
end RF

set_option Elab.async false
set_option linter.all false
set_option maxRecDepth 100000
set_option maxHeartbeats 2000000
namespace RF
open PySem PySem.Spec PyProof.Rows L2 Evl RM RC TL LamX NdefX
def rModE : R2 := fun x y H Q => ∃ i j z, x = .int i ∧ y = .int j ∧ 0 < j ∧ i % j = z ∧ Q (.int z) H
theorem opModE {X : Cx} : OpR X (binaryOp .Mod) rModE := by
  intro pins s σ H x y v u Q I rx ry q
  obtain ⟨i, j, z, h1, h2, h3, h4, k⟩ := q
  subst h4
  exact op_mod pins s σ H x y v u Q I rx ry ⟨i, j, h1, h2, h3, k⟩
def rAddE : R2 := fun x y H Q => ∃ i j z, x = .int i ∧ y = .int j ∧ i + j = z ∧ Q (.int z) H
theorem opAddE {X : Cx} : OpR X (binaryOp .Add) rAddE := by
  intro pins s σ H x y v u Q I rx ry q
  obtain ⟨i, j, z, h1, h2, h4, k⟩ := q
  subst h4
  exact op_add pins s σ H x y v u Q I rx ry ⟨i, j, h1, h2, k⟩
def rMulE : R2 := fun x y H Q => ∃ i j z, x = .int i ∧ y = .int j ∧ CMul i j ∧ i * j = z ∧ Q (.int z) H
theorem opMulE {X : Cx} : OpR X (binaryOp .Mult) rMulE := by
  intro pins s σ H x y v u Q I rx ry q
  obtain ⟨i, j, z, h1, h2, h3, h4, k⟩ := q
  subst h4
  exact op_mul pins s σ H x y v u Q I rx ry ⟨i, j, h1, h2, h3, k⟩
theorem emod_nat (i : Int) (m : Nat) (h : 0 < m) : ∃ z : Nat, i % (m : Int) = (z : Int) ∧ z < m := by
  have h1 := Int.emod_nonneg i (show (m : Int) ≠ 0 by omega)
  have h2 := Int.emod_lt_of_pos i (show (0 : Int) < (m : Int) by omega)
  exact ⟨(i % (m : Int)).toNat, by omega, by omega⟩
section
variable {P : Program} {w : World} {K : PySem.W.Frag} {mg : Str → Option Value} {base : Heap}
def sp_law_cell_at (K : PySem.W.Frag) : Sp := fun vs H Q _ => ∃ (a : Addr) (ns : List Int) (k : Nat), vs = [.ref a, .int k] ∧ SqL K H a (ns.map V.int) ∧ ∀ z : Int, Q (.int z) H
abbrev N_law_cell_at : List Str := ["_law_script", "_law_k"]
theorem sc_law_cell_at : FnScope N_law_cell_at ["_law_script", "_law_k"] (defScope s_law_cell_at) := ⟨rfl, rfl, rfl, by decide +kernel, rfl, by decide +kernel, by decide +kernel⟩
theorem ok_law_cell_at (T : Txt P w K mg base) : Ok P w K mg base "_law_cell_at" (0 + 1) ["_law_script", "_law_k"] (sp_law_cell_at K) := by
  refine Ok.of T.f_law_cell_at sc_law_cell_at (fun _ _ _ _ _ _ us hl => match us, hl with | [_, _], _ => rfl) (fun vs H Q E h => ?_) (fun f cdv A outer s H vs Q E hr h => ?_)
  · obtain ⟨a, ns, k, rfl, hs, kq⟩ := h
    rfl
  · obtain ⟨a, ns, k, rfl, hs, kq⟩ := h
    refine ⟨_, (pss_cons (ps_if (pt_cmpR op_lt (pv 1) (pe_callB (cLen (K := K) rfl) (by rfl) T.n_len bt_len (pa_cons (pv 0) pa_nil)) (by first | rfl | exact nomark _))
 (pss_one (ps_ret (pe_ix (ixL (K := K) rfl) (pv 0) (pv 1) (fun _ _ => rfl))))
 pss_nil)
 (pss_one (ps_ret pe_int))), ?_⟩
    refine ⟨_, rfl, _, rfl, a, _, rfl, .inl hs, _, _, rfl, rfl, ?_⟩
    rw [List.length_map]
    by_cases c : k < ns.length
    · refine ⟨true, dt (by omega), iteT ⟨_, rfl, _, rfl, a, _, k, .int ns[k], rfl, rfl, hs, atI_nat (by rw [List.getElem?_map, List.getElem?_eq_getElem c]; rfl), kq _⟩⟩
    · exact ⟨false, df (by omega), iteF (kq 0)⟩
def sp_law_mixed (K : PySem.W.Frag) : Sp := fun vs H Q _ => ∃ (n : Int) (k : Nat), vs = [.int n, .int k] ∧ k ≤ 100 ∧ ∀ m : Nat, m < 2147483629 → Q (.int m) H
abbrev N_law_mixed : List Str := ["_law_number_here", "_law_k", "_law_mixed_here"]
theorem sc_law_mixed : FnScope N_law_mixed ["_law_number_here", "_law_k"] (defScope s_law_mixed) := ⟨rfl, rfl, rfl, by decide +kernel, rfl, by decide +kernel, by decide +kernel⟩
theorem ok_law_mixed (T : Txt P w K mg base) : Ok P w K mg base "_law_mixed" (0 + 1) ["_law_number_here", "_law_k"] (sp_law_mixed K) := by
  refine Ok.of T.f_law_mixed sc_law_mixed (fun _ _ _ _ _ _ us hl => match us, hl with | [_, _], _ => rfl) (fun vs H Q E h => ?_) (fun f cdv A outer s H vs Q E hr h => ?_)
  · obtain ⟨n, k, rfl, hk, kq⟩ := h
    rfl
  · obtain ⟨n, k, rfl, hk, kq⟩ := h
    refine ⟨_, (pss_cons (ps_set (i := 2) sc_law_mixed.nd rfl (by first | exact Or.inl rfl | exact Or.inr rfl) (pe_op opModE (pe_op opAddE (pe_op opAddE (pe_op opMulE (pe_op opModE (pv 0) (pe_op op_pow pe_int pe_int)) pe_int) (pe_op opMulE (pe_op opMulE (pv 1) (pv 1)) pe_int)) pe_int) pe_int))
 (pss_one (ps_ret (pe_op opModE (pe_op opMulE (pv 2) (pv 2)) pe_int)))), ?_⟩
    have kk : (k : Int) * k ≤ 100 * 100 := Int.mul_le_mul (by omega) (by omega) (by omega) (by omega)
    have kk0 : 0 ≤ (k : Int) * k := Int.mul_nonneg (by omega) (by omega)
    refine ⟨_, rfl, _, _, rfl, rfl, ⟨by decide, by decide, by decide⟩, _, _, _, rfl, rfl, by show (0 : Int) < 10 ^ 64; decide, rfl, _, _, _, rfl, rfl, .inr ⟨by decide, by decide⟩, rfl, ?_⟩
    refine ⟨_, rfl, _, rfl, _, _, _, rfl, rfl, .inl ⟨by omega, by omega⟩, rfl, _, _, _, rfl, rfl, .inr ⟨by decide, by decide⟩, rfl, _, _, _, rfl, rfl, rfl, _, _, _, rfl, rfl, rfl, ?_⟩
    obtain ⟨z, hz, zl⟩ := emod_nat (n % 10 ^ ((64 : Int)).toNat * 48271 + (k : Int) * k * 7919 + 11) 2147483647 (by decide)
    refine ⟨_, _, (z : Int), rfl, rfl, by decide, hz, ?_⟩
    obtain ⟨y, hy, yl⟩ := emod_nat ((z : Int) * z) 2147483629 (by decide)
    refine ⟨_, rfl, _, rfl, _, _, _, rfl, rfl, .inl ⟨by omega, by omega⟩, rfl, _, _, (y : Int), rfl, rfl, by decide, hy, kq y yl⟩
def sp_law_bit (K : PySem.W.Frag) : Sp := fun vs H Q _ => ∃ (h : Nat), vs = [.int h] ∧ h < 5 ∧ ∀ H', Ex H H' → Q (.int ((2 ^ h : Nat) : Int)) H'
abbrev N_law_bit : List Str := ["_law_hand"]
theorem sc_law_bit : FnScope N_law_bit ["_law_hand"] (defScope s_law_bit) := ⟨rfl, rfl, rfl, by decide +kernel, rfl, by decide +kernel, by decide +kernel⟩
theorem ok_law_bit (T : Txt P w K mg base) : Ok P w K mg base "_law_bit" (0 + 1) ["_law_hand"] (sp_law_bit K) := by
  refine Ok.of T.f_law_bit sc_law_bit (fun _ _ _ _ _ _ us hl => match us, hl with | [_], _ => rfl) (fun vs H Q E h => ?_) (fun f cdv A outer s H vs Q E hr h => ?_)
  · obtain ⟨h, rfl, hh, kq⟩ := h
    rfl
  · obtain ⟨h, rfl, hh, kq⟩ := h
    refine ⟨_, (pss_one (ps_ret (pe_ix (ixL (K := K) rfl) (peLst (pa_cons pe_int (pa_cons pe_int (pa_cons pe_int (pa_cons pe_int (pa_cons pe_int pa_nil)))))) (pv 0) (fun _ _ => rfl)))), ?_⟩
    refine ⟨by show 5 ≤ 1000; decide, fun p H1 hp e1 g1 => ⟨_, rfl, p, _, h, .int ((2 ^ h : Nat) : Int), rfl, rfl, SqL.of g1, atI_nat ?_, kq H1 e1⟩⟩
    match h, hh with
    | 0, _ => rfl
    | 1, _ => rfl
    | 2, _ => rfl
    | 3, _ => rfl
    | 4, _ => rfl
def sp_law_number (K : PySem.W.Frag) : Sp := fun vs H Q _ => ∃ (n : Int), vs = [.int n] ∧ ∀ z : Int, z.natAbs < 10 ^ 60 → Q (.int z) H
abbrev N_law_number : List Str := ["_law_cell"]
theorem sc_law_number : FnScope N_law_number ["_law_cell"] (defScope s_law_number) := ⟨rfl, rfl, rfl, by decide +kernel, rfl, by decide +kernel, by decide +kernel⟩
theorem ok_law_number (T : Txt P w K mg base) : Ok P w K mg base "_law_number" (0 + 1) ["_law_cell"] (sp_law_number K) := by
  refine Ok.of T.f_law_number sc_law_number (fun _ _ _ _ _ _ us hl => match us, hl with | [_], _ => rfl) (fun vs H Q E h => ?_) (fun f cdv A outer s H vs Q E hr h => ?_)
  · obtain ⟨n, rfl, kq⟩ := h
    rfl
  · obtain ⟨n, rfl, kq⟩ := h
    refine ⟨_, (pss_cons (ps_if (pt_cmpR op_eq (pe_op opModE (pv 0) pe_int) pe_int (by first | rfl | exact nomark _))
 (pss_one (ps_ret (pe_op opSubE (pe_op opModE (pe_op opDivE (pv 0) pe_int) pe_int) pe_int)))
 pss_nil)
 (pss_one (ps_ret (pe_op opAddE (pe_op opSubE (pe_op opModE (pe_op opDivE (pv 0) pe_int) (pe_op opSubE (pe_op opMulE pe_int (pe_op op_pow pe_int pe_int)) pe_int)) (pe_op op_pow pe_int pe_int)) pe_int)))), ?_⟩
    refine ⟨_, rfl, _, _, _, rfl, rfl, by decide, rfl, rfl, _, rfl, ?_⟩
    by_cases c : V.int (n % 3) = V.int 0
    · refine ifT (decide_eq_true c) ?_
      obtain ⟨z, hz, zl⟩ := emod_nat (n / 3) 4 (by decide)
      refine ⟨_, rfl, _, _, _, rfl, rfl, ⟨by decide, by decide⟩, rfl, _, _, (z : Int), rfl, rfl, by decide, hz, _, _, _, rfl, rfl, rfl, kq _ ?_⟩
      have : ((z : Int) - 1).natAbs ≤ 4 := by omega
      exact Nat.lt_of_le_of_lt this (by decide)
    · refine ifF (decide_eq_false c) ?_
      obtain ⟨z, hz, zl⟩ := emod_nat (n / 3) (2 * 10 ^ 60 - 1) (by decide)
      refine ⟨_, rfl, _, _, _, rfl, rfl, ⟨by decide, by decide⟩, rfl, _, _, rfl, rfl, ⟨by decide, by decide, by decide⟩, _, _, _, rfl, rfl, .inl ⟨by decide, by decide⟩, rfl, _, _, _, rfl, rfl, rfl, ?_⟩
      refine ⟨_, _, (z : Int), rfl, rfl, by show (0 : Int) < 2 * 10 ^ 60 - 1; decide, hz, ?_⟩
      refine ⟨_, _, rfl, rfl, ⟨by decide, by decide, by decide⟩, _, _, _, rfl, rfl, rfl, _, _, _, rfl, rfl, rfl, kq _ ?_⟩
      show ((z : Int) - 10 ^ 60 + 1).natAbs < 10 ^ 60
      have zl' : z < 2 * 10 ^ 60 - 1 := zl
      omega
end
end RF

set_option Elab.async false
set_option linter.all false
set_option maxRecDepth 100000
set_option maxHeartbeats 2000000
namespace RF
open PySem PySem.Spec PyProof.Rows L2 Evl RM RC TL LamX NdefX
theorem bit_div (m h : Nat) : ((m : Int) / ((2 ^ h : Nat) : Int)) % 2 = ((m.testBit h).toNat : Int) := by
  rw [Nat.testBit_eq_decide_div_mod_eq]
  have e : (m : Int) / ((2 ^ h : Nat) : Int) % 2 = ((m / 2 ^ h % 2 : Nat) : Int) := by omega
  rw [e]
  rcases Nat.mod_two_eq_zero_or_one (m / 2 ^ h) with z | z <;> simp [z]
theorem sub_bit {m h n : Nat} (hm : m < 2 ^ n) (hb : m.testBit h = true) : 2 ^ h ≤ m ∧ m - 2 ^ h < 2 ^ n ∧ (m - 2 ^ h).testBit h = false := by
  have h1 : 2 ^ h ≤ m := Nat.ge_two_pow_of_testBit hb
  refine ⟨h1, Nat.lt_of_le_of_lt (Nat.sub_le _ _) hm, ?_⟩
  rw [Nat.testBit_eq_decide_div_mod_eq] at hb ⊢
  have hb' := of_decide_eq_true hb
  have hp : 0 < 2 ^ h := Nat.two_pow_pos h
  have e : (m - 2 ^ h) / 2 ^ h = m / 2 ^ h - 1 := by
    have := Nat.sub_mul_div m (2 ^ h) 1
    rw [Nat.mul_one] at this
    exact this
  rw [e]
  exact decide_eq_false (by omega)
section
variable {P : Program} {w : World} {K : PySem.W.Frag} {mg : Str → Option Value} {base : Heap}
def sp_law_reached (K : PySem.W.Frag) : Sp := fun vs H Q _ => ∃ (mx h n : Nat), vs = [.int mx, .int h, .int n] ∧ h < n ∧ 2 ≤ n ∧ n ≤ 4 ∧ mx < 2147483629 ∧ ∀ (m : Nat) H', Ex H H' → m < 2 ^ n → m.testBit h = false → Q (.int m) H'
abbrev N_law_reached : List Str := ["_law_mixed_here", "_law_hand", "_law_many", "_law_reached_here"]
theorem sc_law_reached : FnScope N_law_reached ["_law_mixed_here", "_law_hand", "_law_many"] (defScope s_law_reached) := ⟨rfl, rfl, rfl, by decide +kernel, rfl, by decide +kernel, by decide +kernel⟩
theorem ok_law_reached (T : Txt P w K mg base) : Ok P w K mg base "_law_reached" (1 + 1) ["_law_mixed_here", "_law_hand", "_law_many"] (sp_law_reached K) := by
  refine Ok.of T.f_law_reached sc_law_reached (fun _ _ _ _ _ _ us hl => match us, hl with | [_, _, _], _ => rfl) (fun vs H Q E h => ?_) (fun f cdv A outer s H vs Q E hr h => ?_)
  · obtain ⟨mx, h, n, rfl, hh, n2, n4, hmx, kq⟩ := h
    rfl
  · obtain ⟨mx, h, n, rfl, hh, n2, n4, hmx, kq⟩ := h
    refine ⟨_, (pss_cons (ps_set (i := 3) sc_law_reached.nd rfl (by first | exact Or.inl rfl | exact Or.inr rfl) (pe_op opModE (pe_ix (ixL (K := K) rfl) (peLst (pa_cons (pe_op opSubE (pe_op opMulE pe_int (pc (ok_law_bit T) hr (pa_cons (pe_op opSubE (pv 2) pe_int) pa_nil))) pe_int) (pa_cons pe_int (pa_cons (pe_op opDivE (pv 0) pe_int) (pa_cons (pe_op opDivE (pv 0) pe_int) pa_nil))))) (pe_op opModE (pv 0) pe_int) (fun _ _ => rfl)) (pe_op opMulE pe_int (pc (ok_law_bit T) hr (pa_cons (pe_op opSubE (pv 2) pe_int) pa_nil)))))
 (pss_cons (ps_if (pt_cmpR op_eq (pe_op opModE (pe_op opDivE (pv 3) (pc (ok_law_bit T) hr (pa_cons (pv 1) pa_nil))) pe_int) pe_int (by first | rfl | exact nomark _))
 (pss_one (ps_ret (pe_op opSubE (pv 3) (pc (ok_law_bit T) hr (pa_cons (pv 1) pa_nil)))))
 pss_nil)
 (pss_one (ps_ret (pv 3))))), ?_⟩
    have en : ((n : Int) - 1) = ((n - 1 : Nat) : Int) := by omega
    have ep : 2 ^ n = 2 * 2 ^ (n - 1) := by
      obtain ⟨k, rfl⟩ : ∃ k, n = k + 1 := ⟨n - 1, by omega⟩
      rw [Nat.pow_succ, Nat.add_sub_cancel]; omega
    have p4 : 2 ^ (n - 1) ≤ 2 ^ 3 := Nat.pow_le_pow_right (by decide) (by omega)
    have pp : 0 < 2 ^ (n - 1) := Nat.two_pow_pos _
    have e2n : (2 : Int) * ((2 ^ (n - 1) : Nat) : Int) = ((2 ^ n : Nat) : Int) := by rw [ep]; omega
    refine ⟨_, rfl, _, _, _, rfl, rfl, en, n - 1, rfl, by omega, fun H1 e1 => ?_⟩
    refine ⟨_, _, _, rfl, rfl, .inl ⟨by decide, by decide⟩, e2n, _, _, _, rfl, rfl, rfl, ?_⟩
    refine ⟨_, rfl, _, _, _, rfl, rfl, ⟨by decide, by decide⟩, rfl, _, rfl, _, _, _, rfl, rfl, ⟨by decide, by decide⟩, rfl, by show 4 ≤ 1000; decide, fun p H2 hp e2 g2 => ?_⟩
    obtain ⟨j, hj, jl⟩ := emod_nat (mx : Int) 4 (by decide)
    obtain ⟨z, hz⟩ : ∃ z : Int, ([V.int (((2 ^ n : Nat) : Int) - 1), V.int 0, V.int ((mx : Int) / 4), V.int ((mx : Int) / 4)] : List V)[j]? = some (.int z) := by
      match j, jl with
      | 0, _ => exact ⟨_, rfl⟩
      | 1, _ => exact ⟨_, rfl⟩
      | 2, _ => exact ⟨_, rfl⟩
      | 3, _ => exact ⟨_, rfl⟩
    refine ⟨_, rfl, _, _, (j : Int), rfl, rfl, by decide, hj, p, _, j, .int z, rfl, rfl, SqL.of g2, atI_nat hz, ?_⟩
    refine ⟨_, rfl, _, _, _, rfl, rfl, en, n - 1, rfl, by omega, fun H3 e3 => ?_⟩
    refine ⟨_, _, _, rfl, rfl, .inl ⟨by decide, by decide⟩, e2n, ?_⟩
    obtain ⟨R, hR, Rl⟩ := emod_nat z (2 ^ n) (Nat.two_pow_pos n)
    refine ⟨_, _, (R : Int), rfl, rfl, by have := Nat.two_pow_pos n; omega, hR, ?_⟩
    have e13 := (e1.trans e2).trans e3
    have h3 : 2 ^ h ≤ 2 ^ 3 := Nat.pow_le_pow_right (by decide) (by omega)
    have h0 : 0 < 2 ^ h := Nat.two_pow_pos h
    refine ⟨_, rfl, _, rfl, h, rfl, by omega, fun H4 e4 => ?_⟩
    have e14 := e13.trans e4
    refine ⟨_, _, _, rfl, rfl, ⟨by omega, by omega⟩, rfl, _, _, _, rfl, rfl, by decide, bit_div R h, rfl, R.testBit h, ?_, ?_⟩
    · cases R.testBit h <;> rfl
    cases hb : R.testBit h with
    | true =>
      obtain ⟨q1, q2, q3⟩ := sub_bit Rl hb
      refine iteT ⟨_, rfl, _, rfl, h, rfl, by omega, fun H5 e5 => ⟨_, _, ((R - 2 ^ h : Nat) : Int), rfl, rfl, by omega, kq _ H5 (e14.trans e5) q2 q3⟩⟩
    | false => exact iteF ⟨_, rfl, kq R H4 e14 Rl hb⟩
def sp_law_falls (K : PySem.W.Frag) : Sp := fun vs H Q _ => ∃ (n b : Nat) (z : Int), vs = [.int n, .int z, .int b] ∧ 2 ≤ n ∧ n ≤ 4 ∧ ∀ (fs : List Fall) y H', Ex H H' → Srt fs → (∀ f ∈ fs, f.1 < n ∧ 1 ≤ f.2.1 ∧ f.2.1 ≤ 5 ∧ f.2.2 < 2 ^ n ∧ f.2.2.testBit f.1 = false) → fs.length ≤ b → Rp K H' (.tup (fs.map eF)) y → Q y H'
abbrev N_law_falls : List Str := ["_law_many", "_law_cell", "_law_most", "_law_falls_here", "_law_hand", "_law_mixed_here", "_law_at"]
theorem sc_law_falls : FnScope N_law_falls ["_law_many", "_law_cell", "_law_most"] (defScope s_law_falls) := ⟨rfl, rfl, rfl, by decide +kernel, rfl, by decide +kernel, by decide +kernel⟩
theorem ok_law_falls (T : Txt P w K mg base) : Ok P w K mg base "_law_falls" (2 + 1) ["_law_many", "_law_cell", "_law_most"] (sp_law_falls K) := by
  refine Ok.of T.f_law_falls sc_law_falls (fun _ _ _ _ _ _ us hl => match us, hl with | [_, _, _], _ => rfl) (fun vs H Q E h => ?_) (fun f cdv A outer s H vs Q E hr h => ?_)
  · obtain ⟨n, b, z, rfl, n2, n4, kq⟩ := h
    rfl
  · obtain ⟨n, b, z, rfl, n2, n4, kq⟩ := h
    refine ⟨_, (pss_cons (ps_set (i := 3) sc_law_falls.nd rfl (by first | exact Or.inl rfl | exact Or.inr rfl) (peLst pa_nil))
 (pss_cons (ps_for PassesOwn.never rfl (pi_range1 (by rfl) T.n_range (pa_cons (pv 0) pa_nil)) (pg_name (i := 4) sc_law_falls.nd rfl (by first | exact Or.inl rfl | exact Or.inr rfl))
 (pss_cons (ps_set (i := 5) sc_law_falls.nd rfl (by first | exact Or.inl rfl | exact Or.inr rfl) (pc (ok_law_mixed T) hr (pa_cons (pv 1) (pa_cons (pe_op opAddE (pv 4) pe_int) pa_nil))))
 (pss_one (ps_if (PW.pt (pw_and (pt_cmpR op_lt (pe_op opModE (pv 5) pe_int) pe_int (by first | rfl | exact nomark _)) (pw_and1 (pt_cmpR op_lt (pe_callB (cLen (K := K) rfl) (by rfl) T.n_len bt_len (pa_cons (pv 3) pa_nil)) (pv 2) (by first | rfl | exact nomark _)))))
 (pss_cons (ps_set (i := 6) sc_law_falls.nd rfl (by first | exact Or.inl rfl | exact Or.inr rfl) (pe_ix (ixL (K := K) rfl) (peLst (pa_cons pe_int (pa_cons pe_int (pa_cons pe_int (pa_cons pe_int (pa_cons pe_int (pa_cons pe_int (pa_cons pe_int (pa_cons pe_int pa_nil))))))))) (pe_op opModE (pe_op opDivE (pv 5) pe_int) pe_int) (fun _ _ => rfl)))
 (pss_one (ps_expr (pe_bm PySem.F.plainAttrs_list PySem.F.slot_list_append PySem.F.type_list_append mt_append (pv 3) (pa_cons (peTup (pa_cons (pv 4) (pa_cons (pv 6) (pa_cons (pc (ok_law_reached T) hr (pa_cons (pe_op opDivE (pv 5) pe_int) (pa_cons (pv 4) (pa_cons (pv 0) pa_nil)))) pa_nil)))) pa_nil)))))
 pss_nil))))
 (pss_one (ps_ret (pe_callTy (cTupOf (K := K) rfl) (by rfl) T.n_tuple bt_tuple (pa_cons (pv 3) pa_nil)))))), ?_⟩
    refine ⟨by show 0 ≤ 1000; decide, fun l H1 hl e1 g1 => ?_⟩
    refine ⟨_, rfl, _, rfl, by omega, by omega, for_range (lo := 0) (n := n) (fun i σ H' => ∃ (fs : List Fall) (xs : List V) (o1 o2 o3 : Option V), σ = [some (.int n), some (.int z), some (.int b), some (.ref l), o1, o2, o3] ∧ Ex H H' ∧ H' l = some (.lst xs) ∧ RpL K H' (fs.map eF) xs ∧ Srt fs ∧ (∀ f ∈ fs, f.1 < i ∧ 1 ≤ f.2.1 ∧ f.2.1 ≤ 5 ∧ f.2.2 < 2 ^ n ∧ f.2.2.testBit f.1 = false) ∧ fs.length ≤ b ∧ fs.length ≤ i) ⟨[], [], none, none, none, rfl, e1, g1, .nil, List.Pairwise.nil, fun f hf => absurd hf List.not_mem_nil, Nat.zero_le _, Nat.le_refl _⟩ ?_ ?_⟩
    · rintro i σ H2 hi ⟨fs, xs, o1, o2, o3, rfl, f1, f2, f3, f4, f5, f6, f7⟩
      rw [Int.zero_add]
      have lx : xs.length = fs.length := by have := f3.len; rwa [List.length_map] at this
      have ei : (i : Int) + 1 = ((i + 1 : Nat) : Int) := by omega
      refine ⟨_, rfl, _, rfl, _, _, _, rfl, rfl, ei, z, i + 1, rfl, by omega, fun m hm => ?_⟩
      obtain ⟨t, ht, tl5⟩ := emod_nat (m : Int) 5 (by decide)
      have st5 : ∀ f ∈ fs, f.1 < i + 1 ∧ 1 ≤ f.2.1 ∧ f.2.1 ≤ 5 ∧ f.2.2 < 2 ^ n ∧ f.2.2.testBit f.1 = false := fun f hf => ⟨by have := (f5 f hf).1; omega, (f5 f hf).2⟩
      refine ⟨_, rfl, _, _, (t : Int), rfl, rfl, by decide, ht, _, _, rfl, rfl, ?_⟩
      by_cases c1 : t < 3
      · refine ⟨true, dt (by omega), iteT ⟨_, rfl, l, xs, rfl, .inl (SqL.of f2), _, rfl, _, _, rfl, rfl, ?_⟩⟩
        by_cases c2 : fs.length < b
        · refine ⟨true, dt (by omega), iteT ⟨by show 8 ≤ 1000; decide, fun p3 H3 hp3 e3 g3 => ?_⟩⟩
          obtain ⟨j, hj, jl⟩ := emod_nat ((m : Int) / 5) 8 (by decide)
          obtain ⟨at', hat, h15⟩ : ∃ a : Nat, ([V.int 1, .int 1, .int 2, .int 2, .int 3, .int 3, .int 4, .int 5] : List V)[j]? = some (.int (a : Int)) ∧ 1 ≤ a ∧ a ≤ 5 := by
            match j, jl with
            | 0, _ => exact ⟨1, rfl, by decide⟩
            | 1, _ => exact ⟨1, rfl, by decide⟩
            | 2, _ => exact ⟨2, rfl, by decide⟩
            | 3, _ => exact ⟨2, rfl, by decide⟩
            | 4, _ => exact ⟨3, rfl, by decide⟩
            | 5, _ => exact ⟨3, rfl, by decide⟩
            | 6, _ => exact ⟨4, rfl, by decide⟩
            | 7, _ => exact ⟨5, rfl, by decide⟩
          refine ⟨_, rfl, _, _, _, rfl, rfl, ⟨by decide, by decide⟩, rfl, _, _, (j : Int), rfl, rfl, by decide, hj, p3, _, j, .int (at' : Int), rfl, rfl, SqL.of g3, atI_nat hat, ?_⟩
          have f23 := e3 _ _ f2
          refine ⟨_, rfl, .inl ⟨rfl, _, SqL.of f23⟩, _, rfl, _, rfl, _, rfl, _, _, ((m / 40 : Nat) : Int), rfl, rfl, ⟨by decide, by decide⟩, by omega, _, rfl, _, rfl, m / 40, i, n, rfl, hi, n2, n4, by omega, fun R H4 e4 R1 R2 => ⟨by show 3 ≤ 1000; decide, fun t5 H5 ht5 e5 g5 => ?_⟩⟩
          have f25 := e5 _ _ (e4 _ _ f23)
          refine ⟨l, xs, _, rfl, rfl, f25, sz_lt (by omega), ?_⟩
          refine ⟨fs ++ [(i, at', R)], xs ++ [.ref t5], some (.int (i : Nat)), some (.int m), some (.int (at' : Int)), rfl, (((f1.trans e3).trans e4).trans e5).mut hl, upd_same, ?_, ?_, fun f hf => ?_, by rw [List.length_append, List.length_singleton]; omega, by rw [List.length_append, List.length_singleton]; omega⟩
          · rw [List.map_append]
            refine RpL.snoc ((((f3.up e3).up e4).up e5).upT (ExT.lst f25)) ?_
            exact Rp.upT (fall_mk (f := (i, at', R)) (st_of g5)) (ExT.lst f25)
          · refine List.pairwise_append.mpr ⟨f4, List.pairwise_singleton _ _, fun x hx y hy => ?_⟩
            rw [List.mem_singleton.mp hy]
            exact (f5 x hx).1
          · rcases List.mem_append.mp hf with q | q
            · exact ⟨by have := (f5 f q).1; omega, (f5 f q).2⟩
            · rw [List.mem_singleton.mp q]
              exact ⟨Nat.lt_succ_self i, h15.1, h15.2, R1, R2⟩
        · exact ⟨false, df (by omega), iteF ⟨fs, xs, some (.int (i : Nat)), some (.int m), o3, rfl, f1, f2, f3, f4, st5, f6, by omega⟩⟩
      · exact ⟨false, df (by omega), iteF (iteF ⟨fs, xs, some (.int (i : Nat)), some (.int m), o3, rfl, f1, f2, f3, f4, st5, f6, by omega⟩)⟩
    · rintro σ H2 ⟨fs, xs, o1, o2, o3, rfl, f1, f2, f3, f4, f5, f6, f7⟩
      refine ⟨_, rfl, l, xs, rfl, .inl ⟨SqL.of f2, fun u H3 hu e3 g3 => kq fs _ H3 (f1.trans e3) f4 f5 f6 (.tup (st_of g3) (f3.up e3))⟩⟩
def sp_law_run (K : PySem.W.Frag) : Sp := fun vs H Q _ => ∃ (n b : Nat) (p : Addr) (zs : List Int), vs = [.ref p, .int n, .int b] ∧ SqL K H p (zs.map V.int) ∧ zs.length = 6 ∧ 2 ≤ n ∧ n ≤ 4 ∧ ∀ (r : Rn) y H', Ex H H' → Good n b r → Rp K H' (eR r) y → Q y H'
abbrev N_law_run : List Str := ["_law_cells", "_law_many", "_law_most", "_law_numbers", "_law_hand"]
theorem sc_law_run : FnScope N_law_run ["_law_cells", "_law_many", "_law_most"] (defScope s_law_run) := ⟨rfl, rfl, rfl, by decide +kernel, rfl, by decide +kernel, by decide +kernel⟩
theorem ok_law_run (T : Txt P w K mg base) : Ok P w K mg base "_law_run" (3 + 1) ["_law_cells", "_law_many", "_law_most"] (sp_law_run K) := by
  refine Ok.of T.f_law_run sc_law_run (fun _ _ _ _ _ _ us hl => match us, hl with | [_, _, _], _ => rfl) (fun vs H Q E h => ?_) (fun f cdv A outer s H vs Q E hr h => ?_)
  · obtain ⟨n, b, p, zs, rfl, hs, hl6, n2, n4, kq⟩ := h
    rfl
  · obtain ⟨n, b, p, zs, rfl, hs, hl6, n2, n4, kq⟩ := h
    refine ⟨_, (pss_cons (ps_set (i := 3) sc_law_run.nd rfl (by first | exact Or.inl rfl | exact Or.inr rfl) (pe_callTy (cTupOf (K := K) rfl) (by rfl) T.n_tuple bt_tuple (pa_cons (pe_lc (own := [("_law_hand", 4)]) rfl sc_law_run.nd (pi_range1 (by rfl) T.n_range (pa_cons (pv 1) pa_nil)) (blkOk_by (N := N_law_run) (sc := defScope s_law_run) (own := [("_law_hand", 4)]) (by decide +kernel)) (fun _ _ _ _ _ => (pg_name (i := 4) sc_law_run.nd rfl (by first | exact Or.inl rfl | exact Or.inr rfl))) (fun _ _ _ _ _ => pts_nil) (fun _ _ _ _ _ => (pc (ok_law_number T) hr (pa_cons (pe_ix (ixL (K := K) rfl) (pv 0) (pv 4) (fun _ _ => rfl)) pa_nil)))) pa_nil)))
 (pss_one (ps_ret (peTup (pa_cons (pv 3) (pa_cons (pc (ok_law_falls T) hr (pa_cons (pv 1) (pa_cons (pe_ix (ixL (K := K) rfl) (pv 0) (pv 1) (fun _ _ => rfl)) (pa_cons (pv 2) pa_nil)))) pa_nil)))))), ?_⟩
    refine ⟨_, rfl, _, rfl, by omega, by omega, fun Dl hD => ?_⟩
    have sq : ∀ H', Ex H H' → SqL K H' p (zs.map V.int) := fun H' e => by
      rcases hs with (hs | ⟨o, hs⟩) | hs
      · exact .inl (.inl (e _ _ hs))
      · exact .inl (.inr ⟨o, e _ _ hs⟩)
      · exact .inr hs
    refine lc_range (lo := 0) (n := n) (fun i H' => Ex H H' ∧ ∃ ns : List Int, H' Dl = some (.lst (ns.map V.int)) ∧ ns.length = i ∧ ∀ z ∈ ns, z.natAbs < 10 ^ 60) ⟨Ex.new hD, [], upd_same, rfl, fun z hz => absurd hz List.not_mem_nil⟩ (fun i H' hi ⟨e1, ns, g1, l1, b1⟩ => ?_) (fun H1 ⟨e1, ns, g1, l1, b1⟩ => ?_)
    · rw [Int.zero_add]
      obtain ⟨z, hz⟩ : ∃ z, zs[i]? = some z := ⟨_, List.getElem?_eq_getElem (by omega)⟩
      refine ⟨rfl, _, rfl, _, rfl, _, _, i, .int z, rfl, rfl, sq H' e1, atI_nat (by rw [List.getElem?_map, hz]; rfl), z, rfl, fun u hu => ⟨_, g1, sz_lt (by rw [List.length_map]; omega), e1.mut hD, ns ++ [u], ?_, by rw [List.length_append, l1]; rfl, fun v hv => ?_⟩⟩
      · rw [upd_same, List.map_append]; rfl
      · rcases List.mem_append.mp hv with q | q
        · exact b1 v q
        · rw [List.mem_singleton.mp q]; exact hu
    · refine ⟨Dl, _, rfl, .inl ⟨SqL.of g1, fun u H2 hu e2 g2 => ?_⟩⟩
      obtain ⟨z, hz⟩ : ∃ z, zs[n]? = some z := ⟨_, List.getElem?_eq_getElem (by omega)⟩
      have e12 := e1.trans e2
      refine ⟨_, rfl, _, rfl, _, rfl, _, rfl, _, _, n, .int z, rfl, rfl, sq H2 e12, atI_nat (by rw [List.getElem?_map, hz]; rfl), _, rfl, n, b, z, rfl, n2, n4, fun fs y H3 e3 s3 f3 l3 hy => ⟨by show 2 ≤ 1000; decide, fun u2 H4 hu2 e4 g4 => ?_⟩⟩
      refine kq (ns, fs) _ H4 ((e12.trans e3).trans e4) ⟨⟨by show 2 ≤ ns.length; omega, by show ns.length ≤ 4; omega, b1, s3, fun f hf => ?_⟩, l1, l3⟩ (.tup (st_of g4) (.cons (.tup (st_of (e4 _ _ (e3 _ _ g2))) (RpL.ints ns)) (.one (hy.up e4))))
      have := f3 f hf
      show f.1 < ns.length ∧ 1 ≤ f.2.1 ∧ f.2.1 ≤ 5 ∧ f.2.2 < 2 ^ ns.length ∧ f.2.2.testBit f.1 = false
      rw [l1]
      exact this
end
end RF

set_option Elab.async false
set_option linter.all false
set_option maxRecDepth 100000
set_option maxHeartbeats 2000000
namespace RF
open PySem PySem.Spec PyProof.Rows L2 Evl RM RC TL LamX NdefX
section
variable {P : Program} {w : World} {K : PySem.W.Frag} {mg : Str → Option Value} {base : Heap}
def sp_law_text (K : PySem.W.Frag) : Sp := fun vs H Q _ => ∃ (r : Rn) (x : V), vs = [x] ∧ Rp K H (eR r) x ∧ Valid r ∧ ∀ H', Ex H H' → Q (.str (showR r)) H'
abbrev N_law_text : List Str := ["_law_run_here", "_law_words", "_law_number_here", "_law_hand", "_law_at", "_law_reached_here", "_law_hands", "_law_other"]
theorem sc_law_text : FnScope N_law_text ["_law_run_here"] (defScope s_law_text) := ⟨rfl, rfl, rfl, by decide +kernel, rfl, by decide +kernel, by decide +kernel⟩
theorem ok_law_text (T : Txt P w K mg base) : Ok P w K mg base "_law_text" (1 + 1) ["_law_run_here"] (sp_law_text K) := by
  refine Ok.of T.f_law_text sc_law_text (fun _ _ _ _ _ _ us hl => match us, hl with | [_], _ => rfl) (fun vs H Q E h => ?_) (fun f cdv A outer s H vs Q E hr h => ?_)
  · obtain ⟨r, x, rfl, hx, hv, kq⟩ := h
    rfl
  · obtain ⟨r, x, rfl, hx, hv, kq⟩ := h
    refine ⟨_, (pss_cons (ps_set (i := 1) sc_law_text.nd rfl (by first | exact Or.inl rfl | exact Or.inr rfl) (pe_op opCatL (pe_lc (own := [("_law_number_here", 2)]) rfl sc_law_text.nd (piT (K := K) rfl (pe_ix (ixT (K := K) rfl) (pv 0) pe_int (fun _ _ => rfl))) (blkOk_by (N := N_law_text) (sc := defScope s_law_text) (own := [("_law_number_here", 2)]) (by decide +kernel)) (fun _ _ _ _ _ => (pg_name (i := 2) sc_law_text.nd rfl (by first | exact Or.inl rfl | exact Or.inr rfl))) (fun _ _ _ _ _ => pts_nil) (fun _ _ _ _ _ => (pe_callTy call_str_int (by rfl) T.n_str bt_str (pa_cons (pv 2) pa_nil)))) (peLst (pa_cons pe_str pa_nil))))
 (pss_cons (ps_for PassesOwn.never rfl (piT (K := K) rfl (pe_ix (ixT (K := K) rfl) (pv 0) pe_int (fun _ _ => rfl))) (pgTup (K := K) (n := 3) rfl rfl (pgs_cons (pg_name (i := 3) sc_law_text.nd rfl (by first | exact Or.inl rfl | exact Or.inr rfl)) (pgs_cons (pg_name (i := 4) sc_law_text.nd rfl (by first | exact Or.inl rfl | exact Or.inr rfl)) (pgs_cons (pg_name (i := 5) sc_law_text.nd rfl (by first | exact Or.inl rfl | exact Or.inr rfl)) pgs_nil))))
 (pss_cons (ps_setLc (i := 6) (own := [("_law_other", 7)]) rfl sc_law_text.nd rfl rfl (sw_true rfl rfl rfl (by decide +kernel)) (pi_range1 (by rfl) T.n_range (pa_cons pe_int pa_nil)) (blkOk_by (N := N_law_text) (sc := defScope s_law_text) (own := [("_law_other", 7)]) (by decide +kernel)) (fun _ _ _ _ _ => (pg_name (i := 7) sc_law_text.nd rfl (by first | exact Or.inl rfl | exact Or.inr rfl))) (fun _ _ _ _ _ => (pts_one (pt_cmpR op_eq (pe_op op_mod (pe_op op_fdiv (pv 5) (pc (ok_law_bit T) hr (pa_cons (pv 7) pa_nil))) pe_int) pe_int (by first | rfl | exact nomark _)))) (fun _ _ _ _ _ => (pe_callTy call_str_int (by rfl) T.n_str bt_str (pa_cons (pv 7) pa_nil))))
 (pss_one (ps_expr (pe_bm PySem.F.plainAttrs_list PySem.F.slot_list_append PySem.F.type_list_append mt_append (pv 1) (pa_cons (pe_op op_add_str (pe_op op_add_str (pe_op op_add_str (pe_op op_add_str (pe_callTy call_str_int (by rfl) T.n_str bt_str (pa_cons (pv 3) pa_nil)) pe_str) (pe_callTy call_str_int (by rfl) T.n_str bt_str (pa_cons (pv 4) pa_nil))) pe_str) (pe_join pe_str (pv 6))) pa_nil))))))
 (pss_one (ps_ret (pe_join pe_str (pv 1)))))), ?_⟩
    have h4 := hv.hi
    have fl4 := falls_len hv
    obtain ⟨a, pn, pf, fs, rfl, h1, h2, h3, h5⟩ := run_get hx
    have fl := h5.len
    rw [List.length_map] at fl
    refine ⟨_, rfl, _, _, 0, _, rfl, rfl, h1, atI_nat (j := 0) rfl, pn, rfl, ⟨_, h2⟩, fun D1 hD1 => ?_⟩
    refine lc_tup (K := K) (a := pn) (xs := r.1.map V.int) (fun i H' => Ex H H' ∧ H' D1 = some (.lst (((r.1.take i).map zS).map V.str))) ⟨Ex.new hD1, upd_same⟩ (fun i H' _ ⟨e, _⟩ => ex_t e h2) (fun i y H' hi ⟨e2, g2⟩ => ?_) (fun H1 ⟨e1, g1⟩ => ?_)
    · rw [List.getElem?_map] at hi
      obtain ⟨z, hz, rfl⟩ := Option.map_eq_some_iff.mp hi
      have hzl := hv.num z (List.mem_of_getElem? hz)
      refine ⟨rfl, _, rfl, _, rfl, z_log hzl, _, g2, sz_lt (by rw [List.length_map, List.length_map, List.length_take]; omega), e2.mut hD1, ?_⟩
      rw [upd_same, List.take_add_one, hz, Option.toList_some, List.map_append, List.map_append]
      rfl
    rw [List.length_map, List.take_length] at g1
    refine ⟨by show 1 ≤ 1000; decide, fun l2 H2 hl2 e2 g2 => ?_⟩
    refine ⟨D1, l2, _, _, rfl, rfl, e2 _ _ g1, g2, by simp; omega, fun p3 H3 hp3 e3 g3 => ?_⟩
    have e13 := (e1.trans e2).trans e3
    have n3 : H p3 = none := fresh_back (e1.trans e2) hp3
    have g3' : H3 p3 = some (.lst ((r.1.map zS ++ [("/" : Str)] ++ ([] : List Fall).map showF).map V.str)) := by
      rw [g3]
      simp
    refine ⟨_, rfl, _, _, 1, _, rfl, rfl, ex_t e13 h1, atI_nat (j := 1) rfl, pf, rfl, ⟨_, ex_t e13 h3⟩, for_tup (K := K) (a := pf) (xs := fs) (fun i σ H' => Ex H H' ∧ (∃ o1 o2 o3 o4, σ = [some (.ref a), some (.ref p3), none, o1, o2, o3, o4, none]) ∧ H' p3 = some (.lst ((r.1.map zS ++ [("/" : Str)] ++ (r.2.take i).map showF).map V.str))) ⟨e13, ⟨none, none, none, none, rfl⟩, g3'⟩ (fun i σ H' _ ⟨e, _⟩ => ex_t e h3) ?_ ?_⟩
    · rintro i y σ H' hi ⟨e4, ⟨o1, o2, o3, o4, rfl⟩, g4⟩
      obtain ⟨d, hd, rd⟩ := h5.get' hi
      rw [List.getElem?_map] at hd
      obtain ⟨f', hf, rfl⟩ := Option.map_eq_some_iff.mp hd
      obtain ⟨q1, q2, q3⟩ := valid_small hv f' (List.mem_of_getElem? hf)
      obtain ⟨c, rfl, gc⟩ := fall_get (rd.up e4)
      refine ⟨c, _, rfl, gc, rfl, _, _, rfl, _, _, rfl, _, _, rfl, rfl, ?_⟩
      refine ⟨_, rfl, by omega, by omega, fun D5 hD5 => ?_⟩
      refine lc_range (lo := 0) (n := 5) (fun j H'' => Ex H' H'' ∧ H'' D5 = some (.lst ((((List.range j).filter (hasH f'.2.2)).map fun h => zS (h : Nat)).map V.str))) ⟨Ex.new hD5, upd_same⟩ (fun j H'' hj ⟨e5, g5⟩ => ?_) (fun H5 ⟨e5, g5⟩ => ?_)
      · rw [Int.zero_add]
        have small : ((((List.range j).filter (hasH f'.2.2)).map fun h => zS (h : Nat)).map V.str).length ≤ 5 := by
          rw [List.length_map, List.length_map]
          have := List.length_filter_le (hasH f'.2.2) (List.range j)
          rw [List.length_range] at this
          omega
        have hp5 : 2 ^ j ≤ 2 ^ 5 := Nat.pow_le_pow_right (by decide) (by omega)
        have hp0 : 0 < 2 ^ j := Nat.two_pow_pos j
        refine ⟨rfl, _, rfl, _, rfl, j, rfl, hj, fun H6 e6 => ?_⟩
        refine ⟨_, _, rfl, rfl, ⟨by omega, by omega⟩, _, _, rfl, rfl, by show (0 : Int) < 2; decide, rfl, hasH f'.2.2 j, ?_, ?_⟩
        · show V.bl (decide (V.int ((f'.2.2 : Int) / ((2 ^ j : Nat) : Int) % 2) = V.int 1)) = _
          rw [bit_div]
          unfold hasH
          cases f'.2.2.testBit j <;> rfl
        rw [filter_range_succ]
        cases hb : hasH f'.2.2 j with
        | true =>
          refine iteT ⟨_, rfl, _, rfl, n_log (by omega), _, e6 _ _ g5, sz_lt (by omega), (e5.trans e6).mut hD5, ?_⟩
          rw [upd_same, if_pos rfl, List.map_append, List.map_append]
          rfl
        | false =>
          refine iteF ⟨e5.trans e6, ?_⟩
          rw [e6 _ _ g5, if_neg (by decide), List.append_nil]
      · have hh : (List.range 5).filter (hasH f'.2.2) = handsIn f'.2.2 := rfl
        rw [hh] at g5
        have g45 := e5 _ _ g4
        have hl := join_hands_len f'.2.2
        have sm : ((r.1.map zS ++ [("/" : Str)] ++ (r.2.take i).map showF).map V.str).length ≤ 9 := by
          simp only [List.length_map, List.length_append, List.length_singleton, List.length_take]
          omega
        refine ⟨_, rfl, .inl ⟨rfl, _, SqL.of g45⟩, _, rfl, _, rfl, n_log (by omega), _, _, rfl, rfl, sz_of (by show (zS (f'.1 : Nat)).length + 1 ≤ 100000; rw [z_small q1]; omega), ?_⟩
        refine ⟨_, rfl, _, rfl, n_log (by omega), _, _, rfl, rfl, sz_of (by show (zS (f'.1 : Nat) ++ "@").length + (zS (f'.2.1 : Nat)).length ≤ 100000; rw [len_app, z_small q1, z_small q2]; show 1 + 1 + 1 ≤ 100000; omega), ?_⟩
        refine ⟨_, _, rfl, rfl, sz_of (by show (zS (f'.1 : Nat) ++ "@" ++ zS (f'.2.1 : Nat)).length + 1 ≤ 100000; rw [len_app, len_app, z_small q1, z_small q2]; show 1 + 1 + 1 + 1 ≤ 100000; omega), ?_⟩
        refine ⟨⟨_, rfl⟩, _, rfl, _, D5, (handsIn f'.2.2).map fun h => zS (h : Nat), rfl, rfl, .inl (SqL.of g5), ?_, ?_⟩
        · have h1 := strs_len (l := (handsIn f'.2.2).map fun h => zS (h : Nat)) (B := 1) (n := 5) (fun x hx => by
            obtain ⟨h, hh, rfl⟩ := List.mem_map.mp hx
            have h5 := handsIn5 _ h hh
            rw [z_small (by omega)]
            exact Nat.le_refl _) (by rw [List.length_map]; exact handsIn_len _)
          have h2 : ("" : Str).length = 0 := by decide +kernel
          rw [h2]
          omega
        · refine ⟨_, _, rfl, rfl, sz_of ?_, p3, _, .str (showF f'), rfl, ?_, g45, sz_lt (by omega), (e4.trans e5).mut n3, ⟨some (.int f'.1), some (.int f'.2.1), some (.int f'.2.2), some (.ref D5), rfl⟩, ?_⟩
          · show (zS (f'.1 : Nat) ++ "@" ++ zS (f'.2.1 : Nat) ++ ">").length + (Txt.join "" _).length ≤ 100000
            rw [join_eq, len_app, len_app, len_app, z_small q1, z_small q2]
            show 1 + 1 + 1 + 1 + _ ≤ 100000
            omega
          · show [V.str (zS (f'.1 : Nat) ++ "@" ++ zS (f'.2.1 : Nat) ++ ">" ++ Txt.join "" ((handsIn f'.2.2).map fun h => zS (h : Nat)))] = _
            rw [join_eq]
            rfl
          · rw [upd_same, List.take_add_one, hf, Option.toList_some]
            simp
    · rintro σ H' ⟨e4, ⟨o1, o2, o3, o4, rfl⟩, g4⟩
      rw [fl, List.take_length] at g4
      obtain ⟨w1, w2⟩ := words_len hv fl4
      refine ⟨⟨_, rfl⟩, _, rfl, _, p3, wordsR r, rfl, rfl, .inl (SqL.of g4), by omega, ?_⟩
      have := kq H' e4
      show Q (.str (Txt.join " " (wordsR r))) H'
      rw [join_eq]
      exact this
end
end RF

set_option Elab.async false
set_option linter.all false
set_option maxRecDepth 100000
set_option maxHeartbeats 2000000
namespace RF
open PySem PySem.Spec PyProof.Rows L2 Evl RM RC TL LamX NdefX
theorem eL_get {K : PySem.W.Frag} {H : Hp} {t : Bool × Option Int} {x : V} (h : Rp K H (eL t) x) : ∃ a, x = .ref a ∧ SqT K H a [.bl t.1, oi t.2] := by
  unfold eL at h
  obtain ⟨a, xs, rfl, h2, h3⟩ := Rp.tup_iff.mp h
  obtain ⟨x1, r1, rfl, g1, h3⟩ := RpL.cons_iff.mp h3
  obtain ⟨x2, r2, rfl, g2, h3⟩ := RpL.cons_iff.mp h3
  have e := RpL.nil_iff.mp h3
  subst e
  rw [Rp.bl_iff.mp g1, oD_iff g2] at h2
  exact ⟨a, rfl, h2⟩
theorem told_get {f : AV → Option Int} {r : Rn} {k h : Nat} (hh : h ∈ whoUp r k) : (lawTold f r k)[h]? = some (true, toldAt f r k h) := by
  obtain ⟨h1, h2⟩ := whoUp_mem.mp hh
  unfold lawTold
  rw [List.getElem?_map, List.getElem?_range h1]
  show some (if isUp r h k = true then (true, toldAt f r k h) else (false, none)) = _
  rw [if_pos h2]
theorem eqv_refl_ints : ∀ l : List Int, PyData.eqvAll (l.map PyData.int) (l.map PyData.int) = true
  | [] => rfl
  | a :: l => by
    show ((a == a) && PyData.eqvAll (l.map PyData.int) (l.map PyData.int)) = true
    rw [eqv_refl_ints l]
    simp
theorem dp_ints {K : PySem.W.Frag} {H : Hp} {a : Addr} {l : List Int} (h : SqT K H a (l.map V.int)) : Dp K H (.ref a) (.tuple (l.map PyData.int)) := by
  refine .tup h ?_
  clear h
  induction l with
  | nil => exact .nil
  | cons x l ih => exact .cons (.int x) ih
theorem shaped_ints (l : List Int) : SeqAt.shaped (.tuple (l.map PyData.int)) = true := by
  obtain ⟨h1, h2⟩ := lay_ints l
  show (PyData.canLayAll0 (l.map PyData.int) && decide (PyData.depthAll (l.map PyData.int) + 1 ≤ 64)) = true
  rw [h1, h2]
  rfl
theorem fig5_mem {c : Nat} (h : 48 ≤ c ∧ c ≤ 52) : c ∈ ("01234" : Str).cps.toList := by
  have e : ("01234" : Str).cps.toList = [48, 49, 50, 51, 52] := by decide +kernel
  rw [e]
  simp only [List.mem_cons, List.not_mem_nil, or_false]
  omega
section
variable {P : Program} {w : World} {K : PySem.W.Frag} {mg : Str → Option Value} {base : Heap}
def sp_law_breaks (K : PySem.W.Frag) : Sp := fun vs H Q _ => ∃ (n b k : Nat) (wd : Word) (kind : Str) (r : Rn) (hs : List Nat) (p f : Addr), vs = [.ref p, .str (showR r), .ref f, .int n, .int b, .int k] ∧ H p = some (.lst ((brkW kind hs).map V.str)) ∧ BrkT (RM.rule wd b) n b k kind r hs ∧ RuleF H f wd b ∧ k ≤ 2 ∧ ∀ H', Ex H H' → Q (.bl true) H'
abbrev N_law_breaks : List Str := ["_law_words", "_law_text_here", "_law_rule_here", "_law_many", "_law_bound", "_law_rounds", "_law_run_here", "_law_told_here", "_law_hands", "_law_word"]
theorem sc_law_breaks : FnScope N_law_breaks ["_law_words", "_law_text_here", "_law_rule_here", "_law_many", "_law_bound", "_law_rounds"] (defScope s_law_breaks) := ⟨rfl, rfl, rfl, by decide +kernel, rfl, by decide +kernel, by decide +kernel⟩
theorem ok_law_breaks (T : Txt P w K mg base) : Ok P w K mg base "_law_breaks" (10 + 1) ["_law_words", "_law_text_here", "_law_rule_here", "_law_many", "_law_bound", "_law_rounds"] (sp_law_breaks K) := by
  refine Ok.of T.f_law_breaks sc_law_breaks (fun _ _ _ _ _ _ us hl => match us, hl with | [_, _, _, _, _, _], _ => rfl) (fun vs H Q E h => ?_) (fun f cdv A outer s H vs Q E hr h => ?_)
  · obtain ⟨n, b, k, wd, kind, r, hs, p, fa, rfl, gp, bt, hf, hk2, kq⟩ := h
    rfl
  · obtain ⟨n, b, k, wd, kind, r, hs, p, fa, rfl, gp, bt, hf, hk2, kq⟩ := h
    refine ⟨_, (pss_cons (ps_set (i := 6) sc_law_breaks.nd rfl (by first | exact Or.inl rfl | exact Or.inr rfl) (pc (ok_read_run T) hr (pa_cons (pv 1) pa_nil)))
 (pss_cons (ps_if (PW.pt (pw_or (pt_cmpR op_ne (pc (ok_law_text T) hr (pa_cons (pv 6) pa_nil)) (pv 1) (by first | rfl | exact nomark _)) (pw_or (pt_cmpR op_ne (pe_callB (cLen (K := K) rfl) (by rfl) T.n_len bt_len (pa_cons (pe_ix (ixT (K := K) rfl) (pv 6) pe_int (fun _ _ => rfl)) pa_nil)) (pv 3) (by first | rfl | exact nomark _)) (pw_or1 (pt_cmpR op_gt (pe_callB (cLen (K := K) rfl) (by rfl) T.n_len bt_len (pa_cons (pe_ix (ixT (K := K) rfl) (pv 6) pe_int (fun _ _ => rfl)) pa_nil)) (pv 4) (by first | rfl | exact nomark _))))))
 (pss_one (ps_ret pe_bl))
 pss_nil)
 (pss_cons (ps_set (i := 7) sc_law_breaks.nd rfl (by first | exact Or.inl rfl | exact Or.inr rfl) (pc (ok_law_told T) hr (pa_cons (pv 2) (pa_cons (pv 6) (pa_cons (pv 5) pa_nil)))))
 (pss_cons (ps_set (i := 8) sc_law_breaks.nd rfl (by first | exact Or.inl rfl | exact Or.inr rfl) (peLst pa_nil))
 (pss_cons (ps_for PassesOwn.never rfl (piL (K := K) rfl (pe_slice (slLK (K := K) rfl) (pv 0) (po_some pe_int) po_none)) (pg_name (i := 9) sc_law_breaks.nd rfl (by first | exact Or.inl rfl | exact Or.inr rfl))
 (pss_cons (ps_if (PW.pt (pw_or (pt_cmpR op_ne (pe_callB call_len_str (by rfl) T.n_len bt_len (pa_cons (pv 9) pa_nil)) pe_int (by first | rfl | exact nomark _)) (pw_or (pt_cmpR op_notIn_sign (pv 9) pe_str (by first | rfl | exact nomark _)) (pw_or (pt_cmpR op_ge (pe_callTy call_int_str (by rfl) T.n_int bt_int (pa_cons (pv 9) pa_nil)) (pv 3) (by first | rfl | exact nomark _)) (pw_or1 (pt_not (pt_val (pe_ix (ixT (K := K) rfl) (pe_ix (ixL (K := K) rfl) (pv 7) (pe_callTy call_int_str (by rfl) T.n_int bt_int (pa_cons (pv 9) pa_nil)) (fun _ _ => rfl)) pe_int (fun _ _ => rfl)))))))))
 (pss_one (ps_ret pe_bl))
 pss_nil)
 (pss_one (ps_expr (pe_bm PySem.F.plainAttrs_list PySem.F.slot_list_append PySem.F.type_list_append mt_append (pv 8) (pa_cons (pe_callTy call_int_str (by rfl) T.n_int bt_int (pa_cons (pv 9) pa_nil)) pa_nil))))))
 (pss_cons (ps_if (pt_cmpR op_eq (pe_ix (ixL (K := K) rfl) (pv 0) pe_int (fun _ _ => rfl)) pe_str (by first | rfl | exact nomark _))
 (pss_one (ps_ret (pe_and (pe_cmpR op_eq (pe_callB (cLen (K := K) rfl) (by rfl) T.n_len bt_len (pa_cons (pv 8) pa_nil)) pe_int (by first | rfl | exact nomark _)) (pe_and (pe_cmpR op_lt (pe_ix (ixL (K := K) rfl) (pv 8) pe_int (fun _ _ => rfl)) (pe_ix (ixL (K := K) rfl) (pv 8) pe_int (fun _ _ => rfl)) (by first | rfl | exact nomark _)) (pe_one (pe_cmpR op_ne (pe_ix (ixT (K := K) rfl) (pe_ix (ixL (K := K) rfl) (pv 7) (pe_ix (ixL (K := K) rfl) (pv 8) pe_int (fun _ _ => rfl)) (fun _ _ => rfl)) pe_int (fun _ _ => rfl)) (pe_ix (ixT (K := K) rfl) (pe_ix (ixL (K := K) rfl) (pv 7) (pe_ix (ixL (K := K) rfl) (pv 8) pe_int (fun _ _ => rfl)) (fun _ _ => rfl)) pe_int (fun _ _ => rfl)) (by first | rfl | exact nomark _)))))))
 pss_nil)
 (pss_cons (ps_if (PW.pt (pw_or (pt_cmpR op_ne (pe_ix (ixL (K := K) rfl) (pv 0) pe_int (fun _ _ => rfl)) pe_str (by first | rfl | exact nomark _)) (pw_or (pt_cmpR op_ne (pe_callB (cLen (K := K) rfl) (by rfl) T.n_len bt_len (pa_cons (pv 8) pa_nil)) pe_int (by first | rfl | exact nomark _)) (pw_or1 (pt_cmp (pc_isN (pe_ix (ixT (K := K) rfl) (pe_ix (ixL (K := K) rfl) (pv 7) (pe_ix (ixL (K := K) rfl) (pv 8) pe_int (fun _ _ => rfl)) (fun _ _ => rfl)) pe_int (fun _ _ => rfl))))))))
 (pss_one (ps_ret pe_bl))
 pss_nil)
 (pss_one (ps_ret (pe_and (pe_cmpR (opEqD (K := K) rfl hr.units) (pe_ix (ixT (K := K) rfl) (pv 6) pe_int (fun _ _ => rfl)) (pe_op (opRepT (K := K) rfl) (peTup (pa_cons (pe_ix (ixT (K := K) rfl) (pe_ix (ixT (K := K) rfl) (pv 6) pe_int (fun _ _ => rfl)) pe_int (fun _ _ => rfl)) pa_nil)) (pv 3)) (by first | rfl | exact nomark _)) (pe_one (pe_cmpR op_ne (pe_ix (ixT (K := K) rfl) (pe_ix (ixL (K := K) rfl) (pv 7) (pe_ix (ixL (K := K) rfl) (pv 8) pe_int (fun _ _ => rfl)) (fun _ _ => rfl)) pe_int (fun _ _ => rfl)) (pe_ix (ixT (K := K) rfl) (pe_ix (ixT (K := K) rfl) (pv 6) pe_int (fun _ _ => rfl)) pe_int (fun _ _ => rfl)) (by first | rfl | exact nomark _))))))))))))), ?_⟩
    obtain ⟨s1, hv, s3, s4⟩ := brk_small bt
    obtain ⟨hg, hkind⟩ := bt
    have h4 := hv.hi
    have hn := hg.n
    have hb := hg.b
    refine ⟨_, rfl, r, rfl, hv, fun y H1 e1 hy => ?_⟩
    obtain ⟨a, pn, pf, fs, ey, h1, h2, h3, h5⟩ := run_get hy
    have fl := h5.len
    rw [List.length_map] at fl
    refine ⟨_, rfl, r, y, rfl, hy, hv, fun H2 e2 => ⟨_, rfl, rfl, false, ?_, iteF ?_⟩⟩
    · show V.bl (!decide (V.str (showR r) = V.str (showR r))) = _
      simp
    subst ey
    refine ⟨_, rfl, _, _, 0, _, rfl, rfl, ex_t e2 h1, atI_nat (j := 0) rfl, pn, _, rfl, .inr (ex_t e2 h2), _, rfl, rfl, false, ?_, iteF ?_⟩
    · rw [List.length_map, hn]
      simp
    refine ⟨_, rfl, _, _, 1, _, rfl, rfl, ex_t e2 h1, atI_nat (j := 1) rfl, pf, fs, rfl, .inr (ex_t e2 h3), _, rfl, _, _, rfl, rfl, false, df (by omega), iteF ?_⟩
    have e12 := e1.trans e2
    refine ⟨_, rfl, _, rfl, _, rfl, r, k, _, fa, wd, b, rfl, hf.up e12, hy.up e2, hv, hk2, fun q H3 hq e3 lq => ?_⟩
    obtain ⟨ts, gq, rq⟩ := lq
    refine ⟨by show 0 ≤ 1000; decide, fun l H4 hl e4 g4 => ?_⟩
    have e14 := (e12.trans e3).trans e4
    have gp4 := e14 _ _ gp
    refine ⟨_, rfl, _, rfl, p, _, rfl, SqL.of gp4, fun ws H5 hws e5 g5 => ?_⟩
    have ecut : cutV ((brkW kind hs).map V.str) (some 1) none = (hs.map fun h => zS (h : Nat)).map V.str := cutV_from ((brkW kind hs).map V.str) 1
    rw [ecut] at g5
    have l5 := e5 _ _ g4
    have nl : H l = none := fresh_back (e12.trans e3) hl
    have q5 := e5 _ _ (e4 _ _ gq)
    have nql : q ≠ l := ne_of_none gq hl
    have nwl : ws ≠ l := fun z => by rw [← z] at g4; rw [g4] at hws; cases hws
    have e15 := e14.trans e5
    have told : ∀ h ∈ whoUp r k, ∃ t, ts[h]? = some (.ref t) ∧ SqT K H5 t [.bl true, oi (toldAt (RM.rule wd b) r k h)] := fun h hh => by
      obtain ⟨x, hx, rx⟩ := rq.get (i := h) (d := eL (true, toldAt (RM.rule wd b) r k h)) (by rw [List.getElem?_map, told_get hh]; rfl)
      obtain ⟨t, rfl, ht⟩ := eL_get rx
      exact ⟨t, hx, ex_t (e4.trans e5) ht⟩
    have hup : ∀ h ∈ hs, h ∈ whoUp r k := fun h hh => by
      rcases hkind with ⟨_, h0, h1, rfl, _, m0, m1, _⟩ | ⟨_, h0, c, m, rfl, m0, _⟩
      · simp only [List.mem_cons, List.not_mem_nil, or_false] at hh
        rcases hh with e | e <;> rw [e]
        · exact m0
        · exact m1
      · rw [List.mem_singleton.mp hh]; exact m0
    refine ⟨ws, rfl, ⟨_, SqL.of g5⟩, for_list (K := K) (a := ws) (xs := (hs.map fun h => zS (h : Nat)).map V.str) (fun i σ H' => ExB l H5 H' ∧ (∃ o9, σ = [some (.ref p), some (.str (showR r)), some (.ref fa), some (.int n), some (.int b), some (.int k), some (.ref a), some (.ref q), some (.ref l), o9]) ∧ H' l = some (.lst ((hs.take i).map fun h => V.int (h : Nat)))) ⟨ExB.refl l H5, ⟨none, rfl⟩, l5⟩ (fun i σ H' _ ⟨f1, _⟩ => SqL.of (f1 _ _ nwl g5)) ?_ ?_⟩
    · rintro i y σ H' hi ⟨f1, ⟨o9, rfl⟩, f3⟩
      rw [List.getElem?_map, List.getElem?_map] at hi
      obtain ⟨x, hx, rfl⟩ := Option.map_eq_some_iff.mp hi
      obtain ⟨h, hh, rfl⟩ := Option.map_eq_some_iff.mp hx
      have hm := hup h (List.mem_of_getElem? hh)
      have hlt := (whoUp_mem.mp hm).1
      obtain ⟨t, ht, st⟩ := told h hm
      have st' := (f1.exT l5).sqt st
      have q' := f1 _ _ nql q5
      rw [← dig_eq (show h < 10 by omega)]
      refine ⟨_, rfl, _, rfl, sz_of (by rw [one_len]; omega), rfl, false, by rw [one_len]; rfl, iteF ⟨_, rfl, 48 + h, _, rfl, rfl, false, ?_, iteF ?_⟩⟩
      · rw [decide_eq_true (fig5_mem (c := 48 + h) (by omega))]; rfl
      refine ⟨_, rfl, _, _, rfl, dig_int (by omega), by rw [one_len]; omega, _, rfl, _, _, rfl, rfl, false, df (by omega), iteF ?_⟩
      refine ⟨_, rfl, _, rfl, _, _, rfl, dig_int (by omega), by rw [one_len]; omega, _, _, h, _, rfl, rfl, SqL.of q', atI_nat ht, _, _, 0, _, rfl, rfl, st', atI_nat (j := 0) rfl, _, rfl, iteF ?_⟩
      refine ⟨_, rfl, .inl ⟨rfl, _, SqL.of f3⟩, _, rfl, _, _, rfl, dig_int (by omega), by rw [one_len]; omega, l, _, _, rfl, rfl, f3, sz_lt (by rw [List.length_map, List.length_take]; omega), ?_⟩
      refine ⟨f1.trans ExB.set, ⟨_, rfl⟩, ?_⟩
      rw [upd_same, List.take_add_one, hh, Option.toList_some, List.map_append]
      rfl
    · rintro σ H6 ⟨f1, ⟨o9, rfl⟩, f3⟩
      rw [List.length_map, List.length_map, List.take_length] at f3
      have e16 : Ex H H6 := f1.ex e15 nl
      have gp6 := e16 _ _ gp
      have q6 := f1 _ _ nql q5
      have told6 : ∀ h ∈ whoUp r k, ∃ t, ts[h]? = some (.ref t) ∧ SqT K H6 t [.bl true, oi (toldAt (RM.rule wd b) r k h)] := fun h hh => by
        obtain ⟨t, h1, h2⟩ := told h hh
        exact ⟨t, h1, (f1.exT l5).sqt h2⟩
      have gw0 : ((brkW kind hs).map V.str)[0]? = some (.str kind) := rfl
      refine ⟨_, rfl, _, _, 0, _, rfl, rfl, SqL.of gp6, atI_nat (j := 0) gw0, rfl, ?_⟩
      rcases hkind with ⟨rfl, h0, h1', rfl, lt01, m0, m1, hne⟩ | ⟨rfl, h0, c, m, rfl, m0, hrep, hm, hmc⟩
      · obtain ⟨t0, x0, y0⟩ := told6 h0 m0
        obtain ⟨t1, x1, y1⟩ := told6 h1' m1
        refine ⟨true, dt rfl, iteT ⟨_, rfl, l, _, rfl, .inl (SqL.of f3), rfl, true, rfl, iteT ?_⟩⟩
        refine ⟨_, rfl, _, _, 0, _, rfl, rfl, SqL.of f3, atI_nat (j := 0) rfl, _, rfl, _, _, 1, _, rfl, rfl, SqL.of f3, atI_nat (j := 1) rfl, _, _, rfl, rfl, true, dt (by omega), iteT ?_⟩
        refine ⟨_, rfl, _, rfl, _, _, 0, _, rfl, rfl, SqL.of f3, atI_nat (j := 0) rfl, _, _, h0, _, rfl, rfl, SqL.of q6, atI_nat x0, _, _, 1, _, rfl, rfl, y0, atI_nat (j := 1) rfl, ?_⟩
        refine ⟨_, rfl, _, rfl, _, _, 1, _, rfl, rfl, SqL.of f3, atI_nat (j := 1) rfl, _, _, h1', _, rfl, rfl, SqL.of q6, atI_nat x1, _, _, 1, _, rfl, rfl, y1, atI_nat (j := 1) rfl, oi_scal _ _, ?_⟩
        rw [oi_eq, decide_eq_false hne]
        exact kq H6 e16
      · obtain ⟨t0, x0, y0⟩ := told6 h0 m0
        have y0' : SqT K H6 t0 [.bl true, .int m] := by rw [hm] at y0; exact y0
        refine ⟨false, df (by decide +kernel), iteF ?_⟩
        refine ⟨_, rfl, _, _, 0, _, rfl, rfl, SqL.of gp6, atI_nat (j := 0) gw0, rfl, false, by decide +kernel, iteF ?_⟩
        refine ⟨_, rfl, l, _, rfl, .inl (SqL.of f3), rfl, false, rfl, iteF ?_⟩
        refine ⟨_, rfl, _, rfl, _, _, 0, _, rfl, rfl, SqL.of f3, atI_nat (j := 0) rfl, _, _, h0, _, rfl, rfl, SqL.of q6, atI_nat x0, _, _, 1, _, rfl, rfl, y0', atI_nat (j := 1) rfl, _, rfl, iteF ?_⟩
        have xup : ExT H1 H6 := ExT.trans (exT (e2.trans (e3.trans (e4.trans e5)))) (f1.exT l5)
        have a6 := xup.sqt h1
        have n6 := xup.sqt h2
        have hlo := hv.lo
        have hc0 : (r.1.map V.int)[0]? = some (.int c) := by
          rw [List.getElem?_map, hrep, List.getElem?_replicate, if_pos (by omega)]; rfl
        refine ⟨_, rfl, _, _, 0, _, rfl, rfl, a6, atI_nat (j := 0) rfl, ?_⟩
        refine ⟨_, rfl, _, _, 0, _, rfl, rfl, a6, atI_nat (j := 0) rfl, _, _, 0, _, rfl, rfl, n6, atI_nat (j := 0) hc0, by show 1 ≤ 1000; decide, fun t7 H7 ht7 e7 g7 => ?_⟩
        refine ⟨_, rfl, t7, n, _, rfl, rfl, st_of g7, by simp, by omega, by omega, by show 1 ≤ 1000; decide, fun u hu => ?_⟩
        have e8 : Ex H7 (upd H7 u (.tup (List.replicate ((n : Nat) : Int).toNat [V.int c]).flatten)) := Ex.new hu
        have g8 : (upd H7 u (.tup (List.replicate ((n : Nat) : Int).toNat [V.int c]).flatten)) u = some (.tup (r.1.map V.int)) := by
          rw [upd_same, Int.toNat_natCast]
          congr 2
          rw [hrep, List.map_replicate]
          have : ∀ (m : Nat) (v : V), (List.replicate m [v]).flatten = List.replicate m v := by
            intro m v
            induction m with
            | zero => rfl
            | succ m ih => rw [List.replicate_succ, List.flatten_cons, ih]; rfl
          exact this _ _
        generalize upd H7 u (.tup (List.replicate ((n : Nat) : Int).toNat [V.int c]).flatten) = H8 at e8 g8
        have e78 := e7.trans e8
        refine ⟨_, _, dp_ints (ex_t e78 n6), dp_ints (st_of g8), shaped_ints _, shaped_ints _, true, ?_, iteT ?_⟩
        · exact congrArg V.bl (eqv_refl_ints r.1)
        refine ⟨_, rfl, _, rfl, _, _, 0, _, rfl, rfl, SqL.of (e78 _ _ f3), atI_nat (j := 0) rfl, _, _, h0, _, rfl, rfl, SqL.of (e78 _ _ q6), atI_nat x0, _, _, 1, _, rfl, rfl, ex_t e78 y0', atI_nat (j := 1) rfl, ?_⟩
        refine ⟨_, rfl, _, _, 0, _, rfl, rfl, ex_t e78 a6, atI_nat (j := 0) rfl, _, _, 0, _, rfl, rfl, ex_t e78 n6, atI_nat (j := 0) hc0, rfl, ?_⟩
        have hne : (!decide (V.int m = V.int c)) = true := by
          rw [dec_int, beq_eq_false_iff_ne.mpr hmc]; rfl
        show Q (.bl (!decide (V.int m = V.int c))) H8
        rw [hne]
        exact kq H8 (e16.trans e78)
end
end RF

set_option Elab.async false
set_option linter.all false
set_option maxRecDepth 100000
set_option maxHeartbeats 2000000
namespace RF
open PySem PySem.Spec PyProof.Rows L2 Evl RM RC TL LamX NdefX
theorem exT_N {H H' : Hp} (e : ExtN H H') : ExT H H' := fun a xs h => by
  rcases h with h | ⟨u, h⟩
  · exact .inl (e _ _ h fun ps z => by cases z)
  · exact .inr ⟨u, e _ _ h fun ps z => by cases z⟩
theorem Kept.ext {K : PySem.W.Frag} {H H' : Hp} {d kd : Addr} {kvs : List (Key × V)} {c : Nat} {r : Rn} {n b k : Nat} (h : Kept K H d kd kvs c r n b k) (e : ExtN H H') : Kept K H' d kd kvs c r n b k := by
  obtain ⟨y, h1, h2⟩ := h.has
  exact ⟨h.at_.ext e, h.lo, h.hi, ⟨y, h1, h2.upT (exT_N e)⟩, h.g, h.bn, h.k2, h.w⟩
theorem joinL_app (S : List Nat) : ∀ (l m : List (List Nat)), l ≠ [] → m ≠ [] → joinL S (l ++ m) = joinL S l ++ (S ++ joinL S m)
  | [], _, h, _ => absurd rfl h
  | [p], m, _, hm => by
    cases m with
    | nil => exact absurd rfl hm
    | cons q t => rfl
  | p :: q :: r, m, _, hm => by
    have ih := joinL_app S (q :: r) m (by simp) hm
    show p ++ (S ++ joinL S ((q :: r) ++ m)) = p ++ (S ++ joinL S (q :: r)) ++ (S ++ joinL S m)
    rw [ih]
    simp
theorem brk_split {kind : Str} {r : Rn} {hs : List Nat} (hv : Valid r) (hk : 32 ∉ tl kind) : Txt.split (brkS kind r hs) " " = brkW kind hs ++ wordsR r := by
  have e : brkS kind r hs = Str.join " " (brkW kind hs ++ wordsR r) := ext_tl (by
    unfold brkS
    rw [tl_append, tl_append, tl_join, tl_join, List.map_append, joinL_app _ _ _ (by unfold brkW; simp) (by unfold wordsR; simp)]
    unfold showR
    rw [tl_join]
    simp)
  rw [e]
  refine split_ws (by unfold brkW; simp) fun w hw => ?_
  rcases List.mem_append.mp hw with h | h
  · rcases List.mem_cons.mp h with q | q
    · rw [q]; exact hk
    · obtain ⟨x, _, rfl⟩ := List.mem_map.mp q
      rw [tl_z]
      exact z_free (by omega)
  · exact (words_ok hv w h).1
theorem lawTold_none {f : AV → Option Int} {r : Rn} {k : Nat} : ((lawTold f r k).filterMap (·.2)) = [] ↔ ∀ h ∈ whoUp r k, toldAt f r k h = none := by
  rw [List.filterMap_eq_nil_iff]
  unfold lawTold
  constructor
  · intro h x hx
    obtain ⟨h1, h2⟩ := whoUp_mem.mp hx
    have := h (true, toldAt f r k x) (List.mem_map.mpr ⟨x, List.mem_range.mpr h1, by rw [if_pos h2]⟩)
    exact this
  · intro h t ht
    obtain ⟨x, hx, rfl⟩ := List.mem_map.mp ht
    by_cases u : isUp r x k = true
    · rw [if_pos u]
      exact h x (whoUp_mem.mpr ⟨List.mem_range.mp hx, u⟩)
    · rw [if_neg u]
section
variable {P : Program} {w : World} {K : PySem.W.Frag} {mg : Str → Option Value} {base : Heap} {c1 P1 c2 P2 : Addr}
def sp_law_answered (K : PySem.W.Frag) (P1 P2 : Addr) : Sp := fun vs H Q _ => ∃ (d kd : Addr) (kvs : List (Key × V)) (c : Nat) (r : Rn) (n b k : Nat) (wd : Word) (y : V), vs = [.ref d, .str ⟨#[c]⟩, y, .int b, .int k, .str (wdS wd)] ∧ Kept K H d kd kvs c r n b k ∧ Rp K H (eR r) y ∧ TabsN (Tl P1 P2) H ∧ ∀ H', ExtN H H' → TabsN (Tl P1 P2) H' → Q (.bl true) H'
abbrev N_law_answered : List Str := ["_law_desk", "_law_name", "_law_run_here", "_law_bound", "_law_rounds", "_law_word", "_law_rule_here", "_law_found", "_law_told_here", "_law_up", "_law_number_here", "_law_words", "_law_size"]
theorem sc_law_answered : FnScope N_law_answered ["_law_desk", "_law_name", "_law_run_here", "_law_bound", "_law_rounds", "_law_word"] (defScope s_law_answered) := ⟨rfl, rfl, rfl, by decide +kernel, rfl, by decide +kernel, by decide +kernel⟩
theorem ok_law_answered (B : Tbs K mg base c1 P1 c2 P2) (T : Txt P w K mg base) : Ok P w K mg base "_law_answered" (15 + 1) ["_law_desk", "_law_name", "_law_run_here", "_law_bound", "_law_rounds", "_law_word"] (sp_law_answered K P1 P2) := by
  refine Ok.of T.f_law_answered sc_law_answered (fun _ _ _ _ _ _ us hl => match us, hl with | [_, _, _, _, _, _], _ => rfl) (fun vs H Q E h => ?_) (fun f cdv A outer s H vs Q E hr h => ?_)
  · obtain ⟨d, kd, kvs, c, r, n, b, k, wd, y, rfl, hk, hy, hT, kq⟩ := h
    rfl
  · obtain ⟨d, kd, kvs, c, r, n, b, k, wd, y, rfl, hk, hy, hT, kq⟩ := h
    refine ⟨_, (pss_cons (ps_set (i := 6) sc_law_answered.nd rfl (by first | exact Or.inl rfl | exact Or.inr rfl) (pc (ok_law_rule T B) hr (pa_cons (pv 5) (pa_cons (pv 3) pa_nil))))
 (pss_cons (ps_cut (ps_set (i := 7) sc_law_answered.nd rfl (by first | exact Or.inl rfl | exact Or.inr rfl) (pm (ok_desk_say B T) (pv 0) hr T.cl (pa_cons (pe_op op_add_str (pe_op op_add_str (pe_op op_add_str (pe_op op_add_str (pe_op op_add_str (pe_op op_add_str (pe_op op_add_str pe_str (pv 1)) pe_str) (pv 5)) pe_str) (pe_callTy call_str_int (by rfl) T.n_str bt_str (pa_cons (pv 3) pa_nil))) pe_str) (pe_callTy call_str_int (by rfl) T.n_str bt_str (pa_cons (pv 4) pa_nil))) pa_nil))))
 (pss_cons (ps_if (pt_not (pt_val (pe_callB (cIsi (K := K) rfl) (by rfl) T.n_isinstance bt_isinstance (pa_cons (pv 7) (pa_cons (pe_bltn (v := .ty "str") (by rfl) T.n_str bt_str rfl) pa_nil)))))
 (pss_one (ps_ret pe_bl))
 pss_nil)
 (pss_cons (ps_setLc (i := 8) (own := [("_law_up", 9), ("_law_number_here", 10)]) rfl sc_law_answered.nd rfl rfl (sw_true rfl rfl rfl (by decide +kernel)) (piL (K := K) rfl (pc (ok_law_told T) hr (pa_cons (pv 6) (pa_cons (pv 2) (pa_cons (pv 4) pa_nil))))) (blkOk_by (N := N_law_answered) (sc := defScope s_law_answered) (own := [("_law_up", 9), ("_law_number_here", 10)]) (by decide +kernel)) (fun _ _ _ _ _ => (pgTup (K := K) (n := 2) rfl rfl (pgs_cons (pg_name (i := 9) sc_law_answered.nd rfl (by first | exact Or.inl rfl | exact Or.inr rfl)) (pgs_cons (pg_name (i := 10) sc_law_answered.nd rfl (by first | exact Or.inl rfl | exact Or.inr rfl)) pgs_nil)))) (fun _ _ _ _ _ => (pts_one (pt_cmp (pc_notN (pv 10))))) (fun _ _ _ _ _ => (pv 10)))
 (pss_cons (ps_if (pt_cmpR op_eq (pe_callB (cLen (K := K) rfl) (by rfl) T.n_len bt_len (pa_cons (pv 8) pa_nil)) pe_int (by first | rfl | exact nomark _))
 (pss_one (ps_ret (pe_cmpR op_eq (pv 7) pe_str (by first | rfl | exact nomark _))))
 pss_nil)
 (pss_cons (ps_set (i := 11) sc_law_answered.nd rfl (by first | exact Or.inl rfl | exact Or.inr rfl) (peSplit (pv 7) pe_str))
 (pss_cons (ps_if (pt_cmpR (opNotInS (K := K) rfl) (pe_ix (ixL (K := K) rfl) (pv 11) pe_int (fun _ _ => rfl)) (peLst (pa_cons pe_str (pa_cons pe_str pa_nil))) (by first | rfl | exact nomark _))
 (pss_one (ps_ret pe_bl))
 pss_nil)
 (pss_cons (ps_set (i := 12) sc_law_answered.nd rfl (by first | exact Or.inl rfl | exact Or.inr rfl) (pe_op opSubE pe_int (pe_callTy call_int1 (by rfl) T.n_int bt_int (pa_cons (pe_cmpR op_eq (pe_ix (ixL (K := K) rfl) (pv 11) pe_int (fun _ _ => rfl)) pe_str (by first | rfl | exact nomark _)) pa_nil))))
 (pss_one (ps_ret (pc (ok_law_breaks T) hr (pa_cons (pe_slice (slLK (K := K) rfl) (pv 11) po_none (po_some (pv 12))) (pa_cons (pe_join pe_str (pe_slice (slLK (K := K) rfl) (pv 11) (po_some (pv 12)) po_none)) (pa_cons (pv 6) (pa_cons (pe_callB (cLen (K := K) rfl) (by rfl) T.n_len bt_len (pa_cons (pe_ix (ixT (K := K) rfl) (pv 2) pe_int (fun _ _ => rfl)) pa_nil)) (pa_cons (pv 3) (pa_cons (pv 4) pa_nil))))))))))))))))), ?_⟩
    have hg := hk.g
    have hv := hg.v
    have h4 := hv.hi
    have hn := hg.n
    have bn := hk.bn
    have hk2 := hk.k2
    refine ⟨_, rfl, _, rfl, wd, b, rfl, hT, fun f2 H1 e1 T1 hf1 => ?_⟩
    have hk1 := hk.ext e1
    have hy1 := hy.upT (exT_N e1)
    refine ⟨fun σ' H' => ∃ s : Str, σ' = [some (.ref d), some (.str ⟨#[c]⟩), some y, some (.int b), some (.int k), some (.str (wdS wd)), some (.ref f2), some (.str s), none, none, none, none, none] ∧ ExtN H1 H' ∧ TabsN (Tl P1 P2) H' ∧ ((s = "none" ∧ ∀ h ∈ whoUp r k, toldAt (RM.rule wd b) r k h = none) ∨ ∃ kind r' hs, s = brkS kind r' hs ∧ BrkT (RM.rule wd b) n b k kind r' hs ∧ ∃ h ∈ whoUp r k, toldAt (RM.rule wd b) r k h ≠ none), ?_, ?_⟩
    · obtain ⟨dx, gd1, gd2⟩ := hk1.at_
      have lb : ("break " : Str).length = 6 := by decide +kernel
      have ls : (" " : Str).length = 1 := by decide +kernel
      have lw : (wdS wd).length ≤ 10 := by rw [len_tl]; exact (wd_ok wd).2
      have lzb : (zS (b : Nat)).length = 1 := z_small (by omega)
      have lzk : (zS (k : Nat)).length = 1 := z_small (by omega)
      refine ⟨_, rfl, d, dx, _, rfl, gd1, rfl, ?_⟩
      refine ⟨_, rfl, _, _, rfl, rfl, sz_of (by rw [lb, one_len]; omega), _, _, rfl, rfl, sz_of (by rw [len_app, lb, one_len, ls]; omega), _, rfl, _, _, rfl, rfl, sz_of (by rw [len_app, len_app, lb, one_len, ls]; omega), _, _, rfl, rfl, sz_of (by rw [len_app, len_app, len_app, lb, one_len, ls]; omega), ?_⟩
      refine ⟨_, rfl, _, rfl, n_log (by omega), _, _, rfl, rfl, sz_of (by show ("break " ++ (⟨#[c]⟩ : Str) ++ " " ++ wdS wd ++ " ").length + (zS (b : Nat)).length ≤ 100000; rw [len_app, len_app, len_app, len_app, lb, one_len, ls, lzb]; omega), ?_⟩
      refine ⟨_, _, rfl, rfl, sz_of (by show ("break " ++ (⟨#[c]⟩ : Str) ++ " " ++ wdS wd ++ " " ++ zS (b : Nat)).length + (" " : Str).length ≤ 100000; rw [len_app, len_app, len_app, len_app, len_app, lb, one_len, ls, lzb]; omega), ?_⟩
      refine ⟨_, rfl, _, rfl, n_log (by omega), _, _, rfl, rfl, sz_of (by show ("break " ++ (⟨#[c]⟩ : Str) ++ " " ++ wdS wd ++ " " ++ zS (b : Nat) ++ " ").length + (zS (k : Nat)).length ≤ 100000; rw [len_app, len_app, len_app, len_app, len_app, len_app, lb, one_len, ls, lzb, lzk]; omega), ?_⟩
      refine ⟨d, rowBreak c wd b k, rfl, .inr ⟨kd, kvs, c, r, n, b, k, hk1, .inr ⟨wd, rfl, T1, fun hall H' e T' => ⟨"none", rfl, e, T', .inl ⟨rfl, hall⟩⟩, fun kind r' hs H' e T' hex bt => ⟨brkS kind r' hs, rfl, e, T', .inr ⟨kind, r', hs, rfl, bt, hex⟩⟩⟩⟩⟩
    rintro σ1 H2 ⟨s, rfl, e2, T2, hs⟩
    have e12 := e1.trans e2
    have hf2 := hf1.ext e2
    have hy2 := hy1.upT (exT_N e2)
    refine ⟨_, rfl, _, _, _, _, true, rfl, .ty _, .base (.str _), kit_ty (by decide +kernel), _, rfl, iteF ?_⟩
    refine ⟨_, rfl, _, rfl, _, rfl, r, k, y, f2, wd, b, rfl, hf2, hy2, hv, hk2, fun q H3 hq e3 lq => ⟨q, rfl, ?_⟩⟩
    obtain ⟨ts, gq, rq⟩ := lq
    have lts := rq.len
    rw [List.length_map] at lts
    have llt : (lawTold (RM.rule wd b) r k).length ≤ 4 := by unfold lawTold; rw [List.length_map, List.length_range]; omega
    refine ⟨⟨_, SqL.of gq⟩, fun Dl hD => ?_⟩
    refine lc_list (K := K) (a := q) (xs := ts) (fun i H' => Ex H3 H' ∧ H' Dl = some (.lst ((((lawTold (RM.rule wd b) r k).take i).filterMap (·.2)).map V.int))) ⟨Ex.new hD, upd_same⟩ (fun i H' _ ⟨e, _⟩ => SqL.of (e _ _ gq)) (fun i z H' hi ⟨e4, g4⟩ => ?_) (fun H4 ⟨e4, g4⟩ => ?_)
    · obtain ⟨dd, hdd, rd⟩ := rq.get' hi
      rw [List.getElem?_map] at hdd
      obtain ⟨t, ht, rfl⟩ := Option.map_eq_some_iff.mp hdd
      obtain ⟨ta, rfl, st⟩ := eL_get (rd.up e4)
      have small : ((((lawTold (RM.rule wd b) r k).take i).filterMap (·.2)).map V.int).length ≤ 4 := by
        rw [List.length_map]
        refine Nat.le_trans (List.length_filterMap_le _ _) ?_
        rw [List.length_take]; omega
      refine ⟨ta, _, rfl, st, rfl, _, _, rfl, _, _, rfl, rfl, rfl, _, rfl, ?_⟩
      rw [List.take_add_one, ht, Option.toList_some, List.filterMap_append]
      obtain ⟨t1, t2⟩ := t
      cases t2 with
      | none =>
        refine ⟨_, rfl, iteF ⟨e4, ?_⟩⟩
        rw [g4]
        simp
      | some num =>
        refine ⟨_, rfl, iteT ⟨_, rfl, _, g4, sz_lt (by omega), e4.mut hD, ?_⟩⟩
        rw [upd_same]
        simp
        rfl
    rw [lts, List.take_length] at g4
    have e24 := e3.trans e4
    have eN := e12.trans (extN_of e24)
    have T4 := T2.ext e24
    refine ⟨_, rfl, Dl, _, rfl, .inl (SqL.of g4), rfl, ?_⟩
    rw [List.length_map]
    rcases hs with ⟨rfl, hall⟩ | ⟨kind, r', hs', rfl, bt, hex⟩
    · have h0 : (lawTold (RM.rule wd b) r k).filterMap (·.2) = [] := lawTold_none.mpr hall
      rw [h0]
      refine ⟨true, rfl, iteT ⟨_, rfl, rfl, ?_⟩⟩
      have := kq H4 eN T4
      show Q (.bl (decide (V.str "none" = V.str "none"))) H4
      rw [decide_eq_true rfl]
      exact this
    · have hne : ((lawTold (RM.rule wd b) r k).filterMap (·.2)).length ≠ 0 := fun z => by
        have := lawTold_none.mp (List.length_eq_zero_iff.mp z)
        obtain ⟨h, hh, hx⟩ := hex
        exact hx (this h hh)
      refine ⟨false, ?_, iteF ?_⟩
      · refine congrArg V.bl (decide_eq_false fun z => ?_)
        injection z with z
        omega
      obtain ⟨s1, hv', s3, s4⟩ := brk_small bt
      have hk32 : 32 ∉ tl kind := by
        rcases bt.2 with ⟨rfl, _⟩ | ⟨rfl, _⟩ <;> decide +kernel
      have fl' := falls_len hv'
      have shl := show_len hv' fl'
      have hjl : (Str.join " " (brkW kind hs')).length ≤ 33 := join_len (l := brkW kind hs') (B := 10) (n := 3) (fun x hx => by
        rcases List.mem_cons.mp hx with e | e
        · rw [e]; exact s1
        · obtain ⟨h, hh, rfl⟩ := List.mem_map.mp e
          rw [← len_tl, z_small (s4 h hh)]; omega) (by unfold brkW; rw [List.length_cons, List.length_map]; omega)
      have blen : (brkS kind r' hs').length ≤ 2000 := by
        unfold brkS
        rw [len_app, len_app, show (" " : Str).length = 1 from by decide +kernel]
        omega
      have hw : (brkW kind hs').length = hs'.length + 1 := by unfold brkW; rw [List.length_cons, List.length_map]
      obtain ⟨w1, w2⟩ := words_len hv' fl'
      refine ⟨_, rfl, ⟨_, rfl⟩, _, _, rfl, rfl, by decide +kernel, by omega, fun p5 H5 hp5 e5 g5 => ?_⟩
      rw [brk_split hv' hk32] at g5
      have gw0 : ((brkW kind hs' ++ wordsR r').map V.str)[0]? = some (.str kind) := rfl
      refine ⟨_, rfl, _, _, 0, _, rfl, rfl, SqL.of g5, atI_nat (j := 0) gw0, by show 2 ≤ 1000; decide, fun p6 H6 hp6 e6 g6 => ?_⟩
      have g56 := e6 _ _ g5
      refine ⟨p6, _, rfl, .inl (SqL.of g6), rfl, rfl, false, ?_, iteF ?_⟩
      · have : inV (.str kind) [.str "torn", .str "strange"] = true := by
          have h0 := inV_str kind ["torn", "strange"]
          refine h0.trans ?_
          rcases bt.2 with ⟨rfl, _⟩ | ⟨rfl, _⟩ <;> decide +kernel
        show V.bl (!inV (.str kind) [.str "torn", .str "strange"]) = _
        rw [this]
        rfl
      have hsize : (3 : Int) - (if decide (kind = "strange") = true then 1 else 0) = ((hs'.length + 1 : Nat) : Int) := by
        rcases bt.2 with ⟨rfl, h0, h1, rfl, _⟩ | ⟨rfl, h0, _, _, rfl, _⟩
        · rw [if_neg (by decide +kernel)]; rfl
        · rw [if_pos (by decide +kernel)]; rfl
      refine ⟨_, rfl, _, _, 0, _, rfl, rfl, SqL.of g56, atI_nat (j := 0) gw0, rfl, .inr ⟨decide (kind = "strange"), ?_, _, _, _, rfl, rfl, hsize, ?_⟩⟩
      · have : decide (V.str kind = V.str "strange") = decide (kind = "strange") := decide_eq_decide.mpr ⟨fun z => by injection z, fun z => by rw [z]⟩
        show [V.bl (decide (V.str kind = V.str "strange"))] = _
        rw [this]
      refine ⟨_, rfl, _, rfl, _, rfl, p5, _, rfl, SqL.of g56, fun p7 H7 hp7 e7 g7 => ?_⟩
      rw [cutV_to, ← List.map_take, ← hw, List.take_append_of_le_length (Nat.le_refl _), List.take_length] at g7
      have g57 := e7 _ _ g56
      refine ⟨⟨_, rfl⟩, _, rfl, _, rfl, _, rfl, p5, _, rfl, SqL.of g57, fun p8 H8 hp8 e8 g8 => ?_⟩
      rw [cutV_from, ← List.map_drop, ← hw, List.drop_append_of_le_length (Nat.le_refl _), List.drop_length, List.nil_append] at g8
      refine ⟨_, p8, wordsR r', rfl, rfl, .inl (SqL.of g8), by omega, ?_⟩
      have e48 := (((e5.trans e6).trans e7).trans e8)
      have e28 := e24.trans e48
      have hy8 := hy2.up e28
      obtain ⟨a, pn, pf, fs, ey, z1, z2, z3, z5⟩ := run_get hy8
      subst ey
      refine ⟨_, rfl, _, rfl, _, _, 0, _, rfl, rfl, z1, atI_nat (j := 0) rfl, pn, _, rfl, .inr z2, _, rfl, _, rfl, ?_⟩
      refine ⟨n, b, k, wd, kind, r', hs', p7, f2, ?_, e8 _ _ g7, bt, hf2.up e28, hk2, fun H9 e9 => kq H9 (e12.trans (extN_of (e28.trans e9))) (T2.ext (e28.trans e9))⟩
      show [V.ref p7, V.str (Txt.join " " (wordsR r')), V.ref f2, V.int (((r.1.map V.int).length : Nat) : Int), V.int b, V.int k] = _
      rw [join_eq, List.length_map, hn]
      rfl
end
end RF

set_option Elab.async false
set_option linter.all false
set_option maxRecDepth 100000
set_option maxHeartbeats 2000000
namespace RF
open PySem PySem.Spec PyProof.Rows L2 Evl RM RC TL LamX NdefX
theorem tabN_exB {H H' : Hp} {kd P : Addr} {nm : Nat → Nat → Str} {kvs : List (Key × V)} (t : TabN H P nm) (hk : H kd = some (.dK kvs)) (e : ExB kd H H') : TabN H' P nm := by
  obtain ⟨ps, h1, h2, h3⟩ := t
  refine ⟨ps, e _ _ (fun z => by rw [z, hk] at h1; cases h1) h1, h2, fun pos cv hc => ?_⟩
  obtain ⟨c, e1, e2⟩ := h3 pos cv hc
  exact ⟨c, e1, e _ _ (fun z => by rw [z, hk] at e2; unfold CodeO at e2; cases e2) e2⟩
theorem tabsN_exB {H H' : Hp} {kd : Addr} {T : List NTab} {kvs : List (Key × V)} (t : TabsN T H) (hk : H kd = some (.dK kvs)) (e : ExB kd H H') : TabsN T H' := fun p hp => tabN_exB (t p hp) hk e
theorem sqL_N {K : PySem.W.Frag} {H H' : Hp} {a : Addr} {xs : List V} (h : SqL K H a xs) (e : ExtN H H') : SqL K H' a xs := by
  rcases h with (h | ⟨o, h⟩) | h
  · exact .inl (.inl (e _ _ h fun ps z => by cases z))
  · exact .inl (.inr ⟨o, e _ _ h fun ps z => by cases z⟩)
  · exact .inr h
theorem sqL_B {K : PySem.W.Frag} {H H' : Hp} {a kd : Addr} {xs : List V} {kvs : List (Key × V)} (h : SqL K H a xs) (hk : H kd = some (.dK kvs)) (e : ExB kd H H') : SqL K H' a xs := by
  rcases h with (h | ⟨o, h⟩) | h
  · exact .inl (.inl (e _ _ (fun z => by rw [z, hk] at h; cases h) h))
  · exact .inl (.inr ⟨o, e _ _ (fun z => by rw [z, hk] at h; cases h) h⟩)
  · exact .inr h
theorem exT_B {H H' : Hp} {kd : Addr} {kvs : List (Key × V)} (hk : H kd = some (.dK kvs)) (e : ExB kd H H') : ExT H H' := fun a xs h => by
  rcases h with h | ⟨u, h⟩
  · exact .inl (e _ _ (fun z => by rw [z, hk] at h; cases h) h)
  · exact .inr ⟨u, e _ _ (fun z => by rw [z, hk] at h; cases h) h⟩
theorem isdigit_z (m : Nat) : Txt.isdigit (zS (m : Nat)) = true := by
  unfold Txt.isdigit
  have e : (zS (m : Nat)).cps.toList = numL m := tl_num m
  have hl : (zS (m : Nat)).length = (numL m).length := by rw [len_tl, show tl (zS (m : Nat)) = numL m from e]
  have ne := numL_ne m
  have h1 : decide ((zS (m : Nat)).length > 0) = true := decide_eq_true (by rw [hl]; exact List.length_pos_iff.mpr ne)
  have h2 : (zS (m : Nat)).cps.all Unicode.isDigit = true := by
    rw [← Array.all_toList, e, List.all_eq_true]
    intro c hc
    have hd := numL_digits m c hc
    have : ∀ c : Nat, 48 ≤ c ∧ c ≤ 57 → Unicode.isDigit c = true := by
      intro c hc
      obtain ⟨d, rfl, hd⟩ : ∃ d, c = 48 + d ∧ d < 10 := ⟨c - 48, by omega, by omega⟩
      have : ∀ d : Fin 10, Unicode.isDigit (48 + d.1) = true := by decide +kernel
      exact this ⟨d, hd⟩
    exact this c hd
  rw [h1, h2]
  rfl
section
variable {P : Program} {w : World} {K : PySem.W.Frag} {mg : Str → Option Value} {base : Heap} {c1 P1 c2 P2 : Addr}
def sp_desk_init (K : PySem.W.Frag) : Sp := fun vs H Q _ => ∃ (x dx : Addr), vs = [.ref x] ∧ H x = some (.ins (He.ga K "Desk") dx []) ∧ ∀ kd, H kd = none → Q .non (upd (upd H kd (.dK [])) x (.ins (He.ga K "Desk") dx [("kept_runs", .ref kd)]))
abbrev N_desk_init : List Str := ["self"]
theorem sc_desk_init : FnScope N_desk_init ["self"] (defScope s_desk_init) := ⟨rfl, rfl, rfl, by decide +kernel, rfl, by decide +kernel, by decide +kernel⟩
theorem ok_desk_init (T : Txt P w K mg base) : OkM P w K mg base "__init__" (0 + 1) ["self"] (sp_desk_init K) := by
  refine OkM.of T.f_desk_init sc_desk_init (fun _ _ _ _ _ _ us hl => match us, hl with | [_], _ => rfl) (fun vs H Q E h => ?_) (fun f cdv A outer s H vs Q E hr h => ?_)
  · obtain ⟨x, dx, rfl, hx, kq⟩ := h
    rfl
  · obtain ⟨x, dx, rfl, hx, kq⟩ := h
    refine ⟨_, (pss_one (ps_fld (pv 0) pe_dnewK rfl)), ?_⟩
    intro kd hkd
    have e := Ex.new (o := .dK []) hkd
    exact ⟨_, rfl, x, _, dx, _, rfl, e _ _ hx, T.cl, T.noK, by show 0 < 1000; decide, kq kd hkd⟩
def tDesk (K : PySem.W.Frag) : TE := fun _ H Q => ∀ d kd H', Ex H H' → DeskAt K H' d kd [] → Q (.ref d) H'
theorem pe_desk {X : Cx} {j : Nat} {p pos : Pos} (T : Txt X.prog X.w X.K X.mg X.base) (hr : Room j X.A) (hj : 2 ≤ j := by decide) (hg : Gl X "Desk" := by rfl) : PE X (.Call (.Name "Desk" p) [] [] pos) (tDesk X.K) := by
  refine ⟨fun pins s σ H Q I h => ?_⟩
  obtain ⟨f, fd, M, F⟩ := T.mkD
  have S : FnScope N_desk_init ["self"] (defScope s_desk_init) := sc_desk_init
  have G : FnOk X.prog X.w X.K X.mg X.base CX0 1 f fd ["self"] (sp_desk_init X.K) := by
    refine F.ok (k := 0) S (fun vs H Q E h => ?_) fun cdv A outer s H vs Q E hr h => ?_
    · obtain ⟨x, dx, rfl, _⟩ := h
      rfl
    · obtain ⟨x, dx, rfl, hx, kq⟩ := h
      refine ⟨_, pss_one (ps_fld (pv 0) pe_dnewK rfl), ?_⟩
      intro kd hkd
      have e := Ex.new (o := .dK []) hkd
      exact ⟨_, rfl, x, _, dx, _, rfl, e _ _ hx, T.cl, T.noK, by show 0 < 1000; decide, kq kd hkd⟩
  have B := F.bindsN (ps := ["self"]) (fun _ _ _ _ _ _ us hl => match us, hl with | [_], _ => rfl)
  refine (pe_make0 (X := X) (p := p) (pos := pos) M G (hr.mono hj) hg T.mgD B .nil pass0).run pins s σ H Q I ?_
  intro x dx nx ndx nex
  have e1 := Ex.new (o := .own x) ndx
  have nx' : (upd H dx (.own x)) x = none := by rw [upd_ne nex.symm]; exact nx
  have e2 := Ex.new (o := .ins (He.ga X.K "Desk") dx []) nx'
  refine ⟨x, dx, rfl, upd_same, fun kd hkd => ⟨rfl, ?_⟩⟩
  have e3 := Ex.new (o := .dK []) hkd
  have nkx : kd ≠ x := fun z => by rw [z, upd_same] at hkd; cases hkd
  refine h x kd _ (((e1.trans e2).trans e3).mut nx) ⟨dx, upd_same, ?_⟩
  rw [upd_ne nkx, upd_same]
end
end RF

set_option Elab.async false
set_option linter.all false
set_option maxRecDepth 100000
set_option maxHeartbeats 2000000
namespace RF
open PySem PySem.Spec PyProof.Rows L2 Evl RM RC TL LamX NdefX
theorem step6 (M : Nat) (h : M ≤ 36) : RgC 0 (M : Int) 6 ((M + 5) / 6) := by
  have : ∀ M : Fin 37, Builtin.Range.small 0 ((M.1 : Nat) : Int) 6 = true ∧ Builtin.Range.rangeSize 0 ((M.1 : Nat) : Int) 6 = (((M.1 + 5) / 6 : Nat) : Int) := by decide +kernel
  exact ⟨by decide, by decide, this ⟨M, by omega⟩⟩
theorem alpha_at (x : Nat) (h : x < 26) : atI ("abcdefghijklmnopqrstuvwxyz" : Str).cps.toList ((x : Nat) : Int) = some (97 + x) := by
  have : ∀ x : Fin 26, atI ("abcdefghijklmnopqrstuvwxyz" : Str).cps.toList ((x.1 : Nat) : Int) = some (97 + x.1) := by decide +kernel
  exact this ⟨x, h⟩
theorem word_at (x : Nat) (h : x < 4) : ∃ wd, ([V.str "plain", .str "soon", .str "sure", .str "together"] : List V)[x]? = some (.str (wdS wd)) := by
  match x, h with
  | 0, _ => exact ⟨.plain, rfl⟩
  | 1, _ => exact ⟨.soon, rfl⟩
  | 2, _ => exact ⟨.sure, rfl⟩
  | 3, _ => exact ⟨.together, rfl⟩
theorem num4 {m : Nat} (h : m ≤ 1100) : (zS (m : Nat)).length ≤ 4 := by
  rw [len_tl, show tl (zS (m : Nat)) = numL m from tl_num m]
  exact numL_len (by decide) (by omega)
section
variable {P : Program} {w : World} {K : PySem.W.Frag} {mg : Str → Option Value} {base : Heap} {c1 P1 c2 P2 : Addr}
def sp_law (K : PySem.W.Frag) (P1 P2 : Addr) : Sp := fun vs H Q _ => ∃ (a : Addr) (ns : List Int), vs = [.ref a] ∧ SqL K H a (ns.map V.int) ∧ TabsN (Tl P1 P2) H ∧ ∀ H', Q (.bl true) H'
abbrev N_law : List Str := ["_law_script", "_law_desk", "_law_k", "_law_cells", "_law_j", "_law_first", "_law_many", "_law_bound", "_law_run_here", "_law_name", "_law_rounds", "_law_number_here", "_law_row", "_law_found", "_law_word"]
theorem sc_law : FnScope N_law ["_law_script"] (defScope s_law) := ⟨rfl, rfl, rfl, by decide +kernel, rfl, by decide +kernel, by decide +kernel⟩
theorem fn_of {x : Str} {st : Stmt} {N ps : List Str} {k : Nat} {sp : Sp} {f : Addr} {fd : FuncData} (F : FunD K x x (defArgs st) (defBody st) (defScope st) [] [] f fd) (S : FnScope N ps (defScope st))
    (len : ∀ vs H Q E, sp vs H Q E → vs.length = ps.length)
    (hbody : ∀ (f : Addr) (cdv : Value) (A : Around) (outer : List Env) (s : Shared) (H : Hp) (vs : List V) (Q : VK) (E : XK), Room k (A.deeper (envOfC x (defScope st) s.heap.objs.size f cdv)) → sp vs H Q E →
      ∃ t, PSs (cxOf CX0 P w K mg base N x (defScope st) f cdv A outer s H E).nox (defBody st) t ∧ t { nx := fun _ H' => Q .non H', rt := Q } (start N vs) H) : FnOk P w K mg base CX0 (k + 1) f fd ps sp :=
  F.ok S len fun cdv A outer s H vs Q E hr h => by
    obtain ⟨t, h1, h2⟩ := hbody f cdv A outer s H vs Q E hr h
    exact ⟨t, h1.nox, h2⟩
theorem fn_law (B : Tbs K mg base c1 P1 c2 P2) (T : Txt P w K mg base) {f0 : Addr} {fd0 : FuncData} (F : FunD K "law" "law" (defArgs s_law) (defBody s_law) (defScope s_law) [] [] f0 fd0) : FnOk P w K mg base CX0 (16 + 1) f0 fd0 ["_law_script"] (sp_law K P1 P2) := by
  refine fn_of F sc_law (fun vs H Q E h => ?_) (fun f cdv A outer s H vs Q E hr h => ?_)
  · obtain ⟨a, ns, rfl, hs, hT, kq⟩ := h
    rfl
  · obtain ⟨a, ns, rfl, hs, hT, kq⟩ := h
    refine ⟨_, (pss_cons (ps_set (i := 1) sc_law.nd rfl (by first | exact Or.inl rfl | exact Or.inr rfl) (pe_desk T hr))
 (pss_cons (ps_for PassesOwn.never rfl (pi_range3 (by rfl) T.n_range (pa_cons pe_int (pa_cons (pe_callB (call_min2 rfl) (by rfl) T.n_min bt_min (pa_cons (pe_callB (cLen (K := K) rfl) (by rfl) T.n_len bt_len (pa_cons (pv 0) pa_nil)) (pa_cons pe_int pa_nil))) (pa_cons pe_int pa_nil)))) (pg_name (i := 2) sc_law.nd rfl (by first | exact Or.inl rfl | exact Or.inr rfl))
 (pss_cons (ps_setLc (i := 3) (own := [("_law_j", 4)]) rfl sc_law.nd rfl rfl (sw_true rfl rfl rfl (by decide +kernel)) (pi_range1 (by rfl) T.n_range (pa_cons pe_int pa_nil)) (blkOk_by (N := N_law) (sc := defScope s_law) (own := [("_law_j", 4)]) (by decide +kernel)) (fun _ _ _ _ _ => (pg_name (i := 4) sc_law.nd rfl (by first | exact Or.inl rfl | exact Or.inr rfl))) (fun _ _ _ _ _ => pts_nil) (fun _ _ _ _ _ => (pc (ok_law_cell_at T) hr (pa_cons (pv 0) (pa_cons (pe_op opAddE (pv 2) (pv 4)) pa_nil)))))
 (pss_cons (ps_set (i := 5) sc_law.nd rfl (by first | exact Or.inl rfl | exact Or.inr rfl) (pe_op opModE (pe_ix (ixL (K := K) rfl) (pv 3) pe_int (fun _ _ => rfl)) (pe_op op_pow pe_int pe_int)))
 (pss_cons (ps_set (i := 6) sc_law.nd rfl (by first | exact Or.inl rfl | exact Or.inr rfl) (pe_op opAddE pe_int (pe_op opModE (pv 5) pe_int)))
 (pss_cons (ps_set (i := 7) sc_law.nd rfl (by first | exact Or.inl rfl | exact Or.inr rfl) (pe_op opModE (pe_op opDivE (pv 5) pe_int) (pe_op opSubE (pv 6) pe_int)))
 (pss_cons (ps_set (i := 8) sc_law.nd rfl (by first | exact Or.inl rfl | exact Or.inr rfl) (pc (ok_law_run T) hr (pa_cons (pv 3) (pa_cons (pv 6) (pa_cons (pv 7) pa_nil)))))
 (pss_cons (ps_set (i := 9) sc_law.nd rfl (by first | exact Or.inl rfl | exact Or.inr rfl) (pe_ix ix_str pe_str (pe_op opModE (pe_op opDivE (pv 5) pe_int) pe_int) (fun _ _ => rfl)))
 (pss_cons (ps_if (pt_cmpR op_ne (pm (ok_desk_say B T) (pv 1) hr T.cl (pa_cons (pe_op op_add_str (pe_op op_add_str (pe_op op_add_str pe_str (pv 9)) pe_str) (pc (ok_law_text T) hr (pa_cons (pv 8) pa_nil))) pa_nil)) pe_str (by first | rfl | exact nomark _))
 (pss_one (ps_ret pe_bl))
 pss_nil)
 (pss_cons (ps_set (i := 10) sc_law.nd rfl (by first | exact Or.inl rfl | exact Or.inr rfl) (pe_op opModE (pe_op opDivE (pv 5) pe_int) (pe_callB (call_min2 rfl) (by rfl) T.n_min bt_min (pa_cons pe_int (pa_cons (pc (ok_closing_round T) hr (pa_cons (pv 8) (pa_cons (pv 7) pa_nil))) pa_nil)))))
 (pss_cons (ps_set (i := 11) sc_law.nd rfl (by first | exact Or.inl rfl | exact Or.inr rfl) (pc (ok_law_number T) hr (pa_cons (pe_op opDivE (pe_ix (ixL (K := K) rfl) (pv 3) pe_int (fun _ _ => rfl)) pe_int) pa_nil)))
 (pss_cons (ps_set (i := 12) sc_law.nd rfl (by first | exact Or.inl rfl | exact Or.inr rfl) (pe_op op_add_str (pe_op op_add_str (pe_op op_add_str (pe_op op_add_str (pe_op op_add_str pe_str (pv 9)) pe_str) (pe_callTy call_str_int (by rfl) T.n_str bt_str (pa_cons (pv 7) pa_nil))) pe_str) (pe_callTy call_str_int (by rfl) T.n_str bt_str (pa_cons (pv 10) pa_nil))))
 (pss_cons (ps_set (i := 13) sc_law.nd rfl (by first | exact Or.inl rfl | exact Or.inr rfl) (pm (ok_desk_say B T) (pv 1) hr T.cl (pa_cons (pe_op op_add_str (pe_op op_add_str (pv 12) pe_str) (pe_callTy call_str_int (by rfl) T.n_str bt_str (pa_cons (pv 11) pa_nil))) pa_nil)))
 (pss_cons (ps_if (PW.pt (pw_or (pt_not (pt_val (pe_callB (cIsi (K := K) rfl) (by rfl) T.n_isinstance bt_isinstance (pa_cons (pv 13) (pa_cons (pe_bltn (v := .ty "str") (by rfl) T.n_str bt_str rfl) pa_nil))))) (pw_or (pt_not (pt_val (pe_m0 PySem.F.slot_str_isdigit PySem.F.type_str_isdigit mt_isdigit (pv 13)))) (pw_or1 (pt_cmpR op_gt (pe_callB call_len_str (by rfl) T.n_len bt_len (pa_cons (pv 13) pa_nil)) pe_int (by first | rfl | exact nomark _))))))
 (pss_one (ps_ret pe_bl))
 pss_nil)
 (pss_cons (ps_if (pt_not (pt_chain op_le op_le pe_int (pe_callTy call_int_str (by rfl) T.n_int bt_int (pa_cons (pv 13) pa_nil)) pe_int))
 (pss_one (ps_ret pe_bl))
 pss_nil)
 (pss_cons (ps_set (i := 14) sc_law.nd rfl (by first | exact Or.inl rfl | exact Or.inr rfl) (pe_ix (ixL (K := K) rfl) (peLst (pa_cons pe_str (pa_cons pe_str (pa_cons pe_str (pa_cons pe_str pa_nil))))) (pe_op opModE (pe_op opDivE (pv 5) pe_int) pe_int) (fun _ _ => rfl)))
 (pss_one (ps_if (pt_not (pt_val (pc (ok_law_answered B T) hr (pa_cons (pv 1) (pa_cons (pv 9) (pa_cons (pv 8) (pa_cons (pv 7) (pa_cons (pv 10) (pa_cons (pv 14) pa_nil)))))))))
 (pss_one (ps_ret pe_bl))
 pss_nil)))))))))))))))))
 (pss_one (ps_ret pe_bl)))), ?_⟩
    intro d kd H1 e1 hd
    have hs1 := sqL_N hs (extN_of e1)
    have hT1 := hT.ext e1
    obtain ⟨M, hM, hM36⟩ : ∃ M : Nat, (if (36 : Int) < (((ns.map V.int).length : Nat) : Int) then (36 : Int) else (((ns.map V.int).length : Nat) : Int)) = (M : Int) ∧ M ≤ 36 := by
      by_cases c : (36 : Int) < (((ns.map V.int).length : Nat) : Int)
      · exact ⟨36, if_pos c, Nat.le_refl _⟩
      · exact ⟨(ns.map V.int).length, if_neg c, by omega⟩
    refine ⟨_, rfl, a, _, rfl, .inl hs1, _, _, rfl, 0, (M : Int), 6, (M + 5) / 6, ?_, step6 M hM36, ?_⟩
    · rw [← hM]
    refine for_rangeC (lo := 0) (c := 6) (n := (M + 5) / 6) (fun i σ H' => ∃ (kvs : List (Key × V)) (o2 o3 o4 o5 o6 o7 o8 o9 o10 o11 o12 o13 o14 : Option V), σ = [some (.ref a), some (.ref d), o2, o3, o4, o5, o6, o7, o8, o9, o10, o11, o12, o13, o14] ∧ DeskAt K H' d kd kvs ∧ kvs.length ≤ i ∧ TabsN (Tl P1 P2) H' ∧ SqL K H' a (ns.map V.int)) ⟨[], none, none, none, none, none, none, none, none, none, none, none, none, none, rfl, hd, Nat.le_refl _, hT1, hs1⟩ ?_ ?_
    · rintro i σ H2 hi ⟨kvs, o2, o3, o4, o5, o6, o7, o8, o9, o10, o11, o12, o13, o14, rfl, hd2, hkl, hT2, hs2⟩
      refine ⟨_, rfl, by omega, by omega, fun Dl hD => ?_⟩
      refine lc_range (lo := 0) (n := 6) (fun j H' => Ex H2 H' ∧ ∃ cs : List Int, H' Dl = some (.lst (cs.map V.int)) ∧ cs.length = j) ⟨Ex.new hD, [], upd_same, rfl⟩ (fun j H' hj ⟨e3, cs, g3, l3⟩ => ?_) (fun H3 ⟨e3, cs, g3, l6⟩ => ?_)
      · refine ⟨rfl, _, rfl, _, rfl, _, rfl, _, _, ((i * 6 + j : Nat) : Int), rfl, rfl, by omega, a, ns, i * 6 + j, rfl, sqL_N hs2 (extN_of e3), fun z => ?_⟩
        refine ⟨_, g3, sz_lt (by rw [List.length_map]; omega), e3.mut hD, cs ++ [z], ?_, by rw [List.length_append, l3]; rfl⟩
        rw [upd_same, List.map_append]
        rfl
      have hcell : ∀ j (h : j < 6), (cs.map V.int)[j]? = some (.int (cs[j]'(by omega))) := fun j h => by
        rw [List.getElem?_map, List.getElem?_eq_getElem (by omega)]
        rfl
      obtain ⟨z, hz, zl⟩ := emod_nat (cs[5]'(by omega)) (10 ^ 9) (by decide)
      refine ⟨_, rfl, _, _, 5, _, rfl, rfl, SqL.of g3, atI_nat (j := 5) (hcell 5 (by omega)), _, _, rfl, rfl, ⟨by decide, by decide, by decide⟩, _, _, (z : Int), rfl, rfl, by show (0 : Int) < 10 ^ 9; decide, hz, ?_⟩
      obtain ⟨t, ht, tl3⟩ := emod_nat (z : Int) 3 (by decide)
      refine ⟨_, rfl, _, _, (t : Int), rfl, rfl, by decide, ht, _, _, ((t + 2 : Nat) : Int), rfl, rfl, by omega, ?_⟩
      obtain ⟨b, hb, bl⟩ := emod_nat ((z / 3 : Nat) : Int) (t + 1) (by omega)
      refine ⟨_, rfl, _, _, ((z / 3 : Nat) : Int), rfl, rfl, ⟨by decide, by decide⟩, by omega, _, rfl, _, _, ((t + 1 : Nat) : Int), rfl, rfl, by omega, _, _, (b : Int), rfl, rfl, by omega, hb, ?_⟩
      refine ⟨_, rfl, _, rfl, _, rfl, t + 2, b, Dl, cs, rfl, SqL.of g3, l6, by omega, by omega, fun r y H4 e4 hg hy => ?_⟩
      have hv := hg.v
      have hn := hg.n
      have hgb := hg.b
      have h4 := hv.hi
      obtain ⟨x, hx, x26⟩ := emod_nat ((z / 18 : Nat) : Int) 26 (by decide)
      refine ⟨_, rfl, _, _, ((z / 18 : Nat) : Int), rfl, rfl, ⟨by decide, by decide⟩, by omega, _, _, (x : Int), rfl, rfl, by decide, hx, _, _, 97 + x, rfl, rfl, by decide +kernel, alpha_at x x26, ?_⟩
      obtain ⟨c, hc⟩ : ∃ c, c = 97 + x := ⟨_, rfl⟩
      rw [← hc]
      have hlo : 97 ≤ c := by omega
      have hhi : c ≤ 122 := by omega
      have e24 := e3.trans e4
      have hd4 := hd2.up e24
      obtain ⟨dx, gd1, gd2⟩ := hd4
      have lr : ("run " : Str).length = 4 := by decide +kernel
      have lc : ("chain " : Str).length = 6 := by decide +kernel
      have ls : (" " : Str).length = 1 := by decide +kernel
      have shl := show_len hv (falls_len hv)
      refine ⟨_, rfl, d, dx, _, rfl, gd1, rfl, _, rfl, _, _, rfl, rfl, sz_of (by rw [lr, one_len]; omega), _, _, rfl, rfl, sz_of (by rw [len_app, lr, one_len, ls]; omega), _, rfl, r, y, rfl, hy, hv, fun H5 e5 => ?_⟩
      have hd5 : DeskAt K H5 d kd kvs := (hd2.up e24).up e5
      refine ⟨_, _, rfl, rfl, sz_of (by rw [len_app, len_app, lr, one_len, ls]; omega), d, rowRun c r, rfl, .inl ⟨kd, kvs, c, r, rfl, hd5, by omega, hlo, hhi, hv, fun y2 H6 e6 g6 hy2 => ?_⟩⟩
      obtain ⟨dx5, gd5, gk5⟩ := hd5
      have e25 := e24.trans e5
      have ndk : d ≠ kd := fun q => by rw [q, gk5] at gd5; cases gd5
      have nDk : Dl ≠ kd := fun q => by
        have := (e4.trans e5) _ _ g3
        rw [q, gk5] at this; cases this
      have hd6 : DeskAt K H6 d kd (putK kvs (Sum.inr ⟨#[c]⟩) y2) := ⟨dx5, e6 _ _ ndk gd5, g6⟩
      have hl6 : (putK kvs (Sum.inr ⟨#[c]⟩) y2).length ≤ i + 1 := by have := length_putK kvs (Sum.inr ⟨#[c]⟩) y2; omega
      have hval6 : valV (putK kvs (Sum.inr ⟨#[c]⟩) y2) (Sum.inr ⟨#[c]⟩) = some y2 := by rw [valV_put, if_pos rfl]
      generalize putK kvs (Sum.inr ⟨#[c]⟩) y2 = kvs6 at hd6 hl6 hval6 g6
      have hT6 := tabsN_exB (hT2.ext e25) gk5 e6
      have hs6 := sqL_B (sqL_N hs2 (extN_of e25)) gk5 e6
      have hy6 := (hy.up e5).upT (exT_B gk5 e6)
      have gD6 := e6 _ _ nDk ((e4.trans e5) _ _ g3)
      refine ⟨rfl, false, ?_, iteF ?_⟩
      · show V.bl (!decide (V.str "ok" = V.str "ok")) = _
        rw [decide_eq_true rfl]
        rfl
      have wl := waste_le hgb
      obtain ⟨m3, hm3, m31, m33, m3w⟩ : ∃ m3 : Nat, (if ((b : Int) + 1 - (wasteOf r : Int)) < 3 then ((b : Int) + 1 - (wasteOf r : Int)) else (3 : Int)) = (m3 : Int) ∧ 1 ≤ m3 ∧ m3 ≤ 3 ∧ m3 + wasteOf r ≤ b + 1 := by
        by_cases q : ((b : Int) + 1 - (wasteOf r : Int)) < 3
        · exact ⟨b + 1 - wasteOf r, by rw [if_pos q]; omega, by omega, by omega, by omega⟩
        · exact ⟨3, if_neg q, by omega, by omega, by omega⟩
      obtain ⟨k, hk, kl⟩ := emod_nat ((z / 468 : Nat) : Int) m3 (by omega)
      refine ⟨_, rfl, _, _, ((z / 468 : Nat) : Int), rfl, rfl, ⟨by decide, by decide⟩, by omega, _, rfl, _, rfl, r, b, y, rfl, hy6, hv, by omega, hgb, fun H7 e7 => ⟨_, _, rfl, _, _, (k : Int), rfl, rfl, by rw [hm3]; omega, by rw [hm3]; exact hk, ?_⟩⟩
      refine ⟨_, rfl, _, _, 0, _, rfl, rfl, SqL.of (e7 _ _ gD6), atI_nat (j := 0) (hcell 0 (by omega)), _, _, _, rfl, rfl, ⟨by decide, by decide⟩, rfl, _, rfl, fun v hv60 => ?_⟩
      have lzb : (zS (b : Nat)).length = 1 := z_small (by omega)
      have lzk : (zS (k : Nat)).length = 1 := z_small (by omega)
      refine ⟨_, rfl, _, _, rfl, rfl, sz_of (by rw [lc, one_len]; omega), _, _, rfl, rfl, sz_of (by rw [len_app, lc, one_len, ls]; omega), ?_⟩
      refine ⟨_, rfl, _, rfl, n_log (by omega), _, _, rfl, rfl, sz_of (by show ("chain " ++ (⟨#[c]⟩ : Str) ++ " ").length + (zS (b : Nat)).length ≤ 100000; rw [len_app, len_app, lc, one_len, ls, lzb]; omega), ?_⟩
      refine ⟨_, _, rfl, rfl, sz_of (by show ("chain " ++ (⟨#[c]⟩ : Str) ++ " " ++ zS (b : Nat)).length + (" " : Str).length ≤ 100000; rw [len_app, len_app, len_app, lc, one_len, ls, lzb]; omega), ?_⟩
      refine ⟨_, rfl, _, rfl, n_log (by omega), _, _, rfl, rfl, sz_of (by show ("chain " ++ (⟨#[c]⟩ : Str) ++ " " ++ zS (b : Nat) ++ " ").length + (zS (k : Nat)).length ≤ 100000; rw [len_app, len_app, len_app, len_app, lc, one_len, ls, lzb, lzk]; omega), ?_⟩
      obtain ⟨dx7, gd7, gk7⟩ := hd6.up e7
      have lzv : (zS v).length ≤ 61 := by rw [len_tl, tl_z]; exact zL_len hv60
      refine ⟨_, rfl, d, dx7, _, rfl, gd7, rfl, _, rfl, _, _, rfl, rfl, sz_of (by show ("chain " ++ (⟨#[c]⟩ : Str) ++ " " ++ zS (b : Nat) ++ " " ++ zS (k : Nat)).length + (" " : Str).length ≤ 100000; rw [len_app, len_app, len_app, len_app, len_app, lc, one_len, ls, lzb, lzk]; omega), ?_⟩
      refine ⟨_, rfl, _, rfl, z_log hv60, _, _, rfl, rfl, sz_of (by show ("chain " ++ (⟨#[c]⟩ : Str) ++ " " ++ zS (b : Nat) ++ " " ++ zS (k : Nat) ++ " ").length + (zS v).length ≤ 100000; rw [len_app, len_app, len_app, len_app, len_app, len_app, lc, one_len, ls, lzb, lzk]; omega), ?_⟩
      have hkept : Kept K H7 d kd kvs6 c r (t + 2) b k := ⟨hd6.up e7, hlo, hhi, ⟨y2, hval6, hy2.up e7⟩, hg, by omega, by omega, by omega⟩
      refine ⟨d, rowChain c b k v, rfl, .inr ⟨kd, kvs6, c, r, t + 2, b, k, hkept, .inl ⟨v, rfl, hv60, fun H8 m e8 m1 m2 => ?_⟩⟩⟩
      have l4 := num4 m2
      have e68 := e7.trans e8
      refine ⟨_, rfl, _, _, _, _, true, rfl, .ty _, .base (.str _), kit_ty (by decide +kernel), _, rfl, iteF ?_⟩
      refine ⟨_, rfl, ⟨_, rfl⟩, _, rfl, rfl, trivial, true, congrArg V.bl (isdigit_z m), iteF ?_⟩
      refine ⟨_, rfl, _, rfl, sz_of (by omega), _, _, rfl, rfl, false, df (by omega), iteF ?_⟩
      have hzi : (m : Int).natAbs < 10 ^ 60 := Nat.lt_of_le_of_lt (show ((m : Int)).natAbs ≤ 1100 by omega) (by decide)
      refine ⟨_, rfl, _, (m : Int), rfl, z_int hzi, by omega, _, _, rfl, rfl, true, dt (by omega), iteT ⟨_, _, rfl, rfl, true, dt (by omega), iteF ?_⟩⟩
      refine ⟨by show 4 ≤ 1000; decide, fun p H9 hp e9 g9 => ?_⟩
      obtain ⟨q, hq, q4⟩ := emod_nat ((z / 1404 : Nat) : Int) 4 (by decide)
      obtain ⟨wd, hwd⟩ := word_at q q4
      refine ⟨_, rfl, _, _, ((z / 1404 : Nat) : Int), rfl, rfl, ⟨by decide, by decide⟩, by omega, _, _, (q : Int), rfl, rfl, by decide, hq, p, _, q, _, rfl, rfl, SqL.of g9, atI_nat hwd, ?_⟩
      have e79 := e8.trans e9
      have e69 := e7.trans e79
      refine ⟨_, rfl, _, rfl, _, rfl, _, rfl, _, rfl, _, rfl, d, kd, kvs6, c, r, t + 2, b, k, wd, y, rfl, hkept.up e79, hy6.up e69, hT6.ext e69, fun H10 e10 hT10 => ⟨true, rfl, iteF ?_⟩⟩
      have eN := (extN_of e69).trans e10
      exact ⟨kvs6, _, _, _, _, _, _, _, _, _, _, _, _, _, rfl, (hd6.ext eN), hl6, hT10, sqL_N hs6 eN⟩
    · rintro σ H2 ⟨kvs, o2, o3, o4, o5, o6, o7, o8, o9, o10, o11, o12, o13, o14, rfl, hd2, hkl, hT2, hs2⟩
      exact kq H2
end
end RF

set_option Elab.async false
set_option linter.all false
set_option maxRecDepth 100000
set_option maxHeartbeats 0
namespace RF
open PySem PySem.Spec PyProof.Rows L2 LamX NdefX
abbrev dF (x : Str) (st : Stmt) : He.DefD := ⟨(x, none), x, x, defArgs st, defBody st, defScope st, [], []⟩
abbrev dM (x q : Str) (st : Stmt) : He.DefD := ⟨("Desk", some x), x, q, defArgs st, defBody st, defScope st, [], []⟩
def fn0 : List He.DefD := [dF "is_whole" s_is_whole, dF "has_hand" s_has_hand, dF "mask_of" s_mask_of, dF "hands_in" s_hands_in, dF "is_number" s_is_number, dF "are_numbers" s_are_numbers, dF "is_fall" s_is_fall, dF "is_run" s_is_run, dF "many_hands" s_many_hands, dF "fall_of" s_fall_of, dF "without_fall" s_without_fall, dF "with_fall" s_with_fall, dF "with_number" s_with_number, dF "is_up" s_is_up, dF "who_is_up" s_who_is_up, dF "comes" s_comes, dF "keeps" s_keeps, dF "next_view" s_next_view, dF "views_of" s_views_of, dF "rounds_of" s_rounds_of, dF "own_past" s_own_past, dF "gather" s_gather, dF "known" s_known, dF "least_known" s_least_known, dF "heard_of" s_heard_of, dF "is_clean" s_is_clean, dF "lacks_in" s_lacks_in, dF "lacking" s_lacking, dF "standing" s_standing, dF "hushed" s_hushed]
def fn1 : List He.DefD := [dF "without_later" s_without_later, dF "falls_of_round" s_falls_of_round, dF "unseen" s_unseen, dF "put_off" s_put_off, dF "given_back" s_given_back, dF "healed_round" s_healed_round, dF "healed" s_healed, dF "found_out" s_found_out, dF "waste_of" s_waste_of, dF "closing_round" s_closing_round, dF "is_open" s_is_open, dF "renumbered" s_renumbered, dF "chain_of" s_chain_of, dF "choice_by" s_choice_by, dF "told_by" s_told_by, dF "torn_in" s_torn_in, dF "halved" s_halved, dF "broken" s_broken, dF "plain" s_plain, dF "soon" s_soon, dF "sure" s_sure, dF "waste_seen" s_waste_seen, dF "together" s_together, dF "read_number" s_read_number, dF "show_fall" s_show_fall, dF "show_run" s_show_run, dF "read_fall" s_read_fall, dF "read_run" s_read_run, dF "is_word" s_is_word, dF "is_figure" s_is_figure]
def fn2 : List He.DefD := [dF "is_written" s_is_written, dF "rule_by" s_rule_by, dF "fits" s_fits, dF "kinds_of" s_kinds_of, dF "shown_break" s_shown_break, dF "_law_cell_at" s_law_cell_at, dF "_law_mixed" s_law_mixed, dF "_law_bit" s_law_bit, dF "_law_number" s_law_number, dF "_law_reached" s_law_reached, dF "_law_falls" s_law_falls, dF "_law_run" s_law_run, dF "_law_text" s_law_text, dF "_law_rule" s_law_rule, dF "_law_told" s_law_told, dF "_law_breaks" s_law_breaks, dF "_law_answered" s_law_answered, dF "law" s_law, dM "__init__" "Desk.__init__" s_desk_init, dM "run_of" "Desk.run_of" s_desk_run_of, dM "put_down" "Desk.put_down" s_desk_put_down, dM "played" "Desk.played" s_desk_played, dM "say" "Desk.say" s_desk_say]
def fn : List He.DefD := fn0 ++ fn1 ++ fn2
def fa0 : List He.Fa := [.glo "is_whole", .glo "has_hand", .glo "mask_of", .glo "hands_in", .glo "is_number", .glo "are_numbers", .glo "is_fall", .glo "is_run", .glo "many_hands", .glo "fall_of", .glo "without_fall", .glo "with_fall", .glo "with_number", .glo "is_up", .glo "who_is_up", .glo "comes", .glo "keeps", .glo "next_view", .glo "views_of", .glo "rounds_of", .glo "own_past", .glo "gather", .glo "known", .glo "least_known", .glo "heard_of", .glo "is_clean", .glo "lacks_in", .glo "lacking", .glo "standing", .glo "hushed"]
def fa1 : List He.Fa := [.glo "without_later", .glo "falls_of_round", .glo "unseen", .glo "put_off", .glo "given_back", .glo "healed_round", .glo "healed", .glo "found_out", .glo "waste_of", .glo "closing_round", .glo "is_open", .glo "renumbered", .glo "chain_of", .glo "choice_by", .glo "told_by", .glo "torn_in", .glo "halved", .glo "broken", .glo "plain", .glo "soon", .glo "sure", .glo "waste_seen", .glo "together", .glo "read_number", .glo "show_fall", .glo "show_run", .glo "read_fall", .glo "read_run", .glo "is_word", .glo "is_figure"]
def fa2 : List He.Fa := [.glo "is_written", .glo "rule_by", .glo "fits", .glo "kinds_of", .glo "shown_break", .glo "_law_cell_at", .glo "_law_mixed", .glo "_law_bit", .glo "_law_number", .glo "_law_reached", .glo "_law_falls", .glo "_law_run", .glo "_law_text", .glo "_law_rule", .glo "_law_told", .glo "_law_breaks", .glo "_law_answered", .glo "law", .glo "Desk", .glo "RULES", .free "abs", .free "bool", .free "enumerate", .free "int", .free "isinstance", .free "len", .free "list", .free "max", .free "min", .free "range"]
def fa3 : List He.Fa := [.free "reversed", .free "sorted", .free "str", .free "tuple", .free "zip", .int "MOST_HANDS" 5, .int "MOST_ROUNDS" 5, .int "LAST" 5, .int "MOST_FIGURES" 60, .str "FIGURES" "0123456789", .str "LETTERS" "abcdefghijklmnopqrstuvwxyz", .cls "Desk", .noat "Desk" "kept_runs", .mkr "Desk", .meth "Desk" "run_of", .meth "Desk" "put_down", .meth "Desk" "played", .meth "Desk" "say", .meth "Desk" "__init__"]
def fa : List He.Fa := fa0 ++ fa1 ++ fa2 ++ fa3
def tf : List He.Defn := [("rule_by", none), ("_law_rule", none)]
def rulesD : List He.Dv := [.str "plain", .str "soon", .str "sure", .str "together"]
def ex (K : PySem.W.Frag) : Bool := He.lstB K "RULES" rulesD && (decide ((He.cT K ("rule_by", none)).2 ≠ (He.cT K ("_law_rule", none)).2) && (decide (mainGlobals ≠ (He.cT K ("rule_by", none)).2) && decide (mainGlobals ≠ (He.cT K ("_law_rule", none)).2)))
def los0 : List Str := ["MOST_HANDS", "is_whole", "has_hand", "mask_of", "hands_in", "RoundError", "NoBound", "NoNumbers", "Closed", "NoText", "NoRow", "NoName", "MOST_ROUNDS", "is_number", "are_numbers", "is_fall", "is_run", "many_hands", "fall_of", "without_fall", "with_fall", "with_number", "is_up", "who_is_up", "comes", "keeps", "next_view", "views_of", "rounds_of", "own_past"]
def los1 : List Str := ["gather", "known", "least_known", "heard_of", "is_clean", "lacks_in", "lacking", "alike_to", "standing", "hushed", "without_later", "falls_of_round", "unseen", "put_off", "given_back", "healed_round", "healed", "LAST", "found_out", "waste_of", "closing_round", "is_open", "renumbered", "chain_of", "choice_by", "choices", "told_by", "torn_in", "halved", "broken"]
def los2 : List Str := ["plain", "soon", "sure", "waste_seen", "together", "FIGURES", "MOST_FIGURES", "read_number", "show_fall", "show_run", "read_fall", "read_run", "LETTERS", "RULES", "is_word", "is_figure", "is_written", "rule_by", "fits", "kinds_of", "shown_pairs", "shown_break", "Desk", "_law_cell_at", "_law_mixed", "_law_bit", "_law_number", "_law_reached", "_law_falls", "_law_run"]
def los3 : List Str := ["_law_text", "_law_rule", "_law_told", "_law_breaks", "_law_answered"]
def los : List Str := los0 ++ los1 ++ los2 ++ los3
abbrev R : PySem.W.OpenRow := PySem.W.OpenLaw.row PySem.Challenge.rw_roundfall_k77_whole_desk_breaks
/-! ### a Hook that looks at places written down -/
def obsL (as : List Addr) (fa : List He.Fa) (fn : List He.DefD) (tf : List He.Defn) (ex : PySem.W.Frag → Bool) (g : Addr → Option Obj) : He.AlX := (He.obsT fa fn [] (He.frT g as), ex (He.frT g as) && He.tabsB g tf (He.frT g as))
theorem says_of {as : List Addr} {fa : List He.Fa} {fn : List He.DefD} {tf : List He.Defn} {ex : PySem.W.Frag → Bool} {w : World} {h : Heap} (e : obsL as fa fn tf ex h.get? = He.valX fn [] w) : He.SaysX fa fn [] tf ex w h (He.frT h.get? as) := by
  obtain ⟨e1, e2⟩ := Prod.mk.inj e
  obtain ⟨h1, h2⟩ := Bool.and_eq_true_iff.mp e2
  have key := List.all_eq_true.mp h2
  refine ⟨e1, h1, fun p hp => (Bool.and_eq_true_iff.mp (key p hp)).1, fun p hp => ?_, fun p hp => ?_⟩
  all_goals
    have z := (Bool.and_eq_true_iff.mp (key p hp)).2
    cases q : h.get? (He.cT (He.frT h.get? as) p).2 with
    | none => rw [q] at z; cases z
    | some o =>
      rw [q] at z
      first
        | exact He.frT_none q z
        | rw [He.emptyTab_eq z]
def hookL (as : List Addr) (fa : List He.Fa) (fn : List He.DefD) (tf : List He.Defn) (ex : PySem.W.Frag → Bool) : PySem.W.Hook where
  α := He.AlX
  obs := fun s => obsL as fa fn tf ex s.heap.get?
  val := fun w => He.valX fn [] w
  says := fun w h => ∃ K : PySem.W.Frag, K.In h ∧ He.SaysX fa fn [] tf ex w h K
  of := fun _ _ e => ⟨_, He.frT_in, says_of e⟩
  keeps := fun _ _ _ ⟨K, hK, c⟩ k => ⟨K, PySem.W.Frag.In.keeps hK k, ⟨c.t, c.more, c.hd, c.out, fun p hp => k _ _ (c.empty p hp)⟩⟩
theorem obsL_eq {as : List Addr} {fa : List He.Fa} {fn : List He.DefD} {tf : List He.Defn} {ex : PySem.W.Frag → Bool} {g : Addr → Option Obj} {s : Shared} (h : ∀ a, g a = s.heap.get? a) : obsL as fa fn tf ex g = (hookL as fa fn tf ex).obs s := by
  rw [show g = s.heap.get? from funext h]
  rfl
def places : List Addr := [3, 21, 28, 35, 40, 132, 139, 146, 153, 160, 167, 172, 179, 186, 193, 198, 205, 212, 219, 224, 231, 238, 245, 252, 257, 262, 269, 276, 283, 293, 300, 307, 312, 317, 324, 331, 338, 345, 352, 359, 366, 373, 380, 387, 394, 406, 413, 420, 427, 434, 441, 448, 455, 462, 469, 474, 479, 484, 489, 490, 495, 502, 507, 514, 521, 528, 540, 590, 601, 608, 615, 622, 629, 636, 641, 646, 653, 660, 667, 672, 677, 20, 27, 34, 39, 131, 138, 145, 152, 159, 166, 171, 178, 185, 192, 197, 204, 211, 218, 223, 230, 237, 244, 251, 256, 261, 268, 275, 282, 292, 299, 306, 311, 316, 323, 330, 337, 344, 351, 358, 365, 372, 379, 386, 393, 405, 412, 419, 426, 433, 440, 447, 454, 461, 468, 473, 478, 483, 488, 494, 501, 506, 513, 520, 527, 539, 589, 600, 607, 614, 621, 628, 635, 640, 645, 652, 659, 666, 671, 676, 554, 561, 568, 580, 587, 553, 560, 567, 579, 586]
abbrev hk : PySem.W.Hook := hookL places fa fn tf ex
def ob (s : PySem.W.SharedT) : He.AlX := obsL places fa fn tf ex (HandSHeadRun.getT s)
theorem ob_eq (s : PySem.W.SharedT) : ob s = hk.obs s.abs := obsL_eq (HandSHeadRun.getT_eq s)
theorem run (w : World) : HandSHeadRun.RunEq R (PySem.W.view R.prog [110]) hk ob 20000 los w := by
  intro os
  kernel_rfl
end RF

set_option Elab.async false
set_option linter.all false
set_option maxRecDepth 100000
set_option maxHeartbeats 0
namespace RF
open PySem PySem.Spec PyProof.Rows L2 Evl RM RC TL LamX NdefX
section
variable {P : Program} {w : World} {K : PySem.W.Frag} {h : Heap} {mg : Str → Option Value}
theorem int_rel {x : Str} {i : Int} (h : ∃ t, mg x = some (.int i t)) : ∃ u, mg x = some u ∧ RelV (.int i) u := by
  obtain ⟨t, h⟩ := h
  exact ⟨_, h, t, rfl⟩
theorem str_rel {x z : Str} (h : ∃ t, mg x = some (.str z t)) : ∃ u, mg x = some u ∧ RelV (.str z) u := by
  obtain ⟨t, h⟩ := h
  exact ⟨_, h, t, rfl⟩
theorem atC_of {x : Str} {st : Stmt} {fd : FuncData} (hm : mg x = some (.ref (He.ga K x))) (F : FunD K x x (defArgs st) (defBody st) (defScope st) [] [] (He.ga K x) fd) : AtC K mg x st (He.codeOf K (x, none)) := by
  obtain ⟨oc, od, dV, kV, doc, pm, an, cdv, ct, osl, e, lk, hcd, _, _⟩ := F.ex
  obtain ⟨c, rfl⟩ := He.codeIn_ref hcd
  refine ⟨_, _, hm, F, ?_⟩
  have e2 : fd.code = .ref c := by rw [e]
  have e3 : He.codeOf K (x, none) = c := He.codeOf_eq (p := (x, none)) lk e2
  rw [e3]
  exact e2
theorem txt_of {base : Heap} (X : K.In h) (G : h.Ns mainGlobals mg) (c : He.SaysD fa fn K) (hR : ∀ H : Hp, SqL K H (He.ga K "RULES") [.str "plain", .str "soon", .str "sure", .str "together"]) : Txt P w K mg base where
    n_abs := He.free_ok X G (c.fact 80 (f := .free "abs") rfl)
    n_bool := He.free_ok X G (c.fact 81 (f := .free "bool") rfl)
    n_enumerate := He.free_ok X G (c.fact 82 (f := .free "enumerate") rfl)
    n_int := He.free_ok X G (c.fact 83 (f := .free "int") rfl)
    n_isinstance := He.free_ok X G (c.fact 84 (f := .free "isinstance") rfl)
    n_len := He.free_ok X G (c.fact 85 (f := .free "len") rfl)
    n_list := He.free_ok X G (c.fact 86 (f := .free "list") rfl)
    n_max := He.free_ok X G (c.fact 87 (f := .free "max") rfl)
    n_min := He.free_ok X G (c.fact 88 (f := .free "min") rfl)
    n_range := He.free_ok X G (c.fact 89 (f := .free "range") rfl)
    n_reversed := He.free_ok X G (c.fact 90 (f := .free "reversed") rfl)
    n_sorted := He.free_ok X G (c.fact 91 (f := .free "sorted") rfl)
    n_str := He.free_ok X G (c.fact 92 (f := .free "str") rfl)
    n_tuple := He.free_ok X G (c.fact 93 (f := .free "tuple") rfl)
    n_zip := He.free_ok X G (c.fact 94 (f := .free "zip") rfl)
    c_MOST_HANDS := int_rel (He.int_ok X G (c.fact 95 (f := .int "MOST_HANDS" 5) rfl))
    c_MOST_ROUNDS := int_rel (He.int_ok X G (c.fact 96 (f := .int "MOST_ROUNDS" 5) rfl))
    c_LAST := int_rel (He.int_ok X G (c.fact 97 (f := .int "LAST" 5) rfl))
    c_MOST_FIGURES := int_rel (He.int_ok X G (c.fact 98 (f := .int "MOST_FIGURES" 60) rfl))
    c_FIGURES := str_rel (He.str_ok X G (c.fact 99 (f := .str "FIGURES" "0123456789") rfl))
    c_LETTERS := str_rel (He.str_ok X G (c.fact 100 (f := .str "LETTERS" "abcdefghijklmnopqrstuvwxyz") rfl))
    c_RULES := ⟨_, He.glo_ok X G (c.fact 79 (f := .glo "RULES") rfl), rfl⟩
    rules := hR
    f_is_whole := ⟨_, _, He.glo_ok X G (c.fact 0 (f := .glo "is_whole") rfl), (c.def_ 0 (d := dF "is_whole" s_is_whole) rfl).choose_spec⟩
    f_has_hand := ⟨_, _, He.glo_ok X G (c.fact 1 (f := .glo "has_hand") rfl), (c.def_ 1 (d := dF "has_hand" s_has_hand) rfl).choose_spec⟩
    f_mask_of := ⟨_, _, He.glo_ok X G (c.fact 2 (f := .glo "mask_of") rfl), (c.def_ 2 (d := dF "mask_of" s_mask_of) rfl).choose_spec⟩
    f_hands_in := ⟨_, _, He.glo_ok X G (c.fact 3 (f := .glo "hands_in") rfl), (c.def_ 3 (d := dF "hands_in" s_hands_in) rfl).choose_spec⟩
    f_is_number := ⟨_, _, He.glo_ok X G (c.fact 4 (f := .glo "is_number") rfl), (c.def_ 4 (d := dF "is_number" s_is_number) rfl).choose_spec⟩
    f_are_numbers := ⟨_, _, He.glo_ok X G (c.fact 5 (f := .glo "are_numbers") rfl), (c.def_ 5 (d := dF "are_numbers" s_are_numbers) rfl).choose_spec⟩
    f_is_fall := ⟨_, _, He.glo_ok X G (c.fact 6 (f := .glo "is_fall") rfl), (c.def_ 6 (d := dF "is_fall" s_is_fall) rfl).choose_spec⟩
    f_is_run := ⟨_, _, He.glo_ok X G (c.fact 7 (f := .glo "is_run") rfl), (c.def_ 7 (d := dF "is_run" s_is_run) rfl).choose_spec⟩
    f_many_hands := ⟨_, _, He.glo_ok X G (c.fact 8 (f := .glo "many_hands") rfl), (c.def_ 8 (d := dF "many_hands" s_many_hands) rfl).choose_spec⟩
    f_fall_of := ⟨_, _, He.glo_ok X G (c.fact 9 (f := .glo "fall_of") rfl), (c.def_ 9 (d := dF "fall_of" s_fall_of) rfl).choose_spec⟩
    f_without_fall := ⟨_, _, He.glo_ok X G (c.fact 10 (f := .glo "without_fall") rfl), (c.def_ 10 (d := dF "without_fall" s_without_fall) rfl).choose_spec⟩
    f_with_fall := ⟨_, _, He.glo_ok X G (c.fact 11 (f := .glo "with_fall") rfl), (c.def_ 11 (d := dF "with_fall" s_with_fall) rfl).choose_spec⟩
    f_with_number := ⟨_, _, He.glo_ok X G (c.fact 12 (f := .glo "with_number") rfl), (c.def_ 12 (d := dF "with_number" s_with_number) rfl).choose_spec⟩
    f_is_up := ⟨_, _, He.glo_ok X G (c.fact 13 (f := .glo "is_up") rfl), (c.def_ 13 (d := dF "is_up" s_is_up) rfl).choose_spec⟩
    f_who_is_up := ⟨_, _, He.glo_ok X G (c.fact 14 (f := .glo "who_is_up") rfl), (c.def_ 14 (d := dF "who_is_up" s_who_is_up) rfl).choose_spec⟩
    f_comes := ⟨_, _, He.glo_ok X G (c.fact 15 (f := .glo "comes") rfl), (c.def_ 15 (d := dF "comes" s_comes) rfl).choose_spec⟩
    f_keeps := ⟨_, _, He.glo_ok X G (c.fact 16 (f := .glo "keeps") rfl), (c.def_ 16 (d := dF "keeps" s_keeps) rfl).choose_spec⟩
    f_next_view := ⟨_, _, He.glo_ok X G (c.fact 17 (f := .glo "next_view") rfl), (c.def_ 17 (d := dF "next_view" s_next_view) rfl).choose_spec⟩
    f_views_of := ⟨_, _, He.glo_ok X G (c.fact 18 (f := .glo "views_of") rfl), (c.def_ 18 (d := dF "views_of" s_views_of) rfl).choose_spec⟩
    f_rounds_of := ⟨_, _, He.glo_ok X G (c.fact 19 (f := .glo "rounds_of") rfl), (c.def_ 19 (d := dF "rounds_of" s_rounds_of) rfl).choose_spec⟩
    f_own_past := ⟨_, _, He.glo_ok X G (c.fact 20 (f := .glo "own_past") rfl), (c.def_ 20 (d := dF "own_past" s_own_past) rfl).choose_spec⟩
    f_gather := ⟨_, _, He.glo_ok X G (c.fact 21 (f := .glo "gather") rfl), (c.def_ 21 (d := dF "gather" s_gather) rfl).choose_spec⟩
    f_known := ⟨_, _, He.glo_ok X G (c.fact 22 (f := .glo "known") rfl), (c.def_ 22 (d := dF "known" s_known) rfl).choose_spec⟩
    f_least_known := ⟨_, _, He.glo_ok X G (c.fact 23 (f := .glo "least_known") rfl), (c.def_ 23 (d := dF "least_known" s_least_known) rfl).choose_spec⟩
    f_heard_of := ⟨_, _, He.glo_ok X G (c.fact 24 (f := .glo "heard_of") rfl), (c.def_ 24 (d := dF "heard_of" s_heard_of) rfl).choose_spec⟩
    f_is_clean := ⟨_, _, He.glo_ok X G (c.fact 25 (f := .glo "is_clean") rfl), (c.def_ 25 (d := dF "is_clean" s_is_clean) rfl).choose_spec⟩
    f_lacks_in := ⟨_, _, He.glo_ok X G (c.fact 26 (f := .glo "lacks_in") rfl), (c.def_ 26 (d := dF "lacks_in" s_lacks_in) rfl).choose_spec⟩
    f_lacking := ⟨_, _, He.glo_ok X G (c.fact 27 (f := .glo "lacking") rfl), (c.def_ 27 (d := dF "lacking" s_lacking) rfl).choose_spec⟩
    f_standing := ⟨_, _, He.glo_ok X G (c.fact 28 (f := .glo "standing") rfl), (c.def_ 28 (d := dF "standing" s_standing) rfl).choose_spec⟩
    f_hushed := ⟨_, _, He.glo_ok X G (c.fact 29 (f := .glo "hushed") rfl), (c.def_ 29 (d := dF "hushed" s_hushed) rfl).choose_spec⟩
    f_without_later := ⟨_, _, He.glo_ok X G (c.fact 30 (f := .glo "without_later") rfl), (c.def_ 30 (d := dF "without_later" s_without_later) rfl).choose_spec⟩
    f_falls_of_round := ⟨_, _, He.glo_ok X G (c.fact 31 (f := .glo "falls_of_round") rfl), (c.def_ 31 (d := dF "falls_of_round" s_falls_of_round) rfl).choose_spec⟩
    f_unseen := ⟨_, _, He.glo_ok X G (c.fact 32 (f := .glo "unseen") rfl), (c.def_ 32 (d := dF "unseen" s_unseen) rfl).choose_spec⟩
    f_put_off := ⟨_, _, He.glo_ok X G (c.fact 33 (f := .glo "put_off") rfl), (c.def_ 33 (d := dF "put_off" s_put_off) rfl).choose_spec⟩
    f_given_back := ⟨_, _, He.glo_ok X G (c.fact 34 (f := .glo "given_back") rfl), (c.def_ 34 (d := dF "given_back" s_given_back) rfl).choose_spec⟩
    f_healed_round := ⟨_, _, He.glo_ok X G (c.fact 35 (f := .glo "healed_round") rfl), (c.def_ 35 (d := dF "healed_round" s_healed_round) rfl).choose_spec⟩
    f_healed := ⟨_, _, He.glo_ok X G (c.fact 36 (f := .glo "healed") rfl), (c.def_ 36 (d := dF "healed" s_healed) rfl).choose_spec⟩
    f_found_out := ⟨_, _, He.glo_ok X G (c.fact 37 (f := .glo "found_out") rfl), (c.def_ 37 (d := dF "found_out" s_found_out) rfl).choose_spec⟩
    f_waste_of := ⟨_, _, He.glo_ok X G (c.fact 38 (f := .glo "waste_of") rfl), (c.def_ 38 (d := dF "waste_of" s_waste_of) rfl).choose_spec⟩
    f_closing_round := ⟨_, _, He.glo_ok X G (c.fact 39 (f := .glo "closing_round") rfl), (c.def_ 39 (d := dF "closing_round" s_closing_round) rfl).choose_spec⟩
    f_is_open := ⟨_, _, He.glo_ok X G (c.fact 40 (f := .glo "is_open") rfl), (c.def_ 40 (d := dF "is_open" s_is_open) rfl).choose_spec⟩
    f_renumbered := ⟨_, _, He.glo_ok X G (c.fact 41 (f := .glo "renumbered") rfl), (c.def_ 41 (d := dF "renumbered" s_renumbered) rfl).choose_spec⟩
    f_chain_of := ⟨_, _, He.glo_ok X G (c.fact 42 (f := .glo "chain_of") rfl), (c.def_ 42 (d := dF "chain_of" s_chain_of) rfl).choose_spec⟩
    f_choice_by := ⟨_, _, He.glo_ok X G (c.fact 43 (f := .glo "choice_by") rfl), (c.def_ 43 (d := dF "choice_by" s_choice_by) rfl).choose_spec⟩
    f_told_by := ⟨_, _, He.glo_ok X G (c.fact 44 (f := .glo "told_by") rfl), (c.def_ 44 (d := dF "told_by" s_told_by) rfl).choose_spec⟩
    f_torn_in := ⟨_, _, He.glo_ok X G (c.fact 45 (f := .glo "torn_in") rfl), (c.def_ 45 (d := dF "torn_in" s_torn_in) rfl).choose_spec⟩
    f_halved := ⟨_, _, He.glo_ok X G (c.fact 46 (f := .glo "halved") rfl), (c.def_ 46 (d := dF "halved" s_halved) rfl).choose_spec⟩
    f_broken := ⟨_, _, He.glo_ok X G (c.fact 47 (f := .glo "broken") rfl), (c.def_ 47 (d := dF "broken" s_broken) rfl).choose_spec⟩
    f_plain := ⟨_, _, He.glo_ok X G (c.fact 48 (f := .glo "plain") rfl), (c.def_ 48 (d := dF "plain" s_plain) rfl).choose_spec⟩
    f_soon := ⟨_, _, He.glo_ok X G (c.fact 49 (f := .glo "soon") rfl), (c.def_ 49 (d := dF "soon" s_soon) rfl).choose_spec⟩
    f_sure := ⟨_, _, He.glo_ok X G (c.fact 50 (f := .glo "sure") rfl), (c.def_ 50 (d := dF "sure" s_sure) rfl).choose_spec⟩
    f_waste_seen := ⟨_, _, He.glo_ok X G (c.fact 51 (f := .glo "waste_seen") rfl), (c.def_ 51 (d := dF "waste_seen" s_waste_seen) rfl).choose_spec⟩
    f_together := ⟨_, _, He.glo_ok X G (c.fact 52 (f := .glo "together") rfl), (c.def_ 52 (d := dF "together" s_together) rfl).choose_spec⟩
    f_read_number := ⟨_, _, He.glo_ok X G (c.fact 53 (f := .glo "read_number") rfl), (c.def_ 53 (d := dF "read_number" s_read_number) rfl).choose_spec⟩
    f_show_fall := ⟨_, _, He.glo_ok X G (c.fact 54 (f := .glo "show_fall") rfl), (c.def_ 54 (d := dF "show_fall" s_show_fall) rfl).choose_spec⟩
    f_show_run := ⟨_, _, He.glo_ok X G (c.fact 55 (f := .glo "show_run") rfl), (c.def_ 55 (d := dF "show_run" s_show_run) rfl).choose_spec⟩
    f_read_fall := ⟨_, _, He.glo_ok X G (c.fact 56 (f := .glo "read_fall") rfl), (c.def_ 56 (d := dF "read_fall" s_read_fall) rfl).choose_spec⟩
    f_read_run := ⟨_, _, He.glo_ok X G (c.fact 57 (f := .glo "read_run") rfl), (c.def_ 57 (d := dF "read_run" s_read_run) rfl).choose_spec⟩
    f_is_word := ⟨_, _, He.glo_ok X G (c.fact 58 (f := .glo "is_word") rfl), (c.def_ 58 (d := dF "is_word" s_is_word) rfl).choose_spec⟩
    f_is_figure := ⟨_, _, He.glo_ok X G (c.fact 59 (f := .glo "is_figure") rfl), (c.def_ 59 (d := dF "is_figure" s_is_figure) rfl).choose_spec⟩
    f_is_written := ⟨_, _, He.glo_ok X G (c.fact 60 (f := .glo "is_written") rfl), (c.def_ 60 (d := dF "is_written" s_is_written) rfl).choose_spec⟩
    f_rule_by := ⟨_, _, He.glo_ok X G (c.fact 61 (f := .glo "rule_by") rfl), (c.def_ 61 (d := dF "rule_by" s_rule_by) rfl).choose_spec⟩
    f_fits := ⟨_, _, He.glo_ok X G (c.fact 62 (f := .glo "fits") rfl), (c.def_ 62 (d := dF "fits" s_fits) rfl).choose_spec⟩
    f_kinds_of := ⟨_, _, He.glo_ok X G (c.fact 63 (f := .glo "kinds_of") rfl), (c.def_ 63 (d := dF "kinds_of" s_kinds_of) rfl).choose_spec⟩
    f_shown_break := ⟨_, _, He.glo_ok X G (c.fact 64 (f := .glo "shown_break") rfl), (c.def_ 64 (d := dF "shown_break" s_shown_break) rfl).choose_spec⟩
    f_law_cell_at := ⟨_, _, He.glo_ok X G (c.fact 65 (f := .glo "_law_cell_at") rfl), (c.def_ 65 (d := dF "_law_cell_at" s_law_cell_at) rfl).choose_spec⟩
    f_law_mixed := ⟨_, _, He.glo_ok X G (c.fact 66 (f := .glo "_law_mixed") rfl), (c.def_ 66 (d := dF "_law_mixed" s_law_mixed) rfl).choose_spec⟩
    f_law_bit := ⟨_, _, He.glo_ok X G (c.fact 67 (f := .glo "_law_bit") rfl), (c.def_ 67 (d := dF "_law_bit" s_law_bit) rfl).choose_spec⟩
    f_law_number := ⟨_, _, He.glo_ok X G (c.fact 68 (f := .glo "_law_number") rfl), (c.def_ 68 (d := dF "_law_number" s_law_number) rfl).choose_spec⟩
    f_law_reached := ⟨_, _, He.glo_ok X G (c.fact 69 (f := .glo "_law_reached") rfl), (c.def_ 69 (d := dF "_law_reached" s_law_reached) rfl).choose_spec⟩
    f_law_falls := ⟨_, _, He.glo_ok X G (c.fact 70 (f := .glo "_law_falls") rfl), (c.def_ 70 (d := dF "_law_falls" s_law_falls) rfl).choose_spec⟩
    f_law_run := ⟨_, _, He.glo_ok X G (c.fact 71 (f := .glo "_law_run") rfl), (c.def_ 71 (d := dF "_law_run" s_law_run) rfl).choose_spec⟩
    f_law_text := ⟨_, _, He.glo_ok X G (c.fact 72 (f := .glo "_law_text") rfl), (c.def_ 72 (d := dF "_law_text" s_law_text) rfl).choose_spec⟩
    f_law_rule := ⟨_, _, He.glo_ok X G (c.fact 73 (f := .glo "_law_rule") rfl), (c.def_ 73 (d := dF "_law_rule" s_law_rule) rfl).choose_spec⟩
    f_law_told := ⟨_, _, He.glo_ok X G (c.fact 74 (f := .glo "_law_told") rfl), (c.def_ 74 (d := dF "_law_told" s_law_told) rfl).choose_spec⟩
    f_law_breaks := ⟨_, _, He.glo_ok X G (c.fact 75 (f := .glo "_law_breaks") rfl), (c.def_ 75 (d := dF "_law_breaks" s_law_breaks) rfl).choose_spec⟩
    f_law_answered := ⟨_, _, He.glo_ok X G (c.fact 76 (f := .glo "_law_answered") rfl), (c.def_ 76 (d := dF "_law_answered" s_law_answered) rfl).choose_spec⟩
    f_law := ⟨_, _, He.glo_ok X G (c.fact 77 (f := .glo "law") rfl), (c.def_ 77 (d := dF "law" s_law) rfl).choose_spec⟩
    cl := He.cls_ok (c.fact 101 (f := .cls "Desk") rfl)
    noK := He.noat_ok (c.fact 102 (f := .noat "Desk" "kept_runs") rfl)
    mgD := He.glo_ok X G (c.fact 78 (f := .glo "Desk") rfl)
    f_desk_init := ⟨_, _, He.meth_ok (c.fact 108 (f := .meth "Desk" "__init__") rfl), (c.def_ 78 (d := dM "__init__" "Desk.__init__" s_desk_init) rfl).choose_spec⟩
    f_desk_run_of := ⟨_, _, He.meth_ok (c.fact 104 (f := .meth "Desk" "run_of") rfl), (c.def_ 79 (d := dM "run_of" "Desk.run_of" s_desk_run_of) rfl).choose_spec⟩
    f_desk_put_down := ⟨_, _, He.meth_ok (c.fact 105 (f := .meth "Desk" "put_down") rfl), (c.def_ 80 (d := dM "put_down" "Desk.put_down" s_desk_put_down) rfl).choose_spec⟩
    f_desk_played := ⟨_, _, He.meth_ok (c.fact 106 (f := .meth "Desk" "played") rfl), (c.def_ 81 (d := dM "played" "Desk.played" s_desk_played) rfl).choose_spec⟩
    f_desk_say := ⟨_, _, He.meth_ok (c.fact 107 (f := .meth "Desk" "say") rfl), (c.def_ 82 (d := dM "say" "Desk.say" s_desk_say) rfl).choose_spec⟩
    mkD := ⟨_, _, He.mkr_ok (c.fact 103 (f := .mkr "Desk") rfl), (c.def_ 78 (d := dM "__init__" "Desk.__init__" s_desk_init) rfl).choose_spec⟩
end
end RF
open PySem PySem.Spec PyProof.Rows L2
theorem PySem.Challenge.cw_roundfall_k77_whole_desk_breaks_holds : PySem.Challenge.rw_roundfall_k77_whole_desk_breaks.Holds := by
  w_on; o_law
  refine HandSHeadRun.head_any (r := RF.R) (q := PySem.W.view RF.R.prog [110]) (H := RF.hk) (ob := RF.ob) (M := 20000) (loose := RF.los) (d := HandSHeadRun.topDef RF.R.prog 110) (kwd := []) RF.ob_eq (by kernel_rfl) (fun s => by kernel_rfl) RF.run (by kernel_rfl) (by kernel_rfl) (by kernel_rfl) (by rfl)
    (by first | assumption | decide +kernel) (by decide +kernel) ⟨rfl, rfl, rfl, rfl, rfl, by decide +kernel⟩ ?hw ?hc
  case hw => w_witness2
  case hc =>
    refine LamX.walk_ofTsE (l := PySem.Challenge.rw_roundfall_k77_whole_desk_breaks) (n := 63) (k := 17) (x := "_law_script") (CX := fun _ => L2.CX0) rfl (by decide) (by kernel_rfl) ⟨rfl, by decide, by decide⟩ ?F (fun _ _ _ _ _ z => z)
    intro w mg fa h Y G hmg0
    obtain ⟨K, KX, c⟩ := Y
    have hmg : mg ("law" : PySem.Str) = some (.ref fa) := by
      have e : (HandSHeadRun.topDef RF.R.prog 110).name = ("law" : PySem.Str) := by kernel_rfl
      rw [← e]
      exact hmg0
    have cd := c.t.d
    obtain ⟨hRb, hm2⟩ := Bool.and_eq_true_iff.mp c.more
    obtain ⟨hne, hm3⟩ := Bool.and_eq_true_iff.mp hm2
    have hR : ∀ H : Hp, SqL K H (He.ga K "RULES") [.str "plain", .str "soon", .str "sure", .str "together"] := fun H => He.lstB_ok hRb H
    obtain ⟨fd, F⟩ := cd.def_ 77 (d := RF.dF "law" RF.s_law) rfl
    have e := hmg.symm.trans (He.glo_ok KX G (cd.fact 77 (f := .glo "law") rfl))
    cases e
    have b := FunD.bindsA (ps := ["_law_script"]) F fun _ _ _ _ _ _ us hl => match us, hl with | [_], _ => rfl
    have m1 : (("rule_by", none) : He.Defn) ∈ RF.tf := List.mem_cons_self
    have m2 : (("_law_rule", none) : He.Defn) ∈ RF.tf := List.mem_cons_of_mem _ List.mem_cons_self
    have hmem : ∀ p ∈ [He.cT K ("rule_by", none), He.cT K ("_law_rule", none)], ∃ q ∈ RF.tf, p = He.cT K q := fun p hp => by
      rcases List.mem_cons.mp hp with z | z
      · exact ⟨_, m1, z⟩
      · exact ⟨_, m2, List.mem_singleton.mp z⟩
    refine ⟨K, KX, fd, [He.cT K ("rule_by", none), He.cT K ("_law_rule", none)], RF.sp_law K (He.cT K ("rule_by", none)).2 (He.cT K ("_law_rule", none)).2, fun p hp => ?_, fun p hp => ?_, fun p hp => ?_, fun s v => b s [v] rfl, fun H a ns hl _ ht hS => ?_, fun base KB GB ht => ?_⟩
    · obtain ⟨q, hq, rfl⟩ := hmem p hp
      exact c.empty q hq
    · obtain ⟨q, hq, rfl⟩ := hmem p hp
      exact c.out q hq
    · obtain ⟨q, hq, rfl⟩ := hmem p hp
      exact PySem.W.codeHd_of_K KX (c.hd q hq)
    · refine ⟨a, ns, rfl, hS, fun p hp => ?_, fun _ => rfl⟩
      rcases List.mem_cons.mp hp with z | z
      · rw [z]
        exact NdefX.TabN.nil (ht _ List.mem_cons_self)
      · rw [List.mem_singleton.mp z]
        exact NdefX.TabN.nil (ht _ (List.mem_cons_of_mem _ List.mem_cons_self))
    · refine RF.fn_law (c1 := (He.cT K ("rule_by", none)).1) (c2 := (He.cT K ("_law_rule", none)).1) ⟨RF.atC_of (He.glo_ok KX G (cd.fact 61 (f := .glo "rule_by") rfl)) (cd.def_ 61 (d := RF.dF "rule_by" RF.s_rule_by) rfl).choose_spec, RF.atC_of (He.glo_ok KX G (cd.fact 73 (f := .glo "_law_rule") rfl)) (cd.def_ 73 (d := RF.dF "_law_rule" RF.s_law_rule) rfl).choose_spec, ht _ List.mem_cons_self, ht _ (List.mem_cons_of_mem _ List.mem_cons_self), of_decide_eq_true hne⟩ (RF.txt_of KX G cd hR) F
